/-
  Plain words for numbers, strings and sums: what the functions of chapter 1 compute. No program in sight.
  Plain words: patches, padding, values of fields. No program in sight.
  The small functions of package bytes and of the helpers: within, unless, first, stringErr, countErr, limit. Each returns what its plain function says, and memory is as it was.
  Laws of my own over any program: append of one element, append of what a slice reads as, copies of owned rows.
  Regions that draw their order: what comes first only reads and calls functions that keep all old memory; what stands last (a store, a new slice, a call on it) comes last in whatever order. One walk in the order of the text serves all orders.
  Regions that draw their order, among whose operations one lays a new block whenever it likes ('x := f(..)', x in a block of its own): whatever comes first only reads and calls functions that keep all old memory; what stands behind the new block comes last, in order. One walk serves all orders.
-/
import Derived.Below
import Derived.RowKit
import Derived.Laws.BitsLemmas
import Derived.Lib.Hide
import Derived.Deep.Draws
import Derived.Lib.Repeat
import Derived.Test.YtanicpgmbhfipaaGreatDoorChecked
import Derived.WalkKit
import Derived.WalkLawsBesides
import Derived.WalkSpells
import Derived.Deep.QuietTactic
import Derived.BigQuiet
import Derived.Deep.DeepFit
import Derived.Maps.AppendAt
import Derived.OwnWalk
import Derived.StillTail
import Derived.Lib.QuietBelow
namespace Go.Proofs.YtanicpgmbhfipaaGreatDoor
open Go.RowKit
theorem retB {a b : Bool} (h : a = b) : Ending.returned (.bool a) = .returned (.bool b) := by rw [h]
theorem retII {k l : IntKind} {a b c d : Int} (h : a = b) (h' : c = d) : Ending.returned (.tuple #[.int k a, .int l c]) = .returned (.tuple #[.int k b, .int l d]) := by rw [h, h']
def inB (n lo hi : Int) : Bool := decide (lo ≤ n) && decide (n ≤ hi)
theorem inB_true {n lo hi : Int} : inB n lo hi = true ↔ lo ≤ n ∧ n ≤ hi := by simp [inB]
def unl (ok : Bool) (e : Int) : Int := if ok then 0 else e
theorem unl_true (e : Int) : unl true e = 0 := rfl
def firstE : List Int → Int
 | [] => 0
 | e :: l => if e = 0 then firstE l else e
abbrev bl (s : ByteArray) : List UInt8 := s.data.toList
def bs (l : List UInt8) : ByteArray := ⟨l.toArray⟩
theorem bs_bl (s : ByteArray) : bs (bl s) = s := rfl
theorem bl_inj {s t : ByteArray} (h : bl s = bl t) : s = t := by rw [← bs_bl s, h, bs_bl]
def lit (n : Int) : Nat → List UInt8
 | 0 => []
 | c + 1 => UInt8.ofNat (n % 256).toNat :: lit (n / 256) c
theorem wraps_i64 (j : Nat) (hj : j ≤ 63) (n : Int) (h₀ : 0 ≤ n) (h₁ : n < 2 ^ j) : IntKind.i64.wrap n = n := by
 have h2 : (2 : Int) ^ j ≤ 2 ^ 63 := by
  have : (2 : Nat) ^ j ≤ 2 ^ 63 := Nat.pow_le_pow_right (by decide) hj
  exact_mod_cast this
 have h3 : (2 : Int) ^ 63 = 9223372036854775808 := by decide
 rw [IntKind.wrap_i64]; omega
def byteV (b : UInt8) : Value := .int .u8 b.toNat
theorem bel_drewN {a w : World} (h : Below a.heap.size a w) (n : Nat) : Below a.heap.size a (w.drewN n) := ⟨h.os, h.tape, h.output, h.size, h.block⟩
theorem bel_alloc {a w : World} (h : Below a.heap.size a w) (o : Obj) : Below a.heap.size a (w.alloc o) := h.alloc h.size o
theorem bel_trans {a b c : World} (h : Below a.heap.size a b) (k : Below b.heap.size b c) : Below a.heap.size a c := h.trans (k.mono h.size)
def Rd (w : World) (B : Nat) (A : Option Addr) (xs : List Value) : Prop := ∀ j u, xs[j]? = some u → ∃ b o, A = some ⟨b, o, none⟩ ∧ b < B ∧ w.cell? ⟨b, o + j, none⟩ = some u
theorem Rd.below {w w' : World} {B : Nat} {A : Option Addr} {xs : List Value} (h : Rd w B A xs) (hb : Below B w w') : Rd w' B A xs := fun j u hj => by
 obtain ⟨b, o, hA, hB, hc⟩ := h j u hj
 exact ⟨b, o, hA, hB, (hb.cell (p := ⟨b, o + j, none⟩) hB).trans hc⟩
theorem Rd.mono {w : World} {B B' : Nat} {A : Option Addr} {xs : List Value} (h : Rd w B A xs) (hB : B ≤ B') : Rd w B' A xs := fun j u hj => by
 obtain ⟨b, o, hA, hb, hc⟩ := h j u hj
 exact ⟨b, o, hA, by omega, hc⟩
theorem Rd.below' {w w' : World} {A : Option Addr} {xs : List Value} (h : Rd w w.heap.size A xs) (hb : Below w.heap.size w w') : Rd w' w'.heap.size A xs := (h.below hb).mono hb.size
theorem Rd.nil (w : World) (B : Nat) (A : Option Addr) : Rd w B A [] := fun j u hj => by simp at hj
theorem Rd.opened {w : World} {B : Nat} {A : Option Addr} {xs : List Value} (h : Rd w B A xs) (hne : 0 < xs.length) :
 ∃ b o, A = some ⟨b, o, none⟩ ∧ b < B ∧ ∀ j u, xs[j]? = some u → w.cell? ⟨b, o + j, none⟩ = some u := by
 obtain ⟨b, o, hA, hB, _⟩ := h 0 xs[0] (List.getElem?_eq_getElem hne)
 refine ⟨b, o, hA, hB, fun j u hj => ?_⟩
 obtain ⟨b', o', hA', _, hc⟩ := h j u hj
 rw [hA] at hA'
 injection hA' with e
 injection e with e1 e2
 subst e1 e2
 exact hc
theorem Rd.of_own {w : World} {base : Nat} {e : TypeId} {size n c : Nat} {A : Option Addr} {xs : List Value} (h : w.ownsRow base e size (.slice A n c) n xs) : Rd w w.heap.size A xs := fun j u hj => by
 have hl := h.1
 have hj' : j < xs.length := (List.getElem?_eq_some_iff.1 hj).1
 rcases h.2 with ⟨h', h0⟩ | ⟨g, cap, cur, h', _, hg, _⟩
 · rw [h0] at hl; omega
 · injection h' with h1 h2 h3
   subst h1 h3
   refine ⟨g, 0, rfl, ?_, ?_⟩
   · rcases Nat.lt_or_ge g w.heap.size with h4 | h4
     · exact h4
     · rw [Array.getElem?_eq_none h4] at hg; cases hg
   · rw [Nat.zero_add, h.cellAt j (by omega)]; exact hj
def eachE {α : Type} (f : Nat → α → Int) : Nat → List α → Int × Int
 | _, [] => (0, 0)
 | i, x :: l => if f i x = 0 then eachE f (i + 1) l else (i, f i x)
theorem eachE_zero {α : Type} (f : Nat → α → Int) : ∀ (l : List α) (i : Nat), (eachE f i l).2 = 0 → ∀ j (h : j < l.length), f (i + j) l[j] = 0
 | [], _, _, j, h => absurd h (by simp)
 | x :: l, i, h0, j, h => by
  unfold eachE at h0
  split at h0
  · rename_i hx
    cases j with
    | zero => exact hx
    | succ j =>
     have := eachE_zero f l (i + 1) h0 j (by simpa using h)
     rw [show i + (j + 1) = i + 1 + j by omega]
     exact this
  · rename_i hx
    exact absurd h0 hx
end Go.Proofs.YtanicpgmbhfipaaGreatDoor
namespace Go.Proofs.YtanicpgmbhfipaaGreatDoor
set_option linter.unusedVariables false
set_option linter.unusedSimpArgs false
open Go.RowKit
end Go.Proofs.YtanicpgmbhfipaaGreatDoor
namespace Go.Proofs.YtanicpgmbhfipaaGreatDoor
open Go.RowKit
theorem access_within_any (n lo hi : Int) (w : World) :
 Calls Tryz.prog 88 #[.int .i64 n, .int .i64 lo, .int .i64 hi] w fun e w' => e = .returned (.bool (inB n lo hi)) ∧ w = w' := by
 by_cases h : lo ≤ n
 · go_enter Tryz.func88, Tryz.ntmps88
   go_wp2
   go_ret
   exact ⟨by simp [inB, h], rfl⟩
 · go_enter Tryz.func88, Tryz.ntmps88
   go_wp2
   go_ret
   exact ⟨by simp [inB]; omega, rfl⟩
theorem acl_within_any (n lo hi : Int) (w : World) :
 Calls Tryz.prog 125 #[.int .i64 n, .int .i64 lo, .int .i64 hi] w fun e w' => e = .returned (.bool (inB n lo hi)) ∧ w = w' := by
 by_cases h : lo ≤ n
 · go_enter Tryz.func125, Tryz.ntmps125
   go_wp2
   go_ret
   exact ⟨by simp [inB, h], rfl⟩
 · go_enter Tryz.func125, Tryz.ntmps125
   go_wp2
   go_ret
   exact ⟨by simp [inB]; omega, rfl⟩
theorem access_unless_any (ok : Bool) (e : Int) (w : World) :
 Calls Tryz.prog 59 #[.bool ok, .int .i64 e] w fun e' w' => e' = .returned (.int .i64 (unl ok e)) ∧ w = w' := by
 cases ok
 · go_enter Tryz.func59, Tryz.ntmps59
   go_wp2
   go_ret
   exact ⟨rfl, rfl⟩
 · go_enter Tryz.func59, Tryz.ntmps59
   go_wp2
   go_ret
   exact ⟨rfl, rfl⟩
theorem acl_unless_any (ok : Bool) (e : Int) (w : World) :
 Calls Tryz.prog 110 #[.bool ok, .int .i64 e] w fun e' w' => e' = .returned (.int .i64 (unl ok e)) ∧ w = w' := by
 cases ok
 · go_enter Tryz.func110, Tryz.ntmps110
   go_wp2
   go_ret
   exact ⟨rfl, rfl⟩
 · go_enter Tryz.func110, Tryz.ntmps110
   go_wp2
   go_ret
   exact ⟨rfl, rfl⟩
theorem access_first_any (b o : Nat) (es : List Int) (w : World) (hlen : es.length ≤ 100)
 (hc : ∀ k (_ : k < es.length), w.cell? ⟨b, o + k, none⟩ = some (.int .i64 es[k])) :
 Calls Tryz.prog 51 #[.slice (some ⟨b, o, none⟩) es.length es.length] w fun e w' => e = .returned (.int .i64 (firstE es)) ∧ w = w' := by
 go_enter Tryz.func51, Tryz.ntmps51
 go_wp2
 go_loop [7] (fun i => ∃ k : Nat, k ≤ es.length ∧ i = .int .i64 k ∧ firstE es = firstE (es.drop k)) (fun i => es.length - (intOf i).toNat)
 case atStart => exact ⟨0, Nat.zero_le _, rfl, rfl⟩
 case round =>
  obtain ⟨k, hk, rfl, hf⟩ := hrel
  have HF := Lib.hid hf
  clear hf
  by_cases hlt : k < es.length
  · have hck := hc k hlt
    have hd : es.drop k = es[k] :: es.drop (k + 1) := List.drop_eq_getElem_cons hlt
    have HD := Lib.hid hd
    clear hd hc
    by_cases h0 : es[k] = 0
    · have h0' : (es[k] != 0) = false := by simp [h0]
      have H0 := Lib.hid h0
      clear h0
      go_wp2
      go_round
      case rel => exact ⟨k + 1, by omega, by go_num, by rw [HF.out, HD.out]; simp [firstE, H0.out]⟩
      case measure => simp [intOf]; omega
    · have h0' : (es[k] != 0) = true := by simp [h0]
      have H0 := Lib.hid h0
      clear h0
      go_wp2
      go_ret
      exact ⟨by rw [HF.out, HD.out]; simp [firstE, H0.out], rfl⟩
  · go_wp2
    go_ret
    exact ⟨by rw [HF.out, List.drop_of_length_le (by omega)]; rfl, rfl⟩
theorem acl_first_any (b o : Nat) (es : List Int) (w : World) (hlen : es.length ≤ 100)
 (hc : ∀ k (_ : k < es.length), w.cell? ⟨b, o + k, none⟩ = some (.int .i64 es[k])) :
 Calls Tryz.prog 103 #[.slice (some ⟨b, o, none⟩) es.length es.length] w fun e w' => e = .returned (.int .i64 (firstE es)) ∧ w = w' := by
 go_enter Tryz.func103, Tryz.ntmps103
 go_wp2
 go_loop [7] (fun i => ∃ k : Nat, k ≤ es.length ∧ i = .int .i64 k ∧ firstE es = firstE (es.drop k)) (fun i => es.length - (intOf i).toNat)
 case atStart => exact ⟨0, Nat.zero_le _, rfl, rfl⟩
 case round =>
  obtain ⟨k, hk, rfl, hf⟩ := hrel
  have HF := Lib.hid hf
  clear hf
  by_cases hlt : k < es.length
  · have hck := hc k hlt
    have hd : es.drop k = es[k] :: es.drop (k + 1) := List.drop_eq_getElem_cons hlt
    have HD := Lib.hid hd
    clear hd hc
    by_cases h0 : es[k] = 0
    · have h0' : (es[k] != 0) = false := by simp [h0]
      have H0 := Lib.hid h0
      clear h0
      go_wp2
      go_round
      case rel => exact ⟨k + 1, by omega, by go_num, by rw [HF.out, HD.out]; simp [firstE, H0.out]⟩
      case measure => simp [intOf]; omega
    · have h0' : (es[k] != 0) = true := by simp [h0]
      have H0 := Lib.hid h0
      clear h0
      go_wp2
      go_ret
      exact ⟨by rw [HF.out, HD.out]; simp [firstE, H0.out], rfl⟩
  · go_wp2
    go_ret
    exact ⟨by rw [HF.out, List.drop_of_length_le (by omega)]; rfl, rfl⟩
theorem bcell {W w1 : World} (hb : Below W.heap.size W w1) : (∀ b o, b < W.heap.size → w1.cell? ⟨b, o, none⟩ = W.cell? ⟨b, o, none⟩) ∧ (∀ b o, b < W.heap.size → w1.frozen? ⟨b, o, none⟩ = W.frozen? ⟨b, o, none⟩) :=
 ⟨fun b o h => hb.cell (p := ⟨b, o, none⟩) h, fun b o h => hb.frozen (p := ⟨b, o, none⟩) h⟩
theorem access_first_list (es : List Int) (w : World) (hlen : es.length ≤ 100) :
 Calls Tryz.prog 51 #[.slice (some ⟨w.heap.size, 0, none⟩) es.length es.length] (w.alloc (.cells (es.map (Value.int .i64)).toArray 30)) fun e w' => e = .returned (.int .i64 (firstE es)) ∧ w.alloc (.cells (es.map (Value.int .i64)).toArray 30) = w' :=
 access_first_any _ _ es _ hlen fun k hk => by simp [hk]
theorem acl_first_list (es : List Int) (w : World) (hlen : es.length ≤ 100) :
 Calls Tryz.prog 103 #[.slice (some ⟨w.heap.size, 0, none⟩) es.length es.length] (w.alloc (.cells (es.map (Value.int .i64)).toArray 30)) fun e w' => e = .returned (.int .i64 (firstE es)) ∧ w.alloc (.cells (es.map (Value.int .i64)).toArray 30) = w' :=
 acl_first_any _ _ es _ hlen fun k hk => by simp [hk]
theorem Within_any (n lo hi : Int) (w : World) :
 Calls Tryz.prog 58 #[.int .i64 n, .int .i64 lo, .int .i64 hi] w fun e w' => e = .returned (.bool (inB n lo hi)) ∧ w = w' := by
 by_cases h : lo ≤ n
 · go_enter Tryz.func58, Tryz.ntmps58
   go_wp2
   go_ret
   exact ⟨by simp [inB, h], rfl⟩
 · go_enter Tryz.func58, Tryz.ntmps58
   go_wp2
   go_ret
   exact ⟨by simp [inB]; omega, rfl⟩
end Go.Proofs.YtanicpgmbhfipaaGreatDoor
namespace Go.Proofs.YtanicpgmbhfipaaGreatDoor
open Go.RowKit
section
variable {P : Program} {ops : Array Oper} {rest : List Oper} {o : Oper} {a : Act} {Q : Exit → Act → World → Prop}
theorem run_append_rd (w : World) (base : Nat) (t ty e : TypeId) (i : TypeInfo) (z : Value) (size bytes : Nat) (ht : P.underlying t = some (.slice e)) (hi : P.info? e = some i) (hz : i.zero = some z)
 (hsize : i.size = size) (hby : i.bytes = bytes) (hzs : z.cells.size = size) (hsz : 0 < size)
 (v : Value) (n : Nat) (xs : List Value) (hown : w.ownsRow base e size v n xs)
 (B : Nat) (A : Option Addr) (m c : Nat) (news : List Value) (hl : news.length = m * size) (hr : Rd w B A news) (h1 : ∀ u ∈ news, u.oneCell' = true)
 (h63 : n + m ≤ maxLen) (hbytes : (n + m) * bytes ≤ 140737488355328) (hbase : base ≤ w.heap.size) :
 ∃ v' w', (Builtin.append_ #[t, t] ty #[v, .slice A m c]).run P w = .ok v' w' ∧ w'.ownsRow base e size v' (n + m) (xs ++ news) ∧ w.grownBy w' v.ownBlock ∧
  (v'.ownBlock = v.ownBlock ∨ v'.ownBlock = some w.heap.size) := by
 rcases A with _ | ad
 · have hm : news = [] := by
    rcases news with _ | ⟨u, l⟩
    · rfl
    · obtain ⟨b, o, h, _⟩ := hr 0 u rfl
      cases h
   subst hm
   have hm0 : m = 0 := by
    rcases Nat.eq_zero_or_pos m with h | h
    · exact h
    · have := Nat.mul_pos h hsz
      simp at hl
      omega
   subst hm0
   refine ⟨v, w, ?_, by simpa using hown, World.grownBy.refl w _, .inl rfl⟩
   rcases hown.2 with ⟨rfl, rfl⟩ | ⟨g, cap, cur, rfl, _, _, hnc, _⟩
   · simp [Builtin.append_, run_underlying ht, sizeOf, typeInfo, hi, Builtin.lenOf, Builtin.firstCells]
   · simp [Builtin.append_, run_underlying ht, sizeOf, typeInfo, hi, Builtin.lenOf, Builtin.firstCells, hnc, storeCells]
 · have hcells : ∀ j u, news[j]? = some u → w.cell? (ad.add j) = some u := fun j u hj => by
    obtain ⟨b, o, h, _, hc⟩ := hr j u hj
    injection h with h
    subst h
    have : (⟨b, o, none⟩ : Addr).add j = ⟨b, o + j, none⟩ := by unfold Addr.add; split <;> simp_all
    rw [this]
    exact hc
   obtain ⟨v', w', hrun, h2, h3, _, h5⟩ := run_append_own_at (P := P) w base t ty e i z size bytes ht hi hz hsize hby hzs hsz v n xs hown ad m c news hl hcells h1 h63 hbytes hbase
   exact ⟨v', w', hrun, h2, h3, h5⟩
theorem wpList_append_rd (w : World) (hgd : o.guard = none) (s x : Operand) (t : TypeId)
 (ho : o.op = .call { callee := .builtin .append, args := #[s, x], argTypes := #[t, t] })
 (base : Nat) (e : TypeId) (i : TypeInfo) (z : Value) (size bytes : Nat) (ht : P.underlying t = some (.slice e)) (hi : P.info? e = some i) (hz : i.zero = some z)
 (hsize : i.size = size) (hby : i.bytes = bytes) (hzs : z.cells.size = size) (hsz : 0 < size)
 (v : Value) (n : Nat) (xs : List Value) (hs : a.eval s = v) (hown : w.ownsRow base e size v n xs)
 (B : Nat) (A : Option Addr) (m c : Nat) (news : List Value) (hx : a.eval x = .slice A m c) (hl : news.length = m * size) (hr : Rd w B A news) (h1 : ∀ u ∈ news, u.oneCell' = true)
 (h63 : n + m ≤ maxLen) (hbytes : (n + m) * bytes ≤ 140737488355328) (hbase : base ≤ w.heap.size)
 (h : ∀ v' w', w'.ownsRow base e size v' (n + m) (xs ++ news) → w.grownBy w' v.ownBlock → (v'.ownBlock = v.ownBlock ∨ v'.ownBlock = some w.heap.size) →
  Below base w w' → wpList P ops Q rest (a.put o.dst v') w') : wpList P ops Q (o :: rest) a w := by
 refine wpList_plain hgd fun K hK => ?_
 obtain ⟨v', w', hrun, h2, h3, h5⟩ := run_append_rd (P := P) w base t o.type e i z size bytes ht hi hz hsize hby hzs hsz v n xs hown B A m c news hl hr h1 h63 hbytes hbase
 unfold Oper.wp execOp
 simp only [ho, resolve, invoke, builtin, Sem.run_bind, Sem.run_pure, Result.andThen_ok, List.map_toArray, List.map_cons, List.map_nil, hs, hx, hrun]
 exact hK _ _ (h v' w' h2 h3 h5 ((Below.refl _ _).grown h3 hbase (fun g hg => (hown.lt g hg).1)))
end
theorem ownsRow_form {w : World} {base : Nat} {e : TypeId} {size n : Nat} {v : Value} {xs : List Value} (h : w.ownsRow base e size v n xs) : ∃ A c, v = .slice A n c ∧ Rd w w.heap.size A xs := by
 rcases h.2 with ⟨rfl, rfl⟩ | ⟨g, cap, cur, rfl, _⟩
 · exact ⟨none, 0, rfl, Rd.of_own h⟩
 · exact ⟨_, cap, rfl, Rd.of_own h⟩
theorem ownsRow_mono {w : World} {base base' : Nat} {e : TypeId} {size n : Nat} {v : Value} {xs : List Value} (h : w.ownsRow base e size v n xs) (hb : base' ≤ base) : w.ownsRow base' e size v n xs := by
 refine ⟨h.1, ?_⟩
 rcases h.2 with h' | ⟨g, cap, cur, h1, h2, h3⟩
 · exact .inl h'
 · exact .inr ⟨g, cap, cur, h1, by omega, h3⟩
theorem ownsRow_below {w w' : World} {base : Nat} {e : TypeId} {size n : Nat} {v : Value} {xs : List Value} (h : w.ownsRow base e size v n xs) (hb : Below w.heap.size w w') : w'.ownsRow base e size v n xs := by
 refine ⟨h.1, ?_⟩
 rcases h.2 with h' | ⟨g, cap, cur, h1, h2, h3, h4⟩
 · exact .inl h'
 · refine .inr ⟨g, cap, cur, h1, h2, ?_, h4⟩
   have : g < w.heap.size := by
    rcases Nat.lt_or_ge g w.heap.size with h5 | h5
    · exact h5
    · rw [Array.getElem?_eq_none h5] at h3; cases h3
   rw [hb.block g this]
   exact h3
end Go.Proofs.YtanicpgmbhfipaaGreatDoor
namespace Go.Proofs.YtanicpgmbhfipaaGreatDoor
open Go.RowKit Go.Sort
section
variable {P : Program} {ops : Array Oper} {md : Region.Mode} {C : World → Prop}
end
theorem below_of_reg {w w' : World} (h : ∃ p : Regrown, w' = grow (redrawn w p.d) p.os) : Below w.heap.size w w' := by
 obtain ⟨p, rfl⟩ := h
 exact below_regrown _ _ _
@[go_sem] theorem cell?_reg (w : World) (d : Nat) (os : Array Obj) (b o : Nat) (h : b < w.heap.size) : (grow (redrawn w d) os).cell? ⟨b, o, none⟩ = w.cell? ⟨b, o, none⟩ :=
 (below_regrown w d os).cell (p := ⟨b, o, none⟩) h
theorem Calls.reg_pure {P : Program} {f : FuncId} {args : Array Value} {w : World} {d : Nat} {os : Array Obj} {v : Value}
 (h : Calls P f args (grow (redrawn w d) os) fun e w' => e = .returned v ∧ grow (redrawn w d) os = w') : Calls P f args (grow (redrawn w d) os) fun e w'' => e = .returned v ∧ ∃ p : Regrown, w'' = grow (redrawn w p.d) p.os :=
 h.mono fun _ _ ⟨he, hw⟩ => ⟨he, ⟨d, os⟩, hw.symm⟩
end Go.Proofs.YtanicpgmbhfipaaGreatDoor
namespace Go.Proofs.YtanicpgmbhfipaaGreatDoor
open Go.RowKit Go.Sort
section
variable {P : Program} {ops : Array Oper} {md : Region.Mode} {w : World}
def Grows (P : Program) (w : World) (s : Sem Next) (v : Value) : Prop := ∀ X, Below w.heap.size w X → Oper.quietUpon P (fun X' => Below X.heap.size X X') X v (s.run P X)
def YieldsG (P : Program) (ops : Array Oper) (w : World) (o : Oper) (v : Value) (a : Act) : Prop :=
 (Region.wanted o (yielded ops a.tmps) = true ∧ Grows P w (execOp a.eval o) v) ∨ (Region.wanted o (yielded ops a.tmps) = false ∧ v = undef)
theorem YieldsG.of_same {o : Oper} {v : Value} {a a' : Act} (hy : YieldsG P ops w o v a) (he : execOp a'.eval o = execOp a.eval o)
 (hw : Region.wanted o (yielded ops a'.tmps) = Region.wanted o (yielded ops a.tmps)) : YieldsG P ops w o v a' := by
 unfold YieldsG at *
 rw [he, hw]
 exact hy
section
variable {m g na : Nat} {oa : Oper} {obj : Obj} {L : Array Bool → Act → Prop} {Q : Exit → Act → World → Prop}
end
def dstsB : List Oper → Nat → Bool
 | [], _ => true
 | o :: l, k => (match o.dst with | some d => decide (d < k) && !(l.any fun o' => o'.dst == some d) | none => false) && dstsB l k
theorem quiet_slot {C : World → Prop} {afin : Act} {d : Tmp} : ∀ (l : List Oper) (a : Act), (∀ o ∈ l, o.dst ≠ some d) → wpQuiet P ops C (fun a' => a' = afin) l a → a.tmps[d]? = afin.tmps[d]?
 | [], a, _, h => by rw [show a = afin from h]
 | o :: l, a, hd, h => by
  have hput : ∀ v, (a.put o.dst v).tmps[d]? = a.tmps[d]? := fun v => by
   have := hd o (List.mem_cons_self ..)
   unfold Act.put
   split
   · rename_i t ht
     exact Array.getElem?_setIfInBounds_ne (fun e => this (by rw [ht, e]))
   · rfl
  unfold wpQuiet at h
  split at h
  · obtain ⟨v, _, h2⟩ := h
    rw [← hput v]
    exact quiet_slot l _ (fun o ho => hd o (List.mem_cons_of_mem _ ho)) h2
  · rw [← hput undef]
    exact quiet_slot l _ (fun o ho => hd o (List.mem_cons_of_mem _ ho)) h
theorem quietUpon_mono {C C' : World → Prop} {X : World} {v : Value} {r : Result Next} (h : ∀ W, C W → C' W) (hr : Oper.quietUpon P C X v r) : Oper.quietUpon P C' X v r := by
 cases r with
 | ok n w' =>
  cases n <;> simp only [Oper.quietUpon] at hr ⊢
  case value u => exact hr
  case skip => exact hr
  case enter f args => exact ⟨hr.1, hr.2.mono fun e w'' ⟨h1, h2⟩ => ⟨h1, h _ h2⟩⟩
 | halt x w' => exact hr
end
end Go.Proofs.YtanicpgmbhfipaaGreatDoor
