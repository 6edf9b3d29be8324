/-
  Chapter 22: the reference's plan, and the order of undoing.
  Chapter 22: the reference's order of undoing; rows that are told by what can be read of them.
-/
import Derived.Test.YtcfdpfmchchkaaaGreatDoorRcP0
import Derived.Test.YtcfdpfmchchkaaaGreatDoorRc30
namespace Go.Proofs.YtcfdpfmchchkaaaGreatDoor
set_option maxHeartbeats 1000000
set_option maxRecDepth 4000
set_option linter.unusedVariables false
set_option linter.unusedSimpArgs false
open Go.RowKit Go.Sort Go.Shelf
structure PlnS where
 U:List Int
 s:List Stp
 A:Option Addr
 c:Nat
open Go.RowKit Go.Sort Go.Shelf
def TelI {ι:Type} (φ:ι→Value) (R:ι→World→Prop) (v:Value) (X:World):Prop:=∃i,v=φ i∧R i X
theorem TelI.stable {ι:Type} {φ:ι→Value} {R:ι→World→Prop} (hR:∀i X X',R i X→Below X.heap.size X X'→R i X') (v:Value) (X X':World) (h:TelI φ R v X) (hb:Below X.heap.size X X'):TelI φ R v X':=by
 obtain⟨i,h1,h2⟩:=h;exact⟨i,h1,hR i X X' h2 hb⟩
theorem pB {A:Option Addr} {xs:List Value} {X X':World} (h:Rd X X.heap.size A xs) (hb:Below X.heap.size X X'):Rd X' X'.heap.size A xs:=h.below' hb
def RdN (n:Nat) (xs:List Value) (i:Option Addr × Nat) (X:World):Prop:=n≤i.2∧Rd X X.heap.size i.1 xs
theorem RdN.grow {n:Nat} {xs:List Value} (i:Option Addr × Nat) (X X':World) (h:RdN n xs i X) (hb:Below X.heap.size X X'):RdN n xs i X':=⟨h.1,pB h.2 hb⟩
def RdT (t:Tbl) (i:Option Addr × Nat × Option Addr × Nat) (X:World):Prop:=Rd X X.heap.size i.1 (t.ts.flatMap cd)∧Rd X X.heap.size i.2.2.1 (t.ds.flatMap cK)
theorem RdT.grow {t:Tbl} (i:Option Addr × Nat × Option Addr × Nat) (X X':World) (h:RdT t i X) (hb:Below X.heap.size X X'):RdT t i X':=⟨pB h.1 hb,pB h.2 hb⟩
def RdR (B:Nat) (l:List Rcd) (t:Tbl) (p:List Pgp) (i:Option Addr × Nat) (X:World):Prop:=X.ownsRow B 111 3 (.slice i.1 (iH l t p).1.length i.2) (iH l t p).1.length ((iH l t p).1.flatMap cx)
theorem RdR.grow {B:Nat} {l:List Rcd} {t:Tbl} {p:List Pgp} (i:Option Addr × Nat) (X X':World) (h:RdR B l t p i X) (hb:Below X.heap.size X X'):RdR B l t p i X':=fW h hb
def RdO (B:Nat) (l:List Rcd) (t:Tbl) (i:Option Addr × Nat) (X:World):Prop:=X.ownsRow B 3 1 (.slice i.1 (lS l t).length i.2) (lS l t).length ((lS l t).map (.int .i64))
theorem RdO.grow {B:Nat} {l:List Rcd} {t:Tbl} (i:Option Addr × Nat) (X X':World) (h:RdO B l t i X) (hb:Below X.heap.size X X'):RdO B l t i X':=fW h hb
end Go.Proofs.YtcfdpfmchchkaaaGreatDoor
