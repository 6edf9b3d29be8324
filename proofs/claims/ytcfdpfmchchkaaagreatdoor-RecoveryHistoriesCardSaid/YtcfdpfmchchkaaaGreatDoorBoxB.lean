/-
  Blocks of the call's own that hold one struct: written whole, read.
  nk regions with one store of a struct into a box of the call's own: what the store leaves.
-/
import Derived.Laws.Tables
import Derived.Laws.CopyOwn
import Derived.Test.YtcfdpfmchchkaaaGreatDoorFlow
namespace Go.Proofs.YtcfdpfmchchkaaaGreatDoor
set_option linter.unusedVariables false
set_option linter.unusedSimpArgs false
open Go.RowKit Go.Sort
def Box (w:World) (b:Nat) (cs:Array Value) (T:TypeId):Prop:=w.heap[b]? = some (.cells cs T (0,0))
theorem Box.cells {w:World} {b:Nat} {cs:Array Value} {T:TypeId} (h:Box w b cs T):∀j,w.cell? ⟨b,j,none⟩=cs[j]?:=fun j=>cell_of_row _ _ _ cs T (0,0) h
theorem Box.lt {w:World} {b:Nat} {cs:Array Value} {T:TypeId} (h:Box w b cs T):b<w.heap.size:=(Array.getElem?_eq_some_iff.1 h).1
theorem Box.frozen {w:World} {b:Nat} {cs:Array Value} {T:TypeId} (h:Box w b cs T):∀j,w.frozen? ⟨b,j,none⟩=false:=fun j=>by
 unfold World.frozen?;rw[show w.heap[b]? = _ from h];simp
theorem Box.below {w w':World} {b:Nat} {cs:Array Value} {T:TypeId} (h:Box w b cs T) (hb:Below w.heap.size w w'):Box w' b cs T:=(hb.block b h.lt).trans h
theorem Box.setCell {w:World} {b:Nat} {cs:Array Value} {T:TypeId} (h:Box w b cs T) (j:Nat) (v:Value):Box (w.setCell ⟨b,j,none⟩ v) b (cs.setIfInBounds j v) T:=heap_setCell_same w b j cs T v h
theorem Box.new (w:World) (cs:Array Value) (T:TypeId):Box (w.alloc (.cells cs T)) w.heap.size cs T:=heap_alloc_new w _
theorem Box.old {w:World} {b:Nat} {cs:Array Value} {T:TypeId} (h:Box w b cs T) (o:Obj):Box (w.alloc o) b cs T:=(Below.heap_alloc w o b h.lt).trans h
section
variable {P:Program} {ops:Array Oper} {rest:List Oper} {o:Oper} {a:Act} {w:World} {Q:Exit→Act→World→Prop}
end
open Go.RowKit Go.Sort
def BoxR (g:Nat) (cells:Array Value) (t:TypeId) (_:Value) (X:World):Prop:=Box X g cells t
theorem BoxR.stable {g:Nat} {cells:Array Value} {t:TypeId} (v:Value) (X X':World) (h:BoxR g cells t v X) (hb:Below X.heap.size X X'):BoxR g cells t v X':=Box.below h hb
def BoxesO (B:Nat) (T:TypeId) (b:Nat) (o:Option Obj):Prop:=B≤b∧∃cs,o=some (.cells cs T (0,0))
theorem BoxesO.below {w X:World} {B:Nat} {T:TypeId} (hX:Grw (BoxesO B T) w X) {w0:World} (hb:Below w0.heap.size w0 w) (hle:w0.heap.size≤B):Below w0.heap.size w0 X:=
 ⟨hX.os.trans hb.os,hX.tape.trans hb.tape,hX.output.trans hb.output,Nat.le_trans hb.size hX.size,fun b h=>(hX.block b (Nat.lt_of_lt_of_le h hb.size) (fun ⟨h1,_⟩=>by omega)).trans (hb.block b h)⟩
def AtBox (B:Nat) (T:TypeId) (n:Nat) (v:Value) (X:World):Prop:=∃b cs,v=.pointer (some ⟨b,0,none⟩)∧B≤b∧cs.size=n∧Box X b cs T
theorem AtBox.stable {B:Nat} {T:TypeId} {n:Nat} (v:Value) (X X':World) (h:AtBox B T n v X) (hb:Below X.heap.size X X'):AtBox B T n v X':=by
 obtain⟨b,cs,h1,h2,h3,h4⟩:=h;exact⟨b,cs,h1,h2,h3,h4.below hb⟩
theorem Grw.own {O:Nat→Option Obj→Prop} {g:Nat} {w W W2:World} (h:Grw O w W) (k:Grw (fun b _=>b=g) W W2) (hg:w.heap.size≤g):Grw O w W2:=
 ⟨k.os.trans h.os,k.tape.trans h.tape,k.output.trans h.output,Nat.le_trans h.size k.size,fun b hb hO=>(k.block b (Nat.lt_of_lt_of_le hb h.size) ab).trans (h.block b hb hO),
  fun b cs T fr hb=>by
   obtain⟨c1,h1,h2⟩:=h.shape b cs T fr hb;obtain⟨c2,h3,h4⟩:=k.shape b c1 T fr h2
   exact⟨c2,h3.trans h1,h4⟩⟩
theorem Grw.grown {O:Nat→Option Obj→Prop} {w W W2:World} {row:Option Nat} (h:Grw O w W) (k:W.grownBy W2 row) (hg:∀g,row=some g→w.heap.size≤g):Grw O w W2:=by
 have hk:∀b,b<w.heap.size→W2.heap[b]? = W.heap[b]?:=fun b hb=>k.block b (Nat.lt_of_lt_of_le hb h.size) (fun e=>by have:=hg b e.symm;omega);refine⟨k.os.trans h.os,k.tape.trans h.tape,k.output.trans h.output,Nat.le_trans h.size k.size,fun b hb hO=>(hk b hb).trans (h.block b hb hO),fun b cs T fr hb=>?_⟩;obtain⟨c1,h1,h2⟩:=h.shape b cs T fr hb;exact⟨c1,h1,(hk b (Array.getElem?_eq_some_iff.1 hb).1).trans h2⟩
section
variable {P:Program} {ops:Array Oper} {rest:List Oper} {o:Oper} {a:Act} {w:World} {Q:Exit→Act→World→Prop}
end
end Go.Proofs.YtcfdpfmchchkaaaGreatDoor
