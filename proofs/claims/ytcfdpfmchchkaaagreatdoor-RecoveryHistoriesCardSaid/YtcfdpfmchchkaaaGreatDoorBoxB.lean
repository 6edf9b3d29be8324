/-
  Blocks of the call's own that hold one struct: written whole, read.
  nN regions with one store of a struct into a box of the call's own: what the store leaves.
-/
import Derived.Laws.Tables
import Derived.Laws.CopyOwn
import Derived.Test.YtcfdpfmchchkaaaGreatDoorFlow
namespace Go.Proofs.YtcfdpfmchchkaaaGreatDoor
set_option linter.unusedVariables false
set_option linter.unusedSimpArgs false
open Go.RowKit Go.Sort
def Box (w:World) (b:Nat) (cs:Array Value) (T:TypeId):Prop:=w.heap[b]? = some (.cells cs T (0,0))
theorem Box.cells {w:World} {b:Nat} {cs:Array Value} {T:TypeId} (h:Box w b cs T):∀j,w.cell? ⟨b,j,none⟩=cs[j]?:=fun j=>cell_of_row _ _ _ cs T (0,0) h
theorem Box.lt {w:World} {b:Nat} {cs:Array Value} {T:TypeId} (h:Box w b cs T):b<w.heap.size:=(Array.getElem?_eq_some_iff.1 h).1
theorem Box.frozen {w:World} {b:Nat} {cs:Array Value} {T:TypeId} (h:Box w b cs T):∀j,w.frozen? ⟨b,j,none⟩=false:=fun j=>by
 unfold World.frozen?;rw[show w.heap[b]? = _ from h];simp
theorem Box.below {w w':World} {b:Nat} {cs:Array Value} {T:TypeId} (h:Box w b cs T) (hb:Below w.heap.size w w'):Box w' b cs T:=(hb.block b h.lt).trans h
theorem Box.setCell {w:World} {b:Nat} {cs:Array Value} {T:TypeId} (h:Box w b cs T) (j:Nat) (v:Value):Box (w.setCell ⟨b,j,none⟩ v) b (cs.setIfInBounds j v) T:=heap_setCell_same w b j cs T v h
theorem Box.new (w:World) (cs:Array Value) (T:TypeId):Box (w.alloc (.cells cs T)) w.heap.size cs T:=heap_alloc_new w _
theorem Box.old {w:World} {b:Nat} {cs:Array Value} {T:TypeId} (h:Box w b cs T) (o:Obj):Box (w.alloc o) b cs T:=(Below.heap_alloc w o b h.lt).trans h
section
variable {P:Program} {ops:Array Oper} {rest:List Oper} {o:Oper} {a:Act} {w:World} {Q:Exit→Act→World→Prop}
theorem ai (hgd:o.guard=none) (ty:TypeId) (x y:Operand) (ho:o.op=.store ty x y) (hd:o.dst=none)
 (g:Nat) (cells:Array Value) (hx:a.eval x=.pointer (some ⟨g,0,none⟩)) (hy:a.eval y=.agg cells)
 (w0:World) (hb:Below w0.heap.size w0 w) (hle:w0.heap.size≤g)
 (t:TypeId) (old:Array Value) (hg:w.heap[g]? = some (.cells old t (0,0))) (hi:(P.info? ty).map (·.size)=some cells.size)
 (hold:old.size=cells.size) (h1:cells.all (·.oneCell')=true)
 (h:∀W2,Below w0.heap.size w0 W2→Box W2 g cells t→(∀b cs T,b≠g→Box w b cs T→Box W2 b cs T)→wpList P ops Q rest a W2):wpList P ops Q (o::rest) a w:=by
 refine wpList_store_row hgd ty x y ho g cells hx hy t old hg hi hold h1 ?_;rw[hd];exact h _ (below_setRow hb hle cells) (setRow_heap w g old cells t (0,0) hg) (fun b cs T hne hbx=>(setRow_other w g b cells hne).trans hbx)
theorem az (hgd:o.guard=none) (ty:TypeId) (x y:Operand) (ho:o.op=.store ty x y) (hd:o.dst=none)
 (g j:Nat) (v:Value) (hx:a.eval x=.pointer (some ⟨g,j,none⟩)) (hy:a.eval y=v) (h1:v.oneCell'=true) (hi:(P.info? ty).map (·.size)=some 1)
 (w0:World) (hb:Below w0.heap.size w0 w) (hle:w0.heap.size≤g)
 (t:TypeId) (cells:Array Value) (hg:Box w g cells t) (hj:j<cells.size)
 (h:∀W2,Below w0.heap.size w0 W2→Box W2 g (cells.setIfInBounds j v) t→(∀b cs T,b≠g→Box w b cs T→Box W2 b cs T)→wpList P ops Q rest a W2):wpList P ops Q (o::rest) a w:=by
 refine wpList_plain hgd fun K hK=>?_
 have hc:w.cell? ⟨g,j,none⟩=some cells[j]:=by rw[hg.cells,Array.getElem?_eq_getElem hj]
 have hf:w.frozen? ⟨g,j,none⟩=false:=hg.frozen j
 have hcells:v.cells=#[v]:=by cases v<;>first | rfl | (simp[Value.oneCell'] at h1)
 have hst:(storeCells ⟨g,j,none⟩ [v]).run P w=.ok () (w.setCells g j [v]):=by
  have:=run_storeCells_cells (P:=P) g j [v] 0 w (fun i hi=>by have:i=0:=(by simp at hi;exact hi);subst this;simp only[Nat.add_zero];rw[hc];rfl) (fun i hi=>by have:i=0:=(by simp at hi;exact hi);subst this;simp only[Nat.add_zero];exact hf) (fun u hu=>by rw[List.mem_singleton.1 hu];exact h1)
  simpa using this
 have hrun:(storeVar ty ⟨g,j,none⟩ v).run P w=.ok () (w.setCell ⟨g,j,none⟩ v):=by
  cases hq:P.info? ty with
  | none=>simp[hq] at hi
  | some i=>
   have hs:i.size=1:=by simpa [hq] using hi
   have e:w.setCells g j [v]=w.setCell ⟨g,j,none⟩ v:=rfl;rw[e] at hst;simp[storeVar,sizeOf,typeInfo,hq,hcells,hs,hst]
 unfold Oper.wp execOp;simp only[ho,hx,hy,Instr.storeAt,Instr.sureAddr,Sem.run_bind,Sem.run_pure,Result.andThen_ok,hrun];refine hK _ _ ?_;rw[hd];exact h _ (hb.setCell hle _) (heap_setCell_same w g j cells t v hg) (fun b cs T hne hbx=>(heap_setCell_other w _ b v hne).trans hbx)
end
theorem results_cell_tmp {P:Program} {fn:Func} {p q:Tmp} {ty:TypeId} (h:fn.results=#[.cell p ty,.tmp q]) (tmps:Array Value) (w:World) (g:Nat) (t:TypeId) (cs:Array Value) (d:TypeDesc) (u:Value)
 (hp:tmps.getD p undef=.pointer (some ⟨g,0,none⟩)) (hq:tmps.getD q undef=u) (hg:Box w g cs t)
 (hu:P.underlying ty=some d) (hd:(match d with | .struct _ | .array _ _=>true | _=>false)=true) (hi:(P.info? ty).map (·.size)=some cs.size) :
 (results fn tmps).run P w=.ok (.tuple #[.agg cs,u]) w:=by
 have hp':tmps[p]?.getD undef=.pointer (some ⟨g,0,none⟩):=by simpa using hp
 have hq':tmps[q]?.getD undef=u:=by simpa using hq
 simp[results,h,hp',hq',asAddr,run_loadVar_row w g t ty cs (0,0) d hg hu hd hi]
open Go.RowKit Go.Sort
def BoxR (g:Nat) (cells:Array Value) (t:TypeId) (_:Value) (X:World):Prop:=Box X g cells t
theorem BoxR.stable {g:Nat} {cells:Array Value} {t:TypeId} (v:Value) (X X':World) (h:BoxR g cells t v X) (hb:Below X.heap.size X X'):BoxR g cells t v X':=Box.below h hb
def BoxesO (B:Nat) (T:TypeId) (b:Nat) (o:Option Obj):Prop:=B≤b∧∃cs,o=some (.cells cs T (0,0))
theorem BoxesO.below {w X:World} {B:Nat} {T:TypeId} (hX:Grw (BoxesO B T) w X) {w0:World} (hb:Below w0.heap.size w0 w) (hle:w0.heap.size≤B):Below w0.heap.size w0 X:=
 ⟨hX.os.trans hb.os,hX.tape.trans hb.tape,hX.output.trans hb.output,Nat.le_trans hb.size hX.size,fun b h=>(hX.block b (Nat.lt_of_lt_of_le h hb.size) (fun ⟨h1,_⟩=>by omega)).trans (hb.block b h)⟩
def AtBox (B:Nat) (T:TypeId) (n:Nat) (v:Value) (X:World):Prop:=∃b cs,v=.pointer (some ⟨b,0,none⟩)∧B≤b∧cs.size=n∧Box X b cs T
theorem AtBox.stable {B:Nat} {T:TypeId} {n:Nat} (v:Value) (X X':World) (h:AtBox B T n v X) (hb:Below X.heap.size X X'):AtBox B T n v X':=by
 obtain⟨b,cs,h1,h2,h3,h4⟩:=h;exact⟨b,cs,h1,h2,h3,h4.below hb⟩
theorem Grw.own {O:Nat→Option Obj→Prop} {g:Nat} {w W W2:World} (h:Grw O w W) (k:Grw (fun b _=>b=g) W W2) (hg:w.heap.size≤g):Grw O w W2:=
 ⟨k.os.trans h.os,k.tape.trans h.tape,k.output.trans h.output,Nat.le_trans h.size k.size,fun b hb hO=>(k.block b (Nat.lt_of_lt_of_le hb h.size) ab).trans (h.block b hb hO),
  fun b cs T fr hb=>by
   obtain⟨c1,h1,h2⟩:=h.shape b cs T fr hb;obtain⟨c2,h3,h4⟩:=k.shape b c1 T fr h2
   exact⟨c2,h3.trans h1,h4⟩⟩
theorem Grw.grown {O:Nat→Option Obj→Prop} {w W W2:World} {row:Option Nat} (h:Grw O w W) (k:W.grownBy W2 row) (hg:∀g,row=some g→w.heap.size≤g):Grw O w W2:=by
 have hk:∀b,b<w.heap.size→W2.heap[b]? = W.heap[b]?:=fun b hb=>k.block b (Nat.lt_of_lt_of_le hb h.size) (fun e=>by have:=hg b e.symm;omega);refine⟨k.os.trans h.os,k.tape.trans h.tape,k.output.trans h.output,Nat.le_trans h.size k.size,fun b hb hO=>(hk b hb).trans (h.block b hb hO),fun b cs T fr hb=>?_⟩;obtain⟨c1,h1,h2⟩:=h.shape b cs T fr hb;exact⟨c1,h1,(hk b (Array.getElem?_eq_some_iff.1 hb).1).trans h2⟩
section
variable {P:Program} {ops:Array Oper} {rest:List Oper} {o:Oper} {a:Act} {w:World} {Q:Exit→Act→World→Prop}
end
end Go.Proofs.YtcfdpfmchchkaaaGreatDoor
