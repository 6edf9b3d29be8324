/- Blocks of the call's own -/
import Derived.Laws.Tables
import Derived.Laws.CopyOwn
import Derived.Test.YtcfdpfmchchkaaaGreatDoorFlow
import Derived.Deep.LoopGhost
namespace Go.Proofs.YtcfdpfmchchkaaaGreatDoor
set_option linter.unusedVariables false
set_option linter.unusedSimpArgs false
open Go.RowKit Go.Sort
def Box (w:World) (b:Nat) (cs:Array Value) (T:TypeId):Prop:=w.heap[b]? = some (.cells cs T (0,0))
theorem Box.cells {w:World} {b:Nat} {cs:Array Value} {T:TypeId} (h:Box w b cs T):∀j,w.cell? ⟨b,j,none⟩=cs[j]?:=fun j=>cell_of_row _ _ _ cs T (0,0) h
theorem Box.lt {w:World} {b:Nat} {cs:Array Value} {T:TypeId} (h:Box w b cs T):b<w.heap.size:=(Array.getElem?_eq_some_iff.1 h).1
theorem Box.frozen {w:World} {b:Nat} {cs:Array Value} {T:TypeId} (h:Box w b cs T):∀j,w.frozen? ⟨b,j,none⟩=false:=fun j=>by
 unfold World.frozen?;rw[show w.heap[b]? = _ from h];simp
theorem Box.below {w e:World} {b:Nat} {cs:Array Value} {T:TypeId} (h:Box w b cs T) (i:Below w.heap.size w e):Box e b cs T:=(i.block b h.lt).trans h
theorem Box.setCell {w:World} {b:Nat} {cs:Array Value} {T:TypeId} (h:Box w b cs T) (j:Nat) (v:Value):Box (w.setCell ⟨b,j,none⟩ v) b (cs.setIfInBounds j v) T:=heap_setCell_same w b j cs T v h
theorem Box.new (w:World) (cs:Array Value) (T:TypeId):Box (w.alloc (.cells cs T)) w.heap.size cs T:=heap_alloc_new w _
theorem Box.old {w:World} {b:Nat} {cs:Array Value} {T:TypeId} (h:Box w b cs T) (o:Obj):Box (w.alloc o) b cs T:=(Below.heap_alloc w o b h.lt).trans h
section
variable {P:Program} {ops:Array Oper} {rest:List Oper} {o:Oper} {a:Act} {w:World} {Q:Exit→Act→World→Prop}
end
open Go.RowKit Go.Sort
def BoxR (g:Nat) (cells:Array Value) (t:TypeId) (_:Value) (X:World):Prop:=Box X g cells t
theorem BoxR.stable {g:Nat} {cells:Array Value} {t:TypeId} (v:Value) (X X':World) (h:BoxR g cells t v X) (b:Below X.heap.size X X'):BoxR g cells t v X':=Box.below h b
def BoxesO (B:Nat) (T:TypeId) (b:Nat) (o:Option Obj):Prop:=B≤b∧∃cs,o=some (.cells cs T (0,0))
theorem BoxesO.below {w X:World} {B:Nat} {T:TypeId} (i:Grw (BoxesO B T) w X) {w0:World} (e:Below w0.heap.size w0 w) (j:w0.heap.size≤B):Below w0.heap.size w0 X:=
 ⟨i.os.trans e.os,i.tape.trans e.tape,i.output.trans e.output,Nat.le_trans e.size i.size,fun b h=>(i.block b (Nat.lt_of_lt_of_le h e.size) (fun ⟨k,_⟩=>by omega)).trans (e.block b h)⟩
def AtBox (B:Nat) (T:TypeId) (n:Nat) (v:Value) (X:World):Prop:=∃b cs,v=.pointer (some ⟨b,0,none⟩)∧B≤b∧cs.size=n∧Box X b cs T
theorem AtBox.stable {B:Nat} {T:TypeId} {n:Nat} (v:Value) (X X':World) (h:AtBox B T n v X) (j:Below X.heap.size X X'):AtBox B T n v X':=by
 obtain⟨b,cs,i,e,h3,k⟩:=h;exact⟨b,cs,i,e,h3,k.below j⟩
theorem Grw.own {O:Nat→Option Obj→Prop} {g:Nat} {w W i:World} (h:Grw O w W) (k:Grw (fun b _=>b=g) W i) (q:w.heap.size≤g):Grw O w i:=
 ⟨k.os.trans h.os,k.tape.trans h.tape,k.output.trans h.output,Nat.le_trans h.size k.size,fun b e n=>(k.block b (Nat.lt_of_lt_of_le e h.size) (by omega)).trans (h.block b e n),
  fun b cs T fr e=>by
   obtain⟨c1,m,j⟩:=h.shape b cs T fr e;obtain⟨c2,h3,p⟩:=k.shape b c1 T fr j
   exact⟨c2,h3.trans m,p⟩⟩
theorem Grw.grown {O:Nat→Option Obj→Prop} {w W j:World} {row:Option Nat} (h:Grw O w W) (k:W.grownBy j row) (q:∀g,row=some g→w.heap.size≤g):Grw O w j:=by
 have m:∀b,b<w.heap.size→j.heap[b]? = W.heap[b]?:=fun b i=>k.block b (Nat.lt_of_lt_of_le i h.size) (fun e=>by have:=q b e.symm;omega);refine⟨k.os.trans h.os,k.tape.trans h.tape,k.output.trans h.output,Nat.le_trans h.size k.size,fun b i r=>(m b i).trans (h.block b i r),fun b cs T fr i=>?_⟩;obtain⟨c1,p,n⟩:=h.shape b cs T fr i;exact⟨c1,p,(m b (Array.getElem?_eq_some_iff.1 i).1).trans n⟩
section
variable {P:Program} {ops:Array Oper} {rest:List Oper} {o:Oper} {a:Act} {w:World} {Q:Exit→Act→World→Prop}
end
open Go.RowKit Go.Sort
variable {ds:List Deferred}
def look:List (Nat × Value)→Nat→Option Value
 | [],_=>none
 | (k,v)::l,t=>bif Nat.beq k t then some v else look l t
structure Has (ds:List Deferred) (a:Act) (N:Nat) (l:List (Nat × Value)):Prop where
 defers:a.defers=ds
 size:a.tmps.size=N
 slot:∀t v,look l t=some v→a.tmps[t]? = some v
def E2 (l:List (Nat × Value)):Operand→Option Value
 | .tmp t=>look l t
 | .const v=>some v
 | .global g=>some (.pointer (some ⟨g,0,none⟩))
 | .func f=>some (.func (.func f) #[] #[])
theorem Has.ev {a:Act} {N:Nat} {l:List (Nat × Value)} {o:Operand} {v:Value} (h:Has ds a N l) (b:E2 l o=some v):a.eval o=v:=by
 cases o with
 | tmp t=>
  have:=h.slot t v b;show a.tmps.getD t undef=v;rw[Array.getD_eq_getD_getElem?,this];rfl
 | const u=>exact Option.some.inj b
 | global g=>exact Option.some.inj b
 | func f=>exact Option.some.inj b
theorem Has.put {a:Act} {N d:Nat} {l:List (Nat × Value)} (h:Has ds a N l) (j:Nat.blt d N=true) (v:Value):Has ds (a.put (some d) v) N ((d,v)::l):=by
 have i:d<N:=Nat.le_of_ble_eq_true j;refine⟨h.defers,by show(a.tmps.setIfInBounds d v).size=N;rw[Array.size_setIfInBounds];exact h.size,fun t u b=>?_⟩;show(a.tmps.setIfInBounds d v)[t]? = some u;unfold look at b
 cases hb:Nat.beq d t with
 | true=>
  rw[hb] at b;have e:d=t:=Nat.eq_of_beq_eq_true hb;subst e;rw[Array.getElem?_setIfInBounds_self_of_lt (by rw[h.size];exact i)];exact b
 | false=>
  rw[hb] at b;have e:d≠t:=Nat.ne_of_beq_eq_false hb;rw[Array.getElem?_setIfInBounds_ne e];exact h.slot t u b
def xA (l:List (Nat × Value)):List (Nat × Value)→Prop
 | []=>True
 | (t,v)::m=>look l t=some v∧xA l m
theorem Has.re {a:Act} {N:Nat} {l m:List (Nat × Value)} (h:Has ds a N l) (hm:xA l m):Has ds a N m:=by
 refine⟨h.defers,h.size,fun t v b=>?_⟩
 induction m with
 | nil=>cases b
 | cons p m ih=>
  obtain⟨k,u⟩:=p;obtain⟨j,i⟩:=hm;unfold look at b
  cases hb:Nat.beq k t with
  | true=>
   rw[hb] at b;have e:k=t:=Nat.eq_of_beq_eq_true hb;subst e;injection b with b;subst b;exact h.slot _ _ j
  | false=>rw[hb] at b;exact ih i b
def evs (l:List (Nat × Value)):List Operand→Option (List Value)
 | []=>some []
 | o::r=>match E2 l o,evs l r with | some v,some vs=>some (v::vs) | _,_=>none
theorem Has.evs {a:Act} {N:Nat} {l:List (Nat × Value)} (h:Has ds a N l):∀{os:List Operand} {vs:List Value},evs l os=some vs→os.map a.eval=vs
 | [],vs,he=>by cases he;rfl
 | o::r,vs,he=>by
  unfold Go.Proofs.YtcfdpfmchchkaaaGreatDoor.evs at he
  cases h1:E2 l o with
  | none=>rw[h1] at he;cases he
  | some v=>
   cases h2:Go.Proofs.YtcfdpfmchchkaaaGreatDoor.evs l r with
   | none=>rw[h1,h2] at he;cases he
   | some ws=>
    rw[h1,h2] at he;injection he with he;subst he;rw[List.map_cons,h.ev h1,h.evs h2]
def zE:Nat→List Value→List (Nat × Value)
 | _,[]=>[]
 | k,v::vs=>(k,v)::zE (k+1) vs
theorem r7:∀(k:Nat) (vs:List Value) (t:Nat) (v:Value),look (zE k vs) t=some v→k≤t∧vs[t-k]? = some v
 | k,[],t,v,h=>by cases h
 | k,u::vs,t,v,h=>by
  unfold zE look at h
  cases hb:Nat.beq k t with
  | true=>
   rw[hb] at h;have e:k=t:=Nat.eq_of_beq_eq_true hb;subst e;exact⟨Nat.le_refl _,by rw[Nat.sub_self];exact h⟩
  | false=>
   rw[hb] at h;have e:k≠t:=Nat.ne_of_beq_eq_false hb;obtain⟨i,b⟩:=r7 (k+1) vs t v h;refine⟨by omega,?_⟩;rw[show t-k=(t-(k+1))+1 by omega];exact b
theorem ve {vs:List Value} {N:Nat} (j:Nat.ble vs.length N=true):Has [] { tmps:=vs.toArray ++ Array.replicate (N-vs.toArray.size) undef,defers:=[] } N (zE 0 vs):=by
 have i:vs.length≤N:=Nat.le_of_ble_eq_true j;refine⟨rfl,by simp;omega,fun t v h=>?_⟩;obtain⟨_,b⟩:=r7 0 vs t v h;rw[Nat.sub_zero] at b;have e:=(List.getElem?_eq_some_iff.1 b).1;show(vs.toArray ++ _)[t]? = some v;rw[Array.getElem?_append_left (by simpa using e)]
 simpa using b
inductive Ent where
 | box (b:Nat) (cs:Array Value) (T:TypeId)
 | row (v:Value) (n:Nat) (T:TypeId) (sz:Nat) (xs:List Value)
 | rd (lo hi:Nat) (A:Option Addr) (xs:List Value)
 | byt (b:Nat) (l:List UInt8)
 | inv (D:Nat→Prop) (φ:World→Prop) (st:∀X X':World,φ X→(∀b,D b→X'.heap[b]? = X.heap[b]?)→φ X')
def Ent.dom:Ent→Nat→Prop
 | .box b _ _,k=>k=b
 | .byt b _,k=>k=b
 | .row v _ _ _ _,k=>v.ownBlock=some k
 | .rd lo hi _ _,k=>lo≤k∧k<hi
 | .inv D _ _,k=>D k
def Ia (X:World) (h e:Nat) (A:Option Addr) (xs:List Value):Prop:=∀j u,xs[j]? = some u→∃b o,A=some ⟨b,o,none⟩∧h≤b∧b<e∧X.cell? ⟨b,o+j,none⟩=some u
def nC (X:World) (b:Nat) (l:List UInt8):Prop:=∃cs T fr,X.heap[b]? = some (.cells cs T fr)∧cs.toList.take l.length=l.map bB∧∀j,j<cs.size→¬(fr.1≤j∧j<fr.2)
def Ent.ok (X:World):Ent→Prop
 | .byt b l=>nC X b l
 | .box b cs T=>Box X b cs T
 | .row v n T sz xs=>X.ownsRow 0 T sz v n xs
 | .rd lo hi A xs=>Ia X lo hi A xs
 | .inv _ φ _=>φ X
theorem Ent.ok_of {X X':World} {e:Ent} (h:e.ok X) (m:∀b,e.dom b→X'.heap[b]? = X.heap[b]?):e.ok X':=by
 cases e with
 | box b cs T=>exact(m b rfl).trans h
 | row v n T sz xs=>
  obtain⟨k,i⟩:=h;refine⟨k,?_⟩;rcases i with i | ⟨g,cap,cur,e1,e2,e3,e4⟩
  · exact .inl i
  · exact .inr ⟨g,cap,cur,e1,e2,(m g (by show v.ownBlock=some g;rw[e1];rfl)).trans e3,e4⟩
 | byt b l=>
  obtain⟨cs,T,fr,k,i⟩:=h;exact⟨cs,T,fr,(m b rfl).trans k,i⟩
 | inv D φ st=>exact st X X' h m
 | rd lo hi A xs=>
  intro j u p;obtain⟨b,o,k,i,h3,q⟩:=h j u p;exact⟨b,o,k,i,h3,(World.cell?_of_block (w:=X) (a:=⟨b,o+j,none⟩) (m b ⟨i,h3⟩)).trans q⟩
structure St (M:List Nat) (w X:World) (L:List Ent):Prop where
 os:X.os=w.os
 tape:X.tape=w.tape
 output:X.output=w.output
 size:w.heap.size≤X.heap.size
 block:∀b,b<w.heap.size→b∉M→X.heap[b]? = w.heap[b]?
 ok:∀e∈L,e.ok X
 new:∀e∈L,∀b,e.dom b→(w.heap.size≤b∨b∈M)∧b<X.heap.size
 sep:L.Pairwise fun e f=>∀b,e.dom b→¬f.dom b
section
variable {M:List Nat} {w X X':World} {L:List Ent}
theorem St.init (w:World):St [] w w []:=⟨rfl,rfl,rfl,Nat.le_refl _,fun _ _ _=>rfl,fun _ h=>(by cases h),fun _ h=>(by cases h),.nil⟩
theorem St.below (h:St [] w X L):Below w.heap.size w X:=⟨h.os,h.tape,h.output,h.size,fun b e=>h.block b e (List.not_mem_nil)⟩
theorem St.grow (h:St M w X L) (i:Below X.heap.size X X'):St M w X' L:=
 ⟨i.os.trans h.os,i.tape.trans h.tape,i.output.trans h.output,Nat.le_trans h.size i.size,fun b j m=>(i.block b (Nat.lt_of_lt_of_le j h.size)).trans (h.block b j m),
  fun e k=>Ent.ok_of (h.ok e k) (fun b j=>i.block b (h.new e k b j).2),fun e k b j=>⟨(h.new e k b j).1,Nat.lt_of_lt_of_le (h.new e k b j).2 i.size⟩,h.sep⟩
theorem St.add (h:St M w X L) (n:Below X.heap.size X X') {e:Ent} (k:e.ok X') (j:∀b,e.dom b→X.heap.size≤b∧b<X'.heap.size):St M w X' (e::L):=by
 have h':=h.grow n;refine⟨h'.os,h'.tape,h'.output,h'.size,h'.block,fun f hf=>?_,fun f hf b i=>?_,?_⟩
 · rcases List.mem_cons.1 hf with rfl | hf
   · exact k
   · exact h'.ok f hf
 · rcases List.mem_cons.1 hf with rfl | hf
   · exact⟨.inl (Nat.le_trans h.size (j b i).1),(j b i).2⟩
   · exact h'.new f hf b i
 · refine List.pairwise_cons.2 ⟨fun f hf b i m=>?_,h'.sep⟩
   have:=(j b i).1;have:=(h.new f hf b m).2;omega
theorem St.sub {j:List Ent} (h:St M w X L) (b:j.Sublist L):St M w X j:=
 ⟨h.os,h.tape,h.output,h.size,h.block,fun e i=>h.ok e (b.subset i),fun e i=>h.new e (b.subset i),h.sep.sublist b⟩
theorem St.at_ (h:St M w X L) {i:Nat} {e:Ent} (b:L[i]? = some e):e.ok X:=h.ok e (List.mem_of_getElem? b)
theorem St.turn {i:Nat} {e J:Ent} (h:St M w X L) (K:L[i]? = some e) (O:X'.os=X.os) (z:X'.tape=X.tape) (B:X'.output=X.output) (A:X.heap.size≤X'.heap.size)
 (u:∀b,b<X.heap.size→¬e.dom b→X'.heap[b]? = X.heap[b]?) (V:J.ok X') (T:∀b,J.dom b→(e.dom b∨X.heap.size≤b)∧b<X'.heap.size):St M w X' (L.set i J):=by
 have F:=List.mem_of_getElem? K;have H:=(List.getElem?_eq_some_iff.1 K).1;have I:=(List.getElem?_eq_some_iff.1 K).2
 have y:∀j (n:j<L.length),j≠i→∀b,e.dom b→¬L[j].dom b:=fun j n s b m r=>by
  have Z:=List.pairwise_iff_getElem.1 h.sep;rcases Nat.lt_or_gt_of_ne s with D | hgt
  · exact Z j i n H D b r (by rw[I];exact m)
  · exact Z i j H n hgt b (by rw[I];exact m) r
 have t:∀j (n:j<L.length),j≠i→∀b,J.dom b→¬L[j].dom b:=fun j n s b m r=>by
  rcases (T b m).1 with q | q
  · exact y j n s b q r
  · have:=(h.new _ (List.getElem_mem n) b r).2;omega
 refine⟨O.trans h.os,z.trans h.tape,B.trans h.output,Nat.le_trans h.size A,fun b m W=>?_,fun f hf=>?_,fun f hf b m=>?_,?_⟩
 · refine(u b (Nat.lt_of_lt_of_le m h.size) (fun G=>?_)).trans (h.block b m W)
   rcases (h.new e F b G).1 with q | q
   · omega
   · exact W q
 · obtain⟨j,n,rfl⟩:=List.getElem_of_mem hf
   rw[List.length_set] at n;rw[List.getElem_set]
   split
   · exact V
   · rename_i s
     exact Ent.ok_of (h.ok _ (List.getElem_mem n)) (fun b m=>u b (h.new _ (List.getElem_mem n) b m).2 (fun he=>y j n (fun e=>s e.symm) b he m))
 · obtain⟨j,n,rfl⟩:=List.getElem_of_mem hf
   rw[List.length_set] at n;rw[List.getElem_set] at m
   split at m
   · refine⟨?_,(T b m).2⟩
     rcases (T b m).1 with q | q
     · exact(h.new e F b q).1
     · exact .inl (Nat.le_trans h.size q)
   · exact⟨(h.new _ (List.getElem_mem n) b m).1,Nat.lt_of_lt_of_le (h.new _ (List.getElem_mem n) b m).2 A⟩
 · rw[List.pairwise_iff_getElem]
   intro j k n U S b m p;rw[List.length_set] at n U;rw[List.getElem_set] at m p
   split at m
   · split at p
     · omega
     · rename_i q Y
       exact t k U (fun e=>Y e.symm) b m p
   · split at p
     · rename_i q Y
       exact t j n (fun e=>q e.symm) b p m
     · exact List.pairwise_iff_getElem.1 h.sep j k n U S b m p
theorem St.rd0 (h:St [] w X L) {A:Option Addr} {xs:List Value} (hr:Rd w w.heap.size A xs):Rd X X.heap.size A xs:=hr.below' h.below
theorem St.cell {i b j:Nat} {cs:Array Value} {T:TypeId} {v:Value} (h:St M w X L) (k:L[i]? = some (.box b cs T)) (e:cs.toList[j]? = some v):X.cell? ⟨b,j,none⟩=some v:=
 (Box.cells (h.at_ k) j).trans (by rw[←e];simp)
theorem St.cellsOf {i b:Nat} {cs:Array Value} {T:TypeId} (h:St M w X L) (m:L[i]? = some (.box b cs T)) (j n:Nat):∀k u,((cs.toList.drop j).take n)[k]? = some u→X.cell? ⟨b,j+k,none⟩=some u:=fun k u e=>by
 rw[Box.cells (h.at_ m) (j+k)];rw[List.getElem?_take] at e
 split at e
 · rw[List.getElem?_drop] at e
   simpa using e
 · cases e
theorem St.cellsAll {i b:Nat} {cs:Array Value} {T:TypeId} (h:St M w X L) (e:L[i]? = some (.box b cs T)):∀k u,cs.toList[k]? = some u→X.cell? ⟨b,0+k,none⟩=some u:=fun k u j=>by
 rw[Nat.zero_add,Box.cells (h.at_ e) k]
 simpa using j
theorem St.rdOf {i n c sz:Nat} {A:Option Addr} {T:TypeId} {xs:List Value} (h:St M w X L) (b:L[i]? = some (.row (.slice A n c) n T sz xs)):Rd X X.heap.size A xs:=Rd.of_own (h.at_ b)
theorem St.wrote {i b:Nat} {cs cs':Array Value} {T:TypeId} (h:St M w X L) (p:L[i]? = some (.box b cs T)) (e:Grw (fun k _=>k=b) X X') (n:Box X' b cs' T):St M w X' (L.set i (.box b cs' T)):=
 h.turn p e.os e.tape e.output e.size (fun k j m=>e.block k j m) n (fun k j=>⟨.inl j,by cases j;exact n.lt⟩)
theorem St.grown {i n q sz:Nat} {v v':Value} {T:TypeId} {xs xs':List Value} (h:St M w X L) (s:L[i]? = some (.row v n T sz xs)) (r:X'.ownsRow 0 T sz v' q xs') (b:X.grownBy X' v.ownBlock)
 (m:v'.ownBlock=v.ownBlock∨∀g,v'.ownBlock=some g→X.heap.size≤g):St M w X' (L.set i (.row v' q T sz xs')):=
 h.turn s b.os b.tape b.output b.size (fun k j p=>b.block k j (fun e=>p e.symm)) r (fun k j=>by
  refine⟨?_,(r.lt k j).2⟩;rcases m with m | m
  · left;show v.ownBlock=some k;rw[←m];exact j
  · right;exact m k j)
end
section
variable {P:Program} {ops:Array Oper} {rest:List Oper} {o:Oper} {a:Act} {Q:Exit→Act→World→Prop} {X X':World} {N d:Nat} {l:List (Nat × Value)} {v:Value}
theorem cW (a:Act) (ops:Array Oper) (b:o.guard=none):Region.wanted o (yielded ops a.tmps)=true:=by unfold Region.wanted;rw[b]
theorem wn {a:Act} {ops:Array Oper} (b:o.guard=none):Region.wanted o (yielded ops a.tmps)=true:=cW a ops b
theorem ao {j t:Nat} {b c:Bool} (i:Has ds a N l) (ops:Array Oper) (k:o.guard=some (j,b)) (h:(ops[j]?).bind (·.dst)=some t) (ht:look l t=some (.bool c)) (e:c=b):Region.wanted o (yielded ops a.tmps)=true:=by
 unfold Region.wanted yielded;rw[k];simp only[h,Option.bind_some,i.slot _ _ ht,e,BEq.rfl]
theorem nF {j t:Nat} {b c:Bool} (i:Has ds a N l) (ops:Array Oper) (k:o.guard=some (j,b)) (h:(ops[j]?).bind (·.dst)=some t) (ht:look l t=some (.bool c)) (e:c=!b):Region.wanted o (yielded ops a.tmps)=false:=by
 unfold Region.wanted yielded;rw[k];simp only[h,Option.bind_some,i.slot _ _ ht,e]
 cases b<;>rfl
theorem aC {j t:Nat} {b:Bool} (i:Has ds a N l) (ops:Array Oper) (e:o.guard=some (j,b)) (h:(ops[j]?).bind (·.dst)=some t) (ht:look l t=some undef):Region.wanted o (yielded ops a.tmps)=false:=by
 unfold Region.wanted yielded;rw[e];simp only[h,Option.bind_some,i.slot _ _ ht]
 rfl
theorem gy (b:Region.wanted o (yielded ops a.tmps)=true) (h:∀K:Act→World→Prop,(∀a w,wpList P ops Q rest a w→K a w)→o.wp P a X K Q):wpList P ops Q (o::rest) a X:=
 wpList_step fun K e=>by rw[if_pos b];exact h K e
theorem aT (m:Has ds a N l) (e:Region.wanted o (yielded ops a.tmps)=true) (hx:(execOp a.eval o).run P X=.ok (.value v) X') (h:o.dst=some d) (j:Nat.blt d N=true)
 (k:∀b,Has ds b N ((d,v)::l)→wpList P ops Q rest b X'):wpList P ops Q (o::rest) a X:=
 gy e fun K i=>by
  unfold Oper.wp;rw[hx];exact i _ _ (by rw[h];exact k _ (m.put j v))
theorem sv {ds:List Deferred} (ha:Has ds a N l) (hx:(execOp a.eval o).run P X=.ok (.value v) X') (k:∀a',Has ds a' N ((d,v)::l)→wpList P ops Q rest a' X') (hg:o.guard=none:=by rfl) (hd:o.dst=some d:=by rfl) (hN:Nat.blt d N=true:=by rfl):wpList P ops Q (o::rest) a X:=aT ha (cW a ops hg) hx hd hN k
theorem cg (m:Has ds a N l) (e:Region.wanted o (yielded ops a.tmps)=false) (h:o.dst=some d) (j:Nat.blt d N=true)
 (k:∀b,Has ds b N ((d,undef)::l)→wpList P ops Q rest b X):wpList P ops Q (o::rest) a X:=
 wpList_step fun K i=>by rw[e];exact i _ _ (by rw[h];exact k _ (m.put j undef))
theorem no {ds:List Deferred} {P:Program} {ops:Array Oper} {rest:List Oper} {o:Oper} {a:Act} {Q:Exit→Act→World→Prop} {X:World} {N d:Nat} {l:List (Nat × Value)} {j t:Nat} {b c:Bool} (ha:Has ds a N l) (k:∀a',Has ds a' N ((d,undef)::l)→wpList P ops Q rest a' X) (hg:o.guard=some (j,b):=by exact rfl) (hj:(ops[j]?).bind (·.dst)=some t:=by exact rfl) (ht:look l t=some (.bool c):=by exact rfl) (hc:c=!b:=by assumption) (hd:o.dst=some d:=by exact rfl) (hN:Nat.blt d N=true:=by exact rfl):wpList P ops Q (o::rest) a X:=cg ha (nF ha _ hg hj ht hc) hd hN k
theorem sy {ds:List Deferred} {P:Program} {ops:Array Oper} {rest:List Oper} {o:Oper} {a:Act} {Q:Exit→Act→World→Prop} {X:World} {N d:Nat} {l:List (Nat × Value)} {X':World} {j t:Nat} {b c:Bool} {v:Value} (ha:Has ds a N l) (hx:(execOp a.eval o).run P X=.ok (.value v) X') (k:∀a',Has ds a' N ((d,v)::l)→wpList P ops Q rest a' X') (hg:o.guard=some (j,b):=by exact rfl) (hj:(ops[j]?).bind (·.dst)=some t:=by exact rfl) (ht:look l t=some (.bool c):=by exact rfl) (hc:c=b:=by assumption) (hd:o.dst=some d:=by exact rfl) (hN:Nat.blt d N=true:=by exact rfl):wpList P ops Q (o::rest) a X:=aT ha (ao ha _ hg hj ht hc) hx hd hN k
theorem lP (h:Region.wanted o (yielded ops a.tmps)=true) (hx:(execOp a.eval o).run P X=.ok .skip X') (e:o.dst=none) (k:wpList P ops Q rest a X'):wpList P ops Q (o::rest) a X:=
 gy h fun K b=>by
  unfold Oper.wp;rw[hx];exact b _ _ (by rw[e];exact k)
theorem kr {f:FuncId} {args:Array Value} {R:Ending→World→Prop} (j:Has ds a N l) (h:Region.wanted o (yielded ops a.tmps)=true) (hx:(execOp a.eval o).run P X=.ok (.enter f args) X) (p:o.dst=some d) (i:Nat.blt d N=true)
 (m:Calls P f args X R) (k:∀e X',R e X'→∃v,e=.returned v∧∀b,Has ds b N ((d,v)::l)→wpList P ops Q rest b X'):wpList P ops Q (o::rest) a X:=
 gy h fun K r=>by
  unfold Oper.wp;rw[hx];refine m.mono fun e X' n=>?_;obtain⟨v,rfl,q⟩:=k e X' n;exact r _ _ (by rw[p];exact q _ (j.put i v))
theorem ct {f:FuncId} {args:Array Value} (r:Has ds a N l) (j:Region.wanted o (yielded ops a.tmps)=true) (hx:(execOp a.eval o).run P X=.ok (.enter f args) X) (m:o.dst=some d) (q:Nat.blt d N=true)
 (i:Calls P f args X fun e X'=>e=.returned v∧X=X') (k:∀b,Has ds b N ((d,v)::l)→wpList P ops Q rest b X):wpList P ops Q (o::rest) a X:=
 kr r j hx m q i fun e X' ⟨p,n⟩=>⟨v,p,fun b h=>by subst n;exact k b h⟩
theorem dk {M:List Nat} {w:World} {L:List Ent} {f:FuncId} {args:Array Value} (n:Has ds a N l) (i:Region.wanted o (yielded ops a.tmps)=true) (hx:(execOp a.eval o).run P X=.ok (.enter f args) X) (r:o.dst=some d) (m:Nat.blt d N=true)
 (q:St M w X L) (p:Calls P f args X fun e X'=>e=.returned v∧Below X.heap.size X X') (k:∀b X',Has ds b N ((d,v)::l)→St M w X' L→wpList P ops Q rest b X'):wpList P ops Q (o::rest) a X:=
 kr n i hx r m p fun e X' ⟨j,s⟩=>⟨v,j,fun b h=>k b X' h (q.grow s)⟩
theorem oU {M:List Nat} {w:World} {L:List Ent} {f:FuncId} {args:Array Value} {B n sz:Nat} {T:TypeId} {xs:List Value} (s:Has ds a N l) (p:Region.wanted o (yielded ops a.tmps)=true) (hx:(execOp a.eval o).run P X=.ok (.enter f args) X) (y:o.dst=some d) (r:Nat.blt d N=true)
 (u:St M w X L) (t:Calls P f args X fun e X'=>∃A c,e=.returned (.slice A n c)∧X'.ownsRow B T sz (.slice A n c) n xs∧Below X.heap.size X X') (hB:X.heap.size≤B)
 (k:∀A c h X',Has ds h N ((d,.slice A n c)::l)→St M w X' (.row (.slice A n c) n T sz xs::L)→wpList P ops Q rest h X'):wpList P ops Q (o::rest) a X:=
 kr s p hx y r t fun e X' ⟨A,c,q,i,z⟩=>⟨_,q,fun h j=>k A c h X' j (u.add z (a6 i (Nat.zero_le _)) (fun b m=>⟨Nat.le_trans hB (i.lt b m).1,(i.lt b m).2⟩))⟩
theorem bV {M:List Nat} {w:World} {L:List Ent} {cs:Array Value} {T:TypeId} {f:Nat→Value} (n:Has ds a N l) (j:Region.wanted o (yielded ops a.tmps)=true) (hx:(execOp a.eval o).run P X=.ok (.value (f X.heap.size)) (X.alloc (.cells cs T))) (p:o.dst=some d) (m:Nat.blt d N=true)
 (i:St M w X L) (k:∀b e X',w.heap.size≤b→Has ds e N ((d,f b)::l)→St M w X' (.box b cs T::L)→wpList P ops Q rest e X'):wpList P ops Q (o::rest) a X:=
 aT n j hx p m fun e h=>k X.heap.size e _ i.size h (i.add (eV (Below.refl _ _) _) (Box.new X cs T) (fun b q=>by cases q;simp))
theorem C2 (n:Nat) (R:Act→World→Prop) (z:wpList P ops (fun e b j=>match e with | .normal=>R b j | e=>Q e b j) ((o::rest).take n) a X) (y:∀b X',R b X'→wpList P ops Q ((o::rest).drop n) b X'):wpList P ops Q (o::rest) a X:=by
 have key:∀(p i:List Oper) (a:Act) (X:World),wpList P ops (fun e b j=>match e with | .normal=>R b j | e=>Q e b j) p a X→(∀b X',R b X'→wpList P ops Q i b X')→wpList P ops Q (p ++ i) a X:=by
  intro p
  induction p with
  | nil=>intro i a X h m;exact m a X h
  | cons x p ih=>
   intro i a X h m;unfold wpList at h;rw[List.cons_append];unfold wpList
   split
   · rename_i s
     rw[if_pos s] at h;have k:LetsOut (fun e b j=>match e with | .normal=>R b j | e=>Q e b j)→LetsOut Q:=fun ⟨B,w0,A⟩=>⟨B,w0,A⟩;rcases h with h | ⟨z,y⟩
     · left
       unfold Oper.wp at h ⊢;generalize (execOp a.eval x).run P X=r at *
       cases r with
       | ok nx j=>
        cases nx<;>simp only[Oper.upon] at h ⊢
        case value u=>exact ih i _ _ h m
        case skip=>exact ih i _ _ h m
        case defer d=>exact ih i _ _ h m
        case enter f args=>
         exact h.mono fun e t q=>by
          cases e with
          | returned u=>exact ih i _ _ q m
          | panicked ch=>exact q
          | outgrown=>exact k q
        case row row args=>exact h.mono fun u t q=>ih i _ _ q m
       | halt x j=>cases x<;>simp only[Oper.upon] at h ⊢<;>exact h
     · exact .inr ⟨z,k y⟩
   · rename_i s
     rw[if_neg s] at h;exact ih i _ _ h m
 have:=key ((o::rest).take n) ((o::rest).drop n) a X z y
 rwa [List.take_append_drop] at this
end
section
variable {P:Program} {ρ:Operand→Value} {X:World} {d:Option Tmp} {ty:TypeId} {ps:String} {af:Array Edge} {g:Option (Nat × Bool)}
theorem bQ {x:Operand} {v:Value} (hx:ρ x=v):(execOp ρ ⟨d,.move x,ty,ps,af,g⟩).run P X=.ok (.value v) X:=by subst hx;rfl
theorem ns {x:Operand} {v:Value} (hx:ρ x=v):(execOp ρ ⟨d,.assign x,ty,ps,af,g⟩).run P X=.ok (.value v) X:=by subst hx;rfl
theorem cr {c x y:Operand} {b:Bool} {v:Value} (e:ρ c=.bool b) (h:b=true) (hx:ρ x=v):(execOp ρ ⟨d,.pick c x y,ty,ps,af,g⟩).run P X=.ok (.value v) X:=by
 subst hx h;simp[execOp,e,asBool]
theorem nv {c x y:Operand} {b:Bool} {v:Value} (e:ρ c=.bool b) (h:b=false) (i:ρ y=v):(execOp ρ ⟨d,.pick c x y,ty,ps,af,g⟩).run P X=.ok (.value v) X:=by
 subst i h;simp[execOp,e,asBool]
theorem eO {c x y:Operand} {b u:Bool} {v:Value} (e:ρ c=.bool b) (hx:ρ x=v) (h:b=true→v=.bool u) (i:ρ y=.bool false):(execOp ρ ⟨d,.pick c x y,ty,ps,af,g⟩).run P X=.ok (.value (.bool (b&&u))) X:=by
 cases b
 · simp[execOp,e,i,asBool]
 · rw[h rfl] at hx;simp[execOp,e,hx,asBool]
theorem cb {x:Operand} {i:Nat} {vs:Array Value} {v:Value} (hx:ρ x=.tuple vs) (b:vs[i]? = some v):(execOp ρ ⟨d,.extract x i,ty,ps,af,g⟩).run P X=.ok (.value v) X:=by
 simp[execOp,hx,Instr.extract,b]
theorem vx {ds:List Deferred} {P:Program} {ops:Array Oper} {rest:List Oper} {a:Act} {Q:Exit→Act→World→Prop} {X:World} {N d:Nat} {l:List (Nat × Value)} {ty:TypeId} {ps:String} {af:Array Edge} {x:Operand} {i:Nat} {vs:Array Value} {v:Value} (ha:Has ds a N l) (k:∀a',Has ds a' N ((d,v)::l)→wpList P ops Q rest a' X) (hx:E2 l x=some (.tuple vs):=by exact rfl) (hi:vs[i]? = some v:=by exact rfl) (hN:Nat.blt d N=true:=by exact rfl):wpList P ops Q (⟨some d,.extract x i,ty,ps,af,none⟩::rest) a X:=aT ha (cW _ _ rfl) (cb (ha.ev hx) hi) rfl hN k
def nE (P:Program) (s:TypeId) (k:Nat):Option Nat:=match P.underlying s with
 | some (.struct fs)=>(fs[k]?).bind fun f=>(P.info? f.type).bind fun i=>if i.size=0 then none else some f.offset
 | _=>none
theorem el (b o n:Nat):(⟨b,o,none⟩:Addr).add n=⟨b,o+n,none⟩:=by unfold Addr.add;split<;>simp_all
theorem mc {s:TypeId} {x:Operand} {k b o off j:Nat} (hf:nE P s k=some off) (hx:ρ x=.pointer (some ⟨b,o,none⟩)) (e:o+off=j):(execOp ρ ⟨d,.fieldAddr s x k,ty,ps,af,g⟩).run P X=.ok (.value (.pointer (some ⟨b,j,none⟩))) X:=by
 subst e;unfold nE at hf
 cases hu:P.underlying s with
 | none=>rw[hu] at hf;cases hf
 | some td=>
  rw[hu] at hf
  cases td<;>try (cases hf)
  rename_i m
  simp only at hf
  cases hk:m[k]? with
  | none=>rw[hk] at hf;cases hf
  | some f=>
   rw[hk] at hf;simp only[Option.bind_some] at hf
   cases hi:P.info? f.type with
   | none=>rw[hi] at hf;cases hf
   | some i=>
    rw[hi] at hf;simp only[Option.bind_some] at hf
    split at hf
    · cases hf
    · rename_i h
      injection hf with hf;subst hf;simp[execOp,hx,Instr.fieldAt,run_underlying hu,hk,Instr.sureAddr,fieldPlace,sizeOf,typeInfo,hi,h,el]
theorem vf {ds:List Deferred} {P:Program} {ops:Array Oper} {rest:List Oper} {a:Act} {Q:Exit→Act→World→Prop} {X:World} {N d:Nat} {l:List (Nat × Value)} {ty:TypeId} {ps:String} {af:Array Edge} {s:TypeId} {x:Operand} {kk b oo:Nat} (ha:Has ds a N l) (off j:Nat) (k:∀a',Has ds a' N ((d,.pointer (some ⟨b,j,none⟩))::l)→wpList P ops Q rest a' X) (hx:E2 l x=some (.pointer (some ⟨b,oo,none⟩)):=by exact rfl) (hj:oo+off=j:=by exact rfl) (hN:Nat.blt d N=true:=by exact rfl) (hf:nE P s kk=some off:=by kernel_rfl):wpList P ops Q (⟨some d,.fieldAddr s x kk,ty,ps,af,none⟩::rest) a X:=aT ha (cW _ _ rfl) (mc hf (ha.ev hx) hj) rfl hN k
theorem fx {s:TypeId} {x:Operand} {k b o:Nat} (off j:Nat) (hx:ρ x=.pointer (some ⟨b,o,none⟩)) (hj:o+off=j:=by exact rfl) (hf:nE P s k=some off:=by kernel_rfl):(execOp ρ ⟨d,.fieldAddr s x k,ty,ps,af,g⟩).run P X=.ok (.value (.pointer (some ⟨b,j,none⟩))) X:=mc hf hx hj
theorem fy {s:TypeId} {x:Operand} {k b o j:Nat} (off:Nat) (hx:ρ x=.pointer (some ⟨b,o,none⟩)) (hj:o+off=j:=by exact rfl) (hf:nE P s k=some off:=by kernel_rfl):(execOp ρ ⟨d,.fieldAddr s x k,ty,ps,af,g⟩).run P X=.ok (.value (.pointer (some ⟨b,j,none⟩))) X:=mc hf hx hj
def rv (P:Program) (t:TypeId):Option Bool:=(P.underlying t).map fun | .struct _ | .array _ _=>true | _=>false
theorem r9 {t:TypeId} {b:Bool} (h:rv P t=some b):(isAgg t).run P X=.ok b X:=by
 unfold rv at h
 cases hu:P.underlying t with
 | none=>rw[hu] at h;cases h
 | some td=>
  rw[hu] at h;injection h with h;subst h
  cases td<;>simp[isAgg,run_underlying hu]
theorem tL {t:TypeId} {x:Operand} {p:Addr} {v:Value} (ht:rv P t=some false) (hx:ρ x=.pointer (some p)) (b:X.cell? p=some v):(execOp ρ ⟨d,.load t x,ty,ps,af,g⟩).run P X=.ok (.value v) X:=by
 simp[execOp,hx,Instr.loadAt,Instr.sureAddr,loadVar,r9 ht,run_load,b]
theorem lx {t:TypeId} {x:Operand} {p:Addr} {v:Value} (hx:ρ x=.pointer (some p)) (hc:X.cell? p=some v) (ht:rv P t=some false:=by kernel_rfl):(execOp ρ ⟨d,.load t x,ty,ps,af,g⟩).run P X=.ok (.value v) X:=tL ht hx hc
theorem ag {t:TypeId} {x:Operand} {b j:Nat} {vs:List Value} (ht:rv P t=some true) (e:(P.info? t).map (·.size)=some vs.length) (hx:ρ x=.pointer (some ⟨b,j,none⟩)) (h:∀k u,vs[k]? = some u→X.cell? ⟨b,j+k,none⟩=some u) :
 (execOp ρ ⟨d,.load t x,ty,ps,af,g⟩).run P X=.ok (.value (.agg vs.toArray)) X:=by
 have p:=run_loadCells_list (P:=P) X ⟨b,j,none⟩ vs (fun k u m=>by rw[el];exact h k u m)
 cases hq:P.info? t with
 | none=>rw[hq] at e;cases e
 | some i=>
  rw[hq] at e
  have n:i.size=vs.length:=by simpa using e
  simp[execOp,hx,Instr.loadAt,Instr.sureAddr,loadVar,r9 ht,sizeOf,typeInfo,hq,n,p]
theorem Gv {t:TypeId} {x:Operand} {v:Value} (hx:ρ x=v):(execOp ρ ⟨d,.box t x,ty,ps,af,g⟩).run P X=.ok (.value (.pointer (some ⟨X.heap.size,0,none⟩))) (X.alloc (.cells v.cells t)):=by
 subst hx;rfl
theorem nb {ds:List Deferred} {P:Program} {ops:Array Oper} {rest:List Oper} {a:Act} {Q:Exit→Act→World→Prop} {X:World} {N d:Nat} {l:List (Nat × Value)} {ty:TypeId} {ps:String} {af:Array Edge} {M:List Nat} {w:World} {L:List Ent} {t:TypeId} {x:Operand} {v:Value} (h:Has ds a N l) (hx:E2 l x=some v) (i:Nat.blt d N=true) (j:St M w X L) (k:∀b e X',w.heap.size≤b→Has ds e N ((d,.pointer (some ⟨b,0,none⟩))::l)→St M w X' (.box b v.cells t::L)→wpList P ops Q rest e X'):wpList P ops Q (⟨some d,.box t x,ty,ps,af,none⟩::rest) a X:=bV h (cW _ _ rfl) (f:=fun b=>.pointer (some ⟨b,0,none⟩)) (Gv (h.ev hx)) rfl i j k
theorem dM {t:TypeId} {z:Value} (b:(P.info? t).map (·.zero)=some (some z)):(execOp ρ ⟨d,.alloc t,ty,ps,af,g⟩).run P X=.ok (.value (.pointer (some ⟨X.heap.size,0,none⟩))) (X.alloc (.cells z.cells t)):=by
 cases hq:P.info? t with
 | none=>rw[hq] at b;cases b
 | some i=>
  rw[hq] at b
  have e:i.zero=some z:=by simpa using b
  simp[execOp,Instr.alloc,zeroValue,typeInfo,hq,e,newVar,newRow]
theorem na {ds:List Deferred} {P:Program} {ops:Array Oper} {rest:List Oper} {a:Act} {Q:Exit→Act→World→Prop} {X:World} {N d:Nat} {l:List (Nat × Value)} {ty:TypeId} {ps:String} {af:Array Edge} {M:List Nat} {w:World} {L:List Ent} {t:TypeId} (z:Value) (ha:Has ds a N l) (hN:Nat.blt d N=true) (hS:St M w X L) (k:∀b a' X',w.heap.size≤b→Has ds a' N ((d,.pointer (some ⟨b,0,none⟩))::l)→St M w X' (.box b z.cells t::L)→wpList P ops Q rest a' X') (hz:(P.info? t).map (·.zero)=some (some z):=by kernel_rfl):wpList P ops Q (⟨some d,.alloc t,ty,ps,af,none⟩::rest) a X:=bV ha (cW _ _ rfl) (f:=fun b=>.pointer (some ⟨b,0,none⟩)) (dM hz) rfl hN hS k
theorem tK {x:Operand} {t:TypeId} {b:Bool} (hx:ρ x=.bool b):(execOp ρ ⟨d,.unOp .not t x,ty,ps,af,g⟩).run P X=.ok (.value (.bool (!b))) X:=by
 simp[execOp,hx,Op.unary]
theorem de {n:Int} (h:-9223372036854775808≤n∧n<9223372036854775808):IntKind.i64.wrap n=n:=by rw[IntKind.wrap_i64];omega
theorem cy {x y:Operand} {t b:TypeId} {m n:Int} (hx:ρ x=ae m) (e:ρ y=ae n) (h:-9223372036854775808≤m+n∧m+n<9223372036854775808):(execOp ρ ⟨d,.binOp .add t x y b,ty,ps,af,g⟩).run P X=.ok (.value (ae (m+n))) X:=by
 simp[execOp,hx,e,eqGuard,binOp,Op.intArith,de h]
theorem fp {x y:Operand} {t b:TypeId} {m n:Int} (hx:ρ x=ae m) (e:ρ y=ae n) (h:-9223372036854775808≤m-n∧m-n<9223372036854775808):(execOp ρ ⟨d,.binOp .sub t x y b,ty,ps,af,g⟩).run P X=.ok (.value (ae (m-n))) X:=by
 simp[execOp,hx,e,eqGuard,binOp,Op.intArith,de h]
theorem sV {x y:Operand} {t e:TypeId} {m n:Int} (hx:ρ x=ae m) (b:ρ y=ae n):(execOp ρ ⟨d,.binOp .sub t x y e,ty,ps,af,g⟩).run P X=.ok (.value (ae (IntKind.i64.wrap (m-n)))) X:=by
 simp[execOp,hx,b,eqGuard,binOp,Op.intArith]
theorem gg {x y:Operand} {t b:TypeId} {m n:Int} (hx:ρ x=ae m) (e:ρ y=ae n) (h:-9223372036854775808≤m*n∧m*n<9223372036854775808):(execOp ρ ⟨d,.binOp .mul t x y b,ty,ps,af,g⟩).run P X=.ok (.value (ae (m*n))) X:=by
 simp[execOp,hx,e,eqGuard,binOp,Op.intArith,de h]
theorem lA {x y:Operand} {t i:TypeId} {m n:Int} (hx:ρ x=ae m) (j:ρ y=ae n) (h:0≤m∧m<9223372036854775808∧0<n):(execOp ρ ⟨d,.binOp .quo t x y i,ty,ps,af,g⟩).run P X=.ok (.value (ae (m / n))) X:=by
 have b:n≠0:=by omega
 have e:m.tdiv n=m / n:=Int.tdiv_eq_ediv_of_nonneg h.1;have Y:0≤m / n:=Int.ediv_nonneg h.1 (by omega);have Y:m / n≤m:=Int.ediv_le_self n h.1;simp[execOp,hx,j,eqGuard,binOp,Op.intDiv,b,e,de (n:=m / n) (by omega)]
theorem kY {x y:Operand} {t i:TypeId} {m n:Int} (hx:ρ x=ae m) (j:ρ y=ae n) (h:0≤m∧0<n):(execOp ρ ⟨d,.binOp .rem t x y i,ty,ps,af,g⟩).run P X=.ok (.value (ae (m % n))) X:=by
 have b:n≠0:=by omega
 have e:m.tmod n=m % n:=Int.tmod_eq_emod_of_nonneg h.1;simp[execOp,hx,j,eqGuard,binOp,Op.intDiv,b,e]
theorem yh {x y:Operand} {t b:TypeId} {m n:Int} (hx:ρ x=ae m) (e:ρ y=ae n) (h:n≠0):(execOp ρ ⟨d,.binOp .rem t x y b,ty,ps,af,g⟩).run P X=.ok (.value (ae (m.tmod n))) X:=by
 simp[execOp,hx,e,eqGuard,binOp,Op.intDiv,h]
theorem mW {x y:Operand} {t b:TypeId} {k:IntKind} {m n:Int} (hx:ρ x=.int k m) (e:ρ y=.int k n):(execOp ρ ⟨d,.binOp .lss t x y b,ty,ps,af,g⟩).run P X=.ok (.value (.bool (decide (m<n)))) X:=by
 simp[execOp,hx,e,eqGuard,binOp,Op.intCmp]
theorem mU {x y:Operand} {t b:TypeId} {k:IntKind} {m n:Int} (hx:ρ x=.int k m) (e:ρ y=.int k n):(execOp ρ ⟨d,.binOp .leq t x y b,ty,ps,af,g⟩).run P X=.ok (.value (.bool (decide (m≤n)))) X:=by
 simp[execOp,hx,e,eqGuard,binOp,Op.intCmp]
theorem Dg {x y:Operand} {t b:TypeId} {k:IntKind} {m n:Int} (hx:ρ x=.int k m) (e:ρ y=.int k n):(execOp ρ ⟨d,.binOp .gtr t x y b,ty,ps,af,g⟩).run P X=.ok (.value (.bool (decide (m>n)))) X:=by
 simp[execOp,hx,e,eqGuard,binOp,Op.intCmp]
theorem Cz {x y:Operand} {t b:TypeId} {k:IntKind} {m n:Int} (hx:ρ x=.int k m) (e:ρ y=.int k n):(execOp ρ ⟨d,.binOp .geq t x y b,ty,ps,af,g⟩).run P X=.ok (.value (.bool (decide (m≥n)))) X:=by
 simp[execOp,hx,e,eqGuard,binOp,Op.intCmp]
theorem eI {x y:Operand} {t b:TypeId} {k:IntKind} {m n:Int} (hx:ρ x=.int k m) (e:ρ y=.int k n):(execOp ρ ⟨d,.binOp .eql t x y b,ty,ps,af,g⟩).run P X=.ok (.value (.bool (m==n))) X:=by
 simp[execOp,hx,e,eqGuard,binOp,Op.intCmp]
theorem kW {x y:Operand} {t b:TypeId} {k:IntKind} {m n:Int} (hx:ρ x=.int k m) (e:ρ y=.int k n):(execOp ρ ⟨d,.binOp .neq t x y b,ty,ps,af,g⟩).run P X=.ok (.value (.bool (m != n))) X:=by
 simp[execOp,hx,e,eqGuard,binOp,Op.intCmp]
theorem xv (x y:ByteArray):(x.toList==y.toList)=decide (x=y):=by
 rw[Bool.eq_iff_iff,beq_iff_eq,decide_eq_true_eq]
 constructor
 · intro h
   have e:∀z:ByteArray,z.toList=z.data.toList:=fun z=>ByteArray.toList_eq z;rw[e,e] at h;exact dU h
 · rintro rfl;rfl
theorem ku {x y:Operand} {t e:TypeId} {m n:ByteArray} (hx:ρ x=.string m) (b:ρ y=.string n):(execOp ρ ⟨d,.binOp .eql t x y e,ty,ps,af,g⟩).run P X=.ok (.value (.bool (decide (m=n)))) X:=by
 simp[execOp,hx,b,eqGuard,binOp,Op.stringOp,xv]
theorem oJ {x y:Operand} {t e:TypeId} {m n:ByteArray} (hx:ρ x=.string m) (b:ρ y=.string n):(execOp ρ ⟨d,.binOp .neq t x y e,ty,ps,af,g⟩).run P X=.ok (.value (.bool (!decide (m=n)))) X:=by
 simp[execOp,hx,b,eqGuard,binOp,Op.stringOp,xv]
theorem wo {x:Operand} {t:TypeId} {n c:Nat} {A:Option Addr} {e:TypeId} (ht:P.underlying t=some (.slice e)) (hx:ρ x=.slice A n c):(execOp ρ ⟨d,.call ⟨.builtin .len,#[x],#[t]⟩,ty,ps,af,g⟩).run P X=.ok (.value (ae n)) X:=by
 simp[execOp,resolve,invoke,builtin,Builtin.len_,hx,run_underlying ht,goInt]
theorem kB {x:Operand} {t:TypeId} {s:ByteArray} (ht:P.underlying t=some .string) (hx:ρ x=.string s):(execOp ρ ⟨d,.call ⟨.builtin .len,#[x],#[t]⟩,ty,ps,af,g⟩).run P X=.ok (.value (ae s.size)) X:=by
 simp[execOp,resolve,invoke,builtin,Builtin.len_,hx,run_underlying ht,goInt]
theorem av {x y:Operand} {t e:TypeId} {n c b o i sz j:Nat} {m:Int} (ht:P.underlying t=some (.slice e)) (h:(P.info? e).map (·.size)=some sz) (hx:ρ x=.slice (some ⟨b,o,none⟩) n c) (s:ρ y=ae m) (hm:m=(i:Int)) (r:i<n) (k:o+i*sz=j) :
 (execOp ρ ⟨d,.indexAddr t x y,ty,ps,af,g⟩).run P X=.ok (.value (.pointer (some ⟨b,j,none⟩))) X:=by
 subst hm k
 cases hq:P.info? e with
 | none=>rw[hq] at h;cases h
 | some q=>
  rw[hq] at h
  have p:q.size=sz:=by simpa using h
  have u:(0:Int)≤i∧(i:Int)<n:=by omega
  simp[execOp,hx,s,Instr.indexAt,asIntOf,run_underlying ht,r,sizeOf,typeInfo,hq,p,el]
theorem sj {x y:Operand} {t:TypeId} {s:ByteArray} {i:Nat} {m:Int} (ht:P.underlying t=some .string) (hx:ρ x=.string s) (h:ρ y=ae m) (hm:m=(i:Int)) (b:i<s.size) :
 (execOp ρ ⟨d,.index t x y,ty,ps,af,g⟩).run P X=.ok (.value (.int .u8 ((bl s).getD i 0).toNat)) X:=by
 subst hm
 have e:s[i]? = some s[i]:=by rw[getElem?_pos s i b]
 have e2:(bl s).getD i 0=s[i]:=by
  rw[List.getD_eq_getElem?_getD,List.getElem?_eq_getElem (by rw[aP];exact b)];rfl
 rw[e2];simp[execOp,hx,h,Instr.index,asIntOf,run_underlying ht,e]
theorem bf {x:Operand} {t:TypeId} {s:ByteArray} {j i:Option Operand} {l h:Nat} (ht:P.underlying t=some .string) (hx:ρ x=.string s) (b:match j with | some y=>ρ y=ae (l:Nat) | none=>l=0) (e:match i with | some y=>ρ y=ae (h:Nat) | none=>h=s.size) (m:l≤h) (k:h≤s.size) :
 (execOp ρ ⟨d,.slice t x j i none,ty,ps,af,g⟩).run P X=.ok (.value (.string (s.extract l h))) X:=by
 cases j<;>cases i<;>simp only at b e
 · subst b e;simp[execOp,hx,Instr.sliceAt,Instr.slice,run_underlying ht,Instr.sliceBounds]
 · subst b;simp[execOp,hx,e,Instr.sliceAt,Instr.slice,run_underlying ht,Instr.sliceBounds,Instr.sliceBound,asIntOf,k]
 · subst e;simp[execOp,hx,b,Instr.sliceAt,Instr.slice,run_underlying ht,Instr.sliceBounds,Instr.sliceBound,asIntOf,m]
 · simp[execOp,hx,b,e,Instr.sliceAt,Instr.slice,run_underlying ht,Instr.sliceBounds,Instr.sliceBound,asIntOf,m,k]
theorem en {x:Operand} {s t:TypeId} {k b:IntKind} {n:Int} {k0:IntKind} (e:(P.underlying s).map (fun | .int _=>true | _=>false)=some true) (ht:P.underlying t=some (.int b)) (hx:ρ x=.int k n):(execOp ρ ⟨d,.convert s t x,ty,ps,af,g⟩).run P X=.ok (.value (.int b (b.wrap n))) X:=by
 cases hq:P.underlying s with
 | none=>rw[hq] at e;cases e
 | some td=>
  simp[execOp,hx,convert,run_underlying ht,run_underlying hq,Conv.intToInt]
theorem az {f:FuncId} {args:Array Operand} {ts:Array TypeId} {vs:List Value} (hf:∀(h:Array Value) (W:World),(callFunc f h).run P W=.ok (.enter f h) W) (i:args.toList.map ρ=vs) (b:ρ (.func f)=.func (.func f) #[] #[]) :
 (execOp ρ ⟨d,.call ⟨.value (.func f),args,ts⟩,ty,ps,af,g⟩).run P X=.ok (.enter f vs.toArray) X:=by
 have e:args.map ρ=vs.toArray:=by rw[←i];apply Array.ext';simp
 simp[execOp,resolve,e,b,Deferred.ofValue,invoke,hf]
end
open Go.RowKit Go.Sort
variable {ds:List Deferred}
section
variable {P:Program} {Q:Exit→Act→World→Prop} {a:Act} {X:World} {N:Nat} {l:List (Nat × Value)}
theorem aq {f:FuncId} {fn:Func} {c:Code} {vs:List Value} {R:Ending→World→Prop} (hf:P.funcs[f]? = some fn) (e:fn.body=some c) (i:fn.ntmps=N) (b:Nat.ble vs.length N=true)
 (h:∀a,Has [] a N (zE 0 vs)→c.wp P (bodyPost P fn R) a X):Calls P f vs.toArray X R:=by
 refine calls_of_wp hf e ?_;rw[i];exact h _ (ve b)
theorem ai {x y:Code} (h:x.wp P (Exit.then (y.wp P Q) Q) a X):(Code.seq x y).wp P Q a X:=wp_seq h
theorem an {id:Nat} {b:List Oper} (h:wpList P b.toArray Q b a X):(Code.region id b.toArray false).wp P Q a X:=wp_region_lit h
theorem ah {ops:Array Oper} (h:Q .normal a X):wpList P ops Q [] a X:=h
theorem ak {c:Operand} {x y:Code} {t:Bool} (b:a.eval c=.bool t) (ht:t=true→x.wp P Q a X) (hf:t=false→y.wp P Q a X):(Code.cond c x y).wp P Q a X:=wp_cond_split b ht hf
theorem jm {c:Operand} {x y:Code} {t:Bool} (b:a.eval c=.bool t) (ht:t=false) (h:y.wp P Q a X):(Code.cond c x y).wp P Q a X:=wp_cond_split b (fun h'=>by rw[ht] at h';cases h') (fun _=>h)
theorem aj {next:Act→World→Prop} (h:next a X):Exit.then next Q .normal a X:=h
theorem mM {P:Program} {ops:Array Oper} {a:Act} {X:World} {Q:Exit→Act→World→Prop} {id:Nat} {b:List Oper} {y:Code} (h:wpList P b.toArray (Exit.then (y.wp P Q) Q) b a X):wpList P ops (Exit.then ((Code.seq (.region id b.toArray false) y).wp P Q) Q) [] a X:=ah (aj (ai (an h)))
theorem ez {id:Nat} (h:Q .normal a X):Exit.inBlock id Q .normal a X:=h
theorem oP {id:Nat} (h:Q .normal a X):Exit.inBlock id Q (.exit id) a X:=by show(if id=id then _ else _);rw[if_pos rfl];exact h
theorem xy {id id':Nat} (hne:Nat.beq id' id=false) (h:Q (.exit id') a X):Exit.inBlock id Q (.exit id') a X:=by
 show(if id'=id then _ else _);rw[if_neg (Nat.ne_of_beq_eq_false hne)];exact h
theorem dt {next:Act→World→Prop} {id:Nat} (h:Q (.exit id) a X):Exit.then next Q (.exit id) a X:=h
def jE (l:List (Nat × Value)):List Nat→List (Nat × Value)
 | []=>[]
 | k::ks=>match look l k with | some v=>(k,v)::jE l ks | none=>jE l ks
theorem aY {ι:Type} {c:Code} {M:List Nat} {w:World} {L:List Ent} (r:Has ds a N l) (A:St M w X L) (ks:List Nat) (J:ι→List (Nat × Value)) (F:ι→Prop) (E:ι→List Ent→List Ent) (μ:ι→Nat) (k:ι)
 (u:F k) (p:xA l (J k ++ jE l ks)) (q:St M w X (E k L))
 (round:∀i h X',F i→Has ds h N (J i ++ jE l ks)→St M w X' (E i L)→c.wp P (Exit.then (fun a2 X2=>∃b,μ b<μ i∧F b∧Has ds a2 N (J b ++ jE l ks)∧St M w X2 (E b L)) Q) h X'):(Code.loop c).wp P Q a X:=by
 refine wp_loop_ghost (fun n h X'=>∃i,μ i=n∧F i∧Has ds h N (J i ++ jE l ks)∧St M w X' (E i L)) (μ k) ⟨k,rfl,u,r.re p,q⟩ ?_
 rintro n h X' ⟨i,rfl,hF,s,m⟩
 refine wp_mono (round i h X' hF s m) ?_;intro e a2 X2 j
 cases e with
 | normal=>
  obtain⟨b,y,t,h3,z⟩:=j;exact⟨μ b,y,b,rfl,t,h3,z⟩
 | exit id=>exact j
 | goto l=>exact j
 | ret=>exact j
 | panic ch=>exact j
 | outgrown=>exact j
theorem th {c:Code} (R:Act→World→Prop) (j:c.wp P (Exit.then R Q) a X) (i:∀h X',R h X'→Q .normal h X'):c.wp P Q a X:=by
 refine wp_mono j ?_;intro e h X' b
 cases e with
 | normal=>exact i h X' b
 | exit id=>exact b
 | goto l=>exact b
 | ret=>exact b
 | panic ch=>exact b
 | outgrown=>exact b
theorem Has.getD {t:Nat} {v:Value} (b:Has ds a N l) (h:look l t=some v):a.tmps.getD t undef=v:=by
 rw[Array.getD_eq_getD_getElem?,b.slot t v h];rfl
theorem pT {M:List Nat} {w:World} {L:List Ent} {i b:Nat} {cs:Array Value} {T ty:TypeId} (j:St M w X L) (k:L[i]? = some (.box b cs T)) (ht:rv P ty=some true) (h:(P.info? ty).map (·.size)=some cs.toList.length) :
 (loadVar ty ⟨b,0,none⟩).run P X=.ok (.agg cs) X:=by
 unfold rv at ht
 cases hu:P.underlying ty with
 | none=>rw[hu] at ht;cases ht
 | some td=>
  rw[hu] at ht
  have e:(P.info? ty).map (·.size)=some cs.size:=by rw[h];simp
  cases td<;>first | exact run_loadVar_row X b T ty cs (0,0) _ (j.at_ k) hu rfl e | (simp at ht)
variable {fn:Func} {R:Ending→World→Prop}
theorem Hu (b:Has [] a N l) (hr:fn.results=#[]) (h:R (.returned (.tuple #[])) X):bodyPost P fn R .normal a X:=
 ⟨b.defers,.tuple #[],by simp[results,hr],h⟩
theorem Fi (b:Has [] a N l) (hr:fn.results=#[]) (h:R (.returned (.tuple #[])) X):bodyPost P fn R .ret a X:=
 ⟨b.defers,.tuple #[],by simp[results,hr],h⟩
theorem aI {t:Nat} {v:Value} (b:Has [] a N l) (hr:fn.results=#[.tmp t]) (e:look l t=some v) (h:R (.returned v) X):bodyPost P fn R .ret a X:=
 ⟨b.defers,v,by have:=b.getD e;simp only[Array.getD_eq_getD_getElem?] at this;simp[results,hr,this],h⟩
theorem cd {t u:Nat} {v x:Value} (b:Has [] a N l) (hr:fn.results=#[.tmp t,.tmp u]) (j:look l t=some v) (hx:look l u=some x) (h:R (.returned (.tuple #[v,x])) X):bodyPost P fn R .ret a X:=
 ⟨b.defers,_,by have i:=b.getD j;have e:=b.getD hx;simp only[Array.getD_eq_getD_getElem?] at i e;simp[results,hr,i,e],h⟩
theorem lE {t u r:Nat} {v x y:Value} (b:Has [] a N l) (hr:fn.results=#[.tmp t,.tmp u,.tmp r]) (k:look l t=some v) (hx:look l u=some x) (j:look l r=some y) (h:R (.returned (.tuple #[v,x,y])) X):bodyPost P fn R .ret a X:=
 ⟨b.defers,_,by have i:=b.getD k;have e:=b.getD hx;have h3:=b.getD j;simp only[Array.getD_eq_getD_getElem?] at i e h3;simp[results,hr,i,e,h3],h⟩
theorem mz {M:List Nat} {w:World} {L:List Ent} {p b i:Nat} {cs:Array Value} {T ty:TypeId} (j:Has [] a N l) (hr:fn.results=#[.cell p ty]) (q:look l p=some (.pointer (some ⟨b,0,none⟩))) (m:St M w X L) (n:L[i]? = some (.box b cs T)) (ht:rv P ty=some true) (k:(P.info? ty).map (·.size)=some cs.toList.length) (h:R (.returned (.agg cs)) X):bodyPost P fn R .ret a X:=
 ⟨j.defers,_,by have e:=j.getD q;simp only[Array.getD_eq_getD_getElem?] at e;simp[results,hr,e,asAddr,pT m n ht k],h⟩
theorem br {M:List Nat} {w:World} {L:List Ent} {p b i t:Nat} {v:Value} {cs:Array Value} {T ty:TypeId} (e:Has [] a N l) (hr:fn.results=#[.cell p ty,.tmp t]) (s:look l p=some (.pointer (some ⟨b,0,none⟩))) (r:look l t=some v) (n:St M w X L) (q:L[i]? = some (.box b cs T)) (ht:rv P ty=some true) (m:(P.info? ty).map (·.size)=some cs.toList.length) (h:R (.returned (.tuple #[.agg cs,v])) X):bodyPost P fn R .ret a X:=
 ⟨e.defers,_,by have k:=e.getD s;have j:=e.getD r;simp only[Array.getD_eq_getD_getElem?] at k j;simp[results,hr,k,j,asAddr,pT n q ht m],h⟩
theorem k7 {M:List Nat} {w:World} {L:List Ent} {p b i t u:Nat} {v x:Value} {cs:Array Value} {T ty:TypeId} (e:Has [] a N l) (hr:fn.results=#[.cell p ty,.tmp t,.tmp u]) (s:look l p=some (.pointer (some ⟨b,0,none⟩))) (r:look l t=some v) (hx:look l u=some x) (n:St M w X L) (q:L[i]? = some (.box b cs T)) (ht:rv P ty=some true) (m:(P.info? ty).map (·.size)=some cs.toList.length) (h:R (.returned (.tuple #[.agg cs,v,x])) X):bodyPost P fn R .ret a X:=
 ⟨e.defers,_,by have k:=e.getD s;have j:=e.getD r;have h3:=e.getD hx;simp only[Array.getD_eq_getD_getElem?] at k j h3;simp[results,hr,k,j,h3,asAddr,pT n q ht m],h⟩
end
section
variable {P:Program} {ops:Array Oper} {Q:Exit→Act→World→Prop}
theorem sP {N:Nat} {a:Act} {w:World} {l:List Oper} {s:List (Nat × Value)} (u:Has ds a N s) (fl:List Bool) (nds:List Nd)
 (h:dK P l.toArray (fun X=>Below w.heap.size w X) (fun g=>p8 P l.toArray w Q (l.drop fl.length) nds g []) (pick fl l) a)
 (hB:mB l.toArray fl fl.length N (nds.map fun d=>(d.k,d.deps))=true) (hst:nds.all (fun d=>!d.st)=true) :
 o9 P l Q a w:=by
 obtain⟨afin,A,z⟩:=kc _ _ h;have r:=oV nds afin [] z
 have b:∀d∈nds,d.st=false:=fun d j=>by simpa using List.all_eq_true.1 hst d j
 have hf:((nds.map Nd.lift).filter (·.st))=[]:=by
  rw[List.filter_eq_nil_iff];intro d j;obtain⟨e,i,rfl⟩:=List.mem_map.1 j;show ¬(e.st=true);rw[b e i];simp
 have q:=qg (nds.map Nd.lift) (fun e i f n m=>by
  obtain⟨x,hx,rfl⟩:=List.mem_map.1 i
  rw[show x.lift.st=x.st from rfl,b x hx] at m;cases m)
  (fun e i f n _=>by
   obtain⟨x,hx,rfl⟩:=List.mem_map.1 i;obtain⟨y,B,rfl⟩:=List.mem_map.1 n
   rw[show x.lift.st=x.st from rfl,show y.lift.st=y.st from rfl,b x hx,b y B])
  (nds.map Nd.lift) afin [] (fun d j=>j) r
 rw[hf] at q;refine uQ [] fl ((nds.map Nd.lift).map NdA.lift) (by rw[u.size,List.map_map,List.map_map];exact hB) ⟨afin,?_,q⟩;exact iJ (fun X D=>(D.weaken (O':=fun _ _=>False) (fun x o ⟨p,t,_⟩=>by cases t)).below) _ _ A
theorem aK {id N:Nat} {a:Act} {w:World} {l:List Oper} {b:List (Nat × Value)} (e:Has ds a N b) (fl:List Bool) (nds:List Nd) (hm:P.follows .mixedOrders=true)
 (h:dK P l.toArray (fun X=>Below w.heap.size w X) (fun g=>p8 P l.toArray w Q (l.drop fl.length) nds g []) (pick fl l) a)
 (hB:mB l.toArray fl fl.length N (nds.map fun d=>(d.k,d.deps))=true) (hst:nds.all (fun d=>!d.st)=true) :
 (Code.region id l.toArray true).wp P Q a w:=wp_region_any hm (sP e fl nds h hB hst)
variable {C:World→Prop} {L:Act→Prop} {rest:List Oper} {o:Oper} {a:Act} {N d:Nat} {l:List (Nat × Value)} {v:Value}
theorem ax (h:L a):dK P ops C L [] a:=h
theorem j9 (m:Has ds a N l) (i:Region.wanted o (yielded ops a.tmps)=true) (e:o.dst=some d) (j:Nat.blt d N=true) (hx:∀X,C X→(execOp a.eval o).run P X=.ok (.value v) X)
 (k:∀b,Has ds b N ((d,v)::l)→dK P ops C L rest b):dK P ops C L (o::rest) a:=by
 unfold dK;rw[if_pos i];refine⟨v,fun X h=>?_,by rw[e];exact k _ (m.put j v)⟩;rw[hx X h];exact⟨rfl,rfl⟩
theorem qv {ds:List Deferred} (ha:Has ds a N l) (hx:∀X,C X→(execOp a.eval o).run P X=.ok (.value v) X) (k:∀a',Has ds a' N ((d,v)::l)→dK P ops C L rest a') (hg:o.guard=none:=by rfl) (hd:o.dst=some d:=by rfl) (hN:Nat.blt d N=true:=by rfl):dK P ops C L (o::rest) a:=j9 ha (cW a ops hg) hd hN hx k
theorem k9 {f:FuncId} {args:Array Value} (p:Has ds a N l) (m:Region.wanted o (yielded ops a.tmps)=true) (i:o.dst=some d) (n:Nat.blt d N=true) (hx:∀X,(execOp a.eval o).run P X=.ok (.enter f args) X)
 (h:∀X,C X→Calls P f args X fun e X'=>e=.returned v∧Below X.heap.size X X') (k:∀b,Has ds b N ((d,v)::l)→dK P ops C L rest b):dK P ops C L (o::rest) a:=by
 unfold dK;rw[if_pos m];refine⟨v,fun X j=>?_,by rw[i];exact k _ (p.put n v)⟩;rw[hx X];exact⟨rfl,h X j⟩
theorem oL {f:FuncId} {args:Array Value} (r:Has ds a N l) (n:Region.wanted o (yielded ops a.tmps)=true) (j:o.dst=some d) (q:Nat.blt d N=true) (hx:∀X,(execOp a.eval o).run P X=.ok (.enter f args) X)
 (i:∀X,C X→Calls P f args X fun e X'=>e=.returned v∧X=X') (k:∀h,Has ds h N ((d,v)::l)→dK P ops C L rest h):dK P ops C L (o::rest) a:=
 k9 r n j q hx (fun X m=>(i X m).mono fun e X' ⟨p,b⟩=>⟨p,by subst b;exact Below.refl _ _⟩) k
theorem mn (j:Has ds a N l) (i:Region.wanted o (yielded ops a.tmps)=false) (e:o.dst=some d) (h:Nat.blt d N=true)
 (k:∀b,Has ds b N ((d,undef)::l)→dK P ops C L rest b):dK P ops C L (o::rest) a:=by
 unfold dK;rw[i];exact(by rw[e];exact k _ (j.put h undef):dK P ops C L rest (a.put o.dst undef))
theorem qy {ds:List Deferred} {P:Program} {ops:Array Oper} {rest:List Oper} {o:Oper} {a:Act} {C:World→Prop} {L:Act→Prop} {N d:Nat} {l:List (Nat × Value)} {j t:Nat} {b c:Bool} {v:Value} (ha:Has ds a N l) (hx:∀X,C X→(execOp a.eval o).run P X=.ok (.value v) X) (k:∀a',Has ds a' N ((d,v)::l)→dK P ops C L rest a') (hg:o.guard=some (j,b):=by exact rfl) (hj:(ops[j]?).bind (·.dst)=some t:=by exact rfl) (ht:look l t=some (.bool c):=by exact rfl) (hc:c=b:=by assumption) (hd:o.dst=some d:=by exact rfl) (hN:Nat.blt d N=true:=by exact rfl):dK P ops C L (o::rest) a:=j9 ha (ao ha _ hg hj ht hc) hd hN hx k
theorem tq (n:Nat) (R:Act→Prop) (p:dK P ops C R ((o::rest).take n) a) (m:∀i,R i→dK P ops C L ((o::rest).drop n) i):dK P ops C L (o::rest) a:=by
 have key:∀(e b:List Oper) (a:Act),dK P ops C R e a→(∀i,R i→dK P ops C L b i)→dK P ops C L (e ++ b) a:=by
  intro e
  induction e with
  | nil=>intro b a h j;exact j a h
  | cons x e ih=>
   intro b a h j;unfold dK at h;rw[List.cons_append];unfold dK
   split
   · rename_i k
     rw[if_pos k] at h;obtain⟨v,h3,q⟩:=h;exact⟨v,h3,ih b _ q j⟩
   · rename_i k
     rw[if_neg k] at h;exact ih b _ h j
 have:=key ((o::rest).take n) ((o::rest).drop n) a p m
 rwa [List.take_append_drop] at this
variable {w:World} {tail:List Oper}
theorem eF {nds:List Nd} {k:Nat} {deps:List Nat} {R:Value→World→Prop} {Φ:List (Nat × (World→Prop))} (p:Has ds a N l) (i:ops[k]? = some o) (q:o.dst=some d) (n:Nat.blt d N=true)
 (hst:∀v X X',R v X→Below X.heap.size X X'→R v X') (hx:∀X,Below w.heap.size w X→told deps Φ X→cz P R X ((execOp a.eval o).run P X))
 (m:∀v h,Has ds h N ((d,v)::l)→p8 P ops w Q tail nds h ((k,R v)::Φ)):p8 P ops w Q tail (⟨k,deps,R,false⟩::nds) a Φ:=by
 refine⟨hst,fun o' b X r j=>?_,fun v=>?_⟩
 · rw[i] at b;cases b
   exact hx X r j
 · have e:aU ops k=some d:=by unfold aU;rw[i];exact q
   show p8 P ops w Q tail nds (a.put (aU ops k) v) _;rw[e];exact m v _ (p.put n v)
theorem aV {Φ:List (Nat × (World→Prop))} (h:∀X,Below w.heap.size w X→eG Φ X→wpList P ops Q tail a X):p8 P ops w Q tail [] a Φ:=h
def NewB (B:Nat) (f:Nat→Value) (cs:Array Value) (T:TypeId) (v:Value) (X:World):Prop:=∃b,v=f b∧B≤b∧Box X b cs T
theorem NewB.stable {B:Nat} {f:Nat→Value} {cs:Array Value} {T:TypeId} (v:Value) (X X':World) (h:NewB B f cs T v X) (j:Below X.heap.size X X'):NewB B f cs T v X':=by
 obtain⟨b,i,e,h3⟩:=h;exact⟨b,i,e,h3.below j⟩
theorem gK {X:World} {B:Nat} {f:Nat→Value} {cs:Array Value} {T:TypeId} {r:Result Next} (hx:r=.ok (.value (f X.heap.size)) (X.alloc (.cells cs T))) (hB:B≤X.heap.size):cz P (NewB B f cs T) X r:=by
 subst hx;exact⟨eV (Below.refl _ _) _,X.heap.size,rfl,hB,Box.new X cs T⟩
def IsVal (u v:Value) (_:World):Prop:=v=u
theorem IsVal.stable {u:Value} (v:Value) (X X':World) (h:IsVal u v X) (b:Below X.heap.size X X'):IsVal u v X':=h
def OwnB (B:Nat) (T:TypeId) (sz n:Nat) (xs:List Value) (v:Value) (X:World):Prop:=∃A c,v=.slice A n c∧X.ownsRow B T sz (.slice A n c) n xs
theorem OwnB.stable {B:Nat} {T:TypeId} {sz n:Nat} {xs:List Value} (v:Value) (X X':World) (h:OwnB B T sz n xs v X) (i:Below X.heap.size X X'):OwnB B T sz n xs v X':=by
 obtain⟨A,c,e,b⟩:=h;exact⟨A,c,e,cK b i⟩
theorem wi {X:World} {f:FuncId} {args:Array Value} {B b n sz:Nat} {T:TypeId} {xs:List Value} {r:Result Next} (hx:r=.ok (.enter f args) X) (i:Calls P f args X fun e X'=>∃A c,e=.returned (.slice A n c)∧X'.ownsRow b T sz (.slice A n c) n xs∧Below X.heap.size X X') (hB:B≤b):cz P (OwnB B T sz n xs) X r:=by
 subst hx;exact⟨rfl,i.mono fun e X' ⟨A,c,h,j,k⟩=>⟨_,h,k,A,c,rfl,a6 j hB⟩⟩
theorem bb {ρ:Operand→Value} {X:World} {d:Option Tmp} {ty:TypeId} {ps:String} {af:Array Edge} {g:Option (Nat × Bool)} {t e:TypeId} {n:Nat} {b:Array (Nat × Operand)} {vs:List Value} (ht:P.underlying t=some (.slice e)) (s:(P.info? e).map (·.size)=some 1) (m:((P.info? e).bind (·.zero)).map (·.cells.size)=some 1)
 (j:b.toList.map (fun p=>ρ p.2)=vs) (T:vs.length=n) (D:b.toList.map (·.1)=List.range n) (y:vs.all (·.oneCell')=true) (S:0<n) (J:n<1000) :
 (execOp ρ ⟨d,.buildSlice t n b,ty,ps,af,g⟩).run P X=.ok (.value (.slice (some ⟨X.heap.size,0,none⟩) n n)) (X.alloc (.cells vs.toArray e)):=by
 cases hq:P.info? e with
 | none=>rw[hq] at s;cases s
 | some q=>
  rw[hq] at s m
  have F:q.size=1:=by simpa using s
  cases hqz:q.zero with
  | none=>rw[Option.bind_some,hqz] at m;cases m
  | some z=>
   rw[Option.bind_some,hqz] at m
   have U:z.cells.size=1:=by simpa using m
   have h:∀(ps:List (Nat × Value)) (k:Nat) (cells:Array Value),ps.map (·.1)=List.range' k ps.length→(∀p∈ps,p.2.oneCell'=true)→cells.size=k+ps.length →
    Instr.fill (fun i=>some (i*1,1)) cells ps=some ((cells.toList.take k ++ ps.map (·.2)).toArray):=by
    intro ps
    induction ps with
    | nil=>
     intro k cells _ _ G;simp only[Instr.fill,List.map_nil,List.append_nil,List.length_nil,Nat.add_zero] at G ⊢;rw[List.take_of_length_le (by simp;omega)]
    | cons p ps ih=>
     intro k cells u y G;obtain⟨i,v⟩:=p;simp only[List.map_cons,List.length_cons,List.range'_succ,List.cons.injEq] at u;obtain⟨rfl,u⟩:=u
     have K:v.cells=#[v]:=by
      have:=y (i,v) (by simp)
      cases v<;>first | rfl | (simp[Value.oneCell'] at this)
     simp only[List.length_cons] at G;unfold Instr.fill;simp only[K,Nat.mul_one];rw[if_neg (by simp;omega)]
     have O:(#[v].zipIdx.foldl (fun cs x=>cs.setIfInBounds (i+x.2) x.1) cells)=cells.setIfInBounds i v:=by simp[Array.zipIdx]
     have e2:=ih (i+1) (cells.setIfInBounds i v) u (fun p j=>y p (by simp[j])) (by simp;omega);simp only[Nat.mul_one] at e2;rw[O,e2]
     congr 2
     rw[Array.toList_setIfInBounds,List.map_cons];rw[List.take_succ_eq_append_getElem (by simp;omega)]
     have e3:(cells.toList.set i v).take i=cells.toList.take i:=by rw[List.take_set_of_le (Nat.le_refl _)]
     simp[e3]
   have I:b.toList.length=n:=by rw[←T,←j,List.length_map]
   have A:(b.map fun x=>(x.1,ρ x.2)).toList=b.toList.map fun x=>(x.1,ρ x.2):=by simp
   have hf:=h (b.toList.map fun x=>(x.1,ρ x.2)) 0 ((Array.range (n*1)).map (z.cells[· % z.cells.size]!)) (by rw[List.map_map,List.length_map,I,←List.range_eq_range'];exact D)
    (fun p B=>by
     obtain⟨x,hx,rfl⟩:=List.mem_map.1 B
     exact List.all_eq_true.1 y _ (by rw[←j];exact List.mem_map.2 ⟨x,hx,rfl⟩)) (by simp[I])
   simp only[Nat.mul_one,List.take_zero,List.nil_append,List.map_map,Nat.zero_add] at hf
   have V:(b.toList.map fun x=>(x.1,ρ x.2)).map (·.2)=vs:=by rw[←j,List.map_map];rfl
   have r:(b.toList.map ((fun x:Nat × Value=>x.2) ∘ fun x=>(x.1,ρ x.2)))=vs:=by rw[←j];rfl
   rw[r] at hf
   have H:n≠0:=by omega
   have W:¬(16777216<n):=by omega
   simp[execOp,Instr.buildSlice,run_underlying ht,sizeOf,typeInfo,hq,F,H,zeroValue,hqz,A,hf,newRow,W]
end
open Go.RowKit Go.Sort
variable {ds:List Deferred}
def DA (m l:List (Nat × Value)):Bool:=m.all fun q=>(look l q.1).isNone
theorem vS:∀(m l:List (Nat × Value)) (t:Nat) (u:Value),DA m l=true→look l t=some u→look (m ++ l) t=some u
 | [],l,t,u,_,h=>h
 | q::m,l,t,u,hm,h=>by
  unfold DA at hm;rw[List.all_cons,Bool.and_eq_true] at hm;obtain⟨k,v⟩:=q;show look ((k,v)::(m ++ l)) t=some u;unfold look
  cases hb:Nat.beq k t with
  | true=>
   have e:k=t:=Nat.eq_of_beq_eq_true hb;subst e;have:=hm.1;rw[show look l (k,v).1=some u from h] at this
   cases this
  | false=>exact vS m l t u hm.2 h
theorem Has.mid {a:Act} {N p:Nat} {v:Value} {m l:List (Nat × Value)} (h:Has ds a N ((p,v)::(m ++ l))) (hm:DA m l=true):Has ds a N ((p,v)::l):=by
 refine⟨h.defers,h.size,fun t u b=>h.slot t u ?_⟩;unfold look at b ⊢
 cases hb:Nat.beq p t with
 | true=>rw[hb] at b;exact b
 | false=>rw[hb] at b;exact vS m l t u hm b
theorem Has.evs2 {a:Act} {N:Nat} {l:List (Nat × Value)} {os:List (Nat × Operand)} {vs:List Value} (h:Has ds a N l) (b:Go.Proofs.YtcfdpfmchchkaaaGreatDoor.evs l (os.map (·.2))=some vs):os.map (fun p=>a.eval p.2)=vs:=by
 have:=h.evs b
 rwa [List.map_map] at this
theorem aN {deps:List Nat}:∀{Φ:List (Nat × (World→Prop))} {X:World} {k:Nat} {F:World→Prop},told deps Φ X→deps.contains k=true→(Φ.find? (fun p=>Nat.beq p.1 k)).map (·.2)=some F→F X
 | [],X,k,F,_,_,h=>by cases h
 | (j,G)::Φ,X,k,F,ht,hd,h=>by
  unfold told at ht;rw[List.find?_cons] at h
  cases hb:Nat.beq j k with
  | true=>
   rw[hb] at h;have e:j=k:=Nat.eq_of_beq_eq_true hb;subst e;rw[if_pos hd] at ht;injection h with h;subst h;exact ht.1
  | false=>
   rw[hb] at h
   have b:told deps Φ X:=by
    split at ht
    · exact ht.2
    · exact ht
   exact aN b hd h
theorem aF:∀{Φ:List (Nat × (World→Prop))} {X:World} {k:Nat} {F:World→Prop},eG Φ X→(Φ.find? (fun p=>Nat.beq p.1 k)).map (·.2)=some F→F X
 | [],X,k,F,_,h=>by cases h
 | (j,G)::Φ,X,k,F,ht,h=>by
  rw[List.find?_cons] at h
  cases hb:Nat.beq j k with
  | true=>
   rw[hb] at h;injection h with h;subst h;exact ht.1
  | false=>rw[hb] at h;exact aF ht.2 h
section
variable {P:Program} {ops:Array Oper} {rest:List Oper} {o:Oper} {a:Act} {N:Nat} {l:List (Nat × Value)} {c x:Bool}
section
variable {C:World→Prop} {L:Act→Prop}
theorem j4 (i:Has ds a N l) (cs:Nat) (e:look l cs=some (.bool c)) (n p:Nat) (ht:c=true→dK P ops C (fun b=>Has ds b N ((p,.bool x)::l)) ((o::rest).take n) a) (hf:c=false→dK P ops C (fun b=>Has ds b N ((p,.bool false)::l)) ((o::rest).take n) a)
 (h:∀b,Has ds b N ((p,.bool (c&&x))::l)→dK P ops C L ((o::rest).drop n) b):dK P ops C L (o::rest) a:=by
 refine tq n _ ?_ h
 cases c
 · exact hf rfl
 · exact ht rfl
theorem iX {j:Act→Prop} (i:∀a,L a→j a):∀(b:List Oper) (a:Act),dK P ops C L b a→dK P ops C j b a
 | [],a,h=>i a h
 | o::b,a,h=>by
  unfold dK at h ⊢
  split
  · rename_i e
    rw[if_pos e] at h;obtain⟨v,m,k⟩:=h;exact⟨v,m,iX i b _ k⟩
  · rename_i e
    rw[if_neg e] at h;exact iX i b _ h
theorem mV {v:Value} (k:Has ds a N l) (cs:Nat) (j:look l cs=some (.bool c)) (n p:Nat) (ht:c=true→dK P ops C (fun b=>Has ds b N ((p,v)::l)) ((o::rest).take n) a) (hf:c=false→dK P ops C (fun b=>∃u,Has ds b N ((p,u)::l)) ((o::rest).take n) a)
 (h:∀u b,(c=true→u=v)→Has ds b N ((p,u)::l)→dK P ops C L ((o::rest).drop n) b):dK P ops C L (o::rest) a:=by
 refine tq n (fun b=>∃u,(c=true→u=v)∧Has ds b N ((p,u)::l)) ?_ (fun b h'=>(let ⟨u,h1,h2⟩:=h';h u b h1 h2))
 cases c
 · refine iX ?_ _ _ (hf rfl)
   rintro b ⟨u,i⟩
   exact⟨u,fun e=>(by cases e),i⟩
 · refine iX ?_ _ _ (ht rfl)
   intro b i;exact⟨v,fun _=>rfl,i⟩
theorem fF (i:Has ds a N l) (cs:Nat) (e:look l cs=some (.bool c)) (n p:Nat) (ht:c=true→dK P ops C (fun b=>Has ds b N ((p,.bool true)::l)) ((o::rest).take n) a) (hf:c=false→dK P ops C (fun b=>Has ds b N ((p,.bool x)::l)) ((o::rest).take n) a)
 (h:∀b,Has ds b N ((p,.bool (c||x))::l)→dK P ops C L ((o::rest).drop n) b):dK P ops C L (o::rest) a:=by
 refine tq n _ ?_ h
 cases c
 · exact hf rfl
 · exact ht rfl
end
variable {Q:Exit→Act→World→Prop} {X:World} {M:List Nat} {w:World} {E:List Ent}
theorem bo (k:Has ds a N l) (j:St M w X E) (cs:Nat) (i:look l cs=some (.bool c)) (n p:Nat)
 (ht:c=true→wpList P ops (fun e b X'=>match e with | .normal=>Has ds b N ((p,.bool x)::l)∧St M w X' E | e=>Q e b X') ((o::rest).take n) a X)
 (hf:c=false→wpList P ops (fun e b X'=>match e with | .normal=>Has ds b N ((p,.bool false)::l)∧St M w X' E | e=>Q e b X') ((o::rest).take n) a X)
 (h:∀b X',Has ds b N ((p,.bool (c&&x))::l)∧St M w X' E→wpList P ops Q ((o::rest).drop n) b X'):wpList P ops Q (o::rest) a X:=by
 refine C2 n _ ?_ h
 cases c
 · exact hf rfl
 · exact ht rfl
theorem bI (k:Has ds a N l) (j:St M w X E) (cs:Nat) (i:look l cs=some (.bool c)) (n p:Nat)
 (ht:c=true→wpList P ops (fun e b X'=>match e with | .normal=>Has ds b N ((p,.bool true)::l)∧St M w X' E | e=>Q e b X') ((o::rest).take n) a X)
 (hf:c=false→wpList P ops (fun e b X'=>match e with | .normal=>Has ds b N ((p,.bool x)::l)∧St M w X' E | e=>Q e b X') ((o::rest).take n) a X)
 (h:∀b X',Has ds b N ((p,.bool (c||x))::l)∧St M w X' E→wpList P ops Q ((o::rest).drop n) b X'):wpList P ops Q (o::rest) a X:=by
 refine C2 n _ ?_ h
 cases c
 · exact hf rfl
 · exact ht rfl
theorem dC (g:Nat) (t:TypeId):∀(vs:List Value) (j i:Nat) (cur:Array Value) (w:World),w.heap[g]? = some (.cells cur t (0,0))→j+i+vs.length≤cur.size→(∀v∈vs,v.oneCell'=true) →
 (storeCells ⟨g,j,none⟩ vs i).run P w=.ok () (w.setRow g (cur.toList.take (j+i) ++ vs ++ cur.toList.drop (j+i+vs.length)).toArray)
 | [],j,i,cur,w,hg,hl,_=>by
  have e:(cur.toList.take (j+i) ++ [] ++ cur.toList.drop (j+i+([]:List Value).length))=cur.toList:=by simp
  rw[e];have n:w.heap[g]? = _:=hg;simp only[storeCells];show Result.ok () w=_
  congr 1
  unfold World.setRow
  cases w with
  | mk heap tape drawn os output=>
   congr 1
   apply Array.ext
   · simp
   · intro k m u
     simp only[Array.getElem_modify]
     split
     · rename_i s;subst s
       rw[Array.getElem?_eq_getElem m] at n;injection n with n;simp[n]
     · rfl
 | v::rest,j,i,cur,w,hg,hl,m=>by
  have p:j+i<cur.size:=by simp at hl;omega
  have b:w.cell? ⟨g,j+i,none⟩=some cur[j+i]:=by simp[World.cell?,hg,p]
  have h:w.frozen? ⟨g,j+i,none⟩=false:=by simp[World.frozen?,hg]
  have hst:(store ((⟨g,j,none⟩:Addr).add i) v).run P w=.ok () (w.setRow g (cur.setIfInBounds (j+i) v)):=by
   rw[el,run_store P w _ v _ (m v (by simp)),b];simp[h,setCell_eq_setRow w g (j+i) cur t (0,0) v hg]
  have q:=dC g t rest j (i+1) (cur.setIfInBounds (j+i) v) (w.setRow g (cur.setIfInBounds (j+i) v)) (setRow_heap w g cur _ t _ hg) (by simp at hl ⊢;omega) (fun x hx=>m x (by simp[hx]));simp only[storeCells,Sem.run_bind,hst,Result.andThen_ok,q,setRow_setRow]
  congr 3
  simp only[Array.toList_setIfInBounds,List.length_cons]
  have r:j+i<cur.toList.length:=by simpa using p
  rw[show j+(i+1)=j+i+1 by omega,List.take_succ_eq_append_getElem (by simpa using p),List.take_set_of_le (Nat.le_refl _),List.drop_set_of_lt (by omega)];simp[show j+i+1+rest.length=j+i+(rest.length+1) by omega]
theorem aM {ty:TypeId} {D y:Operand} {b j i:Nat} {v:Value} {vs:List Value} {cs:Array Value} {T:TypeId} (S:Has ds a N l) (I:Region.wanted o (yielded ops a.tmps)=true) (G:o.op=.store ty D y∧o.dst=none) (hx:a.eval D=.pointer (some ⟨b,j,none⟩)) (H:a.eval y=v) (m:v.cells.toList=vs)
 (n:(P.info? ty).map (·.size)=some vs.length) (B:St M w X E) (F:E[i]? = some (.box b cs T)) (K:vs.all (·.oneCell')=true) (J:Nat.ble (j+vs.length) cs.toList.length=true)
 (k:∀X',St M w X' (E.set i (.box b (cs.toList.take j ++ vs ++ cs.toList.drop (j+vs.length)).toArray T))→wpList P ops Q rest a X'):wpList P ops Q (o::rest) a X:=by
 have p:Box X b cs T:=B.at_ F
 have s:j+vs.length≤cs.size:=by have:=Nat.le_of_ble_eq_true J;simpa using this
 have hst:=dC (P:=P) b T vs j 0 cs X p (by simpa using s) (fun u O=>List.all_eq_true.1 K u O);simp only[Nat.add_zero] at hst;refine lP (X':=X.setRow b (cs.toList.take j ++ vs ++ cs.toList.drop (j+vs.length)).toArray) I ?_ G.2 (k _ ?_)
 · cases hq:P.info? ty with
   | none=>rw[hq] at n;cases n
   | some q=>
    rw[hq] at n
    have t:q.size=vs.length:=by simpa using n
    have r:v.cells.size=vs.length:=by rw[←m];simp
    unfold execOp;simp only[G.1,hx,H,Instr.storeAt,Instr.sureAddr,Sem.run_bind,Sem.run_pure,Result.andThen_ok];simp[storeVar,sizeOf,typeInfo,hq,t,r,m,hst]
 · refine B.wrote F ⟨rfl,rfl,rfl,by simp[World.setRow],fun k h A=>setRow_other X b k _ A,fun k cs' U fr h=>?_⟩ (setRow_heap X b cs _ T (0,0) p)
   by_cases e:k=b
   · have z:X.heap[b]? = some (Obj.cells cs T (0,0)):=p
     rw[e,z] at h;injection h with h;injection h with e1 e2 e3;subst e1 e2 e3;refine⟨_,?_,by rw[e];exact setRow_heap X b cs _ T (0,0) p⟩;simp;omega
   · exact⟨cs',rfl,(setRow_other X b k _ e).trans h⟩
theorem Aw {ty:TypeId} {m y:Operand} {b i:Nat} {v:Value} {vs:List Value} {cs:Array Value} {T:TypeId} (A:Has ds a N l) (r:Region.wanted o (yielded ops a.tmps)=true) (u:o.op=.store ty m y∧o.dst=none) (hx:a.eval m=.pointer (some ⟨b,0,none⟩)) (z:a.eval y=v) (j:v.cells.toList=vs)
 (n:(P.info? ty).map (·.size)=some vs.length) (s:St M w X E) (t:E[i]? = some (.box b cs T)) (q:vs.all (·.oneCell')=true) (p:Nat.beq vs.length cs.toList.length=true)
 (k:∀X',St M w X' (E.set i (.box b vs.toArray T))→wpList P ops Q rest a X'):wpList P ops Q (o::rest) a X:=by
 have e:vs.length=cs.toList.length:=Nat.eq_of_beq_eq_true p;refine aM A r u hx z j n s t q (Nat.ble_eq_true_of_le (by omega)) fun X' h=>k X' ?_;rw[Nat.zero_add,e,List.drop_length,List.take_zero,List.append_nil,List.nil_append] at h;exact h
theorem sw {ds:List Deferred} {P:Program} {ops:Array Oper} {rest:List Oper} {a:Act} {Q:Exit→Act→World→Prop} {X:World} {N:Nat} {l:List (Nat × Value)} {ty:TypeId} {ps:String} {af:Array Edge} {M:List Nat} {w:World} {L:List Ent} {t:TypeId} {x' y:Operand} {b:Nat} {v:Value} {vs:List Value} {cs:Array Value} {T:TypeId} (ha:Has ds a N l) (hS:St M w X L) (i:Nat) (k:∀X',St M w X' (L.set i (.box b vs.toArray T))→wpList P ops Q rest a X') (hx:E2 l x'=some (.pointer (some ⟨b,0,none⟩)):=by exact rfl) (hy:E2 l y=some v:=by exact rfl) (hvs:v.cells.toList=vs:=by exact rfl) (hi:L[i]? = some (.box b cs T):=by exact rfl) (h1:vs.all (·.oneCell')=true:=by exact rfl) (hj:Nat.beq vs.length cs.toList.length=true:=by exact rfl) (hs:(P.info? t).map (·.size)=some vs.length:=by kernel_rfl):wpList P ops Q (⟨none,.store t x' y,ty,ps,af,none⟩::rest) a X:=Aw ha (cW _ _ rfl) ⟨rfl,rfl⟩ (ha.ev hx) (ha.ev hy) hvs hs hS hi h1 hj k
end
theorem fv {Q:Exit→Act→World→Prop} {a:Act} {X:World} {next:Act→World→Prop} (h:Q .ret a X):Exit.then next Q .ret a X:=h
theorem fN {Q:Exit→Act→World→Prop} {a:Act} {X:World} {id:Nat} (h:Q .ret a X):Exit.inBlock id Q .ret a X:=h
section
variable {P:Program} {ρ:Operand→Value} {X:World} {d:Option Tmp} {ty:TypeId} {ps:String} {af:Array Edge} {g:Option (Nat × Bool)}
theorem yW {x y:Operand} {t b:TypeId} {m n:Bool} (ht:P.underlying t=some .bool) (hx:ρ x=.bool m) (e:ρ y=.bool n):(execOp ρ ⟨d,.binOp .eql t x y b,ty,ps,af,g⟩).run P X=.ok (.value (.bool (m==n))) X:=by
 simp[execOp,hx,e,eqGuard,run_eql_bool X t m n ht]
theorem yj {x y:Operand} {t b:TypeId} {m n:Bool} (ht:P.underlying t=some .bool) (hx:ρ x=.bool m) (e:ρ y=.bool n):(execOp ρ ⟨d,.binOp .neq t x y b,ty,ps,af,g⟩).run P X=.ok (.value (.bool (!(m==n)))) X:=by
 simp[execOp,hx,e,eqGuard,run_neq_bool X t m n ht]
theorem dH {x y:Operand} {t b:TypeId} {m n:ByteArray} (hx:ρ x=.string m) (i:ρ y=.string n) (h:m.size+n.size<9223372036854775808):(execOp ρ ⟨d,.binOp .add t x y b,ty,ps,af,g⟩).run P X=.ok (.value (.string (m ++ n))) X:=by
 have h':¬(IntKind.i64.max<((m.size+n.size:Nat):Int)):=by
  have e:IntKind.i64.max=9223372036854775807:=by decide
  rw[e];omega
 simp[execOp,hx,i,eqGuard,binOp,Op.stringOp];omega
theorem cA {x:Operand} {s t:TypeId} {k b:IntKind} {n:Int} (e:(P.underlying s).map (fun | .int _=>true | _=>false)=some true) (ht:P.underlying t=some (.int b)) (hx:ρ x=.int k n) (h:b.wrap n=n):(execOp ρ ⟨d,.convert s t x,ty,ps,af,g⟩).run P X=.ok (.value (.int b n)) X:=by
 rw[en (k0:=k) e ht hx,h]
theorem wrap_u8 {n:Int} (h:0≤n∧n<256):IntKind.u8.wrap n=n:=by
 unfold IntKind.wrap IntKind.signed IntKind.bits;simp;omega
theorem wrap_u16 {n:Int} (h:0≤n∧n<65536):IntKind.u16.wrap n=n:=by
 unfold IntKind.wrap IntKind.signed IntKind.bits;simp;omega
theorem wrap_u32 {n:Int} (h:0≤n∧n<4294967296):IntKind.u32.wrap n=n:=by
 unfold IntKind.wrap IntKind.signed IntKind.bits;simp;omega
theorem pB {x y:Operand} {t b:TypeId} {m n:Int} (ht:t=t) (hx:ρ x=ae m) (h:ρ y=ae n):(execOp ρ ⟨d,.call ⟨.builtin .max,#[x,y],#[t,b]⟩,ty,ps,af,g⟩).run P X=.ok (.value (ae (max m n))) X:=by
 have e:(if n>m then n else m)=max m n:=by rw[Int.max_def];split<;>split<;>omega
 simp[execOp,resolve,invoke,builtin,Builtin.max_,Builtin.max2,hx,h];exact e
theorem tE {x y:Operand} {t b:TypeId} {m n:Int} (ht:t=t) (hx:ρ x=ae m) (h:ρ y=ae n):(execOp ρ ⟨d,.call ⟨.builtin .min,#[x,y],#[t,b]⟩,ty,ps,af,g⟩).run P X=.ok (.value (ae (min m n))) X:=by
 have e:(if n<m then n else m)=min m n:=by rw[Int.min_def];split<;>split<;>omega
 simp[execOp,resolve,invoke,builtin,Builtin.min_,Builtin.min2,hx,h];exact e
theorem fo {f:Fn} {os b:Array Operand} {vs i:List Value} (h:os.toList.map ρ=vs) (h':b.toList.map ρ=i):(execOp ρ ⟨d,.makeFunc f os b,ty,ps,af,g⟩).run P X=.ok (.value (.func f vs.toArray i.toArray)) X:=by
 have e:os.map ρ=vs.toArray:=by rw[←h];apply Array.ext';simp
 have j:b.map ρ=i.toArray:=by rw[←h'];apply Array.ext';simp
 simp[execOp,Instr.makeFunc,e,j]
theorem cQ {f:FuncId} {x:Operand} {args:Array Operand} {ts:Array TypeId} {vs:List Value} {first b:List Value} (hf:∀(i:Array Value) (W:World),(callFunc f i).run P W=.ok (.enter f i) W) (hx:ρ x=.func (.func f) first.toArray b.toArray) (j:args.toList.map ρ=vs) (h:first=[]) :
 (execOp ρ ⟨d,.call ⟨.value x,args,ts⟩,ty,ps,af,g⟩).run P X=.ok (.enter f (vs ++ b).toArray) X:=by
 subst h
 have e:args.map ρ=vs.toArray:=by rw[←j];apply Array.ext';simp
 simp[execOp,resolve,e,hx,Deferred.ofValue,invoke,hf]
def xS (P:Program) (t:TypeId):Option (List (Nat × Nat)):=match P.underlying t with
 | some (.struct fs)=>fs.toList.mapM fun f=>(P.info? f.type).map fun i=>(f.offset,i.size)
 | _=>none
def qD (pl:List (Nat × Nat)):List Value→List (Nat × Value)→Option (List Value)
 | cs,[]=>some cs
 | cs,(i,v)::r=>match pl[i]? with
  | none=>none
  | some (off,n)=>bif Nat.beq v.cells.toList.length n&&Nat.ble (off+n) cs.length then qD pl (cs.take off ++ v.cells.toList ++ cs.drop (off+n)) r else none
theorem rY:∀(us:List Value) (off j:Nat) (cs:Array Value),off+j+us.length≤cs.size→((us.zipIdx j).foldl (fun cs x=>cs.setIfInBounds (off+x.2) x.1) cs)=(cs.toList.take (off+j) ++ us ++ cs.toList.drop (off+j+us.length)).toArray
 | [],off,j,cs,_=>by apply Array.ext';simp
 | u::us,off,j,cs,h=>by
  simp only[List.zipIdx_cons,List.foldl_cons,List.length_cons] at h ⊢;rw[rY us off (j+1) _ (by simp;omega)]
  congr 1
  simp only[Array.toList_setIfInBounds]
  have b:off+j<cs.toList.length:=by simp;omega
  rw[show off+(j+1)=off+j+1 by omega,List.take_succ_eq_append_getElem (by simpa using b),List.take_set_of_le (Nat.le_refl _),List.drop_set_of_lt (by omega)];simp[show off+j+1+us.length=off+j+(us.length+1) by omega]
theorem xn (pl:List (Nat × Nat)):∀(ps:List (Nat × Value)) (zs cs:List Value),qD pl zs ps=some cs→Instr.fill (pl.toArray[·]?) zs.toArray ps=some cs.toArray
 | [],zs,cs,h=>by unfold qD at h;injection h with h;subst h;rfl
 | (i,v)::r,zs,cs,h=>by
  unfold qD at h;unfold Instr.fill
  cases hp:pl[i]? with
  | none=>rw[hp] at h;cases h
  | some q=>
   obtain⟨off,n⟩:=q
   have b:pl.toArray[i]? = some (off,n):=by simp[hp]
   rw[hp] at h;simp only[b] at h ⊢
   cases hc:(Nat.beq v.cells.toList.length n&&Nat.ble (off+n) zs.length) with
   | false=>rw[hc] at h;cases h
   | true=>
    rw[hc] at h;rw[Bool.and_eq_true] at hc;have e:v.cells.toList.length=n:=Nat.eq_of_beq_eq_true hc.1;have e2:off+n≤zs.length:=Nat.le_of_ble_eq_true hc.2
    have e3:v.cells.size=n:=by simpa using e
    rw[if_neg (by rw[e3];simp;omega)]
    have j:v.cells.zipIdx.foldl (fun cs x=>cs.setIfInBounds (off+x.2) x.1) zs.toArray=(zs.take off ++ v.cells.toList ++ zs.drop (off+n)).toArray:=by
     have:=rY v.cells.toList off 0 zs.toArray (by simp;omega);rw[←e];simp only[Nat.add_zero] at this;rw[←this,←Array.foldl_toList,Array.toList_zipIdx]
    have:=xn pl r _ _ h;rw[←j] at this;exact this
theorem ay {t:TypeId} {b:Array (Nat × Operand)} {zs:List Value} {pl:List (Nat × Nat)} {us:List Value} {j:List Nat} {cs:List Value} (e:((P.info? t).bind (·.zero)).map (·.cells.toList)=some zs) (k:xS P t=some pl) (D:b.toList.map (fun p=>ρ p.2)=us) (s:b.toList.map (·.1)=j)
 (hf:qD pl zs (j.zip us)=some cs):(execOp ρ ⟨d,.build t b,ty,ps,af,g⟩).run P X=.ok (.value (.agg cs.toArray)) X:=by
 have y:b.toList.map (fun x=>(x.1,ρ x.2))=j.zip us:=by
  have e:∀l:List (Nat × Operand),l.map (fun x=>(x.1,ρ x.2))=(l.map (·.1)).zip (l.map fun p=>ρ p.2):=by
   intro l
   induction l with
   | nil=>rfl
   | cons p l ih=>simp[ih]
  rw[←D,←s,←e b.toList]
 cases hq:P.info? t with
 | none=>rw[hq] at e;cases e
 | some q=>
  rw[hq,Option.bind_some] at e
  cases hqz:q.zero with
  | none=>rw[hqz] at e;cases e
  | some z=>
   rw[hqz] at e
   have A:z.cells=zs.toArray:=by
    have:z.cells.toList=zs:=by simpa using e
    rw[←this]
   unfold xS at k
   cases hu:P.underlying t with
   | none=>rw[hu] at k;cases k
   | some td=>
    rw[hu] at k
    cases td<;>try (cases k)
    rename_i B
    simp only at k
    have hm:∀(l:List Field) (r:List (Nat × Nat)),(l.mapM fun f=>(P.info? f.type).map fun i=>(f.offset,i.size))=some r→(l.mapM (m:=Sem) fun f=>do pure (f.offset,←sizeOf f.type)).run P X=.ok r X:=by
     intro l
     induction l with
     | nil=>intro r h;simp at h;subst h;simp
     | cons f l ih=>
      intro r h;rw[List.mapM_cons] at h
      cases s:P.info? f.type with
      | none=>rw[s] at h;simp at h
      | some i=>
       rw[s] at h
       cases hl:(l.mapM fun f=>(P.info? f.type).map fun i=>(f.offset,i.size)) with
       | none=>rw[hl] at h;simp at h
       | some r'=>
        rw[hl] at h;simp at h;subst h;rw[List.mapM_cons]
        have e:(sizeOf f.type).run P X=.ok i.size X:=by simp[sizeOf,typeInfo,s]
        simp only[Sem.run_bind,e,Sem.run_pure,Result.andThen_ok,ih r' hl]
    have n:(B.mapM (m:=Sem) fun f=>do pure (f.offset,←sizeOf f.type)).run P X=.ok pl.toArray X:=by
     rw[Array.mapM_eq_mapM_toList];simp only[Sem.run_bind,Sem.run_map,hm _ _ k,Sem.run_pure,Result.andThen_ok]
    have u:=xn pl _ _ _ hf;simp only[bind_pure_comp] at n;simp only[List.getElem?_toArray] at u;simp[execOp,Instr.build,zeroValue,typeInfo,hq,hqz,run_underlying hu,n,A,y,u]
end
open Go.RowKit Go.Sort
section
variable {P:Program} {ρ:Operand→Value} {X:World} {d:Option Tmp} {ty:TypeId} {ps:String} {af:Array Edge} {g:Option (Nat × Bool)}
theorem B9 {s:TypeId} {x:Operand} {k b:Nat} (hf:nE P s k=some k) (hx:ρ x=.pointer (some ⟨b,0,none⟩)):(execOp ρ ⟨d,.fieldAddr s x k,ty,ps,af,g⟩).run P X=.ok (.value (.pointer (some ⟨b,k,none⟩))) X:=mc hf hx (Nat.zero_add k)
def H8 (P:Program) (t:TypeId):Bool:=match P.underlying t with | some (.slice _)=>true | _=>false
def H4 (P:Program) (t:TypeId):Bool:=match P.underlying t with | some .string=>true | _=>false
theorem BO {x:Operand} {t:TypeId} {n c:Nat} {A:Option Addr} (ht:H8 P t=true) (hx:ρ x=.slice A n c):(execOp ρ ⟨d,.call ⟨.builtin .len,#[x],#[t]⟩,ty,ps,af,g⟩).run P X=.ok (.value (ae n)) X:=by
 unfold H8 at ht
 split at ht
 · rename_i e h;exact wo h hx
 · cases ht
theorem yb {x:Operand} {t:TypeId} {s:ByteArray} (ht:H4 P t=true) (hx:ρ x=.string s):(execOp ρ ⟨d,.call ⟨.builtin .len,#[x],#[t]⟩,ty,ps,af,g⟩).run P X=.ok (.value (ae s.size)) X:=by
 unfold H4 at ht
 split at ht
 · rename_i h;exact kB h hx
 · cases ht
end
section
variable {ds:List Deferred} {P:Program} {ops:Array Oper} {rest:List Oper} {a:Act} {Q:Exit→Act→World→Prop} {X:World} {N d:Nat} {l:List (Nat × Value)} {v:Value} {f:FuncId} {args:Array Operand} {ts:Array TypeId} {vs:List Value} {ty:TypeId} {ps:String} {af:Array Edge} {M:List Nat} {w:World} {E:List Ent} {C:World→Prop} {L:Act→Prop}
theorem cN (i:Has ds a N l) (n:evs l args.toList=some vs) (p:St M w X E) (j:Calls P f vs.toArray X fun e X'=>e=.returned v∧Below X.heap.size X X')
 (k:∀h X',Has ds h N ((d,v)::l)→St M w X' E→wpList P ops Q rest h X') (hf:∀(b:Array Value) (W:World),(callFunc f b).run P W=.ok (.enter f b) W:=by intro _ _;kernel_rfl) (m:Nat.blt d N=true:=by exact rfl) :
 wpList P ops Q (⟨some d,.call ⟨.value (.func f),args,ts⟩,ty,ps,af,none⟩::rest) a X:=dk i (wn rfl) (az hf (i.evs n) rfl) rfl m p j k
theorem cU (i:Has ds a N l) (n:evs l args.toList=some vs) (j:Calls P f vs.toArray X fun e X'=>e=.returned v∧X=X')
 (k:∀h,Has ds h N ((d,v)::l)→wpList P ops Q rest h X) (hf:∀(b:Array Value) (W:World),(callFunc f b).run P W=.ok (.enter f b) W:=by intro _ _;kernel_rfl) (m:Nat.blt d N=true:=by exact rfl) :
 wpList P ops Q (⟨some d,.call ⟨.value (.func f),args,ts⟩,ty,ps,af,none⟩::rest) a X:=ct i (wn rfl) (az hf (i.evs n) rfl) rfl m j k
theorem jM (i:Has ds a N l) (n:evs l args.toList=some vs) (j:∀X,C X→Calls P f vs.toArray X fun e X'=>e=.returned v∧Below X.heap.size X X')
 (k:∀b,Has ds b N ((d,v)::l)→dK P ops C L rest b) (hf:∀(h:Array Value) (W:World),(callFunc f h).run P W=.ok (.enter f h) W:=by intro _ _;kernel_rfl) (m:Nat.blt d N=true:=by exact rfl) :
 dK P ops C L (⟨some d,.call ⟨.value (.func f),args,ts⟩,ty,ps,af,none⟩::rest) a:=k9 i (wn rfl) rfl m (fun X=>az hf (i.evs n) rfl) j k
theorem gp (i:Has ds a N l) (n:evs l args.toList=some vs) (j:∀X,C X→Calls P f vs.toArray X fun e X'=>e=.returned v∧X=X')
 (k:∀b,Has ds b N ((d,v)::l)→dK P ops C L rest b) (hf:∀(h:Array Value) (W:World),(callFunc f h).run P W=.ok (.enter f h) W:=by intro _ _;kernel_rfl) (m:Nat.blt d N=true:=by exact rfl) :
 dK P ops C L (⟨some d,.call ⟨.value (.func f),args,ts⟩,ty,ps,af,none⟩::rest) a:=oL i (wn rfl) rfl m (fun X=>az hf (i.evs n) rfl) j k
theorem Has.midE {p:Nat} {m:List (Nat × Value)} (h:Has ds a N ((p,v)::m)) (n:Nat) (hl:m.drop n=l:=by exact rfl) (hm:DA (m.take n) (m.drop n)=true:=by exact rfl):Has ds a N ((p,v)::l):=by
 subst hl;exact Has.mid (m:=m.take n) (l:=m.drop n) (by rw[List.take_append_drop];exact h) hm
end
inductive Fu:Nat→Prop
 | mk (n:Nat):Fu n
theorem HH {n:Nat} (_:Fu (n+1)):Fu n:=.mk n
theorem Hs (_:Fu 0):True:=trivial
structure HoldG (p:Prop):Prop where
 out:p
theorem GO (n:Nat) {P' Q':Prop} (k:Q') (x:Fu n→HoldG Q'→P':=by
 intro fG kG
 rename Has _ _ _ _=>hG
 repeat (
  replace fG:=HH fG
  first
  | with_reducible refine ai ?_
  | with_reducible refine an ?_
  | with_reducible refine ah ?_
  | with_reducible refine aj ?_
  | with_reducible refine wp_skip ?_
  | with_reducible refine wp_block ?_
  | with_reducible refine ez ?_
  | with_reducible refine wp_ret ?_
  | with_reducible refine fv ?_
  | with_reducible refine fN ?_
  | with_reducible refine wp_exit ?_
  | with_reducible refine oP ?_
  | with_reducible refine dt ?_
  | with_reducible refine ax ?_
  | (with_reducible show wpList _ _ _ _ _ _
     refine aT hG (by first | exact cW _ _ rfl | exact ao hG _ rfl rfl rfl (by first | assumption | rfl)) (by
      first
      | ((with_reducible apply bQ);exact hG.ev rfl)
      | ((with_reducible apply ns);exact hG.ev rfl)
      | ((with_reducible apply B9);(· kernel_rfl);exact hG.ev rfl)
      | ((with_reducible apply tL);(· kernel_rfl);(· exact hG.ev rfl);rename St _ _ _ _=>SG;first | exact SG.cell (i:=0) rfl rfl | exact SG.cell (i:=1) rfl rfl | exact SG.cell (i:=2) rfl rfl | exact SG.cell (i:=3) rfl rfl | exact SG.cell (i:=4) rfl rfl | exact SG.cell (i:=5) rfl rfl | exact SG.cell (i:=6) rfl rfl | exact SG.cell (i:=7) rfl rfl)
      | ((with_reducible apply cb);(· exact hG.ev rfl);rfl)
      | ((with_reducible apply cr);(· exact hG.ev rfl);(· assumption);exact hG.ev rfl)
      | ((with_reducible apply nv);(· exact hG.ev rfl);(· assumption);exact hG.ev rfl)
      | ((with_reducible apply eI);(· exact hG.ev rfl);exact hG.ev rfl)
      | ((with_reducible apply kW);(· exact hG.ev rfl);exact hG.ev rfl)
      | ((with_reducible apply mW);(· exact hG.ev rfl);exact hG.ev rfl)
      | ((with_reducible apply mU);(· exact hG.ev rfl);exact hG.ev rfl)
      | ((with_reducible apply Dg);(· exact hG.ev rfl);exact hG.ev rfl)
      | ((with_reducible apply Cz);(· exact hG.ev rfl);exact hG.ev rfl)
      | ((with_reducible apply tK);exact hG.ev rfl)
      | ((with_reducible apply px);exact hG.ev rfl)
      | ((with_reducible apply BO);(· kernel_rfl);exact hG.ev rfl)
      | ((with_reducible apply yb);(· kernel_rfl);exact hG.ev rfl)
      | ((with_reducible apply ku);(· exact hG.ev rfl);exact hG.ev rfl)
      | ((with_reducible apply oJ);(· exact hG.ev rfl);exact hG.ev rfl)
      | ((with_reducible apply cy);(· exact hG.ev rfl);(· exact hG.ev rfl);omega)
      | ((with_reducible apply fp);(· exact hG.ev rfl);(· exact hG.ev rfl);omega)) rfl rfl ?_
     (try clear hG);intro aG hG)
  | (with_reducible show wpList _ _ _ _ _ _
     refine cg hG (nF hG _ rfl rfl rfl (by first | assumption | rfl)) rfl rfl ?_
     (try clear hG);intro aG hG)
  | (with_reducible show dK _ _ _ _ _ _
     refine j9 hG (by first | exact cW _ _ rfl | exact ao hG _ rfl rfl rfl (by first | assumption | rfl)) rfl rfl (by
      intro XG hXG
      first
      | ((with_reducible apply bQ);exact hG.ev rfl)
      | ((with_reducible apply ns);exact hG.ev rfl)
      | ((with_reducible apply B9);(· kernel_rfl);exact hG.ev rfl)
      | ((with_reducible apply tL);(· kernel_rfl);(· exact hG.ev rfl);rename St _ _ _ _=>SG0;have SG:=SG0.grow hXG;first | exact SG.cell (i:=0) rfl rfl | exact SG.cell (i:=1) rfl rfl | exact SG.cell (i:=2) rfl rfl | exact SG.cell (i:=3) rfl rfl | exact SG.cell (i:=4) rfl rfl | exact SG.cell (i:=5) rfl rfl | exact SG.cell (i:=6) rfl rfl | exact SG.cell (i:=7) rfl rfl)
      | ((with_reducible apply cb);(· exact hG.ev rfl);rfl)
      | ((with_reducible apply cr);(· exact hG.ev rfl);(· assumption);exact hG.ev rfl)
      | ((with_reducible apply nv);(· exact hG.ev rfl);(· assumption);exact hG.ev rfl)
      | ((with_reducible apply eI);(· exact hG.ev rfl);exact hG.ev rfl)
      | ((with_reducible apply kW);(· exact hG.ev rfl);exact hG.ev rfl)
      | ((with_reducible apply mW);(· exact hG.ev rfl);exact hG.ev rfl)
      | ((with_reducible apply mU);(· exact hG.ev rfl);exact hG.ev rfl)
      | ((with_reducible apply Dg);(· exact hG.ev rfl);exact hG.ev rfl)
      | ((with_reducible apply Cz);(· exact hG.ev rfl);exact hG.ev rfl)
      | ((with_reducible apply tK);exact hG.ev rfl)
      | ((with_reducible apply px);exact hG.ev rfl)
      | ((with_reducible apply BO);(· kernel_rfl);exact hG.ev rfl)
      | ((with_reducible apply yb);(· kernel_rfl);exact hG.ev rfl)
      | ((with_reducible apply ku);(· exact hG.ev rfl);exact hG.ev rfl)
      | ((with_reducible apply oJ);(· exact hG.ev rfl);exact hG.ev rfl)
      | ((with_reducible apply cy);(· exact hG.ev rfl);(· exact hG.ev rfl);omega)
      | ((with_reducible apply fp);(· exact hG.ev rfl);(· exact hG.ev rfl);omega)) ?_
     (try clear hG);intro aG hG)
  | (with_reducible show dK _ _ _ _ _ _
     refine mn hG (nF hG _ rfl rfl rfl (by first | assumption | rfl)) rfl rfl ?_
     (try clear hG);intro aG hG)
  | (with_reducible show dK _ _ _ _ _ _
     refine ax ?_)
  | (with_reducible show wpList _ _ _ _ _ _
     refine ah ?_))
 first | (have:=Hs fG) | fail "stuck"
 revert hG;revert aG;exact kG.out):P':=x (.mk n) ⟨k⟩
end Go.Proofs.YtcfdpfmchchkaaaGreatDoor
