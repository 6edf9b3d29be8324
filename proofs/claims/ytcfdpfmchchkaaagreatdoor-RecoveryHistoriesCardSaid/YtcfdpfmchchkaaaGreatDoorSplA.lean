/-
  A walk by steps: each operation of a text is met by one law with its terms given; what the slots hold stands in a list ('Has'), what the memory holds in another ('St'). No simp set looks at the context; so no fact has to be hidden.
  A walk by steps: control, results, loops, and regions that draw their order.
  A walk by steps: stores, structs that are built, guards, more operations.
  A walk by steps: what is plain in it is found by a search of its own. GO goes on as far as plain operations reach, and leaves what is then to be shown.
-/
import Derived.Test.YtcfdpfmchchkaaaGreatDoorBoxB
import Derived.Deep.LoopGhost
namespace Go.Proofs.YtcfdpfmchchkaaaGreatDoor
set_option linter.unusedVariables false
set_option linter.unusedSimpArgs false
open Go.RowKit Go.Sort
variable {ds:List Deferred}
def look:List (Nat × Value)→Nat→Option Value
 | [],_=>none
 | (k,v)::l,t=>bif Nat.beq k t then some v else look l t
structure Has (ds:List Deferred) (a:Act) (N:Nat) (l:List (Nat × Value)):Prop where
 defers:a.defers=ds
 size:a.tmps.size=N
 slot:∀t v,look l t=some v→a.tmps[t]? = some v
def zS (l:List (Nat × Value)):Operand→Option Value
 | .tmp t=>look l t
 | .const v=>some v
 | .global g=>some (.pointer (some ⟨g,0,none⟩))
 | .func f=>some (.func (.func f) #[] #[])
theorem Has.ev {a:Act} {N:Nat} {l:List (Nat × Value)} {o:Operand} {v:Value} (h:Has ds a N l) (he:zS l o=some v):a.eval o=v:=by
 cases o with
 | tmp t=>
  have:=h.slot t v he;show a.tmps.getD t undef=v;rw[Array.getD_eq_getD_getElem?,this];rfl
 | const u=>exact Option.some.inj he
 | global g=>exact Option.some.inj he
 | func f=>exact Option.some.inj he
theorem Has.put {a:Act} {N d:Nat} {l:List (Nat × Value)} (h:Has ds a N l) (hd:Nat.blt d N=true) (v:Value):Has ds (a.put (some d) v) N ((d,v)::l):=by
 have hd':d<N:=Nat.le_of_ble_eq_true hd;refine⟨h.defers,by show(a.tmps.setIfInBounds d v).size=N;rw[Array.size_setIfInBounds];exact h.size,fun t u hu=>?_⟩;show(a.tmps.setIfInBounds d v)[t]? = some u;unfold look at hu
 cases hb:Nat.beq d t with
 | true=>
  rw[hb] at hu;have e:d=t:=Nat.eq_of_beq_eq_true hb;subst e;rw[Array.getElem?_setIfInBounds_self_of_lt (by rw[h.size];exact hd')];exact hu
 | false=>
  rw[hb] at hu;have e:d≠t:=Nat.ne_of_beq_eq_false hb;rw[Array.getElem?_setIfInBounds_ne e];exact h.slot t u hu
def tn (l:List (Nat × Value)):List (Nat × Value)→Prop
 | []=>True
 | (t,v)::m=>look l t=some v∧tn l m
theorem Has.re {a:Act} {N:Nat} {l m:List (Nat × Value)} (h:Has ds a N l) (hm:tn l m):Has ds a N m:=by
 refine⟨h.defers,h.size,fun t v hv=>?_⟩
 induction m with
 | nil=>cases hv
 | cons p m ih=>
  obtain⟨k,u⟩:=p;obtain⟨h1,h2⟩:=hm;unfold look at hv
  cases hb:Nat.beq k t with
  | true=>
   rw[hb] at hv;have e:k=t:=Nat.eq_of_beq_eq_true hb;subst e;injection hv with hv;subst hv;exact h.slot _ _ h1
  | false=>rw[hb] at hv;exact ih h2 hv
def evs (l:List (Nat × Value)):List Operand→Option (List Value)
 | []=>some []
 | o::r=>match zS l o,evs l r with | some v,some vs=>some (v::vs) | _,_=>none
theorem Has.evs {a:Act} {N:Nat} {l:List (Nat × Value)} (h:Has ds a N l):∀{os:List Operand} {vs:List Value},evs l os=some vs→os.map a.eval=vs
 | [],vs,he=>by cases he;rfl
 | o::r,vs,he=>by
  unfold Go.Proofs.YtcfdpfmchchkaaaGreatDoor.evs at he
  cases h1:zS l o with
  | none=>rw[h1] at he;cases he
  | some v=>
   cases h2:Go.Proofs.YtcfdpfmchchkaaaGreatDoor.evs l r with
   | none=>rw[h1,h2] at he;cases he
   | some ws=>
    rw[h1,h2] at he;injection he with he;subst he;rw[List.map_cons,h.ev h1,h.evs h2]
def vh:Nat→List Value→List (Nat × Value)
 | _,[]=>[]
 | k,v::vs=>(k,v)::vh (k+1) vs
theorem oZ:∀(k:Nat) (vs:List Value) (t:Nat) (v:Value),look (vh k vs) t=some v→k≤t∧vs[t-k]? = some v
 | k,[],t,v,h=>by cases h
 | k,u::vs,t,v,h=>by
  unfold vh look at h
  cases hb:Nat.beq k t with
  | true=>
   rw[hb] at h;have e:k=t:=Nat.eq_of_beq_eq_true hb;subst e;exact⟨Nat.le_refl _,by rw[Nat.sub_self];exact h⟩
  | false=>
   rw[hb] at h;have e:k≠t:=Nat.ne_of_beq_eq_false hb;obtain⟨h1,h2⟩:=oZ (k+1) vs t v h;refine⟨by omega,?_⟩;rw[show t-k=(t-(k+1))+1 by omega];exact h2
theorem qs {vs:List Value} {N:Nat} (hN:Nat.ble vs.length N=true):Has [] { tmps:=vs.toArray ++ Array.replicate (N-vs.toArray.size) undef,defers:=[] } N (vh 0 vs):=by
 have hN':vs.length≤N:=Nat.le_of_ble_eq_true hN;refine⟨rfl,by simp;omega,fun t v h=>?_⟩;obtain⟨_,h2⟩:=oZ 0 vs t v h;rw[Nat.sub_zero] at h2;have hlt:=(List.getElem?_eq_some_iff.1 h2).1;show(vs.toArray ++ _)[t]? = some v;rw[Array.getElem?_append_left (by simpa using hlt)]
 simpa using h2
inductive Ent where
 | box (b:Nat) (cs:Array Value) (T:TypeId)
 | row (v:Value) (n:Nat) (T:TypeId) (sz:Nat) (xs:List Value)
 | rd (lo hi:Nat) (A:Option Addr) (xs:List Value)
 | byt (b:Nat) (l:List UInt8)
 | inv (D:Nat→Prop) (φ:World→Prop) (st:∀X X':World,φ X→(∀b,D b→X'.heap[b]? = X.heap[b]?)→φ X')
def Ent.dom:Ent→Nat→Prop
 | .box b _ _,k=>k=b
 | .byt b _,k=>k=b
 | .row v _ _ _ _,k=>v.ownBlock=some k
 | .rd lo hi _ _,k=>lo≤k∧k<hi
 | .inv D _ _,k=>D k
def Dt (X:World) (lo hi:Nat) (A:Option Addr) (xs:List Value):Prop:=∀j u,xs[j]? = some u→∃b o,A=some ⟨b,o,none⟩∧lo≤b∧b<hi∧X.cell? ⟨b,o+j,none⟩=some u
def kC (X:World) (b:Nat) (l:List UInt8):Prop:=∃cs T fr,X.heap[b]? = some (.cells cs T fr)∧cs.toList.take l.length=l.map bb∧∀j,j<cs.size→¬(fr.1≤j∧j<fr.2)
def Ent.ok (X:World):Ent→Prop
 | .byt b l=>kC X b l
 | .box b cs T=>Box X b cs T
 | .row v n T sz xs=>X.ownsRow 0 T sz v n xs
 | .rd lo hi A xs=>Dt X lo hi A xs
 | .inv _ φ _=>φ X
theorem Ent.ok_of {X X':World} {e:Ent} (h:e.ok X) (hb:∀b,e.dom b→X'.heap[b]? = X.heap[b]?):e.ok X':=by
 cases e with
 | box b cs T=>exact(hb b rfl).trans h
 | row v n T sz xs=>
  obtain⟨h1,h2⟩:=h;refine⟨h1,?_⟩;rcases h2 with h2 | ⟨g,cap,cur,e1,e2,e3,e4⟩
  · exact .inl h2
  · exact .inr ⟨g,cap,cur,e1,e2,(hb g (by show v.ownBlock=some g;rw[e1];rfl)).trans e3,e4⟩
 | byt b l=>
  obtain⟨cs,T,fr,h1,h2⟩:=h;exact⟨cs,T,fr,(hb b rfl).trans h1,h2⟩
 | inv D φ st=>exact st X X' h hb
 | rd lo hi A xs=>
  intro j u hj;obtain⟨b,o,h1,h2,h3,h4⟩:=h j u hj;exact⟨b,o,h1,h2,h3,(World.cell?_of_block (w:=X) (a:=⟨b,o+j,none⟩) (hb b ⟨h2,h3⟩)).trans h4⟩
structure St (M:List Nat) (w X:World) (L:List Ent):Prop where
 os:X.os=w.os
 tape:X.tape=w.tape
 output:X.output=w.output
 size:w.heap.size≤X.heap.size
 block:∀b,b<w.heap.size→b∉M→X.heap[b]? = w.heap[b]?
 ok:∀e∈L,e.ok X
 new:∀e∈L,∀b,e.dom b→(w.heap.size≤b∨b∈M)∧b<X.heap.size
 sep:L.Pairwise fun e f=>∀b,e.dom b→¬f.dom b
section
variable {M:List Nat} {w X X':World} {L:List Ent}
theorem St.init (w:World):St [] w w []:=⟨rfl,rfl,rfl,Nat.le_refl _,fun _ _ _=>rfl,fun _ h=>(by cases h),fun _ h=>(by cases h),.nil⟩
theorem St.below (h:St [] w X L):Below w.heap.size w X:=⟨h.os,h.tape,h.output,h.size,fun b hb=>h.block b hb (List.not_mem_nil)⟩
theorem St.grow (h:St M w X L) (hX:Below X.heap.size X X'):St M w X' L:=
 ⟨hX.os.trans h.os,hX.tape.trans h.tape,hX.output.trans h.output,Nat.le_trans h.size hX.size,fun b hb hM=>(hX.block b (Nat.lt_of_lt_of_le hb h.size)).trans (h.block b hb hM),
  fun e he=>Ent.ok_of (h.ok e he) (fun b hb=>hX.block b (h.new e he b hb).2),fun e he b hb=>⟨(h.new e he b hb).1,Nat.lt_of_lt_of_le (h.new e he b hb).2 hX.size⟩,h.sep⟩
theorem St.add (h:St M w X L) (hX:Below X.heap.size X X') {e:Ent} (hok:e.ok X') (hd:∀b,e.dom b→X.heap.size≤b∧b<X'.heap.size):St M w X' (e::L):=by
 have h':=h.grow hX;refine⟨h'.os,h'.tape,h'.output,h'.size,h'.block,fun f hf=>?_,fun f hf b hb=>?_,?_⟩
 · rcases List.mem_cons.1 hf with rfl | hf
   · exact hok
   · exact h'.ok f hf
 · rcases List.mem_cons.1 hf with rfl | hf
   · exact⟨.inl (Nat.le_trans h.size (hd b hb).1),(hd b hb).2⟩
   · exact h'.new f hf b hb
 · refine List.pairwise_cons.2 ⟨fun f hf b hb hfb=>?_,h'.sep⟩
   have:=(hd b hb).1;have:=(h.new f hf b hfb).2;omega
theorem St.sub {L':List Ent} (h:St M w X L) (hs:L'.Sublist L):St M w X L':=
 ⟨h.os,h.tape,h.output,h.size,h.block,fun e he=>h.ok e (hs.subset he),fun e he=>h.new e (hs.subset he),h.sep.sublist hs⟩
theorem St.at_ (h:St M w X L) {i:Nat} {e:Ent} (hi:L[i]? = some e):e.ok X:=h.ok e (List.mem_of_getElem? hi)
theorem St.turn {i:Nat} {e e':Ent} (h:St M w X L) (hi:L[i]? = some e) (hos:X'.os=X.os) (htape:X'.tape=X.tape) (hout:X'.output=X.output) (hsz:X.heap.size≤X'.heap.size)
 (hblk:∀b,b<X.heap.size→¬e.dom b→X'.heap[b]? = X.heap[b]?) (hok:e'.ok X') (hd:∀b,e'.dom b→(e.dom b∨X.heap.size≤b)∧b<X'.heap.size):St M w X' (L.set i e'):=by
 have hem:=List.mem_of_getElem? hi;have hlt:=(List.getElem?_eq_some_iff.1 hi).1;have hLi:=(List.getElem?_eq_some_iff.1 hi).2
 have sep2:∀j (hj:j<L.length),j≠i→∀b,e.dom b→¬L[j].dom b:=fun j hj hne b hb hjb=>by
  have hp:=List.pairwise_iff_getElem.1 h.sep;rcases Nat.lt_or_gt_of_ne hne with hlt' | hgt
  · exact hp j i hj hlt hlt' b hjb (by rw[hLi];exact hb)
  · exact hp i j hlt hj hgt b (by rw[hLi];exact hb) hjb
 have sep3:∀j (hj:j<L.length),j≠i→∀b,e'.dom b→¬L[j].dom b:=fun j hj hne b hb hjb=>by
  rcases (hd b hb).1 with h1 | h1
  · exact sep2 j hj hne b h1 hjb
  · have:=(h.new _ (List.getElem_mem hj) b hjb).2;omega
 refine⟨hos.trans h.os,htape.trans h.tape,hout.trans h.output,Nat.le_trans h.size hsz,fun b hb hM=>?_,fun f hf=>?_,fun f hf b hb=>?_,?_⟩
 · refine(hblk b (Nat.lt_of_lt_of_le hb h.size) (fun hdom=>?_)).trans (h.block b hb hM)
   rcases (h.new e hem b hdom).1 with h1 | h1
   · omega
   · exact hM h1
 · obtain⟨j,hj,rfl⟩:=List.getElem_of_mem hf
   rw[List.length_set] at hj;rw[List.getElem_set]
   split
   · exact hok
   · rename_i hne
     exact Ent.ok_of (h.ok _ (List.getElem_mem hj)) (fun b hb=>hblk b (h.new _ (List.getElem_mem hj) b hb).2 (fun he=>sep2 j hj (fun e=>hne e.symm) b he hb))
 · obtain⟨j,hj,rfl⟩:=List.getElem_of_mem hf
   rw[List.length_set] at hj;rw[List.getElem_set] at hb
   split at hb
   · refine⟨?_,(hd b hb).2⟩
     rcases (hd b hb).1 with h1 | h1
     · exact(h.new e hem b h1).1
     · exact .inl (Nat.le_trans h.size h1)
   · exact⟨(h.new _ (List.getElem_mem hj) b hb).1,Nat.lt_of_lt_of_le (h.new _ (List.getElem_mem hj) b hb).2 hsz⟩
 · rw[List.pairwise_iff_getElem]
   intro j k hj hk hjk b hb hb';rw[List.length_set] at hj hk;rw[List.getElem_set] at hb hb'
   split at hb
   · split at hb'
     · omega
     · rename_i h1 h2
       exact sep3 k hk (fun e=>h2 e.symm) b hb hb'
   · split at hb'
     · rename_i h1 h2
       exact sep3 j hj (fun e=>h1 e.symm) b hb' hb
     · exact List.pairwise_iff_getElem.1 h.sep j k hj hk hjk b hb hb'
theorem St.rd0 (h:St [] w X L) {A:Option Addr} {xs:List Value} (hr:Rd w w.heap.size A xs):Rd X X.heap.size A xs:=hr.below' h.below
theorem St.cell {i b j:Nat} {cs:Array Value} {T:TypeId} {v:Value} (h:St M w X L) (hi:L[i]? = some (.box b cs T)) (hj:cs.toList[j]? = some v):X.cell? ⟨b,j,none⟩=some v:=
 (Box.cells (h.at_ hi) j).trans (by rw[←hj];simp)
theorem St.cellsOf {i b:Nat} {cs:Array Value} {T:TypeId} (h:St M w X L) (hi:L[i]? = some (.box b cs T)) (j n:Nat):∀k u,((cs.toList.drop j).take n)[k]? = some u→X.cell? ⟨b,j+k,none⟩=some u:=fun k u hk=>by
 rw[Box.cells (h.at_ hi) (j+k)];rw[List.getElem?_take] at hk
 split at hk
 · rw[List.getElem?_drop] at hk
   simpa using hk
 · cases hk
theorem St.cellsAll {i b:Nat} {cs:Array Value} {T:TypeId} (h:St M w X L) (hi:L[i]? = some (.box b cs T)):∀k u,cs.toList[k]? = some u→X.cell? ⟨b,0+k,none⟩=some u:=fun k u hk=>by
 rw[Nat.zero_add,Box.cells (h.at_ hi) k]
 simpa using hk
theorem St.rdOf {i n c sz:Nat} {A:Option Addr} {T:TypeId} {xs:List Value} (h:St M w X L) (hi:L[i]? = some (.row (.slice A n c) n T sz xs)):Rd X X.heap.size A xs:=Rd.of_own (h.at_ hi)
theorem St.wrote {i b:Nat} {cs cs':Array Value} {T:TypeId} (h:St M w X L) (hi:L[i]? = some (.box b cs T)) (hX:Grw (fun k _=>k=b) X X') (hb:Box X' b cs' T):St M w X' (L.set i (.box b cs' T)):=
 h.turn hi hX.os hX.tape hX.output hX.size (fun k hk hne=>hX.block k hk hne) hb (fun k hk=>⟨.inl hk,by cases hk;exact hb.lt⟩)
theorem St.grown {i n n' sz:Nat} {v v':Value} {T:TypeId} {xs xs':List Value} (h:St M w X L) (hi:L[i]? = some (.row v n T sz xs)) (ho:X'.ownsRow 0 T sz v' n' xs') (hg:X.grownBy X' v.ownBlock)
 (hb:v'.ownBlock=v.ownBlock∨∀g,v'.ownBlock=some g→X.heap.size≤g):St M w X' (L.set i (.row v' n' T sz xs')):=
 h.turn hi hg.os hg.tape hg.output hg.size (fun k hk hne=>hg.block k hk (fun e=>hne e.symm)) ho (fun k hk=>by
  refine⟨?_,(ho.lt k hk).2⟩;rcases hb with hb | hb
  · left;show v.ownBlock=some k;rw[←hb];exact hk
  · right;exact hb k hk)
end
section
variable {P:Program} {ops:Array Oper} {rest:List Oper} {o:Oper} {a:Act} {Q:Exit→Act→World→Prop} {X X':World} {N d:Nat} {l:List (Nat × Value)} {v:Value}
theorem ct (a:Act) (ops:Array Oper) (hg:o.guard=none):Region.wanted o (yielded ops a.tmps)=true:=by unfold Region.wanted;rw[hg]
theorem wn {a:Act} {ops:Array Oper} (hg:o.guard=none):Region.wanted o (yielded ops a.tmps)=true:=ct a ops hg
theorem aj {j t:Nat} {b c:Bool} (ha:Has ds a N l) (ops:Array Oper) (hg:o.guard=some (j,b)) (hj:(ops[j]?).bind (·.dst)=some t) (ht:look l t=some (.bool c)) (hc:c=b):Region.wanted o (yielded ops a.tmps)=true:=by
 unfold Region.wanted yielded;rw[hg];simp only[hj,Option.bind_some,ha.slot _ _ ht,hc,BEq.rfl]
theorem kA {j t:Nat} {b c:Bool} (ha:Has ds a N l) (ops:Array Oper) (hg:o.guard=some (j,b)) (hj:(ops[j]?).bind (·.dst)=some t) (ht:look l t=some (.bool c)) (hc:c=!b):Region.wanted o (yielded ops a.tmps)=false:=by
 unfold Region.wanted yielded;rw[hg];simp only[hj,Option.bind_some,ha.slot _ _ ht,hc]
 cases b<;>rfl
theorem az {j t:Nat} {b:Bool} (ha:Has ds a N l) (ops:Array Oper) (hg:o.guard=some (j,b)) (hj:(ops[j]?).bind (·.dst)=some t) (ht:look l t=some undef):Region.wanted o (yielded ops a.tmps)=false:=by
 unfold Region.wanted yielded;rw[hg];simp only[hj,Option.bind_some,ha.slot _ _ ht]
 rfl
theorem fP (hw:Region.wanted o (yielded ops a.tmps)=true) (h:∀K:Act→World→Prop,(∀a w,wpList P ops Q rest a w→K a w)→o.wp P a X K Q):wpList P ops Q (o::rest) a X:=
 wpList_step fun K hK=>by rw[if_pos hw];exact h K hK
theorem aI (ha:Has ds a N l) (hw:Region.wanted o (yielded ops a.tmps)=true) (hx:(execOp a.eval o).run P X=.ok (.value v) X') (hd:o.dst=some d) (hN:Nat.blt d N=true)
 (k:∀a',Has ds a' N ((d,v)::l)→wpList P ops Q rest a' X'):wpList P ops Q (o::rest) a X:=
 fP hw fun K hK=>by
  unfold Oper.wp;rw[hx];exact hK _ _ (by rw[hd];exact k _ (ha.put hN v))
theorem sv {ds:List Deferred} (ha:Has ds a N l) (hx:(execOp a.eval o).run P X=.ok (.value v) X') (k:∀a',Has ds a' N ((d,v)::l)→wpList P ops Q rest a' X') (hg:o.guard=none:=by rfl) (hd:o.dst=some d:=by rfl) (hN:Nat.blt d N=true:=by rfl):wpList P ops Q (o::rest) a X:=aI ha (ct a ops hg) hx hd hN k
theorem bI (ha:Has ds a N l) (hw:Region.wanted o (yielded ops a.tmps)=false) (hd:o.dst=some d) (hN:Nat.blt d N=true)
 (k:∀a',Has ds a' N ((d,undef)::l)→wpList P ops Q rest a' X):wpList P ops Q (o::rest) a X:=
 wpList_step fun K hK=>by rw[hw];exact hK _ _ (by rw[hd];exact k _ (ha.put hN undef))
theorem no {ds:List Deferred} {P:Program} {ops:Array Oper} {rest:List Oper} {o:Oper} {a:Act} {Q:Exit→Act→World→Prop} {X:World} {N d:Nat} {l:List (Nat × Value)} {j t:Nat} {b c:Bool} (ha:Has ds a N l) (k:∀a',Has ds a' N ((d,undef)::l)→wpList P ops Q rest a' X) (hg:o.guard=some (j,b):=by exact rfl) (hj:(ops[j]?).bind (·.dst)=some t:=by exact rfl) (ht:look l t=some (.bool c):=by exact rfl) (hc:c=!b:=by assumption) (hd:o.dst=some d:=by exact rfl) (hN:Nat.blt d N=true:=by exact rfl):wpList P ops Q (o::rest) a X:=bI ha (kA ha _ hg hj ht hc) hd hN k
theorem sy {ds:List Deferred} {P:Program} {ops:Array Oper} {rest:List Oper} {o:Oper} {a:Act} {Q:Exit→Act→World→Prop} {X:World} {N d:Nat} {l:List (Nat × Value)} {X':World} {j t:Nat} {b c:Bool} {v:Value} (ha:Has ds a N l) (hx:(execOp a.eval o).run P X=.ok (.value v) X') (k:∀a',Has ds a' N ((d,v)::l)→wpList P ops Q rest a' X') (hg:o.guard=some (j,b):=by exact rfl) (hj:(ops[j]?).bind (·.dst)=some t:=by exact rfl) (ht:look l t=some (.bool c):=by exact rfl) (hc:c=b:=by assumption) (hd:o.dst=some d:=by exact rfl) (hN:Nat.blt d N=true:=by exact rfl):wpList P ops Q (o::rest) a X:=aI ha (aj ha _ hg hj ht hc) hx hd hN k
theorem kb (hw:Region.wanted o (yielded ops a.tmps)=true) (hx:(execOp a.eval o).run P X=.ok .skip X') (hd:o.dst=none) (k:wpList P ops Q rest a X'):wpList P ops Q (o::rest) a X:=
 fP hw fun K hK=>by
  unfold Oper.wp;rw[hx];exact hK _ _ (by rw[hd];exact k)
theorem jP {f:FuncId} {args:Array Value} {R:Ending→World→Prop} (ha:Has ds a N l) (hw:Region.wanted o (yielded ops a.tmps)=true) (hx:(execOp a.eval o).run P X=.ok (.enter f args) X) (hd:o.dst=some d) (hN:Nat.blt d N=true)
 (hc:Calls P f args X R) (k:∀e X',R e X'→∃v,e=.returned v∧∀a',Has ds a' N ((d,v)::l)→wpList P ops Q rest a' X'):wpList P ops Q (o::rest) a X:=
 fP hw fun K hK=>by
  unfold Oper.wp;rw[hx];refine hc.mono fun e X' hR=>?_;obtain⟨v,rfl,hk⟩:=k e X' hR;exact hK _ _ (by rw[hd];exact hk _ (ha.put hN v))
theorem bJ {f:FuncId} {args:Array Value} (ha:Has ds a N l) (hw:Region.wanted o (yielded ops a.tmps)=true) (hx:(execOp a.eval o).run P X=.ok (.enter f args) X) (hd:o.dst=some d) (hN:Nat.blt d N=true)
 (hc:Calls P f args X fun e X'=>e=.returned v∧X=X') (k:∀a',Has ds a' N ((d,v)::l)→wpList P ops Q rest a' X):wpList P ops Q (o::rest) a X:=
 jP ha hw hx hd hN hc fun e X' ⟨he,hX⟩=>⟨v,he,fun a' ha'=>by subst hX;exact k a' ha'⟩
theorem dg {M:List Nat} {w:World} {L:List Ent} {f:FuncId} {args:Array Value} (ha:Has ds a N l) (hw:Region.wanted o (yielded ops a.tmps)=true) (hx:(execOp a.eval o).run P X=.ok (.enter f args) X) (hd:o.dst=some d) (hN:Nat.blt d N=true)
 (hS:St M w X L) (hc:Calls P f args X fun e X'=>e=.returned v∧Below X.heap.size X X') (k:∀a' X',Has ds a' N ((d,v)::l)→St M w X' L→wpList P ops Q rest a' X'):wpList P ops Q (o::rest) a X:=
 jP ha hw hx hd hN hc fun e X' ⟨he,hX⟩=>⟨v,he,fun a' ha'=>k a' X' ha' (hS.grow hX)⟩
theorem kI {M:List Nat} {w:World} {L:List Ent} {f:FuncId} {args:Array Value} {B n sz:Nat} {T:TypeId} {xs:List Value} (ha:Has ds a N l) (hw:Region.wanted o (yielded ops a.tmps)=true) (hx:(execOp a.eval o).run P X=.ok (.enter f args) X) (hd:o.dst=some d) (hN:Nat.blt d N=true)
 (hS:St M w X L) (hc:Calls P f args X fun e X'=>∃A c,e=.returned (.slice A n c)∧X'.ownsRow B T sz (.slice A n c) n xs∧Below X.heap.size X X') (hB:X.heap.size≤B)
 (k:∀A c a' X',Has ds a' N ((d,.slice A n c)::l)→St M w X' (.row (.slice A n c) n T sz xs::L)→wpList P ops Q rest a' X'):wpList P ops Q (o::rest) a X:=
 jP ha hw hx hd hN hc fun e X' ⟨A,c,he,ho,hX⟩=>⟨_,he,fun a' ha'=>k A c a' X' ha' (hS.add hX (bW ho (Nat.zero_le _)) (fun b hb=>⟨Nat.le_trans hB (ho.lt b hb).1,(ho.lt b hb).2⟩))⟩
theorem bw {M:List Nat} {w:World} {L:List Ent} {cs:Array Value} {T:TypeId} {f:Nat→Value} (ha:Has ds a N l) (hw:Region.wanted o (yielded ops a.tmps)=true) (hx:(execOp a.eval o).run P X=.ok (.value (f X.heap.size)) (X.alloc (.cells cs T))) (hd:o.dst=some d) (hN:Nat.blt d N=true)
 (hS:St M w X L) (k:∀b a' X',w.heap.size≤b→Has ds a' N ((d,f b)::l)→St M w X' (.box b cs T::L)→wpList P ops Q rest a' X'):wpList P ops Q (o::rest) a X:=
 aI ha hw hx hd hN fun a' ha'=>k X.heap.size a' _ hS.size ha' (hS.add (dU (Below.refl _ _) _) (Box.new X cs T) (fun b hb=>by cases hb;simp))
theorem yI (n:Nat) (R:Act→World→Prop) (h1:wpList P ops (fun e a' w'=>match e with | .normal=>R a' w' | e=>Q e a' w') ((o::rest).take n) a X) (h2:∀a' X',R a' X'→wpList P ops Q ((o::rest).drop n) a' X'):wpList P ops Q (o::rest) a X:=by
 have key:∀(l1 l2:List Oper) (a:Act) (X:World),wpList P ops (fun e a' w'=>match e with | .normal=>R a' w' | e=>Q e a' w') l1 a X→(∀a' X',R a' X'→wpList P ops Q l2 a' X')→wpList P ops Q (l1 ++ l2) a X:=by
  intro l1
  induction l1 with
  | nil=>intro l2 a X h hk;exact hk a X h
  | cons x l1 ih=>
   intro l2 a X h hk;unfold wpList at h;rw[List.cons_append];unfold wpList
   split
   · rename_i hw
     rw[if_pos hw] at h;have hlet:LetsOut (fun e a' w'=>match e with | .normal=>R a' w' | e=>Q e a' w')→LetsOut Q:=fun ⟨a0,w0,h0⟩=>⟨a0,w0,h0⟩;rcases h with h | ⟨h1,h2⟩
     · left
       unfold Oper.wp at h ⊢;generalize (execOp a.eval x).run P X=r at *
       cases r with
       | ok nx w'=>
        cases nx<;>simp only[Oper.upon] at h ⊢
        case value u=>exact ih l2 _ _ h hk
        case skip=>exact ih l2 _ _ h hk
        case defer d=>exact ih l2 _ _ h hk
        case enter f args=>
         exact h.mono fun e w'' he=>by
          cases e with
          | returned u=>exact ih l2 _ _ he hk
          | panicked ch=>exact he
          | outgrown=>exact hlet he
        case row row args=>exact h.mono fun u w'' he=>ih l2 _ _ he hk
       | halt x w'=>cases x<;>simp only[Oper.upon] at h ⊢<;>exact h
     · exact .inr ⟨h1,hlet h2⟩
   · rename_i hw
     rw[if_neg hw] at h;exact ih l2 _ _ h hk
 have:=key ((o::rest).take n) ((o::rest).drop n) a X h1 h2
 rwa [List.take_append_drop] at this
end
section
variable {P:Program} {ρ:Operand→Value} {X:World} {d:Option Tmp} {ty:TypeId} {ps:String} {af:Array Edge} {g:Option (Nat × Bool)}
theorem bc {x:Operand} {v:Value} (hx:ρ x=v):(execOp ρ ⟨d,.move x,ty,ps,af,g⟩).run P X=.ok (.value v) X:=by subst hx;rfl
theorem kz {x:Operand} {v:Value} (hx:ρ x=v):(execOp ρ ⟨d,.assign x,ty,ps,af,g⟩).run P X=.ok (.value v) X:=by subst hx;rfl
theorem bH {c x y:Operand} {b:Bool} {v:Value} (hc:ρ c=.bool b) (hb:b=true) (hx:ρ x=v):(execOp ρ ⟨d,.pick c x y,ty,ps,af,g⟩).run P X=.ok (.value v) X:=by
 subst hx hb;simp[execOp,hc,asBool]
theorem kZ {c x y:Operand} {b:Bool} {v:Value} (hc:ρ c=.bool b) (hb:b=false) (hy:ρ y=v):(execOp ρ ⟨d,.pick c x y,ty,ps,af,g⟩).run P X=.ok (.value v) X:=by
 subst hy hb;simp[execOp,hc,asBool]
theorem dQ {c x y:Operand} {b u:Bool} {v:Value} (hc:ρ c=.bool b) (hx:ρ x=v) (hv:b=true→v=.bool u) (hy:ρ y=.bool false):(execOp ρ ⟨d,.pick c x y,ty,ps,af,g⟩).run P X=.ok (.value (.bool (b&&u))) X:=by
 cases b
 · simp[execOp,hc,hy,asBool]
 · rw[hv rfl] at hx;simp[execOp,hc,hx,asBool]
theorem bD {x:Operand} {i:Nat} {vs:Array Value} {v:Value} (hx:ρ x=.tuple vs) (hi:vs[i]? = some v):(execOp ρ ⟨d,.extract x i,ty,ps,af,g⟩).run P X=.ok (.value v) X:=by
 simp[execOp,hx,Instr.extract,hi]
theorem vx {ds:List Deferred} {P:Program} {ops:Array Oper} {rest:List Oper} {a:Act} {Q:Exit→Act→World→Prop} {X:World} {N d:Nat} {l:List (Nat × Value)} {ty:TypeId} {ps:String} {af:Array Edge} {x:Operand} {i:Nat} {vs:Array Value} {v:Value} (ha:Has ds a N l) (k:∀a',Has ds a' N ((d,v)::l)→wpList P ops Q rest a' X) (hx:zS l x=some (.tuple vs):=by exact rfl) (hi:vs[i]? = some v:=by exact rfl) (hN:Nat.blt d N=true:=by exact rfl):wpList P ops Q (⟨some d,.extract x i,ty,ps,af,none⟩::rest) a X:=aI ha (ct _ _ rfl) (bD (ha.ev hx) hi) rfl hN k
def kP (P:Program) (s:TypeId) (k:Nat):Option Nat:=match P.underlying s with
 | some (.struct fs)=>(fs[k]?).bind fun f=>(P.info? f.type).bind fun i=>if i.size=0 then none else some f.offset
 | _=>none
theorem dp (b o n:Nat):(⟨b,o,none⟩:Addr).add n=⟨b,o+n,none⟩:=by unfold Addr.add;split<;>simp_all
theorem ka {s:TypeId} {x:Operand} {k b o off j:Nat} (hf:kP P s k=some off) (hx:ρ x=.pointer (some ⟨b,o,none⟩)) (hj:o+off=j):(execOp ρ ⟨d,.fieldAddr s x k,ty,ps,af,g⟩).run P X=.ok (.value (.pointer (some ⟨b,j,none⟩))) X:=by
 subst hj;unfold kP at hf
 cases hu:P.underlying s with
 | none=>rw[hu] at hf;cases hf
 | some td=>
  rw[hu] at hf
  cases td<;>try (cases hf)
  rename_i fs
  simp only at hf
  cases hk:fs[k]? with
  | none=>rw[hk] at hf;cases hf
  | some f=>
   rw[hk] at hf;simp only[Option.bind_some] at hf
   cases hi:P.info? f.type with
   | none=>rw[hi] at hf;cases hf
   | some i=>
    rw[hi] at hf;simp only[Option.bind_some] at hf
    split at hf
    · cases hf
    · rename_i h0
      injection hf with hf;subst hf;simp[execOp,hx,Instr.fieldAt,run_underlying hu,hk,Instr.sureAddr,fieldPlace,sizeOf,typeInfo,hi,h0,dp]
theorem vf {ds:List Deferred} {P:Program} {ops:Array Oper} {rest:List Oper} {a:Act} {Q:Exit→Act→World→Prop} {X:World} {N d:Nat} {l:List (Nat × Value)} {ty:TypeId} {ps:String} {af:Array Edge} {s:TypeId} {x:Operand} {kk b oo:Nat} (ha:Has ds a N l) (off j:Nat) (k:∀a',Has ds a' N ((d,.pointer (some ⟨b,j,none⟩))::l)→wpList P ops Q rest a' X) (hx:zS l x=some (.pointer (some ⟨b,oo,none⟩)):=by exact rfl) (hj:oo+off=j:=by exact rfl) (hN:Nat.blt d N=true:=by exact rfl) (hf:kP P s kk=some off:=by kernel_rfl):wpList P ops Q (⟨some d,.fieldAddr s x kk,ty,ps,af,none⟩::rest) a X:=aI ha (ct _ _ rfl) (ka hf (ha.ev hx) hj) rfl hN k
theorem fx {s:TypeId} {x:Operand} {k b o:Nat} (off j:Nat) (hx:ρ x=.pointer (some ⟨b,o,none⟩)) (hj:o+off=j:=by exact rfl) (hf:kP P s k=some off:=by kernel_rfl):(execOp ρ ⟨d,.fieldAddr s x k,ty,ps,af,g⟩).run P X=.ok (.value (.pointer (some ⟨b,j,none⟩))) X:=ka hf hx hj
theorem fy {s:TypeId} {x:Operand} {k b o j:Nat} (off:Nat) (hx:ρ x=.pointer (some ⟨b,o,none⟩)) (hj:o+off=j:=by exact rfl) (hf:kP P s k=some off:=by kernel_rfl):(execOp ρ ⟨d,.fieldAddr s x k,ty,ps,af,g⟩).run P X=.ok (.value (.pointer (some ⟨b,j,none⟩))) X:=ka hf hx hj
def pW (P:Program) (t:TypeId):Option Bool:=(P.underlying t).map fun | .struct _ | .array _ _=>true | _=>false
theorem oq {t:TypeId} {b:Bool} (h:pW P t=some b):(isAgg t).run P X=.ok b X:=by
 unfold pW at h
 cases hu:P.underlying t with
 | none=>rw[hu] at h;cases h
 | some td=>
  rw[hu] at h;injection h with h;subst h
  cases td<;>simp[isAgg,run_underlying hu]
theorem pZ {t:TypeId} {x:Operand} {p:Addr} {v:Value} (ht:pW P t=some false) (hx:ρ x=.pointer (some p)) (hc:X.cell? p=some v):(execOp ρ ⟨d,.load t x,ty,ps,af,g⟩).run P X=.ok (.value v) X:=by
 simp[execOp,hx,Instr.loadAt,Instr.sureAddr,loadVar,oq ht,run_load,hc]
theorem lx {t:TypeId} {x:Operand} {p:Addr} {v:Value} (hx:ρ x=.pointer (some p)) (hc:X.cell? p=some v) (ht:pW P t=some false:=by kernel_rfl):(execOp ρ ⟨d,.load t x,ty,ps,af,g⟩).run P X=.ok (.value v) X:=pZ ht hx hc
theorem ai {t:TypeId} {x:Operand} {b j:Nat} {vs:List Value} (ht:pW P t=some true) (hs:(P.info? t).map (·.size)=some vs.length) (hx:ρ x=.pointer (some ⟨b,j,none⟩)) (hc:∀k u,vs[k]? = some u→X.cell? ⟨b,j+k,none⟩=some u) :
 (execOp ρ ⟨d,.load t x,ty,ps,af,g⟩).run P X=.ok (.value (.agg vs.toArray)) X:=by
 have hl:=run_loadCells_list (P:=P) X ⟨b,j,none⟩ vs (fun k u hk=>by rw[dp];exact hc k u hk)
 cases hq:P.info? t with
 | none=>rw[hq] at hs;cases hs
 | some i=>
  rw[hq] at hs
  have hi:i.size=vs.length:=by simpa using hs
  simp[execOp,hx,Instr.loadAt,Instr.sureAddr,loadVar,oq ht,sizeOf,typeInfo,hq,hi,hl]
theorem Cl {t:TypeId} {x:Operand} {v:Value} (hx:ρ x=v):(execOp ρ ⟨d,.box t x,ty,ps,af,g⟩).run P X=.ok (.value (.pointer (some ⟨X.heap.size,0,none⟩))) (X.alloc (.cells v.cells t)):=by
 subst hx;rfl
theorem nb {ds:List Deferred} {P:Program} {ops:Array Oper} {rest:List Oper} {a:Act} {Q:Exit→Act→World→Prop} {X:World} {N d:Nat} {l:List (Nat × Value)} {ty:TypeId} {ps:String} {af:Array Edge} {M:List Nat} {w:World} {L:List Ent} {t:TypeId} {x:Operand} {v:Value} (ha:Has ds a N l) (hx:zS l x=some v) (hN:Nat.blt d N=true) (hS:St M w X L) (k:∀b a' X',w.heap.size≤b→Has ds a' N ((d,.pointer (some ⟨b,0,none⟩))::l)→St M w X' (.box b v.cells t::L)→wpList P ops Q rest a' X'):wpList P ops Q (⟨some d,.box t x,ty,ps,af,none⟩::rest) a X:=bw ha (ct _ _ rfl) (f:=fun b=>.pointer (some ⟨b,0,none⟩)) (Cl (ha.ev hx)) rfl hN hS k
theorem eb {t:TypeId} {z:Value} (hz:(P.info? t).map (·.zero)=some (some z)):(execOp ρ ⟨d,.alloc t,ty,ps,af,g⟩).run P X=.ok (.value (.pointer (some ⟨X.heap.size,0,none⟩))) (X.alloc (.cells z.cells t)):=by
 cases hq:P.info? t with
 | none=>rw[hq] at hz;cases hz
 | some i=>
  rw[hq] at hz
  have hi:i.zero=some z:=by simpa using hz
  simp[execOp,Instr.alloc,zeroValue,typeInfo,hq,hi,newVar,newRow]
theorem na {ds:List Deferred} {P:Program} {ops:Array Oper} {rest:List Oper} {a:Act} {Q:Exit→Act→World→Prop} {X:World} {N d:Nat} {l:List (Nat × Value)} {ty:TypeId} {ps:String} {af:Array Edge} {M:List Nat} {w:World} {L:List Ent} {t:TypeId} (z:Value) (ha:Has ds a N l) (hN:Nat.blt d N=true) (hS:St M w X L) (k:∀b a' X',w.heap.size≤b→Has ds a' N ((d,.pointer (some ⟨b,0,none⟩))::l)→St M w X' (.box b z.cells t::L)→wpList P ops Q rest a' X') (hz:(P.info? t).map (·.zero)=some (some z):=by kernel_rfl):wpList P ops Q (⟨some d,.alloc t,ty,ps,af,none⟩::rest) a X:=bw ha (ct _ _ rfl) (f:=fun b=>.pointer (some ⟨b,0,none⟩)) (eb hz) rfl hN hS k
theorem sW {x:Operand} {t:TypeId} {b:Bool} (hx:ρ x=.bool b):(execOp ρ ⟨d,.unOp .not t x,ty,ps,af,g⟩).run P X=.ok (.value (.bool (!b))) X:=by
 simp[execOp,hx,Op.unary]
theorem cA {n:Int} (h:-9223372036854775808≤n∧n<9223372036854775808):IntKind.i64.wrap n=n:=by rw[IntKind.wrap_i64];omega
theorem bU {x y:Operand} {t t':TypeId} {m n:Int} (hx:ρ x=.int .i64 m) (hy:ρ y=.int .i64 n) (h:-9223372036854775808≤m+n∧m+n<9223372036854775808):(execOp ρ ⟨d,.binOp .add t x y t',ty,ps,af,g⟩).run P X=.ok (.value (.int .i64 (m+n))) X:=by
 simp[execOp,hx,hy,eqGuard,binOp,Op.intArith,cA h]
theorem ek {x y:Operand} {t t':TypeId} {m n:Int} (hx:ρ x=.int .i64 m) (hy:ρ y=.int .i64 n) (h:-9223372036854775808≤m-n∧m-n<9223372036854775808):(execOp ρ ⟨d,.binOp .sub t x y t',ty,ps,af,g⟩).run P X=.ok (.value (.int .i64 (m-n))) X:=by
 simp[execOp,hx,hy,eqGuard,binOp,Op.intArith,cA h]
theorem p6 {x y:Operand} {t t':TypeId} {m n:Int} (hx:ρ x=.int .i64 m) (hy:ρ y=.int .i64 n):(execOp ρ ⟨d,.binOp .sub t x y t',ty,ps,af,g⟩).run P X=.ok (.value (.int .i64 (IntKind.i64.wrap (m-n)))) X:=by
 simp[execOp,hx,hy,eqGuard,binOp,Op.intArith]
theorem eW {x y:Operand} {t t':TypeId} {m n:Int} (hx:ρ x=.int .i64 m) (hy:ρ y=.int .i64 n) (h:-9223372036854775808≤m*n∧m*n<9223372036854775808):(execOp ρ ⟨d,.binOp .mul t x y t',ty,ps,af,g⟩).run P X=.ok (.value (.int .i64 (m*n))) X:=by
 simp[execOp,hx,hy,eqGuard,binOp,Op.intArith,cA h]
theorem jE {x y:Operand} {t t':TypeId} {m n:Int} (hx:ρ x=.int .i64 m) (hy:ρ y=.int .i64 n) (h:0≤m∧m<9223372036854775808∧0<n):(execOp ρ ⟨d,.binOp .quo t x y t',ty,ps,af,g⟩).run P X=.ok (.value (.int .i64 (m / n))) X:=by
 have h0:n≠0:=by omega
 have e:m.tdiv n=m / n:=Int.tdiv_eq_ediv_of_nonneg h.1;have Y:0≤m / n:=Int.ediv_nonneg h.1 (by omega);have Y:m / n≤m:=Int.ediv_le_self n h.1;simp[execOp,hx,hy,eqGuard,binOp,Op.intDiv,h0,e,cA (n:=m / n) (by omega)]
theorem js {x y:Operand} {t t':TypeId} {m n:Int} (hx:ρ x=.int .i64 m) (hy:ρ y=.int .i64 n) (h:0≤m∧0<n):(execOp ρ ⟨d,.binOp .rem t x y t',ty,ps,af,g⟩).run P X=.ok (.value (.int .i64 (m % n))) X:=by
 have h0:n≠0:=by omega
 have e:m.tmod n=m % n:=Int.tmod_eq_emod_of_nonneg h.1;simp[execOp,hx,hy,eqGuard,binOp,Op.intDiv,h0,e]
theorem uz {x y:Operand} {t t':TypeId} {m n:Int} (hx:ρ x=.int .i64 m) (hy:ρ y=.int .i64 n) (h:n≠0):(execOp ρ ⟨d,.binOp .rem t x y t',ty,ps,af,g⟩).run P X=.ok (.value (.int .i64 (m.tmod n))) X:=by
 simp[execOp,hx,hy,eqGuard,binOp,Op.intDiv,h]
theorem kU {x y:Operand} {t t':TypeId} {k:IntKind} {m n:Int} (hx:ρ x=.int k m) (hy:ρ y=.int k n):(execOp ρ ⟨d,.binOp .lss t x y t',ty,ps,af,g⟩).run P X=.ok (.value (.bool (decide (m<n)))) X:=by
 simp[execOp,hx,hy,eqGuard,binOp,Op.intCmp]
theorem kW {x y:Operand} {t t':TypeId} {k:IntKind} {m n:Int} (hx:ρ x=.int k m) (hy:ρ y=.int k n):(execOp ρ ⟨d,.binOp .leq t x y t',ty,ps,af,g⟩).run P X=.ok (.value (.bool (decide (m≤n)))) X:=by
 simp[execOp,hx,hy,eqGuard,binOp,Op.intCmp]
theorem xT {x y:Operand} {t t':TypeId} {k:IntKind} {m n:Int} (hx:ρ x=.int k m) (hy:ρ y=.int k n):(execOp ρ ⟨d,.binOp .gtr t x y t',ty,ps,af,g⟩).run P X=.ok (.value (.bool (decide (m>n)))) X:=by
 simp[execOp,hx,hy,eqGuard,binOp,Op.intCmp]
theorem xV {x y:Operand} {t t':TypeId} {k:IntKind} {m n:Int} (hx:ρ x=.int k m) (hy:ρ y=.int k n):(execOp ρ ⟨d,.binOp .geq t x y t',ty,ps,af,g⟩).run P X=.ok (.value (.bool (decide (m≥n)))) X:=by
 simp[execOp,hx,hy,eqGuard,binOp,Op.intCmp]
theorem dE {x y:Operand} {t t':TypeId} {k:IntKind} {m n:Int} (hx:ρ x=.int k m) (hy:ρ y=.int k n):(execOp ρ ⟨d,.binOp .eql t x y t',ty,ps,af,g⟩).run P X=.ok (.value (.bool (m==n))) X:=by
 simp[execOp,hx,hy,eqGuard,binOp,Op.intCmp]
theorem iE {x y:Operand} {t t':TypeId} {k:IntKind} {m n:Int} (hx:ρ x=.int k m) (hy:ρ y=.int k n):(execOp ρ ⟨d,.binOp .neq t x y t',ty,ps,af,g⟩).run P X=.ok (.value (.bool (m != n))) X:=by
 simp[execOp,hx,hy,eqGuard,binOp,Op.intCmp]
theorem tW (x y:ByteArray):(x.toList==y.toList)=decide (x=y):=by
 rw[Bool.eq_iff_iff,beq_iff_eq,decide_eq_true_eq]
 constructor
 · intro h
   have e:∀z:ByteArray,z.toList=z.data.toList:=fun z=>ByteArray.toList_eq z;rw[e,e] at h;exact im h
 · rintro rfl;rfl
theorem jb {x y:Operand} {t t':TypeId} {m n:ByteArray} (hx:ρ x=.string m) (hy:ρ y=.string n):(execOp ρ ⟨d,.binOp .eql t x y t',ty,ps,af,g⟩).run P X=.ok (.value (.bool (decide (m=n)))) X:=by
 simp[execOp,hx,hy,eqGuard,binOp,Op.stringOp,tW]
theorem l8 {x y:Operand} {t t':TypeId} {m n:ByteArray} (hx:ρ x=.string m) (hy:ρ y=.string n):(execOp ρ ⟨d,.binOp .neq t x y t',ty,ps,af,g⟩).run P X=.ok (.value (.bool (!decide (m=n)))) X:=by
 simp[execOp,hx,hy,eqGuard,binOp,Op.stringOp,tW]
theorem tj {x:Operand} {t:TypeId} {n c:Nat} {A:Option Addr} {e:TypeId} (ht:P.underlying t=some (.slice e)) (hx:ρ x=.slice A n c):(execOp ρ ⟨d,.call ⟨.builtin .len,#[x],#[t]⟩,ty,ps,af,g⟩).run P X=.ok (.value (.int .i64 n)) X:=by
 simp[execOp,resolve,invoke,builtin,Builtin.len_,hx,run_underlying ht,goInt]
theorem iZ {x:Operand} {t:TypeId} {s:ByteArray} (ht:P.underlying t=some .string) (hx:ρ x=.string s):(execOp ρ ⟨d,.call ⟨.builtin .len,#[x],#[t]⟩,ty,ps,af,g⟩).run P X=.ok (.value (.int .i64 s.size)) X:=by
 simp[execOp,resolve,invoke,builtin,Builtin.len_,hx,run_underlying ht,goInt]
theorem au {x y:Operand} {t e:TypeId} {n c b o i sz j:Nat} {m:Int} (ht:P.underlying t=some (.slice e)) (hs:(P.info? e).map (·.size)=some sz) (hx:ρ x=.slice (some ⟨b,o,none⟩) n c) (hy:ρ y=.int .i64 m) (hm:m=(i:Int)) (hi:i<n) (hj:o+i*sz=j) :
 (execOp ρ ⟨d,.indexAddr t x y,ty,ps,af,g⟩).run P X=.ok (.value (.pointer (some ⟨b,j,none⟩))) X:=by
 subst hm hj
 cases hq:P.info? e with
 | none=>rw[hq] at hs;cases hs
 | some q=>
  rw[hq] at hs
  have hz:q.size=sz:=by simpa using hs
  have h1:(0:Int)≤i∧(i:Int)<n:=by omega
  simp[execOp,hx,hy,Instr.indexAt,asIntOf,run_underlying ht,hi,sizeOf,typeInfo,hq,hz,dp]
theorem oW {x y:Operand} {t:TypeId} {s:ByteArray} {i:Nat} {m:Int} (ht:P.underlying t=some .string) (hx:ρ x=.string s) (hy:ρ y=.int .i64 m) (hm:m=(i:Int)) (hi:i<s.size) :
 (execOp ρ ⟨d,.index t x y,ty,ps,af,g⟩).run P X=.ok (.value (.int .u8 ((bl s).getD i 0).toNat)) X:=by
 subst hm
 have e:s[i]? = some s[i]:=by rw[getElem?_pos s i hi]
 have e2:(bl s).getD i 0=s[i]:=by
  rw[List.getD_eq_getElem?_getD,List.getElem?_eq_getElem (by rw[aO];exact hi)];rfl
 rw[e2];simp[execOp,hx,hy,Instr.index,asIntOf,run_underlying ht,e]
theorem aR {x:Operand} {t:TypeId} {s:ByteArray} {lo hi:Option Operand} {l h:Nat} (ht:P.underlying t=some .string) (hx:ρ x=.string s) (hlo:match lo with | some y=>ρ y=.int .i64 (l:Nat) | none=>l=0) (hhi:match hi with | some y=>ρ y=.int .i64 (h:Nat) | none=>h=s.size) (h1:l≤h) (h2:h≤s.size) :
 (execOp ρ ⟨d,.slice t x lo hi none,ty,ps,af,g⟩).run P X=.ok (.value (.string (s.extract l h))) X:=by
 cases lo<;>cases hi<;>simp only at hlo hhi
 · subst hlo hhi;simp[execOp,hx,Instr.sliceAt,Instr.slice,run_underlying ht,Instr.sliceBounds]
 · subst hlo;simp[execOp,hx,hhi,Instr.sliceAt,Instr.slice,run_underlying ht,Instr.sliceBounds,Instr.sliceBound,asIntOf,h2]
 · subst hhi;simp[execOp,hx,hlo,Instr.sliceAt,Instr.slice,run_underlying ht,Instr.sliceBounds,Instr.sliceBound,asIntOf,h1]
 · simp[execOp,hx,hlo,hhi,Instr.sliceAt,Instr.slice,run_underlying ht,Instr.sliceBounds,Instr.sliceBound,asIntOf,h1,h2]
theorem dC {x:Operand} {s t:TypeId} {k k':IntKind} {n:Int} {k0:IntKind} (hs:(P.underlying s).map (fun | .int _=>true | _=>false)=some true) (ht:P.underlying t=some (.int k')) (hx:ρ x=.int k n):(execOp ρ ⟨d,.convert s t x,ty,ps,af,g⟩).run P X=.ok (.value (.int k' (k'.wrap n))) X:=by
 cases hq:P.underlying s with
 | none=>rw[hq] at hs;cases hs
 | some td=>
  simp[execOp,hx,convert,run_underlying ht,run_underlying hq,Conv.intToInt]
theorem ax {f:FuncId} {args:Array Operand} {ts:Array TypeId} {vs:List Value} (hf:∀(as:Array Value) (W:World),(callFunc f as).run P W=.ok (.enter f as) W) (ha:args.toList.map ρ=vs) (hfn:ρ (.func f)=.func (.func f) #[] #[]) :
 (execOp ρ ⟨d,.call ⟨.value (.func f),args,ts⟩,ty,ps,af,g⟩).run P X=.ok (.enter f vs.toArray) X:=by
 have e:args.map ρ=vs.toArray:=by rw[←ha];apply Array.ext';simp
 simp[execOp,resolve,e,hfn,Deferred.ofValue,invoke,hf]
end
open Go.RowKit Go.Sort
variable {ds:List Deferred}
section
variable {P:Program} {Q:Exit→Act→World→Prop} {a:Act} {X:World} {N:Nat} {l:List (Nat × Value)}
theorem al {f:FuncId} {fn:Func} {c:Code} {vs:List Value} {R:Ending→World→Prop} (hf:P.funcs[f]? = some fn) (hb:fn.body=some c) (hn:fn.ntmps=N) (hN:Nat.ble vs.length N=true)
 (h:∀a,Has [] a N (vh 0 vs)→c.wp P (bodyPost P fn R) a X):Calls P f vs.toArray X R:=by
 refine calls_of_wp hf hb ?_;rw[hn];exact h _ (qs hN)
theorem ah {x y:Code} (h:x.wp P (Exit.then (y.wp P Q) Q) a X):(Code.seq x y).wp P Q a X:=wp_seq h
theorem ao {id:Nat} {ol:List Oper} (h:wpList P ol.toArray Q ol a X):(Code.region id ol.toArray false).wp P Q a X:=wp_region_lit h
theorem ae {ops:Array Oper} (h:Q .normal a X):wpList P ops Q [] a X:=h
theorem ak {c:Operand} {x y:Code} {t:Bool} (hc:a.eval c=.bool t) (ht:t=true→x.wp P Q a X) (hf:t=false→y.wp P Q a X):(Code.cond c x y).wp P Q a X:=wp_cond_split hc ht hf
theorem iY {c:Operand} {x y:Code} {t:Bool} (hc:a.eval c=.bool t) (ht:t=false) (h:y.wp P Q a X):(Code.cond c x y).wp P Q a X:=wp_cond_split hc (fun h'=>by rw[ht] at h';cases h') (fun _=>h)
theorem ag {next:Act→World→Prop} (h:next a X):Exit.then next Q .normal a X:=h
theorem pk {P:Program} {ops:Array Oper} {a:Act} {X:World} {Q:Exit→Act→World→Prop} {id:Nat} {ol:List Oper} {y:Code} (h:wpList P ol.toArray (Exit.then (y.wp P Q) Q) ol a X):wpList P ops (Exit.then ((Code.seq (.region id ol.toArray false) y).wp P Q) Q) [] a X:=ae (ag (ah (ao h)))
theorem dL {id:Nat} (h:Q .normal a X):Exit.inBlock id Q .normal a X:=h
theorem uP {id:Nat} (h:Q .normal a X):Exit.inBlock id Q (.exit id) a X:=by show(if id=id then _ else _);rw[if_pos rfl];exact h
theorem gQ {next:Act→World→Prop} {id:Nat} (h:Q (.exit id) a X):Exit.then next Q (.exit id) a X:=h
def ic (l:List (Nat × Value)):List Nat→List (Nat × Value)
 | []=>[]
 | k::ks=>match look l k with | some v=>(k,v)::ic l ks | none=>ic l ks
theorem aY {ι:Type} {c:Code} {M:List Nat} {w:World} {L:List Ent} (ha:Has ds a N l) (hS:St M w X L) (ks:List Nat) (J:ι→List (Nat × Value)) (F:ι→Prop) (E:ι→List Ent→List Ent) (μ:ι→Nat) (i0:ι)
 (h0:F i0) (hJ:tn l (J i0 ++ ic l ks)) (hE:St M w X (E i0 L))
 (round:∀i a' X',F i→Has ds a' N (J i ++ ic l ks)→St M w X' (E i L)→c.wp P (Exit.then (fun a2 X2=>∃i',μ i'<μ i∧F i'∧Has ds a2 N (J i' ++ ic l ks)∧St M w X2 (E i' L)) Q) a' X'):(Code.loop c).wp P Q a X:=by
 refine wp_loop_ghost (fun n a' X'=>∃i,μ i=n∧F i∧Has ds a' N (J i ++ ic l ks)∧St M w X' (E i L)) (μ i0) ⟨i0,rfl,h0,ha.re hJ,hE⟩ ?_
 rintro n a' X' ⟨i,rfl,hF,hH,hSt⟩
 refine wp_mono (round i a' X' hF hH hSt) ?_;intro e a2 X2 hq
 cases e with
 | normal=>
  obtain⟨i',h1,h2,h3,h4⟩:=hq;exact⟨μ i',h1,i',rfl,h2,h3,h4⟩
 | exit id=>exact hq
 | goto l=>exact hq
 | ret=>exact hq
 | panic ch=>exact hq
 | outgrown=>exact hq
theorem qo {c:Code} (R:Act→World→Prop) (h1:c.wp P (Exit.then R Q) a X) (h2:∀a' X',R a' X'→Q .normal a' X'):c.wp P Q a X:=by
 refine wp_mono h1 ?_;intro e a' X' hq
 cases e with
 | normal=>exact h2 a' X' hq
 | exit id=>exact hq
 | goto l=>exact hq
 | ret=>exact hq
 | panic ch=>exact hq
 | outgrown=>exact hq
theorem Has.getD {t:Nat} {v:Value} (ha:Has ds a N l) (h:look l t=some v):a.tmps.getD t undef=v:=by
 rw[Array.getD_eq_getD_getElem?,ha.slot t v h];rfl
theorem qG {M:List Nat} {w:World} {L:List Ent} {i b:Nat} {cs:Array Value} {T ty:TypeId} (hS:St M w X L) (hi:L[i]? = some (.box b cs T)) (ht:pW P ty=some true) (hs:(P.info? ty).map (·.size)=some cs.toList.length) :
 (loadVar ty ⟨b,0,none⟩).run P X=.ok (.agg cs) X:=by
 unfold pW at ht
 cases hu:P.underlying ty with
 | none=>rw[hu] at ht;cases ht
 | some td=>
  rw[hu] at ht
  have hs':(P.info? ty).map (·.size)=some cs.size:=by rw[hs];simp
  cases td<;>first | exact run_loadVar_row X b T ty cs (0,0) _ (hS.at_ hi) hu rfl hs' | (simp at ht)
variable {fn:Func} {R:Ending→World→Prop}
theorem C4 (ha:Has [] a N l) (hr:fn.results=#[]) (h:R (.returned (.tuple #[])) X):bodyPost P fn R .normal a X:=
 ⟨ha.defers,.tuple #[],by simp[results,hr],h⟩
theorem Bk (ha:Has [] a N l) (hr:fn.results=#[]) (h:R (.returned (.tuple #[])) X):bodyPost P fn R .ret a X:=
 ⟨ha.defers,.tuple #[],by simp[results,hr],h⟩
theorem aD {t:Nat} {v:Value} (ha:Has [] a N l) (hr:fn.results=#[.tmp t]) (hv:look l t=some v) (h:R (.returned v) X):bodyPost P fn R .ret a X:=
 ⟨ha.defers,v,by have:=ha.getD hv;simp only[Array.getD_eq_getD_getElem?] at this;simp[results,hr,this],h⟩
theorem bC {t u:Nat} {v x:Value} (ha:Has [] a N l) (hr:fn.results=#[.tmp t,.tmp u]) (hv:look l t=some v) (hx:look l u=some x) (h:R (.returned (.tuple #[v,x])) X):bodyPost P fn R .ret a X:=
 ⟨ha.defers,_,by have h1:=ha.getD hv;have h2:=ha.getD hx;simp only[Array.getD_eq_getD_getElem?] at h1 h2;simp[results,hr,h1,h2],h⟩
theorem jU {t u r:Nat} {v x y:Value} (ha:Has [] a N l) (hr:fn.results=#[.tmp t,.tmp u,.tmp r]) (hv:look l t=some v) (hx:look l u=some x) (hy:look l r=some y) (h:R (.returned (.tuple #[v,x,y])) X):bodyPost P fn R .ret a X:=
 ⟨ha.defers,_,by have h1:=ha.getD hv;have h2:=ha.getD hx;have h3:=ha.getD hy;simp only[Array.getD_eq_getD_getElem?] at h1 h2 h3;simp[results,hr,h1,h2,h3],h⟩
theorem kN {M:List Nat} {w:World} {L:List Ent} {p b i:Nat} {cs:Array Value} {T ty:TypeId} (ha:Has [] a N l) (hr:fn.results=#[.cell p ty]) (hp:look l p=some (.pointer (some ⟨b,0,none⟩))) (hS:St M w X L) (hi:L[i]? = some (.box b cs T)) (ht:pW P ty=some true) (hs:(P.info? ty).map (·.size)=some cs.toList.length) (h:R (.returned (.agg cs)) X):bodyPost P fn R .ret a X:=
 ⟨ha.defers,_,by have h1:=ha.getD hp;simp only[Array.getD_eq_getD_getElem?] at h1;simp[results,hr,h1,asAddr,qG hS hi ht hs],h⟩
theorem bo {M:List Nat} {w:World} {L:List Ent} {p b i t:Nat} {v:Value} {cs:Array Value} {T ty:TypeId} (ha:Has [] a N l) (hr:fn.results=#[.cell p ty,.tmp t]) (hp:look l p=some (.pointer (some ⟨b,0,none⟩))) (hv:look l t=some v) (hS:St M w X L) (hi:L[i]? = some (.box b cs T)) (ht:pW P ty=some true) (hs:(P.info? ty).map (·.size)=some cs.toList.length) (h:R (.returned (.tuple #[.agg cs,v])) X):bodyPost P fn R .ret a X:=
 ⟨ha.defers,_,by have h1:=ha.getD hp;have h2:=ha.getD hv;simp only[Array.getD_eq_getD_getElem?] at h1 h2;simp[results,hr,h1,h2,asAddr,qG hS hi ht hs],h⟩
end
section
variable {P:Program} {ops:Array Oper} {Q:Exit→Act→World→Prop}
theorem iI {C:World→Prop} {L:Act→Prop}:∀(ol:List Oper) (a:Act),cV P ops C L ol a→∃afin,cV P ops C (fun a'=>a'=afin) ol a∧L afin
 | [],a,h=>⟨a,rfl,h⟩
 | o::ol,a,h=>by
  unfold cV at h
  split at h
  · rename_i hw
    obtain⟨v,h1,h2⟩:=h;obtain⟨afin,h3,h4⟩:=iI ol _ h2;exact⟨afin,by unfold cV;rw[if_pos hw];exact⟨v,h1,h3⟩,h4⟩
  · rename_i hw
    obtain⟨afin,h3,h4⟩:=iI ol _ h;exact⟨afin,by unfold cV;rw[if_neg hw];exact h3,h4⟩
theorem iC {C C':World→Prop} {L:Act→Prop} (hC:∀X,C' X→C X):∀(ol:List Oper) (a:Act),cV P ops C L ol a→cV P ops C' L ol a
 | [],a,h=>h
 | o::ol,a,h=>by
  unfold cV at h ⊢
  split
  · rename_i hw
    rw[if_pos hw] at h;obtain⟨v,h1,h2⟩:=h;exact⟨v,fun X hX=>h1 X (hC X hX),iC hC ol _ h2⟩
  · rename_i hw
    rw[if_neg hw] at h;exact iC hC ol _ h
def nk (P:Program) (l:List Oper) (Q:Exit→Act→World→Prop) (a:Act) (w:World):Prop:=wpAny P .any l.toArray Q l.toArray.size (Array.replicate l.toArray.size false) a { w with drawn:=w.drawn+1 }
theorem wX {a:Act} {w:World} {l:List Oper} (sts:List (Nat × (Nat→Option Obj→Prop))) (fl:List Bool) (nds:List NdB)
 (hB:jj l.toArray fl fl.length a.tmps.size (nds.map fun d=>(d.k,d.deps))=true)
 (h:∃afin:Act,cV P l.toArray (Grw (lV sts) w) (fun a'=>a'=afin) (pick fl l) a∧rW P l.toArray sts w Q (l.drop fl.length) nds afin []) :
 nk P l Q a w:=by
 obtain⟨afin,hwg,hnd⟩:=h;have hB':=hB;unfold jj at hB';simp only[Bool.and_eq_true,decide_eq_true_eq] at hB';obtain⟨⟨⟨⟨⟨⟨⟨⟨⟨hsel,hn⟩,hs⟩,hc⟩,hseq⟩,hh⟩,_⟩,hks⟩,hndB⟩,_⟩:=hB'
 have hsz:l.toArray.size=l.length:=by simp
 have hrest:=iq _ _ hwg
 have hslot:∀t,(∀j,j<fl.length→ca fl j=false→aC l.toArray j≠some t)→afin.tmps[t]? = a.tmps[t]?:=fun t ht=>by
  refine(gq _ _ ?_ hwg).1.symm
  have aux:∀(fs:List Bool) (l':List Oper) (i:Nat),i+fs.length=fl.length→(∀j,fs[j]? = fl[i+j]?)→(∀j,l'[j]? = l.toArray[i+j]?)→∀o∈pick fs l',o.dst≠some t:=by
   intro fs
   induction fs with
   | nil=>intro l' i _ _ _ o ho;cases l'<;>simp[pick] at ho
   | cons b fs ih=>
    intro l' i hlen hfs hl' o ho
    cases l' with
    | nil=>cases b<;>simp[pick] at ho
    | cons x l'=>
     have hx:l.toArray[i]? = some x:=by have:=hl' 0;rw[Nat.add_zero] at this;rw[←this];rfl
     have hb:ca fl i=b:=by have:=hfs 0;rw[Nat.add_zero] at this;unfold ca;rw[←this];rfl
     have hfs':∀j,fs[j]? = fl[i+1+j]?:=fun j=>by have:=hfs (j+1);rw[show i+1+j=i+(j+1) by omega,←this];rfl
     have hl'':∀j,l'[j]? = l.toArray[i+1+j]?:=fun j=>by have:=hl' (j+1);rw[show i+1+j=i+(j+1) by omega,←this];rfl
     cases b with
     | true=>exact ih l' (i+1) (by simp at hlen;omega) hfs' hl'' o ho
     | false=>
      rcases List.mem_cons.1 ho with rfl | ho
      · intro e
        exact ht i (by simp at hlen;omega) hb (by unfold aC;rw[hx];exact e)
      · exact ih l' (i+1) (by simp at hlen;omega) hfs' hl'' o ho
  exact aux fl l 0 (by omega) (fun j=>by rw[Nat.zero_add]) (fun j=>by rw[Nat.zero_add];simp)
 have hdet:=iW (P:=P) (C:=Grw (lV sts) w) (afin:=afin) hh rfl rfl (Nat.le_of_lt hn) (fun t=>if (∃j,j<fl.length∧ca fl j=false∧aC l.toArray j=some t) then afin.tmps[t]? else a.tmps[t]?)
  (fun j t hj hnj hjt=>if_pos ⟨j,hj,hnj,hjt⟩) (fun t ht=>if_neg (fun ⟨j,hj,hnj,hjt⟩=>ht j hj hnj hjt))
  fl l 0 a (by omega) (fun j=>by rw[Nat.zero_add]) (fun j=>by rw[Nat.zero_add];simp) rfl (fun t ⟨j,hj,_⟩=>absurd hj (Nat.not_lt_zero _)) (fun t _=>rfl) hwg
 have:=ry (P:=P) (w:=w) (Q:=Q) (tail:=l.drop fl.length) (a:=a) (afin:=afin) (sts:=sts) hB rfl (fun j=>by rw[List.getElem?_drop,List.getElem?_toArray]) (by rw[List.length_drop,hsz]) hrest hslot
  (fun j o hj hnj ho=>hdet j o (Nat.zero_le _) hj hnj ho) hnd fl.length (Array.replicate l.toArray.size false) a { w with drawn:=w.drawn+1 } (fun _=>undef)
  (by
   rw[List.filter_eq_self.2 (fun j hj=>by
    have hj':j<l.toArray.size:=by have:=List.mem_range.1 hj;omega
    rw[getD_in (by rw[Array.size_replicate];exact hj') (getD_replicate_false _ _)];rfl)]
   simp)
  ⟨(Grw.refl _ w).drew,⟨by simp,fun j oj _ hl=>(by rw[getD_replicate_false] at hl;cases hl),fun t _ ht=>getD_in (by simpa using ht) (getD_replicate_false _ _)⟩,rfl,rfl,
   fun i d _ _ hl=>(by rw[getD_replicate_false] at hl;cases hl),fun t _=>rfl,fun pre d suf _ hl=>(by rw[getD_replicate_false] at hl;cases hl),fun k _=>(Grw.refl _ w).drew⟩
 rw[show fl.length+(l.toArray.size-fl.length)=l.toArray.size by omega] at this;exact this
theorem p4 {N:Nat} {a:Act} {w:World} {l:List Oper} {sl:List (Nat × Value)} (ha:Has ds a N sl) (fl:List Bool) (nds:List Nd)
 (h:cV P l.toArray (fun X=>Below w.heap.size w X) (fun g=>nv P l.toArray w Q (l.drop fl.length) nds g []) (pick fl l) a)
 (hB:jj l.toArray fl fl.length N (nds.map fun d=>(d.k,d.deps))=true) (hst:nds.all (fun d=>!d.st)=true) :
 nk P l Q a w:=by
 obtain⟨afin,h1,h2⟩:=iI _ _ h;have hno:=nt nds afin [] h2
 have hall:∀d∈nds,d.st=false:=fun d hd=>by simpa using List.all_eq_true.1 hst d hd
 have hf:((nds.map Nd.lift).filter (·.st))=[]:=by
  rw[List.filter_eq_nil_iff];intro d hd;obtain⟨e,he,rfl⟩:=List.mem_map.1 hd;show ¬(e.st=true);rw[hall e he];simp
 have hne:=ng (nds.map Nd.lift) (fun e he f hf' hes=>by
  obtain⟨x,hx,rfl⟩:=List.mem_map.1 he
  rw[show x.lift.st=x.st from rfl,hall x hx] at hes;cases hes)
  (fun e he f hf' _=>by
   obtain⟨x,hx,rfl⟩:=List.mem_map.1 he;obtain⟨y,hy,rfl⟩:=List.mem_map.1 hf'
   rw[show x.lift.st=x.st from rfl,show y.lift.st=y.st from rfl,hall x hx,hall y hy])
  (nds.map Nd.lift) afin [] (fun d hd=>hd) hno
 rw[hf] at hne;refine wX [] fl ((nds.map Nd.lift).map NdA.lift) (by rw[ha.size,List.map_map,List.map_map];exact hB) ⟨afin,?_,hne⟩;exact iC (fun X hX=>(hX.weaken (O':=fun _ _=>False) (fun x o ⟨p,hp,_⟩=>by cases hp)).below) _ _ h1
theorem aH {id N:Nat} {a:Act} {w:World} {l:List Oper} {sl:List (Nat × Value)} (ha:Has ds a N sl) (fl:List Bool) (nds:List Nd) (hm:P.follows .mixedOrders=true)
 (h:cV P l.toArray (fun X=>Below w.heap.size w X) (fun g=>nv P l.toArray w Q (l.drop fl.length) nds g []) (pick fl l) a)
 (hB:jj l.toArray fl fl.length N (nds.map fun d=>(d.k,d.deps))=true) (hst:nds.all (fun d=>!d.st)=true) :
 (Code.region id l.toArray true).wp P Q a w:=wp_region_any hm (p4 ha fl nds h hB hst)
variable {C:World→Prop} {L:Act→Prop} {rest:List Oper} {o:Oper} {a:Act} {N d:Nat} {l:List (Nat × Value)} {v:Value}
theorem av (h:L a):cV P ops C L [] a:=h
theorem iP (ha:Has ds a N l) (hw:Region.wanted o (yielded ops a.tmps)=true) (hd:o.dst=some d) (hN:Nat.blt d N=true) (hx:∀X,C X→(execOp a.eval o).run P X=.ok (.value v) X)
 (k:∀a',Has ds a' N ((d,v)::l)→cV P ops C L rest a'):cV P ops C L (o::rest) a:=by
 unfold cV;rw[if_pos hw];refine⟨v,fun X hX=>?_,by rw[hd];exact k _ (ha.put hN v)⟩;rw[hx X hX];exact⟨rfl,rfl⟩
theorem qv {ds:List Deferred} (ha:Has ds a N l) (hx:∀X,C X→(execOp a.eval o).run P X=.ok (.value v) X) (k:∀a',Has ds a' N ((d,v)::l)→cV P ops C L rest a') (hg:o.guard=none:=by rfl) (hd:o.dst=some d:=by rfl) (hN:Nat.blt d N=true:=by rfl):cV P ops C L (o::rest) a:=iP ha (ct a ops hg) hd hN hx k
theorem mL {f:FuncId} {args:Array Value} (ha:Has ds a N l) (hw:Region.wanted o (yielded ops a.tmps)=true) (hd:o.dst=some d) (hN:Nat.blt d N=true) (hx:∀X,(execOp a.eval o).run P X=.ok (.enter f args) X)
 (hc:∀X,C X→Calls P f args X fun e X'=>e=.returned v∧Below X.heap.size X X') (k:∀a',Has ds a' N ((d,v)::l)→cV P ops C L rest a'):cV P ops C L (o::rest) a:=by
 unfold cV;rw[if_pos hw];refine⟨v,fun X hX=>?_,by rw[hd];exact k _ (ha.put hN v)⟩;rw[hx X];exact⟨rfl,hc X hX⟩
theorem lZ {f:FuncId} {args:Array Value} (ha:Has ds a N l) (hw:Region.wanted o (yielded ops a.tmps)=true) (hd:o.dst=some d) (hN:Nat.blt d N=true) (hx:∀X,(execOp a.eval o).run P X=.ok (.enter f args) X)
 (hc:∀X,C X→Calls P f args X fun e X'=>e=.returned v∧X=X') (k:∀a',Has ds a' N ((d,v)::l)→cV P ops C L rest a'):cV P ops C L (o::rest) a:=
 mL ha hw hd hN hx (fun X hX=>(hc X hX).mono fun e X' ⟨he,hX'⟩=>⟨he,by subst hX';exact Below.refl _ _⟩) k
theorem jK (ha:Has ds a N l) (hw:Region.wanted o (yielded ops a.tmps)=false) (hd:o.dst=some d) (hN:Nat.blt d N=true)
 (k:∀a',Has ds a' N ((d,undef)::l)→cV P ops C L rest a'):cV P ops C L (o::rest) a:=by
 unfold cV;rw[hw];exact(by rw[hd];exact k _ (ha.put hN undef):cV P ops C L rest (a.put o.dst undef))
theorem qy {ds:List Deferred} {P:Program} {ops:Array Oper} {rest:List Oper} {o:Oper} {a:Act} {C:World→Prop} {L:Act→Prop} {N d:Nat} {l:List (Nat × Value)} {j t:Nat} {b c:Bool} {v:Value} (ha:Has ds a N l) (hx:∀X,C X→(execOp a.eval o).run P X=.ok (.value v) X) (k:∀a',Has ds a' N ((d,v)::l)→cV P ops C L rest a') (hg:o.guard=some (j,b):=by exact rfl) (hj:(ops[j]?).bind (·.dst)=some t:=by exact rfl) (ht:look l t=some (.bool c):=by exact rfl) (hc:c=b:=by assumption) (hd:o.dst=some d:=by exact rfl) (hN:Nat.blt d N=true:=by exact rfl):cV P ops C L (o::rest) a:=iP ha (aj ha _ hg hj ht hc) hd hN hx k
theorem pN (n:Nat) (R:Act→Prop) (h1:cV P ops C R ((o::rest).take n) a) (h2:∀a',R a'→cV P ops C L ((o::rest).drop n) a'):cV P ops C L (o::rest) a:=by
 have key:∀(l1 l2:List Oper) (a:Act),cV P ops C R l1 a→(∀a',R a'→cV P ops C L l2 a')→cV P ops C L (l1 ++ l2) a:=by
  intro l1
  induction l1 with
  | nil=>intro l2 a h hk;exact hk a h
  | cons x l1 ih=>
   intro l2 a h hk;unfold cV at h;rw[List.cons_append];unfold cV
   split
   · rename_i hw
     rw[if_pos hw] at h;obtain⟨v,h3,h4⟩:=h;exact⟨v,h3,ih l2 _ h4 hk⟩
   · rename_i hw
     rw[if_neg hw] at h;exact ih l2 _ h hk
 have:=key ((o::rest).take n) ((o::rest).drop n) a h1 h2
 rwa [List.take_append_drop] at this
variable {w:World} {tail:List Oper}
theorem gP {nds:List Nd} {k:Nat} {deps:List Nat} {R:Value→World→Prop} {Φ:List (Nat × (World→Prop))} (ha:Has ds a N l) (ho:ops[k]? = some o) (hd:o.dst=some d) (hN:Nat.blt d N=true)
 (hst:∀v X X',R v X→Below X.heap.size X X'→R v X') (hx:∀X,Below w.heap.size w X→told deps Φ X→cn P R X ((execOp a.eval o).run P X))
 (k':∀v a',Has ds a' N ((d,v)::l)→nv P ops w Q tail nds a' ((k,R v)::Φ)):nv P ops w Q tail (⟨k,deps,R,false⟩::nds) a Φ:=by
 refine⟨hst,fun o' ho' X hX hΦ=>?_,fun v=>?_⟩
 · rw[ho] at ho';cases ho'
   exact hx X hX hΦ
 · have e:aC ops k=some d:=by unfold aC;rw[ho];exact hd
   show nv P ops w Q tail nds (a.put (aC ops k) v) _;rw[e];exact k' v _ (ha.put hN v)
theorem aP {Φ:List (Nat × (World→Prop))} (h:∀X,Below w.heap.size w X→dB Φ X→wpList P ops Q tail a X):nv P ops w Q tail [] a Φ:=h
def NewB (B:Nat) (f:Nat→Value) (cs:Array Value) (T:TypeId) (v:Value) (X:World):Prop:=∃b,v=f b∧B≤b∧Box X b cs T
theorem NewB.stable {B:Nat} {f:Nat→Value} {cs:Array Value} {T:TypeId} (v:Value) (X X':World) (h:NewB B f cs T v X) (hb:Below X.heap.size X X'):NewB B f cs T v X':=by
 obtain⟨b,h1,h2,h3⟩:=h;exact⟨b,h1,h2,h3.below hb⟩
theorem jz {X:World} {B:Nat} {f:Nat→Value} {cs:Array Value} {T:TypeId} {r:Result Next} (hx:r=.ok (.value (f X.heap.size)) (X.alloc (.cells cs T))) (hB:B≤X.heap.size):cn P (NewB B f cs T) X r:=by
 subst hx;exact⟨dU (Below.refl _ _) _,X.heap.size,rfl,hB,Box.new X cs T⟩
def IsVal (u v:Value) (_:World):Prop:=v=u
theorem IsVal.stable {u:Value} (v:Value) (X X':World) (h:IsVal u v X) (hb:Below X.heap.size X X'):IsVal u v X':=h
def OwnB (B:Nat) (T:TypeId) (sz n:Nat) (xs:List Value) (v:Value) (X:World):Prop:=∃A c,v=.slice A n c∧X.ownsRow B T sz (.slice A n c) n xs
theorem OwnB.stable {B:Nat} {T:TypeId} {sz n:Nat} {xs:List Value} (v:Value) (X X':World) (h:OwnB B T sz n xs v X) (hb:Below X.heap.size X X'):OwnB B T sz n xs v X':=by
 obtain⟨A,c,h1,h2⟩:=h;exact⟨A,c,h1,fW h2 hb⟩
theorem tb {X:World} {f:FuncId} {args:Array Value} {B B' n sz:Nat} {T:TypeId} {xs:List Value} {r:Result Next} (hx:r=.ok (.enter f args) X) (hc:Calls P f args X fun e X'=>∃A c,e=.returned (.slice A n c)∧X'.ownsRow B' T sz (.slice A n c) n xs∧Below X.heap.size X X') (hB:B≤B'):cn P (OwnB B T sz n xs) X r:=by
 subst hx;exact⟨rfl,hc.mono fun e X' ⟨A,c,he,ho,hX⟩=>⟨_,he,hX,A,c,rfl,bW ho hB⟩⟩
theorem aX {ρ:Operand→Value} {X:World} {d:Option Tmp} {ty:TypeId} {ps:String} {af:Array Edge} {g:Option (Nat × Bool)} {t e:TypeId} {n:Nat} {parts:Array (Nat × Operand)} {vs:List Value} (ht:P.underlying t=some (.slice e)) (hs:(P.info? e).map (·.size)=some 1) (hz:((P.info? e).bind (·.zero)).map (·.cells.size)=some 1)
 (hp:parts.toList.map (fun p=>ρ p.2)=vs) (hn:vs.length=n) (hix:parts.toList.map (·.1)=List.range n) (h1:vs.all (·.oneCell')=true) (hn0:0<n) (hn2:n<1000) :
 (execOp ρ ⟨d,.buildSlice t n parts,ty,ps,af,g⟩).run P X=.ok (.value (.slice (some ⟨X.heap.size,0,none⟩) n n)) (X.alloc (.cells vs.toArray e)):=by
 cases hq:P.info? e with
 | none=>rw[hq] at hs;cases hs
 | some q=>
  rw[hq] at hs hz
  have hsz:q.size=1:=by simpa using hs
  cases hqz:q.zero with
  | none=>rw[Option.bind_some,hqz] at hz;cases hz
  | some z=>
   rw[Option.bind_some,hqz] at hz
   have hzc:z.cells.size=1:=by simpa using hz
   have hfill:∀(ps:List (Nat × Value)) (k:Nat) (cells:Array Value),ps.map (·.1)=List.range' k ps.length→(∀p∈ps,p.2.oneCell'=true)→cells.size=k+ps.length →
    Instr.fill (fun i=>some (i*1,1)) cells ps=some ((cells.toList.take k ++ ps.map (·.2)).toArray):=by
    intro ps
    induction ps with
    | nil=>
     intro k cells _ _ hc;simp only[Instr.fill,List.map_nil,List.append_nil,List.length_nil,Nat.add_zero] at hc ⊢;rw[List.take_of_length_le (by simp;omega)]
    | cons p ps ih=>
     intro k cells hi h1 hc;obtain⟨i,v⟩:=p;simp only[List.map_cons,List.length_cons,List.range'_succ,List.cons.injEq] at hi;obtain⟨rfl,hi⟩:=hi
     have hv:v.cells=#[v]:=by
      have:=h1 (i,v) (by simp)
      cases v<;>first | rfl | (simp[Value.oneCell'] at this)
     simp only[List.length_cons] at hc;unfold Instr.fill;simp only[hv,Nat.mul_one];rw[if_neg (by simp;omega)]
     have e1:(#[v].zipIdx.foldl (fun cs x=>cs.setIfInBounds (i+x.2) x.1) cells)=cells.setIfInBounds i v:=by simp[Array.zipIdx]
     have e2:=ih (i+1) (cells.setIfInBounds i v) hi (fun p hp=>h1 p (by simp[hp])) (by simp;omega);simp only[Nat.mul_one] at e2;rw[e1,e2]
     congr 2
     rw[Array.toList_setIfInBounds,List.map_cons];rw[List.take_succ_eq_append_getElem (by simp;omega)]
     have e3:(cells.toList.set i v).take i=cells.toList.take i:=by rw[List.take_set_of_le (Nat.le_refl _)]
     simp[e3]
   have hl:parts.toList.length=n:=by rw[←hn,←hp,List.length_map]
   have hps:(parts.map fun x=>(x.1,ρ x.2)).toList=parts.toList.map fun x=>(x.1,ρ x.2):=by simp
   have hf:=hfill (parts.toList.map fun x=>(x.1,ρ x.2)) 0 ((Array.range (n*1)).map (z.cells[· % z.cells.size]!)) (by rw[List.map_map,List.length_map,hl,←List.range_eq_range'];exact hix)
    (fun p hp'=>by
     obtain⟨x,hx,rfl⟩:=List.mem_map.1 hp'
     exact List.all_eq_true.1 h1 _ (by rw[←hp];exact List.mem_map.2 ⟨x,hx,rfl⟩)) (by simp[hl])
   simp only[Nat.mul_one,List.take_zero,List.nil_append,List.map_map,Nat.zero_add] at hf
   have hvs:(parts.toList.map fun x=>(x.1,ρ x.2)).map (·.2)=vs:=by rw[←hp,List.map_map];rfl
   have hfin:(parts.toList.map ((fun x:Nat × Value=>x.2) ∘ fun x=>(x.1,ρ x.2)))=vs:=by rw[←hp];rfl
   rw[hfin] at hf
   have hne:n≠0:=by omega
   have Za:¬(16777216<n):=by omega
   simp[execOp,Instr.buildSlice,run_underlying ht,sizeOf,typeInfo,hq,hsz,hne,zeroValue,hqz,hps,hf,newRow,Za]
end
open Go.RowKit Go.Sort
variable {ds:List Deferred}
def zO (m l:List (Nat × Value)):Bool:=m.all fun q=>(look l q.1).isNone
theorem rn:∀(m l:List (Nat × Value)) (t:Nat) (u:Value),zO m l=true→look l t=some u→look (m ++ l) t=some u
 | [],l,t,u,_,h=>h
 | q::m,l,t,u,hm,h=>by
  unfold zO at hm;rw[List.all_cons,Bool.and_eq_true] at hm;obtain⟨k,v⟩:=q;show look ((k,v)::(m ++ l)) t=some u;unfold look
  cases hb:Nat.beq k t with
  | true=>
   have e:k=t:=Nat.eq_of_beq_eq_true hb;subst e;have:=hm.1;rw[show look l (k,v).1=some u from h] at this
   cases this
  | false=>exact rn m l t u hm.2 h
theorem Has.mid {a:Act} {N p:Nat} {v:Value} {m l:List (Nat × Value)} (h:Has ds a N ((p,v)::(m ++ l))) (hm:zO m l=true):Has ds a N ((p,v)::l):=by
 refine⟨h.defers,h.size,fun t u hu=>h.slot t u ?_⟩;unfold look at hu ⊢
 cases hb:Nat.beq p t with
 | true=>rw[hb] at hu;exact hu
 | false=>rw[hb] at hu;exact rn m l t u hm hu
theorem Has.evs2 {a:Act} {N:Nat} {l:List (Nat × Value)} {os:List (Nat × Operand)} {vs:List Value} (h:Has ds a N l) (he:Go.Proofs.YtcfdpfmchchkaaaGreatDoor.evs l (os.map (·.2))=some vs):os.map (fun p=>a.eval p.2)=vs:=by
 have:=h.evs he
 rwa [List.map_map] at this
theorem bF {deps:List Nat}:∀{Φ:List (Nat × (World→Prop))} {X:World} {k:Nat} {F:World→Prop},told deps Φ X→deps.contains k=true→(Φ.find? (fun p=>Nat.beq p.1 k)).map (·.2)=some F→F X
 | [],X,k,F,_,_,h=>by cases h
 | (j,G)::Φ,X,k,F,ht,hd,h=>by
  unfold told at ht;rw[List.find?_cons] at h
  cases hb:Nat.beq j k with
  | true=>
   rw[hb] at h;have e:j=k:=Nat.eq_of_beq_eq_true hb;subst e;rw[if_pos hd] at ht;injection h with h;subst h;exact ht.1
  | false=>
   rw[hb] at h
   have ht':told deps Φ X:=by
    split at ht
    · exact ht.2
    · exact ht
   exact bF ht' hd h
theorem ba:∀{Φ:List (Nat × (World→Prop))} {X:World} {k:Nat} {F:World→Prop},dB Φ X→(Φ.find? (fun p=>Nat.beq p.1 k)).map (·.2)=some F→F X
 | [],X,k,F,_,h=>by cases h
 | (j,G)::Φ,X,k,F,ht,h=>by
  rw[List.find?_cons] at h
  cases hb:Nat.beq j k with
  | true=>
   rw[hb] at h;injection h with h;subst h;exact ht.1
  | false=>rw[hb] at h;exact ba ht.2 h
section
variable {P:Program} {ops:Array Oper} {rest:List Oper} {o:Oper} {a:Act} {N:Nat} {l:List (Nat × Value)} {c x:Bool}
section
variable {C:World→Prop} {L:Act→Prop}
theorem iF (ha:Has ds a N l) (cs:Nat) (hcs:look l cs=some (.bool c)) (n p:Nat) (ht:c=true→cV P ops C (fun a'=>Has ds a' N ((p,.bool x)::l)) ((o::rest).take n) a) (hf:c=false→cV P ops C (fun a'=>Has ds a' N ((p,.bool false)::l)) ((o::rest).take n) a)
 (h:∀a',Has ds a' N ((p,.bool (c&&x))::l)→cV P ops C L ((o::rest).drop n) a'):cV P ops C L (o::rest) a:=by
 refine pN n _ ?_ h
 cases c
 · exact hf rfl
 · exact ht rfl
theorem gv {L':Act→Prop} (hL:∀a,L a→L' a):∀(ol:List Oper) (a:Act),cV P ops C L ol a→cV P ops C L' ol a
 | [],a,h=>hL a h
 | o::ol,a,h=>by
  unfold cV at h ⊢
  split
  · rename_i hw
    rw[if_pos hw] at h;obtain⟨v,h1,h2⟩:=h;exact⟨v,h1,gv hL ol _ h2⟩
  · rename_i hw
    rw[if_neg hw] at h;exact gv hL ol _ h
theorem ln {v:Value} (ha:Has ds a N l) (cs:Nat) (hcs:look l cs=some (.bool c)) (n p:Nat) (ht:c=true→cV P ops C (fun a'=>Has ds a' N ((p,v)::l)) ((o::rest).take n) a) (hf:c=false→cV P ops C (fun a'=>∃u,Has ds a' N ((p,u)::l)) ((o::rest).take n) a)
 (h:∀u a',(c=true→u=v)→Has ds a' N ((p,u)::l)→cV P ops C L ((o::rest).drop n) a'):cV P ops C L (o::rest) a:=by
 refine pN n (fun a'=>∃u,(c=true→u=v)∧Has ds a' N ((p,u)::l)) ?_ (fun a' h'=>(let ⟨u,h1,h2⟩:=h';h u a' h1 h2))
 cases c
 · refine gv ?_ _ _ (hf rfl)
   rintro a' ⟨u,hu⟩
   exact⟨u,fun e=>(by cases e),hu⟩
 · refine gv ?_ _ _ (ht rfl)
   intro a' hu;exact⟨v,fun _=>rfl,hu⟩
theorem fa (ha:Has ds a N l) (cs:Nat) (hcs:look l cs=some (.bool c)) (n p:Nat) (ht:c=true→cV P ops C (fun a'=>Has ds a' N ((p,.bool true)::l)) ((o::rest).take n) a) (hf:c=false→cV P ops C (fun a'=>Has ds a' N ((p,.bool x)::l)) ((o::rest).take n) a)
 (h:∀a',Has ds a' N ((p,.bool (c||x))::l)→cV P ops C L ((o::rest).drop n) a'):cV P ops C L (o::rest) a:=by
 refine pN n _ ?_ h
 cases c
 · exact hf rfl
 · exact ht rfl
end
variable {Q:Exit→Act→World→Prop} {X:World} {M:List Nat} {w:World} {E:List Ent}
theorem aZ (ha:Has ds a N l) (hS:St M w X E) (cs:Nat) (hcs:look l cs=some (.bool c)) (n p:Nat)
 (ht:c=true→wpList P ops (fun e a' X'=>match e with | .normal=>Has ds a' N ((p,.bool x)::l)∧St M w X' E | e=>Q e a' X') ((o::rest).take n) a X)
 (hf:c=false→wpList P ops (fun e a' X'=>match e with | .normal=>Has ds a' N ((p,.bool false)::l)∧St M w X' E | e=>Q e a' X') ((o::rest).take n) a X)
 (h:∀a' X',Has ds a' N ((p,.bool (c&&x))::l)∧St M w X' E→wpList P ops Q ((o::rest).drop n) a' X'):wpList P ops Q (o::rest) a X:=by
 refine yI n _ ?_ h
 cases c
 · exact hf rfl
 · exact ht rfl
theorem bm (ha:Has ds a N l) (hS:St M w X E) (cs:Nat) (hcs:look l cs=some (.bool c)) (n p:Nat)
 (ht:c=true→wpList P ops (fun e a' X'=>match e with | .normal=>Has ds a' N ((p,.bool true)::l)∧St M w X' E | e=>Q e a' X') ((o::rest).take n) a X)
 (hf:c=false→wpList P ops (fun e a' X'=>match e with | .normal=>Has ds a' N ((p,.bool x)::l)∧St M w X' E | e=>Q e a' X') ((o::rest).take n) a X)
 (h:∀a' X',Has ds a' N ((p,.bool (c||x))::l)∧St M w X' E→wpList P ops Q ((o::rest).drop n) a' X'):wpList P ops Q (o::rest) a X:=by
 refine yI n _ ?_ h
 cases c
 · exact hf rfl
 · exact ht rfl
theorem dq (g:Nat) (t:TypeId):∀(vs:List Value) (j i:Nat) (cur:Array Value) (w:World),w.heap[g]? = some (.cells cur t (0,0))→j+i+vs.length≤cur.size→(∀v∈vs,v.oneCell'=true) →
 (storeCells ⟨g,j,none⟩ vs i).run P w=.ok () (w.setRow g (cur.toList.take (j+i) ++ vs ++ cur.toList.drop (j+i+vs.length)).toArray)
 | [],j,i,cur,w,hg,hl,_=>by
  have e:(cur.toList.take (j+i) ++ [] ++ cur.toList.drop (j+i+([]:List Value).length))=cur.toList:=by simp
  rw[e];have hv:w.heap[g]? = _:=hg;simp only[storeCells];show Result.ok () w=_
  congr 1
  unfold World.setRow
  cases w with
  | mk heap tape drawn os output=>
   congr 1
   apply Array.ext
   · simp
   · intro k h1 h2
     simp only[Array.getElem_modify]
     split
     · rename_i hk;subst hk
       rw[Array.getElem?_eq_getElem h1] at hv;injection hv with hv;simp[hv]
     · rfl
 | v::rest,j,i,cur,w,hg,hl,h1=>by
  have hi:j+i<cur.size:=by simp at hl;omega
  have hcell:w.cell? ⟨g,j+i,none⟩=some cur[j+i]:=by simp[World.cell?,hg,hi]
  have hfro:w.frozen? ⟨g,j+i,none⟩=false:=by simp[World.frozen?,hg]
  have hst:(store ((⟨g,j,none⟩:Addr).add i) v).run P w=.ok () (w.setRow g (cur.setIfInBounds (j+i) v)):=by
   rw[dp,run_store P w _ v _ (h1 v (by simp)),hcell];simp[hfro,setCell_eq_setRow w g (j+i) cur t (0,0) v hg]
  have ih:=dq g t rest j (i+1) (cur.setIfInBounds (j+i) v) (w.setRow g (cur.setIfInBounds (j+i) v)) (setRow_heap w g cur _ t _ hg) (by simp at hl ⊢;omega) (fun x hx=>h1 x (by simp[hx]));simp only[storeCells,Sem.run_bind,hst,Result.andThen_ok,ih,setRow_setRow]
  congr 3
  simp only[Array.toList_setIfInBounds,List.length_cons]
  have hlt:j+i<cur.toList.length:=by simpa using hi
  rw[show j+(i+1)=j+i+1 by omega,List.take_succ_eq_append_getElem (by simpa using hi),List.take_set_of_le (Nat.le_refl _),List.drop_set_of_lt (by omega)];simp[show j+i+1+rest.length=j+i+(rest.length+1) by omega]
theorem aN {ty:TypeId} {x' y:Operand} {b j i:Nat} {v:Value} {vs:List Value} {cs:Array Value} {T:TypeId} (ha:Has ds a N l) (hw:Region.wanted o (yielded ops a.tmps)=true) (ho:o.op=.store ty x' y∧o.dst=none) (hx:a.eval x'=.pointer (some ⟨b,j,none⟩)) (hy:a.eval y=v) (hvs:v.cells.toList=vs)
 (hs:(P.info? ty).map (·.size)=some vs.length) (hS:St M w X E) (hi:E[i]? = some (.box b cs T)) (h1:vs.all (·.oneCell')=true) (hj:Nat.ble (j+vs.length) cs.toList.length=true)
 (k:∀X',St M w X' (E.set i (.box b (cs.toList.take j ++ vs ++ cs.toList.drop (j+vs.length)).toArray T))→wpList P ops Q rest a X'):wpList P ops Q (o::rest) a X:=by
 have hb:Box X b cs T:=hS.at_ hi
 have hle:j+vs.length≤cs.size:=by have:=Nat.le_of_ble_eq_true hj;simpa using this
 have hst:=dq (P:=P) b T vs j 0 cs X hb (by simpa using hle) (fun u hu=>List.all_eq_true.1 h1 u hu);simp only[Nat.add_zero] at hst;refine kb (X':=X.setRow b (cs.toList.take j ++ vs ++ cs.toList.drop (j+vs.length)).toArray) hw ?_ ho.2 (k _ ?_)
 · cases hq:P.info? ty with
   | none=>rw[hq] at hs;cases hs
   | some q=>
    rw[hq] at hs
    have hsz:q.size=vs.length:=by simpa using hs
    have hcs:v.cells.size=vs.length:=by rw[←hvs];simp
    unfold execOp;simp only[ho.1,hx,hy,Instr.storeAt,Instr.sureAddr,Sem.run_bind,Sem.run_pure,Result.andThen_ok];simp[storeVar,sizeOf,typeInfo,hq,hsz,hcs,hvs,hst]
 · refine hS.wrote hi ⟨rfl,rfl,rfl,by simp[World.setRow],fun k hk hne=>setRow_other X b k _ hne,fun k cs' T' fr hk=>?_⟩ (setRow_heap X b cs _ T (0,0) hb)
   by_cases e:k=b
   · have hb':X.heap[b]? = some (Obj.cells cs T (0,0)):=hb
     rw[e,hb'] at hk;injection hk with hk;injection hk with e1 e2 e3;subst e1 e2 e3;refine⟨_,?_,by rw[e];exact setRow_heap X b cs _ T (0,0) hb⟩;simp;omega
   · exact⟨cs',rfl,(setRow_other X b k _ e).trans hk⟩
theorem vP {ty:TypeId} {x' y:Operand} {b i:Nat} {v:Value} {vs:List Value} {cs:Array Value} {T:TypeId} (ha:Has ds a N l) (hw:Region.wanted o (yielded ops a.tmps)=true) (ho:o.op=.store ty x' y∧o.dst=none) (hx:a.eval x'=.pointer (some ⟨b,0,none⟩)) (hy:a.eval y=v) (hvs:v.cells.toList=vs)
 (hs:(P.info? ty).map (·.size)=some vs.length) (hS:St M w X E) (hi:E[i]? = some (.box b cs T)) (h1:vs.all (·.oneCell')=true) (hj:Nat.beq vs.length cs.toList.length=true)
 (k:∀X',St M w X' (E.set i (.box b vs.toArray T))→wpList P ops Q rest a X'):wpList P ops Q (o::rest) a X:=by
 have e:vs.length=cs.toList.length:=Nat.eq_of_beq_eq_true hj;refine aN ha hw ho hx hy hvs hs hS hi h1 (Nat.ble_eq_true_of_le (by omega)) fun X' hS'=>k X' ?_;rw[Nat.zero_add,e,List.drop_length,List.take_zero,List.append_nil,List.nil_append] at hS';exact hS'
theorem sw {ds:List Deferred} {P:Program} {ops:Array Oper} {rest:List Oper} {a:Act} {Q:Exit→Act→World→Prop} {X:World} {N:Nat} {l:List (Nat × Value)} {ty:TypeId} {ps:String} {af:Array Edge} {M:List Nat} {w:World} {L:List Ent} {t:TypeId} {x' y:Operand} {b:Nat} {v:Value} {vs:List Value} {cs:Array Value} {T:TypeId} (ha:Has ds a N l) (hS:St M w X L) (i:Nat) (k:∀X',St M w X' (L.set i (.box b vs.toArray T))→wpList P ops Q rest a X') (hx:zS l x'=some (.pointer (some ⟨b,0,none⟩)):=by exact rfl) (hy:zS l y=some v:=by exact rfl) (hvs:v.cells.toList=vs:=by exact rfl) (hi:L[i]? = some (.box b cs T):=by exact rfl) (h1:vs.all (·.oneCell')=true:=by exact rfl) (hj:Nat.beq vs.length cs.toList.length=true:=by exact rfl) (hs:(P.info? t).map (·.size)=some vs.length:=by kernel_rfl):wpList P ops Q (⟨none,.store t x' y,ty,ps,af,none⟩::rest) a X:=vP ha (ct _ _ rfl) ⟨rfl,rfl⟩ (ha.ev hx) (ha.ev hy) hvs hs hS hi h1 hj k
end
theorem eh {Q:Exit→Act→World→Prop} {a:Act} {X:World} {next:Act→World→Prop} (h:Q .ret a X):Exit.then next Q .ret a X:=h
theorem eE {Q:Exit→Act→World→Prop} {a:Act} {X:World} {id:Nat} (h:Q .ret a X):Exit.inBlock id Q .ret a X:=h
section
variable {P:Program} {ρ:Operand→Value} {X:World} {d:Option Tmp} {ty:TypeId} {ps:String} {af:Array Edge} {g:Option (Nat × Bool)}
theorem uV {x y:Operand} {t t':TypeId} {m n:Bool} (ht:P.underlying t=some .bool) (hx:ρ x=.bool m) (hy:ρ y=.bool n):(execOp ρ ⟨d,.binOp .eql t x y t',ty,ps,af,g⟩).run P X=.ok (.value (.bool (m==n))) X:=by
 simp[execOp,hx,hy,eqGuard,run_eql_bool X t m n ht]
theorem uD {x y:Operand} {t t':TypeId} {m n:Bool} (ht:P.underlying t=some .bool) (hx:ρ x=.bool m) (hy:ρ y=.bool n):(execOp ρ ⟨d,.binOp .neq t x y t',ty,ps,af,g⟩).run P X=.ok (.value (.bool (!(m==n)))) X:=by
 simp[execOp,hx,hy,eqGuard,run_neq_bool X t m n ht]
theorem gM {x y:Operand} {t t':TypeId} {m n:ByteArray} (hx:ρ x=.string m) (hy:ρ y=.string n) (h:m.size+n.size<9223372036854775808):(execOp ρ ⟨d,.binOp .add t x y t',ty,ps,af,g⟩).run P X=.ok (.value (.string (m ++ n))) X:=by
 have h':¬(IntKind.i64.max<((m.size+n.size:Nat):Int)):=by
  have e:IntKind.i64.max=9223372036854775807:=by decide
  rw[e];omega
 simp[execOp,hx,hy,eqGuard,binOp,Op.stringOp];omega
theorem bN {x:Operand} {s t:TypeId} {k k':IntKind} {n:Int} (hs:(P.underlying s).map (fun | .int _=>true | _=>false)=some true) (ht:P.underlying t=some (.int k')) (hx:ρ x=.int k n) (h:k'.wrap n=n):(execOp ρ ⟨d,.convert s t x,ty,ps,af,g⟩).run P X=.ok (.value (.int k' n)) X:=by
 rw[dC (k0:=k) hs ht hx,h]
theorem wrap_u8 {n:Int} (h:0≤n∧n<256):IntKind.u8.wrap n=n:=by
 unfold IntKind.wrap IntKind.signed IntKind.bits;simp;omega
theorem wrap_u16 {n:Int} (h:0≤n∧n<65536):IntKind.u16.wrap n=n:=by
 unfold IntKind.wrap IntKind.signed IntKind.bits;simp;omega
theorem wrap_u32 {n:Int} (h:0≤n∧n<4294967296):IntKind.u32.wrap n=n:=by
 unfold IntKind.wrap IntKind.signed IntKind.bits;simp;omega
theorem nf {x y:Operand} {t t':TypeId} {m n:Int} (ht:t=t) (hx:ρ x=.int .i64 m) (hy:ρ y=.int .i64 n):(execOp ρ ⟨d,.call ⟨.builtin .max,#[x,y],#[t,t']⟩,ty,ps,af,g⟩).run P X=.ok (.value (.int .i64 (max m n))) X:=by
 have e:(if n>m then n else m)=max m n:=by rw[Int.max_def];split<;>split<;>omega
 simp[execOp,resolve,invoke,builtin,Builtin.max_,Builtin.max2,hx,hy];exact e
theorem eL {f:Fn} {os os':Array Operand} {vs vs':List Value} (h:os.toList.map ρ=vs) (h':os'.toList.map ρ=vs'):(execOp ρ ⟨d,.makeFunc f os os',ty,ps,af,g⟩).run P X=.ok (.value (.func f vs.toArray vs'.toArray)) X:=by
 have e:os.map ρ=vs.toArray:=by rw[←h];apply Array.ext';simp
 have e':os'.map ρ=vs'.toArray:=by rw[←h'];apply Array.ext';simp
 simp[execOp,Instr.makeFunc,e,e']
theorem cz {f:FuncId} {x:Operand} {args:Array Operand} {ts:Array TypeId} {vs:List Value} {first cap:List Value} (hf:∀(as:Array Value) (W:World),(callFunc f as).run P W=.ok (.enter f as) W) (hx:ρ x=.func (.func f) first.toArray cap.toArray) (ha:args.toList.map ρ=vs) (hfc:first=[]) :
 (execOp ρ ⟨d,.call ⟨.value x,args,ts⟩,ty,ps,af,g⟩).run P X=.ok (.enter f (vs ++ cap).toArray) X:=by
 subst hfc
 have e:args.map ρ=vs.toArray:=by rw[←ha];apply Array.ext';simp
 simp[execOp,resolve,e,hx,Deferred.ofValue,invoke,hf]
def uw (P:Program) (t:TypeId):Option (List (Nat × Nat)):=match P.underlying t with
 | some (.struct fs)=>fs.toList.mapM fun f=>(P.info? f.type).map fun i=>(f.offset,i.size)
 | _=>none
def mj (pl:List (Nat × Nat)):List Value→List (Nat × Value)→Option (List Value)
 | cs,[]=>some cs
 | cs,(i,v)::r=>match pl[i]? with
  | none=>none
  | some (off,n)=>bif Nat.beq v.cells.toList.length n&&Nat.ble (off+n) cs.length then mj pl (cs.take off ++ v.cells.toList ++ cs.drop (off+n)) r else none
theorem oK:∀(us:List Value) (off j:Nat) (cs:Array Value),off+j+us.length≤cs.size→((us.zipIdx j).foldl (fun cs x=>cs.setIfInBounds (off+x.2) x.1) cs)=(cs.toList.take (off+j) ++ us ++ cs.toList.drop (off+j+us.length)).toArray
 | [],off,j,cs,_=>by apply Array.ext';simp
 | u::us,off,j,cs,h=>by
  simp only[List.zipIdx_cons,List.foldl_cons,List.length_cons] at h ⊢;rw[oK us off (j+1) _ (by simp;omega)]
  congr 1
  simp only[Array.toList_setIfInBounds]
  have hlt:off+j<cs.toList.length:=by simp;omega
  rw[show off+(j+1)=off+j+1 by omega,List.take_succ_eq_append_getElem (by simpa using hlt),List.take_set_of_le (Nat.le_refl _),List.drop_set_of_lt (by omega)];simp[show off+j+1+us.length=off+j+(us.length+1) by omega]
theorem sR (pl:List (Nat × Nat)):∀(ps:List (Nat × Value)) (zs cs:List Value),mj pl zs ps=some cs→Instr.fill (pl.toArray[·]?) zs.toArray ps=some cs.toArray
 | [],zs,cs,h=>by unfold mj at h;injection h with h;subst h;rfl
 | (i,v)::r,zs,cs,h=>by
  unfold mj at h;unfold Instr.fill
  cases hp:pl[i]? with
  | none=>rw[hp] at h;cases h
  | some q=>
   obtain⟨off,n⟩:=q
   have hpl:pl.toArray[i]? = some (off,n):=by simp[hp]
   rw[hp] at h;simp only[hpl] at h ⊢
   cases hc:(Nat.beq v.cells.toList.length n&&Nat.ble (off+n) zs.length) with
   | false=>rw[hc] at h;cases h
   | true=>
    rw[hc] at h;rw[Bool.and_eq_true] at hc;have e1:v.cells.toList.length=n:=Nat.eq_of_beq_eq_true hc.1;have e2:off+n≤zs.length:=Nat.le_of_ble_eq_true hc.2
    have e3:v.cells.size=n:=by simpa using e1
    rw[if_neg (by rw[e3];simp;omega)]
    have hz:v.cells.zipIdx.foldl (fun cs x=>cs.setIfInBounds (off+x.2) x.1) zs.toArray=(zs.take off ++ v.cells.toList ++ zs.drop (off+n)).toArray:=by
     have:=oK v.cells.toList off 0 zs.toArray (by simp;omega);rw[←e1];simp only[Nat.add_zero] at this;rw[←this,←Array.foldl_toList,Array.toList_zipIdx]
    have:=sR pl r _ _ h;rw[←hz] at this;exact this
theorem ay {t:TypeId} {parts:Array (Nat × Operand)} {zs:List Value} {pl:List (Nat × Nat)} {us:List Value} {ixs:List Nat} {cs:List Value} (hz:((P.info? t).bind (·.zero)).map (·.cells.toList)=some zs) (hp:uw P t=some pl) (hv:parts.toList.map (fun p=>ρ p.2)=us) (hi:parts.toList.map (·.1)=ixs)
 (hf:mj pl zs (ixs.zip us)=some cs):(execOp ρ ⟨d,.build t parts,ty,ps,af,g⟩).run P X=.ok (.value (.agg cs.toArray)) X:=by
 have hps:parts.toList.map (fun x=>(x.1,ρ x.2))=ixs.zip us:=by
  have hz:∀l:List (Nat × Operand),l.map (fun x=>(x.1,ρ x.2))=(l.map (·.1)).zip (l.map fun p=>ρ p.2):=by
   intro l
   induction l with
   | nil=>rfl
   | cons p l ih=>simp[ih]
  rw[←hv,←hi,←hz parts.toList]
 cases hq:P.info? t with
 | none=>rw[hq] at hz;cases hz
 | some q=>
  rw[hq,Option.bind_some] at hz
  cases hqz:q.zero with
  | none=>rw[hqz] at hz;cases hz
  | some z=>
   rw[hqz] at hz
   have hzc:z.cells=zs.toArray:=by
    have:z.cells.toList=zs:=by simpa using hz
    rw[←this]
   unfold uw at hp
   cases hu:P.underlying t with
   | none=>rw[hu] at hp;cases hp
   | some td=>
    rw[hu] at hp
    cases td<;>try (cases hp)
    rename_i fs
    simp only at hp
    have hm:∀(l:List Field) (r:List (Nat × Nat)),(l.mapM fun f=>(P.info? f.type).map fun i=>(f.offset,i.size))=some r→(l.mapM (m:=Sem) fun f=>do pure (f.offset,←sizeOf f.type)).run P X=.ok r X:=by
     intro l
     induction l with
     | nil=>intro r h;simp at h;subst h;simp
     | cons f l ih=>
      intro r h;rw[List.mapM_cons] at h
      cases hi:P.info? f.type with
      | none=>rw[hi] at h;simp at h
      | some i=>
       rw[hi] at h
       cases hl:(l.mapM fun f=>(P.info? f.type).map fun i=>(f.offset,i.size)) with
       | none=>rw[hl] at h;simp at h
       | some r'=>
        rw[hl] at h;simp at h;subst h;rw[List.mapM_cons]
        have hz:(sizeOf f.type).run P X=.ok i.size X:=by simp[sizeOf,typeInfo,hi]
        simp only[Sem.run_bind,hz,Sem.run_pure,Result.andThen_ok,ih r' hl]
    have hm':(fs.mapM (m:=Sem) fun f=>do pure (f.offset,←sizeOf f.type)).run P X=.ok pl.toArray X:=by
     rw[Array.mapM_eq_mapM_toList];simp only[Sem.run_bind,Sem.run_map,hm _ _ hp,Sem.run_pure,Result.andThen_ok]
    have hfs:=sR pl _ _ _ hf;simp only[bind_pure_comp] at hm';simp only[List.getElem?_toArray] at hfs;simp[execOp,Instr.build,zeroValue,typeInfo,hq,hqz,run_underlying hu,hm',hzc,hps,hfs]
end
open Go.RowKit Go.Sort
section
variable {P:Program} {ρ:Operand→Value} {X:World} {d:Option Tmp} {ty:TypeId} {ps:String} {af:Array Edge} {g:Option (Nat × Bool)}
theorem zx {s:TypeId} {x:Operand} {k b:Nat} (hf:kP P s k=some k) (hx:ρ x=.pointer (some ⟨b,0,none⟩)):(execOp ρ ⟨d,.fieldAddr s x k,ty,ps,af,g⟩).run P X=.ok (.value (.pointer (some ⟨b,k,none⟩))) X:=ka hf hx (Nat.zero_add k)
def Dh (P:Program) (t:TypeId):Bool:=match P.underlying t with | some (.slice _)=>true | _=>false
def Dj (P:Program) (t:TypeId):Bool:=match P.underlying t with | some .string=>true | _=>false
theorem xN {x:Operand} {t:TypeId} {n c:Nat} {A:Option Addr} (ht:Dh P t=true) (hx:ρ x=.slice A n c):(execOp ρ ⟨d,.call ⟨.builtin .len,#[x],#[t]⟩,ty,ps,af,g⟩).run P X=.ok (.value (.int .i64 n)) X:=by
 unfold Dh at ht
 split at ht
 · rename_i e h;exact tj h hx
 · cases ht
theorem uO {x:Operand} {t:TypeId} {s:ByteArray} (ht:Dj P t=true) (hx:ρ x=.string s):(execOp ρ ⟨d,.call ⟨.builtin .len,#[x],#[t]⟩,ty,ps,af,g⟩).run P X=.ok (.value (.int .i64 s.size)) X:=by
 unfold Dj at ht
 split at ht
 · rename_i h;exact iZ h hx
 · cases ht
end
section
variable {ds:List Deferred} {P:Program} {ops:Array Oper} {rest:List Oper} {a:Act} {Q:Exit→Act→World→Prop} {X:World} {N d:Nat} {l:List (Nat × Value)} {v:Value} {f:FuncId} {args:Array Operand} {ts:Array TypeId} {vs:List Value} {ty:TypeId} {ps:String} {af:Array Edge} {M:List Nat} {w:World} {E:List Ent} {C:World→Prop} {L:Act→Prop}
theorem cE (ha:Has ds a N l) (hv:evs l args.toList=some vs) (hS:St M w X E) (hc:Calls P f vs.toArray X fun e X'=>e=.returned v∧Below X.heap.size X X')
 (k:∀a' X',Has ds a' N ((d,v)::l)→St M w X' E→wpList P ops Q rest a' X') (hf:∀(as:Array Value) (W:World),(callFunc f as).run P W=.ok (.enter f as) W:=by intro _ _;kernel_rfl) (hN:Nat.blt d N=true:=by exact rfl) :
 wpList P ops Q (⟨some d,.call ⟨.value (.func f),args,ts⟩,ty,ps,af,none⟩::rest) a X:=dg ha (wn rfl) (ax hf (ha.evs hv) rfl) rfl hN hS hc k
theorem cC (ha:Has ds a N l) (hv:evs l args.toList=some vs) (hc:Calls P f vs.toArray X fun e X'=>e=.returned v∧X=X')
 (k:∀a',Has ds a' N ((d,v)::l)→wpList P ops Q rest a' X) (hf:∀(as:Array Value) (W:World),(callFunc f as).run P W=.ok (.enter f as) W:=by intro _ _;kernel_rfl) (hN:Nat.blt d N=true:=by exact rfl) :
 wpList P ops Q (⟨some d,.call ⟨.value (.func f),args,ts⟩,ty,ps,af,none⟩::rest) a X:=bJ ha (wn rfl) (ax hf (ha.evs hv) rfl) rfl hN hc k
theorem lT (ha:Has ds a N l) (hv:evs l args.toList=some vs) (hc:∀X,C X→Calls P f vs.toArray X fun e X'=>e=.returned v∧Below X.heap.size X X')
 (k:∀a',Has ds a' N ((d,v)::l)→cV P ops C L rest a') (hf:∀(as:Array Value) (W:World),(callFunc f as).run P W=.ok (.enter f as) W:=by intro _ _;kernel_rfl) (hN:Nat.blt d N=true:=by exact rfl) :
 cV P ops C L (⟨some d,.call ⟨.value (.func f),args,ts⟩,ty,ps,af,none⟩::rest) a:=mL ha (wn rfl) rfl hN (fun X=>ax hf (ha.evs hv) rfl) hc k
theorem gd (ha:Has ds a N l) (hv:evs l args.toList=some vs) (hc:∀X,C X→Calls P f vs.toArray X fun e X'=>e=.returned v∧X=X')
 (k:∀a',Has ds a' N ((d,v)::l)→cV P ops C L rest a') (hf:∀(as:Array Value) (W:World),(callFunc f as).run P W=.ok (.enter f as) W:=by intro _ _;kernel_rfl) (hN:Nat.blt d N=true:=by exact rfl) :
 cV P ops C L (⟨some d,.call ⟨.value (.func f),args,ts⟩,ty,ps,af,none⟩::rest) a:=lZ ha (wn rfl) rfl hN (fun X=>ax hf (ha.evs hv) rfl) hc k
theorem Has.midE {p:Nat} {m:List (Nat × Value)} (h:Has ds a N ((p,v)::m)) (n:Nat) (hl:m.drop n=l:=by exact rfl) (hm:zO (m.take n) (m.drop n)=true:=by exact rfl):Has ds a N ((p,v)::l):=by
 subst hl;exact Has.mid (m:=m.take n) (l:=m.drop n) (by rw[List.take_append_drop];exact h) hm
end
inductive Fu:Nat→Prop
 | mk (n:Nat):Fu n
theorem Da {n:Nat} (_:Fu (n+1)):Fu n:=.mk n
theorem C5 (_:Fu 0):True:=trivial
structure HoldG (p:Prop):Prop where
 out:p
theorem GO (n:Nat) {P' Q':Prop} (k:Q') (x:Fu n→HoldG Q'→P':=by
 intro fG kG
 rename Has _ _ _ _=>hG
 repeat (
  replace fG:=Da fG
  first
  | with_reducible refine ah ?_
  | with_reducible refine ao ?_
  | with_reducible refine ae ?_
  | with_reducible refine ag ?_
  | with_reducible refine wp_skip ?_
  | with_reducible refine wp_block ?_
  | with_reducible refine dL ?_
  | with_reducible refine wp_ret ?_
  | with_reducible refine eh ?_
  | with_reducible refine eE ?_
  | with_reducible refine wp_exit ?_
  | with_reducible refine uP ?_
  | with_reducible refine gQ ?_
  | with_reducible refine av ?_
  | (with_reducible show wpList _ _ _ _ _ _
     refine aI hG (by first | exact ct _ _ rfl | exact aj hG _ rfl rfl rfl (by first | assumption | rfl)) (by
      first
      | ((with_reducible apply bc);exact hG.ev rfl)
      | ((with_reducible apply kz);exact hG.ev rfl)
      | ((with_reducible apply zx);(· kernel_rfl);exact hG.ev rfl)
      | ((with_reducible apply pZ);(· kernel_rfl);(· exact hG.ev rfl);rename St _ _ _ _=>SG;first | exact SG.cell (i:=0) rfl rfl | exact SG.cell (i:=1) rfl rfl | exact SG.cell (i:=2) rfl rfl | exact SG.cell (i:=3) rfl rfl | exact SG.cell (i:=4) rfl rfl | exact SG.cell (i:=5) rfl rfl | exact SG.cell (i:=6) rfl rfl | exact SG.cell (i:=7) rfl rfl)
      | ((with_reducible apply bD);(· exact hG.ev rfl);rfl)
      | ((with_reducible apply bH);(· exact hG.ev rfl);(· assumption);exact hG.ev rfl)
      | ((with_reducible apply kZ);(· exact hG.ev rfl);(· assumption);exact hG.ev rfl)
      | ((with_reducible apply dE);(· exact hG.ev rfl);exact hG.ev rfl)
      | ((with_reducible apply iE);(· exact hG.ev rfl);exact hG.ev rfl)
      | ((with_reducible apply kU);(· exact hG.ev rfl);exact hG.ev rfl)
      | ((with_reducible apply kW);(· exact hG.ev rfl);exact hG.ev rfl)
      | ((with_reducible apply xT);(· exact hG.ev rfl);exact hG.ev rfl)
      | ((with_reducible apply xV);(· exact hG.ev rfl);exact hG.ev rfl)
      | ((with_reducible apply sW);exact hG.ev rfl)
      | ((with_reducible apply mJ);exact hG.ev rfl)
      | ((with_reducible apply xN);(· kernel_rfl);exact hG.ev rfl)
      | ((with_reducible apply uO);(· kernel_rfl);exact hG.ev rfl)
      | ((with_reducible apply jb);(· exact hG.ev rfl);exact hG.ev rfl)
      | ((with_reducible apply l8);(· exact hG.ev rfl);exact hG.ev rfl)
      | ((with_reducible apply bU);(· exact hG.ev rfl);(· exact hG.ev rfl);omega)
      | ((with_reducible apply ek);(· exact hG.ev rfl);(· exact hG.ev rfl);omega)) rfl rfl ?_
     (try clear hG);intro aG hG)
  | (with_reducible show wpList _ _ _ _ _ _
     refine bI hG (kA hG _ rfl rfl rfl (by first | assumption | rfl)) rfl rfl ?_
     (try clear hG);intro aG hG)
  | (with_reducible show cV _ _ _ _ _ _
     refine iP hG (by first | exact ct _ _ rfl | exact aj hG _ rfl rfl rfl (by first | assumption | rfl)) rfl rfl (by
      intro XG hXG
      first
      | ((with_reducible apply bc);exact hG.ev rfl)
      | ((with_reducible apply kz);exact hG.ev rfl)
      | ((with_reducible apply zx);(· kernel_rfl);exact hG.ev rfl)
      | ((with_reducible apply pZ);(· kernel_rfl);(· exact hG.ev rfl);rename St _ _ _ _=>SG0;have SG:=SG0.grow hXG;first | exact SG.cell (i:=0) rfl rfl | exact SG.cell (i:=1) rfl rfl | exact SG.cell (i:=2) rfl rfl | exact SG.cell (i:=3) rfl rfl | exact SG.cell (i:=4) rfl rfl | exact SG.cell (i:=5) rfl rfl | exact SG.cell (i:=6) rfl rfl | exact SG.cell (i:=7) rfl rfl)
      | ((with_reducible apply bD);(· exact hG.ev rfl);rfl)
      | ((with_reducible apply bH);(· exact hG.ev rfl);(· assumption);exact hG.ev rfl)
      | ((with_reducible apply kZ);(· exact hG.ev rfl);(· assumption);exact hG.ev rfl)
      | ((with_reducible apply dE);(· exact hG.ev rfl);exact hG.ev rfl)
      | ((with_reducible apply iE);(· exact hG.ev rfl);exact hG.ev rfl)
      | ((with_reducible apply kU);(· exact hG.ev rfl);exact hG.ev rfl)
      | ((with_reducible apply kW);(· exact hG.ev rfl);exact hG.ev rfl)
      | ((with_reducible apply xT);(· exact hG.ev rfl);exact hG.ev rfl)
      | ((with_reducible apply xV);(· exact hG.ev rfl);exact hG.ev rfl)
      | ((with_reducible apply sW);exact hG.ev rfl)
      | ((with_reducible apply mJ);exact hG.ev rfl)
      | ((with_reducible apply xN);(· kernel_rfl);exact hG.ev rfl)
      | ((with_reducible apply uO);(· kernel_rfl);exact hG.ev rfl)
      | ((with_reducible apply jb);(· exact hG.ev rfl);exact hG.ev rfl)
      | ((with_reducible apply l8);(· exact hG.ev rfl);exact hG.ev rfl)
      | ((with_reducible apply bU);(· exact hG.ev rfl);(· exact hG.ev rfl);omega)
      | ((with_reducible apply ek);(· exact hG.ev rfl);(· exact hG.ev rfl);omega)) ?_
     (try clear hG);intro aG hG)
  | (with_reducible show cV _ _ _ _ _ _
     refine jK hG (kA hG _ rfl rfl rfl (by first | assumption | rfl)) rfl rfl ?_
     (try clear hG);intro aG hG)
  | (with_reducible show cV _ _ _ _ _ _
     refine av ?_)
  | (with_reducible show wpList _ _ _ _ _ _
     refine ae ?_))
 first | (have:=C5 fG) | fail "stuck"
 revert hG;revert aG;exact kG.out):P':=x (.mk n) ⟨k⟩
end Go.Proofs.YtcfdpfmchchkaaaGreatDoor
