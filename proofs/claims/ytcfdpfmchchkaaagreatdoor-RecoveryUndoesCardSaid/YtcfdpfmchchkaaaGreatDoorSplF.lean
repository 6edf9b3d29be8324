/- An append to a literal w -/
import Derived.Test.YtcfdpfmchchkaaaGreatDoorSplE
namespace Go.Proofs.YtcfdpfmchchkaaaGreatDoor
set_option linter.unusedVariables false
set_option linter.unusedSimpArgs false
open Go.RowKit Go.Sort
section
variable {P:Program} {ρ:Operand→Value} {X:World}
theorem FK {o:Oper} {s x:Operand} {t e:TypeId} {z L R:Value} {m sz bytes B:Nat} {cs:Array Value} {news:List Value} (ho:o.op=.call { callee:=.builtin .append,args:=#[s,x],argTypes:=#[t,t] })
 (ht:P.underlying t=some (.slice e)) (h:(P.info? e).map (fun i=>(i.zero,i.size,i.bytes))=some (some z,sz,bytes)) (V:z.cells.size=sz) (H:Nat.blt 0 sz=true) (W:ρ s=L) (hx:ρ x=R)
 (hO:NewB B (fun b=>.slice (some ⟨b,0,none⟩) 0 0) cs e L X) (D:cs.size=0) (h2:∃A c,R=.slice A m c∧Rd X X.heap.size A news) (U:news.length=m*sz) (h1:∀u∈news,u.oneCell'=true) (hb:m≤1000000∧bytes≤1000000) (hB:B≤X.heap.size) :
 cj P (OwnB B e sz m news) X ((execOp ρ o).run P X):=by
 obtain⟨q,hq,E,G,I⟩:=kF h;obtain⟨b,rfl,Z,j⟩:=hO;obtain⟨A,c,rfl,hr⟩:=h2;have C:X.ownsRow 0 e sz (.slice (some ⟨b,0,none⟩) 0 0) 0 []:=⟨by simp,.inr ⟨b,0,cs,rfl,Nat.zero_le _,j,Nat.le_refl _,Nat.zero_le _,al D,by simp⟩⟩;have S:(0+m)*bytes≤1000000*1000000:=Nat.mul_le_mul ab hb.2;obtain⟨v',Y,r,K,k3,v⟩:=jq (P:=P) X t o.type e q z sz bytes ht hq E G I V (Nat.lt_of_lt_of_le (Nat.lt_succ_self 0) (Nat.le_of_ble_eq_true H)) _ 0 [] C A m c news U hr h1 (by unfold maxLen;omega) ab 0 (.inl (Nat.zero_le _))
 have J:(execOp ρ o).run P X=.ok (.value v') Y:=by
  unfold execOp;simp only[ho,resolve,invoke,builtin,Sem.run_bind,Sem.run_pure,Result.andThen_ok,List.map_toArray,List.map_cons,List.map_nil,W,hx,r]
 rw[J];have p:=k3.1;refine⟨⟨p.os,p.tape,p.output,p.size,fun k hk=>?_⟩,?_⟩
 · by_cases y:k=b
   · subst y
     obtain⟨cs',e1,e2⟩:=p.shape k cs e (0,0) j
     have:cs'=cs:=by
      have h0:cs=#[]:=Array.eq_empty_of_size_eq_zero D;subst h0;exact Array.eq_empty_of_size_eq_zero (al e1)
     rw[e2,this];exact j.symm
   · exact p.block k hk (fun q=>by injection q with q;exact y q.symm)
 · obtain⟨T,c',rfl,_⟩:=ownsRow_form K
   rw[Nat.zero_add,List.nil_append] at K;rw[Nat.zero_add];refine⟨T,c',rfl,rB K fun g F=>?_⟩
   have f:(Value.slice T (0+m) c').ownBlock=some g:=by rw[Nat.zero_add];exact F
   rcases v with v | v
   · have M:some b=some g:=v.symm.trans f
     injection M with M;omega
   · rw[v] at f;injection f with f;omega
end
theorem St.add2 {M:List Nat} {w m X:World} {L:List Ent} {j e2:Ent} (p:St M w m L) (h:St M w X (j::L)) (k:e2.ok X) (i:∀b,e2.dom b→m.heap.size≤b∧b<X.heap.size) (hne:∀b,e2.dom b→¬j.dom b):St M w X (e2::j::L):=by
 refine⟨h.os,h.tape,h.output,h.size,h.block,fun f hf=>?_,fun f hf b c=>?_,List.pairwise_cons.2 ⟨fun f hf b c e=>?_,h.sep⟩⟩
 · rcases List.mem_cons.1 hf with rfl | hf
   · exact k
   · exact h.ok f hf
 · rcases List.mem_cons.1 hf with rfl | hf
   · exact⟨.inl (Nat.le_trans p.size (i b c).1),(i b c).2⟩
   · exact h.new f hf b c
 · rcases List.mem_cons.1 hf with rfl | hf
   · exact hne b c e
   · have:=(i b c).1
     have:=(p.new f hf b e).2;omega
theorem yk {X:World} {B sz n:Nat} {T:TypeId} {v:Value} {xs:List Value} (h:X.ownsRow B T sz v n xs) {k:Nat} (b:v.ownBlock=some k):∃cur,X.heap[k]? = some (.cells cur T (0,0)):=by
 rcases h.2 with ⟨rfl,_⟩ | ⟨g,cap,cur,rfl,_,h2,_⟩
 · cases b
 · injection b with b
   subst b;exact⟨cur,h2⟩
theorem l7 {X:World} {B sz n b:Nat} {T e:TypeId} {v:Value} {xs:List Value} {cs:Array Value} (f:X.ownsRow B T sz v n xs) (i:Box X b cs e) (j:T≠e):∀k,k=b→¬v.ownBlock=some k:=fun k h m=>by
 subst h;obtain⟨cur,h3⟩:=yk f m;have c:X.heap[k]? = some (Obj.cells cs e (0,0)):=i;rw[h3] at c;injection c with c;injection c with _ c;exact j c
theorem qt {X:World} {B m sz n e j:Nat} {T f:TypeId} {v v':Value} {xs c:List Value} (h:X.ownsRow B T sz v n xs) (p:X.ownsRow m f e v' j c) (q:T≠f):∀k,v'.ownBlock=some k→¬v.ownBlock=some k:=fun k i r=>by
 obtain⟨c1,h3⟩:=yk h r;obtain⟨c2,b⟩:=yk p i;rw[h3] at b;injection b with b;injection b with _ b;exact q b
open Go.RowKit Go.Sort
variable {ds:List Deferred}
def j9 (B:Nat) (T:TypeId) (b:Nat) (o:Option Obj):Prop:=B≤b∧∃cs fr,o=some (.cells cs T fr)
def fg (B:Nat) (oc:List (Nat × (Nat→Prop))) (news:List (Nat × TypeId)):List yD:=oc.map (fun p=>(p.1,(fun b _=>p.2 b),tp 0)) ++ news.map (fun p=>(p.1,j9 B p.2,fun _ _=>True))
theorem ia {α:Type} {φ:α→Prop} {a:α} (h:φ a):∀p∈[a],φ p:=fun p b=>by rw[List.mem_singleton.1 b];exact h
theorem bG {α:Type} {φ:α→Prop}:∀p∈([]:List α),φ p:=fun p b=>by cases b
theorem gL {B:Nat} {oc:List (Nat × (Nat→Prop))} {news:List (Nat × TypeId)} {p:yD} (h:p∈fg B oc news):(∃q∈oc,p=(q.1,(fun b _=>q.2 b),tp 0))∨∃q∈news,p=(q.1,j9 B q.2,fun _ _=>True):=by
 unfold fg at h;rcases List.mem_append.1 h with h | h
 · obtain⟨q,c,e⟩:=List.mem_map.1 h;exact .inl ⟨q,c,e.symm⟩
 · obtain⟨q,c,e⟩:=List.mem_map.1 h;exact .inr ⟨q,c,e.symm⟩
theorem Grw.conv {O O':Nat→Option Obj→Prop} {w X:World} (h:Grw O w X) (f:∀b,b<w.heap.size→O b w.heap[b]?→O' b w.heap[b]?):Grw O' w X:=
 ⟨h.os,h.tape,h.output,h.size,fun b c hne=>h.block b c (fun e=>hne (f b c e)),h.shape⟩
section
variable {P:Program} {ops:Array Oper} {Q:Exit→Act→World→Prop} {w:World} {tail:List Oper} {l:List (Nat × Value)} {o:Oper} {a:Act} {N d:Nat} {O:Nat→Prop} {oc:List (Nat × (Nat→Prop))} {news:List (Nat × TypeId)}
theorem xG {B:Nat} (hB:B=w.heap.size) (f:∀p∈oc,∀b,p.2 b→O b) {X:World} (h:Grw (gJ (fg B oc news)) w X):Grw (fun b _=>O b) w X:=h.conv fun b j ⟨p,i,c⟩=>by
 rcases gL i with ⟨q,e,rfl⟩ | ⟨q,e,rfl⟩
 · exact f q e b c
 · have k:B≤b:=c.1;omega
theorem Gy {k B:Nat} (hB:B=w.heap.size) (e:∀p∈oc,∀b,p.2 b→O b) {X:World} (h:Grw (w8 (fg B oc news) k) w X):Grw (fun b _=>O b) w X:=
 xG hB e (news:=news) (h.conv fun b _ ⟨p,f,_,c⟩=>⟨p,f,c⟩)
theorem yg {k B:Nat} (hB:B=w.heap.size) (f:∀p∈oc,p.1=k) {X:World} (h:Grw (w8 (fg B oc news) k) w X):Below w.heap.size w X:=
 Grw.below (h.conv (O':=fun _ _=>False) fun b j ⟨p,i,hne,c⟩=>by
  rcases gL i with ⟨q,e,rfl⟩ | ⟨q,e,rfl⟩
  · exact hne (f q e)
  · have m:B≤b:=c.1;omega)
theorem DE {N:Nat} {a:Act} {w:World} {l:List Oper} {i:List (Nat × Value)} (m:Has ds a N i) (O:Nat→Prop) (oc:List (Nat × (Nat→Prop))) (news:List (Nat × TypeId)) (fl:List Bool) (nds:List NdB) (j:∀p∈oc,∀b,p.2 b→O b)
 (h:dN P l.toArray (Grw (fun b _=>O b) w) (fun g=>gd P l.toArray (fg w.heap.size oc news) w Q (l.drop fl.length) nds g []) (pick fl l) a)
 (hB:kT l.toArray fl fl.length N (nds.map fun d=>(d.k,d.deps))=true) :
 sQ P l Q a w:=by
 obtain⟨afin,c,e⟩:=gD _ _ h;exact tg (fg w.heap.size oc news) fl nds (by rw[m.size];exact hB) ⟨afin,iF (fun X f=>xG rfl j f) _ _ c,e⟩
theorem eG {id N:Nat} {a:Act} {w:World} {l:List Oper} {c:List (Nat × Value)} (f:Has ds a N c) (O:Nat→Prop) (oc:List (Nat × (Nat→Prop))) (news:List (Nat × TypeId)) (fl:List Bool) (nds:List NdB) (hm:P.follows .mixedOrders=true) (e:∀p∈oc,∀b,p.2 b→O b)
 (h:dN P l.toArray (Grw (fun b _=>O b) w) (fun g=>gd P l.toArray (fg w.heap.size oc news) w Q (l.drop fl.length) nds g []) (pick fl l) a)
 (hB:kT l.toArray fl fl.length N (nds.map fun d=>(d.k,d.deps))=true) :
 (Code.region id l.toArray true).wp P Q a w:=wp_region_any hm (DE f O oc news fl nds e h hB)
theorem sE {sts:List yD} {k:Nat} {R:Value→World→Prop} {X:World} {r:Result Next} (h:cj P R X r):fi P sts k R X r:=by
 cases r with
 | ok nx w'=>
  cases nx<;>simp only[cj] at h<;>simp only[fi]
  case value u=>exact⟨.inl h.1,h.2⟩
  case enter f args=>exact⟨h.1,h.2.mono fun e c ⟨v,b,i,h3⟩=>⟨v,b,.inl i,h3⟩⟩
 | halt x w'=>simp only[cj] at h
theorem AA {sts:List yD} {k:Nat} {O:Nat→Prop} {R:Value→World→Prop} {X:World} {r:Result Next} (c:(k,(fun b _=>O b),tp 0)∈sts) (h:dE P O 0 R X r):fi P sts k R X r:=by
 cases r with
 | ok nx w'=>
  cases nx<;>simp only[dE] at h<;>simp only[fi]
  case value u=>exact⟨.inr ⟨_,c,rfl,h.1⟩,h.2⟩
  case skip=>exact⟨.inr ⟨_,c,rfl,h.1⟩,h.2⟩
  case enter f args=>exact⟨h.1,h.2.mono fun e j ⟨v,i,m,h3⟩=>⟨v,i,.inr ⟨_,c,rfl,m⟩,h3⟩⟩
 | halt x w'=>simp only[dE] at h
theorem cE {nds:List NdB} {k:Nat} {deps:List Nat} {R:Value→World→Prop} {Φ:List (Nat × (World→Prop))} (A:Has ds a N l) (m:ops[k]? = some o) (u:o.dst=some d) (t:Nat.blt d N=true) (z:∀p∈oc,∀b,p.2 b→O b)
 (hst:∀v X X',R v X→Below X.heap.size X X'→R v X') (hst2:∀p∈oc,∀v X X',R v X→Kp p.2 0 X X'→R v X') (f:∀p∈news,∀v X X',R v X→Grw (j9 w.heap.size p.2) X X'→R v X') (hx:∀X,Grw (fun b _=>O b) w X→told deps Φ X→cj P R X ((execOp a.eval o).run P X))
 (x:∀v a',Has ds a' N ((d,v)::l)→gd P ops (fg w.heap.size oc news) w Q tail nds a' ((k,R v)::Φ)):gd P ops (fg w.heap.size oc news) w Q tail (⟨k,deps,fun _=>R⟩::nds) a Φ:=by
 refine⟨⟨fun v X X'=>hst v X X',fun p y _ _ v X X' r i=>?_,fun _ _ _ _ h=>h⟩,fun o' c X i B s=>?_,fun v=>?_⟩
 · rcases gL y with ⟨q,j,rfl⟩ | ⟨q,j,rfl⟩
   · exact hst2 q j v X X' r i
   · exact f q j v X X' r i.1
 · rw[m] at c;cases c
   exact sE (hx X (Gy rfl z i) s)
 · have e:ay ops k=some d:=by unfold ay;rw[m];exact u
   show gd P ops (fg w.heap.size oc news) w Q tail nds (a.put (ay ops k) v) _;rw[e];exact x v _ (A.put t v)
theorem D6 {nds:List NdB} {k:Nat} {deps:List Nat} {R:Value→World→Prop} {Φ:List (Nat × (World→Prop))} (B:Has ds a N l) (r:ops[k]? = some o) (x:o.dst=some d) (u:Nat.blt d N=true) (A:(oc.map (·.1) ++ news.map (·.1)).all (fun p=>iE ops 4 p k)=true)
 (hst:∀v X X',R v X→Below X.heap.size X X'→R v X') (hst2:∀p∈oc,∀v X X',R v X→Kp p.2 0 X X'→R v X') (i:∀p∈news,∀v X X',R v X→Grw (j9 w.heap.size p.2) X X'→R v X') (hx:∀X,Below w.heap.size w X→told deps Φ X→cj P R X ((execOp a.eval o).run P X))
 (y:∀v a',Has ds a' N ((d,v)::l)→gd P ops (fg w.heap.size oc news) w Q tail nds a' ((k,R v)::Φ)):gd P ops (fg w.heap.size oc news) w Q tail (⟨k,deps,fun _=>R⟩::nds) a Φ:=by
 refine⟨⟨fun v X X'=>hst v X X',fun p m _ _ v X X' s j=>?_,fun _ _ _ _ h=>h⟩,fun o' f X j z t=>?_,fun v=>?_⟩
 · rcases gL m with ⟨q,c,rfl⟩ | ⟨q,c,rfl⟩
   · exact hst2 q c v X X' s j
   · exact i q c v X X' s j.1
 · rw[r] at f;cases f
   refine sE (hx X (Grw.below (z fun p m=>?_)) t);have b:=List.all_eq_true.1 A;rcases gL m with ⟨q,c,rfl⟩ | ⟨q,c,rfl⟩
   · exact b q.1 (List.mem_append_left _ (List.mem_map.2 ⟨q,c,rfl⟩))
   · exact b q.1 (List.mem_append_right _ (List.mem_map.2 ⟨q,c,rfl⟩))
 · have e:ay ops k=some d:=by unfold ay;rw[r];exact x
   show gd P ops (fg w.heap.size oc news) w Q tail nds (a.put (ay ops k) v) _;rw[e];exact y v _ (B.put u v)
theorem GH {nds:List NdB} {k:Nat} {deps:List Nat} {R:Value→World→Prop} {Φ:List (Nat × (World→Prop))} {r:Nat→Prop} (A:Has ds a N l) (s:ops[k]? = some o) (u:o.dst=none) (b:oc=[(k,r)])
 (hst:∀v X X',R v X→Below X.heap.size X X'→R v X') (f:∀p∈news,∀v X X',R v X→Grw (j9 w.heap.size p.2) X X'→R v X') (hx:∀X,Below w.heap.size w X→told deps Φ X→dE P r 0 R X ((execOp a.eval o).run P X))
 (x:∀v,gd P ops (fg w.heap.size oc news) w Q tail nds a ((k,R v)::Φ)):gd P ops (fg w.heap.size oc news) w Q tail (⟨k,deps,fun _=>R⟩::nds) a Φ:=by
 refine⟨⟨fun v X X'=>hst v X X',fun p j hne _ v X X' y m=>?_,fun _ _ _ _ h=>h⟩,fun o' c X m z t=>?_,fun v=>?_⟩
 · rcases gL j with ⟨q,i,rfl⟩ | ⟨q,i,rfl⟩
   · rw[b] at i;rw[List.mem_singleton.1 i] at hne;exact absurd rfl hne
   · exact f q i v X X' y m.1
 · rw[s] at c;cases c
   refine AA ?_ (hx X (yg rfl (fun p j=>by rw[b] at j;rw[List.mem_singleton.1 j]) m) t);unfold fg;rw[b];exact List.mem_append_left _ (List.mem_singleton.2 rfl)
 · have e:ay ops k=none:=by unfold ay;rw[s];exact u
   show gd P ops (fg w.heap.size oc news) w Q tail nds (a.put (ay ops k) v) _;rw[e];exact x v
def IsRow (v:Value) (T:TypeId) (sz n:Nat) (xs:List Value) (_:Value) (X:World):Prop:=X.ownsRow 0 T sz v n xs
theorem IsRow.stable {v:Value} {T:TypeId} {sz n:Nat} {xs:List Value} (u:Value) (X X':World) (h:IsRow v T sz n xs u X) (b:Below X.heap.size X X'):IsRow v T sz n xs u X':=kb h b
theorem AF {ρ:Operand→Value} {X:World} {ty:TypeId} {z y:Operand} {g j n c sz:Nat} {v:Value} {vs:List Value} {T:TypeId} {xs:List Value} (M:o.op=.store ty z y) (hx:ρ z=.pointer (some ⟨g,j,none⟩)) (C:ρ y=v) (h:v.cells.toList=vs)
 (m:(P.info? ty).map (·.size)=some vs.length) (f:X.ownsRow 0 T sz (.slice (some ⟨g,0,none⟩) n c) n xs) (G:vs.all (·.oneCell')=true) (E:j+vs.length≤n*sz) :
 dE P (fun b=>(Value.slice (some ⟨g,0,none⟩) n c).ownBlock=some b) 0 (IsRow (.slice (some ⟨g,0,none⟩) n c) T sz n (xs.take j ++ vs ++ xs.drop (j+vs.length))) X ((execOp ρ o).run P X):=by
 obtain⟨D,e⟩:=f;rcases e with ⟨F,_⟩ | ⟨g',cap,cur,e1,e0,hg,hcap,hm,hcs,htk⟩
 · cases F
 injection e1 with e1 e2 e3;injection e1 with e1;injection e1 with e1 _;subst e1 e3
 have r:j+vs.length≤cur.size:=by rw[hcs];exact Nat.le_trans E (Nat.mul_le_mul_right _ hcap)
 have hst:=dX (P:=P) g T vs j 0 cur X hg (al r) (fun u L=>List.all_eq_true.1 G u L);simp only[Nat.add_zero] at hst
 have A:n*sz≤cur.size:=by rw[hcs];exact Nat.mul_le_mul_right _ hcap
 have B:Grw (fun k _=>k=g) X (X.setRow g (cur.toList.take j ++ vs ++ cur.toList.drop (j+vs.length)).toArray):=iu (cs:=cur) (T:=T) (fr:=(0,0)) hg (by simp;omega)
 have t:(execOp ρ o).run P X=.ok .skip (X.setRow g (cur.toList.take j ++ vs ++ cur.toList.drop (j+vs.length)).toArray):=by
  cases hq:P.info? ty with
  | none=>rw[hq] at m;cases m
  | some q=>
   rw[hq] at m;have p:q.size=vs.length:=al m
   have i:v.cells.size=vs.length:=by rw[←h];simp
   unfold execOp;simp only[M,hx,C,Instr.storeAt,Instr.sureAddr,Sem.run_bind,Sem.run_pure,Result.andThen_ok];simp[storeVar,sizeOf,typeInfo,hq,p,i,h,hst]
 rw[t];refine⟨⟨B.weaken (fun b o K=>by rw[show b=g from K];rfl),fun k cs' I fr H=>?_⟩,by simp only[List.length_append,List.length_take,List.length_drop];omega,.inr ⟨g,c,_,rfl,Nat.zero_le _,setRow_heap X g cur _ T (0,0) hg,hcap,hm,by simp;omega,?_⟩⟩
 · obtain⟨s,J,h3⟩:=B.shape k cs' I fr H
   exact⟨s,h3,J,by simp⟩
 · show(cur.toList.take j ++ vs ++ cur.toList.drop (j+vs.length)).take (n*sz)=_
   rw[←htk,List.take_append,List.take_append,List.take_of_length_le (l:=vs) (by simp;omega),List.take_take,List.take_take,List.take_drop,List.drop_take]
   have x:(cur.toList.take j ++ vs).length=j+vs.length:=by simp;omega
   rw[x,Nat.min_eq_right ab,Nat.min_eq_left ab,show j+vs.length+(n*sz-(j+vs.length))=n*sz by omega,List.drop_take]
theorem St.growSet {M:List Nat} {w0 w X:World} {L:List Ent} {i n sz:Nat} {v u:Value} {T:TypeId} {xs e:List Value} (h:St M w0 w L) (k:L[i]? = some (.row v n T sz xs)) (c:Grw (fun b _=>v.ownBlock=some b) w X) (j:IsRow v T sz n e u X):St M w0 X (L.set i (.row v n T sz e)):=
 h.turn k c.os c.tape c.output c.size (fun b f hne=>c.block b f hne) j (fun b f=>⟨.inl f,(World.ownsRow.lt j b f).2⟩)
def NewAny (B n:Nat) (T:TypeId) (v:Value) (X:World):Prop:=∃b,v=.pointer (some ⟨b,0,none⟩)∧B≤b∧∃cs,Box X b cs T∧cs.size=n
theorem NewAny.stable {B n:Nat} {T:TypeId} (v:Value) (X X':World) (h:NewAny B n T v X) (c:Below X.heap.size X X'):NewAny B n T v X':=by
 obtain⟨b,e,i,cs,h3,f⟩:=h;exact⟨b,e,i,cs,h3.below c,f⟩
theorem NewAny.newT {B n f:Nat} {T i:TypeId} (v:Value) (X X':World) (h:NewAny B n T v X) (m:Grw (j9 f i) X X'):NewAny B n T v X':=by
 obtain⟨b,c,k,cs,h3,p⟩:=h;obtain⟨cs',e,j⟩:=m.shape b cs T (0,0) h3;exact⟨b,c,k,cs',j,by rw[e];exact p⟩
theorem NewB.newT {B j:Nat} {f:Nat→Value} {cs:Array Value} {T c:TypeId} (p:T≠c) (v:Value) (X X':World) (h:NewB B f cs T v X) (m:Grw (j9 j c) X X'):NewB B f cs T v X':=by
 obtain⟨b,i,k,h3⟩:=h;refine⟨b,i,k,(m.block b h3.lt ?_).trans h3⟩
 rintro ⟨_,cs',fr,e⟩
 rw[show X.heap[b]? = some (.cells cs T (0,0)) from h3] at e;injection e with e;injection e with _ e;exact p e
theorem kN {X:World} {B n:Nat} {cs:Array Value} {T:TypeId} {r:Result Next} (hx:r=.ok (.value (.pointer (some ⟨X.heap.size,0,none⟩))) (X.alloc (.cells cs T))) (hB:B≤X.heap.size) (b:cs.size=n):cj P (NewAny B n T) X r:=by
 subst hx;exact⟨eu (Below.refl _ _) _,X.heap.size,rfl,hB,cs,Box.new X cs T,b⟩
def StoY (B:Nat) (T:TypeId) (x:Nat) (Y:Act→Value→Prop) (g:Act) (_:Value) (X:World):Prop:=∃b,g.tmps[x]? = some (.pointer (some ⟨b,0,none⟩))∧B≤b∧∃v,Y g v∧Box X b v.cells T
def vo (y:Nat) (g:Act) (v:Value):Prop:=g.tmps[y]? = some v
def tU (u:Value) (_:Act) (v:Value):Prop:=v=u
theorem gF {nds:List NdB} {k kx x y:Nat} {T:TypeId} {Y:Act→Value→Prop} {deps:List Nat} {Φ:List (Nat × (World→Prop))} (K:Has ds a N l) (ho:ops[k]? = some o) (G:o.op=.store T (.tmp x) (.tmp y)∧o.dst=none) (hk:news=[(k,T)]) (hO:∀p∈oc,∀b,p.2 b→b<w.heap.size)
 (D:deps.contains kx=true∧ay ops kx=some x) {vx z:Value} (L:Y a z) (U:∀I v,(∀j∈deps,∀t,ay ops j=some t→I.tmps[t]? = a.tmps[t]?)→Y a v→Y I v) (E:look l x=some vx) (V:look l y=some z) {n:Nat} (hs:(P.info? T).map (·.size)=some n) (Jx:∀q∈oc,q.1∉deps)
 (hx:∀X,Grw (fun b _=>∃p∈oc,p.2 b) w X→told deps Φ X→NewAny w.heap.size n T vx X∧z.cells.size=n∧z.cells.toList.all (·.oneCell')=true)
 (M:∀v,gd P ops (fg w.heap.size oc news) w Q tail nds a ((k,StoY w.heap.size T x Y a v)::Φ)):gd P ops (fg w.heap.size oc news) w Q tail (⟨k,deps,StoY w.heap.size T x Y⟩::nds) a Φ:=by
 refine⟨⟨fun v X X' ⟨b,F,i,u,h3,m⟩ hb=>⟨b,F,i,u,h3,m.below hb⟩,fun p S hne _ v X X' ⟨b,F,i,u,h3,m⟩ J=>?_,fun I v X Z ⟨b,F,i,u,h3,m⟩=>?_⟩,fun o' H X J hE hΦ=>?_,fun v=>?_⟩
 · rcases gL S with ⟨q,A,rfl⟩ | ⟨q,A,rfl⟩
   · exact⟨b,F,i,u,h3,(J.1.block b m.lt (fun h=>by have:=hO q A b h;omega)).trans m⟩
   · rw[hk] at A;rw[List.mem_singleton.1 A] at hne;exact absurd rfl hne
 · exact⟨b,(Z kx (List.contains_iff_mem.1 D.1) x D.2).trans F,i,u,U I u Z h3,m⟩
 · rw[ho] at H;cases H
   obtain⟨⟨b,rfl,i,cs,h3,m⟩,W,h6⟩:=hx X (by
    refine J.conv fun b hb ⟨p,S,_,C⟩=>?_;rcases gL S with ⟨q,A,rfl⟩ | ⟨q,A,rfl⟩
    · exact⟨q,A,C⟩
    · have i:w.heap.size≤b:=C.1;omega) hΦ
   have c:=ij (P:=P) (ρ:=a.eval) (o:=o) (ty:=T) (X:=X) G.1 (K.ev (o:=.tmp x) E) (K.ev (o:=.tmp y) V) rfl (by rw[hs];simp[W]) h3 h6 (by rw[show z.cells.toList.length=cs.toList.length by simp[m,W]];exact Nat.beq_refl _)
   have B:(k,j9 w.heap.size T,fun _ _=>True)∈fg w.heap.size oc news:=by unfold fg;rw[hk];exact List.mem_append_right _ (List.mem_singleton.2 rfl)
   have s:∀X',Kp (fun M=>M=b) 0 X X'→xX (fg w.heap.size oc news) k X X':=fun X' hK=>.inr ⟨_,B,rfl,hK.1.conv fun b' Jw e=>by
    have e':b'=b:=e;subst e'
    exact⟨i,cs,(0,0),h3⟩,trivial⟩
   have R:∀u X',IsBox b T z.cells.toList.toArray u X'→StoY w.heap.size T x Y a u X':=fun u X' hB=>⟨b,K.slot x _ E,i,z,L,by simpa [IsBox] using hB⟩;generalize (execOp a.eval o).run P X=r at c
   cases r with
   | halt e X'=>simp only[dE] at c
   | ok nx X'=>
    cases nx<;>simp only[dE] at c<;>simp only[fi]
    case value u=>exact⟨s _ c.1,R _ _ c.2⟩
    case skip=>exact⟨s _ c.1,R _ _ c.2⟩
    case enter f args=>exact⟨c.1,c.2.mono fun e Jv ⟨v,g1,g2,g3⟩=>⟨v,g1,s _ g2,R _ _ g3⟩⟩
 · have e:ay ops k=none:=by unfold ay;rw[ho];exact G.2
   show gd P ops (fg w.heap.size oc news) w Q tail nds (a.put (ay ops k) v) _;rw[e];exact M v
theorem iA {Φ:List (Nat × (World→Prop))} (f:∀p∈oc,∀b,p.2 b→O b) (h:∀X,Grw (fun b _=>O b) w X→eN Φ X→wpList P ops Q tail a X):gd P ops (fg w.heap.size oc news) w Q tail [] a Φ:=fun X c e=>h X (xG rfl f c) e
theorem sB {deps:List Nat} {ky y:Nat} (b:deps.contains ky=true∧ay ops ky=some y):∀c v,(∀j∈deps,∀t,ay ops j=some t→c.tmps[t]? = a.tmps[t]?)→vo y a v→vo y c v:=fun c v e h=>(e ky (List.contains_iff_mem.1 b.1) y b.2).trans h
theorem jy {deps:List Nat} {u:Value}:∀b v,(∀j∈deps,∀t,ay ops j=some t→b.tmps[t]? = a.tmps[t]?)→tU u a v→tU u b v:=fun b v c h=>h
theorem StoY.slot {B:Nat} {T:TypeId} {x y:Nat} {v vx e:Value} {X:World} (f:Has ds a N l) (hx:look l x=some vx) (j:look l y=some e) (h:StoY B T x (vo y) a v X):∃b,vx=.pointer (some ⟨b,0,none⟩)∧B≤b∧Box X b e.cells T:=by
 obtain⟨b,i,k,u,h3,m⟩:=h;have c:=(f.slot x _ hx).symm.trans i;have e2:=(f.slot y _ j).symm.trans h3;injection c with c;injection e2 with e2;exact⟨b,c,k,by rw[e2];exact m⟩
theorem StoY.val {B:Nat} {T:TypeId} {x:Nat} {v vx u:Value} {X:World} (k:Has ds a N l) (hx:look l x=some vx) (h:StoY B T x (tU u) a v X):∃b,vx=.pointer (some ⟨b,0,none⟩)∧B≤b∧Box X b u.cells T:=by
 obtain⟨b,f,j,i,h3,e⟩:=h;have c:=(k.slot x _ hx).symm.trans f;injection c with c;exact⟨b,c,j,by rw[show i=u from h3] at e;exact e⟩
theorem IsVal.newT {u:Value} {B:Nat} {T:TypeId} (v:Value) (X X':World) (h:IsVal u v X) (_:Grw (j9 B T) X X'):IsVal u v X':=h
theorem PairU.newT {ι:Type} {V:ι→Value} {F:ι→Prop} {B:Nat} {T:TypeId} (v:Value) (X X':World) (h:PairU V F v X) (_:Grw (j9 B T) X X'):PairU V F v X':=h
theorem ExtU0.newT {ι:Type} {V:ι→Value} {F:ι→Prop} {B:Nat} {T:TypeId} (v:Value) (X X':World) (h:ExtU0 V F v X) (_:Grw (j9 B T) X X'):ExtU0 V F v X':=h
theorem ExtU1.newT {ι:Type} {V:ι→Value} {F:ι→Prop} {B:Nat} {T:TypeId} (v:Value) (X X':World) (h:ExtU1 V F v X) (_:Grw (j9 B T) X X'):ExtU1 V F v X':=h
def MovS (src:Nat) (g:Act) (v:Value) (_:World):Prop:=g.tmps[src]? = some v
def ExtS (src i:Nat) (g:Act) (v:Value) (_:World):Prop:=∃vs,g.tmps[src]? = some (.tuple vs)∧vs[i]? = some v
theorem MovS.get {src:Nat} {u v:Value} {X:World} (c:Has ds a N l) (b:look l src=some u) (h:MovS src a v X):v=u:=by
 have:=(c.slot src _ b).symm.trans h;injection this with this;exact this.symm
theorem ExtS.get {src i:Nat} {vs:Array Value} {v y:Value} {X:World} (j:Has ds a N l) (f:look l src=some (.tuple vs)) (e:vs[i]? = some y) (h:ExtS src i a v X):v=y:=by
 obtain⟨us,c,b⟩:=h;have:=(j.slot src _ f).symm.trans c;injection this with this;injection this with this;rw[←this,e] at b;exact(Option.some.inj b).symm
theorem yF {nds:List NdB} {k:Nat} {deps:List Nat} {R:Act→Value→World→Prop} {Φ:List (Nat × (World→Prop))} (z:Has ds a N l) (f:ops[k]? = some o) (x:o.dst=some d) (r:Nat.blt d N=true)
 (i:∀g v X X',R g v X→R g v X') (b:∀m v X,(∀j∈deps,∀t,ay ops j=some t→m.tmps[t]? = a.tmps[t]?)→R a v X→R m v X) (hx:∀X,told deps Φ X→∃v,(execOp a.eval o).run P X=.ok (.value v) X∧R a v X)
 (u:∀v a',Has ds a' N ((d,v)::l)→gd P ops (fg w.heap.size oc news) w Q tail nds a' ((k,R a v)::Φ)):gd P ops (fg w.heap.size oc news) w Q tail (⟨k,deps,R⟩::nds) a Φ:=by
 refine⟨⟨fun v X X' h _=>i a v X X' h,fun p C _ _ v X X' h _=>i a v X X' h,b⟩,fun o' c X A B q=>?_,fun v=>?_⟩
 · rw[f] at c;cases c
   obtain⟨v,s,y⟩:=hx X q;rw[s];exact⟨.inl (Below.refl _ _),y⟩
 · have e:ay ops k=some d:=by unfold ay;rw[f];exact x
   show gd P ops (fg w.heap.size oc news) w Q tail nds (a.put (ay ops k) v) _;rw[e];exact u v _ (z.put r v)
theorem jh {nds:List NdB} {k kx src:Nat} {deps:List Nat} {Φ:List (Nat × (World→Prop))} (f:Has ds a N l) (r:ops[k]? = some o) (c:o.op=.move (.tmp src)∨o.op=.assign (.tmp src)) (p:o.dst=some d) (j:Nat.blt d N=true) (b:deps.contains kx=true∧ay ops kx=some src) {u:Value} (i:look l src=some u)
 (q:∀v a',Has ds a' N ((d,v)::l)→gd P ops (fg w.heap.size oc news) w Q tail nds a' ((k,MovS src a v)::Φ)):gd P ops (fg w.heap.size oc news) w Q tail (⟨k,deps,MovS src⟩::nds) a Φ:=
 yF f r p j (fun _ _ _ _ h=>h) (fun s v X m h=>(m kx (List.contains_iff_mem.1 b.1) src b.2).trans h) (fun X _=>⟨u,by
  have e:a.eval (.tmp src)=u:=f.ev (o:=.tmp src) i;unfold execOp
  rcases c with h | h<;>simp[h,e],f.slot src _ i⟩) q
theorem gP {nds:List NdB} {k kx src i:Nat} {deps:List Nat} {Φ:List (Nat × (World→Prop))} (j:Has ds a N l) (x:ops[k]? = some o) (e:o.op=.extract (.tmp src) i) (z:o.dst=some d) (q:Nat.blt d N=true) (b:deps.contains kx=true∧ay ops kx=some src) {u:Value} (m:look l src=some u)
 (hx:∀X,told deps Φ X→∃vs y,u=.tuple vs∧vs[i]? = some y)
 (t:∀v a',Has ds a' N ((d,v)::l)→gd P ops (fg w.heap.size oc news) w Q tail nds a' ((k,ExtS src i a v)::Φ)):gd P ops (fg w.heap.size oc news) w Q tail (⟨k,deps,ExtS src i⟩::nds) a Φ:=
 yF j x z q (fun _ _ _ _ h=>h) (fun A v X s ⟨vs,h,c⟩=>⟨vs,(s kx (List.contains_iff_mem.1 b.1) src b.2).trans h,c⟩) (fun X p=>by
  obtain⟨vs,y,r,c⟩:=hx X p;subst r;have f:a.eval (.tmp src)=.tuple vs:=j.ev (o:=.tmp src) m;refine⟨y,?_,vs,j.slot src _ m,c⟩;unfold execOp
  simp[e,f,Instr.extract,c]) t
def BoxY (b:Nat) (T:TypeId) (y:Nat) (g:Act) (_:Value) (X:World):Prop:=∃u,g.tmps[y]? = some u∧Box X b u.cells T
theorem BoxY.get {b:Nat} {T:TypeId} {y:Nat} {v c:Value} {X:World} (j:Has ds a N l) (f:look l y=some c) (h:BoxY b T y a v X):Box X b c.cells T:=by
 obtain⟨u,e,i⟩:=h;have:=(j.slot y _ f).symm.trans e;injection this with this;rw[this];exact i
def RowU (V:Option Addr→Nat→Value) (B:Nat) (T:TypeId) (sz n:Nat) (xs:List Value) (v:Value) (X:World):Prop:=∃A c,v=V A c∧X.ownsRow B T sz (.slice A n c) n xs
theorem RowU.stable {V:Option Addr→Nat→Value} {B:Nat} {T:TypeId} {sz n:Nat} {xs:List Value} (v:Value) (X X':World) (h:RowU V B T sz n xs v X) (b:Below X.heap.size X X'):RowU V B T sz n xs v X':=by
 obtain⟨A,c,e,f⟩:=h;exact⟨A,c,e,kb f b⟩
theorem RowU.newT {V:Option Addr→Nat→Value} {B i:Nat} {T b:TypeId} {sz n:Nat} {xs:List Value} (m:T≠b) (v:Value) (X X':World) (h:RowU V B T sz n xs v X) (k:Grw (j9 i b) X X'):RowU V B T sz n xs v X':=by
 obtain⟨A,c,f,j,h3⟩:=h;refine⟨A,c,f,j,?_⟩;rcases h3 with h3 | ⟨g,cap,cur,e1,e2,e3,e4⟩
 · exact .inl h3
 · refine .inr ⟨g,cap,cur,e1,e2,(k.block g (Array.getElem?_eq_some_iff.1 e3).1 ?_).trans e3,e4⟩
   rintro ⟨_,cs,fr,e⟩
   rw[e3] at e;injection e with e;injection e with _ e;exact m e
theorem uc {V:Option Addr→Nat→Value} {f:FuncId} {args:Array Value} {X:World} {B b n sz:Nat} {T:TypeId} {xs:List Value} {r:Result Next} (hx:r=.ok (.enter f args) X) (i:Calls P f args X fun e X'=>∃A c,e=.returned (V A c)∧X'.ownsRow b T sz (.slice A n c) n xs∧Below X.heap.size X X') (hB:B≤b):cj P (RowU V B T sz n xs) X r:=by
 subst hx;exact⟨rfl,i.mono fun e X' ⟨A,c,h,k,j⟩=>⟨_,h,j,A,c,rfl,aZ k hB⟩⟩
end
theorem St.addRow {M:List Nat} {w0 w X:World} {L L':List Ent} {j:TypeId} {sz n:Nat} {v:Value} {xs:List Value} (h:St M w0 w L) (h':St M w0 X L') (m:∀e∈L',∀b,e.dom b→b<w.heap.size) (hr:X.ownsRow w.heap.size j sz v n xs):St M w0 X (.row v n j sz xs::L'):=by
 refine⟨h'.os,h'.tape,h'.output,h'.size,h'.block,fun e c=>?_,fun e c k f=>?_,List.pairwise_cons.2 ⟨fun e c k f i=>?_,h'.sep⟩⟩
 · rcases List.mem_cons.1 c with rfl | c
   · exact aZ hr (Nat.zero_le _)
   · exact h'.ok e c
 · rcases List.mem_cons.1 c with rfl | c
   · have:=hr.lt k f
     exact⟨.inl (Nat.le_trans h.size this.1),this.2⟩
   · exact h'.new e c k f
 · have p:=(hr.lt k f).1
   have q:=m e c k i;omega
theorem St.newBoxRow {M:List Nat} {w0 w X:World} {L:List Ent} {b:Nat} {cs:Array Value} {T p:TypeId} {sz n:Nat} {v:Value} {xs:List Value} (h:St M w0 w L) (t:Below w.heap.size w X) (q:Box X b cs T) (hB:w.heap.size≤b) (hr:X.ownsRow w.heap.size p sz v n xs) (u:T≠p):St M w0 X (.box b cs T::.row v n p sz xs::L):=by
 have i:St M w0 X (.row v n p sz xs::L):=St.addRow h (h.grow t) (fun e c k j=>(h.new e c k j).2) hr;refine⟨i.os,i.tape,i.output,i.size,i.block,fun e c=>?_,fun e c k j=>?_,List.pairwise_cons.2 ⟨fun e c k j f=>?_,i.sep⟩⟩
 · rcases List.mem_cons.1 c with rfl | c
   · exact q
   · exact i.ok e c
 · rcases List.mem_cons.1 c with rfl | c
   · rw[show k=b from j];exact⟨.inl (Nat.le_trans h.size hB),q.lt⟩
   · exact i.new e c k j
 · have r:k=b:=j
   subst r;rcases List.mem_cons.1 c with rfl | c
   · rcases hr.2 with ⟨s,_⟩ | ⟨g,cap,cur,s,_,e3,_⟩
     · rw[s] at f;cases f
     · rw[s] at f
       have:some g=some k:=f;injection this with this;rw[this] at e3;have m:=(q:X.heap[k]? = _).symm.trans e3;injection m with m;injection m with _ m;exact u m
   · have:=(h.new e c k f).2
     omega
open Go.RowKit Go.Sort
variable {ds:List Deferred}
section
variable {P:Program} {ops:Array Oper} {Q:Exit→Act→World→Prop} {w:World} {tail:List Oper} {l:List (Nat × Value)} {o:Oper} {a:Act} {N d:Nat} {cs:List (Nat × Nat)}
end
section
variable {P:Program} {ρ:Operand→Value} {X:World}
end
theorem sP {P:Program} {ops:Array Oper} {Q:Exit→Act→World→Prop} {md:Region.Mode} (J:Array Bool→Act→World→Prop)
 (c:∀listed a w i,J listed a w→i∈Region.ready md ops listed→wpOp P ops Q i (J (listed.setIfInBounds i true)) a w)
 (b:∀listed a w,J listed a w→Region.ready md ops listed=[]→Q .normal a w) (e:∀listed a w,J listed a w→listed.size=ops.size) :
 ∀(f:Nat) (listed:Array Bool) (a:Act) (w:World),((List.range ops.size).filter fun j=>!listed.getD j true).length=f→J listed a w→wpAny P md ops Q f listed a w
 | 0,listed,a,w,hf,h=>by
  have k:Region.ready md ops listed=[]:=by
   unfold Region.ready;rw[List.filter_eq_nil_iff];intro j t q;rw[Bool.and_eq_true] at q;have:j∈(List.range ops.size).filter fun j=>!listed.getD j true:=List.mem_filter.2 ⟨t,q.1⟩;rw[List.length_eq_zero_iff.1 hf] at this
   cases this
  exact⟨k,b _ _ _ h k⟩
 | f+1,listed,a,w,hf,h=>by
  refine⟨fun k=>b _ _ _ h k,fun i s=>?_⟩;refine wpOp_mono (fun a' u h'=>sP J c b e f _ a' u ?_ h') (c listed a w i h s);have r:=mem_ready.1 s
  have p:i<ops.size:=by
   obtain⟨_,v,m,_⟩:=r;exact(Array.getElem?_eq_some_iff.1 m).1
  have:=count_set ops.size i listed r.1 ops.size;rw[if_pos p,hf] at this;omega
open Go.RowKit Go.Sort
variable {ds:List Deferred}
structure BxD where
 a:Nat
 s:Nat
 x:Tmp
 y:Tmp
 T:TypeId
 z:Array Value
 v:Value
theorem B6 {α:Type} {R:α→α→Prop} (b:∀x y,R x y→R y x):∀{l:List α},l.Pairwise R→∀x∈l,∀y∈l,x=y∨R x y
 | [],_,x,hx,_,_=>by cases hx
 | z::l,h,x,hx,y,hy=>by
  rw[List.pairwise_cons] at h;rcases List.mem_cons.1 hx with rfl | hx'
  · rcases List.mem_cons.1 hy with rfl | hy'
    · exact .inl rfl
    · exact .inr (h.1 y hy')
  · rcases List.mem_cons.1 hy with rfl | hy'
    · exact .inr (b _ _ (h.1 x hx'))
    · exact B6 b h.2 x hx' y hy'
section
variable {P:Program} {ops:Array Oper} {Q:Exit→Act→World→Prop} {w:World} {tail:List Oper}
def Cu (ops:Array Oper) (fl:List Bool) (n N:Nat) (bs:List BxD):Bool:=
 Region.noSelect ops&&(n==ops.size||(decide (n<ops.size)&&Region.sinkB .any ops n&&Region.chainB .any ops n))&&Region.seqB .any ops (ops.size-n) n (dw ops.size n) &&
 vF ops fl n N&&decide (fl.length=n)&&((List.range n).all fun i=>!bL fl i||bs.any fun q=>q.a==i||q.s==i) &&
 bs.all (fun q=>decide (q.a<n)&&decide (q.s<n)&&iE ops 4 q.s q.a&&bL fl q.a&&bL fl q.s&&(match ops[q.a]? with | some o=>o.dst==some q.x | none=>false)&&(match ops[q.s]? with | some o=>o.dst.isNone&&(match o.op with | .store _ (.tmp x) (.tmp y)=>x==q.x&&y==q.y | _=>false) | none=>false)&&(List.range n).all fun j=>ay ops j != some q.y||!bL fl j)
structure BoxI (listed:Array Bool) (w:World) (bs:List BxD) (vals:Nat→Value) (X:World):Prop where
 box:∀q∈bs,listed.getD q.a false=true→∃b,vals q.a=.pointer (some ⟨b,0,none⟩)∧w.heap.size≤b∧Box X b (if listed.getD q.s false=true then q.v.cells else q.z) q.T
 ne:∀q∈bs,∀r∈bs,q.a≠r.a→listed.getD q.a false=true→listed.getD r.a false=true→vals q.a≠vals r.a
variable {n N:Nat} {fl:List Bool} {bs:List BxD} {a afin:Act}
def zW (w:World) (bs:List BxD):List yD:=bs.map fun q=>(q.s,(fun b _=>w.heap.size≤b),fun _ _=>True)
theorem Dj {X:World} (h:Grw (gJ (zW w bs)) w X):Below w.heap.size w X:=jw (h.weaken fun b o ⟨p,e,c⟩=>by
 obtain⟨q,_,rfl⟩:=List.mem_map.1 e;exact c)
theorem EX (hB:Cu ops fl n N bs=true) (hN:N=a.tmps.size) (Wu:∀j,tail[j]? = ops[n+j]?) (Wg:tail.length=ops.size-n)
 (Vh:afin.tmps.size=a.tmps.size∧afin.defers=a.defers) (Vb:∀t,(∀j,j<n→bL fl j=false→ay ops j≠some t)→afin.tmps[t]? = a.tmps[t]?)
 (Vx:∀j o,j<n→bL fl j=false→ops[j]? = some o→wT P ops (Grw (gJ (zW w bs)) w) (fun t=>if (∃j,j<n∧bL fl j=false∧ay ops j=some t) then afin.tmps[t]? else a.tmps[t]?) afin o)
 (hu:bs.Pairwise fun q r=>q.a≠r.a∧q.s≠r.s)
 (hA:∀q∈bs,∀o,ops[q.a]? = some o→∀ρ X,(execOp ρ o).run P X=.ok (.value (.pointer (some ⟨X.heap.size,0,none⟩))) (X.alloc (.cells q.z q.T)))
 (hS:∀q∈bs,∀o ty x' y',ops[q.s]? = some o→o.op=.store ty x' y'→(P.info? ty).map (·.size)=some q.v.cells.size) (hz:∀q∈bs,q.v.cells.size=q.z.size∧q.v.cells.toList.all (·.oneCell')=true)
 (hy:∀q∈bs,afin.tmps[q.y]? = some q.v)
 (Vv:∀(b:Act) X (bl:Nat→Nat),b.tmps.size=afin.tmps.size→b.defers=afin.defers→(∀t,(∀q∈bs,q.x≠t)→b.tmps[t]? = afin.tmps[t]?)→(∀q∈bs,b.tmps[q.x]? = some (.pointer (some ⟨bl q.a,0,none⟩))∧w.heap.size≤bl q.a∧Box X (bl q.a) q.v.cells q.T) →
  (∀q∈bs,∀r∈bs,q.a≠r.a→bl q.a≠bl r.a)→Below w.heap.size w X→wpList P ops Q tail b X) :
 ∀(f:Nat) (listed:Array Bool) (b:Act) (X:World) (vals:Nat→Value),((List.range n).filter fun j=>!listed.getD j true).length=f→FlowInvK ops (zW w bs) w fl n [] a afin listed b X vals→BoxI listed w bs vals X→wpAny P .any ops Q (f+(ops.size-n)) listed b X:=by
 unfold Cu at hB;rw[Bool.and_eq_true,Bool.and_eq_true,Bool.and_eq_true,Bool.and_eq_true,Bool.and_eq_true,Bool.and_eq_true,decide_eq_true_eq] at hB;obtain⟨⟨⟨⟨⟨⟨Vz,Vw⟩,Vy⟩,hh⟩,Yl⟩,Wc⟩,Wk⟩:=hB;have Vi:=ml Vw
 have hq:∀q∈bs,q.a<n∧q.s<n∧iE ops 4 q.s q.a=true∧bL fl q.a=true∧bL fl q.s=true∧ay ops q.a=some q.x∧(∃o ty,ops[q.s]? = some o∧o.dst=none∧o.op=.store ty (.tmp q.x) (.tmp q.y))∧∀j,j<n→ay ops j=some q.y→bL fl j=false:=fun q hq=>by
  have h:=List.all_eq_true.1 Wk q hq;rw[Bool.and_eq_true,Bool.and_eq_true,Bool.and_eq_true,Bool.and_eq_true,Bool.and_eq_true,Bool.and_eq_true,Bool.and_eq_true,decide_eq_true_eq,decide_eq_true_eq] at h;obtain⟨⟨⟨⟨⟨⟨⟨J,h2⟩,h3⟩,h4⟩,h5⟩,W⟩,h7⟩,h8⟩:=h;refine⟨J,h2,h3,h4,h5,?_,?_,fun j C p=>?_⟩
  · cases D:ops[q.a]? with
    | none=>rw[D] at W;cases W
    | some o=>rw[D] at W;unfold ay;rw[D];simpa using W
  · cases D:ops[q.s]? with
    | none=>rw[D] at h7;cases h7
    | some o=>
     rw[D] at h7;simp only[Bool.and_eq_true] at h7;obtain⟨k1,k2⟩:=h7
     cases Jy:o.op<;>rw[Jy] at k2<;>try (cases k2)
     rename_i ty x y
     cases x<;>cases y<;>simp at k2
     obtain⟨rfl,rfl⟩:=k2;exact⟨o,ty,rfl,al k1,Jy⟩
  · have:=List.all_eq_true.1 h8 j (List.mem_range.2 C)
    simpa [p] using this
 have Jv:=fun q hq r hr=>B6 (R:=fun q r:BxD=>q.a≠r.a∧q.s≠r.s) (fun x y h=>⟨Ne.symm h.1,Ne.symm h.2⟩) hu q hq r hr
 have Z:∀q∈bs,∀r∈bs,q.a≠r.s:=fun q c r hr e=>by
  obtain⟨_,_,_,_,_,W,_⟩:=hq q c;obtain⟨_,_,_,_,_,_,⟨o,ty,D,hd,_⟩,_⟩:=hq r hr;rw[e] at W;unfold ay at W;rw[D] at W;simp[hd] at W
 have Vf:∀i,i<n→∃o,ops[i]? = some o∧(∀d,o.dst=some d→d<a.tmps.size∧(∀j,j<n→j≠i→ay ops j≠some d))∧(∀e∈o.after,Region.binds .any e=true→e.on<i) ∧
  (∀t∈o.looksAt ops,∀j,j<n→ay ops j=some t→j<i∧Region.waitsFor .any ops i j=true∧(bL fl i=false→bL fl j=false))∧(bL fl i=true→o.guard=none):=fun i I=>by
  have J:=List.all_eq_true.1 hh i (List.mem_range.2 I)
  cases D:ops[i]? with
  | none=>rw[D] at J;cases J
  | some o=>
   rw[D] at J;simp only[Bool.and_eq_true] at J;obtain⟨⟨⟨c1,c2⟩,c3⟩,c4⟩:=J
   · refine⟨o,rfl,fun d hd=>?_,fun e he hb=>?_,fun t ht j C p=>?_,fun Vq=>?_⟩
     · rw[hd] at c1
       simp only[Bool.and_eq_true,decide_eq_true_eq] at c1;refine⟨by rw[←hN];exact c1.1,fun j C hne e=>?_⟩;have:=List.all_eq_true.1 c1.2 j (List.mem_range.2 C);simp[hne,e] at this
     · have:=Array.all_eq_true_iff_forall_mem.1 c2 e he
       simpa [hb] using this
     · have:=List.all_eq_true.1 (List.all_eq_true.1 c3 t ht) j (List.mem_range.2 C)
       simp only[p,bne_self_eq_false,Bool.false_or,Bool.and_eq_true,decide_eq_true_eq,Bool.or_eq_true,Bool.not_eq_true'] at this;exact⟨this.1.1,this.1.2,fun Wx=>this.2.resolve_left (by rw[Wx];decide)⟩
     · rw[Vq] at c4
       simpa using c4
 have Yj:∀i j d,i<n→j<n→ay ops i=some d→ay ops j=some d→i=j:=fun i j d I C J h2=>by
  obtain⟨o,D,hd,_⟩:=Vf i I
  have:o.dst=some d:=by
   have:ay ops i=o.dst:=by unfold ay;rw[D];rfl
   rw[←this];exact J
  rcases Nat.decEq j i with hne | he
  · exact absurd h2 ((hd d this).2 j C hne)
  · exact he.symm
 intro f
 induction f with
 | zero=>
  intro listed b X vals S inv hI
  have V:∀i,i<n→listed.getD i true=true:=fun i I=>by
   cases F:listed.getD i true with
   | true=>rfl
   | false=>
    have:i∈(List.range n).filter fun j=>!listed.getD j true:=List.mem_filter.2 ⟨List.mem_range.2 I,by rw[F];rfl⟩;rw[List.length_eq_zero_iff.1 S] at this
    cases this
  have G:∀i,i<n→listed.getD i false=true:=fun i I=>gX (by
   rw[inv.head.size]
   rcases Vi with h | ⟨h,_⟩<;>omega) (by rw[V i I];decide)
  have Wt:listed=dw ops.size n:=by
   apply Array.ext
   · rw[inv.head.size];simp[dw]
   · intro i J h2
     have e2:(dw ops.size n)[i]=decide (i<n):=by simp[dw]
     rw[e2];by_cases I:i<n
     · have:=V i I
       simp[J] at this;rw[this];simp[I]
     · have:=inv.head.tail i ab (by rw[←inv.head.size];exact J)
       simp[J] at this;rw[this];simp[I]
  rw[Wt,Nat.zero_add,←Wg];refine wpAny_of_seq tail n _ _ X Wu (by rw[Wg];exact Vy) ?_
  have Jz:∀k,∃b:Nat,∀q∈bs,q.a=k→vals q.a=.pointer (some ⟨b,0,none⟩)∧w.heap.size≤b∧Box X b q.v.cells q.T:=fun k=>by
   by_cases hk:∃q∈bs,q.a=k
   · obtain⟨q,c,rfl⟩:=hk
     obtain⟨J,h2,_⟩:=hq q c;obtain⟨b,H,e2,e3⟩:=hI.box q c (G _ J);rw[if_pos (G _ h2)] at e3;refine⟨b,fun r hr Wp=>?_⟩;rcases Jv r hr q c with rfl | h
     · exact⟨H,e2,e3⟩
     · exact absurd Wp h.1
   · exact⟨0,fun q c e=>absurd ⟨q,c,e⟩ hk⟩
  obtain⟨bl,Jz⟩:∃bl:Nat→Nat,∀k,∀q∈bs,q.a=k→vals q.a=.pointer (some ⟨bl k,0,none⟩)∧w.heap.size≤bl k∧Box X (bl k) q.v.cells q.T:=⟨fun k=>(Jz k).choose,fun k=>(Jz k).choose_spec⟩;refine Vv b X bl (by rw[inv.size,Vh.1]) (by rw[inv.defers,Vh.2]) (fun t ht=>?_) (fun q c=>?_) (fun q c r hr hne e=>?_) (Dj inv.below)
  · by_cases B:∃j,j<n∧ay ops j=some t
    · obtain⟨j,C,p⟩:=B
      rw[inv.done j t C p (G j C)]
      cases Vq:bL fl j with
      | false=>rfl
      | true=>
       exfalso
       have:=List.all_eq_true.1 Wc j (List.mem_range.2 C);rw[Vq,Bool.not_true,Bool.false_or,List.any_eq_true] at this;obtain⟨q,c,h⟩:=this;obtain⟨_,_,_,_,_,W,⟨o,ty,D,hd,_⟩,_⟩:=hq q c;rcases Bool.or_eq_true_iff.1 h with h | h
       · have:q.a=j:=al h
         rw[this,p] at W;injection W with W;exact ht q c W.symm
       · have:q.s=j:=al h
         rw[this] at D;unfold ay at p;rw[D] at p;simp[hd] at p
    · rw[inv.rest t (fun j C p=>absurd ⟨j,C,p⟩ B),Vb t (fun j C _ p=>B ⟨j,C,p⟩)]
  · obtain⟨J,h2,_,h4,_,W,_⟩:=hq q c
    obtain⟨H,e2,e3⟩:=Jz q.a q c rfl;refine⟨?_,e2,e3⟩;rw[inv.done q.a q.x J W (G _ J),h4,if_pos rfl,H]
  · have H:=(Jz q.a q c rfl).1
    have e2:=(Jz r.a r hr rfl).1;refine hI.ne q c r hr hne (G _ (hq q c).1) (G _ (hq r hr).1) ?_;rw[H,e2,e]
 | succ f ih=>
  intro listed b X vals S inv hI
  have B:∃i,i<n∧listed.getD i true=false:=by
   cases F:(List.range n).filter fun j=>!listed.getD j true with
   | nil=>rw[F] at S;simp at S
   | cons i _=>
    have:i∈(List.range n).filter fun j=>!listed.getD j true:=by rw[F];simp
    obtain⟨J,h2⟩:=List.mem_filter.1 this;exact⟨i,List.mem_range.1 J,al h2⟩
  have Vn:∃i,i∈Region.ready .any ops listed:=by
   obtain⟨i,K,Va⟩:=B
   have Ye:∀m,m<n→listed.getD m true=false→∃i,i∈Region.ready .any ops listed:=by
    intro m
    induction m using Nat.strongRecOn with
    | _ m ihm=>
     intro hm Va;obtain⟨o,D,_,Wa,_⟩:=Vf m hm;by_cases V:∀e∈o.after,Region.binds .any e=true→listed.getD e.on false=true
     · exact⟨m,mem_ready.2 ⟨Va,o,D,V⟩⟩
     · obtain⟨e,he⟩:=Classical.not_forall.1 V
       obtain⟨Ws,Vu⟩:=Classical.not_imp.1 he;obtain⟨hb,Yb⟩:=Classical.not_imp.1 Vu;have Wi:=Wa e Ws hb
       refine ihm e.on Wi ab (getD_in (by
        rw[inv.head.size]
        rcases Vi with h | ⟨h,_⟩<;>omega) (al Yb))
   exact Ye i K Va
  obtain⟨i0,We,Wf⟩:=B;rw[Nat.succ_add];refine⟨fun h0=>(by obtain⟨i,I⟩:=Vn;rw[h0] at I;cases I),fun i I=>?_⟩
  have K:i<n:=by
   rcases Vi with Vi | ⟨hn,hs,hc⟩
   · obtain⟨_,oi,Wq,_⟩:=mem_ready.1 I
     rw[Vi];exact(Array.getElem?_eq_some_iff.1 Wq).1
   · exact Nat.lt_of_not_le fun h=>tail_waits hs hc hn inv.head _ i0 rfl We Wf i h I
  obtain⟨o,D,Vm,Wa,Vd,Wj⟩:=Vf i K;obtain⟨Va,o',Ya,Vk⟩:=mem_ready.1 I;obtain rfl:o'=o:=Option.some.inj (Ya.symm.trans D)
  have Y:((List.range n).filter fun j=>!(listed.setIfInBounds i true).getD j true).length=f:=by
   have:=count_set n i listed Va n;rw[if_pos K,S] at this;omega
  have Wm:i<listed.size:=by rw[inv.head.size];exact(Array.getElem?_eq_some_iff.1 D).1
  have Jx:∀j,Region.waitsFor .any ops i j=true→listed.getD j false=true:=fun j C=>by
   obtain⟨o2,Wo,e,he,hb,Wn⟩:=Region.waitsFor_spec C;obtain rfl:o2=o':=Option.some.inj (Wo.symm.trans D);rw[←Wn];exact Vk e he hb
  have A:∀{φ:List NdB→NdB→List NdB→Prop},∀pre e suf,([]:List NdB)=pre ++ e::suf→φ pre e suf:=fun pre e suf h=>by simp at h
  have Vj:listed.getD i false=false:=getD_both Va;unfold wpOp;simp only[D]
  cases hndi:bL fl i with
  | false=>
   obtain⟨g,d,v,hg,hd,Wd,Yd⟩:=Vx i o' K hndi D
   have Vc:∀t∈o'.looksAt ops,b.tmps[t]? = g.tmps[t]?:=fun t ht=>by
    rw[hg t ht];by_cases B:∃j,j<n∧ay ops j=some t
    · obtain⟨j,C,p⟩:=B
      obtain⟨_,hw,Wy⟩:=Vd t ht j C p;have Vo:=Wy hndi;show _=if _ then _ else _;rw[if_pos ⟨j,C,Vo,p⟩,inv.done j t C p (Jx j hw),Vo]
      rfl
    · show _=if _ then _ else _
      rw[if_neg (fun ⟨j,C,_,p⟩=>B ⟨j,C,p⟩)];exact inv.rest t (fun j C p=>absurd ⟨j,C,p⟩ B)
   have Wz:YieldsC P ops (Grw (gJ (zW w bs)) w) o' v b:=Yd.of_same (gk (Region.noSelect_spec Vz i o' · · D) Vc) (gM Vc);have Jw:∀q∈bs,i≠q.a∧i≠q.s:=fun q c=>⟨fun e=>(by rw[e,(hq q c).2.2.2.1] at hndi;cases hndi),fun e=>(by rw[e,(hq q c).2.2.2.2.1] at hndi;cases hndi)⟩
   have U:∀X',Below X.heap.size X X'→wpAny P .any ops Q (f+(ops.size-n)) (listed.setIfInBounds i true) (b.put o'.dst v) X':=fun X' Vl=>by
    refine ih _ _ _ _ Y (inv.step I K D Vm (.inl Vl) A A (fun d2 Wh _=>by rw[hd] at Wh;rw[←Option.some.inj Wh];exact Wd) A A) ⟨fun q c F=>?_,fun q c r hr hne M L=>?_⟩
    · rw[getD_set_ne false (Jw q c).1] at F
      obtain⟨bk,H,e2,e3⟩:=hI.box q c F;rw[if_neg (fun e=>(Jw q c).1 e.symm),getD_set_ne false (Jw q c).2];exact⟨bk,H,e2,e3.below Vl⟩
    · rw[getD_set_ne false (Jw q c).1] at M
      rw[getD_set_ne false (Jw r hr).1] at L;rw[if_neg (fun e=>(Jw q c).1 e.symm),if_neg (fun e=>(Jw r hr).1 e.symm)];exact hI.ne q c r hr hne M L
   rcases Wz with ⟨hw,hv⟩ | ⟨hw,rfl⟩
   · rw[if_pos hw]
     refine .inl ?_;unfold Oper.wp;have h3:=hv X inv.below;generalize (execOp b.eval o').run P X=r at *
     cases r with
     | ok nx w'=>
      cases nx<;>simp only[Oper.quietUpon] at h3<;>simp only[Oper.upon]
      case value u=>
       obtain⟨H,e2⟩:=h3;rw[H,e2];exact U _ (Below.refl _ _)
      case skip=>
       obtain⟨H,e2⟩:=h3;rw[H,←e2];exact U _ (Below.refl _ _)
      case enter f args=>
       obtain⟨H,Vp⟩:=h3;rw[H]
       exact Vp.mono fun e Wl ⟨he,Ve⟩=>by subst he;exact U _ Ve
     | halt x w'=>simp only[Oper.quietUpon] at h3
   · rw[hw,if_neg au]
     exact U X (Below.refl _ _)
  | true=>
   have Vt:Region.wanted o' (yielded ops b.tmps)=true:=by unfold Region.wanted;rw[Wj hndi]
   rw[if_pos Vt];refine .inl ?_;unfold Oper.wp;have hm:=List.all_eq_true.1 Wc i (List.mem_range.2 K);rw[hndi,Bool.not_true,Bool.false_or,List.any_eq_true] at hm;obtain⟨q,c,h⟩:=hm;obtain⟨qa,qs,qw,Yf,Yk,qx,⟨os,ty,Vg,Yi,Jy⟩,qy⟩:=hq q c;rcases Bool.or_eq_true_iff.1 h with h | h
   · -- the box is laid
     obtain rfl:q.a=i:=al h;have B:=hA q c o' D b.eval X;rw[B];simp only[Oper.upon];have Vl:Below X.heap.size X (X.alloc (.cells q.z q.T)):=eu (Below.refl _ _) _
     have Wr:listed.getD q.s false=false:=by
      cases F:listed.getD q.s false with
      | false=>rfl
      | true=>
       exfalso
       have:=dh inv.head 4 q.s q.a os Vg (fun e2 Vu Yc=>inv.head.closed q.s os Vg F e2 Vu Yc) qw;rw[Vj] at this;cases this
     refine ih _ _ _ _ Y (inv.step I K D Vm (.inl Vl) A A (fun _ _ h=>by rw[hndi] at h;cases h) A A) ⟨fun r hr F=>?_,fun r hr t ht hne M L=>?_⟩
     · rw[getD_set_ne false (Z q c r hr)]
       rcases Jv r hr q c with rfl | E
       · rw[if_pos rfl,Wr,if_neg au]
         exact⟨_,rfl,inv.below.size,Box.new X _ _⟩
       · rw[getD_set_ne false (Ne.symm E.1)] at F
         obtain⟨bk,H,e2,e3⟩:=hI.box r hr F;rw[if_neg E.1];exact⟨bk,H,e2,e3.below Vl⟩
     · have Wb:∀r∈bs,r.a≠q.a→(listed.setIfInBounds q.a true).getD r.a false=true→vals r.a≠.pointer (some ⟨X.heap.size,0,none⟩):=fun r hr E F e=>by
        rw[getD_set_ne false (Ne.symm E)] at F;obtain⟨bk,H,e2,e3⟩:=hI.box r hr F;rw[H] at e;injection e with e;injection e with e;injection e with e;have:=e3.lt;omega
       by_cases E:r.a=q.a
       · rw[if_pos E,if_neg (fun e=>hne (E.trans e.symm))]
         exact fun e=>Wb t ht (fun e=>hne (E.trans e.symm)) L e.symm
       · rw[if_neg E]
         by_cases Vs:t.a=q.a
         · rw[if_pos Vs];exact Wb r hr E M
         · rw[if_neg Vs]
           rw[getD_set_ne false (Ne.symm E)] at M;rw[getD_set_ne false (Ne.symm Vs)] at L;exact hI.ne r hr t ht hne M L
   · -- the box is stored over
     obtain rfl:q.s=i:=al h;obtain rfl:os=o':=Option.some.inj (Vg.symm.trans D);have Vr:listed.getD q.a false=true:=dh inv.head 4 q.s q.a os Vg Vk qw;obtain⟨bk,H,e2,e3⟩:=hI.box q c Vr;rw[Vj,if_neg au] at e3
     have Wv:b.eval (.tmp q.x)=.pointer (some ⟨bk,0,none⟩):=by
      have h5:=inv.done q.a q.x qa qx Vr;rw[Yf,if_pos rfl,H] at h5;show b.tmps.getD q.x undef=_;rw[Array.getD_eq_getD_getElem?,h5];rfl
     have Yh:b.eval (.tmp q.y)=q.v:=by
      have h5:b.tmps[q.y]? = some q.v:=by
       by_cases B:∃j,j<n∧ay ops j=some q.y
       · obtain⟨j,C,p⟩:=B
         have Yg:q.y∈os.looksAt ops:=by unfold Oper.looksAt;rw[Jy];exact List.mem_append_left _ (by simp[Op.operands])
         obtain⟨_,hw,_⟩:=Vd q.y Yg j C p;rw[inv.done j q.y C p (Jx j hw),qy j C p,if_neg au];exact hy q c
       · rw[inv.rest q.y (fun j C p=>absurd ⟨j,C,p⟩ B),←Vb q.y (fun j C _ p=>B ⟨j,C,p⟩)]
         exact hy q c
      show b.tmps.getD q.y undef=_;rw[Array.getD_eq_getD_getElem?,h5];rfl
     have F:=ij (P:=P) (ρ:=b.eval) (o:=os) (ty:=ty) (X:=X) Jy Wv Yh rfl (by rw[hS q c os ty _ _ Vg Jy];simp) e3 (hz q c).2 (by simp[(hz q c).1])
     have U:∀u X',Kp (fun k=>k=bk) 0 X X'→IsBox bk q.T q.v.cells.toList.toArray u X'→∀u2,wpAny P .any ops Q (f+(ops.size-n)) (listed.setIfInBounds q.s true) (b.put os.dst u2) X':=fun u X' hK hb u2=>by
      have hE:xX (zW w bs) q.s X X':=.inr ⟨_,List.mem_map.2 ⟨q,c,rfl⟩,rfl,hK.1.weaken (fun k o e=>by rw[show k=bk from e];exact e2),trivial⟩
      have Ww:Box X' bk q.v.cells q.T:=by simpa [IsBox] using hb
      refine ih _ _ _ _ Y (inv.step (v:=u2) I K D Vm hE A A (fun _ _ h=>by rw[hndi] at h;cases h) A A) ⟨fun r hr F=>?_,fun r hr t ht hne M L=>?_⟩
      · rw[getD_set_ne false (Ne.symm (Z r hr q c))] at F
        rw[if_neg (Z r hr q c)];rcases Jv r hr q c with rfl | E
        · rw[di Wm,if_pos rfl]
          exact⟨bk,H,e2,Ww⟩
        · obtain⟨bj,k1,k2,k3⟩:=hI.box r hr F
          rw[getD_set_ne false (Ne.symm E.2)];refine⟨bj,k1,k2,(hK.1.block bj k3.lt fun e=>?_).trans k3⟩;have e':bj=bk:=e;exact hI.ne r hr q c E.1 F Vr (by rw[k1,H,e'])
      · rw[getD_set_ne false (Ne.symm (Z r hr q c))] at M
        rw[getD_set_ne false (Ne.symm (Z t ht q c))] at L;rw[if_neg (Z r hr q c),if_neg (Z t ht q c)];exact hI.ne r hr t ht hne M L
     generalize (execOp b.eval os).run P X=r at *
     cases r with
     | halt e X'=>simp only[dE] at F
     | ok nx X'=>
      cases nx<;>simp only[dE] at F<;>simp only[Oper.upon]
      case value u=>exact U _ _ F.1 F.2 _
      case skip=>exact U _ _ F.1 F.2 _
      case enter f args=>
       obtain⟨H,Vp⟩:=F;rw[H]
       exact Vp.mono fun e Wl ⟨v,he,Ve,hR⟩=>by subst he;exact U _ _ Ve hR _
def HJ (P:Program) (ops:Array Oper) (Q:Exit→Act→World→Prop) (w:World) (tail:List Oper) (s y:Nat) (m v:Tmp) (j:TypeId) (p:Array Value) (a2 u:Nat) (r x:Tmp) (k:TypeId) (q:Array Value) (g:Act):Prop:=
 ∃c e,g.tmps[v]? = some c∧g.tmps[x]? = some e ∧
  (∀o,ops[s]? = some o→∀ρ X,(execOp ρ o).run P X=.ok (.value (.pointer (some ⟨X.heap.size,0,none⟩))) (X.alloc (.cells p j))) ∧
  (∀o,ops[a2]? = some o→∀ρ X,(execOp ρ o).run P X=.ok (.value (.pointer (some ⟨X.heap.size,0,none⟩))) (X.alloc (.cells q k))) ∧
  (∀o ty i h,ops[y]? = some o→o.op=.store ty i h→(P.info? ty).map (·.size)=some c.cells.size)∧(∀o ty i h,ops[u]? = some o→o.op=.store ty i h→(P.info? ty).map (·.size)=some e.cells.size) ∧
  (c.cells.size=p.size∧c.cells.toList.all (·.oneCell')=true)∧(e.cells.size=q.size∧e.cells.toList.all (·.oneCell')=true) ∧
  ∀(b:Act) X (b1 f:Nat),b.tmps.size=g.tmps.size→b.defers=g.defers→(∀t,m≠t→r≠t→b.tmps[t]? = g.tmps[t]?)→b.tmps[m]? = some (.pointer (some ⟨b1,0,none⟩))→b.tmps[r]? = some (.pointer (some ⟨f,0,none⟩))→w.heap.size≤b1→w.heap.size≤f→b1≠f →
   Box X b1 c.cells j→Box X f e.cells k→Below w.heap.size w X→wpList P ops Q tail b X
theorem Ez {id N:Nat} {a:Act} {w:World} {l:List Oper} {sl:List (Nat × Value)} (ha:Has ds a N sl) (y D:Nat) (M U:Tmp) (J:TypeId) (z1:Array Value) (a2 A:Nat) (R W:Tmp) (T:TypeId) (z2:Array Value) (fl:List Bool) (hm:P.follows .mixedOrders=true)
 (h:dN P l.toArray (Below w.heap.size w) (fun g=>HJ P l.toArray Q w (l.drop fl.length) y D M U J z1 a2 A R W T z2 g) (pick fl l) a)
 (hB:Cu l.toArray fl fl.length N [⟨y,D,M,U,J,#[],undef⟩,⟨a2,A,R,W,T,#[],undef⟩]=true) (hne:(!(y==a2)&&!(D==A))=true):(Code.region id l.toArray true).wp P Q a w:=by
 obtain⟨afin,h1,h2⟩:=gD _ _ h;obtain⟨v1,v2,Vi,Vl,Vn,Vj,Vp,Vd,Vf,Vh,hk⟩:=h2;obtain⟨Vc,Vo⟩:=Bool.and_eq_true_iff.1 hne;have F:y≠a2:=al Vc;have Jw:D≠A:=al Vo;have Z:Cu l.toArray fl fl.length N [⟨y,D,M,U,J,z1,v1⟩,⟨a2,A,R,W,T,z2,v2⟩]=true:=hB;have S:=Z;unfold Cu at S;rw[Bool.and_eq_true,Bool.and_eq_true,Bool.and_eq_true,Bool.and_eq_true,Bool.and_eq_true,Bool.and_eq_true,decide_eq_true_eq] at S;obtain⟨⟨⟨⟨⟨⟨Vs,Jv⟩,Vr⟩,hh⟩,_⟩,Ve⟩,Vg⟩:=S
 have Va:fl.length≤l.toArray.size:=by
  rcases ml Jv with h | h
  · exact Nat.le_of_eq h
  · exact Nat.le_of_lt h.1
 have Vk:l.toArray.size=l.length:=by simp
 generalize c:[(⟨y,D,M,U,J,z1,v1⟩:BxD),⟨a2,A,R,W,T,z2,v2⟩]=bs at Z Ve Vg;have K:=iF (P:=P) (ops:=l.toArray) (L:=fun a'=>a'=afin) (fun X hX=>Dj (bs:=bs) (w:=w) hX) (pick fl l) a h1;have I:=gG _ _ K
 have H:∀t,(∀j,j<fl.length→bL fl j=false→ay l.toArray j≠some t)→afin.tmps[t]? = a.tmps[t]?:=fun t ht=>by
  refine(fa _ _ ?_ K).1.symm
  have Vq:∀(Y:List Bool) (z:List Oper) (i:Nat),i+Y.length=fl.length→(∀j,Y[j]? = fl[i+j]?)→(∀j,z[j]? = l.toArray[i+j]?)→∀o∈pick Y z,o.dst≠some t:=by
   intro Y
   induction Y with
   | nil=>intro z i _ _ _ o m;cases z<;>simp[pick] at m
   | cons b Y ih=>
    intro z i u Vb Jx o m
    cases z with
    | nil=>cases b<;>simp[pick] at m
    | cons x z=>
     have hx:l.toArray[i]? = some x:=by have:=Jx 0;rw[Nat.add_zero] at this;rw[←this];rfl
     have hb:bL fl i=b:=by have:=Vb 0;rw[Nat.add_zero] at this;unfold bL;rw[←this];rfl
     have G:∀j,Y[j]? = fl[i+1+j]?:=fun j=>by have:=Vb (j+1);rw[show i+1+j=i+(j+1) by omega,←this];rfl
     have E:∀j,z[j]? = l.toArray[i+1+j]?:=fun j=>by have:=Jx (j+1);rw[show i+1+j=i+(j+1) by omega,←this];rfl
     cases b with
     | true=>exact ih z (i+1) (by simp at u;omega) G E o m
     | false=>
      rcases List.mem_cons.1 m with rfl | m
      · intro e
        exact ht i (by simp at u;omega) hb (by unfold ay;rw[hx];exact e)
      · exact ih z (i+1) (by simp at u;omega) G E o m
  exact Vq fl l 0 ab (fun j=>by rw[Nat.zero_add]) (fun j=>by rw[Nat.zero_add];simp)
 have Jy:=iX (P:=P) (C:=Grw (gJ (zW w bs)) w) (afin:=afin) hh ha.size.symm rfl Va (fun t=>if (∃j,j<fl.length∧bL fl j=false∧ay l.toArray j=some t) then afin.tmps[t]? else a.tmps[t]?)
  (fun j t B v V=>if_pos ⟨j,B,v,V⟩) (fun t ht=>if_neg (fun ⟨j,B,v,V⟩=>ht j B v V))
  fl l 0 a ab (fun j=>by rw[Nat.zero_add]) (fun j=>by rw[Nat.zero_add];simp) rfl (fun t ⟨j,B,_⟩=>absurd B (Nat.not_lt_zero _)) (fun t _=>rfl) K
 have f:∀q∈bs,q=⟨y,D,M,U,J,z1,v1⟩∨q=⟨a2,A,R,W,T,z2,v2⟩:=fun q s=>by rw[←c] at s;simpa using s
 refine wp_region_any hm ?_
 have:=EX (P:=P) (w:=w) (Q:=Q) (tail:=l.drop fl.length) (a:=a) (afin:=afin) (bs:=bs) Z ha.size.symm (fun j=>by rw[List.getElem?_drop,List.getElem?_toArray]) (by rw[List.length_drop,Vk]) I H
  (fun j o B v m=>Jy j o (Nat.zero_le _) B v m) (by rw[←c];simp[F,Jw])
  (fun q s o m ρ X=>by rcases f q s with rfl | rfl;exact Vn o m ρ X;exact Vj o m ρ X) (fun q s o ty x' y' m Jz=>by rcases f q s with rfl | rfl;exact Vp o ty x' y' m Jz;exact Vd o ty x' y' m Jz)
  (fun q s=>by rcases f q s with rfl | rfl;exact Vf;exact Vh) (fun q s=>by rcases f q s with rfl | rfl;exact Vi;exact Vl)
  (fun b X bl e1 e2 e3 e4 e5 e6=>by
   obtain⟨k1,k2,k3⟩:=e4 ⟨y,D,M,U,J,z1,v1⟩ (by rw[←c];simp);obtain⟨m1,m2,m3⟩:=e4 ⟨a2,A,R,W,T,z2,v2⟩ (by rw[←c];simp)
   exact hk b X (bl y) (bl a2) e1 e2 (fun t h1 h2=>e3 t (fun q s=>by rcases f q s with rfl | rfl;exact h1;exact h2)) k1 m1 k2 m2 (e5 ⟨y,D,M,U,J,z1,v1⟩ (by rw[←c];simp) ⟨a2,A,R,W,T,z2,v2⟩ (by rw[←c];simp) F) k3 m3 e6)
  fl.length (Array.replicate l.toArray.size false) a { w with drawn:=w.drawn+1 } (fun _=>undef)
  (by
   rw[List.filter_eq_self.2 (fun j B=>by
    have Vm:j<l.toArray.size:=by have:=List.mem_range.1 B;omega
    rw[getD_in (by rw[Array.size_replicate];exact Vm) (getD_replicate_false _ _)];rfl)]
   simp)
  ⟨(Grw.refl _ w).drew,⟨by simp,fun j oj _ p=>(by rw[getD_replicate_false] at p;cases p),fun t _ ht=>getD_in (al ht) (getD_replicate_false _ _)⟩,rfl,rfl,
   fun i d _ _ p=>(by rw[getD_replicate_false] at p;cases p),fun t _=>rfl,fun pre d suf _ p=>(by rw[getD_replicate_false] at p;cases p),fun k _=>(Grw.refl _ w).drew,fun _=>(Grw.refl _ w).drew⟩
  ⟨fun q _ p=>(by rw[getD_replicate_false] at p;cases p),fun q _ r _ _ p=>(by rw[getD_replicate_false] at p;cases p)⟩
 rw[show fl.length+(l.toArray.size-fl.length)=l.toArray.size by omega] at this;exact this
theorem GG {M:List Nat} {w0:World} {L:List Ent} {N a1 s1 a2 s2:Nat} {z y1 D y2:Tmp} {u C:TypeId} {z1 z2:Array Value} {g:Act} {A:List (Nat × Value)} {j m:Value} {o1 o2 o3 o4:Oper} {B p:TypeId} {x3 y3 x4 y4:Operand} (q:Has ds g N A) (hS:St M w0 w L)
 (W:look A y1=some j) (E:look A y2=some m) (F:ops[a1]? = some o1) (T:ops[a2]? = some o2) (I:ops[s1]? = some o3) (Z:ops[s2]? = some o4) (J:o3.op=.store B x3 y3) (U:o4.op=.store p x4 y4)
 (R:∀ρ X,(execOp ρ o1).run P X=.ok (.value (.pointer (some ⟨X.heap.size,0,none⟩))) (X.alloc (.cells z1 u))) (Y:∀ρ X,(execOp ρ o2).run P X=.ok (.value (.pointer (some ⟨X.heap.size,0,none⟩))) (X.alloc (.cells z2 C)))
 (G:(P.info? B).map (·.size)=some j.cells.size) (K:(P.info? p).map (·.size)=some m.cells.size) (H:j.cells.size=z1.size∧j.cells.toList.all (·.oneCell')=true) (S:m.cells.size=z2.size∧m.cells.toList.all (·.oneCell')=true)
 (k:∀b1 s a' X,Has ds a' N ((D,.pointer (some ⟨s,0,none⟩))::(z,.pointer (some ⟨b1,0,none⟩))::A)→St M w0 X (.box s m.cells C::.box b1 j.cells u::L)→wpList P ops Q tail a' X):HJ P ops Q w tail a1 s1 z y1 u z1 a2 s2 D y2 C z2 g:=by
 refine⟨j,m,q.slot _ _ W,q.slot _ _ E,fun o c ρ X=>?_,fun o c ρ X=>?_,fun o ty x' y' c y=>?_,fun o ty x' y' c y=>?_,H,S,fun b X b1 s e1 e2 e3 e4 e5 e6 e7 e8 e9 r V=>?_⟩
 · rw[F] at c;cases c;exact R ρ X
 · rw[T] at c;cases c;exact Y ρ X
 · rw[I] at c;cases c
   rw[J] at y;injection y with x _ _;rw[←x];exact G
 · rw[Z] at c;cases c
   rw[U] at y;injection y with x _ _;rw[←x];exact K
 · refine k b1 s b X ⟨e2.trans q.defers,e1.trans q.size,fun t v f=>?_⟩ ?_
   · unfold look at f
     cases i:Nat.beq D t with
     | true=>
      rw[i] at f;have e:D=t:=Nat.eq_of_beq_eq_true i;rw[←e,e5];exact f
     | false=>
      rw[i] at f;replace f:look ((z,Value.pointer (some ⟨b1,0,none⟩))::A) t=some v:=f;unfold look at f
      cases hb1:Nat.beq z t with
      | true=>
       rw[hb1] at f;have e:z=t:=Nat.eq_of_beq_eq_true hb1;rw[←e,e4];exact f
      | false=>
       rw[hb1] at f;rw[e3 t (Nat.ne_of_beq_eq_false hb1) (Nat.ne_of_beq_eq_false i)];exact q.slot t v f
   · have x:St M w0 X (.box b1 j.cells u::L):=hS.add V (e:=.box b1 j.cells u) e9 (fun b i=>by cases i;exact⟨e6,Box.lt e9⟩)
     exact St.add2 hS x (e2:=.box s m.cells C) r (fun b i=>by cases i;exact⟨e7,Box.lt r⟩) (fun b i h=>e8 (h.symm.trans i))
end
theorem St.pull' {M:List Nat} {w X:World} {L:List Ent} (h:St M w X L) (i:Nat) {e:Ent} (p:L[i]? = some e):St M w X (e::L.eraseIdx i):=by
 obtain⟨c,rfl⟩:=List.getElem?_eq_some_iff.1 p
 have e:L=L.take i ++ L[i]::L.drop (i+1):=by rw[←List.drop_eq_getElem_cons c,List.take_append_drop]
 have k:List.Perm L (L[i]::L.eraseIdx i):=by
  rw[List.eraseIdx_eq_take_drop_succ]
  conv=>lhs;rw[e]
  exact List.perm_middle
 exact⟨h.os,h.tape,h.output,h.size,h.block,fun f hf=>h.ok f (k.mem_iff.2 hf),fun f hf=>h.new f (k.mem_iff.2 hf),(k.pairwise_iff (fun {x y} m b q j=>m b j q)).1 h.sep⟩
theorem St.rowTo {M:List Nat} {w X:World} {L:List Ent} {i n f sz c:Nat} {A:Option Addr} {T:TypeId} {xs b:List Value} (h:St M w X L) (m:L[i]? = some (.row (.slice A n c) n T sz xs)) (p:n=f) (e:xs=b):St M w X (L.set i (.row (.slice A f c) f T sz b)):=by
 subst p e
 have:L.set i (.row (.slice A n c) n T sz xs)=L:=by
  apply List.ext_getElem?;intro j;rw[List.getElem?_set]
  split
  · rename_i k;subst k
    split
    · exact m.symm
    · rename_i q;rw[List.getElem?_eq_none ab]
  · rfl
 rw[this];exact h
section
variable {P:Program} {ρ:Operand→Value} {X:World} {d:Option Tmp} {ty:TypeId} {ps:String} {af:Array Edge} {g:Option (Nat × Bool)}
end
theorem C0 {α:Type} {f:α→List Value} {n:Nat} (hf:∀x,(f x).length=n) (l:List α) {k q:Nat} (b:k<l.length) (m:q<n) (y:α) (v:Value) (h:f y=(f l[k]).take q ++ [v] ++ (f l[k]).drop (q+1)) :
 (l.set k y).flatMap f=(l.flatMap f).take (k*n+q) ++ [v] ++ (l.flatMap f).drop (k*n+q+1):=by
 have c:∀l:List α,(l.flatMap f).length=l.length*n:=by
  intro l
  induction l with
  | nil=>simp
  | cons x l ih=>rw[List.flatMap_cons,List.length_append,hf,ih,List.length_cons,Nat.add_mul];omega
 have e0:l=l.take k ++ l[k]::l.drop (k+1):=by rw[←List.drop_eq_getElem_cons b,List.take_append_drop]
 have e:l.set k y=l.take k ++ y::l.drop (k+1):=List.set_eq_take_append_cons_drop.trans (if_pos b)
 have i:((l.take k).flatMap f).length=k*n:=by rw[c,List.length_take];congr 1;omega
 have j:l.flatMap f=(l.take k).flatMap f ++ (f l[k] ++ (l.drop (k+1)).flatMap f):=by
  conv=>lhs;rw[e0]
  rw[List.flatMap_append,List.flatMap_cons]
 rw[e,List.flatMap_append,List.flatMap_cons,h,j,List.take_append,List.drop_append,i,List.take_of_length_le (l:=(l.take k).flatMap f) ab,List.drop_of_length_le (l:=(l.take k).flatMap f) ab,show k*n+q-k*n=q by omega,show k*n+q+1-k*n=q+1 by omega,
  List.take_append_of_le_length (by rw[hf];omega),List.drop_append_of_le_length (by rw[hf];omega)]
 simp only[List.append_assoc,List.nil_append]
open Go.RowKit Go.Sort
variable {ds:List Deferred}
section
variable {P:Program} {ops:Array Oper} {Q:Exit→Act→World→Prop} {w:World}
theorem xx {j:Nat} {t:Tmp} (h:ay ops j=some t):j<ops.size:=by
 unfold ay at h;rcases Nat.lt_or_ge j ops.size with h' | h'
 · exact h'
 · rw[Array.getElem?_eq_none h'] at h;cases h
def ug (ops:Array Oper) (c N:Nat):Bool:=
 Region.noSelect ops&&decide (c<ops.size)&&Region.sinkB .any ops c&&vF ops (List.replicate c false) c N &&
 (match ops[c]? with | some o=>o.guard.isNone&&o.after.all (fun e=>!Region.binds .any e||decide (e.on<c)) | none=>false) &&
 (List.range ops.size).all fun i=>decide (i≤c)||(match ops[i]? with
  | none=>false
  | some o=>(match o.dst with | some d=>decide (d<N)&&((List.range ops.size).all fun j=>j==i||decide (j≤c)||ay ops j != some d) | none=>false) &&
   o.after.any (fun e=>Region.binds .any e&&decide (c≤e.on)&&decide (e.on<i))&&o.after.all (fun e=>!Region.binds .any e||decide (e.on<i)) &&
   (o.looksAt ops).all (fun t=>(List.range ops.size).all fun j=>decide (j≤c)||ay ops j != some t||(decide (j<i)&&Region.waitsFor .any ops i j)))
structure PostInv (ops:Array Oper) (c:Nat) (a2 afin:Act) (X2:World) (listed:Array Bool) (b:Act) (X:World):Prop where
 below:Below X2.heap.size X2 X
 lsz:listed.size=ops.size
 pre:∀i,i≤c→listed.getD i false=true
 size:b.tmps.size=a2.tmps.size
 defers:b.defers=a2.defers
 done:∀i d,c<i→ay ops i=some d→listed.getD i false=true→b.tmps[d]? = afin.tmps[d]?
 rest:∀t,(∀i,c<i→ay ops i=some t→listed.getD i true=false)→b.tmps[t]? = a2.tmps[t]?
structure PostC (ops:Array Oper) (c i N:Nat) (o:Oper):Prop where
 dst:∃d,o.dst=some d∧d<N∧∀j,c<j→j<ops.size→j≠i→ay ops j≠some d
 wait:∃e∈o.after,Region.binds .any e=true∧c≤e.on∧e.on<i
 after:∀e∈o.after,Region.binds .any e=true→e.on<i
 look:∀t∈o.looksAt ops,∀j,c<j→j<ops.size→ay ops j=some t→j<i∧Region.waitsFor .any ops i j=true
theorem mO {c N:Nat} (h:ug ops c N=true) {i:Nat} {o:Oper} (z:c<i) (s:ops[i]? = some o):PostC ops c i N o:=by
 unfold ug at h;rw[Bool.and_eq_true] at h;have r:i<ops.size:=(Array.getElem?_eq_some_iff.1 s).1;have k:=List.all_eq_true.1 h.2 i (List.mem_range.2 r);rw[Bool.or_eq_true,decide_eq_true_eq] at k;replace k:=k.resolve_left ab;rw[s] at k;simp only[Bool.and_eq_true] at k;obtain⟨⟨⟨m,h3⟩,u⟩,x⟩:=k;refine⟨?_,?_,fun e p f=>?_,fun t ht j v b q=>?_⟩
 · cases hd:o.dst with
   | none=>rw[hd] at m;cases m
   | some d=>
    rw[hd] at m;simp only[Bool.and_eq_true,decide_eq_true_eq] at m;refine⟨d,rfl,m.1,fun j v b y e=>?_⟩;have:=List.all_eq_true.1 m.2 j (List.mem_range.2 b);rw[e] at this;simp only[bne_self_eq_false,Bool.or_false,Bool.or_eq_true,beq_iff_eq,decide_eq_true_eq] at this;omega
 · obtain⟨e,p,f⟩:=Array.any_eq_true'.1 h3
   simp only[Bool.and_eq_true,decide_eq_true_eq] at f;exact⟨e,p,f.1.1,f.1.2,f.2⟩
 · have:=Array.all_eq_true_iff_forall_mem.1 u e p
   simpa [f] using this
 · have:=List.all_eq_true.1 (List.all_eq_true.1 x t ht) j (List.mem_range.2 b)
   rw[q] at this;simp only[bne_self_eq_false,Bool.or_false,Bool.or_eq_true,Bool.and_eq_true,decide_eq_true_eq] at this;exact this.resolve_left ab
theorem wt {c N:Nat} {a2 afin:Act} {C:World→Prop} (hB:ug ops c N=true) (G:N=a2.tmps.size) :
 ∀(l:List Oper) (i:Nat) (g:Act),c<i→(∀j,l[j]? = ops[i+j]?)→g.tmps.size=a2.tmps.size→(∀j t,c<j→j<i→ay ops j=some t→g.tmps[t]? = afin.tmps[t]?)→(∀t,(∀j,c<j→j<i→ay ops j≠some t)→g.tmps[t]? = a2.tmps[t]?) →
  dN P ops C (fun a'=>a'=afin) l g→∀j o,i≤j→ops[j]? = some o→wT P ops C (fun t=>if (∃j,j<ops.size∧c<j∧ay ops j=some t) then afin.tmps[t]? else a2.tmps[t]?) afin o
 | [],i,g,hci,hl,hsz,h1,h2,h,j,o,hij,hj=>by
  have:=hl (j-i);rw[show i+(j-i)=j by omega,hj] at this;simp at this
 | o0::l,i,g,hci,hl,hsz,h1,h2,h,j,o,hij,hj=>by
  have p:ops[i]? = some o0:=by have:=hl 0;rw[Nat.add_zero] at this;rw[←this];rfl
  have U:i<ops.size:=(Array.getElem?_eq_some_iff.1 p).1;have T:=mO hB hci p;obtain⟨d,y,A,S⟩:=T.dst
  have E:ay ops i=some d:=by unfold ay;rw[p];exact y
  have B:∀j,l[j]? = ops[i+1+j]?:=fun j=>by have:=hl (j+1);rw[show i+1+j=i+(j+1) by omega,←this];rfl
  have q:∀t∈o0.looksAt ops,g.tmps[t]? = (fun t=>if (∃j,j<ops.size∧c<j∧ay ops j=some t) then afin.tmps[t]? else a2.tmps[t]?) t:=fun t ht=>by
   show _=if _ then _ else _;by_cases s:∃j,j<ops.size∧c<j∧ay ops j=some t
   · rw[if_pos s]
     obtain⟨r,u,b,D⟩:=s;obtain⟨H,_⟩:=T.look t ht r b u D;exact h1 r t b H D
   · rw[if_neg s]
     exact h2 t fun r b u e=>s ⟨r,by omega,b,e⟩
  have z:∀o'∈l,o'.dst≠some d:=fun o' K e=>by
   obtain⟨k,V,rfl⟩:=List.getElem_of_mem K;have h3:=B k;rw[List.getElem?_eq_getElem V] at h3;exact S (i+1+k) ab (Array.getElem?_eq_some_iff.1 h3.symm).1 ab (by unfold ay;rw[←h3];exact e)
  have step:∀v,dN P ops C (fun a'=>a'=afin) l (g.put o0.dst v)→afin.tmps[d]? = some v∧∀j o,i+1≤j→ops[j]? = some o→wT P ops C (fun t=>if (∃j,j<ops.size∧c<j∧ay ops j=some t) then afin.tmps[t]? else a2.tmps[t]?) afin o:=fun v R=>by
   have x:afin.tmps[d]? = some v:=by
    rw[←(fa _ _ z R).1,y];exact put_eq (by rw[hsz,←G];exact A) v
   refine⟨x,wt hB G l (i+1) (g.put o0.dst v) ab B (by rw[dR];exact hsz) (fun r t b u m=>?_) (fun t ht=>?_) R⟩
   · by_cases f:r=i
     · subst f
       rw[E] at m;injection m with m;subst m;rw[y,put_eq (by rw[hsz,←G];exact A) v,x]
     · have hne:d≠t:=fun e=>S r b ab f (by rw[m,e])
       rw[fu (by rw[y];intro e;exact hne (Option.some.inj e)) v];exact h1 r t b ab m
   · have hne:d≠t:=fun e=>ht i hci ab (by rw[E,e])
     rw[fu (by rw[y];intro e;exact hne (Option.some.inj e)) v];exact h2 t fun r b u=>ht r b ab
  unfold dN at h;by_cases F:Region.wanted o0 (yielded ops g.tmps)=true
  · rw[if_pos F] at h
    obtain⟨v,J,L⟩:=h;obtain⟨M,I⟩:=step v L;by_cases f:j=i
    · subst f
      obtain rfl:o0=o:=Option.some.inj (p.symm.trans hj);exact⟨g,d,v,q,y,M,.inl ⟨F,J⟩⟩
    · exact I j o ab hj
  · rw[if_neg F] at h
    obtain⟨M,I⟩:=step undef h;by_cases f:j=i
    · subst f
      obtain rfl:o0=o:=Option.some.inj (p.symm.trans hj);exact⟨g,d,undef,q,y,M,.inr ⟨al F,rfl⟩⟩
    · exact I j o ab hj
theorem Bz {c N:Nat} {a2 afin:Act} {X2:World} (hB:ug ops c N=true) (hN:N=a2.tmps.size) (J:dN P ops (Below X2.heap.size X2) (fun a'=>a'=afin) (ops.toList.drop (c+1)) a2)
 (hQ:∀X,Below X2.heap.size X2 X→Q .normal afin X) :
 ∀(f:Nat) (listed:Array Bool) (b:Act) (X:World),((List.range ops.size).filter fun j=>!listed.getD j true).length=f→PostInv ops c a2 afin X2 listed b X→wpAny P .any ops Q f listed b X:=by
 have T:∀j,(ops.toList.drop (c+1))[j]? = ops[c+1+j]?:=fun j=>by rw[List.getElem?_drop];simp
 have Z:=wt (C:=Below X2.heap.size X2) hB hN (ops.toList.drop (c+1)) (c+1) a2 ab T rfl (fun j t M h2=>by omega) (fun t _=>rfl) J;obtain⟨Vk,Jw⟩:=gG _ _ J
 have F:Region.noSelect ops=true:=by unfold ug at hB;simp only[Bool.and_eq_true] at hB;exact hB.1.1.1.1.1
 have I:∀t,(∀j,c<j→j<ops.size→ay ops j≠some t)→afin.tmps[t]? = a2.tmps[t]?:=fun t ht=>(fa _ _ (fun o' Vc e=>by
  obtain⟨k,hk,rfl⟩:=List.getElem_of_mem Vc;have h3:=T k;rw[List.getElem?_eq_getElem hk] at h3
  exact ht (c+1+k) ab (Array.getElem?_eq_some_iff.1 h3.symm).1 (by unfold ay;rw[←h3];exact e)) J).1.symm
 refine sP (PostInv ops c a2 afin X2) (fun listed b X i inv hi=>?_) (fun listed b X inv h0=>?_) (fun listed b X inv=>inv.lsz)
 · obtain⟨Va,o,B,L⟩:=mem_ready.1 hi
   have s:c<i:=by
    rcases Nat.lt_or_ge c i with h | h
    · exact h
    · have:=inv.pre i h
      rw[getD_both Va] at this;cases this
   have y:i<ops.size:=(Array.getElem?_eq_some_iff.1 B).1;have hp:=mO hB s B;obtain⟨g,d,v,hg,W,U,hy⟩:=Z i o ab B
   have D:∀j,Region.waitsFor .any ops i j=true→listed.getD j false=true:=fun j H=>by
    obtain⟨o2,Jz,e,R,S,Jy⟩:=Region.waitsFor_spec H;obtain rfl:o2=o:=Option.some.inj (Jz.symm.trans B);rw[←Jy];exact L e R S
   have z:∀t∈o.looksAt ops,b.tmps[t]? = g.tmps[t]?:=fun t ht=>by
    rw[hg t ht];show _=if _ then _ else _;by_cases p:∃j,j<ops.size∧c<j∧ay ops j=some t
    · rw[if_pos p]
      obtain⟨j,Vf,E,A⟩:=p;exact inv.done j t E A (D j (hp.look t ht j E Vf A).2)
    · rw[if_neg p]
      refine inv.rest t fun j E A=>?_;exact absurd ⟨j,xx A,E,A⟩ p
   have Ve:YieldsC P ops (Below X2.heap.size X2) o v b:=hy.of_same (gk (Region.noSelect_spec F i o · · B) z) (gM z);obtain⟨d',Vb,Jx,hu⟩:=hp.dst;obtain rfl:d'=d:=Option.some.inj (Vb.symm.trans W)
   have K:ay ops i=some d':=by unfold ay;rw[B];exact W
   have Vi:i<listed.size:=by rw[inv.lsz];exact y
   have G:∀X',Below X.heap.size X X'→PostInv ops c a2 afin X2 (listed.setIfInBounds i true) (b.put o.dst v) X':=fun X' Vh=>by
    refine⟨dW inv.below Vh,by rw[Array.size_setIfInBounds];exact inv.lsz,fun j H=>by rw[getD_set_ne false ab];exact inv.pre j H,by rw[dR];exact inv.size,by rw[put_defers];exact inv.defers,fun j t H m hl=>?_,fun t ht=>?_⟩
    · by_cases q:j=i
      · subst q
        rw[K] at m;injection m with m;subst m;rw[W,put_eq (by rw[inv.size,←hN];exact Jx) v,U]
      · rw[getD_set_ne false (Ne.symm q)] at hl
        have Vg:j<ops.size:=by
         unfold ay at m;rcases Nat.lt_or_ge j ops.size with h | h
         · exact h
         · rw[Array.getElem?_eq_none h] at m;cases m
        have hne:d'≠t:=fun e=>hu j H Vg q (by rw[m,e]);rw[fu (by rw[W];intro e;exact hne (Option.some.inj e)) v];exact inv.done j t H m hl
    · have hne:d'≠t:=fun e=>by
       have:=ht i s (by rw[K,e]);rw[di Vi] at this;cases this
      rw[fu (by rw[W];intro e;exact hne (Option.some.inj e)) v];refine inv.rest t fun j H m=>?_;have h4:=ht j H m;by_cases q:i=j
      · subst q;rw[K] at m;exact absurd (Option.some.inj m) hne
      · rw[getD_set_ne true q] at h4;exact h4
   unfold wpOp;simp only[B];rcases Ve with ⟨hw,hv⟩ | ⟨hw,rfl⟩
   · rw[if_pos hw]
     refine .inl ?_;unfold Oper.wp;have h3:=hv X inv.below;generalize (execOp b.eval o).run P X=r at *
     cases r with
     | ok nx w'=>
      cases nx<;>simp only[Oper.quietUpon] at h3<;>simp only[Oper.upon]
      case value u=>
       obtain⟨e1,e2⟩:=h3;rw[e1,e2];exact G _ (Below.refl _ _)
      case skip=>
       obtain⟨e1,e2⟩:=h3;rw[e1,←e2];exact G _ (Below.refl _ _)
      case enter f args=>
       obtain⟨e1,Vd⟩:=h3;rw[e1]
       exact Vd.mono fun e Vj ⟨R,Jv⟩=>by subst R;exact G _ Jv
     | halt x w'=>simp only[Oper.quietUpon] at h3
   · rw[hw,if_neg au]
     exact G X (Below.refl _ _)
 · -- nothing is left
   have V:∀i,i<ops.size→listed.getD i false=true:=by
    intro i
    induction i using Nat.strongRecOn with
    | _ i ih=>
     intro y;rcases Nat.lt_or_ge c i with s | s
     · have B:ops[i]? = some (ops[i]'y):=Array.getElem?_eq_getElem y
       have hp:=mO hB s B
       cases hl:listed.getD i false with
       | true=>rfl
       | false=>
        have hr:i∈Region.ready .any ops listed:=mem_ready.2 ⟨getD_in (by rw[inv.lsz];exact y) hl,_,B,fun e R S=>ih e.on (hp.after e R S) (by have:=hp.after e R S;omega)⟩;rw[h0] at hr;cases hr
     · exact inv.pre i s
   have S:b=afin:=by
    have ht:b.tmps=afin.tmps:=by
     apply Array.ext_getElem?;intro t;by_cases p:∃j,j<ops.size∧c<j∧ay ops j=some t
     · obtain⟨j,h2,M,h3⟩:=p
       exact inv.done j t M h3 (V j h2)
     · rw[I t fun j M h2 h3=>p ⟨j,h2,M,h3⟩]
       exact inv.rest t fun j M h3=>absurd ⟨j,xx h3,M,h3⟩ p
    have Y:b.defers=afin.defers:=inv.defers.trans Jw.symm
    cases b with
    | mk bt bd=>cases afin with
     | mk pt pd=>simp at ht Y;rw[ht,Y]
   rw[S];exact hQ X inv.below
theorem Fl {c N:Nat} {a afin:Act} (hB:ug ops c N=true) (hN:N=a.tmps.size)
 (Va:afin.tmps.size=a.tmps.size∧afin.defers=a.defers) (Jz:∀t,(∀j,j<c→bL (List.replicate c false) j=false→ay ops j≠some t)→afin.tmps[t]? = a.tmps[t]?)
 (Vr:∀j o,j<c→bL (List.replicate c false) j=false→ops[j]? = some o→wT P ops (Grw (gJ []) w) (fun t=>if (∃j,j<c∧bL (List.replicate c false) j=false∧ay ops j=some t) then afin.tmps[t]? else a.tmps[t]?) afin o)
 (Vf:∀o X,ops[c]? = some o→Below w.heap.size w X→o.wp P afin X (fun a2 X2=>a2.tmps.size=N∧dN P ops (Below X2.heap.size X2) (fun a3=>∀X3,Below X2.heap.size X2 X3→Q .normal a3 X3) (ops.toList.drop (c+1)) a2) Q∨(o.asks P afin X∧LetsOut Q)) :
 ∀(f:Nat) (listed:Array Bool) (b:Act) (X:World) (vals:Nat→Value),((List.range c).filter fun j=>!listed.getD j true).length=f→FlowInvK ops [] w (List.replicate c false) c [] a afin listed b X vals→wpAny P .any ops Q (f+(ops.size-c)) listed b X:=by
 have Vo:=hB;unfold ug at hB;simp only[Bool.and_eq_true,decide_eq_true_eq] at hB;obtain⟨⟨⟨⟨⟨Vu,Vw⟩,Vh⟩,hh⟩,K⟩,_⟩:=hB
 have Jv:∀j,bL (List.replicate c false) j=false:=fun j=>by
  unfold bL;rcases Nat.lt_or_ge j c with h | h
  · rw[List.getElem?_replicate,if_pos h];rfl
  · rw[List.getElem?_eq_none (by rw[List.length_replicate];exact h)];rfl
 have Jy:∀i,i<c→∃o,ops[i]? = some o∧(∀d,o.dst=some d→d<a.tmps.size∧(∀j,j<c→j≠i→ay ops j≠some d))∧(∀e∈o.after,Region.binds .any e=true→e.on<i) ∧
  (∀t∈o.looksAt ops,∀j,j<c→ay ops j=some t→j<i∧Region.waitsFor .any ops i j=true):=fun i B=>by
  have H:=List.all_eq_true.1 hh i (List.mem_range.2 B)
  cases I:ops[i]? with
  | none=>rw[I] at H;cases H
  | some o=>
   rw[I] at H;simp only[Bool.and_eq_true] at H;obtain⟨⟨⟨c1,c2⟩,c3⟩,c4⟩:=H;refine⟨o,rfl,fun d hd=>?_,fun e E F=>?_,fun t ht j y q=>?_⟩
   · rw[hd] at c1
     simp only[Bool.and_eq_true,decide_eq_true_eq] at c1;refine⟨by rw[←hN];exact c1.1,fun j y hne e=>?_⟩;have:=List.all_eq_true.1 c1.2 j (List.mem_range.2 y);simp[hne,e] at this
   · have:=Array.all_eq_true_iff_forall_mem.1 c2 e E
     simpa [F] using this
   · have:=List.all_eq_true.1 (List.all_eq_true.1 c3 t ht) j (List.mem_range.2 y)
     simp only[q,bne_self_eq_false,Bool.false_or,Bool.and_eq_true,decide_eq_true_eq,Bool.or_eq_true,Bool.not_eq_true'] at this;exact this.1
 have Wa:∃o,ops[c]? = some o∧o.guard=none∧∀e∈o.after,Region.binds .any e=true→e.on<c:=by
  cases I:ops[c]? with
  | none=>rw[I] at K;cases K
  | some o=>
   rw[I] at K;simp only[Bool.and_eq_true] at K;refine⟨o,rfl,al K.1,fun e E F=>?_⟩;have:=Array.all_eq_true_iff_forall_mem.1 K.2 e E
   simpa [F] using this
 obtain⟨oc,S,Vn,Vl⟩:=Wa
 have L:∀(listed:Array Bool),HeadInv .any ops c listed→∀i,c<i→i∉Region.ready .any ops listed:=fun listed inv i B hr=>by
  obtain⟨_,oi,Z,s⟩:=mem_ready.1 hr;obtain⟨e,E,F,H,U⟩:=(mO Vo B Z).wait;have h3:=s e E F;have h4:=inv.tail e.on H (by have:=(Array.getElem?_eq_some_iff.1 Z).1;omega);rw[getD_both h4] at h3;cases h3
 intro f
 induction f with
 | zero=>
  intro listed b X vals C inv
  have s:∀i,i<c→listed.getD i true=true:=fun i B=>by
   cases T:listed.getD i true with
   | true=>rfl
   | false=>
    have:i∈(List.range c).filter fun j=>!listed.getD j true:=List.mem_filter.2 ⟨List.mem_range.2 B,by rw[T];rfl⟩;rw[List.length_eq_zero_iff.1 C] at this
    cases this
  have G:∀i,i<c→listed.getD i false=true:=fun i B=>gX (by rw[inv.head.size];omega) (by rw[s i B];decide);have Vy:listed.getD c true=false:=inv.head.tail c (Nat.le_refl _) Vw;have Vz:c∈Region.ready .any ops listed:=mem_ready.2 ⟨Vy,oc,S,fun e E F=>G e.on (Vl e E F)⟩
  have F:b=afin:=by
   have ht:b.tmps=afin.tmps:=by
    apply Array.ext_getElem?;intro t;by_cases z:∃j,j<c∧ay ops j=some t
    · obtain⟨j,y,q⟩:=z
      rw[inv.done j t y q (G j y),Jv j];rfl
    · rw[inv.rest t (fun j y q=>absurd ⟨j,y,q⟩ z),Jz t (fun j y _ q=>z ⟨j,y,q⟩)]
   have Vp:b.defers=afin.defers:=by rw[inv.defers,Va.2]
   cases b with
   | mk bt bd=>cases afin with
    | mk pt pd=>simp at ht Vp;rw[ht,Vp]
  have hX:Below w.heap.size w X:=Grw.below (inv.below.weaken fun x o ⟨p,hp,_⟩=>by cases hp);rw[Nat.zero_add,show ops.size-c=(ops.size-(c+1))+1 by omega];refine⟨fun h0=>(by rw[h0] at Vz;cases Vz),fun i B=>?_⟩
  have Wi:i=c:=by
   rcases Nat.lt_trichotomy i c with h | h | h
   · have H:=(mem_ready.1 B).1
     rw[s i h] at H;cases H
   · exact h
   · exact absurd B (L listed inv.head i h)
  subst Wi
  have Vk:Region.wanted oc (yielded ops b.tmps)=true:=by unfold Region.wanted;rw[Vn]
  unfold wpOp;simp only[S];rw[if_pos Vk];rw[F];rcases Vf oc X S hX with Vd | Vd
  rotate_left
  · exact .inr Vd
  refine .inl (Oper.wp_mono (fun a2 X2 U=>?_) Vd);obtain⟨Wg,Vj⟩:=U;obtain⟨Wv,g1,g2⟩:=gD _ _ Vj
  have Ws:i<listed.size:=by rw[inv.head.size];exact Vw
  have Jx:∀j,j≤i→(listed.setIfInBounds i true).getD j false=true:=fun j y=>by
   rcases Nat.lt_or_eq_of_le y with h | h
   · rw[getD_set_ne false ab];exact G j h
   · subst h;exact di Ws false
  have M:∀j,i<j→j<ops.size→(listed.setIfInBounds i true).getD j true=false:=fun j y Vi=>by
   rw[getD_set_ne true ab];exact inv.head.tail j ab Vi
  refine Bz Vo Wg.symm g1 g2 (ops.size-(i+1)) _ a2 X2 ?_ ⟨Below.refl _ _,by rw[Array.size_setIfInBounds];exact inv.head.size,Jx,rfl,rfl,fun j d y Wp T=>?_,fun t _=>rfl⟩
  · have e:(List.range ops.size).filter (fun j=>!(listed.setIfInBounds i true).getD j true)=(List.range ops.size).filter fun j=>decide (i<j):=by
     apply List.filter_congr;intro j y;have Vi:=List.mem_range.1 y;by_cases Vb:i<j
     · rw[M j Vb Vi,decide_eq_true Vb];rfl
     · have h5:=Jx j ab
       rw[decide_eq_false Vb]
       cases h6:(listed.setIfInBounds i true).getD j true with
       | true=>rfl
       | false=>rw[getD_both h6] at h5;cases h5
    rw[e]
    have key:∀n,((List.range n).filter fun j=>decide (i<j)).length=n-(i+1):=by
     intro n
     induction n with
     | zero=>simp
     | succ n ih=>
      rw[List.range_succ,List.filter_append,List.length_append,ih];by_cases hn:i<n
      · simp[hn];omega
      · simp[hn];omega
    exact key _
  · have h5:=M j y (xx Wp)
    rw[getD_both h5] at T;cases T
 | succ f ih=>
  intro listed b X vals C inv
  have z:∃i,i<c∧listed.getD i true=false:=by
   cases T:(List.range c).filter fun j=>!listed.getD j true with
   | nil=>rw[T] at C;simp at C
   | cons i _=>
    have:i∈(List.range c).filter fun j=>!listed.getD j true:=by rw[T];simp
    obtain⟨H,U⟩:=List.mem_filter.1 this;exact⟨i,List.mem_range.1 H,al U⟩
  have V:∃i,i∈Region.ready .any ops listed:=by
   obtain⟨i,J,D⟩:=z
   have Wo:∀m,m<c→listed.getD m true=false→∃i,i∈Region.ready .any ops listed:=by
    intro m
    induction m using Nat.strongRecOn with
    | _ m ihm=>
     intro hm D;obtain⟨o,I,_,Wc,_⟩:=Jy m hm;by_cases s:∀e∈o.after,Region.binds .any e=true→listed.getD e.on false=true
     · exact⟨m,mem_ready.2 ⟨D,o,I,s⟩⟩
     · obtain⟨e,E⟩:=Classical.not_forall.1 s
       obtain⟨Wh,Wr⟩:=Classical.not_imp.1 E;obtain⟨F,Wl⟩:=Classical.not_imp.1 Wr;have We:=Wc e Wh F;refine ihm e.on We ab (getD_in (by rw[inv.head.size];omega) (al Wl))
   exact Wo i J D
  obtain⟨i0,Vq,Vt⟩:=z;rw[Nat.succ_add];refine⟨fun h0=>(by obtain⟨i,B⟩:=V;rw[h0] at B;cases B),fun i B=>?_⟩
  have J:i<c:=by
   rcases Nat.lt_trichotomy i c with h | h | h
   · exact h
   · -- the one all wait for is not ready
     exfalso
     subst h;obtain⟨_,oi,Z,s⟩:=mem_ready.1 B
     have key:∀(d k:Nat),i-k=d→k<i→listed.getD k true=false→False:=by
      intro d
      induction d using Nat.strongRecOn with
      | _ d ihd=>
       intro k hd hk D;have H:=List.all_eq_true.1 Vh k (List.mem_range.2 hk);obtain⟨j,y,Vx⟩:=List.any_eq_true.1 H;simp only[Bool.and_eq_true,decide_eq_true_eq] at Vx;obtain⟨oj,Wb,e,E,F,Y⟩:=Region.waitsFor_spec Vx.2
       have Wt:j≤i:=by have:=List.mem_range.1 y;omega
       by_cases q:j=i
       · subst q
         obtain rfl:oj=oi:=Option.some.inj (Wb.symm.trans Z);have U:=s e E F;rw[Y,getD_both D] at U
         cases U
       · cases T:listed.getD j false with
         | true=>
          have U:=inv.head.closed j oj Wb T e E F;rw[Y,getD_both D] at U
          cases U
         | false=>exact ihd (i-j) ab j rfl ab (getD_in (by rw[inv.head.size];omega) T)
     exact key _ i0 rfl Vq Vt
   · exact absurd B (L listed inv.head i h)
  obtain⟨o,I,Wd,Wc,Ve⟩:=Jy i J;obtain⟨D,o',Wk,Vg⟩:=mem_ready.1 B;obtain rfl:o'=o:=Option.some.inj (Wk.symm.trans I)
  have Vc:((List.range c).filter fun j=>!(listed.setIfInBounds i true).getD j true).length=f:=by
   have:=count_set c i listed D c;rw[if_pos J,C] at this;omega
  have W:∀j,Region.waitsFor .any ops i j=true→listed.getD j false=true:=fun j y=>by
   obtain⟨o2,Wf,e,E,F,Y⟩:=Region.waitsFor_spec y;obtain rfl:o2=o':=Option.some.inj (Wf.symm.trans I);rw[←Y];exact Vg e E F
  have A:∀{φ:List NdB→NdB→List NdB→Prop},∀pre e suf,([]:List NdB)=pre ++ e::suf→φ pre e suf:=fun pre e suf h=>by simp at h
  unfold wpOp;simp only[I];obtain⟨g,d,v,hg,hd,Vm,Wn⟩:=Vr i o' J (Jv i) I
  have R:∀t∈o'.looksAt ops,b.tmps[t]? = g.tmps[t]?:=fun t ht=>by
   rw[hg t ht];by_cases z:∃j,j<c∧ay ops j=some t
   · obtain⟨j,y,q⟩:=z
     obtain⟨_,hw⟩:=Ve t ht j y q;show _=if _ then _ else _;rw[if_pos ⟨j,y,Jv j,q⟩,inv.done j t y q (W j hw),Jv j]
     rfl
   · show _=if _ then _ else _
     rw[if_neg (fun ⟨j,y,_,q⟩=>z ⟨j,y,q⟩)];exact inv.rest t (fun j y q=>absurd ⟨j,y,q⟩ z)
  have Wj:YieldsC P ops (Grw (gJ []) w) o' v b:=Wn.of_same (gk (Region.noSelect_spec Vu i o' · · I) R) (gM R)
  have Jw:∀X',Below X.heap.size X X'→wpAny P .any ops Q (f+(ops.size-c)) (listed.setIfInBounds i true) (b.put o'.dst v) X':=fun X' Wq=>
   ih _ _ _ _ Vc (inv.step B J I Wd (.inl Wq) A A (fun d2 Vv _=>by rw[hd] at Vv;rw[←Option.some.inj Vv];exact Vm) A A)
  rcases Wj with ⟨hw,hv⟩ | ⟨hw,rfl⟩
  · rw[if_pos hw]
    refine .inl ?_;unfold Oper.wp;have h3:=hv X inv.below;generalize (execOp b.eval o').run P X=r at *
    cases r with
    | ok nx w'=>
     cases nx<;>simp only[Oper.quietUpon] at h3<;>simp only[Oper.upon]
     case value u=>
      obtain⟨e1,e2⟩:=h3;rw[e1,e2];exact Jw _ (Below.refl _ _)
     case skip=>
      obtain⟨e1,e2⟩:=h3;rw[e1,←e2];exact Jw _ (Below.refl _ _)
     case enter f args=>
      obtain⟨e1,Wm⟩:=h3;rw[e1]
      exact Wm.mono fun e Wu ⟨E,Vs⟩=>by subst E;exact Jw _ Vs
    | halt x w'=>simp only[Oper.quietUpon] at h3
  · rw[hw,if_neg au]
    exact Jw X (Below.refl _ _)
theorem GF {o:Oper} {a:Act} {X:World} {K:Act→World→Prop} (i:Region.wanted o (yielded ops a.tmps)=true) (h:wpList P ops (Exit.then K Q) [o] a X):o.wp P a X K Q∨(o.asks P a X∧LetsOut Q):=by
 unfold wpList at h;rw[if_pos i] at h;rcases h with h | ⟨h1,a',b,f⟩
 · left
   unfold Oper.wp at h ⊢;generalize (execOp a.eval o).run P X=r at *
   cases r with
   | ok n b=>
    cases n<;>simp only[Oper.upon] at h ⊢
    all_goals first
     | exact h
     | exact Calls.mono h (fun e j c=>by cases e<;>first | exact c | (obtain⟨a',b,f⟩:=c;exact⟨a',b,f⟩))
     | exact Rows.mono h (fun _ _ c=>c)
   | halt x b=>cases x<;>simp only[Oper.upon] at h ⊢<;>exact h
 · exact .inr ⟨h1,a',b,f⟩
theorem rj {id N:Nat} {a:Act} {w:World} {l:List Oper} {sl:List (Nat × Value)} (T:Has ds a N sl) (c:Nat) (hm:P.follows .mixedOrders=true)
 (h:dN P l.toArray (Below w.heap.size w) (fun g=>∀X,Below w.heap.size w X→wpList P l.toArray (Exit.then (fun a2 X2=>a2.tmps.size=N∧dN P l.toArray (Below X2.heap.size X2) (fun a3=>∀S,Below X2.heap.size X2 S→Q .normal a3 S) (l.drop (c+1)) a2) Q) ((l.drop c).take 1) g X) (l.take c) a)
 (hB:ug l.toArray c N=true):(Code.region id l.toArray true).wp P Q a w:=by
 obtain⟨afin,U,Y⟩:=gD _ _ h;have q:=hB;unfold ug at q;simp only[Bool.and_eq_true,decide_eq_true_eq] at q;obtain⟨⟨⟨⟨⟨M,B⟩,K⟩,W⟩,y⟩,_⟩:=q;have V:c<l.length:=al B
 have D:pick (List.replicate c false) l=l.take c:=by
  have key:∀(n:Nat) (l:List Oper),n≤l.length→pick (List.replicate n false) l=l.take n:=by
   intro n
   induction n with
   | zero=>intro l _;cases l<;>rfl
   | succ n ih=>
    intro l b
    cases l with
    | nil=>simp at b
    | cons o l=>rw[List.replicate_succ,List.take_succ_cons,pick,ih l (al b)]
  exact key c l ab
 have v:dN P l.toArray (Grw (gJ []) w) (fun a'=>a'=afin) (pick (List.replicate c false) l) a:=by
  rw[D];exact iF (fun X J=>Grw.below (J.weaken fun x o ⟨p,Z,_⟩=>by cases Z)) _ _ U
 have s:=gG _ _ v
 have I:∀j,bL (List.replicate c false) j=false:=fun j=>by
  unfold bL;rcases Nat.lt_or_ge j c with h | h
  · rw[List.getElem?_replicate,if_pos h];rfl
  · rw[List.getElem?_eq_none (by rw[List.length_replicate];exact h)];rfl
 have r:∀t,(∀j,j<c→bL (List.replicate c false) j=false→ay l.toArray j≠some t)→afin.tmps[t]? = a.tmps[t]?:=fun t ht=>by
  refine(fa _ _ (fun o' A e=>?_) v).1.symm;rw[D] at A;obtain⟨k,G,rfl⟩:=List.getElem_of_mem A;rw[List.length_take] at G;rw[List.getElem_take] at e;refine ht k ab (I k) ?_;unfold ay;rw[List.getElem?_toArray,List.getElem?_eq_getElem ab];exact e
 have E:=iX (P:=P) (C:=Grw (gJ []) w) (afin:=afin) W T.size.symm (by rw[List.length_replicate]) (Nat.le_of_lt B) (fun t=>if (∃j,j<c∧bL (List.replicate c false) j=false∧ay l.toArray j=some t) then afin.tmps[t]? else a.tmps[t]?)
  (fun j t m f u=>if_pos ⟨j,m,f,u⟩) (fun t ht=>if_neg (fun ⟨j,m,f,u⟩=>ht j m f u))
  (List.replicate c false) l 0 a (by rw[List.length_replicate];omega) (fun j=>by rw[Nat.zero_add]) (fun j=>by rw[Nat.zero_add];simp) rfl (fun t ⟨j,m,_⟩=>absurd m (Nat.not_lt_zero _)) (fun t _=>rfl) v
 refine wp_region_any hm ?_
 have:=Fl (P:=P) (w:=w) (Q:=Q) (a:=a) (afin:=afin) hB T.size.symm s r (fun j o m f F=>E j o (Nat.zero_le _) m f F) (fun o X F J=>by
  have L:(l.drop c).take 1=[o]:=by
   have z:l[c]? = some o:=al F;obtain⟨G,e⟩:=List.getElem?_eq_some_iff.1 z;rw[List.drop_eq_getElem_cons G,e];rfl
  have R:=Y X J;rw[L] at R;refine GF ?_ R;rw[F] at y;simp only[Bool.and_eq_true] at y;unfold Region.wanted
  rw[show o.guard=none by simpa using y.1]) c (Array.replicate l.toArray.size false) a { w with drawn:=w.drawn+1 } (fun _=>undef)
  (by
   rw[List.filter_eq_self.2 (fun j m=>by
    have H:j<l.toArray.size:=by have:=List.mem_range.1 m;omega
    rw[getD_in (by rw[Array.size_replicate];exact H) (getD_replicate_false _ _)];rfl)]
   simp)
  ⟨(Grw.refl _ w).drew,⟨by simp,fun j oj _ b=>(by rw[getD_replicate_false] at b;cases b),fun t _ ht=>getD_in (al ht) (getD_replicate_false _ _)⟩,rfl,rfl,
   fun i d _ _ b=>(by rw[getD_replicate_false] at b;cases b),fun t _=>rfl,fun pre d suf _ b=>(by rw[getD_replicate_false] at b;cases b),fun k _=>(Grw.refl _ w).drew,fun _=>(Grw.refl _ w).drew⟩
 rw[show c+(l.toArray.size-c)=l.toArray.size by omega] at this;exact this
end
end Go.Proofs.YtcfdpfmchchkaaaGreatDoor
