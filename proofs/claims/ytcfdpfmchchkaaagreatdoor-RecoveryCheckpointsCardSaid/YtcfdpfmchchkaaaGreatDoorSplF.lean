/- An append to a literal w -/
import Derived.Test.YtcfdpfmchchkaaaGreatDoorSplE
namespace Go.Proofs.YtcfdpfmchchkaaaGreatDoor
set_option linter.unusedVariables false
set_option linter.unusedSimpArgs false
open Go.RowKit Go.Sort
section
variable {P:Program} {ρ:Operand→Value} {X:World}
theorem D7 {o:Oper} {s x:Operand} {t e:TypeId} {z R U:Value} {m sz bytes B:Nat} {cs:Array Value} {news:List Value} (ho:o.op=.call { callee:=.builtin .append,args:=#[s,x],argTypes:=#[t,t] })
 (ht:P.underlying t=some (.slice e)) (h:(P.info? e).map (fun i=>(i.zero,i.size,i.bytes))=some (some z,sz,bytes)) (W:z.cells.size=sz) (H:Nat.blt 0 sz=true) (V:ρ s=R) (hx:ρ x=U)
 (hO:NewB B (fun b=>.slice (some ⟨b,0,none⟩) 0 0) cs e R X) (v:cs.size=0) (h2:∃A c,U=.slice A m c∧Rd X X.heap.size A news) (hl:news.length=m*sz) (h1:∀u∈news,u.oneCell'=true) (hb:m≤1000000∧bytes≤1000000) (hB:B≤X.heap.size) :
 cz P (OwnB B e sz m news) X ((execOp ρ o).run P X):=by
 obtain⟨q,hq,E,G,K⟩:=lO h;obtain⟨b,rfl,Jv,j⟩:=hO;obtain⟨A,c,rfl,hr⟩:=h2;have r:X.ownsRow 0 e sz (.slice (some ⟨b,0,none⟩) 0 0) 0 []:=⟨by simp,.inr ⟨b,0,cs,rfl,Nat.zero_le _,j,Nat.le_refl _,Nat.zero_le _,ar v,by simp⟩⟩;have M:(0+m)*bytes≤1000000*1000000:=Nat.mul_le_mul ab hb.2;obtain⟨v',w',C,I,Y,D⟩:=iA (P:=P) X t o.type e q z sz bytes ht hq E G K W (Nat.lt_of_lt_of_le (Nat.lt_succ_self 0) (Nat.le_of_ble_eq_true H)) _ 0 [] r A m c news hl hr h1 (by unfold maxLen;omega) ab 0 (.inl (Nat.zero_le _))
 have F:(execOp ρ o).run P X=.ok (.value v') w':=by
  unfold execOp;simp only[ho,resolve,invoke,builtin,Sem.run_bind,Sem.run_pure,Result.andThen_ok,List.map_toArray,List.map_cons,List.map_nil,V,hx,C]
 rw[F];have p:=Y.1;refine⟨⟨p.os,p.tape,p.output,p.size,fun k Z=>?_⟩,?_⟩
 · by_cases y:k=b
   · subst y
     obtain⟨cs',e1,e2⟩:=p.shape k cs e (0,0) j
     have:cs'=cs:=by
      have h0:cs=#[]:=Array.eq_empty_of_size_eq_zero v;subst h0;exact Array.eq_empty_of_size_eq_zero (ar e1)
     rw[e2,this];exact j.symm
   · exact p.block k Z (fun q=>by injection q with q;exact y q.symm)
 · obtain⟨L,S,rfl,_⟩:=ownsRow_form I
   rw[Nat.zero_add,List.nil_append] at I;rw[Nat.zero_add];refine⟨L,S,rfl,qI I fun g J=>?_⟩
   have f:(Value.slice L (0+m) S).ownBlock=some g:=by rw[Nat.zero_add];exact J
   rcases D with D | D
   · have T:some b=some g:=D.symm.trans f
     injection T with T;omega
   · rw[D] at f;injection f with f;omega
end
theorem St.add2 {M:List Nat} {w q X:World} {L:List Ent} {m e2:Ent} (p:St M w q L) (h:St M w X (m::L)) (i:e2.ok X) (j:∀b,e2.dom b→q.heap.size≤b∧b<X.heap.size) (k:∀b,e2.dom b→¬m.dom b):St M w X (e2::m::L):=by
 refine⟨h.os,h.tape,h.output,h.size,h.block,fun f hf=>?_,fun f hf b c=>?_,List.pairwise_cons.2 ⟨fun f hf b c e=>?_,h.sep⟩⟩
 · rcases List.mem_cons.1 hf with rfl | hf
   · exact i
   · exact h.ok f hf
 · rcases List.mem_cons.1 hf with rfl | hf
   · exact⟨.inl (Nat.le_trans p.size (j b c).1),(j b c).2⟩
   · exact h.new f hf b c
 · rcases List.mem_cons.1 hf with rfl | hf
   · exact k b c e
   · have:=(j b c).1
     have:=(p.new f hf b e).2;omega
theorem wy {X:World} {B sz n:Nat} {T:TypeId} {v:Value} {xs:List Value} (h:X.ownsRow B T sz v n xs) {k:Nat} (b:v.ownBlock=some k):∃cur,X.heap[k]? = some (.cells cur T (0,0)):=by
 rcases h.2 with ⟨rfl,_⟩ | ⟨g,cap,cur,rfl,_,h2,_⟩
 · cases b
 · injection b with b
   subst b;exact⟨cur,h2⟩
theorem la {X:World} {B sz n b:Nat} {T e:TypeId} {v:Value} {xs:List Value} {cs:Array Value} (h:X.ownsRow B T sz v n xs) (f:Box X b cs e) (i:T≠e):∀k,k=b→¬v.ownBlock=some k:=fun k j m=>by
 subst j;obtain⟨cur,h3⟩:=wy h m;have c:X.heap[k]? = some (Obj.cells cs e (0,0)):=f;rw[h3] at c;injection c with c;injection c with _ c;exact i c
theorem xq {X:World} {B h sz n c f:Nat} {T e:TypeId} {v v':Value} {xs xs':List Value} (j:X.ownsRow B T sz v n xs) (i:X.ownsRow h e c v' f xs') (m:T≠e):∀k,v'.ownBlock=some k→¬v.ownBlock=some k:=fun k p q=>by
 obtain⟨c1,h3⟩:=wy j q;obtain⟨c2,b⟩:=wy i p;rw[h3] at b;injection b with b;injection b with _ b;exact m b
open Go.RowKit Go.Sort
variable {ds:List Deferred}
def jR (B:Nat) (T:TypeId) (b:Nat) (o:Option Obj):Prop:=B≤b∧∃cs fr,o=some (.cells cs T fr)
def gA (B:Nat) (oc:List (Nat × (Nat→Prop))) (news:List (Nat × TypeId)):List yS:=oc.map (fun p=>(p.1,(fun b _=>p.2 b),va 0)) ++ news.map (fun p=>(p.1,jR B p.2,fun _ _=>True))
theorem kZ {α:Type} {φ:α→Prop} {a:α} (h:φ a):∀p∈[a],φ p:=fun p b=>by rw[List.mem_singleton.1 b];exact h
theorem bC {α:Type} {φ:α→Prop}:∀p∈([]:List α),φ p:=fun p b=>by cases b
theorem lU {B:Nat} {oc:List (Nat × (Nat→Prop))} {news:List (Nat × TypeId)} {p:yS} (h:p∈gA B oc news):(∃q∈oc,p=(q.1,(fun b _=>q.2 b),va 0))∨∃q∈news,p=(q.1,jR B q.2,fun _ _=>True):=by
 unfold gA at h;rcases List.mem_append.1 h with h | h
 · obtain⟨q,e,c⟩:=List.mem_map.1 h;exact .inl ⟨q,e,c.symm⟩
 · obtain⟨q,e,c⟩:=List.mem_map.1 h;exact .inr ⟨q,e,c.symm⟩
theorem Grw.conv {O O':Nat→Option Obj→Prop} {w X:World} (h:Grw O w X) (i:∀b,b<w.heap.size→O b w.heap[b]?→O' b w.heap[b]?):Grw O' w X:=
 ⟨h.os,h.tape,h.output,h.size,fun b e c=>h.block b e (fun f=>c (i b e f)),h.shape⟩
section
variable {P:Program} {ops:Array Oper} {Q:Exit→Act→World→Prop} {w:World} {tail:List Oper} {l:List (Nat × Value)} {o:Oper} {a:Act} {N d:Nat} {O:Nat→Prop} {oc:List (Nat × (Nat→Prop))} {news:List (Nat × TypeId)}
theorem xh {B:Nat} (hB:B=w.heap.size) (f:∀p∈oc,∀b,p.2 b→O b) {X:World} (h:Grw (l4 (gA B oc news)) w X):Grw (fun b _=>O b) w X:=h.conv fun b k ⟨p,i,c⟩=>by
 rcases lU i with ⟨q,e,rfl⟩ | ⟨q,e,rfl⟩
 · exact f q e b c
 · have j:B≤b:=c.1;omega
theorem Gu {k B:Nat} (hB:B=w.heap.size) (e:∀p∈oc,∀b,p.2 b→O b) {X:World} (h:Grw (yq (gA B oc news) k) w X):Grw (fun b _=>O b) w X:=
 xh hB e (news:=news) (h.conv fun b _ ⟨p,f,_,c⟩=>⟨p,f,c⟩)
theorem Bf {N:Nat} {a:Act} {w:World} {l:List Oper} {c:List (Nat × Value)} (e:Has ds a N c) (O:Nat→Prop) (oc:List (Nat × (Nat→Prop))) (news:List (Nat × TypeId)) (fl:List Bool) (nds:List NdB) (j:∀p∈oc,∀b,p.2 b→O b)
 (h:dK P l.toArray (Grw (fun b _=>O b) w) (fun g=>gU P l.toArray (gA w.heap.size oc news) w Q (l.drop fl.length) nds g []) (pick fl l) a)
 (hB:iq l.toArray fl fl.length N (nds.map fun d=>(d.k,d.deps))=true) :
 o9 P l Q a w:=by
 obtain⟨afin,i,f⟩:=kc _ _ h;exact nf (gA w.heap.size oc news) fl nds (by rw[e.size];exact hB) ⟨afin,iJ (fun X m=>xh rfl j m) _ _ i,f⟩
theorem dN {id N:Nat} {a:Act} {w:World} {l:List Oper} {c:List (Nat × Value)} (e:Has ds a N c) (O:Nat→Prop) (oc:List (Nat × (Nat→Prop))) (news:List (Nat × TypeId)) (fl:List Bool) (nds:List NdB) (hm:P.follows .mixedOrders=true) (f:∀p∈oc,∀b,p.2 b→O b)
 (h:dK P l.toArray (Grw (fun b _=>O b) w) (fun g=>gU P l.toArray (gA w.heap.size oc news) w Q (l.drop fl.length) nds g []) (pick fl l) a)
 (hB:iq l.toArray fl fl.length N (nds.map fun d=>(d.k,d.deps))=true) :
 (Code.region id l.toArray true).wp P Q a w:=wp_region_any hm (Bf e O oc news fl nds f h hB)
theorem zf {sts:List yS} {k:Nat} {R:Value→World→Prop} {X:World} {r:Result Next} (h:cz P R X r):fk P sts k R X r:=by
 cases r with
 | ok nx w'=>
  cases nx<;>simp only[cz] at h<;>simp only[fk]
  case value u=>exact⟨.inl h.1,h.2⟩
  case enter f args=>exact⟨h.1,h.2.mono fun e b ⟨v,i,c,h3⟩=>⟨v,i,.inl c,h3⟩⟩
 | halt x w'=>simp only[cz] at h
theorem cJ {nds:List NdB} {k:Nat} {deps:List Nat} {R:Value→World→Prop} {Φ:List (Nat × (World→Prop))} (y:Has ds a N l) (s:ops[k]? = some o) (z:o.dst=some d) (x:Nat.blt d N=true) (A:∀p∈oc,∀b,p.2 b→O b)
 (hst:∀v X X',R v X→Below X.heap.size X X'→R v X') (hst2:∀p∈oc,∀v X X',R v X→Kp p.2 0 X X'→R v X') (c:∀p∈news,∀v X X',R v X→Grw (jR w.heap.size p.2) X X'→R v X') (hx:∀X,Grw (fun b _=>O b) w X→told deps Φ X→cz P R X ((execOp a.eval o).run P X))
 (u:∀v r,Has ds r N ((d,v)::l)→gU P ops (gA w.heap.size oc news) w Q tail nds r ((k,R v)::Φ)):gU P ops (gA w.heap.size oc news) w Q tail (⟨k,deps,fun _=>R⟩::nds) a Φ:=by
 refine⟨⟨fun v X X'=>hst v X X',fun p B _ _ v X X' m i=>?_,fun _ _ _ _ h=>h⟩,fun o' f X i C t=>?_,fun v=>?_⟩
 · rcases lU B with ⟨q,j,rfl⟩ | ⟨q,j,rfl⟩
   · exact hst2 q j v X X' m i
   · exact c q j v X X' m i.1
 · rw[s] at f;cases f
   exact zf (hx X (Gu rfl A i) t)
 · have e:aU ops k=some d:=by unfold aU;rw[s];exact z
   show gU P ops (gA w.heap.size oc news) w Q tail nds (a.put (aU ops k) v) _;rw[e];exact u v _ (y.put x v)
def IsRow (v:Value) (T:TypeId) (sz n:Nat) (xs:List Value) (_:Value) (X:World):Prop:=X.ownsRow 0 T sz v n xs
theorem IsRow.stable {v:Value} {T:TypeId} {sz n:Nat} {xs:List Value} (u:Value) (X X':World) (h:IsRow v T sz n xs u X) (b:Below X.heap.size X X'):IsRow v T sz n xs u X':=jd h b
def NewAny (B n:Nat) (T:TypeId) (v:Value) (X:World):Prop:=∃b,v=.pointer (some ⟨b,0,none⟩)∧B≤b∧∃cs,Box X b cs T∧cs.size=n
theorem NewAny.stable {B n:Nat} {T:TypeId} (v:Value) (X X':World) (h:NewAny B n T v X) (f:Below X.heap.size X X'):NewAny B n T v X':=by
 obtain⟨b,e,c,cs,h3,i⟩:=h;exact⟨b,e,c,cs,h3.below f,i⟩
theorem NewAny.newT {B n e:Nat} {T m:TypeId} (v:Value) (X X':World) (h:NewAny B n T v X) (k:Grw (jR e m) X X'):NewAny B n T v X':=by
 obtain⟨b,i,f,cs,h3,p⟩:=h;obtain⟨cs',j,c⟩:=k.shape b cs T (0,0) h3;exact⟨b,i,f,cs',c,by rw[j];exact p⟩
theorem NewB.newT {B i:Nat} {f:Nat→Value} {cs:Array Value} {T c:TypeId} (m:T≠c) (v:Value) (X X':World) (h:NewB B f cs T v X) (p:Grw (jR i c) X X'):NewB B f cs T v X':=by
 obtain⟨b,k,j,h3⟩:=h;refine⟨b,k,j,(p.block b h3.lt ?_).trans h3⟩
 rintro ⟨_,cs',fr,e⟩
 rw[show X.heap[b]? = some (.cells cs T (0,0)) from h3] at e;injection e with e;injection e with _ e;exact m e
theorem jh {X:World} {B n:Nat} {cs:Array Value} {T:TypeId} {r:Result Next} (hx:r=.ok (.value (.pointer (some ⟨X.heap.size,0,none⟩))) (X.alloc (.cells cs T))) (hB:B≤X.heap.size) (b:cs.size=n):cz P (NewAny B n T) X r:=by
 subst hx;exact⟨eV (Below.refl _ _) _,X.heap.size,rfl,hB,cs,Box.new X cs T,b⟩
def StoY (B:Nat) (T:TypeId) (x:Nat) (Y:Act→Value→Prop) (g:Act) (_:Value) (X:World):Prop:=∃b,g.tmps[x]? = some (.pointer (some ⟨b,0,none⟩))∧B≤b∧∃v,Y g v∧Box X b v.cells T
def sN (y:Nat) (g:Act) (v:Value):Prop:=g.tmps[y]? = some v
def tn (u:Value) (_:Act) (v:Value):Prop:=v=u
theorem fj {nds:List NdB} {k kx x y:Nat} {T:TypeId} {Y:Act→Value→Prop} {deps:List Nat} {Φ:List (Nat × (World→Prop))} (M:Has ds a N l) (ho:ops[k]? = some o) (C:o.op=.store T (.tmp x) (.tmp y)∧o.dst=none) (hk:news=[(k,T)]) (hO:∀p∈oc,∀b,p.2 b→b<w.heap.size)
 (H:deps.contains kx=true∧aU ops kx=some x) {vx s:Value} (K:Y a s) (R:∀J v,(∀j∈deps,∀t,aU ops j=some t→J.tmps[t]? = a.tmps[t]?)→Y a v→Y J v) (D:look l x=some vx) (S:look l y=some s) {n:Nat} (hs:(P.info? T).map (·.size)=some n) (Jx:∀q∈oc,q.1∉deps)
 (hx:∀X,Grw (fun b _=>∃p∈oc,p.2 b) w X→told deps Φ X→NewAny w.heap.size n T vx X∧s.cells.size=n∧s.cells.toList.all (·.oneCell')=true)
 (L:∀v,gU P ops (gA w.heap.size oc news) w Q tail nds a ((k,StoY w.heap.size T x Y a v)::Φ)):gU P ops (gA w.heap.size oc news) w Q tail (⟨k,deps,StoY w.heap.size T x Y⟩::nds) a Φ:=by
 refine⟨⟨fun v X X' ⟨b,G,i,u,h3,m⟩ hb=>⟨b,G,i,u,h3,m.below hb⟩,fun p W I _ v X X' ⟨b,G,i,u,h3,m⟩ V=>?_,fun J v X Z ⟨b,G,i,u,h3,m⟩=>?_⟩,fun o' F X V hE hΦ=>?_,fun v=>?_⟩
 · rcases lU W with ⟨q,A,rfl⟩ | ⟨q,A,rfl⟩
   · exact⟨b,G,i,u,h3,(V.1.block b m.lt (fun h=>by have:=hO q A b h;omega)).trans m⟩
   · rw[hk] at A;rw[List.mem_singleton.1 A] at I;exact absurd rfl I
 · exact⟨b,(Z kx (List.contains_iff_mem.1 H.1) x H.2).trans G,i,u,R J u Z h3,m⟩
 · rw[ho] at F;cases F
   obtain⟨⟨b,rfl,i,cs,h3,m⟩,h5,h6⟩:=hx X (by
    refine V.conv fun b hb ⟨p,W,_,B⟩=>?_;rcases lU W with ⟨q,A,rfl⟩ | ⟨q,A,rfl⟩
    · exact⟨q,A,B⟩
    · have i:w.heap.size≤b:=B.1;omega) hΦ
   have c:=nn (P:=P) (ρ:=a.eval) (o:=o) (ty:=T) (X:=X) C.1 (M.ev (o:=.tmp x) D) (M.ev (o:=.tmp y) S) rfl (by rw[hs];simp[h5]) h3 h6 (by rw[show s.cells.toList.length=cs.toList.length by simp[m,h5]];exact Nat.beq_refl _)
   have E:(k,jR w.heap.size T,fun _ _=>True)∈gA w.heap.size oc news:=by unfold gA;rw[hk];exact List.mem_append_right _ (List.mem_singleton.2 rfl)
   have z:∀X',Kp (fun L=>L=b) 0 X X'→wN (gA w.heap.size oc news) k X X':=fun X' hK=>.inr ⟨_,E,rfl,hK.1.conv fun b' Jw e=>by
    have e':b'=b:=e;subst e'
    exact⟨i,cs,(0,0),h3⟩,trivial⟩
   have U:∀u X',IsBox b T s.cells.toList.toArray u X'→StoY w.heap.size T x Y a u X':=fun u X' hB=>⟨b,M.slot x _ D,i,s,K,by simpa [IsBox] using hB⟩;generalize (execOp a.eval o).run P X=r at c
   cases r with
   | halt e X'=>simp only[fU] at c
   | ok nx X'=>
    cases nx<;>simp only[fU] at c<;>simp only[fk]
    case value u=>exact⟨z _ c.1,U _ _ c.2⟩
    case skip=>exact⟨z _ c.1,U _ _ c.2⟩
    case enter f args=>exact⟨c.1,c.2.mono fun e Jv ⟨v,g1,g2,g3⟩=>⟨v,g1,z _ g2,U _ _ g3⟩⟩
 · have e:aU ops k=none:=by unfold aU;rw[ho];exact C.2
   show gU P ops (gA w.heap.size oc news) w Q tail nds (a.put (aU ops k) v) _;rw[e];exact L v
theorem gi {Φ:List (Nat × (World→Prop))} (c:∀p∈oc,∀b,p.2 b→O b) (h:∀X,Grw (fun b _=>O b) w X→eG Φ X→wpList P ops Q tail a X):gU P ops (gA w.heap.size oc news) w Q tail [] a Φ:=fun X f _ e=>h X (xh rfl c f) e
theorem DistB.ne {ks:List Nat} (h:DistB ops ks a) (m:Has ds a N l) {i j s t:Nat} {oi oj:Oper} {b c:Nat} (v:i∈ks) (p:j∈ks) (f:i≠j) (x:ops[i]? = some oi) (y:ops[j]? = some oj) (e:k6 oi=true) (k:k6 oj=true) (q:oi.dst=some s) (ht:oj.dst=some t) (r:look l s=some (.pointer (some ⟨b,0,none⟩))) (u:look l t=some (.pointer (some ⟨c,0,none⟩))):b≠c:=by
 rintro rfl
 refine h i v j p f oi oj s t x y e k q ht ?_;rw[m.slot s _ r,m.slot t _ u]
theorem mS {deps:List Nat} {ky y:Nat} (b:deps.contains ky=true∧aU ops ky=some y):∀c v,(∀j∈deps,∀t,aU ops j=some t→c.tmps[t]? = a.tmps[t]?)→sN y a v→sN y c v:=fun c v e h=>(e ky (List.contains_iff_mem.1 b.1) y b.2).trans h
theorem iC {deps:List Nat} {u:Value}:∀b v,(∀j∈deps,∀t,aU ops j=some t→b.tmps[t]? = a.tmps[t]?)→tn u a v→tn u b v:=fun b v c h=>h
theorem StoY.slot {B:Nat} {T:TypeId} {x y:Nat} {v vx f:Value} {X:World} (e:Has ds a N l) (hx:look l x=some vx) (k:look l y=some f) (h:StoY B T x (sN y) a v X):∃b,vx=.pointer (some ⟨b,0,none⟩)∧B≤b∧Box X b f.cells T:=by
 obtain⟨b,j,i,u,h3,m⟩:=h;have c:=(e.slot x _ hx).symm.trans j;have e2:=(e.slot y _ k).symm.trans h3;injection c with c;injection e2 with e2;exact⟨b,c,i,by rw[e2];exact m⟩
theorem StoY.val {B:Nat} {T:TypeId} {x:Nat} {v vx u:Value} {X:World} (j:Has ds a N l) (hx:look l x=some vx) (h:StoY B T x (tn u) a v X):∃b,vx=.pointer (some ⟨b,0,none⟩)∧B≤b∧Box X b u.cells T:=by
 obtain⟨b,i,f,k,h3,e⟩:=h;have c:=(j.slot x _ hx).symm.trans i;injection c with c;exact⟨b,c,f,by rw[show k=u from h3] at e;exact e⟩
theorem IsVal.newT {u:Value} {B:Nat} {T:TypeId} (v:Value) (X X':World) (h:IsVal u v X) (_:Grw (jR B T) X X'):IsVal u v X':=h
theorem PairU.newT {ι:Type} {V:ι→Value} {F:ι→Prop} {B:Nat} {T:TypeId} (v:Value) (X X':World) (h:PairU V F v X) (_:Grw (jR B T) X X'):PairU V F v X':=h
theorem ExtU0.newT {ι:Type} {V:ι→Value} {F:ι→Prop} {B:Nat} {T:TypeId} (v:Value) (X X':World) (h:ExtU0 V F v X) (_:Grw (jR B T) X X'):ExtU0 V F v X':=h
theorem ExtU1.newT {ι:Type} {V:ι→Value} {F:ι→Prop} {B:Nat} {T:TypeId} (v:Value) (X X':World) (h:ExtU1 V F v X) (_:Grw (jR B T) X X'):ExtU1 V F v X':=h
def MovS (src:Nat) (g:Act) (v:Value) (_:World):Prop:=g.tmps[src]? = some v
def ExtS (src i:Nat) (g:Act) (v:Value) (_:World):Prop:=∃vs,g.tmps[src]? = some (.tuple vs)∧vs[i]? = some v
theorem MovS.get {src:Nat} {u v:Value} {X:World} (c:Has ds a N l) (b:look l src=some u) (h:MovS src a v X):v=u:=by
 have:=(c.slot src _ b).symm.trans h;injection this with this;exact this.symm
theorem ExtS.get {src i:Nat} {vs:Array Value} {v y:Value} {X:World} (j:Has ds a N l) (e:look l src=some (.tuple vs)) (f:vs[i]? = some y) (h:ExtS src i a v X):v=y:=by
 obtain⟨us,c,b⟩:=h;have:=(j.slot src _ e).symm.trans c;injection this with this;injection this with this;rw[←this,f] at b;exact(Option.some.inj b).symm
theorem yr {nds:List NdB} {k:Nat} {deps:List Nat} {R:Act→Value→World→Prop} {Φ:List (Nat × (World→Prop))} (A:Has ds a N l) (m:ops[k]? = some o) (x:o.dst=some d) (z:Nat.blt d N=true)
 (i:∀g v X X',R g v X→R g v X') (b:∀f v X,(∀j∈deps,∀t,aU ops j=some t→f.tmps[t]? = a.tmps[t]?)→R a v X→R f v X) (hx:∀X,told deps Φ X→∃v,(execOp a.eval o).run P X=.ok (.value v) X∧R a v X)
 (y:∀v q,Has ds q N ((d,v)::l)→gU P ops (gA w.heap.size oc news) w Q tail nds q ((k,R a v)::Φ)):gU P ops (gA w.heap.size oc news) w Q tail (⟨k,deps,R⟩::nds) a Φ:=by
 refine⟨⟨fun v X X' h _=>i a v X X' h,fun p D _ _ v X X' h _=>i a v X X' h,b⟩,fun o' c X C B u=>?_,fun v=>?_⟩
 · rw[m] at c;cases c
   obtain⟨v,s,r⟩:=hx X u;rw[s];exact⟨.inl (Below.refl _ _),r⟩
 · have e:aU ops k=some d:=by unfold aU;rw[m];exact x
   show gU P ops (gA w.heap.size oc news) w Q tail nds (a.put (aU ops k) v) _;rw[e];exact y v _ (A.put z v)
theorem jw {nds:List NdB} {k kx src:Nat} {deps:List Nat} {Φ:List (Nat × (World→Prop))} (e:Has ds a N l) (q:ops[k]? = some o) (c:o.op=.move (.tmp src)∨o.op=.assign (.tmp src)) (s:o.dst=some d) (p:Nat.blt d N=true) (b:deps.contains kx=true∧aU ops kx=some src) {u:Value} (j:look l src=some u)
 (m:∀v i,Has ds i N ((d,v)::l)→gU P ops (gA w.heap.size oc news) w Q tail nds i ((k,MovS src a v)::Φ)):gU P ops (gA w.heap.size oc news) w Q tail (⟨k,deps,MovS src⟩::nds) a Φ:=
 yr e q s p (fun _ _ _ _ h=>h) (fun t v X r h=>(r kx (List.contains_iff_mem.1 b.1) src b.2).trans h) (fun X _=>⟨u,by
  have f:a.eval (.tmp src)=u:=e.ev (o:=.tmp src) j;unfold execOp
  rcases c with h | h<;>simp[h,f],e.slot src _ j⟩) m
theorem fi {nds:List NdB} {k kx src i:Nat} {deps:List Nat} {Φ:List (Nat × (World→Prop))} (j:Has ds a N l) (s:ops[k]? = some o) (f:o.op=.extract (.tmp src) i) (x:o.dst=some d) (A:Nat.blt d N=true) (b:deps.contains kx=true∧aU ops kx=some src) {u:Value} (p:look l src=some u)
 (hx:∀X,told deps Φ X→∃vs y,u=.tuple vs∧vs[i]? = some y)
 (z:∀v m,Has ds m N ((d,v)::l)→gU P ops (gA w.heap.size oc news) w Q tail nds m ((k,ExtS src i a v)::Φ)):gU P ops (gA w.heap.size oc news) w Q tail (⟨k,deps,ExtS src i⟩::nds) a Φ:=
 yr j s x A (fun _ _ _ _ h=>h) (fun B v X t ⟨vs,h,c⟩=>⟨vs,(t kx (List.contains_iff_mem.1 b.1) src b.2).trans h,c⟩) (fun X r=>by
  obtain⟨vs,y,q,c⟩:=hx X r;subst q;have e:a.eval (.tmp src)=.tuple vs:=j.ev (o:=.tmp src) p;refine⟨y,?_,vs,j.slot src _ p,c⟩;unfold execOp
  simp[f,e,Instr.extract,c]) z
def BoxY (b:Nat) (T:TypeId) (y:Nat) (g:Act) (_:Value) (X:World):Prop:=∃u,g.tmps[y]? = some u∧Box X b u.cells T
theorem BoxY.get {b:Nat} {T:TypeId} {y:Nat} {v c:Value} {X:World} (i:Has ds a N l) (j:look l y=some c) (h:BoxY b T y a v X):Box X b c.cells T:=by
 obtain⟨u,f,e⟩:=h;have:=(i.slot y _ j).symm.trans f;injection this with this;rw[this];exact e
def RowU (V:Option Addr→Nat→Value) (B:Nat) (T:TypeId) (sz n:Nat) (xs:List Value) (v:Value) (X:World):Prop:=∃A c,v=V A c∧X.ownsRow B T sz (.slice A n c) n xs
theorem RowU.stable {V:Option Addr→Nat→Value} {B:Nat} {T:TypeId} {sz n:Nat} {xs:List Value} (v:Value) (X X':World) (h:RowU V B T sz n xs v X) (f:Below X.heap.size X X'):RowU V B T sz n xs v X':=by
 obtain⟨A,c,e,b⟩:=h;exact⟨A,c,e,jd b f⟩
theorem RowU.newT {V:Option Addr→Nat→Value} {B f:Nat} {T b:TypeId} {sz n:Nat} {xs:List Value} (k:T≠b) (v:Value) (X X':World) (h:RowU V B T sz n xs v X) (m:Grw (jR f b) X X'):RowU V B T sz n xs v X':=by
 obtain⟨A,c,j,i,h3⟩:=h;refine⟨A,c,j,i,?_⟩;rcases h3 with h3 | ⟨g,cap,cur,e1,e2,e3,e4⟩
 · exact .inl h3
 · refine .inr ⟨g,cap,cur,e1,e2,(m.block g (Array.getElem?_eq_some_iff.1 e3).1 ?_).trans e3,e4⟩
   rintro ⟨_,cs,fr,e⟩
   rw[e3] at e;injection e with e;injection e with _ e;exact k e
theorem oF {V:Option Addr→Nat→Value} {f:FuncId} {args:Array Value} {X:World} {B b n sz:Nat} {T:TypeId} {xs:List Value} {r:Result Next} (hx:r=.ok (.enter f args) X) (i:Calls P f args X fun e X'=>∃A c,e=.returned (V A c)∧X'.ownsRow b T sz (.slice A n c) n xs∧Below X.heap.size X X') (hB:B≤b):cz P (RowU V B T sz n xs) X r:=by
 subst hx;exact⟨rfl,i.mono fun e X' ⟨A,c,h,j,k⟩=>⟨_,h,k,A,c,rfl,a6 j hB⟩⟩
end
theorem St.addRow {M:List Nat} {w0 w X:World} {L j:List Ent} {m:TypeId} {sz n:Nat} {v:Value} {xs:List Value} (h:St M w0 w L) (h':St M w0 X j) (p:∀e∈j,∀b,e.dom b→b<w.heap.size) (hr:X.ownsRow w.heap.size m sz v n xs):St M w0 X (.row v n m sz xs::j):=by
 refine⟨h'.os,h'.tape,h'.output,h'.size,h'.block,fun e c=>?_,fun e c k f=>?_,List.pairwise_cons.2 ⟨fun e c k f i=>?_,h'.sep⟩⟩
 · rcases List.mem_cons.1 c with rfl | c
   · exact a6 hr (Nat.zero_le _)
   · exact h'.ok e c
 · rcases List.mem_cons.1 c with rfl | c
   · have:=hr.lt k f
     exact⟨.inl (Nat.le_trans h.size this.1),this.2⟩
   · exact h'.new e c k f
 · have r:=(hr.lt k f).1
   have q:=p e c k i;omega
theorem St.newBoxRow {M:List Nat} {w0 w X:World} {L:List Ent} {b:Nat} {cs:Array Value} {T p:TypeId} {sz n:Nat} {v:Value} {xs:List Value} (h:St M w0 w L) (u:Below w.heap.size w X) (r:Box X b cs T) (hB:w.heap.size≤b) (hr:X.ownsRow w.heap.size p sz v n xs) (t:T≠p):St M w0 X (.box b cs T::.row v n p sz xs::L):=by
 have i:St M w0 X (.row v n p sz xs::L):=St.addRow h (h.grow u) (fun e c k j=>(h.new e c k j).2) hr;refine⟨i.os,i.tape,i.output,i.size,i.block,fun e c=>?_,fun e c k j=>?_,List.pairwise_cons.2 ⟨fun e c k j f=>?_,i.sep⟩⟩
 · rcases List.mem_cons.1 c with rfl | c
   · exact r
   · exact i.ok e c
 · rcases List.mem_cons.1 c with rfl | c
   · rw[show k=b from j];exact⟨.inl (Nat.le_trans h.size hB),r.lt⟩
   · exact i.new e c k j
 · have q:k=b:=j
   subst q;rcases List.mem_cons.1 c with rfl | c
   · rcases hr.2 with ⟨s,_⟩ | ⟨g,cap,cur,s,_,e3,_⟩
     · rw[s] at f;cases f
     · rw[s] at f
       have:some g=some k:=f;injection this with this;rw[this] at e3;have m:=(r:X.heap[k]? = _).symm.trans e3;injection m with m;injection m with _ m;exact t m
   · have:=(h.new e c k f).2
     omega
open Go.RowKit Go.Sort
variable {ds:List Deferred}
section
variable {P:Program} {ops:Array Oper} {Q:Exit→Act→World→Prop} {w:World} {tail:List Oper} {l:List (Nat × Value)} {o:Oper} {a:Act} {N d:Nat} {cs:List (Nat × Nat)}
end
section
variable {P:Program} {ρ:Operand→Value} {X:World}
end
open Go.RowKit Go.Sort
variable {ds:List Deferred}
structure BxD where
 a:Nat
 s:Nat
 x:Tmp
 y:Tmp
 T:TypeId
 z:Array Value
 v:Value
section
variable {P:Program} {ops:Array Oper} {Q:Exit→Act→World→Prop} {w:World} {tail:List Oper}
structure BoxI (listed:Array Bool) (w:World) (bs:List BxD) (vals:Nat→Value) (X:World):Prop where
 box:∀q∈bs,listed.getD q.a false=true→∃b,vals q.a=.pointer (some ⟨b,0,none⟩)∧w.heap.size≤b∧Box X b (if listed.getD q.s false=true then q.v.cells else q.z) q.T
 ne:∀q∈bs,∀r∈bs,q.a≠r.a→listed.getD q.a false=true→listed.getD r.a false=true→vals q.a≠vals r.a
variable {n N:Nat} {fl:List Bool} {bs:List BxD} {a afin:Act}
end
theorem St.pull' {M:List Nat} {w X:World} {L:List Ent} (h:St M w X L) (i:Nat) {e:Ent} (p:L[i]? = some e):St M w X (e::L.eraseIdx i):=by
 obtain⟨j,rfl⟩:=List.getElem?_eq_some_iff.1 p
 have e:L=L.take i ++ L[i]::L.drop (i+1):=by rw[←List.drop_eq_getElem_cons j,List.take_append_drop]
 have m:List.Perm L (L[i]::L.eraseIdx i):=by
  rw[List.eraseIdx_eq_take_drop_succ]
  conv=>lhs;rw[e]
  exact List.perm_middle
 exact⟨h.os,h.tape,h.output,h.size,h.block,fun f hf=>h.ok f (m.mem_iff.2 hf),fun f hf=>h.new f (m.mem_iff.2 hf),(m.pairwise_iff (fun {x y} k b q c=>k b c q)).1 h.sep⟩
section
variable {P:Program} {ρ:Operand→Value} {X:World} {d:Option Tmp} {ty:TypeId} {ps:String} {af:Array Edge} {g:Option (Nat × Bool)}
end
open Go.RowKit Go.Sort
variable {ds:List Deferred}
section
variable {P:Program} {ops:Array Oper} {Q:Exit→Act→World→Prop} {w:World}
structure PostInv (ops:Array Oper) (c:Nat) (a2 afin:Act) (X2:World) (listed:Array Bool) (b:Act) (X:World):Prop where
 below:Below X2.heap.size X2 X
 lsz:listed.size=ops.size
 pre:∀i,i≤c→listed.getD i false=true
 size:b.tmps.size=a2.tmps.size
 defers:b.defers=a2.defers
 done:∀i d,c<i→aU ops i=some d→listed.getD i false=true→b.tmps[d]? = afin.tmps[d]?
 rest:∀t,(∀i,c<i→aU ops i=some t→listed.getD i true=false)→b.tmps[t]? = a2.tmps[t]?
structure PostC (ops:Array Oper) (c i N:Nat) (o:Oper):Prop where
 dst:∃d,o.dst=some d∧d<N∧∀j,c<j→j<ops.size→j≠i→aU ops j≠some d
 wait:∃e∈o.after,Region.binds .any e=true∧c≤e.on∧e.on<i
 after:∀e∈o.after,Region.binds .any e=true→e.on<i
 look:∀t∈o.looksAt ops,∀j,c<j→j<ops.size→aU ops j=some t→j<i∧Region.waitsFor .any ops i j=true
end
end Go.Proofs.YtcfdpfmchchkaaaGreatDoor
