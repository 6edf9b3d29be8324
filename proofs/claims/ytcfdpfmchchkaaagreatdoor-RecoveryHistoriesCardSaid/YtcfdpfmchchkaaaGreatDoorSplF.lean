/-
  An append to a literal without elements, in a drawn region: nothing old is written.
  A drawn region whose head writes into blocks that stand (one operation) and into boxes that it makes itself (stores). No program in sight.
  A drawn region with several appends, each onto what the one before it gave, the first one onto a literal without elements. No program in sight.
  A drawn region in which several new boxes, maybe of one type, are laid and stored over as a whole, by values that no order turns. No program in sight.
-/
import Derived.Test.YtcfdpfmchchkaaaGreatDoorSplE
namespace Go.Proofs.YtcfdpfmchchkaaaGreatDoor
set_option linter.unusedVariables false
set_option linter.unusedSimpArgs false
open Go.RowKit Go.Sort
section
variable {P:Program} {ρ:Operand→Value} {X:World}
end
open Go.RowKit Go.Sort
variable {ds:List Deferred}
def mT (B:Nat) (T:TypeId) (b:Nat) (o:Option Obj):Prop:=B≤b∧∃cs fr,o=some (.cells cs T fr)
def fi (B:Nat) (oc:List (Nat × (Nat→Prop))) (news:List (Nat × TypeId)):List wU:=oc.map (fun p=>(p.1,(fun b _=>p.2 b),sC 0)) ++ news.map (fun p=>(p.1,mT B p.2,fun _ _=>True))
theorem wC {α:Type} {φ:α→Prop} {a:α} (h:φ a):∀p∈[a],φ p:=fun p hp=>by rw[List.mem_singleton.1 hp];exact h
theorem bQ {α:Type} {φ:α→Prop}:∀p∈([]:List α),φ p:=fun p hp=>by cases hp
theorem kg {B:Nat} {oc:List (Nat × (Nat→Prop))} {news:List (Nat × TypeId)} {p:wU} (h:p∈fi B oc news):(∃q∈oc,p=(q.1,(fun b _=>q.2 b),sC 0))∨∃q∈news,p=(q.1,mT B q.2,fun _ _=>True):=by
 unfold fi at h;rcases List.mem_append.1 h with h | h
 · obtain⟨q,h1,h2⟩:=List.mem_map.1 h;exact .inl ⟨q,h1,h2.symm⟩
 · obtain⟨q,h1,h2⟩:=List.mem_map.1 h;exact .inr ⟨q,h1,h2.symm⟩
theorem Grw.conv {O O':Nat→Option Obj→Prop} {w X:World} (h:Grw O w X) (hO:∀b,b<w.heap.size→O b w.heap[b]?→O' b w.heap[b]?):Grw O' w X:=
 ⟨h.os,h.tape,h.output,h.size,fun b hb hne=>h.block b hb (fun ho=>hne (hO b hb ho)),h.shape⟩
section
variable {P:Program} {ops:Array Oper} {Q:Exit→Act→World→Prop} {w:World} {tail:List Oper} {l:List (Nat × Value)} {o:Oper} {a:Act} {N d:Nat} {O:Nat→Prop} {oc:List (Nat × (Nat→Prop))} {news:List (Nat × TypeId)}
theorem tU {B:Nat} (hB:B=w.heap.size) (hO:∀p∈oc,∀b,p.2 b→O b) {X:World} (h:Grw (jJ (fi B oc news)) w X):Grw (fun b _=>O b) w X:=h.conv fun b hb ⟨p,hp,hpo⟩=>by
 rcases kg hp with ⟨q,h1,rfl⟩ | ⟨q,h1,rfl⟩
 · exact hO q h1 b hpo
 · have h2:B≤b:=hpo.1;omega
theorem BY {k B:Nat} (hB:B=w.heap.size) (hO:∀p∈oc,∀b,p.2 b→O b) {X:World} (h:Grw (uo (fi B oc news) k) w X):Grw (fun b _=>O b) w X:=
 tU hB hO (news:=news) (h.conv fun b _ ⟨p,hp,_,hpo⟩=>⟨p,hp,hpo⟩)
theorem xO {N:Nat} {a:Act} {w:World} {l:List Oper} {sl:List (Nat × Value)} (ha:Has ds a N sl) (O:Nat→Prop) (oc:List (Nat × (Nat→Prop))) (news:List (Nat × TypeId)) (fl:List Bool) (nds:List NdB) (hO:∀p∈oc,∀b,p.2 b→O b)
 (h:cV P l.toArray (Grw (fun b _=>O b) w) (fun g=>fX P l.toArray (fi w.heap.size oc news) w Q (l.drop fl.length) nds g []) (pick fl l) a)
 (hB:iy l.toArray fl fl.length N (nds.map fun d=>(d.k,d.deps))=true) :
 nk P l Q a w:=by
 obtain⟨afin,h1,h2⟩:=iI _ _ h;exact oU (fi w.heap.size oc news) fl nds (by rw[ha.size];exact hB) ⟨afin,iC (fun X hX=>tU rfl hO hX) _ _ h1,h2⟩
theorem eS {id N:Nat} {a:Act} {w:World} {l:List Oper} {sl:List (Nat × Value)} (ha:Has ds a N sl) (O:Nat→Prop) (oc:List (Nat × (Nat→Prop))) (news:List (Nat × TypeId)) (fl:List Bool) (nds:List NdB) (hm:P.follows .mixedOrders=true) (hO:∀p∈oc,∀b,p.2 b→O b)
 (h:cV P l.toArray (Grw (fun b _=>O b) w) (fun g=>fX P l.toArray (fi w.heap.size oc news) w Q (l.drop fl.length) nds g []) (pick fl l) a)
 (hB:iy l.toArray fl fl.length N (nds.map fun d=>(d.k,d.deps))=true) :
 (Code.region id l.toArray true).wp P Q a w:=wp_region_any hm (xO ha O oc news fl nds hO h hB)
theorem wq {sts:List wU} {k:Nat} {R:Value→World→Prop} {X:World} {r:Result Next} (h:cn P R X r):eN P sts k R X r:=by
 cases r with
 | ok nx w'=>
  cases nx<;>simp only[cn] at h<;>simp only[eN]
  case value u=>exact⟨.inl h.1,h.2⟩
  case enter f args=>exact⟨h.1,h.2.mono fun e X'' ⟨v,h1,h2,h3⟩=>⟨v,h1,.inl h2,h3⟩⟩
 | halt x w'=>simp only[cn] at h
theorem ec {nds:List NdB} {k:Nat} {deps:List Nat} {R:Value→World→Prop} {Φ:List (Nat × (World→Prop))} (ha:Has ds a N l) (ho:ops[k]? = some o) (hd:o.dst=some d) (hN:Nat.blt d N=true) (hO:∀p∈oc,∀b,p.2 b→O b)
 (hst:∀v X X',R v X→Below X.heap.size X X'→R v X') (hst2:∀p∈oc,∀v X X',R v X→Kp p.2 0 X X'→R v X') (hst3:∀p∈news,∀v X X',R v X→Grw (mT w.heap.size p.2) X X'→R v X') (hx:∀X,Grw (fun b _=>O b) w X→told deps Φ X→cn P R X ((execOp a.eval o).run P X))
 (k':∀v a',Has ds a' N ((d,v)::l)→fX P ops (fi w.heap.size oc news) w Q tail nds a' ((k,R v)::Φ)):fX P ops (fi w.heap.size oc news) w Q tail (⟨k,deps,fun _=>R⟩::nds) a Φ:=by
 refine⟨⟨fun v X X'=>hst v X X',fun p hp _ _ v X X' hR hX=>?_,fun _ _ _ _ h=>h⟩,fun o' ho' X hX hE hΦ=>?_,fun v=>?_⟩
 · rcases kg hp with ⟨q,h1,rfl⟩ | ⟨q,h1,rfl⟩
   · exact hst2 q h1 v X X' hR hX
   · exact hst3 q h1 v X X' hR hX.1
 · rw[ho] at ho';cases ho'
   exact wq (hx X (BY rfl hO hX) hΦ)
 · have e:aC ops k=some d:=by unfold aC;rw[ho];exact hd
   show fX P ops (fi w.heap.size oc news) w Q tail nds (a.put (aC ops k) v) _;rw[e];exact k' v _ (ha.put hN v)
def IsRow (v:Value) (T:TypeId) (sz n:Nat) (xs:List Value) (_:Value) (X:World):Prop:=X.ownsRow 0 T sz v n xs
theorem IsRow.stable {v:Value} {T:TypeId} {sz n:Nat} {xs:List Value} (u:Value) (X X':World) (h:IsRow v T sz n xs u X) (hb:Below X.heap.size X X'):IsRow v T sz n xs u X':=gH h hb
def NewAny (B n:Nat) (T:TypeId) (v:Value) (X:World):Prop:=∃b,v=.pointer (some ⟨b,0,none⟩)∧B≤b∧∃cs,Box X b cs T∧cs.size=n
theorem NewAny.stable {B n:Nat} {T:TypeId} (v:Value) (X X':World) (h:NewAny B n T v X) (hb:Below X.heap.size X X'):NewAny B n T v X':=by
 obtain⟨b,h1,h2,cs,h3,h4⟩:=h;exact⟨b,h1,h2,cs,h3.below hb,h4⟩
theorem NewAny.newT {B n B':Nat} {T T':TypeId} (v:Value) (X X':World) (h:NewAny B n T v X) (hX:Grw (mT B' T') X X'):NewAny B n T v X':=by
 obtain⟨b,h1,h2,cs,h3,h4⟩:=h;obtain⟨cs',h5,h6⟩:=hX.shape b cs T (0,0) h3;exact⟨b,h1,h2,cs',h6,by rw[h5];exact h4⟩
theorem NewB.newT {B B':Nat} {f:Nat→Value} {cs:Array Value} {T T':TypeId} (hT:T≠T') (v:Value) (X X':World) (h:NewB B f cs T v X) (hX:Grw (mT B' T') X X'):NewB B f cs T v X':=by
 obtain⟨b,h1,h2,h3⟩:=h;refine⟨b,h1,h2,(hX.block b h3.lt ?_).trans h3⟩
 rintro ⟨_,cs',fr,e⟩
 rw[show X.heap[b]? = some (.cells cs T (0,0)) from h3] at e;injection e with e;injection e with _ e;exact hT e
theorem kD {X:World} {B n:Nat} {cs:Array Value} {T:TypeId} {r:Result Next} (hx:r=.ok (.value (.pointer (some ⟨X.heap.size,0,none⟩))) (X.alloc (.cells cs T))) (hB:B≤X.heap.size) (hn:cs.size=n):cn P (NewAny B n T) X r:=by
 subst hx;exact⟨dU (Below.refl _ _) _,X.heap.size,rfl,hB,cs,Box.new X cs T,hn⟩
def StoY (B:Nat) (T:TypeId) (x:Nat) (Y:Act→Value→Prop) (g:Act) (_:Value) (X:World):Prop:=∃b,g.tmps[x]? = some (.pointer (some ⟨b,0,none⟩))∧B≤b∧∃v,Y g v∧Box X b v.cells T
def Cu (y:Nat) (g:Act) (v:Value):Prop:=g.tmps[y]? = some v
def p3 (u:Value) (_:Act) (v:Value):Prop:=v=u
theorem gm {nds:List NdB} {k kx x y:Nat} {T:TypeId} {Y:Act→Value→Prop} {deps:List Nat} {Φ:List (Nat × (World→Prop))} (ha:Has ds a N l) (ho:ops[k]? = some o) (hop:o.op=.store T (.tmp x) (.tmp y)∧o.dst=none) (hk:news=[(k,T)]) (hO:∀p∈oc,∀b,p.2 b→b<w.heap.size)
 (hdx:deps.contains kx=true∧aC ops kx=some x) {vx vy:Value} (hYa:Y a vy) (hYg:∀g' v,(∀j∈deps,∀t,aC ops j=some t→g'.tmps[t]? = a.tmps[t]?)→Y a v→Y g' v) (hvx:look l x=some vx) (hvy:look l y=some vy) {n:Nat} (hs:(P.info? T).map (·.size)=some n) (hin:∀q∈oc,q.1∉deps)
 (hx:∀X,Grw (fun b _=>∃p∈oc,p.2 b) w X→told deps Φ X→NewAny w.heap.size n T vx X∧vy.cells.size=n∧vy.cells.toList.all (·.oneCell')=true)
 (k':∀v,fX P ops (fi w.heap.size oc news) w Q tail nds a ((k,StoY w.heap.size T x Y a v)::Φ)):fX P ops (fi w.heap.size oc news) w Q tail (⟨k,deps,StoY w.heap.size T x Y⟩::nds) a Φ:=by
 refine⟨⟨fun v X X' ⟨b,h1,h2,u,h3,h4⟩ hb=>⟨b,h1,h2,u,h3,h4.below hb⟩,fun p hp hne _ v X X' ⟨b,h1,h2,u,h3,h4⟩ hX=>?_,fun g' v X hg ⟨b,h1,h2,u,h3,h4⟩=>?_⟩,fun o' ho' X hX hE hΦ=>?_,fun v=>?_⟩
 · rcases kg hp with ⟨q,q1,rfl⟩ | ⟨q,q1,rfl⟩
   · exact⟨b,h1,h2,u,h3,(hX.1.block b h4.lt (fun h=>by have:=hO q q1 b h;omega)).trans h4⟩
   · rw[hk] at q1;rw[List.mem_singleton.1 q1] at hne;exact absurd rfl hne
 · exact⟨b,(hg kx (List.contains_iff_mem.1 hdx.1) x hdx.2).trans h1,h2,u,hYg g' u hg h3,h4⟩
 · rw[ho] at ho';cases ho'
   obtain⟨⟨b,rfl,h2,cs,h3,h4⟩,h5,h6⟩:=hx X (by
    refine hX.conv fun b hb ⟨p,hp,_,hpo⟩=>?_;rcases kg hp with ⟨q,q1,rfl⟩ | ⟨q,q1,rfl⟩
    · exact⟨q,q1,hpo⟩
    · have h2:w.heap.size≤b:=hpo.1;omega) hΦ
   have hl:=u4 (P:=P) (ρ:=a.eval) (o:=o) (ty:=T) (X:=X) hop.1 (ha.ev (o:=.tmp x) hvx) (ha.ev (o:=.tmp y) hvy) rfl (by rw[hs];simp[h5]) h3 h6 (by rw[show vy.cells.toList.length=cs.toList.length by simp[h4,h5]];exact Nat.beq_refl _)
   have hmem:(k,mT w.heap.size T,fun _ _=>True)∈fi w.heap.size oc news:=by unfold fi;rw[hk];exact List.mem_append_right _ (List.mem_singleton.2 rfl)
   have hcv:∀X',Kp (fun k'=>k'=b) 0 X X'→wo (fi w.heap.size oc news) k X X':=fun X' hK=>.inr ⟨_,hmem,rfl,hK.1.conv fun b' hb' e=>by
    have e':b'=b:=e;subst e'
    exact⟨h2,cs,(0,0),h3⟩,trivial⟩
   have hR:∀u X',IsBox b T vy.cells.toList.toArray u X'→StoY w.heap.size T x Y a u X':=fun u X' hB=>⟨b,ha.slot x _ hvx,h2,vy,hYa,by simpa [IsBox] using hB⟩;generalize (execOp a.eval o).run P X=r at hl
   cases r with
   | halt e X'=>simp only[fO] at hl
   | ok nx X'=>
    cases nx<;>simp only[fO] at hl<;>simp only[eN]
    case value u=>exact⟨hcv _ hl.1,hR _ _ hl.2⟩
    case skip=>exact⟨hcv _ hl.1,hR _ _ hl.2⟩
    case enter f args=>exact⟨hl.1,hl.2.mono fun e X'' ⟨v,g1,g2,g3⟩=>⟨v,g1,hcv _ g2,hR _ _ g3⟩⟩
 · have e:aC ops k=none:=by unfold aC;rw[ho];exact hop.2
   show fX P ops (fi w.heap.size oc news) w Q tail nds (a.put (aC ops k) v) _;rw[e];exact k' v
theorem iw {Φ:List (Nat × (World→Prop))} (hO:∀p∈oc,∀b,p.2 b→O b) (h:∀X,Grw (fun b _=>O b) w X→dB Φ X→wpList P ops Q tail a X):fX P ops (fi w.heap.size oc news) w Q tail [] a Φ:=fun X hX hΦ=>h X (tU rfl hO hX) hΦ
theorem gC {deps:List Nat} {u:Value}:∀g' v,(∀j∈deps,∀t,aC ops j=some t→g'.tmps[t]? = a.tmps[t]?)→p3 u a v→p3 u g' v:=fun g' v hg h=>h
theorem StoY.slot {B:Nat} {T:TypeId} {x y:Nat} {v vx vy:Value} {X:World} (ha:Has ds a N l) (hx:look l x=some vx) (hy:look l y=some vy) (h:StoY B T x (Cu y) a v X):∃b,vx=.pointer (some ⟨b,0,none⟩)∧B≤b∧Box X b vy.cells T:=by
 obtain⟨b,h1,h2,u,h3,h4⟩:=h;have e1:=(ha.slot x _ hx).symm.trans h1;have e2:=(ha.slot y _ hy).symm.trans h3;injection e1 with e1;injection e2 with e2;exact⟨b,e1,h2,by rw[e2];exact h4⟩
theorem StoY.val {B:Nat} {T:TypeId} {x:Nat} {v vx u:Value} {X:World} (ha:Has ds a N l) (hx:look l x=some vx) (h:StoY B T x (p3 u) a v X):∃b,vx=.pointer (some ⟨b,0,none⟩)∧B≤b∧Box X b u.cells T:=by
 obtain⟨b,h1,h2,u',h3,h4⟩:=h;have e1:=(ha.slot x _ hx).symm.trans h1;injection e1 with e1;exact⟨b,e1,h2,by rw[show u'=u from h3] at h4;exact h4⟩
theorem IsVal.newT {u:Value} {B:Nat} {T:TypeId} (v:Value) (X X':World) (h:IsVal u v X) (_:Grw (mT B T) X X'):IsVal u v X':=h
theorem PairU.newT {ι:Type} {V:ι→Value} {F:ι→Prop} {B:Nat} {T:TypeId} (v:Value) (X X':World) (h:PairU V F v X) (_:Grw (mT B T) X X'):PairU V F v X':=h
theorem ExtU0.newT {ι:Type} {V:ι→Value} {F:ι→Prop} {B:Nat} {T:TypeId} (v:Value) (X X':World) (h:ExtU0 V F v X) (_:Grw (mT B T) X X'):ExtU0 V F v X':=h
theorem ExtU1.newT {ι:Type} {V:ι→Value} {F:ι→Prop} {B:Nat} {T:TypeId} (v:Value) (X X':World) (h:ExtU1 V F v X) (_:Grw (mT B T) X X'):ExtU1 V F v X':=h
def MovS (src:Nat) (g:Act) (v:Value) (_:World):Prop:=g.tmps[src]? = some v
def ExtS (src i:Nat) (g:Act) (v:Value) (_:World):Prop:=∃vs,g.tmps[src]? = some (.tuple vs)∧vs[i]? = some v
theorem MovS.get {src:Nat} {u v:Value} {X:World} (ha:Has ds a N l) (hu:look l src=some u) (h:MovS src a v X):v=u:=by
 have:=(ha.slot src _ hu).symm.trans h;injection this with this;exact this.symm
theorem ExtS.get {src i:Nat} {vs:Array Value} {v y:Value} {X:World} (ha:Has ds a N l) (hu:look l src=some (.tuple vs)) (hi:vs[i]? = some y) (h:ExtS src i a v X):v=y:=by
 obtain⟨us,h1,h2⟩:=h;have:=(ha.slot src _ hu).symm.trans h1;injection this with this;injection this with this;rw[←this,hi] at h2;exact(Option.some.inj h2).symm
theorem uS {nds:List NdB} {k:Nat} {deps:List Nat} {R:Act→Value→World→Prop} {Φ:List (Nat × (World→Prop))} (ha:Has ds a N l) (ho:ops[k]? = some o) (hd:o.dst=some d) (hN:Nat.blt d N=true)
 (hR:∀g v X X',R g v X→R g v X') (hdep:∀g' v X,(∀j∈deps,∀t,aC ops j=some t→g'.tmps[t]? = a.tmps[t]?)→R a v X→R g' v X) (hx:∀X,told deps Φ X→∃v,(execOp a.eval o).run P X=.ok (.value v) X∧R a v X)
 (k':∀v a',Has ds a' N ((d,v)::l)→fX P ops (fi w.heap.size oc news) w Q tail nds a' ((k,R a v)::Φ)):fX P ops (fi w.heap.size oc news) w Q tail (⟨k,deps,R⟩::nds) a Φ:=by
 refine⟨⟨fun v X X' h _=>hR a v X X' h,fun p hp _ _ v X X' h _=>hR a v X X' h,hdep⟩,fun o' ho' X hX hE hΦ=>?_,fun v=>?_⟩
 · rw[ho] at ho';cases ho'
   obtain⟨v,h1,h2⟩:=hx X hΦ;rw[h1];exact⟨.inl (Below.refl _ _),h2⟩
 · have e:aC ops k=some d:=by unfold aC;rw[ho];exact hd
   show fX P ops (fi w.heap.size oc news) w Q tail nds (a.put (aC ops k) v) _;rw[e];exact k' v _ (ha.put hN v)
theorem nC {nds:List NdB} {k kx src:Nat} {deps:List Nat} {Φ:List (Nat × (World→Prop))} (ha:Has ds a N l) (ho:ops[k]? = some o) (hop:o.op=.move (.tmp src)∨o.op=.assign (.tmp src)) (hd:o.dst=some d) (hN:Nat.blt d N=true) (hdx:deps.contains kx=true∧aC ops kx=some src) {u:Value} (hu:look l src=some u)
 (k':∀v a',Has ds a' N ((d,v)::l)→fX P ops (fi w.heap.size oc news) w Q tail nds a' ((k,MovS src a v)::Φ)):fX P ops (fi w.heap.size oc news) w Q tail (⟨k,deps,MovS src⟩::nds) a Φ:=
 uS ha ho hd hN (fun _ _ _ _ h=>h) (fun g' v X hg h=>(hg kx (List.contains_iff_mem.1 hdx.1) src hdx.2).trans h) (fun X _=>⟨u,by
  have hev:a.eval (.tmp src)=u:=ha.ev (o:=.tmp src) hu;unfold execOp
  rcases hop with h | h<;>simp[h,hev],ha.slot src _ hu⟩) k'
theorem mm {nds:List NdB} {k kx src i:Nat} {deps:List Nat} {Φ:List (Nat × (World→Prop))} (ha:Has ds a N l) (ho:ops[k]? = some o) (hop:o.op=.extract (.tmp src) i) (hd:o.dst=some d) (hN:Nat.blt d N=true) (hdx:deps.contains kx=true∧aC ops kx=some src) {u:Value} (hu:look l src=some u)
 (hx:∀X,told deps Φ X→∃vs y,u=.tuple vs∧vs[i]? = some y)
 (k':∀v a',Has ds a' N ((d,v)::l)→fX P ops (fi w.heap.size oc news) w Q tail nds a' ((k,ExtS src i a v)::Φ)):fX P ops (fi w.heap.size oc news) w Q tail (⟨k,deps,ExtS src i⟩::nds) a Φ:=
 uS ha ho hd hN (fun _ _ _ _ h=>h) (fun g' v X hg ⟨vs,h,h2⟩=>⟨vs,(hg kx (List.contains_iff_mem.1 hdx.1) src hdx.2).trans h,h2⟩) (fun X hΦ=>by
  obtain⟨vs,y,h1,h2⟩:=hx X hΦ;subst h1;have hev:a.eval (.tmp src)=.tuple vs:=ha.ev (o:=.tmp src) hu;refine⟨y,?_,vs,ha.slot src _ hu,h2⟩;unfold execOp
  simp[hop,hev,Instr.extract,h2]) k'
def BoxY (b:Nat) (T:TypeId) (y:Nat) (g:Act) (_:Value) (X:World):Prop:=∃u,g.tmps[y]? = some u∧Box X b u.cells T
theorem BoxY.get {b:Nat} {T:TypeId} {y:Nat} {v vy:Value} {X:World} (ha:Has ds a N l) (hy:look l y=some vy) (h:BoxY b T y a v X):Box X b vy.cells T:=by
 obtain⟨u,h1,h2⟩:=h;have:=(ha.slot y _ hy).symm.trans h1;injection this with this;rw[this];exact h2
def RowU (V:Option Addr→Nat→Value) (B:Nat) (T:TypeId) (sz n:Nat) (xs:List Value) (v:Value) (X:World):Prop:=∃A c,v=V A c∧X.ownsRow B T sz (.slice A n c) n xs
theorem RowU.stable {V:Option Addr→Nat→Value} {B:Nat} {T:TypeId} {sz n:Nat} {xs:List Value} (v:Value) (X X':World) (h:RowU V B T sz n xs v X) (hb:Below X.heap.size X X'):RowU V B T sz n xs v X':=by
 obtain⟨A,c,h1,h2⟩:=h;exact⟨A,c,h1,gH h2 hb⟩
theorem RowU.newT {V:Option Addr→Nat→Value} {B B':Nat} {T T':TypeId} {sz n:Nat} {xs:List Value} (hT:T≠T') (v:Value) (X X':World) (h:RowU V B T sz n xs v X) (hX:Grw (mT B' T') X X'):RowU V B T sz n xs v X':=by
 obtain⟨A,c,h1,h2,h3⟩:=h;refine⟨A,c,h1,h2,?_⟩;rcases h3 with h3 | ⟨g,cap,cur,e1,e2,e3,e4⟩
 · exact .inl h3
 · refine .inr ⟨g,cap,cur,e1,e2,(hX.block g (Array.getElem?_eq_some_iff.1 e3).1 ?_).trans e3,e4⟩
   rintro ⟨_,cs,fr,e⟩
   rw[e3] at e;injection e with e;injection e with _ e;exact hT e
theorem uA {V:Option Addr→Nat→Value} {f:FuncId} {args:Array Value} {X:World} {B B' n sz:Nat} {T:TypeId} {xs:List Value} {r:Result Next} (hx:r=.ok (.enter f args) X) (hc:Calls P f args X fun e X'=>∃A c,e=.returned (V A c)∧X'.ownsRow B' T sz (.slice A n c) n xs∧Below X.heap.size X X') (hB:B≤B'):cn P (RowU V B T sz n xs) X r:=by
 subst hx;exact⟨rfl,hc.mono fun e X' ⟨A,c,he,ho,hb⟩=>⟨_,he,hb,A,c,rfl,bW ho hB⟩⟩
end
theorem St.addRow {M:List Nat} {w0 w X:World} {L L':List Ent} {T2:TypeId} {sz n:Nat} {v:Value} {xs:List Value} (h:St M w0 w L) (h':St M w0 X L') (hL:∀e∈L',∀b,e.dom b→b<w.heap.size) (hr:X.ownsRow w.heap.size T2 sz v n xs):St M w0 X (.row v n T2 sz xs::L'):=by
 refine⟨h'.os,h'.tape,h'.output,h'.size,h'.block,fun e he=>?_,fun e he k hk=>?_,List.pairwise_cons.2 ⟨fun e he k hk hek=>?_,h'.sep⟩⟩
 · rcases List.mem_cons.1 he with rfl | he
   · exact bW hr (Nat.zero_le _)
   · exact h'.ok e he
 · rcases List.mem_cons.1 he with rfl | he
   · have:=hr.lt k hk
     exact⟨.inl (Nat.le_trans h.size this.1),this.2⟩
   · exact h'.new e he k hk
 · have h1:=(hr.lt k hk).1
   have h2:=hL e he k hek;omega
open Go.RowKit Go.Sort
variable {ds:List Deferred}
section
variable {P:Program} {ops:Array Oper} {Q:Exit→Act→World→Prop} {w:World} {tail:List Oper} {l:List (Nat × Value)} {o:Oper} {a:Act} {N d:Nat} {cs:List (Nat × Nat)}
end
section
variable {P:Program} {ρ:Operand→Value} {X:World}
end
open Go.RowKit Go.Sort
variable {ds:List Deferred}
structure BxD where
 a:Nat
 s:Nat
 x:Tmp
 y:Tmp
 T:TypeId
 z:Array Value
 v:Value
section
variable {P:Program} {ops:Array Oper} {Q:Exit→Act→World→Prop} {w:World} {tail:List Oper}
structure BoxI (listed:Array Bool) (w:World) (bs:List BxD) (vals:Nat→Value) (X:World):Prop where
 box:∀q∈bs,listed.getD q.a false=true→∃b,vals q.a=.pointer (some ⟨b,0,none⟩)∧w.heap.size≤b∧Box X b (if listed.getD q.s false=true then q.v.cells else q.z) q.T
 ne:∀q∈bs,∀r∈bs,q.a≠r.a→listed.getD q.a false=true→listed.getD r.a false=true→vals q.a≠vals r.a
variable {n N:Nat} {fl:List Bool} {bs:List BxD} {a afin:Act}
end
section
variable {P:Program} {ρ:Operand→Value} {X:World} {d:Option Tmp} {ty:TypeId} {ps:String} {af:Array Edge} {g:Option (Nat × Bool)}
end
end Go.Proofs.YtcfdpfmchchkaaaGreatDoor
