/- Regions that draw their  -/
import Derived.Test.YtcfdpfmchchkaaaGreatDoorKitA
namespace Go.Proofs.YtcfdpfmchchkaaaGreatDoor
set_option linter.unusedVariables false
set_option linter.unusedSimpArgs false
open Go.RowKit Go.Sort
structure Nd where
 k:Nat
 deps:List Nat
 R:Value→World→Prop
 st:Bool
structure NdA where
 k:Nat
 deps:List Nat
 R:Act→Value→World→Prop
 st:Bool
structure NdB where
 k:Nat
 deps:List Nat
 R:Act→Value→World→Prop
def Nd.lift (d:Nd):NdA:=⟨d.k,d.deps,fun _=>d.R,d.st⟩
def NdA.lift (d:NdA):NdB:=⟨d.k,d.deps,d.R⟩
def told (deps:List Nat):List (Nat × (World→Prop))→World→Prop
 | [],_=>True
 | (j,F)::r,X=>if deps.contains j=true then F X∧told deps r X else told deps r X
def eG:List (Nat × (World→Prop))→World→Prop
 | [],_=>True
 | (_,F)::r,X=>F X∧eG r X
structure Grw (O:Nat→Option Obj→Prop) (w X:World):Prop where
 os:X.os=w.os
 tape:X.tape=w.tape
 output:X.output=w.output
 size:w.heap.size≤X.heap.size
 block:∀b,b<w.heap.size→¬O b w.heap[b]?→X.heap[b]? = w.heap[b]?
 shape:∀(b:Nat) (cs:Array Value) (T:TypeId) (fr:Nat × Nat),w.heap[b]? = some (Obj.cells cs T fr)→∃cs':Array Value,cs'.size=cs.size∧X.heap[b]? = some (Obj.cells cs' T fr)
theorem Grw.refl (O:Nat→Option Obj→Prop) (w:World):Grw O w w:=⟨rfl,rfl,rfl,Nat.le_refl _,fun _ _ _=>rfl,fun b cs T fr h=>⟨cs,rfl,h⟩⟩
theorem Grw.trans {O:Nat→Option Obj→Prop} {a b c:World} (h:Grw O a b) (k:Grw O b c):Grw O a c:=
 ⟨k.os.trans h.os,k.tape.trans h.tape,k.output.trans h.output,Nat.le_trans h.size k.size,fun x hx d=>by
  have e:=h.block x hx d
  exact(k.block x (Nat.lt_of_lt_of_le hx h.size) (by rw[e];exact d)).trans e,
  fun x cs T fr hx=>by
   obtain⟨c1,g,f⟩:=h.shape x cs T fr hx;obtain⟨c2,h3,i⟩:=k.shape x c1 T fr f
   exact⟨c2,h3.trans g,i⟩⟩
theorem Grw.of_below {O:Nat→Option Obj→Prop} {a b:World} (h:Below a.heap.size a b):Grw O a b:=
 ⟨h.os,h.tape,h.output,h.size,fun x hx _=>h.block x hx,fun x cs T fr hx=>⟨cs,rfl,(h.block x (Array.getElem?_eq_some_iff.1 hx).1).trans hx⟩⟩
theorem Grw.weaken {O O':Nat→Option Obj→Prop} {a b:World} (h:Grw O a b) (d:∀x o,O x o→O' x o):Grw O' a b:=
 ⟨h.os,h.tape,h.output,h.size,fun x hx c=>h.block x hx (fun h=>c (d _ _ h)),h.shape⟩
theorem Grw.below {a b:World} (h:Grw (fun _ _=>False) a b):Below a.heap.size a b:=⟨h.os,h.tape,h.output,h.size,fun x hx=>h.block x hx (fun h=>h)⟩
theorem Grw.drew {O:Nat→Option Obj→Prop} {a b:World} (h:Grw O a b):Grw O a { b with drawn:=b.drawn+1 }:=⟨h.os,h.tape,h.output,h.size,h.block,h.shape⟩
theorem Grw.cell {O:Nat→Option Obj→Prop} {a b:World} (h:Grw O a b) {p:Addr} (d:p.block<a.heap.size) (c:¬O p.block a.heap[p.block]?):b.cell? p=a.cell? p:=World.cell?_of_block (h.block p.block d c)
section
variable {P:Program} {ops:Array Oper} {w:World}
def cz (P:Program) (R:Value→World→Prop) (X:World):Result Next→Prop
 | .ok (.value u) X'=>Below X.heap.size X X'∧R u X'
 | .ok (.enter f args) X'=>X'=X∧Calls P f args X (fun e b=>∃v,e=.returned v∧Below X.heap.size X b∧R v b)
 | _=>False
def El (P:Program) (O:Nat→Option Obj→Prop) (st:Bool) (R:Value→World→Prop) (X:World) (r:Result Next):Prop:=
 cz P R X r∨(st=true∧∃X',r=.ok .skip X'∧Grw O X X'∧R undef X')
def Hg (sts:List (Nat × (Nat→Option Obj→Prop))) (k:Nat) (X X':World):Prop:=Below X.heap.size X X'∨∃p∈sts,p.1=k∧Grw p.2 X X'
def kH (P:Program) (sts:List (Nat × (Nat→Option Obj→Prop))) (k:Nat) (R:Value→World→Prop) (X:World):Result Next→Prop
 | .ok (.value u) X'=>Hg sts k X X'∧R u X'
 | .ok .skip X'=>Hg sts k X X'∧R undef X'
 | .ok (.enter f args) X'=>X'=X∧Calls P f args X (fun e b=>∃v,e=.returned v∧Hg sts k X b∧R v b)
 | _=>False
def Aa (sts:List (Nat × (Nat→Option Obj→Prop))) (b:Nat) (o:Option Obj):Prop:=∃p∈sts,p.2 b o
def Hn (sts:List (Nat × (Nat→Option Obj→Prop))) (k:Nat) (b:Nat) (o:Option Obj):Prop:=∃p∈sts,p.1≠k∧p.2 b o
def aU (ops:Array Oper) (i:Nat):Option Tmp:=(ops[i]?).bind (·.dst)
def k6 (o:Oper):Bool:=match o.op with | .alloc _=>true | .box _ _=>true | _=>false
theorem F2 {o:Oper} (h:k6 o=true) {ρ:Operand→Value} {X X':World} {nx:Next} (hr:(execOp ρ o).run P X=.ok nx X'):nx=.value (.pointer (some ⟨X.heap.size,0,none⟩))∧X.heap.size<X'.heap.size:=by
 obtain⟨d,op,ty,ps,f,g⟩:=o;unfold k6 at h
 cases op<;>simp only[Bool.false_eq_true] at h
 case alloc t=>
  cases hq:P.info? t with
  | none=>simp[execOp,Instr.alloc,zeroValue,typeInfo,hq] at hr
  | some i=>
   cases hz:i.zero with
   | none=>simp[execOp,Instr.alloc,zeroValue,typeInfo,hq,hz] at hr
   | some z=>
    simp[execOp,Instr.alloc,zeroValue,typeInfo,hq,hz,newVar,newRow] at hr;obtain⟨c,b⟩:=hr;subst c b;exact⟨rfl,by show X.heap.size<(X.heap.push _).size;simp⟩
 case box t x=>
  have e:(execOp ρ ⟨d,.box t x,ty,ps,f,g⟩).run P X=.ok (.value (.pointer (some ⟨X.heap.size,0,none⟩))) (X.alloc (.cells (ρ x).cells t)):=rfl;rw[e] at hr
  cases hr
  exact⟨rfl,by show X.heap.size<(X.heap.push _).size;simp⟩
def DistB (ops:Array Oper) (ks:List Nat) (g:Act):Prop:=∀i∈ks,∀j∈ks,i≠j→∀oi oj s t,ops[i]? = some oi→ops[j]? = some oj→k6 oi=true→k6 oj=true→oi.dst=some s→oj.dst=some t→g.tmps[s]?≠g.tmps[t]?
theorem DistB.mono {ks b:List Nat} {g:Act} (h:DistB ops ks g) (c:∀k∈b,k∈ks):DistB ops b g:=fun i e j d=>h i (c i e) j (c j d)
def vl (P:Program) (ops:Array Oper) (sts:List (Nat × (Nat→Option Obj→Prop))) (w:World) (Q:Exit→Act→World→Prop) (tail:List Oper):List NdB→Act→List (Nat × (World→Prop))→Prop
 | [],g,Φ=>∀X,Grw (Aa sts) w X→eG Φ X→wpList P ops Q tail g X
 | d::rest,g,Φ=>((∀v X X',d.R g v X→Below X.heap.size X X'→d.R g v X')∧(∀p∈sts,p.1≠d.k→p.1∉d.deps→∀v X X',d.R g v X→Grw p.2 X X'→d.R g v X') ∧
  (∀b v X,(∀j∈d.deps,∀t,aU ops j=some t→b.tmps[t]? = g.tmps[t]?)→d.R g v X→d.R b v X)) ∧
  (∀o,ops[d.k]? = some o→∀X,Grw (Hn sts d.k) w X→told d.deps Φ X→kH P sts d.k (d.R g) X ((execOp g.eval o).run P X)) ∧
  ∀v,vl P ops sts w Q tail rest (g.put (aU ops d.k) v) ((d.k,d.R g v)::Φ)
def Gk (P:Program) (ops:Array Oper) (O:Nat→Option Obj→Prop) (w:World) (Q:Exit→Act→World→Prop) (tail:List Oper):List NdA→Act→List (Nat × (World→Prop))→Prop
 | [],g,Φ=>∀X,Grw O w X→eG Φ X→wpList P ops Q tail g X
 | d::rest,g,Φ=>((∀v X X',d.R g v X→Below X.heap.size X X'→d.R g v X')∧(d.st=false→∀v X X',d.R g v X→Grw O X X'→d.R g v X') ∧
  (∀b v X,(∀j∈d.deps,∀t,aU ops j=some t→b.tmps[t]? = g.tmps[t]?)→d.R g v X→d.R b v X)) ∧
  (∀o,ops[d.k]? = some o→∀X,Grw O w X→(d.st=true→Below w.heap.size w X)→told d.deps Φ X→El P O d.st (d.R g) X ((execOp g.eval o).run P X)) ∧
  ∀v,Gk P ops O w Q tail rest (g.put (aU ops d.k) v) ((d.k,d.R g v)::Φ)
theorem qg {O:Nat→Option Obj→Prop} {Q:Exit→Act→World→Prop} {tail:List Oper} (all:List NdA) (b:∀e∈all,∀f∈all,e.st=true→f.st=true→e.k=f.k) (j:∀e∈all,∀f∈all,e.k=f.k→e.st=f.st) :
 ∀(nds:List NdA) (g:Act) (Φ:List (Nat × (World→Prop))),(∀d∈nds,d∈all)→Gk P ops O w Q tail nds g Φ→vl P ops ((all.filter (·.st)).map fun d=>(d.k,O)) w Q tail (nds.map NdA.lift) g Φ
 | [],g,Φ,_,h=>fun X t z=>h X (t.weaken (fun x o ⟨p,s,i⟩=>by obtain⟨d,_,rfl⟩:=List.mem_map.1 s;exact i)) z
 | d::rest,g,Φ,hsub,⟨⟨y,h1b,h1c⟩,A,h3⟩=>by
  refine⟨⟨y,fun p s q _ v X X' F t=>?_,h1c⟩,fun o G X t z=>?_,fun v=>qg all b j rest _ _ (fun x hx=>hsub x (by simp[hx])) (h3 v)⟩
  · obtain⟨e,D,rfl⟩:=List.mem_map.1 s
    obtain⟨m,l⟩:=List.mem_filter.1 D
    cases c:d.st with
    | false=>exact h1b c v X X' F t
    | true=>exact absurd (b e m d (hsub d bm) l c) q
  · have B:Grw O w X:=t.weaken (fun x o ⟨p,s,_,i⟩=>by obtain⟨d,_,rfl⟩:=List.mem_map.1 s;exact i)
    have:=A o G X B (fun c=>(t.weaken (O':=fun _ _=>False) (fun x o ⟨p,s,q,i⟩=>by
     obtain⟨e,D,rfl⟩:=List.mem_map.1 s;obtain⟨m,l⟩:=List.mem_filter.1 D
     exact q (b e m d (hsub d bm) l c))).below) z
    rcases this with h | ⟨c,X',h4,h5,h6⟩
    · generalize (execOp g.eval o).run P X=r at *
      cases r with
      | ok nx w'=>
       cases nx<;>simp only[cz] at h<;>simp only[kH]
       case value u=>exact⟨.inl h.1,h.2⟩
       case enter f args=>exact⟨h.1,h.2.mono fun e E ⟨v,y,A,h3⟩=>⟨v,y,.inl A,h3⟩⟩
      | halt x w'=>simp only[cz] at h
    · rw[h4]
      exact⟨.inr ⟨(d.k,O),List.mem_map.2 ⟨d,List.mem_filter.2 ⟨hsub d bm,c⟩,rfl⟩,rfl,h5⟩,h6⟩
def p8 (P:Program) (ops:Array Oper) (w:World) (Q:Exit→Act→World→Prop) (tail:List Oper):List Nd→Act→List (Nat × (World→Prop))→Prop
 | [],g,Φ=>∀X,Below w.heap.size w X→eG Φ X→wpList P ops Q tail g X
 | d::rest,g,Φ=>(∀v X X',d.R v X→Below X.heap.size X X'→d.R v X') ∧
  (∀o,ops[d.k]? = some o→∀X,Below w.heap.size w X→told d.deps Φ X→cz P d.R X ((execOp g.eval o).run P X)) ∧
  ∀v,p8 P ops w Q tail rest (g.put (aU ops d.k) v) ((d.k,d.R v)::Φ)
theorem oV {Q:Exit→Act→World→Prop} {tail:List Oper}:∀(nds:List Nd) (g:Act) (Φ:List (Nat × (World→Prop))),p8 P ops w Q tail nds g Φ→Gk P ops (fun _ _=>False) w Q tail (nds.map Nd.lift) g Φ
 | [],g,Φ,h=>fun X b c=>h X b.below c
 | d::rest,g,Φ,⟨h1,h2,h3⟩=>⟨⟨h1,fun _ v X X' e b=>h1 v X X' e b.below,fun _ v X _ h=>h⟩,fun o f X b _ c=>.inl (h2 o f X b.below c),fun v=>oV rest _ _ (h3 v)⟩
def bE (ops:Array Oper) (vals:Nat→Value) (nds:List NdB) (g:Act):Act:=nds.foldl (fun g d=>g.put (aU ops d.k) (vals d.k)) g
theorem mE (vals b:Nat→Value):∀(nds:List NdB) (g:Act),(∀e∈nds,vals e.k=b e.k)→bE ops vals nds g=bE ops b nds g
 | [],_,_=>rfl
 | d::rest,g,h=>by
  show bE ops vals rest (g.put (aU ops d.k) (vals d.k))=bE ops b rest (g.put (aU ops d.k) (b d.k));rw[h d bm];exact mE vals b rest _ (fun e c=>h e (by simp[c]))
theorem eE (a:Act) (d:Option Tmp) (v:Value):(a.put d v).tmps.size=a.tmps.size:=by unfold Act.put;split<;>simp
theorem put_defers (a:Act) (d:Option Tmp) (v:Value):(a.put d v).defers=a.defers:=by unfold Act.put;split<;>rfl
theorem jt {a:Act} {d:Option Tmp} {t:Tmp} (h:d≠some t) (v:Value):(a.put d v).tmps[t]? = a.tmps[t]?:=by
 unfold Act.put
 split
 · rename_i u
   exact Array.getElem?_setIfInBounds_ne (fun e=>h (by rw[e]))
 · rfl
theorem put_eq {a:Act} {t:Tmp} (h:t<a.tmps.size) (v:Value):(a.put (some t) v).tmps[t]? = some v:=by
 unfold Act.put;simp[h]
theorem nP (vals:Nat→Value):∀(nds:List NdB) (g:Act),(bE ops vals nds g).tmps.size=g.tmps.size∧(bE ops vals nds g).defers=g.defers
 | [],g=>⟨rfl,rfl⟩
 | d::rest,g=>by
  obtain⟨c,b⟩:=nP vals rest (g.put (aU ops d.k) (vals d.k));exact⟨c.trans (eE _ _ _),b.trans (put_defers _ _ _)⟩
theorem rG (vals b:Nat→Value) (t:Tmp):∀(nds:List NdB) (g c:Act),g.tmps.size=c.tmps.size→g.tmps[t]? = c.tmps[t]?→(∀e∈nds,aU ops e.k=some t→vals e.k=b e.k)→(bE ops vals nds g).tmps[t]? = (bE ops b nds c).tmps[t]?
 | [],g,c,_,h,_=>h
 | d::rest,g,c,hs,h,hv=>by
  refine rG vals b t rest _ _ (by rw[eE,eE];exact hs) ?_ (fun e i=>hv e (by simp[i]));show(g.put (aU ops d.k) (vals d.k)).tmps[t]? = (c.put (aU ops d.k) (b d.k)).tmps[t]?;by_cases f:aU ops d.k=some t
  · rw[f,hv d bm f]
    by_cases ht:t<g.tmps.size
    · rw[put_eq ht,put_eq (by rw[←hs];exact ht)]
    · rw[Array.getElem?_eq_none (by rw[eE];exact Nat.le_of_not_lt ht),Array.getElem?_eq_none (by rw[eE,←hs];exact Nat.le_of_not_lt ht)]
  · rw[jt f,jt f];exact h
theorem gG (vals:Nat→Value) (t:Tmp):∀(nds:List NdB) (g:Act),(∀e∈nds,aU ops e.k≠some t)→(bE ops vals nds g).tmps[t]? = g.tmps[t]?
 | [],g,_=>rfl
 | d::rest,g,h=>(gG vals t rest _ (fun e b=>h e (by simp[b]))).trans (jt (h d bm) _)
theorem nj (vals:Nat→Value) (t:Tmp) (k:Nat):∀(nds:List NdB) (g:Act),t<g.tmps.size→(∃e∈nds,e.k=k)→(aU ops k=some t)→(∀e∈nds,aU ops e.k=some t→e.k=k)→(bE ops vals nds g).tmps[t]? = some (vals k)
 | [],g,_,h,_,_=>by obtain⟨e,b,_⟩:=h;cases b
 | d::rest,g,ht,h,hk,hu=>by
  by_cases hr:∃e∈rest,e.k=k
  · exact nj vals t k rest _ (by rw[eE];exact ht) hr hk (fun e b=>hu e (by simp[b]))
  · have f:d.k=k:=by
     obtain⟨e,b,c⟩:=h;rcases List.mem_cons.1 b with rfl | b
     · exact c
     · exact absurd ⟨e,b,c⟩ hr
    show(bE ops vals rest (g.put (aU ops d.k) (vals d.k))).tmps[t]? = _;rw[gG vals t rest _ (fun e b e2=>hr ⟨e,b,hu e (by simp[b]) e2⟩),f,hk];exact put_eq ht _
theorem sb {o:Oper} (c:∀cs b,o.op≠.select cs b) {b g:Act} (h:∀t∈o.looksAt ops,b.tmps[t]? = g.tmps[t]?):execOp b.eval o=execOp g.eval o:=
 execOp_congr o c fun x hx=>by
  cases x with
  | tmp t=>
   have:=h t (List.mem_append_left _ (List.mem_filterMap.2 ⟨.tmp t,ar hx,rfl⟩));simp[Act.eval,this]
  | _=>rfl
theorem vX {o:Oper} {b g:Act} (h:∀t∈o.looksAt ops,b.tmps[t]? = g.tmps[t]?):Region.wanted o (yielded ops b.tmps)=Region.wanted o (yielded ops g.tmps):=by
 unfold Region.wanted
 cases hg:o.guard with
 | none=>rfl
 | some gw=>
  obtain⟨k,c⟩:=gw
  have d:yielded ops b.tmps k=yielded ops g.tmps k:=by
   unfold yielded
   cases ht:(ops[k]?).bind (·.dst) with
   | none=>rfl
   | some t=>
    have:=h t (by simp[Oper.looksAt,hg,ht]);simp[this]
  simp only[d]
def Dh (P:Program) (C:World→Prop) (s:Sem Next) (v:Value):Prop:=∀X,C X→Oper.quietUpon P (fun X'=>Below X.heap.size X X') X v (s.run P X)
def dK (P:Program) (ops:Array Oper) (C:World→Prop) (L:Act→Prop):List Oper→Act→Prop
 | [],a=>L a
 | o::rest,a=>if Region.wanted o (yielded ops a.tmps) then ∃v,Dh P C (execOp a.eval o) v∧dK P ops C L rest (a.put o.dst v) else dK P ops C L rest (a.put o.dst undef)
def YieldsC (P:Program) (ops:Array Oper) (C:World→Prop) (o:Oper) (v:Value) (a:Act):Prop:=
 (Region.wanted o (yielded ops a.tmps)=true∧Dh P C (execOp a.eval o) v)∨(Region.wanted o (yielded ops a.tmps)=false∧v=undef)
theorem YieldsC.of_same {C:World→Prop} {o:Oper} {v:Value} {a b:Act} (c:YieldsC P ops C o v a) (e:execOp b.eval o=execOp a.eval o)
 (d:Region.wanted o (yielded ops b.tmps)=Region.wanted o (yielded ops a.tmps)):YieldsC P ops C o v b:=by
 unfold YieldsC at *;rw[e,d];exact c
theorem jn {C:World→Prop} {afin:Act} (m:C w):∀(l:List Oper) (a:Act),qi l a.tmps.size=true →
 (∀X,C X→wpQuiet P ops (fun f=>∃p:Regrown,f=grow (redrawn X p.d) p.os) (fun i=>i=afin) l a)→dK P ops C (fun i=>i=afin) l a
 | [],a,_,h=>h w m
 | o::l,a,hd,h=>by
  unfold qi at hd;rw[Bool.and_eq_true] at hd;obtain⟨b,q⟩:=hd
  have k:∀v,(a.put o.dst v).tmps.size=a.tmps.size:=fun v=>by unfold Act.put;split<;>simp
  unfold dK
  split
  · rename_i s
    have h':∀X,C X→∃v,(∀W,(∃p:Regrown,W=grow (redrawn X p.d) p.os)→o.quietAt P a (fun f=>∃p:Regrown,f=grow (redrawn X p.d) p.os) W v)∧wpQuiet P ops (fun f=>∃p:Regrown,f=grow (redrawn X p.d) p.os) (fun i=>i=afin) l (a.put o.dst v):=fun X g=>by
     have:=h X g;unfold wpQuiet at this;rw[if_pos s] at this;exact this
    cases hdst:o.dst with
    | none=>rw[hdst] at b;cases b
    | some d=>
     rw[hdst] at b h';simp only[Bool.and_eq_true,decide_eq_true_eq,Bool.not_eq_true',List.any_eq_false,beq_iff_eq] at b
     have j:∀X,C X→∀v,wpQuiet P ops (fun f=>∃p:Regrown,f=grow (redrawn X p.d) p.os) (fun i=>i=afin) l (a.put (some d) v)→some v=afin.tmps[d]?:=fun X g v A=>by
      rw[←lp l _ (fun o' u=>b.2 o' u) A];show some v=(a.tmps.setIfInBounds d v)[d]?;rw[Array.getElem?_setIfInBounds_self_of_lt b.1]
     obtain⟨r,_,t⟩:=h' w m
     have c:∀X,C X→o.quietAt P a (fun f=>∃p:Regrown,f=grow (redrawn X p.d) p.os) X r∧wpQuiet P ops (fun f=>∃p:Regrown,f=grow (redrawn X p.d) p.os) (fun i=>i=afin) l (a.put (some d) r):=fun X g=>by
      obtain⟨v,z,x⟩:=h' X g;have e:=(j X g v x).trans (j w m r t).symm;injection e with e;subst e;exact⟨z X ⟨⟨X.drawn,#[]⟩,by rw[grow_empty];rfl⟩,x⟩
     refine⟨r,fun X g=>pF (fun W y=>bY y) (c X g).1,?_⟩;exact jn m l _ (by rw[←hdst,k];exact q) fun X g=>(c X g).2
  · rename_i s
    refine jn m l _ (by rw[k];exact q) fun X g=>?_;have:=h X g;unfold wpQuiet at this;rw[if_neg s] at this;exact this
def pick:List Bool→List Oper→List Oper
 | true::fs,_::l=>pick fs l
 | false::fs,o::l=>o::pick fs l
 | _,_=>[]
def dF (fl:List Bool) (i:Nat):Bool:=(fl[i]?).getD false
theorem mf {C:World→Prop} {afin:Act} {t:Tmp}:∀(l:List Oper) (a:Act),(∀o∈l,o.dst≠some t)→dK P ops C (fun d=>d=afin) l a→a.tmps[t]? = afin.tmps[t]?∧True
 | [],a,_,h=>by rw[show a=afin from h];exact⟨rfl,trivial⟩
 | o::l,a,hd,h=>by
  unfold dK at h
  split at h
  · obtain⟨v,_,c⟩:=h
    rw[←jt (hd o bm) v];exact mf l _ (fun o b=>hd o (by simp[b])) c
  · rw[←jt (hd o bm) undef]
    exact mf l _ (fun o b=>hd o (by simp[b])) h
theorem qh {C:World→Prop} {afin:Act}:∀(l:List Oper) (a:Act),dK P ops C (fun c=>c=afin) l a→afin.tmps.size=a.tmps.size∧afin.defers=a.defers
 | [],a,h=>by rw[show a=afin from h];exact⟨rfl,rfl⟩
 | o::l,a,h=>by
  unfold dK at h
  split at h
  · obtain⟨v,_,b⟩:=h
    have:=qh l _ b;rw[eE,put_defers] at this;exact this
  · have:=qh l _ h
    rw[eE,put_defers] at this;exact this
def FM (P:Program) (ops:Array Oper) (C:World→Prop) (G:Tmp→Option Value) (afin:Act) (o:Oper):Prop:=
 ∃(g:Act) (d:Tmp) (v:Value),(∀t∈o.looksAt ops,g.tmps[t]? = G t)∧o.dst=some d∧afin.tmps[d]? = some v∧YieldsC P ops C o v g
def BX (ops:Array Oper) (fl:List Bool) (n N:Nat):Bool:=
 (List.range n).all fun i=>match ops[i]? with
  | none=>false
  | some o=>
   (match o.dst with | some d=>decide (d<N)&&((List.range n).all fun j=>j==i||aU ops j != some d) | none=>dF fl i) &&
   o.after.all (fun e=>!Region.binds .any e||decide (e.on<i)) &&
   (o.looksAt ops).all (fun t=>(List.range n).all fun j=>aU ops j != some t||(decide (j<i)&&Region.waitsFor .any ops i j&&(dF fl i||!dF fl j))) &&
   (!dF fl i||o.guard.isNone)
def kl (ops:Array Oper):Nat→Nat→Nat→Bool
 | 0,_,_=>false
 | f+1,k,j=>Region.waitsFor .any ops k j||(List.range k).any fun i=>Region.waitsFor .any ops k i&&kl ops f i j
def iV (N n:Nat):Array Bool:=((List.range N).map fun i=>decide (i<n)).toArray
def Bk (ops:Array Oper) (fl:List Bool) (n:Nat):List Nat→List (Nat × List Nat)→Bool
 | _,[]=>true
 | pre,(k,fr)::rest=>decide (k<n)&&dF fl k&&fr.all (fun j=>pre.contains j)&&pre.all (fun j=>decide (j<k)&&(!fr.contains j||kl ops 4 k j))&&Bk ops fl n (pre ++ [k]) rest
def mB (ops:Array Oper) (fl:List Bool) (n N:Nat) (ks:List (Nat × List Nat)):Bool:=
 Region.noSelect ops&&decide (n<ops.size)&&Region.sinkB .any ops n&&Region.chainB .any ops n&&Region.seqB .any ops (ops.size-n) n (iV ops.size n) &&
 BX ops fl n N&&decide (fl.length=n)&&((List.range n).all fun i=>!dF fl i||(ks.map (·.1)).contains i)&&Bk ops fl n [] ks&&ks.all (fun p=>p.2.all fun j=>decide (j<n))
theorem fS {n:Nat} {listed:Array Bool} (inv:HeadInv .any ops n listed):∀(f k j:Nat) (o:Oper),ops[k]? = some o→(∀e∈o.after,Region.binds .any e=true→listed.getD e.on false=true)→kl ops f k j=true→listed.getD j false=true
 | 0,_,_,_,_,_,h=>by simp[kl] at h
 | f+1,k,j,o,ho,hall,h=>by
  unfold kl at h;rw[Bool.or_eq_true] at h
  have c:∀i,Region.waitsFor .any ops k i=true→listed.getD i false=true:=fun i r=>by
   obtain⟨o',l,e,g,p,m⟩:=Region.waitsFor_spec r;have:o'=o:=Option.some.inj (l.symm.trans ho);subst this;rw[←m];exact hall e g p
  rcases h with h | h
  · exact c j h
  · obtain⟨i,_,b⟩:=List.any_eq_true.1 h
    rw[Bool.and_eq_true] at b;have d:=c i b.1
    cases hoi:ops[i]? with
    | none=>
     have:i<listed.size:=by
      rcases Nat.lt_or_ge i listed.size with q | q
      · exact q
      · simp[Array.getElem?_eq_none q] at d
     rw[inv.size] at this;rw[Array.getElem?_eq_getElem this] at hoi
     cases hoi
    | some oi=>exact fS inv f i j oi hoi (fun e g p=>inv.closed i oi hoi d e g p) b.2
theorem sC {fl:List Bool} {n:Nat}:∀(nds:List NdB) (b:List Nat),Bk ops fl n b (nds.map fun d=>(d.k,d.deps))=true →
 ∀pre d suf,nds=pre ++ d::suf→d.k<n∧dF fl d.k=true∧(∀j∈b ++ pre.map (·.k),j<d.k∧(j∈d.deps→kl ops 4 d.k j=true))∧∀j∈d.deps,j∈b ++ pre.map (·.k)
 | [],_,_,pre,d,suf,e=>by simp at e
 | x::rest,b,h,pre,d,suf,e=>by
  simp only[List.map_cons,Bk,Bool.and_eq_true,decide_eq_true_eq] at h;obtain⟨⟨⟨⟨l,i⟩,f⟩,h3⟩,q⟩:=h
  cases pre with
  | nil=>
   simp only[List.nil_append,List.cons.injEq] at e;obtain⟨rfl,rfl⟩:=e;refine⟨l,i,fun j c=>?_,fun j c=>by have:=List.all_eq_true.1 f j c;simpa using this⟩;have:=List.all_eq_true.1 h3 j (ar c);simp only[Bool.and_eq_true,decide_eq_true_eq,Bool.or_eq_true] at this;exact⟨this.1,fun hf=>this.2.resolve_left (by rw[List.contains_iff_mem.2 hf];decide)⟩
  | cons p pre=>
   simp only[List.cons_append,List.cons.injEq] at e;obtain⟨rfl,e⟩:=e;obtain⟨o,g,m,r⟩:=sC rest (b ++ [x.k]) q pre d suf e;exact⟨o,g,fun j c=>m j (ar c),fun j c=>by have:=r j c;simpa using this⟩
theorem count_set (n:Nat) (i:Nat) (listed:Array Bool) (c:listed.getD i true=false):∀m,((List.range m).filter fun j=>!(listed.setIfInBounds i true).getD j true).length+(if i<m then 1 else 0)=((List.range m).filter fun j=>!listed.getD j true).length
 | 0=>by simp
 | m+1=>by
  have f:=count_set n i listed c m
  have b:i<listed.size:=by
   rcases Nat.lt_or_ge i listed.size with h' | h'
   · exact h'
   · simp[Array.getElem?_eq_none h'] at c
  rw[List.range_succ,List.filter_append,List.filter_append,List.length_append,List.length_append,←f];by_cases e:i=m
  · subst e
    have Y:(listed.setIfInBounds i true).getD i true=true:=by simp[b]
    simp only[List.filter_cons,List.filter_nil,Y,c];simp
  · have d:(if i<m+1 then 1 else 0)=(if i<m then 1 else 0):=by
     by_cases h:i<m
     · rw[if_pos h,if_pos ab]
     · rw[if_neg h,if_neg ab]
    rw[d]
    have Y:(List.filter (fun j=>!(listed.setIfInBounds i true).getD j true) [m])=(List.filter (fun j=>!listed.getD j true) [m]):=by
     simp only[List.filter_cons,List.filter_nil,getD_set_ne true e]
    rw[Y];omega
section
variable {n N:Nat} {fl:List Bool} {nds:List NdB} {a afin:Act} {Q:Exit→Act→World→Prop} {tail:List Oper} {C:World→Prop} {sts:List (Nat × (Nat→Option Obj→Prop))}
theorem oS (Z:BX ops fl n N=true) (W:N=a.tmps.size) (R:fl.length=n) (hn:n≤ops.size)
 (G:Tmp→Option Value) (F:∀j t,j<n→dF fl j=false→aU ops j=some t→G t=afin.tmps[t]?) (I:∀t,(∀j,j<n→dF fl j=false→aU ops j≠some t)→G t=a.tmps[t]?) :
 ∀(p:List Bool) (l:List Oper) (i:Nat) (g:Act),i+p.length=n→(∀j,p[j]? = fl[i+j]?)→(∀j,l[j]? = ops[i+j]?)→g.tmps.size=a.tmps.size →
  (∀t,(∃j,j<i∧dF fl j=false∧aU ops j=some t)→g.tmps[t]? = afin.tmps[t]?)→(∀t,(∀j,j<i→dF fl j=false→aU ops j≠some t)→g.tmps[t]? = a.tmps[t]?) →
  dK P ops C (fun a'=>a'=afin) (pick p l) g→∀j o,i≤j→j<n→dF fl j=false→ops[j]? = some o→FM P ops C G afin o
 | [],l,i,g,hi,_,_,_,_,_,_,j,o,hij,hjn,_,_=>by simp at hi;omega
 | f::p,[],i,g,hi,_,hl,_,_,_,_,j,o,hij,hjn,_,E=>by
  have:=hl (j-i);rw[show i+(j-i)=j by omega,E] at this;simp at this
 | f::p,D::l,i,g,hi,hfs,hl,hsz,h1,h2,h,j,o,hij,hjn,hjd,E=>by
  have hf:dF fl i=f:=by
   have:=hfs 0;rw[Nat.add_zero] at this;unfold dF;rw[←this];rfl
  have H:ops[i]? = some D:=by have:=hl 0;rw[Nat.add_zero] at this;rw[←this];rfl
  have Jz:i<n:=by simp at hi;omega
  have O:=List.all_eq_true.1 Z i (List.mem_range.2 Jz);simp only[H,Bool.and_eq_true] at O;obtain⟨⟨⟨c1,c2⟩,c3⟩,c4⟩:=O
  cases hd:D.dst with
  | none=>
   rw[hd] at c1;replace c1:dF fl i=true:=c1
   obtain rfl:f=true:=by rw[←hf,c1]
   have r:j≠i:=fun e=>by rw[e,hf] at hjd;cases hjd
   refine oS Z W R hn G F I p l (i+1) g (by simp at hi ⊢;omega) (fun j=>by have:=hfs (j+1);rw[show i+1+j=i+(j+1) by omega,←this];rfl) (fun j=>by have:=hl (j+1);rw[show i+1+j=i+(j+1) by omega,←this];rfl) hsz ?_ ?_ h j o ab hjn hjd E
   · rintro t ⟨c,q,k,m⟩
     refine h1 t ⟨c,?_,k,m⟩;rcases Nat.lt_or_ge c i with h' | h'
     · exact h'
     · have:c=i:=by omega
       subst this;rw[hf] at k;cases k
   · intro t ht
     exact h2 t (fun c q=>ht c ab)
  | some d=>
   rw[hd] at c1;simp only[Bool.and_eq_true,decide_eq_true_eq] at c1;obtain⟨c1,Jx⟩:=c1
   have V:aU ops i=some d:=by unfold aU;rw[H];exact hd
   have y:∀j,j<n→j≠i→aU ops j≠some d:=fun j E Vb e=>by
    have:=List.all_eq_true.1 Jx j (List.mem_range.2 E);simp[Vb,e] at this
   cases f with
   | true=>
    have r:j≠i:=fun e=>by rw[e,hf] at hjd;cases hjd
    refine oS Z W R hn G F I p l (i+1) g (by simp at hi ⊢;omega) (fun j=>by have:=hfs (j+1);rw[show i+1+j=i+(j+1) by omega,←this];rfl) (fun j=>by have:=hl (j+1);rw[show i+1+j=i+(j+1) by omega,←this];rfl) hsz ?_ ?_ h j o ab hjn hjd E
    · rintro t ⟨c,q,k,m⟩
      refine h1 t ⟨c,?_,k,m⟩;rcases Nat.lt_or_ge c i with h' | h'
      · exact h'
      · have:c=i:=by omega
        subst this;rw[hf] at k;cases k
    · intro t ht
      exact h2 t (fun c q=>ht c ab)
   | false=>
    have T:pick (false::p) (D::l)=D::pick p l:=rfl;rw[T] at h
    have B:∀t∈D.looksAt ops,g.tmps[t]? = G t:=fun t ht=>by
     have Jw:=List.all_eq_true.1 c3 t ht;by_cases S:∃c,c<n∧aU ops c=some t
     · obtain⟨c,J,z⟩:=S
       have:=List.all_eq_true.1 Jw c (List.mem_range.2 J);simp only[z,bne_self_eq_false,Bool.false_or,Bool.and_eq_true,decide_eq_true_eq,hf,Bool.not_eq_true'] at this;rw[h1 t ⟨c,this.1.1,this.2,z⟩,F c t J this.2 z]
     · rw[h2 t (fun c q k e=>S ⟨c,by omega,e⟩),I t (fun c q k e=>S ⟨c,q,e⟩)]
    have step:∀v,dK P ops C (fun a'=>a'=afin) (pick p l) (g.put D.dst v) →
     afin.tmps[d]? = some v∧∀j o,i+1≤j→j<n→dF fl j=false→ops[j]? = some o→FM P ops C G afin o:=fun v hv=>by
     have X:∀o'∈pick p l,o'.dst≠some d:=by
      have Va:∀(p:List Bool) (l:List Oper) (u:Nat),i<u→u+p.length=n→(∀j,l[j]? = ops[u+j]?)→∀o'∈pick p l,o'.dst≠some d:=by
       intro p
       induction p with
       | nil=>intro l u _ _ _ o' s;cases l<;>simp[pick] at s
       | cons b p ih=>
        intro l u Vc K Y o' s
        cases l with
        | nil=>cases b<;>simp[pick] at s
        | cons x l=>
         have hx:ops[u]? = some x:=by have:=Y 0;rw[Nat.add_zero] at this;rw[←this];rfl
         have A:u+1+p.length=n:=by simp at K;omega
         have L:∀j,l[j]? = ops[u+1+j]?:=fun j=>by have:=Y (j+1);rw[show u+1+j=u+(j+1) by omega,←this];rfl
         cases b with
         | true=>exact ih l (u+1) ab A L o' s
         | false=>
          rcases List.mem_cons.1 s with rfl | s
          · intro e
            exact y u (by simp at K;omega) ab (by unfold aU;rw[hx];exact e)
          · exact ih l (u+1) ab A L o' s
      exact Va p l (i+1) ab (by simp at hi;omega) (fun j=>by have:=hl (j+1);rw[show i+1+j=i+(j+1) by omega,←this];rfl)
     have M:afin.tmps[d]? = some v:=by
      rw[←(mf _ _ X hv).1,hd];exact put_eq (by rw[hsz,←W];exact c1) v
     refine⟨M,oS Z W R hn G F I p l (i+1) (g.put D.dst v) (by simp at hi ⊢;omega) (fun j=>by have:=hfs (j+1);rw[show i+1+j=i+(j+1) by omega,←this];rfl) (fun j=>by have:=hl (j+1);rw[show i+1+j=i+(j+1) by omega,←this];rfl)
      (by rw[eE];exact hsz) ?_ ?_ hv⟩
     · rintro t ⟨c,q,k,m⟩
       by_cases r:c=i
       · subst r
         rw[V] at m;injection m with m;subst m;rw[hd,put_eq (by rw[hsz,←W];exact c1) v,M]
       · have U:d≠t:=fun e=>y c ab r (by rw[m,e])
         rw[jt (by rw[hd];intro e;exact U (Option.some.inj e)) v];exact h1 t ⟨c,by omega,k,m⟩
     · intro t ht
       have U:d≠t:=fun e=>ht i ab hf (by rw[V,e]);rw[jt (by rw[hd];intro e;exact U (Option.some.inj e)) v];exact h2 t (fun c q=>ht c ab)
    unfold dK at h;by_cases hw:Region.wanted D (yielded ops g.tmps)=true
    · rw[if_pos hw] at h
      obtain⟨v,Jy,Jv⟩:=h;obtain⟨s1,s2⟩:=step v Jv;by_cases r:j=i
      · subst r
        obtain rfl:D=o:=Option.some.inj (H.symm.trans E);exact⟨g,d,v,B,hd,s1,.inl ⟨hw,Jy⟩⟩
      · exact s2 j o ab hjn hjd E
    · rw[if_neg hw] at h
      obtain⟨s1,s2⟩:=step undef h;by_cases r:j=i
      · subst r
        obtain rfl:D=o:=Option.some.inj (H.symm.trans E);exact⟨g,d,undef,B,hd,s1,.inr ⟨ar hw,rfl⟩⟩
      · exact s2 j o ab hjn hjd E
theorem tC {listed:Array Bool} {i:Nat} (b:i<listed.size) (h:listed.getD i true≠false):listed.getD i false=true:=by
 simp[b] at h ⊢;exact h
theorem ij {listed:Array Bool} {i:Nat} (b:i<listed.size) (d:Bool):(listed.setIfInBounds i true).getD i d=true:=by simp[b]
end
abbrev yS:=Nat × (Nat→Option Obj→Prop) × (World→World→Prop)
section
variable {n N:Nat} {fl:List Bool} {nds:List NdB} {a afin:Act} {Q:Exit→Act→World→Prop} {tail:List Oper} {C:World→Prop} {sts:List yS}
def wN (sts:List yS) (k:Nat) (X X':World):Prop:=Below X.heap.size X X'∨∃p∈sts,p.1=k∧Grw p.2.1 X X'∧p.2.2 X X'
def fk (P:Program) (sts:List yS) (k:Nat) (R:Value→World→Prop) (X:World):Result Next→Prop
 | .ok (.value u) X'=>wN sts k X X'∧R u X'
 | .ok .skip X'=>wN sts k X X'∧R undef X'
 | .ok (.enter f args) X'=>X'=X∧Calls P f args X (fun e b=>∃v,e=.returned v∧wN sts k X b∧R v b)
 | _=>False
def l4 (sts:List yS) (b:Nat) (o:Option Obj):Prop:=∃p∈sts,p.2.1 b o
def yq (sts:List yS) (k:Nat) (b:Nat) (o:Option Obj):Prop:=∃p∈sts,p.1≠k∧p.2.1 b o
def iq (ops:Array Oper) (fl:List Bool) (n N:Nat) (ks:List (Nat × List Nat)):Bool:=
 Region.noSelect ops&&(n==ops.size||(decide (n<ops.size)&&Region.sinkB .any ops n&&Region.chainB .any ops n))&&Region.seqB .any ops (ops.size-n) n (iV ops.size n) &&
 BX ops fl n N&&decide (fl.length=n)&&((List.range n).all fun i=>!dF fl i||(ks.map (·.1)).contains i)&&Bk ops fl n [] ks&&ks.all (fun p=>p.2.all fun j=>decide (j<n))
theorem vZ {ops:Array Oper} {n:Nat} (h:(n==ops.size||(decide (n<ops.size)&&Region.sinkB .any ops n&&Region.chainB .any ops n))=true):n=ops.size∨(n<ops.size∧Region.sinkB .any ops n=true∧Region.chainB .any ops n=true):=by
 rw[Bool.or_eq_true,beq_iff_eq,Bool.and_eq_true,Bool.and_eq_true,decide_eq_true_eq] at h;rcases h with h | ⟨⟨h1,h2⟩,h3⟩
 · exact .inl h
 · exact .inr ⟨h1,h2,h3⟩
def gU (P:Program) (ops:Array Oper) (sts:List yS) (w:World) (Q:Exit→Act→World→Prop) (tail:List Oper):List NdB→Act→List (Nat × (World→Prop))→Prop
 | [],g,Φ=>∀X,Grw (l4 sts) w X→DistB ops (Φ.map (·.1)) g→eG Φ X→wpList P ops Q tail g X
 | d::rest,g,Φ=>((∀v X X',d.R g v X→Below X.heap.size X X'→d.R g v X')∧(∀p∈sts,p.1≠d.k→p.1∉d.deps→∀v X X',d.R g v X→Grw p.2.1 X X'∧p.2.2 X X'→d.R g v X') ∧
  (∀b v X,(∀j∈d.deps,∀t,aU ops j=some t→b.tmps[t]? = g.tmps[t]?)→d.R g v X→d.R b v X)) ∧
  (∀o,ops[d.k]? = some o→∀X,Grw (yq sts d.k) w X→((∀p∈sts,kl ops 4 p.1 d.k=true)→Grw (fun _ _=>False) w X)→told d.deps Φ X→fk P sts d.k (d.R g) X ((execOp g.eval o).run P X)) ∧
  ∀v,gU P ops sts w Q tail rest (g.put (aU ops d.k) v) ((d.k,d.R g v)::Φ)
theorem gY {sts:List yS} {Q:Exit→Act→World→Prop} {tail:List Oper}:∀(nds:List NdB) (g:Act) (Φ:List (Nat × (World→Prop))),gU P ops sts w Q tail nds g Φ→∀vals:Nat→Value,
 (∀pre d suf,nds=pre ++ d::suf→((∀v X X',d.R (bE ops vals pre g) v X→Below X.heap.size X X'→d.R (bE ops vals pre g) v X')∧(∀p∈sts,p.1≠d.k→p.1∉d.deps→∀v X X',d.R (bE ops vals pre g) v X→Grw p.2.1 X X'∧p.2.2 X X'→d.R (bE ops vals pre g) v X') ∧
  (∀s v X,(∀j∈d.deps,∀t,aU ops j=some t→s.tmps[t]? = (bE ops vals pre g).tmps[t]?)→d.R (bE ops vals pre g) v X→d.R s v X)) ∧
  ∀o,ops[d.k]? = some o→∀X,Grw (yq sts d.k) w X→((∀p∈sts,kl ops 4 p.1 d.k=true)→Grw (fun _ _=>False) w X)→told d.deps Φ X→(∀b e c,pre=b ++ e::c→e.k∈d.deps→e.R (bE ops vals b g) (vals e.k) X) →
  fk P sts d.k (d.R (bE ops vals pre g)) X ((execOp (bE ops vals pre g).eval o).run P X)) ∧
 (∀X,Grw (l4 sts) w X→DistB ops (nds.map (·.k) ++ Φ.map (·.1)) (bE ops vals nds g)→eG Φ X→(∀b e c,nds=b ++ e::c→e.R (bE ops vals b g) (vals e.k) X)→wpList P ops Q tail (bE ops vals nds g) X)
 | [],g,Φ,h,vals=>⟨fun pre d suf e=>by simp at e,fun X f r l _=>h X f r l⟩
 | d::rest,g,Φ,⟨h1,h2,h3⟩,vals=>by
  obtain⟨B,z⟩:=gY rest _ _ (h3 (vals d.k)) vals;refine⟨fun pre d' suf e=>?_,fun X f r l i=>z X f (r.mono fun k u=>by simp only[List.map_cons,List.mem_append,List.mem_cons,List.cons_append] at u ⊢;rcases u with h | h | h<;>simp[h]) ⟨i [] d rest rfl,l⟩ (fun b e c y=>i (d::b) e c (by rw[y];rfl))⟩
  cases pre with
  | nil=>
   simp only[List.nil_append,List.cons.injEq] at e;obtain⟨rfl,rfl⟩:=e;exact⟨h1,fun o q X f m hf _=>h2 o q X f m hf⟩
  | cons p pre=>
   simp only[List.cons_append,List.cons.injEq] at e;obtain⟨rfl,e⟩:=e;obtain⟨D,E⟩:=B pre d' suf e;refine⟨D,fun o q X f m hf i=>E o q X f m ?_ (fun b x c hx F=>i (d::b) x c (by rw[hx];rfl) F)⟩;unfold told
   split
   · rename_i A
     exact⟨i [] d pre rfl (List.contains_iff_mem.1 A),hf⟩
   · exact hf
structure FlowInvK (ops:Array Oper) (sts:List yS) (w:World) (fl:List Bool) (n:Nat) (nds:List NdB) (a afin:Act) (listed:Array Bool) (b:Act) (X:World) (vals:Nat→Value):Prop where
 below:Grw (l4 sts) w X
 head:HeadInv .any ops n listed
 size:b.tmps.size=a.tmps.size
 defers:b.defers=a.defers
 done:∀i d,i<n→aU ops i=some d→listed.getD i false=true→b.tmps[d]? = if dF fl i=true then some (vals i) else afin.tmps[d]?
 rest:∀t,(∀i,i<n→aU ops i=some t→listed.getD i true=false)→b.tmps[t]? = a.tmps[t]?
 facts:∀pre d suf,nds=pre ++ d::suf→listed.getD d.k false=true→d.R (bE ops vals pre afin) (vals d.k) X
 calm:∀k,listed.getD k false=false→Grw (yq sts k) w X
 calm0:(∀p∈sts,listed.getD p.1 false=false)→Grw (fun _ _=>False) w X
 al:∀i o,ops[i]? = some o→k6 o=true→dF fl i=true→listed.getD i false=true→∃b,vals i=.pointer (some ⟨b,0,none⟩)∧b<X.heap.size
 ne:∀i j oi oj,i≠j→ops[i]? = some oi→ops[j]? = some oj→k6 oi=true→k6 oj=true→dF fl i=true→dF fl j=true→listed.getD i false=true→listed.getD j false=true→vals i≠vals j
theorem FlowInvK.step {listed:Array Bool} {b:Act} {X:World} {vals:Nat→Value} (h:FlowInvK ops sts w fl n nds a afin listed b X vals) {i:Nat} {o:Oper} {v:Value} {X':World}
 (hi:i∈Region.ready .any ops listed) (Jz:i<n) (F:ops[i]? = some o) (G:∀d,o.dst=some d→d<a.tmps.size∧∀j,j<n→j≠i→aU ops j≠some d)
 (hX:wN sts i X X') (hst:∀pre e suf,nds=pre ++ e::suf→e.k≠i→listed.getD e.k false=true→∀vals v,e.R (bE ops vals pre afin) v X→e.R (bE ops vals pre afin) v X')
 (Jx:∀pre e suf,nds=pre ++ e::suf→(∀vals A v X,(∀x∈pre,x.k∈e.deps→vals x.k=A x.k)→e.R (bE ops vals pre afin) v X→e.R (bE ops A pre afin) v X)∧(listed.getD e.k false=true→∀x∈pre,x.k∈e.deps→listed.getD x.k false=true))
 (hv:∀d,o.dst=some d→dF fl i=false→afin.tmps[d]? = some v) (hR:∀pre e suf,nds=pre ++ e::suf→e.k=i→e.R (bE ops vals pre afin) v X') (W:∀pre e suf,nds=pre ++ e::suf→e.k=i→∀x∈pre,x.k≠i)
 (Jy:dF fl i=true→k6 o=true→v=.pointer (some ⟨X.heap.size,0,none⟩)∧X.heap.size<X'.heap.size) :
 FlowInvK ops sts w fl n nds a afin (listed.setIfInBounds i true) (b.put o.dst v) X' (fun j=>if j=i then v else vals j):=by
 have H:aU ops i=o.dst:=by unfold aU;rw[F];rfl
 have M:i<listed.size:=by rw[h.head.size];exact(Array.getElem?_eq_some_iff.1 F).1
 have Jw:Grw (l4 sts) X X':=by
  rcases hX with h | ⟨p,B,_,h⟩
  · exact Grw.of_below h
  · exact h.1.weaken (fun x o F=>⟨p,B,F⟩)
 refine⟨h.below.trans Jw,h.head.set hi Jz,by rw[eE];exact h.size,by rw[put_defers];exact h.defers,?_,?_,?_,?_,?_,?_,?_⟩
 · intro j e hj z D
   by_cases r:j=i
   · subst r
     rw[H] at z;rw[z,put_eq (by rw[h.size];exact(G e z).1) v]
     cases hnd:dF fl j with
     | true=>simp
     | false=>rw[if_neg au];exact(hv e z hnd).symm
   · rw[getD_set_ne false (Ne.symm r)] at D
     have g:o.dst≠some e:=fun e2=>(G e e2).2 j hj r z;rw[jt g v,h.done j e hj z D,if_neg (c:=j=i) r]
 · intro t ht
   have g:o.dst≠some t:=fun e=>by
    have:=ht i Jz (by rw[H,e]);rw[ij M] at this
    cases this
   rw[jt g v];refine h.rest t fun j hj K=>?_;have:=ht j hj K;by_cases r:i=j
   · subst r;rw[H] at K;exact absurd K g
   · rw[getD_set_ne true r] at this;exact this
 · intro pre e suf z D
   by_cases y:e.k=i
   · show e.R _ (if e.k=i then v else vals e.k) X'
     rw[if_pos y,←mE vals (fun j=>if j=i then v else vals j) pre afin (fun x hx=>(if_neg (W pre e suf z y x hx)).symm)];exact hR pre e suf z y
   · show e.R _ (if e.k=i then v else vals e.k) X'
     rw[if_neg y];rw[getD_set_ne false (Ne.symm y)] at D;have Y:=hst pre e suf z y D vals _ (h.facts pre e suf z D);obtain⟨Vd,Vh⟩:=Jx pre e suf z;refine Vd vals _ _ _ (fun x hx Vb=>?_) Y;have Y:=Vh D x hx Vb
     have g:x.k≠i:=fun e=>by
      rw[e] at Y;have:=(mem_ready.1 hi).1;rw[getD_both this] at Y;cases Y
     exact(if_neg g).symm
 · intro k T
   have E:k≠i:=fun e=>by rw[e,ij M] at T;cases T
   rw[getD_set_ne false (Ne.symm E)] at T;refine(h.calm k T).trans ?_;rcases hX with h | ⟨p,B,hpi,h⟩
   · exact Grw.of_below h
   · exact h.1.weaken (fun x o F=>⟨p,B,by rw[hpi];exact Ne.symm E,F⟩)
 · intro Y
   have g:∀p∈sts,p.1≠i:=fun p B e=>by
    have:=Y p B;rw[e,ij M] at this;cases this
   refine(h.calm0 fun p B=>?_).trans ?_
   · have:=Y p B
     rwa [getD_set_ne false (Ne.symm (g p B))] at this
   · rcases hX with h | ⟨p,B,hpi,_⟩
     · exact Grw.of_below h
     · exact absurd hpi (g p B)
 · intro m S hm s u D
   by_cases f:m=i
   · subst f
     obtain rfl:S=o:=Option.some.inj (hm.symm.trans F);obtain⟨Z,e2⟩:=Jy u s;exact⟨X.heap.size,(if_pos rfl).trans Z,e2⟩
   · rw[getD_set_ne false (Ne.symm f)] at D
     obtain⟨b0,Z,e2⟩:=h.al m S hm s u D;exact⟨b0,(if_neg (c:=m=i) f).trans Z,Nat.lt_of_lt_of_le e2 Jw.size⟩
 · intro m q S oq U hm hq s O u L J I
   have old:∀k ok,k≠i→ops[k]? = some ok→k6 ok=true→dF fl k=true→(listed.setIfInBounds i true).getD k false=true→dF fl i=true→k6 o=true→v≠vals k:=fun k ok E T Vc Ve Jv V Vg e=>by
    rw[getD_set_ne false (Ne.symm E)] at Jv;obtain⟨b0,Z,e2⟩:=h.al k ok T Vc Ve Jv;obtain⟨e3,_⟩:=Jy V Vg;rw[e3,Z] at e;injection e with e;injection e with e;injection e with e;omega
   show(if m=i then v else vals m)≠(if q=i then v else vals q);by_cases f:m=i
   · have l:q≠i:=fun e=>U (f.trans e.symm)
     rw[if_pos f,if_neg l];have Vf:S=o:=Option.some.inj (hm.symm.trans (by rw[f];exact F));exact old q oq l hq O L I (f▸u) (Vf▸s)
   · rw[if_neg f]
     by_cases l:q=i
     · rw[if_pos l]
       have Va:oq=o:=Option.some.inj (hq.symm.trans (by rw[l];exact F));exact Ne.symm (old m S f hm s u J (l▸L) (Va▸O))
     · rw[if_neg l]
       rw[getD_set_ne false (Ne.symm f)] at J;rw[getD_set_ne false (Ne.symm l)] at I;exact h.ne m q S oq U hm hq s O u L J I
theorem Az (hB:iq ops fl n N (nds.map fun d=>(d.k,d.deps))=true) (hN:N=a.tmps.size) (Ys:∀j,tail[j]? = ops[n+j]?) (Wm:tail.length=ops.size-n)
 (Jz:afin.tmps.size=a.tmps.size∧afin.defers=a.defers) (Vh:∀t,(∀j,j<n→dF fl j=false→aU ops j≠some t)→afin.tmps[t]? = a.tmps[t]?)
 (Yg:∀j o,j<n→dF fl j=false→ops[j]? = some o→FM P ops (Grw (l4 sts) w) (fun t=>if (∃j,j<n∧dF fl j=false∧aU ops j=some t) then afin.tmps[t]? else a.tmps[t]?) afin o)
 (Vf:gU P ops sts w Q tail nds afin []) :
 ∀(f:Nat) (listed:Array Bool) (b:Act) (X:World) (vals:Nat→Value),((List.range n).filter fun j=>!listed.getD j true).length=f→FlowInvK ops sts w fl n nds a afin listed b X vals→wpAny P .any ops Q (f+(ops.size-n)) listed b X:=by
 unfold iq at hB;rw[Bool.and_eq_true,Bool.and_eq_true,Bool.and_eq_true,Bool.and_eq_true,Bool.and_eq_true,Bool.and_eq_true,Bool.and_eq_true,decide_eq_true_eq] at hB;obtain⟨⟨⟨⟨⟨⟨⟨Vy,Yf⟩,Yd⟩,hh⟩,Kl⟩,Wk⟩,Yb⟩,Yi⟩:=hB;have Wb:=vZ Yf
 have Ym:∀e∈nds,∀j∈e.deps,j<n:=fun e E j A=>by
  have:=List.all_eq_true.1 (List.all_eq_true.1 Yi (e.k,e.deps) (List.mem_map.2 ⟨e,E,rfl⟩)) j A
  simpa using this
 have q:=sC nds [] Yb
 have O:∀pre e suf,nds=pre ++ e::suf→∀vals,((∀v X X',e.R (bE ops vals pre afin) v X→Below X.heap.size X X'→e.R (bE ops vals pre afin) v X')∧(∀p∈sts,p.1≠e.k→p.1∉e.deps→∀v X X',e.R (bE ops vals pre afin) v X→Grw p.2.1 X X'∧p.2.2 X X'→e.R (bE ops vals pre afin) v X')∧(∀g' v X,(∀j∈e.deps,∀t,aU ops j=some t→g'.tmps[t]? = (bE ops vals pre afin).tmps[t]?)→e.R (bE ops vals pre afin) v X→e.R g' v X)):=fun pre e suf c vals=>
  ((gY nds afin _ Vf vals).1 pre e suf c).1
 have Jw:∀e∈nds,e.k<n:=fun e E=>by
  obtain⟨pre,suf,c⟩:=List.append_of_mem E;exact(q pre e suf c).1
 have M:∀i,i<n→∃o,ops[i]? = some o∧(∀d,o.dst=some d→d<a.tmps.size∧(∀j,j<n→j≠i→aU ops j≠some d))∧(∀e∈o.after,Region.binds .any e=true→e.on<i) ∧
  (∀t∈o.looksAt ops,∀j,j<n→aU ops j=some t→j<i∧Region.waitsFor .any ops i j=true∧(dF fl i=false→dF fl j=false))∧(dF fl i=true→o.guard=none):=fun i L=>by
  have h1:=List.all_eq_true.1 hh i (List.mem_range.2 L)
  cases Z:ops[i]? with
  | none=>rw[Z] at h1;cases h1
  | some o=>
   rw[Z] at h1;simp only[Bool.and_eq_true] at h1;obtain⟨⟨⟨c1,c2⟩,c3⟩,c4⟩:=h1
   · refine⟨o,rfl,fun d hd=>?_,fun e E hb=>?_,fun t ht j A l=>?_,fun Vf=>?_⟩
     · rw[hd] at c1
       simp only[Bool.and_eq_true,decide_eq_true_eq] at c1;refine⟨by rw[←hN];exact c1.1,fun j A Vq e=>?_⟩;have:=List.all_eq_true.1 c1.2 j (List.mem_range.2 A);simp[Vq,e] at this
     · have:=Array.all_eq_true_iff_forall_mem.1 c2 e E
       simpa [hb] using this
     · have:=List.all_eq_true.1 (List.all_eq_true.1 c3 t ht) j (List.mem_range.2 A)
       simp only[l,bne_self_eq_false,Bool.false_or,Bool.and_eq_true,decide_eq_true_eq,Bool.or_eq_true,Bool.not_eq_true'] at this;exact⟨this.1.1,this.1.2,fun Kc=>this.2.resolve_left (by rw[Kc];decide)⟩
     · rw[Vf] at c4
       simpa using c4
 intro f
 induction f with
 | zero=>
  intro listed b X vals Jx inv
  have Jv:∀i,i<n→listed.getD i true=true:=fun i L=>by
   cases hl:listed.getD i true with
   | true=>rfl
   | false=>
    have:i∈(List.range n).filter fun j=>!listed.getD j true:=List.mem_filter.2 ⟨List.mem_range.2 L,by rw[hl];rfl⟩;rw[List.length_eq_zero_iff.1 Jx] at this
    cases this
  have I:∀i,i<n→listed.getD i false=true:=fun i L=>tC (by rw[inv.head.size];omega) (by rw[Jv i L];decide)
  have Kf:listed=iV ops.size n:=by
   apply Array.ext
   · rw[inv.head.size];simp[iV]
   · intro i h1 h2
     have e2:(iV ops.size n)[i]=decide (i<n):=by simp[iV]
     rw[e2];by_cases L:i<n
     · have:=Jv i L
       simp[h1] at this;rw[this];simp[L]
     · have:=inv.head.tail i ab (by rw[←inv.head.size];exact h1)
       simp[h1] at this;rw[this];simp[L]
  have hb:b=bE ops vals nds afin:=by
   obtain⟨s1,H⟩:=nP (ops:=ops) vals nds afin
   have ht:b.tmps=(bE ops vals nds afin).tmps:=by
    apply Array.ext_getElem?;intro t;by_cases D:∃j,j<n∧aU ops j=some t
    · obtain⟨j,A,l⟩:=D
      obtain⟨o,Z,Vb,_⟩:=M j A
      have Wg:o.dst=some t:=by
       have:aU ops j=o.dst:=by unfold aU;rw[Z];rfl
       rw[←this];exact l
      obtain⟨Yx,We⟩:=Vb t Wg;obtain⟨d,rfl⟩:∃d,d=t:=⟨t,rfl⟩;rw[inv.done j d A l (I j A)]
      have hu:∀e∈nds,aU ops e.k=some d→e.k=j:=fun e E Ve=>by
       rcases Nat.decEq e.k j with Vq | heq
       · exact absurd Ve (We e.k (Jw e E) Vq)
       · exact heq
      cases hndj:dF fl j with
      | true=>
       rw[if_pos rfl];have B:=List.all_eq_true.1 Wk j (List.mem_range.2 A);rw[hndj] at B;simp only[Bool.not_true,Bool.false_or,List.contains_iff_mem,List.map_map] at B;obtain⟨e,E,G⟩:=List.mem_map.1 B;rw[nj vals d j nds afin (by rw[Jz.1];exact Yx) ⟨e,E,G⟩ l hu]
      | false=>
       rw[if_neg au,gG vals d nds afin (fun e E Ve=>by
        have:=hu e E Ve;obtain⟨pre,suf,c⟩:=List.append_of_mem E;have Y:=(q pre e suf c).2.1
        rw[this,hndj] at Y;cases Y)]
    · rw[inv.rest t (fun j A l=>absurd ⟨j,A,l⟩ D),gG vals t nds afin (fun e E Ve=>D ⟨e.k,Jw e E,Ve⟩),Vh t (fun j A _ l=>D ⟨j,A,l⟩)]
   have Wc:b.defers=(bE ops vals nds afin).defers:=by rw[inv.defers,H,Jz.2]
   cases b with
   | mk bt bd=>cases hp:bE ops vals nds afin with
    | mk pt pd=>rw[hp] at ht Wc;simp at ht Wc;rw[ht,Wc]
  rw[Kf,hb,Nat.zero_add,←Wm];refine wpAny_of_seq tail n _ _ X Ys (by rw[Wm];exact Yd) ?_;refine(gY nds afin _ Vf vals).2 X inv.below (fun i L j A Yp oi oj s t Vu Vr Yy Yv hs ht=>?_) trivial (fun K e H E=>inv.facts K e H E (I e.k (Jw e (by rw[E];simp))))
  have hk:∀k∈(nds.map (·.k) ++ ([]:List (Nat × (World→Prop))).map (·.1)),k<n∧dF fl k=true:=fun k hk=>by
   simp only[List.map_nil,List.append_nil,List.mem_map] at hk;obtain⟨e,E,rfl⟩:=hk;obtain⟨pre,suf,c⟩:=List.append_of_mem E;exact⟨(q pre e suf c).1,(q pre e suf c).2.1⟩
  obtain⟨Wl,Wo⟩:=hk i L;obtain⟨Wj,Wx⟩:=hk j A;have e1:=inv.done i s Wl (by unfold aU;rw[Vu];exact hs) (I i Wl);have e2:=inv.done j t Wj (by unfold aU;rw[Vr];exact ht) (I j Wj);rw[if_pos Wo] at e1;rw[if_pos Wx] at e2;rw[←hb,e1,e2];exact fun e=>inv.ne i j oi oj Yp Vu Vr Yy Yv Wo Wx (I i Wl) (I j Wj) (Option.some.inj e)
 | succ f ih=>
  intro listed b X vals Jx inv
  have D:∃i,i<n∧listed.getD i true=false:=by
   cases hl:(List.range n).filter fun j=>!listed.getD j true with
   | nil=>rw[hl] at Jx;simp at Jx
   | cons i _=>
    have:i∈(List.range n).filter fun j=>!listed.getD j true:=by rw[hl];simp
    obtain⟨h1,h2⟩:=List.mem_filter.1 this;exact⟨i,List.mem_range.1 h1,ar h2⟩
  have Vt:∃i,i∈Region.ready .any ops listed:=by
   obtain⟨i,J,Jy⟩:=D
   have Ki:∀m,m<n→listed.getD m true=false→∃i,i∈Region.ready .any ops listed:=by
    intro m
    induction m using Nat.strongRecOn with
    | _ m ihm=>
     intro hm Jy;obtain⟨o,Z,_,Ws,_⟩:=M m hm;by_cases Jv:∀e∈o.after,Region.binds .any e=true→listed.getD e.on false=true
     · exact⟨m,mem_ready.2 ⟨Jy,o,Z,Jv⟩⟩
     · obtain⟨e,E⟩:=Classical.not_forall.1 Jv
       obtain⟨Ke,Vl⟩:=Classical.not_imp.1 E;obtain⟨hb,Yw⟩:=Classical.not_imp.1 Vl;have Jw:=Ws e Ke hb;refine ihm e.on Jw ab (getD_in (by rw[inv.head.size];omega) (ar Yw))
   exact Ki i J Jy
  obtain⟨i0,Wz,Wq⟩:=D;rw[Nat.succ_add];refine⟨fun h0=>(by obtain⟨i,L⟩:=Vt;rw[h0] at L;cases L),fun i L=>?_⟩
  have J:i<n:=by
   rcases Wb with Wb | ⟨hn,hs,hc⟩
   · obtain⟨_,oi,Vu,_⟩:=mem_ready.1 L
     rw[Wb];exact(Array.getElem?_eq_some_iff.1 Vu).1
   · exact Nat.lt_of_not_le fun h=>tail_waits hs hc hn inv.head _ i0 rfl Wz Wq i h L
  obtain⟨o,Z,Vb,Ws,Vj,Yl⟩:=M i J;obtain⟨Jy,o',Yr,Vm⟩:=mem_ready.1 L;obtain rfl:o'=o:=Option.some.inj (Yr.symm.trans Z)
  have Vp:((List.range n).filter fun j=>!(listed.setIfInBounds i true).getD j true).length=f:=by
   have:=count_set n i listed Jy n;rw[if_pos J,Jx] at this;omega
  have Vc:∀j,Region.waitsFor .any ops i j=true→listed.getD j false=true:=fun j A=>by
   obtain⟨o2,Yq,e,E,hb,Yz⟩:=Region.waitsFor_spec A;obtain rfl:o2=o':=Option.some.inj (Yq.symm.trans Z);rw[←Yz];exact Vm e E hb
  have Vg:∀pre e suf,nds=pre ++ e::suf→(∀vals U v X,(∀x∈pre,x.k∈e.deps→vals x.k=U x.k)→e.R (bE ops vals pre afin) v X→e.R (bE ops U pre afin) v X)∧(listed.getD e.k false=true→∀x∈pre,x.k∈e.deps→listed.getD x.k false=true):=fun pre e suf c=>by
   refine⟨fun vals U v X hv hR=>(O pre e suf c vals).2.2 _ v X (fun j A t ht=>?_) hR,fun hl x hx T=>?_⟩
   · refine(rG vals U t pre afin afin rfl rfl (fun x hx Yj=>?_)).symm
     have Yk:=Jw x (by rw[c];simp[hx]);obtain⟨ox,Wn,Yu,_⟩:=M x.k Yk;by_cases Ww:x.k=j
     · exact hv x hx (by rw[Ww];exact A)
     · have Kj:j<n:=by
        rcases Nat.lt_or_ge j n with h | h
        · exact h
        · exfalso
          have Vz:ox.dst=some t:=by
           have:aU ops x.k=ox.dst:=by unfold aU;rw[Wn];rfl
           rw[←this];exact Yj
          have Y:=Ym e (by rw[c];simp) j A;omega
       have Vz:ox.dst=some t:=by
        have:aU ops x.k=ox.dst:=by unfold aU;rw[Wn];rfl
        rw[←this];exact Yj
       exact absurd ht ((Yu t Vz).2 j Kj (fun e=>Ww e.symm))
   · obtain⟨hk,_,hp,_⟩:=q pre e suf c
     obtain⟨oe,Wv,_⟩:=M e.k hk;exact fS inv.head 4 e.k x.k oe Wv (fun e2 Vl Wa=>inv.head.closed e.k oe Wv hl e2 Vl Wa) ((hp x.k (by simp;exact⟨x,hx,rfl⟩)).2 T)
  have V:∀pre e suf,nds=pre ++ e::suf→e.k=i→∀x∈pre,x.k≠i:=fun pre e suf c G x hx=>by
   have:=((q pre e suf c).2.2.1 x.k (by simp;exact⟨x,hx,rfl⟩)).1;omega
  unfold wpOp;simp only[Z]
  cases hndi:dF fl i with
  | false=>
   obtain⟨g,d,v,hg,hd,Ye,hy⟩:=Yg i o' J hndi Z
   have S:∀t∈o'.looksAt ops,b.tmps[t]? = g.tmps[t]?:=fun t ht=>by
    rw[hg t ht];by_cases D:∃j,j<n∧aU ops j=some t
    · obtain⟨j,A,l⟩:=D
      obtain⟨_,hw,Ka⟩:=Vj t ht j A l;have Vw:=Ka hndi;show _=if _ then _ else _;rw[if_pos ⟨j,A,Vw,l⟩,inv.done j t A l (Vc j hw),Vw]
      rfl
    · show _=if _ then _ else _
      rw[if_neg (fun ⟨j,A,_,l⟩=>D ⟨j,A,l⟩)];exact inv.rest t (fun j A l=>absurd ⟨j,A,l⟩ D)
   have Yt:YieldsC P ops (Grw (l4 sts) w) o' v b:=hy.of_same (sb (Region.noSelect_spec Vy i o' · · Z) S) (vX S)
   have W:∀X',Below X.heap.size X X'→wpAny P .any ops Q (f+(ops.size-n)) (listed.setIfInBounds i true) (b.put o'.dst v) X':=fun X' Vi=>
    ih _ _ _ _ Vp (inv.step L J Z Vb (.inl Vi) (fun pre e suf c _ _ vals v hR=>(O pre e suf c vals).1 v _ _ hR Vi) Vg (fun d2 Wt _=>by rw[hd] at Wt;rw[←Option.some.inj Wt];exact Ye) (fun pre e suf c G=>by
     have Y:=(q pre e suf c).2.1
     rw[G,hndi] at Y;cases Y) V (fun h=>by rw[hndi] at h;cases h))
   rcases Yt with ⟨hw,hv⟩ | ⟨hw,rfl⟩
   · rw[if_pos hw]
     refine .inl ?_;unfold Oper.wp;have Y:=hv X inv.below;generalize (execOp b.eval o').run P X=r at *
     cases r with
     | ok nx w'=>
      cases nx<;>simp only[Oper.quietUpon] at Y<;>simp only[Oper.upon]
      case value u=>
       obtain⟨e1,e2⟩:=Y;rw[e1,e2];exact W _ (Below.refl _ _)
      case skip=>
       obtain⟨e1,e2⟩:=Y;rw[e1,←e2];exact W _ (Below.refl _ _)
      case enter f args=>
       obtain⟨e1,Wf⟩:=Y;rw[e1]
       exact Wf.mono fun e Yn ⟨E,Vk⟩=>by subst E;exact W _ Vk
     | halt x w'=>simp only[Oper.quietUpon] at Y
   · rw[hw,if_neg au]
     exact W X (Below.refl _ _)
  | true=>
   have B:=List.all_eq_true.1 Wk i (List.mem_range.2 J);rw[hndi] at B;simp only[Bool.not_true,Bool.false_or,List.contains_iff_mem,List.map_map] at B;obtain⟨e,E,G⟩:=List.mem_map.1 B;replace G:e.k=i:=G;obtain⟨pre,suf,c⟩:=List.append_of_mem E;obtain⟨_,_,Vx,_⟩:=q pre e suf c
   have F:=((gY nds afin _ Vf vals).1 pre e suf c).2 o' (by rw[G];exact Z) X (by rw[G];exact inv.calm i (getD_both Jy)) (fun hw=>inv.calm0 fun p hp=>by
    cases hpl:listed.getD p.1 false with
    | false=>rfl
    | true=>
     exfalso
     have Wr:p.1<listed.size:=by
      rcases Nat.lt_or_ge p.1 listed.size with h' | h'
      · exact h'
      · simp[Array.getElem?_eq_none h'] at hpl
     have Ya:ops[p.1]? = some (ops[p.1]'(by rw[←inv.head.size];exact Wr)):=Array.getElem?_eq_getElem _;have:=fS inv.head 4 p.1 e.k _ Ya (fun e2 Vl Wa=>inv.head.closed p.1 _ Ya hpl e2 Vl Wa) (hw p hp);rw[G,getD_both Jy] at this
     cases this) trivial (fun K x H hx T=>by
    have Wy:=(Vx x.k (by rw[hx];simp)).2 T;rw[G] at Wy
    exact inv.facts K x (H ++ e::suf) (by rw[c,hx];simp) (fS inv.head 4 i x.k o' Z Vm Wy))
   have Vv:∀x∈pre,x.k<i:=fun x hx=>by
    have:=(Vx x.k (by simp;exact⟨x,hx,rfl⟩)).1;rw[G] at this;exact this
   have S:∀t∈o'.looksAt ops,b.tmps[t]? = (bE ops vals pre afin).tmps[t]?:=fun t ht=>by
    by_cases D:∃j,j<n∧aU ops j=some t
    · obtain⟨j,A,l⟩:=D
      obtain⟨Km,hw,_⟩:=Vj t ht j A l;obtain⟨oj,Vr,Wi,_⟩:=M j A
      have Wg:oj.dst=some t:=by
       have:aU ops j=oj.dst:=by unfold aU;rw[Vr];rfl
       rw[←this];exact l
      obtain⟨Wu,Kb⟩:=Wi t Wg;obtain⟨dj,rfl⟩:∃d,d=t:=⟨t,rfl⟩
      have hu:∀x∈pre,aU ops x.k=some dj→x.k=j:=fun x hx T=>by
       rcases Nat.decEq x.k j with Vq | heq
       · exact absurd T (Kb x.k (Jw x (by rw[c];simp[hx])) Vq)
       · exact heq
      rw[inv.done j dj A l (Vc j hw)]
      cases hndj:dF fl j with
      | true=>
       rw[if_pos rfl];have B:=List.all_eq_true.1 Wk j (List.mem_range.2 A);rw[hndj] at B;simp only[Bool.not_true,Bool.false_or,List.contains_iff_mem,List.map_map] at B;obtain⟨x,hx,Vn⟩:=List.mem_map.1 B;replace Vn:x.k=j:=Vn
       have Wh:x∈pre:=by
        rw[c] at hx;rcases List.mem_append.1 hx with hx | hx
        · exact hx
        · rcases List.mem_cons.1 hx with rfl | hx
          · omega
          · obtain⟨K,H,Vd⟩:=List.append_of_mem hx
            have:=((q (pre ++ e::K) x H (by rw[c,Vd];simp)).2.2.1 e.k bm).1;omega
       rw[nj vals dj j pre afin (by rw[Jz.1];exact Wu) ⟨x,Wh,Vn⟩ l hu]
      | false=>
       rw[if_neg au,gG vals dj pre afin (fun x hx T=>by
        have h6:=hu x hx T;obtain⟨K,H,Vd⟩:=List.append_of_mem hx;have Y:=(q K x (H ++ e::suf) (by rw[c,Vd];simp)).2.1
        rw[h6,hndj] at Y;cases Y)]
    · rw[inv.rest t (fun j A l=>absurd ⟨j,A,l⟩ D),gG vals t pre afin (fun x hx T=>D ⟨x.k,Jw x (by rw[c];simp[hx]),T⟩),Vh t (fun j A _ l=>D ⟨j,A,l⟩)]
   rw[←sb (Region.noSelect_spec Vy i o' · · Z) S] at F
   have Wd:Region.wanted o' (yielded ops b.tmps)=true:=by unfold Region.wanted;rw[Yl hndi]
   have Kn:∀x∈nds,x.k=i→x=e∨x.k=i:=fun x _ h=>.inr h
   have Wp:∀x∈nds,x.k=i→x=e:=fun x hx Va=>by
    rw[c] at hx;rcases List.mem_append.1 hx with hx | hx
    · have:=Vv x hx;omega
    · rcases List.mem_cons.1 hx with rfl | hx
      · rfl
      · obtain⟨K,H,Vd⟩:=List.append_of_mem hx
        have:=((q (pre ++ e::K) x H (by rw[c,Vd];simp)).2.2.1 e.k bm).1;omega
   have Vs:∀K x H,nds=K ++ x::H→x.k=i→K=pre∧x=e:=fun K x H hx Va=>by
    have Kh:x=e:=Wp x (by rw[hx];simp) Va;subst Kh;refine⟨?_,rfl⟩
    have Yc:∀(l1 l2 s1 H:List NdB),l1 ++ x::s1=l2 ++ x::H→(∀y∈l1,y.k≠i)→(∀y∈l2,y.k≠i)→l1=l2:=by
     intro l1
     induction l1 with
     | nil=>
      intro l2 s1 H h _ h2
      cases l2 with
      | nil=>rfl
      | cons y l2=>
       simp only[List.nil_append,List.cons_append,List.cons.injEq] at h;exact absurd (h.1▸Va) (h2 y bm)
     | cons y l1 ih=>
      intro l2 s1 H h h1 h2
      cases l2 with
      | nil=>
       simp only[List.nil_append,List.cons_append,List.cons.injEq] at h;exact absurd (h.1.symm▸Va) (h1 y bm)
      | cons z l2=>
       simp only[List.cons_append,List.cons.injEq] at h;rw[h.1,ih l2 s1 H h.2 (fun y hy=>h1 y (by simp[hy])) (fun y hy=>h2 y (by simp[hy]))]
    exact Yc K pre H suf (hx.symm.trans c) (fun y hy=>V K x H hx Va y hy) (fun y hy=>V pre x suf c G y hy)
   have W:∀v X',wN sts i X X'→e.R (bE ops vals pre afin) v X'→(k6 o'=true→v=.pointer (some ⟨X.heap.size,0,none⟩)∧X.heap.size<X'.heap.size)→wpAny P .any ops Q (f+(ops.size-n)) (listed.setIfInBounds i true) (b.put o'.dst v) X':=fun v X' Vi hR Kk=>
    ih _ _ _ _ Vp (inv.step L J Z Vb Vi (fun K x H hx Va Kg vals v hR=>by
     rcases Vi with h | ⟨p,hp,hpi,h⟩
     · exact(O K x H hx vals).1 v _ _ hR h
     · exact(O K x H hx vals).2.1 p hp (by rw[hpi];exact Ne.symm Va) (fun J=>by
        rw[hpi] at J;have Y:=(q K x H hx).2.2.2 i J;rw[List.nil_append] at Y;obtain⟨y,hy,Yh⟩:=List.mem_map.1 Y;have Y:=(Vg K x H hx).2 Kg y hy (by rw[Yh];exact J);rw[Yh,getD_both Jy] at Y
        cases Y) v _ _ hR h) Vg (fun _ _ h=>by rw[hndi] at h;cases h) (fun K x H hx Vn=>by obtain⟨rfl,rfl⟩:=Vs K x H hx Vn;exact hR) V (fun _=>Kk))
   have Vo:∀nx w',(execOp b.eval o').run P X=.ok nx w'→k6 o'=true→nx=.value (.pointer (some ⟨X.heap.size,0,none⟩))∧X.heap.size<w'.heap.size:=fun nx w' h1 h2=>F2 h2 h1;rw[if_pos Wd];refine .inl ?_;unfold Oper.wp;generalize (execOp b.eval o').run P X=r at *;rw[G] at F
   cases r with
   | ok nx w'=>
    cases nx<;>simp only[fk] at F<;>simp only[Oper.upon]
    case value u=>exact W _ _ F.1 F.2 (fun h=>by obtain⟨q1,q2⟩:=Vo _ _ rfl h;cases q1;exact⟨rfl,q2⟩)
    case skip=>exact W _ _ F.1 F.2 (fun h=>by obtain⟨q1,_⟩:=Vo _ _ rfl h;cases q1)
    case enter f args=>
     obtain⟨e1,Wf⟩:=F
     have Yo:k6 o'=true→False:=fun h=>by obtain⟨q1,_⟩:=Vo _ _ rfl h;cases q1
     rw[e1]
     exact Wf.mono fun e Yn ⟨v,E,Vk,hR⟩=>by subst E;exact W _ _ Vk hR (fun h=>(Yo h).elim)
   | halt x w'=>simp only[fk] at F
end
theorem kc {C:World→Prop} {L:Act→Prop}:∀(b:List Oper) (a:Act),dK P ops C L b a→∃afin,dK P ops C (fun g=>g=afin) b a∧L afin
 | [],a,h=>⟨a,rfl,h⟩
 | o::b,a,h=>by
  unfold dK at h
  split at h
  · rename_i c
    obtain⟨v,f,e⟩:=h;obtain⟨afin,h3,d⟩:=kc b _ e;exact⟨afin,by unfold dK;rw[if_pos c];exact⟨v,f,h3⟩,d⟩
  · rename_i c
    obtain⟨afin,h3,d⟩:=kc b _ h;exact⟨afin,by unfold dK;rw[if_neg c];exact h3,d⟩
theorem iJ {C e:World→Prop} {L:Act→Prop} (d:∀X,e X→C X):∀(b:List Oper) (a:Act),dK P ops C L b a→dK P ops e L b a
 | [],a,h=>h
 | o::b,a,h=>by
  unfold dK at h ⊢
  split
  · rename_i c
    rw[if_pos c] at h;obtain⟨v,g,f⟩:=h;exact⟨v,fun X i=>g X (d X i),iJ d b _ f⟩
  · rename_i c
    rw[if_neg c] at h;exact iJ d b _ h
def o9 (P:Program) (l:List Oper) (Q:Exit→Act→World→Prop) (a:Act) (w:World):Prop:=wpAny P .any l.toArray Q l.toArray.size (Array.replicate l.toArray.size false) a { w with drawn:=w.drawn+1 }
theorem nf {Q:Exit→Act→World→Prop} {a:Act} {w:World} {l:List Oper} (sts:List yS) (fl:List Bool) (nds:List NdB)
 (hB:iq l.toArray fl fl.length a.tmps.size (nds.map fun d=>(d.k,d.deps))=true)
 (h:∃afin:Act,dK P l.toArray (Grw (l4 sts) w) (fun S=>S=afin) (pick fl l) a∧gU P l.toArray sts w Q (l.drop fl.length) nds afin []) :
 o9 P l Q a w:=by
 obtain⟨afin,y,I⟩:=h;have v:=hB;unfold iq at v;rw[Bool.and_eq_true,Bool.and_eq_true,Bool.and_eq_true,Bool.and_eq_true,Bool.and_eq_true,Bool.and_eq_true,Bool.and_eq_true,decide_eq_true_eq] at v;obtain⟨⟨⟨⟨⟨⟨⟨R,E⟩,O⟩,V⟩,_⟩,U⟩,M⟩,_⟩:=v
 have D:fl.length≤l.toArray.size:=by
  rcases vZ E with h | h
  · exact Nat.le_of_eq h
  · exact Nat.le_of_lt h.1
 have K:l.toArray.size=l.length:=by simp
 have A:=qh _ _ y
 have u:∀t,(∀j,j<fl.length→dF fl j=false→aU l.toArray j≠some t)→afin.tmps[t]? = a.tmps[t]?:=fun t ht=>by
  refine(mf _ _ ?_ y).1.symm
  have L:∀(B:List Bool) (m:List Oper) (i:Nat),i+B.length=fl.length→(∀j,B[j]? = fl[i+j]?)→(∀j,m[j]? = l.toArray[i+j]?)→∀o∈pick B m,o.dst≠some t:=by
   intro B
   induction B with
   | nil=>intro m i _ _ _ o q;cases m<;>simp[pick] at q
   | cons b B ih=>
    intro m i f F H o q
    cases m with
    | nil=>cases b<;>simp[pick] at q
    | cons x m=>
     have hx:l.toArray[i]? = some x:=by have:=H 0;rw[Nat.add_zero] at this;rw[←this];rfl
     have T:dF fl i=b:=by have:=F 0;rw[Nat.add_zero] at this;unfold dF;rw[←this];rfl
     have s:∀j,B[j]? = fl[i+1+j]?:=fun j=>by have:=F (j+1);rw[show i+1+j=i+(j+1) by omega,←this];rfl
     have r:∀j,m[j]? = l.toArray[i+1+j]?:=fun j=>by have:=H (j+1);rw[show i+1+j=i+(j+1) by omega,←this];rfl
     cases b with
     | true=>exact ih m (i+1) (by simp at f;omega) s r o q
     | false=>
      rcases List.mem_cons.1 q with rfl | q
      · intro e
        exact ht i (by simp at f;omega) T (by unfold aU;rw[hx];exact e)
      · exact ih m (i+1) (by simp at f;omega) s r o q
  exact L fl l 0 ab (fun j=>by rw[Nat.zero_add]) (fun j=>by rw[Nat.zero_add];simp)
 have G:=oS (P:=P) (C:=Grw (l4 sts) w) (afin:=afin) V rfl rfl D (fun t=>if (∃j,j<fl.length∧dF fl j=false∧aU l.toArray j=some t) then afin.tmps[t]? else a.tmps[t]?)
  (fun j t p g z=>if_pos ⟨j,p,g,z⟩) (fun t ht=>if_neg (fun ⟨j,p,g,z⟩=>ht j p g z))
  fl l 0 a ab (fun j=>by rw[Nat.zero_add]) (fun j=>by rw[Nat.zero_add];simp) rfl (fun t ⟨j,p,_⟩=>absurd p (Nat.not_lt_zero _)) (fun t _=>rfl) y
 have:=Az (P:=P) (w:=w) (Q:=Q) (tail:=l.drop fl.length) (a:=a) (afin:=afin) (sts:=sts) hB rfl (fun j=>by rw[List.getElem?_drop,List.getElem?_toArray]) (by rw[List.length_drop,K]) A u
  (fun j o p g q=>G j o (Nat.zero_le _) p g q) I fl.length (Array.replicate l.toArray.size false) a { w with drawn:=w.drawn+1 } (fun _=>undef)
  (by
   rw[List.filter_eq_self.2 (fun j p=>by
    have J:j<l.toArray.size:=by have:=List.mem_range.1 p;omega
    rw[getD_in (by rw[Array.size_replicate];exact J) (getD_replicate_false _ _)];rfl)]
   simp)
  ⟨(Grw.refl _ w).drew,⟨by simp,fun j oj _ c=>(by rw[getD_replicate_false] at c;cases c),fun t _ ht=>getD_in (ar ht) (getD_replicate_false _ _)⟩,rfl,rfl,
   fun i d _ _ c=>(by rw[getD_replicate_false] at c;cases c),fun t _=>rfl,fun pre d suf _ c=>(by rw[getD_replicate_false] at c;cases c),fun k _=>(Grw.refl _ w).drew,fun _=>(Grw.refl _ w).drew,
   fun i o _ _ _ c=>(by rw[getD_replicate_false] at c;cases c),fun i j oi oj _ _ _ _ _ _ _ c=>(by rw[getD_replicate_false] at c;cases c)⟩
 rw[show fl.length+(l.toArray.size-fl.length)=l.toArray.size by omega] at this;exact this
def yT (sts:List (Nat × (Nat→Option Obj→Prop))):List yS:=sts.map fun p=>(p.1,p.2,fun _ _=>True)
theorem ko {sts:List (Nat × (Nat→Option Obj→Prop))} {p:yS} (h:p∈yT sts):∃q∈sts,p=(q.1,q.2,fun _ _=>True):=by
 obtain⟨q,c,b⟩:=List.mem_map.1 h;exact⟨q,c,b.symm⟩
theorem DY {ops:Array Oper} {fl:List Bool} {n N:Nat} {ks:List (Nat × List Nat)} (h:mB ops fl n N ks=true):iq ops fl n N ks=true:=by
 unfold mB at h;unfold iq;simp only[Bool.and_eq_true,Bool.or_eq_true] at h ⊢;obtain⟨⟨⟨⟨⟨⟨⟨⟨⟨e,c⟩,h3⟩,j⟩,f⟩,b⟩,k⟩,d⟩,i⟩,g⟩:=h;exact⟨⟨⟨⟨⟨⟨⟨e,.inr ⟨⟨c,h3⟩,j⟩⟩,f⟩,b⟩,k⟩,d⟩,i⟩,g⟩
theorem pz {P:Program} {ops:Array Oper} {w:World} {sts:List (Nat × (Nat→Option Obj→Prop))} {Q:Exit→Act→World→Prop} {tail:List Oper}:∀(nds:List NdB) (g:Act) (Φ:List (Nat × (World→Prop))),vl P ops sts w Q tail nds g Φ→gU P ops (yT sts) w Q tail nds g Φ
 | [],g,Φ,h=>fun X l _ m=>h X (l.weaken fun x o ⟨p,i,b⟩=>by obtain⟨q,j,rfl⟩:=ko i;exact⟨q,j,b⟩) m
 | d::rest,g,Φ,⟨⟨j,h1b,h1c⟩,t,h3⟩=>by
  refine⟨⟨j,fun p i c z v X X' E l=>?_,h1c⟩,fun o F X l _ m=>?_,fun v=>pz rest _ _ (h3 v)⟩
  · obtain⟨q,A,rfl⟩:=ko i
    exact h1b q A c z v X X' E l.1
  · have h:=t o F X (l.weaken fun x o ⟨p,i,c,b⟩=>by obtain⟨q,A,rfl⟩:=ko i;exact⟨q,A,c,b⟩) m
    have s:∀X',Hg sts d.k X X'→wN (yT sts) d.k X X':=fun X' y=>y.imp id fun ⟨p,i,e,D⟩=>⟨_,List.mem_map.2 ⟨p,i,rfl⟩,e,D,trivial⟩;generalize (execOp g.eval o).run P X=r at *
    cases r with
    | ok nx w'=>
     cases nx<;>simp only[kH] at h<;>simp only[fk]
     case value u=>exact⟨s _ h.1,h.2⟩
     case skip=>exact⟨s _ h.1,h.2⟩
     case enter f args=>exact⟨h.1,h.2.mono fun e B ⟨v,j,t,h3⟩=>⟨v,j,s _ t,h3⟩⟩
    | halt x w'=>simp only[kH] at h
theorem uQ {P:Program} {Q:Exit→Act→World→Prop} {a:Act} {w:World} {l:List Oper} (sts:List (Nat × (Nat→Option Obj→Prop))) (fl:List Bool) (nds:List NdB)
 (hB:mB l.toArray fl fl.length a.tmps.size (nds.map fun d=>(d.k,d.deps))=true)
 (h:∃afin:Act,dK P l.toArray (Grw (Aa sts) w) (fun g=>g=afin) (pick fl l) a∧vl P l.toArray sts w Q (l.drop fl.length) nds afin []) :
 o9 P l Q a w:=by
 obtain⟨afin,f,e⟩:=h;exact nf (yT sts) fl nds (DY hB) ⟨afin,iJ (fun X j=>j.weaken fun x o ⟨p,c,b⟩=>by obtain⟨q,i,rfl⟩:=ko c;exact⟨q,i,b⟩) _ _ f,pz nds afin _ e⟩
theorem zy {P:Program} {Q:Exit→Act→World→Prop} {a:Act} {w:World} {l:List Oper} (sts:List (Nat × (Nat→Option Obj→Prop))) (fl:List Bool) (nds:List NdB)
 (hB:mB l.toArray fl fl.length a.tmps.size (nds.map fun d=>(d.k,d.deps))=true) (c:qi (pick fl l) a.tmps.size=true)
 (h:∃afin:Act,(∀X,Grw (Aa sts) w X→wpQuiet P l.toArray (fun e=>∃p:Regrown,e=grow (redrawn X p.d) p.os) (fun f=>f=afin) (pick fl l) a)∧vl P l.toArray sts w Q (l.drop fl.length) nds afin []) :
 o9 P l Q a w:=by
 obtain⟨afin,g,b⟩:=h;exact uQ sts fl nds hB ⟨afin,jn (C:=Grw (Aa sts) w) (Grw.refl _ w) (pick fl l) a c g,b⟩
theorem od {P:Program} {id:Nat} {Q:Exit→Act→World→Prop} {a:Act} {w:World} {l:List Oper} (sts:List (Nat × (Nat→Option Obj→Prop))) (fl:List Bool) (nds:List NdB) (hm:P.follows .mixedOrders=true)
 (hB:mB l.toArray fl fl.length a.tmps.size (nds.map fun d=>(d.k,d.deps))=true) (b:qi (pick fl l) a.tmps.size=true)
 (h:∃afin:Act,(∀X,Grw (Aa sts) w X→wpQuiet P l.toArray (fun c=>∃p:Regrown,c=grow (redrawn X p.d) p.os) (fun e=>e=afin) (pick fl l) a)∧vl P l.toArray sts w Q (l.drop fl.length) nds afin []) :
 (Code.region id l.toArray true).wp P Q a w:=wp_region_any hm (zy sts fl nds hB b h)
end
theorem DI {w X:World} (c:Below w.heap.size w X):∀d os b o,b<w.heap.size→(grow (redrawn X d) os).cell? ⟨b,o,none⟩=w.cell? ⟨b,o,none⟩:=fun d os b o h=>
 ((below_regrown X d os).cell (p:=⟨b,o,none⟩) (Nat.lt_of_lt_of_le h c.size)).trans (c.cell (p:=⟨b,o,none⟩) h)
end Go.Proofs.YtcfdpfmchchkaaaGreatDoor
