/- Regions that draw their  -/
import Derived.Test.YtcfdpfmchchkaaaGreatDoorKitA
namespace Go.Proofs.YtcfdpfmchchkaaaGreatDoor
set_option linter.unusedVariables false
set_option linter.unusedSimpArgs false
open Go.RowKit Go.Sort
structure Nd where
 k:Nat
 deps:List Nat
 R:Value→World→Prop
 st:Bool
structure NdA where
 k:Nat
 deps:List Nat
 R:Act→Value→World→Prop
 st:Bool
structure NdB where
 k:Nat
 deps:List Nat
 R:Act→Value→World→Prop
def Nd.lift (d:Nd):NdA:=⟨d.k,d.deps,fun _=>d.R,d.st⟩
def NdA.lift (d:NdA):NdB:=⟨d.k,d.deps,d.R⟩
def told (deps:List Nat):List (Nat × (World→Prop))→World→Prop
 | [],_=>True
 | (j,F)::r,X=>if deps.contains j=true then F X∧told deps r X else told deps r X
def eN:List (Nat × (World→Prop))→World→Prop
 | [],_=>True
 | (_,F)::r,X=>F X∧eN r X
structure Grw (O:Nat→Option Obj→Prop) (w X:World):Prop where
 os:X.os=w.os
 tape:X.tape=w.tape
 output:X.output=w.output
 size:w.heap.size≤X.heap.size
 block:∀b,b<w.heap.size→¬O b w.heap[b]?→X.heap[b]? = w.heap[b]?
 shape:∀(b:Nat) (cs:Array Value) (T:TypeId) (fr:Nat × Nat),w.heap[b]? = some (Obj.cells cs T fr)→∃cs':Array Value,cs'.size=cs.size∧X.heap[b]? = some (Obj.cells cs' T fr)
theorem Grw.refl (O:Nat→Option Obj→Prop) (w:World):Grw O w w:=⟨rfl,rfl,rfl,Nat.le_refl _,fun _ _ _=>rfl,fun b cs T fr h=>⟨cs,rfl,h⟩⟩
theorem Grw.trans {O:Nat→Option Obj→Prop} {a b c:World} (h:Grw O a b) (k:Grw O b c):Grw O a c:=
 ⟨k.os.trans h.os,k.tape.trans h.tape,k.output.trans h.output,Nat.le_trans h.size k.size,fun x hx d=>by
  have e:=h.block x hx d
  exact(k.block x (Nat.lt_of_lt_of_le hx h.size) (by rw[e];exact d)).trans e,
  fun x cs T fr hx=>by
   obtain⟨c1,f,i⟩:=h.shape x cs T fr hx;obtain⟨c2,h3,g⟩:=k.shape x c1 T fr i
   exact⟨c2,h3.trans f,g⟩⟩
theorem Grw.of_below {O:Nat→Option Obj→Prop} {a b:World} (h:Below a.heap.size a b):Grw O a b:=
 ⟨h.os,h.tape,h.output,h.size,fun x hx _=>h.block x hx,fun x cs T fr hx=>⟨cs,rfl,(h.block x (Array.getElem?_eq_some_iff.1 hx).1).trans hx⟩⟩
theorem Grw.weaken {O O':Nat→Option Obj→Prop} {a b:World} (h:Grw O a b) (d:∀x o,O x o→O' x o):Grw O' a b:=
 ⟨h.os,h.tape,h.output,h.size,fun x hx c=>h.block x hx (fun h=>c (d _ _ h)),h.shape⟩
theorem Grw.below {a b:World} (h:Grw (fun _ _=>False) a b):Below a.heap.size a b:=⟨h.os,h.tape,h.output,h.size,fun x hx=>h.block x hx (fun h=>h)⟩
theorem Grw.drew {O:Nat→Option Obj→Prop} {a b:World} (h:Grw O a b):Grw O a { b with drawn:=b.drawn+1 }:=⟨h.os,h.tape,h.output,h.size,h.block,h.shape⟩
theorem Grw.cell {O:Nat→Option Obj→Prop} {a b:World} (h:Grw O a b) {p:Addr} (d:p.block<a.heap.size) (c:¬O p.block a.heap[p.block]?):b.cell? p=a.cell? p:=World.cell?_of_block (h.block p.block d c)
section
variable {P:Program} {ops:Array Oper} {w:World}
def cj (P:Program) (R:Value→World→Prop) (X:World):Result Next→Prop
 | .ok (.value u) X'=>Below X.heap.size X X'∧R u X'
 | .ok (.enter f args) X'=>X'=X∧Calls P f args X (fun e b=>∃v,e=.returned v∧Below X.heap.size X b∧R v b)
 | _=>False
def Fw (P:Program) (O:Nat→Option Obj→Prop) (st:Bool) (R:Value→World→Prop) (X:World) (r:Result Next):Prop:=
 cj P R X r∨(st=true∧∃X',r=.ok .skip X'∧Grw O X X'∧R undef X')
def Im (sts:List (Nat × (Nat→Option Obj→Prop))) (k:Nat) (X X':World):Prop:=Below X.heap.size X X'∨∃p∈sts,p.1=k∧Grw p.2 X X'
def jY (P:Program) (sts:List (Nat × (Nat→Option Obj→Prop))) (k:Nat) (R:Value→World→Prop) (X:World):Result Next→Prop
 | .ok (.value u) X'=>Im sts k X X'∧R u X'
 | .ok .skip X'=>Im sts k X X'∧R undef X'
 | .ok (.enter f args) X'=>X'=X∧Calls P f args X (fun e b=>∃v,e=.returned v∧Im sts k X b∧R v b)
 | _=>False
def pI (sts:List (Nat × (Nat→Option Obj→Prop))) (b:Nat) (o:Option Obj):Prop:=∃p∈sts,p.2 b o
def GS (sts:List (Nat × (Nat→Option Obj→Prop))) (k:Nat) (b:Nat) (o:Option Obj):Prop:=∃p∈sts,p.1≠k∧p.2 b o
def ay (ops:Array Oper) (i:Nat):Option Tmp:=(ops[i]?).bind (·.dst)
def wA (P:Program) (ops:Array Oper) (sts:List (Nat × (Nat→Option Obj→Prop))) (w:World) (Q:Exit→Act→World→Prop) (tail:List Oper):List NdB→Act→List (Nat × (World→Prop))→Prop
 | [],g,Φ=>∀X,Grw (pI sts) w X→eN Φ X→wpList P ops Q tail g X
 | d::rest,g,Φ=>((∀v X X',d.R g v X→Below X.heap.size X X'→d.R g v X')∧(∀p∈sts,p.1≠d.k→p.1∉d.deps→∀v X X',d.R g v X→Grw p.2 X X'→d.R g v X') ∧
  (∀b v X,(∀j∈d.deps,∀t,ay ops j=some t→b.tmps[t]? = g.tmps[t]?)→d.R g v X→d.R b v X)) ∧
  (∀o,ops[d.k]? = some o→∀X,Grw (GS sts d.k) w X→told d.deps Φ X→jY P sts d.k (d.R g) X ((execOp g.eval o).run P X)) ∧
  ∀v,wA P ops sts w Q tail rest (g.put (ay ops d.k) v) ((d.k,d.R g v)::Φ)
def Hh (P:Program) (ops:Array Oper) (O:Nat→Option Obj→Prop) (w:World) (Q:Exit→Act→World→Prop) (tail:List Oper):List NdA→Act→List (Nat × (World→Prop))→Prop
 | [],g,Φ=>∀X,Grw O w X→eN Φ X→wpList P ops Q tail g X
 | d::rest,g,Φ=>((∀v X X',d.R g v X→Below X.heap.size X X'→d.R g v X')∧(d.st=false→∀v X X',d.R g v X→Grw O X X'→d.R g v X') ∧
  (∀b v X,(∀j∈d.deps,∀t,ay ops j=some t→b.tmps[t]? = g.tmps[t]?)→d.R g v X→d.R b v X)) ∧
  (∀o,ops[d.k]? = some o→∀X,Grw O w X→(d.st=true→Below w.heap.size w X)→told d.deps Φ X→Fw P O d.st (d.R g) X ((execOp g.eval o).run P X)) ∧
  ∀v,Hh P ops O w Q tail rest (g.put (ay ops d.k) v) ((d.k,d.R g v)::Φ)
theorem pZ {O:Nat→Option Obj→Prop} {Q:Exit→Act→World→Prop} {tail:List Oper} (all:List NdA) (b:∀e∈all,∀f∈all,e.st=true→f.st=true→e.k=f.k) (j:∀e∈all,∀f∈all,e.k=f.k→e.st=f.st) :
 ∀(nds:List NdA) (g:Act) (Φ:List (Nat × (World→Prop))),(∀d∈nds,d∈all)→Hh P ops O w Q tail nds g Φ→wA P ops ((all.filter (·.st)).map fun d=>(d.k,O)) w Q tail (nds.map NdA.lift) g Φ
 | [],g,Φ,_,h=>fun X s t=>h X (s.weaken (fun x o ⟨p,l,i⟩=>by obtain⟨d,_,rfl⟩:=List.mem_map.1 l;exact i)) t
 | d::rest,g,Φ,hsub,⟨⟨y,h1b,h1c⟩,B,h3⟩=>by
  refine⟨⟨y,fun p l hne _ v X X' F s=>?_,h1c⟩,fun o E X s t=>?_,fun v=>pZ all b j rest _ _ (fun x hx=>hsub x (by simp[hx])) (h3 v)⟩
  · obtain⟨e,z,rfl⟩:=List.mem_map.1 l
    obtain⟨q,m⟩:=List.mem_filter.1 z
    cases c:d.st with
    | false=>exact h1b c v X X' F s
    | true=>exact absurd (b e q d (hsub d bw) m c) hne
  · have A:Grw O w X:=s.weaken (fun x o ⟨p,l,_,i⟩=>by obtain⟨d,_,rfl⟩:=List.mem_map.1 l;exact i)
    have:=B o E X A (fun c=>(s.weaken (O':=fun _ _=>False) (fun x o ⟨p,l,hne,i⟩=>by
     obtain⟨e,z,rfl⟩:=List.mem_map.1 l;obtain⟨q,m⟩:=List.mem_filter.1 z
     exact hne (b e q d (hsub d bw) m c))).below) t
    rcases this with h | ⟨c,X',h4,h5,h6⟩
    · generalize (execOp g.eval o).run P X=r at *
      cases r with
      | ok nx w'=>
       cases nx<;>simp only[cj] at h<;>simp only[jY]
       case value u=>exact⟨.inl h.1,h.2⟩
       case enter f args=>exact⟨h.1,h.2.mono fun e D ⟨v,y,B,h3⟩=>⟨v,y,.inl B,h3⟩⟩
      | halt x w'=>simp only[cj] at h
    · rw[h4]
      exact⟨.inr ⟨(d.k,O),List.mem_map.2 ⟨d,List.mem_filter.2 ⟨hsub d bw,c⟩,rfl⟩,rfl,h5⟩,h6⟩
def qj (P:Program) (ops:Array Oper) (w:World) (Q:Exit→Act→World→Prop) (tail:List Oper):List Nd→Act→List (Nat × (World→Prop))→Prop
 | [],g,Φ=>∀X,Below w.heap.size w X→eN Φ X→wpList P ops Q tail g X
 | d::rest,g,Φ=>(∀v X X',d.R v X→Below X.heap.size X X'→d.R v X') ∧
  (∀o,ops[d.k]? = some o→∀X,Below w.heap.size w X→told d.deps Φ X→cj P d.R X ((execOp g.eval o).run P X)) ∧
  ∀v,qj P ops w Q tail rest (g.put (ay ops d.k) v) ((d.k,d.R v)::Φ)
theorem qe {Q:Exit→Act→World→Prop} {tail:List Oper}:∀(nds:List Nd) (g:Act) (Φ:List (Nat × (World→Prop))),qj P ops w Q tail nds g Φ→Hh P ops (fun _ _=>False) w Q tail (nds.map Nd.lift) g Φ
 | [],g,Φ,h=>fun X b c=>h X b.below c
 | d::rest,g,Φ,⟨h1,h2,h3⟩=>⟨⟨h1,fun _ v X X' f b=>h1 v X X' f b.below,fun _ v X _ h=>h⟩,fun o e X b _ c=>.inl (h2 o e X b.below c),fun v=>qe rest _ _ (h3 v)⟩
def aR (ops:Array Oper) (vals:Nat→Value) (nds:List NdB) (g:Act):Act:=nds.foldl (fun g d=>g.put (ay ops d.k) (vals d.k)) g
theorem ka (vals b:Nat→Value):∀(nds:List NdB) (g:Act),(∀e∈nds,vals e.k=b e.k)→aR ops vals nds g=aR ops b nds g
 | [],_,_=>rfl
 | d::rest,g,h=>by
  show aR ops vals rest (g.put (ay ops d.k) (vals d.k))=aR ops b rest (g.put (ay ops d.k) (b d.k));rw[h d bw];exact ka vals b rest _ (fun e c=>h e (by simp[c]))
theorem ja {sts:List (Nat × (Nat→Option Obj→Prop))} {Q:Exit→Act→World→Prop} {tail:List Oper}:∀(nds:List NdB) (g:Act) (Φ:List (Nat × (World→Prop))),wA P ops sts w Q tail nds g Φ→∀vals:Nat→Value,
 (∀pre d suf,nds=pre ++ d::suf→((∀v X X',d.R (aR ops vals pre g) v X→Below X.heap.size X X'→d.R (aR ops vals pre g) v X')∧(∀p∈sts,p.1≠d.k→p.1∉d.deps→∀v X X',d.R (aR ops vals pre g) v X→Grw p.2 X X'→d.R (aR ops vals pre g) v X') ∧
  (∀q v X,(∀j∈d.deps,∀t,ay ops j=some t→q.tmps[t]? = (aR ops vals pre g).tmps[t]?)→d.R (aR ops vals pre g) v X→d.R q v X)) ∧
  ∀o,ops[d.k]? = some o→∀X,Grw (GS sts d.k) w X→told d.deps Φ X→(∀b e c,pre=b ++ e::c→e.k∈d.deps→e.R (aR ops vals b g) (vals e.k) X) →
  jY P sts d.k (d.R (aR ops vals pre g)) X ((execOp (aR ops vals pre g).eval o).run P X)) ∧
 (∀X,Grw (pI sts) w X→eN Φ X→(∀b e c,nds=b ++ e::c→e.R (aR ops vals b g) (vals e.k) X)→wpList P ops Q tail (aR ops vals nds g) X)
 | [],g,Φ,h,vals=>⟨fun pre d suf e=>by simp at e,fun X f l _=>h X f l⟩
 | d::rest,g,Φ,⟨h1,h2,h3⟩,vals=>by
  obtain⟨y,B⟩:=ja rest _ _ (h3 (vals d.k)) vals;refine⟨fun pre d' suf e=>?_,fun X f l i=>B X f ⟨i [] d rest rfl,l⟩ (fun b e c r=>i (d::b) e c (by rw[r];rfl))⟩
  cases pre with
  | nil=>
   simp only[List.nil_append,List.cons.injEq] at e;obtain⟨rfl,rfl⟩:=e;exact⟨h1,fun o m X f hf _=>h2 o m X f hf⟩
  | cons p pre=>
   simp only[List.cons_append,List.cons.injEq] at e;obtain⟨rfl,e⟩:=e;obtain⟨u,s⟩:=y pre d' suf e;refine⟨u,fun o m X f hf i=>s o m X f ?_ (fun b x c hx A=>i (d::b) x c (by rw[hx];rfl) A)⟩;unfold told
   split
   · rename_i z
     exact⟨i [] d pre rfl (List.contains_iff_mem.1 z),hf⟩
   · exact hf
theorem dR (a:Act) (d:Option Tmp) (v:Value):(a.put d v).tmps.size=a.tmps.size:=by unfold Act.put;split<;>simp
theorem put_defers (a:Act) (d:Option Tmp) (v:Value):(a.put d v).defers=a.defers:=by unfold Act.put;split<;>rfl
theorem fu {a:Act} {d:Option Tmp} {t:Tmp} (h:d≠some t) (v:Value):(a.put d v).tmps[t]? = a.tmps[t]?:=by
 unfold Act.put
 split
 · rename_i u
   exact Array.getElem?_setIfInBounds_ne (fun e=>h (by rw[e]))
 · rfl
theorem put_eq {a:Act} {t:Tmp} (h:t<a.tmps.size) (v:Value):(a.put (some t) v).tmps[t]? = some v:=by
 unfold Act.put;simp[h]
theorem kL (vals:Nat→Value):∀(nds:List NdB) (g:Act),(aR ops vals nds g).tmps.size=g.tmps.size∧(aR ops vals nds g).defers=g.defers
 | [],g=>⟨rfl,rfl⟩
 | d::rest,g=>by
  obtain⟨b,c⟩:=kL vals rest (g.put (ay ops d.k) (vals d.k));exact⟨b.trans (dR _ _ _),c.trans (put_defers _ _ _)⟩
theorem nX (vals b:Nat→Value) (t:Tmp):∀(nds:List NdB) (g c:Act),g.tmps.size=c.tmps.size→g.tmps[t]? = c.tmps[t]?→(∀e∈nds,ay ops e.k=some t→vals e.k=b e.k)→(aR ops vals nds g).tmps[t]? = (aR ops b nds c).tmps[t]?
 | [],g,c,_,h,_=>h
 | d::rest,g,c,hs,h,hv=>by
  refine nX vals b t rest _ _ (by rw[dR,dR];exact hs) ?_ (fun e i=>hv e (by simp[i]));show(g.put (ay ops d.k) (vals d.k)).tmps[t]? = (c.put (ay ops d.k) (b d.k)).tmps[t]?;by_cases f:ay ops d.k=some t
  · rw[f,hv d bw f]
    by_cases ht:t<g.tmps.size
    · rw[put_eq ht,put_eq (by rw[←hs];exact ht)]
    · rw[Array.getElem?_eq_none (by rw[dR];exact Nat.le_of_not_lt ht),Array.getElem?_eq_none (by rw[dR,←hs];exact Nat.le_of_not_lt ht)]
  · rw[fu f,fu f];exact h
theorem eo (vals:Nat→Value) (t:Tmp):∀(nds:List NdB) (g:Act),(∀e∈nds,ay ops e.k≠some t)→(aR ops vals nds g).tmps[t]? = g.tmps[t]?
 | [],g,_=>rfl
 | d::rest,g,h=>(eo vals t rest _ (fun e b=>h e (by simp[b]))).trans (fu (h d bw) _)
theorem jQ (vals:Nat→Value) (t:Tmp) (k:Nat):∀(nds:List NdB) (g:Act),t<g.tmps.size→(∃e∈nds,e.k=k)→(ay ops k=some t)→(∀e∈nds,ay ops e.k=some t→e.k=k)→(aR ops vals nds g).tmps[t]? = some (vals k)
 | [],g,_,h,_,_=>by obtain⟨e,b,_⟩:=h;cases b
 | d::rest,g,ht,h,hk,hu=>by
  by_cases hr:∃e∈rest,e.k=k
  · exact jQ vals t k rest _ (by rw[dR];exact ht) hr hk (fun e b=>hu e (by simp[b]))
  · have f:d.k=k:=by
     obtain⟨e,b,c⟩:=h;rcases List.mem_cons.1 b with rfl | b
     · exact c
     · exact absurd ⟨e,b,c⟩ hr
    show(aR ops vals rest (g.put (ay ops d.k) (vals d.k))).tmps[t]? = _;rw[eo vals t rest _ (fun e b e2=>hr ⟨e,b,hu e (by simp[b]) e2⟩),f,hk];exact put_eq ht _
theorem gk {o:Oper} (c:∀cs b,o.op≠.select cs b) {b g:Act} (h:∀t∈o.looksAt ops,b.tmps[t]? = g.tmps[t]?):execOp b.eval o=execOp g.eval o:=
 execOp_congr o c fun x hx=>by
  cases x with
  | tmp t=>
   have:=h t (List.mem_append_left _ (List.mem_filterMap.2 ⟨.tmp t,al hx,rfl⟩));simp[Act.eval,this]
  | _=>rfl
theorem gM {o:Oper} {b g:Act} (h:∀t∈o.looksAt ops,b.tmps[t]? = g.tmps[t]?):Region.wanted o (yielded ops b.tmps)=Region.wanted o (yielded ops g.tmps):=by
 unfold Region.wanted
 cases hg:o.guard with
 | none=>rfl
 | some gw=>
  obtain⟨k,c⟩:=gw
  have d:yielded ops b.tmps k=yielded ops g.tmps k:=by
   unfold yielded
   cases ht:(ops[k]?).bind (·.dst) with
   | none=>rfl
   | some t=>
    have:=h t (by simp[Oper.looksAt,hg,ht]);simp[this]
  simp only[d]
def BH (P:Program) (C:World→Prop) (s:Sem Next) (v:Value):Prop:=∀X,C X→Oper.quietUpon P (fun X'=>Below X.heap.size X X') X v (s.run P X)
def dN (P:Program) (ops:Array Oper) (C:World→Prop) (L:Act→Prop):List Oper→Act→Prop
 | [],a=>L a
 | o::rest,a=>if Region.wanted o (yielded ops a.tmps) then ∃v,BH P C (execOp a.eval o) v∧dN P ops C L rest (a.put o.dst v) else dN P ops C L rest (a.put o.dst undef)
def YieldsC (P:Program) (ops:Array Oper) (C:World→Prop) (o:Oper) (v:Value) (a:Act):Prop:=
 (Region.wanted o (yielded ops a.tmps)=true∧BH P C (execOp a.eval o) v)∨(Region.wanted o (yielded ops a.tmps)=false∧v=undef)
theorem YieldsC.of_same {C:World→Prop} {o:Oper} {v:Value} {a a':Act} (c:YieldsC P ops C o v a) (d:execOp a'.eval o=execOp a.eval o)
 (b:Region.wanted o (yielded ops a'.tmps)=Region.wanted o (yielded ops a.tmps)):YieldsC P ops C o v a':=by
 unfold YieldsC at *;rw[d,b];exact c
theorem kn {C:World→Prop} {afin:Act} (j:C w):∀(l:List Oper) (a:Act),s6 l a.tmps.size=true →
 (∀X,C X→wpQuiet P ops (fun g=>∃p:Regrown,g=grow (redrawn X p.d) p.os) (fun a'=>a'=afin) l a)→dN P ops C (fun a'=>a'=afin) l a
 | [],a,_,h=>h w j
 | o::l,a,hd,h=>by
  unfold s6 at hd;rw[Bool.and_eq_true] at hd;obtain⟨b,k⟩:=hd
  have m:∀v,(a.put o.dst v).tmps.size=a.tmps.size:=fun v=>by unfold Act.put;split<;>simp
  unfold dN
  split
  · rename_i t
    have h':∀X,C X→∃v,(∀W,(∃p:Regrown,W=grow (redrawn X p.d) p.os)→o.quietAt P a (fun g=>∃p:Regrown,g=grow (redrawn X p.d) p.os) W v)∧wpQuiet P ops (fun g=>∃p:Regrown,g=grow (redrawn X p.d) p.os) (fun a'=>a'=afin) l (a.put o.dst v):=fun X c=>by
     have:=h X c;unfold wpQuiet at this;rw[if_pos t] at this;exact this
    cases hdst:o.dst with
    | none=>rw[hdst] at b;cases b
    | some d=>
     rw[hdst] at b h';simp only[Bool.and_eq_true,decide_eq_true_eq,Bool.not_eq_true',List.any_eq_false,beq_iff_eq] at b
     have i:∀X,C X→∀v,wpQuiet P ops (fun g=>∃p:Regrown,g=grow (redrawn X p.d) p.os) (fun a'=>a'=afin) l (a.put (some d) v)→some v=afin.tmps[d]?:=fun X c v z=>by
      rw[←l3 l _ (fun o' r=>b.2 o' r) z];show some v=(a.tmps.setIfInBounds d v)[d]?;rw[Array.getElem?_setIfInBounds_self_of_lt b.1]
     obtain⟨q,_,s⟩:=h' w j
     have f:∀X,C X→o.quietAt P a (fun g=>∃p:Regrown,g=grow (redrawn X p.d) p.os) X q∧wpQuiet P ops (fun g=>∃p:Regrown,g=grow (redrawn X p.d) p.os) (fun a'=>a'=afin) l (a.put (some d) q):=fun X c=>by
      obtain⟨v,y,u⟩:=h' X c;have e:=(i X c v u).trans (i w j q s).symm;injection e with e;subst e;exact⟨y X ⟨⟨X.drawn,#[]⟩,by rw[grow_empty];rfl⟩,u⟩
     refine⟨q,fun X c=>qE (fun W x=>a7 x) (f X c).1,?_⟩;exact kn j l _ (by rw[←hdst,m];exact k) fun X c=>(f X c).2
  · rename_i t
    refine kn j l _ (by rw[m];exact k) fun X c=>?_;have:=h X c;unfold wpQuiet at this;rw[if_neg t] at this;exact this
def pick:List Bool→List Oper→List Oper
 | true::fs,_::l=>pick fs l
 | false::fs,o::l=>o::pick fs l
 | _,_=>[]
def bL (fl:List Bool) (i:Nat):Bool:=(fl[i]?).getD false
theorem fa {C:World→Prop} {afin:Act} {t:Tmp}:∀(l:List Oper) (a:Act),(∀o∈l,o.dst≠some t)→dN P ops C (fun a'=>a'=afin) l a→a.tmps[t]? = afin.tmps[t]?∧True
 | [],a,_,h=>by rw[show a=afin from h];exact⟨rfl,trivial⟩
 | o::l,a,hd,h=>by
  unfold dN at h
  split at h
  · obtain⟨v,_,c⟩:=h
    rw[←fu (hd o bw) v];exact fa l _ (fun o b=>hd o (by simp[b])) c
  · rw[←fu (hd o bw) undef]
    exact fa l _ (fun o b=>hd o (by simp[b])) h
theorem gG {C:World→Prop} {afin:Act}:∀(l:List Oper) (a:Act),dN P ops C (fun a'=>a'=afin) l a→afin.tmps.size=a.tmps.size∧afin.defers=a.defers
 | [],a,h=>by rw[show a=afin from h];exact⟨rfl,rfl⟩
 | o::l,a,h=>by
  unfold dN at h
  split at h
  · obtain⟨v,_,b⟩:=h
    have:=gG l _ b;rw[dR,put_defers] at this;exact this
  · have:=gG l _ h
    rw[dR,put_defers] at this;exact this
def wT (P:Program) (ops:Array Oper) (C:World→Prop) (G:Tmp→Option Value) (afin:Act) (o:Oper):Prop:=
 ∃(g:Act) (d:Tmp) (v:Value),(∀t∈o.looksAt ops,g.tmps[t]? = G t)∧o.dst=some d∧afin.tmps[d]? = some v∧YieldsC P ops C o v g
def vF (ops:Array Oper) (fl:List Bool) (n N:Nat):Bool:=
 (List.range n).all fun i=>match ops[i]? with
  | none=>false
  | some o=>
   (match o.dst with | some d=>decide (d<N)&&((List.range n).all fun j=>j==i||ay ops j != some d) | none=>bL fl i) &&
   o.after.all (fun e=>!Region.binds .any e||decide (e.on<i)) &&
   (o.looksAt ops).all (fun t=>(List.range n).all fun j=>ay ops j != some t||(decide (j<i)&&Region.waitsFor .any ops i j&&(bL fl i||!bL fl j))) &&
   (!bL fl i||o.guard.isNone)
def iE (ops:Array Oper):Nat→Nat→Nat→Bool
 | 0,_,_=>false
 | f+1,k,j=>Region.waitsFor .any ops k j||(List.range k).any fun i=>Region.waitsFor .any ops k i&&iE ops f i j
def dw (N n:Nat):Array Bool:=((List.range N).map fun i=>decide (i<n)).toArray
def BZ (ops:Array Oper) (fl:List Bool) (n:Nat):List Nat→List (Nat × List Nat)→Bool
 | _,[]=>true
 | pre,(k,fr)::rest=>decide (k<n)&&bL fl k&&fr.all (fun j=>pre.contains j)&&pre.all (fun j=>decide (j<k)&&(!fr.contains j||iE ops 4 k j))&&BZ ops fl n (pre ++ [k]) rest
def lI (ops:Array Oper) (fl:List Bool) (n N:Nat) (ks:List (Nat × List Nat)):Bool:=
 Region.noSelect ops&&decide (n<ops.size)&&Region.sinkB .any ops n&&Region.chainB .any ops n&&Region.seqB .any ops (ops.size-n) n (dw ops.size n) &&
 vF ops fl n N&&decide (fl.length=n)&&((List.range n).all fun i=>!bL fl i||(ks.map (·.1)).contains i)&&BZ ops fl n [] ks&&ks.all (fun p=>p.2.all fun j=>decide (j<n))
theorem dh {n:Nat} {listed:Array Bool} (inv:HeadInv .any ops n listed):∀(f k j:Nat) (o:Oper),ops[k]? = some o→(∀e∈o.after,Region.binds .any e=true→listed.getD e.on false=true)→iE ops f k j=true→listed.getD j false=true
 | 0,_,_,_,_,_,h=>by simp[iE] at h
 | f+1,k,j,o,ho,hall,h=>by
  unfold iE at h;rw[Bool.or_eq_true] at h
  have d:∀i,Region.waitsFor .any ops k i=true→listed.getD i false=true:=fun i r=>by
   obtain⟨o',l,e,g,p,m⟩:=Region.waitsFor_spec r;have:o'=o:=Option.some.inj (l.symm.trans ho);subst this;rw[←m];exact hall e g p
  rcases h with h | h
  · exact d j h
  · obtain⟨i,_,b⟩:=List.any_eq_true.1 h
    rw[Bool.and_eq_true] at b;have c:=d i b.1
    cases hoi:ops[i]? with
    | none=>
     have:i<listed.size:=by
      rcases Nat.lt_or_ge i listed.size with q | q
      · exact q
      · simp[Array.getElem?_eq_none q] at c
     rw[inv.size] at this;rw[Array.getElem?_eq_getElem this] at hoi
     cases hoi
    | some oi=>exact dh inv f i j oi hoi (fun e g p=>inv.closed i oi hoi c e g p) b.2
theorem oq {fl:List Bool} {n:Nat}:∀(nds:List NdB) (b:List Nat),BZ ops fl n b (nds.map fun d=>(d.k,d.deps))=true →
 ∀pre d suf,nds=pre ++ d::suf→d.k<n∧bL fl d.k=true∧(∀j∈b ++ pre.map (·.k),j<d.k∧(j∈d.deps→iE ops 4 d.k j=true))∧∀j∈d.deps,j∈b ++ pre.map (·.k)
 | [],_,_,pre,d,suf,e=>by simp at e
 | x::rest,b,h,pre,d,suf,e=>by
  simp only[List.map_cons,BZ,Bool.and_eq_true,decide_eq_true_eq] at h;obtain⟨⟨⟨⟨g,r⟩,f⟩,h3⟩,i⟩:=h
  cases pre with
  | nil=>
   simp only[List.nil_append,List.cons.injEq] at e;obtain⟨rfl,rfl⟩:=e;refine⟨g,r,fun j c=>?_,fun j c=>by have:=List.all_eq_true.1 f j c;simpa using this⟩;have:=List.all_eq_true.1 h3 j (al c);simp only[Bool.and_eq_true,decide_eq_true_eq,Bool.or_eq_true] at this;exact⟨this.1,fun hf=>this.2.resolve_left (by rw[List.contains_iff_mem.2 hf];decide)⟩
  | cons p pre=>
   simp only[List.cons_append,List.cons.injEq] at e;obtain⟨rfl,e⟩:=e;obtain⟨o,l,m,q⟩:=oq rest (b ++ [x.k]) i pre d suf e;exact⟨o,l,fun j c=>m j (al c),fun j c=>by have:=q j c;simpa using this⟩
theorem count_set (n:Nat) (i:Nat) (listed:Array Bool) (b:listed.getD i true=false):∀m,((List.range m).filter fun j=>!(listed.setIfInBounds i true).getD j true).length+(if i<m then 1 else 0)=((List.range m).filter fun j=>!listed.getD j true).length
 | 0=>by simp
 | m+1=>by
  have d:=count_set n i listed b m
  have c:i<listed.size:=by
   rcases Nat.lt_or_ge i listed.size with h' | h'
   · exact h'
   · simp[Array.getElem?_eq_none h'] at b
  rw[List.range_succ,List.filter_append,List.filter_append,List.length_append,List.length_append,←d];by_cases e:i=m
  · subst e
    have Y:(listed.setIfInBounds i true).getD i true=true:=by simp[c]
    simp only[List.filter_cons,List.filter_nil,Y,b];simp
  · have f:(if i<m+1 then 1 else 0)=(if i<m then 1 else 0):=by
     by_cases h:i<m
     · rw[if_pos h,if_pos ab]
     · rw[if_neg h,if_neg ab]
    rw[f]
    have Y:(List.filter (fun j=>!(listed.setIfInBounds i true).getD j true) [m])=(List.filter (fun j=>!listed.getD j true) [m]):=by
     simp only[List.filter_cons,List.filter_nil,getD_set_ne true e]
    rw[Y];omega
section
variable {n N:Nat} {fl:List Bool} {nds:List NdB} {a afin:Act} {Q:Exit→Act→World→Prop} {tail:List Oper} {C:World→Prop} {sts:List (Nat × (Nat→Option Obj→Prop))}
theorem iX (Z:vF ops fl n N=true) (V:N=a.tmps.size) (T:fl.length=n) (hn:n≤ops.size)
 (G:Tmp→Option Value) (H:∀j t,j<n→bL fl j=false→ay ops j=some t→G t=afin.tmps[t]?) (I:∀t,(∀j,j<n→bL fl j=false→ay ops j≠some t)→G t=a.tmps[t]?) :
 ∀(p:List Bool) (l:List Oper) (i:Nat) (g:Act),i+p.length=n→(∀j,p[j]? = fl[i+j]?)→(∀j,l[j]? = ops[i+j]?)→g.tmps.size=a.tmps.size →
  (∀t,(∃j,j<i∧bL fl j=false∧ay ops j=some t)→g.tmps[t]? = afin.tmps[t]?)→(∀t,(∀j,j<i→bL fl j=false→ay ops j≠some t)→g.tmps[t]? = a.tmps[t]?) →
  dN P ops C (fun a'=>a'=afin) (pick p l) g→∀j o,i≤j→j<n→bL fl j=false→ops[j]? = some o→wT P ops C G afin o
 | [],l,i,g,hi,_,_,_,_,_,_,j,o,hij,hjn,_,_=>by simp at hi;omega
 | f::p,[],i,g,hi,_,hl,_,_,_,_,j,o,hij,hjn,_,E=>by
  have:=hl (j-i);rw[show i+(j-i)=j by omega,E] at this;simp at this
 | f::p,D::l,i,g,hi,hfs,hl,hsz,h1,h2,h,j,o,hij,hjn,hjd,E=>by
  have hf:bL fl i=f:=by
   have:=hfs 0;rw[Nat.add_zero] at this;unfold bL;rw[←this];rfl
  have F:ops[i]? = some D:=by have:=hl 0;rw[Nat.add_zero] at this;rw[←this];rfl
  have Va:i<n:=by simp at hi;omega
  have O:=List.all_eq_true.1 Z i (List.mem_range.2 Va);simp only[F,Bool.and_eq_true] at O;obtain⟨⟨⟨c1,c2⟩,c3⟩,c4⟩:=O
  cases hd:D.dst with
  | none=>
   rw[hd] at c1;replace c1:bL fl i=true:=c1
   obtain rfl:f=true:=by rw[←hf,c1]
   have r:j≠i:=fun e=>by rw[e,hf] at hjd;cases hjd
   refine iX Z V T hn G H I p l (i+1) g (by simp at hi ⊢;omega) (fun j=>by have:=hfs (j+1);rw[show i+1+j=i+(j+1) by omega,←this];rfl) (fun j=>by have:=hl (j+1);rw[show i+1+j=i+(j+1) by omega,←this];rfl) hsz ?_ ?_ h j o ab hjn hjd E
   · rintro t ⟨c,q,k,m⟩
     refine h1 t ⟨c,?_,k,m⟩;rcases Nat.lt_or_ge c i with h' | h'
     · exact h'
     · have:c=i:=by omega
       subst this;rw[hf] at k;cases k
   · intro t ht
     exact h2 t (fun c q=>ht c ab)
  | some d=>
   rw[hd] at c1;simp only[Bool.and_eq_true,decide_eq_true_eq] at c1;obtain⟨c1,Jv⟩:=c1
   have Y:ay ops i=some d:=by unfold ay;rw[F];exact hd
   have z:∀j,j<n→j≠i→ay ops j≠some d:=fun j E hne e=>by
    have:=List.all_eq_true.1 Jv j (List.mem_range.2 E);simp[hne,e] at this
   cases f with
   | true=>
    have r:j≠i:=fun e=>by rw[e,hf] at hjd;cases hjd
    refine iX Z V T hn G H I p l (i+1) g (by simp at hi ⊢;omega) (fun j=>by have:=hfs (j+1);rw[show i+1+j=i+(j+1) by omega,←this];rfl) (fun j=>by have:=hl (j+1);rw[show i+1+j=i+(j+1) by omega,←this];rfl) hsz ?_ ?_ h j o ab hjn hjd E
    · rintro t ⟨c,q,k,m⟩
      refine h1 t ⟨c,?_,k,m⟩;rcases Nat.lt_or_ge c i with h' | h'
      · exact h'
      · have:c=i:=by omega
        subst this;rw[hf] at k;cases k
    · intro t ht
      exact h2 t (fun c q=>ht c ab)
   | false=>
    have R:pick (false::p) (D::l)=D::pick p l:=rfl;rw[R] at h
    have y:∀t∈D.looksAt ops,g.tmps[t]? = G t:=fun t ht=>by
     have Jx:=List.all_eq_true.1 c3 t ht;by_cases U:∃c,c<n∧ay ops c=some t
     · obtain⟨c,J,B⟩:=U
       have:=List.all_eq_true.1 Jx c (List.mem_range.2 J);simp only[B,bne_self_eq_false,Bool.false_or,Bool.and_eq_true,decide_eq_true_eq,hf,Bool.not_eq_true'] at this;rw[h1 t ⟨c,this.1.1,this.2,B⟩,H c t J this.2 B]
     · rw[h2 t (fun c q k e=>U ⟨c,by omega,e⟩),I t (fun c q k e=>U ⟨c,q,e⟩)]
    have step:∀v,dN P ops C (fun a'=>a'=afin) (pick p l) (g.put D.dst v) →
     afin.tmps[d]? = some v∧∀j o,i+1≤j→j<n→bL fl j=false→ops[j]? = some o→wT P ops C G afin o:=fun v hv=>by
     have W:∀o'∈pick p l,o'.dst≠some d:=by
      have Jy:∀(p:List Bool) (l:List Oper) (u:Nat),i<u→u+p.length=n→(∀j,l[j]? = ops[u+j]?)→∀o'∈pick p l,o'.dst≠some d:=by
       intro p
       induction p with
       | nil=>intro l u _ _ _ o' s;cases l<;>simp[pick] at s
       | cons b p ih=>
        intro l u Vb M X o' s
        cases l with
        | nil=>cases b<;>simp[pick] at s
        | cons x l=>
         have hx:ops[u]? = some x:=by have:=X 0;rw[Nat.add_zero] at this;rw[←this];rfl
         have A:u+1+p.length=n:=by simp at M;omega
         have K:∀j,l[j]? = ops[u+1+j]?:=fun j=>by have:=X (j+1);rw[show u+1+j=u+(j+1) by omega,←this];rfl
         cases b with
         | true=>exact ih l (u+1) ab A K o' s
         | false=>
          rcases List.mem_cons.1 s with rfl | s
          · intro e
            exact z u (by simp at M;omega) ab (by unfold ay;rw[hx];exact e)
          · exact ih l (u+1) ab A K o' s
      exact Jy p l (i+1) ab (by simp at hi;omega) (fun j=>by have:=hl (j+1);rw[show i+1+j=i+(j+1) by omega,←this];rfl)
     have L:afin.tmps[d]? = some v:=by
      rw[←(fa _ _ W hv).1,hd];exact put_eq (by rw[hsz,←V];exact c1) v
     refine⟨L,iX Z V T hn G H I p l (i+1) (g.put D.dst v) (by simp at hi ⊢;omega) (fun j=>by have:=hfs (j+1);rw[show i+1+j=i+(j+1) by omega,←this];rfl) (fun j=>by have:=hl (j+1);rw[show i+1+j=i+(j+1) by omega,←this];rfl)
      (by rw[dR];exact hsz) ?_ ?_ hv⟩
     · rintro t ⟨c,q,k,m⟩
       by_cases r:c=i
       · subst r
         rw[Y] at m;injection m with m;subst m;rw[hd,put_eq (by rw[hsz,←V];exact c1) v,L]
       · have S:d≠t:=fun e=>z c ab r (by rw[m,e])
         rw[fu (by rw[hd];intro e;exact S (Option.some.inj e)) v];exact h1 t ⟨c,by omega,k,m⟩
     · intro t ht
       have S:d≠t:=fun e=>ht i ab hf (by rw[Y,e]);rw[fu (by rw[hd];intro e;exact S (Option.some.inj e)) v];exact h2 t (fun c q=>ht c ab)
    unfold dN at h;by_cases hw:Region.wanted D (yielded ops g.tmps)=true
    · rw[if_pos hw] at h
      obtain⟨v,Jw,Jz⟩:=h;obtain⟨s1,s2⟩:=step v Jz;by_cases r:j=i
      · subst r
        obtain rfl:D=o:=Option.some.inj (F.symm.trans E);exact⟨g,d,v,y,hd,s1,.inl ⟨hw,Jw⟩⟩
      · exact s2 j o ab hjn hjd E
    · rw[if_neg hw] at h
      obtain⟨s1,s2⟩:=step undef h;by_cases r:j=i
      · subst r
        obtain rfl:D=o:=Option.some.inj (F.symm.trans E);exact⟨g,d,undef,y,hd,s1,.inr ⟨al hw,rfl⟩⟩
      · exact s2 j o ab hjn hjd E
structure FlowInv (ops:Array Oper) (sts:List (Nat × (Nat→Option Obj→Prop))) (w:World) (fl:List Bool) (n:Nat) (nds:List NdB) (a afin:Act) (listed:Array Bool) (b:Act) (X:World) (vals:Nat→Value):Prop where
 below:Grw (pI sts) w X
 head:HeadInv .any ops n listed
 size:b.tmps.size=a.tmps.size
 defers:b.defers=a.defers
 done:∀i d,i<n→ay ops i=some d→listed.getD i false=true→b.tmps[d]? = if bL fl i=true then some (vals i) else afin.tmps[d]?
 rest:∀t,(∀i,i<n→ay ops i=some t→listed.getD i true=false)→b.tmps[t]? = a.tmps[t]?
 facts:∀pre d suf,nds=pre ++ d::suf→listed.getD d.k false=true→d.R (aR ops vals pre afin) (vals d.k) X
 calm:∀k,listed.getD k false=false→Grw (GS sts k) w X
theorem gX {listed:Array Bool} {i:Nat} (b:i<listed.size) (h:listed.getD i true≠false):listed.getD i false=true:=by
 simp[b] at h ⊢;exact h
theorem di {listed:Array Bool} {i:Nat} (b:i<listed.size) (d:Bool):(listed.setIfInBounds i true).getD i d=true:=by simp[b]
theorem FlowInv.step {listed:Array Bool} {b:Act} {X:World} {vals:Nat→Value} (h:FlowInv ops sts w fl n nds a afin listed b X vals) {i:Nat} {o:Oper} {v:Value} {X':World}
 (L:i∈Region.ready .any ops listed) (E:i<n) (y:ops[i]? = some o) (q:∀d,o.dst=some d→d<a.tmps.size∧∀j,j<n→j≠i→ay ops j≠some d)
 (M:Im sts i X X') (hst:∀pre e suf,nds=pre ++ e::suf→e.k≠i→listed.getD e.k false=true→∀vals v,e.R (aR ops vals pre afin) v X→e.R (aR ops vals pre afin) v X')
 (z:∀pre e suf,nds=pre ++ e::suf→(∀vals m v X,(∀x∈pre,x.k∈e.deps→vals x.k=m x.k)→e.R (aR ops vals pre afin) v X→e.R (aR ops m pre afin) v X)∧(listed.getD e.k false=true→∀x∈pre,x.k∈e.deps→listed.getD x.k false=true))
 (S:∀d,o.dst=some d→bL fl i=false→afin.tmps[d]? = some v) (O:∀pre e suf,nds=pre ++ e::suf→e.k=i→e.R (aR ops vals pre afin) v X') (B:∀pre e suf,nds=pre ++ e::suf→e.k=i→∀x∈pre,x.k≠i) :
 FlowInv ops sts w fl n nds a afin (listed.setIfInBounds i true) (b.put o.dst v) X' (fun j=>if j=i then v else vals j):=by
 have s:ay ops i=o.dst:=by unfold ay;rw[y];rfl
 have D:i<listed.size:=by rw[h.head.size];exact(Array.getElem?_eq_some_iff.1 y).1
 have I:Grw (pI sts) X X':=by
  rcases M with h | ⟨p,hp,_,h⟩
  · exact Grw.of_below h
  · exact h.weaken (fun x o y=>⟨p,hp,y⟩)
 refine⟨h.below.trans I,h.head.set L E,by rw[dR];exact h.size,by rw[put_defers];exact h.defers,?_,?_,?_,?_⟩
 · intro j e G l r
   by_cases f:j=i
   · subst f
     rw[s] at l;rw[l,put_eq (by rw[h.size];exact(q e l).1) v]
     cases hnd:bL fl j with
     | true=>simp
     | false=>rw[if_neg au];exact(S e l hnd).symm
   · rw[getD_set_ne false (Ne.symm f)] at r
     have hne:o.dst≠some e:=fun e2=>(q e e2).2 j G f l;rw[fu hne v,h.done j e G l r,if_neg (c:=j=i) f]
 · intro t ht
   have hne:o.dst≠some t:=fun e=>by
    have:=ht i E (by rw[s,e]);rw[di D] at this
    cases this
   rw[fu hne v];refine h.rest t fun j G u=>?_;have:=ht j G u;by_cases f:i=j
   · subst f;rw[s] at u;exact absurd u hne
   · rw[getD_set_ne true f] at this;exact this
 · intro pre e suf l r
   by_cases g:e.k=i
   · show e.R _ (if e.k=i then v else vals e.k) X'
     rw[if_pos g,←ka vals (fun j=>if j=i then v else vals j) pre afin (fun x hx=>(if_neg (B pre e suf l g x hx)).symm)];exact O pre e suf l g
   · show e.R _ (if e.k=i then v else vals e.k) X'
     rw[if_neg g];rw[getD_set_ne false (Ne.symm g)] at r;have Y:=hst pre e suf l g r vals _ (h.facts pre e suf l r);obtain⟨H,J⟩:=z pre e suf l;refine H vals _ _ _ (fun x hx K=>?_) Y;have Y:=J r x hx K
     have hne:x.k≠i:=fun e=>by
      rw[e] at Y;have:=(mem_ready.1 L).1;rw[getD_both this] at Y;cases Y
     exact(if_neg hne).symm
 · intro k F
   have A:k≠i:=fun e=>by rw[e,di D] at F;cases F
   rw[getD_set_ne false (Ne.symm A)] at F;refine(h.calm k F).trans ?_;rcases M with h | ⟨p,hp,hpi,h⟩
   · exact Grw.of_below h
   · exact h.weaken (fun x o y=>⟨p,hp,by rw[hpi];exact Ne.symm A,y⟩)
theorem wm (hB:lI ops fl n N (nds.map fun d=>(d.k,d.deps))=true) (hN:N=a.tmps.size) (Yc:∀j,tail[j]? = ops[n+j]?) (Wr:tail.length=ops.size-n)
 (Jv:afin.tmps.size=a.tmps.size∧afin.defers=a.defers) (Va:∀t,(∀j,j<n→bL fl j=false→ay ops j≠some t)→afin.tmps[t]? = a.tmps[t]?)
 (Wg:∀j o,j<n→bL fl j=false→ops[j]? = some o→wT P ops (Grw (pI sts) w) (fun t=>if (∃j,j<n∧bL fl j=false∧ay ops j=some t) then afin.tmps[t]? else a.tmps[t]?) afin o)
 (Vf:wA P ops sts w Q tail nds afin []) :
 ∀(f:Nat) (listed:Array Bool) (b:Act) (X:World) (vals:Nat→Value),((List.range n).filter fun j=>!listed.getD j true).length=f→FlowInv ops sts w fl n nds a afin listed b X vals→wpAny P .any ops Q (f+(ops.size-n)) listed b X:=by
 unfold lI at hB;simp only[Bool.and_eq_true,decide_eq_true_eq] at hB;obtain⟨⟨⟨⟨⟨⟨⟨⟨⟨Vq,hn⟩,hs⟩,hc⟩,Wh⟩,hh⟩,Yu⟩,Vx⟩,Wn⟩,Wc⟩:=hB
 have Ye:∀e∈nds,∀j∈e.deps,j<n:=fun e F j s=>by
  have:=List.all_eq_true.1 (List.all_eq_true.1 Wc (e.k,e.deps) (List.mem_map.2 ⟨e,F,rfl⟩)) j s
  simpa using this
 have q:=oq nds [] Wn
 have M:∀pre e suf,nds=pre ++ e::suf→∀vals,((∀v X X',e.R (aR ops vals pre afin) v X→Below X.heap.size X X'→e.R (aR ops vals pre afin) v X')∧(∀p∈sts,p.1≠e.k→p.1∉e.deps→∀v X X',e.R (aR ops vals pre afin) v X→Grw p.2 X X'→e.R (aR ops vals pre afin) v X')∧(∀g' v X,(∀j∈e.deps,∀t,ay ops j=some t→g'.tmps[t]? = (aR ops vals pre afin).tmps[t]?)→e.R (aR ops vals pre afin) v X→e.R g' v X)):=fun pre e suf c vals=>
  ((ja nds afin _ Vf vals).1 pre e suf c).1
 have T:∀e∈nds,e.k<n:=fun e F=>by
  obtain⟨pre,suf,c⟩:=List.append_of_mem F;exact(q pre e suf c).1
 have J:∀i,i<n→∃o,ops[i]? = some o∧(∀d,o.dst=some d→d<a.tmps.size∧(∀j,j<n→j≠i→ay ops j≠some d))∧(∀e∈o.after,Region.binds .any e=true→e.on<i) ∧
  (∀t∈o.looksAt ops,∀j,j<n→ay ops j=some t→j<i∧Region.waitsFor .any ops i j=true∧(bL fl i=false→bL fl j=false))∧(bL fl i=true→o.guard=none):=fun i Z=>by
  have h1:=List.all_eq_true.1 hh i (List.mem_range.2 Z)
  cases ho:ops[i]? with
  | none=>rw[ho] at h1;cases h1
  | some o=>
   rw[ho] at h1;simp only[Bool.and_eq_true] at h1;obtain⟨⟨⟨c1,c2⟩,c3⟩,c4⟩:=h1
   · refine⟨o,rfl,fun d hd=>?_,fun e F hb=>?_,fun t ht j s l=>?_,fun Vf=>?_⟩
     · rw[hd] at c1
       simp only[Bool.and_eq_true,decide_eq_true_eq] at c1;refine⟨by rw[←hN];exact c1.1,fun j s hne e=>?_⟩;have:=List.all_eq_true.1 c1.2 j (List.mem_range.2 s);simp[hne,e] at this
     · have:=Array.all_eq_true_iff_forall_mem.1 c2 e F
       simpa [hb] using this
     · have:=List.all_eq_true.1 (List.all_eq_true.1 c3 t ht) j (List.mem_range.2 s)
       simp only[l,bne_self_eq_false,Bool.false_or,Bool.and_eq_true,decide_eq_true_eq,Bool.or_eq_true,Bool.not_eq_true'] at this;exact⟨this.1.1,this.1.2,fun Yf=>this.2.resolve_left (by rw[Yf];decide)⟩
     · rw[Vf] at c4
       simpa using c4
 intro f
 induction f with
 | zero=>
  intro listed b X vals U inv
  have W:∀i,i<n→listed.getD i true=true:=fun i Z=>by
   cases hl:listed.getD i true with
   | true=>rfl
   | false=>
    have:i∈(List.range n).filter fun j=>!listed.getD j true:=List.mem_filter.2 ⟨List.mem_range.2 Z,by rw[hl];rfl⟩;rw[List.length_eq_zero_iff.1 U] at this
    cases this
  have Vi:∀i,i<n→listed.getD i false=true:=fun i Z=>gX (by rw[inv.head.size];omega) (by rw[W i Z];decide)
  have Yb:listed=dw ops.size n:=by
   apply Array.ext
   · rw[inv.head.size];simp[dw]
   · intro i h1 h2
     have e2:(dw ops.size n)[i]=decide (i<n):=by simp[dw]
     rw[e2];by_cases Z:i<n
     · have:=W i Z
       simp[h1] at this;rw[this];simp[Z]
     · have:=inv.head.tail i ab (by rw[←inv.head.size];exact h1)
       simp[h1] at this;rw[this];simp[Z]
  have hb:b=aR ops vals nds afin:=by
   obtain⟨s1,E⟩:=kL (ops:=ops) vals nds afin
   have ht:b.tmps=(aR ops vals nds afin).tmps:=by
    apply Array.ext_getElem?;intro t;by_cases B:∃j,j<n∧ay ops j=some t
    · obtain⟨j,s,l⟩:=B
      obtain⟨o,ho,Jz,_⟩:=J j s
      have Wb:o.dst=some t:=by
       have:ay ops j=o.dst:=by unfold ay;rw[ho];rfl
       rw[←this];exact l
      obtain⟨Ww,Vu⟩:=Jz t Wb;obtain⟨d,rfl⟩:∃d,d=t:=⟨t,rfl⟩;rw[inv.done j d s l (Vi j s)]
      have hu:∀e∈nds,ay ops e.k=some d→e.k=j:=fun e F Vk=>by
       rcases Nat.decEq e.k j with hne | heq
       · exact absurd Vk (Vu e.k (T e F) hne)
       · exact heq
      cases hndj:bL fl j with
      | true=>
       rw[if_pos rfl];have A:=List.all_eq_true.1 Vx j (List.mem_range.2 s);rw[hndj] at A;simp only[Bool.not_true,Bool.false_or,List.contains_iff_mem,List.map_map] at A;obtain⟨e,F,G⟩:=List.mem_map.1 A;rw[jQ vals d j nds afin (by rw[Jv.1];exact Ww) ⟨e,F,G⟩ l hu]
      | false=>
       rw[if_neg au,eo vals d nds afin (fun e F Vk=>by
        have:=hu e F Vk;obtain⟨pre,suf,c⟩:=List.append_of_mem F;have Y:=(q pre e suf c).2.1
        rw[this,hndj] at Y;cases Y)]
    · rw[inv.rest t (fun j s l=>absurd ⟨j,s,l⟩ B),eo vals t nds afin (fun e F Vk=>B ⟨e.k,T e F,Vk⟩),Va t (fun j s _ l=>B ⟨j,s,l⟩)]
   have Vy:b.defers=(aR ops vals nds afin).defers:=by rw[inv.defers,E,Jv.2]
   cases b with
   | mk bt bd=>cases hp:aR ops vals nds afin with
    | mk pt pd=>rw[hp] at ht Vy;simp at ht Vy;rw[ht,Vy]
  rw[Yb,hb,Nat.zero_add,←Wr];refine wpAny_of_seq tail n _ _ X Yc (by rw[Wr];exact Wh) ?_;exact(ja nds afin _ Vf vals).2 X inv.below trivial (fun I e E F=>inv.facts I e E F (Vi e.k (T e (by rw[F];simp))))
 | succ f ih=>
  intro listed b X vals U inv
  have B:∃i,i<n∧listed.getD i true=false:=by
   cases hl:(List.range n).filter fun j=>!listed.getD j true with
   | nil=>rw[hl] at U;simp at U
   | cons i _=>
    have:i∈(List.range n).filter fun j=>!listed.getD j true:=by rw[hl];simp
    obtain⟨h1,h2⟩:=List.mem_filter.1 this;exact⟨i,List.mem_range.1 h1,al h2⟩
  have Vm:∃i,i∈Region.ready .any ops listed:=by
   obtain⟨i,H,Jw⟩:=B
   have Yq:∀m,m<n→listed.getD m true=false→∃i,i∈Region.ready .any ops listed:=by
    intro m
    induction m using Nat.strongRecOn with
    | _ m ihm=>
     intro hm Jw;obtain⟨o,ho,_,Wj,_⟩:=J m hm;by_cases W:∀e∈o.after,Region.binds .any e=true→listed.getD e.on false=true
     · exact⟨m,mem_ready.2 ⟨Jw,o,ho,W⟩⟩
     · obtain⟨e,F⟩:=Classical.not_forall.1 W
       obtain⟨Ya,Wa⟩:=Classical.not_imp.1 F;obtain⟨hb,Yn⟩:=Classical.not_imp.1 Wa;have T:=Wj e Ya hb;refine ihm e.on T ab (getD_in (by rw[inv.head.size];omega) (al Yn))
   exact Yq i H Jw
  obtain⟨i0,Wp,Wq⟩:=B;rw[Nat.succ_add];refine⟨fun h0=>(by obtain⟨i,Z⟩:=Vm;rw[h0] at Z;cases Z),fun i Z=>?_⟩;have H:i<n:=Nat.lt_of_not_le fun h=>tail_waits hs hc hn inv.head _ i0 rfl Wp Wq i h Z;obtain⟨o,ho,Jz,Wj,Vc,Wv⟩:=J i H;obtain⟨Jw,o',Ym,Vj⟩:=mem_ready.1 Z;obtain rfl:o'=o:=Option.some.inj (Ym.symm.trans ho)
  have Vb:((List.range n).filter fun j=>!(listed.setIfInBounds i true).getD j true).length=f:=by
   have:=count_set n i listed Jw n;rw[if_pos H,U] at this;omega
  have Jy:∀j,Region.waitsFor .any ops i j=true→listed.getD j false=true:=fun j s=>by
   obtain⟨o2,Wz,e,F,hb,Wy⟩:=Region.waitsFor_spec s;obtain rfl:o2=o':=Option.some.inj (Wz.symm.trans ho);rw[←Wy];exact Vj e F hb
  have Vd:∀pre e suf,nds=pre ++ e::suf→(∀vals L v X,(∀x∈pre,x.k∈e.deps→vals x.k=L x.k)→e.R (aR ops vals pre afin) v X→e.R (aR ops L pre afin) v X)∧(listed.getD e.k false=true→∀x∈pre,x.k∈e.deps→listed.getD x.k false=true):=fun pre e suf c=>by
   refine⟨fun vals L v X hv hR=>(M pre e suf c vals).2.2 _ v X (fun j s t ht=>?_) hR,fun hl x hx S=>?_⟩
   · refine(nX vals L t pre afin afin rfl rfl (fun x hx Wk=>?_)).symm
     have Yh:=T x (by rw[c];simp[hx]);obtain⟨ox,We,Yl,_⟩:=J x.k Yh;by_cases Wu:x.k=j
     · exact hv x hx (by rw[Wu];exact s)
     · have Yg:j<n:=by
        rcases Nat.lt_or_ge j n with h | h
        · exact h
        · exfalso
          have Vp:ox.dst=some t:=by
           have:ay ops x.k=ox.dst:=by unfold ay;rw[We];rfl
           rw[←this];exact Wk
          have Y:=Ye e (by rw[c];simp) j s;omega
       have Vp:ox.dst=some t:=by
        have:ay ops x.k=ox.dst:=by unfold ay;rw[We];rfl
        rw[←this];exact Wk
       exact absurd ht ((Yl t Vp).2 j Yg (fun e=>Wu e.symm))
   · obtain⟨hk,_,hp,_⟩:=q pre e suf c
     obtain⟨oe,Wt,_⟩:=J e.k hk;exact dh inv.head 4 e.k x.k oe Wt (fun e2 Wa Yo=>inv.head.closed e.k oe Wt hl e2 Wa Yo) ((hp x.k (by simp;exact⟨x,hx,rfl⟩)).2 S)
  have K:∀pre e suf,nds=pre ++ e::suf→e.k=i→∀x∈pre,x.k≠i:=fun pre e suf c G x hx=>by
   have:=((q pre e suf c).2.2.1 x.k (by simp;exact⟨x,hx,rfl⟩)).1;omega
  unfold wpOp;simp only[ho]
  cases hndi:bL fl i with
  | false=>
   obtain⟨g,d,v,hg,hd,Wm,hy⟩:=Wg i o' H hndi ho
   have O:∀t∈o'.looksAt ops,b.tmps[t]? = g.tmps[t]?:=fun t ht=>by
    rw[hg t ht];by_cases B:∃j,j<n∧ay ops j=some t
    · obtain⟨j,s,l⟩:=B
      obtain⟨_,hw,Yk⟩:=Vc t ht j s l;have Vs:=Yk hndi;show _=if _ then _ else _;rw[if_pos ⟨j,s,Vs,l⟩,inv.done j t s l (Jy j hw),Vs]
      rfl
    · show _=if _ then _ else _
      rw[if_neg (fun ⟨j,s,_,l⟩=>B ⟨j,s,l⟩)];exact inv.rest t (fun j s l=>absurd ⟨j,s,l⟩ B)
   have Yp:YieldsC P ops (Grw (pI sts) w) o' v b:=hy.of_same (gk (Region.noSelect_spec Vq i o' · · ho) O) (gM O)
   have V:∀X',Below X.heap.size X X'→wpAny P .any ops Q (f+(ops.size-n)) (listed.setIfInBounds i true) (b.put o'.dst v) X':=fun X' Vl=>
    ih _ _ _ _ Vb (inv.step Z H ho Jz (.inl Vl) (fun pre e suf c _ _ vals v hR=>(M pre e suf c vals).1 v _ _ hR Vl) Vd (fun d2 Ws _=>by rw[hd] at Ws;rw[←Option.some.inj Ws];exact Wm) (fun pre e suf c G=>by
     have Y:=(q pre e suf c).2.1
     rw[G,hndi] at Y;cases Y) K)
   rcases Yp with ⟨hw,hv⟩ | ⟨hw,rfl⟩
   · rw[if_pos hw]
     refine .inl ?_;unfold Oper.wp;have Y:=hv X inv.below;generalize (execOp b.eval o').run P X=r at *
     cases r with
     | ok nx w'=>
      cases nx<;>simp only[Oper.quietUpon] at Y<;>simp only[Oper.upon]
      case value u=>
       obtain⟨e1,e2⟩:=Y;rw[e1,e2];exact V _ (Below.refl _ _)
      case skip=>
       obtain⟨e1,e2⟩:=Y;rw[e1,←e2];exact V _ (Below.refl _ _)
      case enter f args=>
       obtain⟨e1,Vw⟩:=Y;rw[e1]
       exact Vw.mono fun e Wx ⟨F,Ve⟩=>by subst F;exact V _ Ve
     | halt x w'=>simp only[Oper.quietUpon] at Y
   · rw[hw,if_neg au]
     exact V X (Below.refl _ _)
  | true=>
   have A:=List.all_eq_true.1 Vx i (List.mem_range.2 H);rw[hndi] at A;simp only[Bool.not_true,Bool.false_or,List.contains_iff_mem,List.map_map] at A;obtain⟨e,F,G⟩:=List.mem_map.1 A;replace G:e.k=i:=G;obtain⟨pre,suf,c⟩:=List.append_of_mem F;obtain⟨_,_,Vr,_⟩:=q pre e suf c
   have D:=((ja nds afin _ Vf vals).1 pre e suf c).2 o' (by rw[G];exact ho) X (by rw[G];exact inv.calm i (getD_both Jw)) trivial (fun I x E hx S=>by
    have Wo:=(Vr x.k (by rw[hx];simp)).2 S;rw[G] at Wo
    exact inv.facts I x (E ++ e::suf) (by rw[c,hx];simp) (dh inv.head 4 i x.k o' ho Vj Wo))
   have Vn:∀x∈pre,x.k<i:=fun x hx=>by
    have:=(Vr x.k (by simp;exact⟨x,hx,rfl⟩)).1;rw[G] at this;exact this
   have O:∀t∈o'.looksAt ops,b.tmps[t]? = (aR ops vals pre afin).tmps[t]?:=fun t ht=>by
    by_cases B:∃j,j<n∧ay ops j=some t
    · obtain⟨j,s,l⟩:=B
      obtain⟨Yt,hw,_⟩:=Vc t ht j s l;obtain⟨oj,Yr,Vv,_⟩:=J j s
      have Wb:oj.dst=some t:=by
       have:ay ops j=oj.dst:=by unfold ay;rw[Yr];rfl
       rw[←this];exact l
      obtain⟨Wf,Yi⟩:=Vv t Wb;obtain⟨dj,rfl⟩:∃d,d=t:=⟨t,rfl⟩
      have hu:∀x∈pre,ay ops x.k=some dj→x.k=j:=fun x hx S=>by
       rcases Nat.decEq x.k j with hne | heq
       · exact absurd S (Yi x.k (T x (by rw[c];simp[hx])) hne)
       · exact heq
      rw[inv.done j dj s l (Jy j hw)]
      cases hndj:bL fl j with
      | true=>
       rw[if_pos rfl];have A:=List.all_eq_true.1 Vx j (List.mem_range.2 s);rw[hndj] at A;simp only[Bool.not_true,Bool.false_or,List.contains_iff_mem,List.map_map] at A;obtain⟨x,hx,Vh⟩:=List.mem_map.1 A;replace Vh:x.k=j:=Vh
       have Vt:x∈pre:=by
        rw[c] at hx;rcases List.mem_append.1 hx with hx | hx
        · exact hx
        · rcases List.mem_cons.1 hx with rfl | hx
          · omega
          · obtain⟨I,E,Vg⟩:=List.append_of_mem hx
            have:=((q (pre ++ e::I) x E (by rw[c,Vg];simp)).2.2.1 e.k bw).1;omega
       rw[jQ vals dj j pre afin (by rw[Jv.1];exact Wf) ⟨x,Vt,Vh⟩ l hu]
      | false=>
       rw[if_neg au,eo vals dj pre afin (fun x hx S=>by
        have h6:=hu x hx S;obtain⟨I,E,Vg⟩:=List.append_of_mem hx;have Y:=(q I x (E ++ e::suf) (by rw[c,Vg];simp)).2.1
        rw[h6,hndj] at Y;cases Y)]
    · rw[inv.rest t (fun j s l=>absurd ⟨j,s,l⟩ B),eo vals t pre afin (fun x hx S=>B ⟨x.k,T x (by rw[c];simp[hx]),S⟩),Va t (fun j s _ l=>B ⟨j,s,l⟩)]
   rw[←gk (Region.noSelect_spec Vq i o' · · ho) O] at D
   have Vz:Region.wanted o' (yielded ops b.tmps)=true:=by unfold Region.wanted;rw[Wv hndi]
   have Ys:∀x∈nds,x.k=i→x=e∨x.k=i:=fun x _ h=>.inr h
   have Wd:∀x∈nds,x.k=i→x=e:=fun x hx Jx=>by
    rw[c] at hx;rcases List.mem_append.1 hx with hx | hx
    · have:=Vn x hx;omega
    · rcases List.mem_cons.1 hx with rfl | hx
      · rfl
      · obtain⟨I,E,Vg⟩:=List.append_of_mem hx
        have:=((q (pre ++ e::I) x E (by rw[c,Vg];simp)).2.2.1 e.k bw).1;omega
   have Vo:∀I x E,nds=I ++ x::E→x.k=i→I=pre∧x=e:=fun I x E hx Jx=>by
    have Yd:x=e:=Wd x (by rw[hx];simp) Jx;subst Yd;refine⟨?_,rfl⟩
    have Wl:∀(l1 l2 s1 E:List NdB),l1 ++ x::s1=l2 ++ x::E→(∀y∈l1,y.k≠i)→(∀y∈l2,y.k≠i)→l1=l2:=by
     intro l1
     induction l1 with
     | nil=>
      intro l2 s1 E h _ h2
      cases l2 with
      | nil=>rfl
      | cons y l2=>
       simp only[List.nil_append,List.cons_append,List.cons.injEq] at h;exact absurd (h.1▸Jx) (h2 y bw)
     | cons y l1 ih=>
      intro l2 s1 E h h1 h2
      cases l2 with
      | nil=>
       simp only[List.nil_append,List.cons_append,List.cons.injEq] at h;exact absurd (h.1.symm▸Jx) (h1 y bw)
      | cons z l2=>
       simp only[List.cons_append,List.cons.injEq] at h;rw[h.1,ih l2 s1 E h.2 (fun y hy=>h1 y (by simp[hy])) (fun y hy=>h2 y (by simp[hy]))]
    exact Wl I pre E suf (hx.symm.trans c) (fun y hy=>K I x E hx Jx y hy) (fun y hy=>K pre x suf c G y hy)
   have V:∀v X',Im sts i X X'→e.R (aR ops vals pre afin) v X'→wpAny P .any ops Q (f+(ops.size-n)) (listed.setIfInBounds i true) (b.put o'.dst v) X':=fun v X' Vl hR=>
    ih _ _ _ _ Vb (inv.step Z H ho Jz Vl (fun I x E hx Jx Yj vals v hR=>by
     rcases Vl with h | ⟨p,hp,hpi,h⟩
     · exact(M I x E hx vals).1 v _ _ hR h
     · exact(M I x E hx vals).2.1 p hp (by rw[hpi];exact Ne.symm Jx) (fun H=>by
        rw[hpi] at H;have Y:=(q I x E hx).2.2.2 i H;rw[List.nil_append] at Y;obtain⟨y,hy,Wi⟩:=List.mem_map.1 Y;have Y:=(Vd I x E hx).2 Yj y hy (by rw[Wi];exact H);rw[Wi,getD_both Jw] at Y
        cases Y) v _ _ hR h) Vd (fun _ _ h=>by rw[hndi] at h;cases h) (fun I x E hx Vh=>by obtain⟨rfl,rfl⟩:=Vo I x E hx Vh;exact hR) K)
   rw[if_pos Vz];refine .inl ?_;unfold Oper.wp;generalize (execOp b.eval o').run P X=r at *;rw[G] at D
   cases r with
   | ok nx w'=>
    cases nx<;>simp only[jY] at D<;>simp only[Oper.upon]
    case value u=>exact V _ _ D.1 D.2
    case skip=>exact V _ _ D.1 D.2
    case enter f args=>
     obtain⟨e1,Vw⟩:=D;rw[e1]
     exact Vw.mono fun e Wx ⟨v,F,Ve,hR⟩=>by subst F;exact V _ _ Ve hR
   | halt x w'=>simp only[jY] at D
end
theorem pD {id:Nat} {Q:Exit→Act→World→Prop} {a:Act} {w:World} {l:List Oper} (sts:List (Nat × (Nat→Option Obj→Prop))) (fl:List Bool) (nds:List NdB) (hm:P.follows .mixedOrders=true)
 (hB:lI l.toArray fl fl.length a.tmps.size (nds.map fun d=>(d.k,d.deps))=true) (I:s6 (pick fl l) a.tmps.size=true)
 (h:∃afin:Act,(∀X,Grw (pI sts) w X→wpQuiet P l.toArray (fun W=>∃p:Regrown,W=grow (redrawn X p.d) p.os) (fun a'=>a'=afin) (pick fl l) a)∧wA P l.toArray sts w Q (l.drop fl.length) nds afin []) :
 (Code.region id l.toArray true).wp P Q a w:=by
 obtain⟨afin,Y,J⟩:=h;have B:=kn (C:=Grw (pI sts) w) (Grw.refl _ w) (pick fl l) a I Y;have v:=hB;unfold lI at v;simp only[Bool.and_eq_true,decide_eq_true_eq] at v;obtain⟨⟨⟨⟨⟨⟨⟨⟨⟨O,V⟩,hs⟩,Z⟩,M⟩,T⟩,_⟩,S⟩,R⟩,_⟩:=v
 have L:l.toArray.size=l.length:=by simp
 have z:=gG _ _ B
 have y:∀t,(∀j,j<fl.length→bL fl j=false→ay l.toArray j≠some t)→afin.tmps[t]? = a.tmps[t]?:=fun t ht=>by
  refine(fa _ _ ?_ B).1.symm
  have K:∀(D:List Bool) (g:List Oper) (i:Nat),i+D.length=fl.length→(∀j,D[j]? = fl[i+j]?)→(∀j,g[j]? = l.toArray[i+j]?)→∀o∈pick D g,o.dst≠some t:=by
   intro D
   induction D with
   | nil=>intro g i _ _ _ o m;cases g<;>simp[pick] at m
   | cons b D ih=>
    intro g i c G E o m
    cases g with
    | nil=>cases b<;>simp[pick] at m
    | cons x g=>
     have hx:l.toArray[i]? = some x:=by have:=E 0;rw[Nat.add_zero] at this;rw[←this];rfl
     have U:bL fl i=b:=by have:=G 0;rw[Nat.add_zero] at this;unfold bL;rw[←this];rfl
     have u:∀j,D[j]? = fl[i+1+j]?:=fun j=>by have:=G (j+1);rw[show i+1+j=i+(j+1) by omega,←this];rfl
     have s:∀j,g[j]? = l.toArray[i+1+j]?:=fun j=>by have:=E (j+1);rw[show i+1+j=i+(j+1) by omega,←this];rfl
     cases b with
     | true=>exact ih g (i+1) (by simp at c;omega) u s o m
     | false=>
      rcases List.mem_cons.1 m with rfl | m
      · intro e
        exact ht i (by simp at c;omega) U (by unfold ay;rw[hx];exact e)
      · exact ih g (i+1) (by simp at c;omega) u s o m
  exact K fl l 0 ab (fun j=>by rw[Nat.zero_add]) (fun j=>by rw[Nat.zero_add];simp)
 have F:=iX (P:=P) (C:=Grw (pI sts) w) (afin:=afin) T rfl rfl (Nat.le_of_lt V) (fun t=>if (∃j,j<fl.length∧bL fl j=false∧ay l.toArray j=some t) then afin.tmps[t]? else a.tmps[t]?)
  (fun j t q f A=>if_pos ⟨j,q,f,A⟩) (fun t ht=>if_neg (fun ⟨j,q,f,A⟩=>ht j q f A))
  fl l 0 a ab (fun j=>by rw[Nat.zero_add]) (fun j=>by rw[Nat.zero_add];simp) rfl (fun t ⟨j,q,_⟩=>absurd q (Nat.not_lt_zero _)) (fun t _=>rfl) B
 refine wp_region_any hm ?_
 have:=wm (P:=P) (w:=w) (Q:=Q) (tail:=l.drop fl.length) (a:=a) (afin:=afin) (sts:=sts) hB rfl (fun j=>by rw[List.getElem?_drop,List.getElem?_toArray]) (by rw[List.length_drop,L]) z y
  (fun j o q f m=>F j o (Nat.zero_le _) q f m) J fl.length (Array.replicate l.toArray.size false) a { w with drawn:=w.drawn+1 } (fun _=>undef)
  (by
   rw[List.filter_eq_self.2 (fun j q=>by
    have H:j<l.toArray.size:=by have:=List.mem_range.1 q;omega
    rw[getD_in (by rw[Array.size_replicate];exact H) (getD_replicate_false _ _)];rfl)]
   simp)
  ⟨(Grw.refl _ w).drew,⟨by simp,fun j oj _ r=>(by rw[getD_replicate_false] at r;cases r),fun t _ ht=>getD_in (al ht) (getD_replicate_false _ _)⟩,rfl,rfl,
   fun i d _ _ r=>(by rw[getD_replicate_false] at r;cases r),fun t _=>rfl,fun pre d suf _ r=>(by rw[getD_replicate_false] at r;cases r),fun k _=>(Grw.refl _ w).drew⟩
 rw[show fl.length+(l.toArray.size-fl.length)=l.toArray.size by omega] at this;exact this
end
theorem FM {w X:World} (c:Below w.heap.size w X):∀d os b o,b<w.heap.size→(grow (redrawn X d) os).cell? ⟨b,o,none⟩=w.cell? ⟨b,o,none⟩:=fun d os b o h=>
 ((below_regrown X d os).cell (p:=⟨b,o,none⟩) (Nat.lt_of_lt_of_le h c.size)).trans (c.cell (p:=⟨b,o,none⟩) h)
end Go.Proofs.YtcfdpfmchchkaaaGreatDoor
