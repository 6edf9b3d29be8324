/-
  Regions that draw their order, the general law: operations that lay new memory ('loud': calls that hand back new slices, slices of one element, boxes) stand among operations that hand back one value whatever the order ('det'). Each operation comes when what it takes is there; so no order need be looked at. What is loud hands back a value of which a fact R is told that outlives new memory. What stands behind (an append, a store) comes last, in order.
-/
import Derived.Test.YtcfdpfmchchkaaaGreatDoorKitA
namespace Go.Proofs.YtcfdpfmchchkaaaGreatDoor
set_option linter.unusedVariables false
set_option linter.unusedSimpArgs false
open Go.RowKit Go.Sort
structure Nd where
 k:Nat
 deps:List Nat
 R:Value→World→Prop
 st:Bool
structure NdA where
 k:Nat
 deps:List Nat
 R:Act→Value→World→Prop
 st:Bool
structure NdB where
 k:Nat
 deps:List Nat
 R:Act→Value→World→Prop
def Nd.lift (d:Nd):NdA:=⟨d.k,d.deps,fun _=>d.R,d.st⟩
def NdA.lift (d:NdA):NdB:=⟨d.k,d.deps,d.R⟩
def told (deps:List Nat):List (Nat × (World→Prop))→World→Prop
 | [],_=>True
 | (j,F)::r,X=>if deps.contains j=true then F X∧told deps r X else told deps r X
def dB:List (Nat × (World→Prop))→World→Prop
 | [],_=>True
 | (_,F)::r,X=>F X∧dB r X
structure Grw (O:Nat→Option Obj→Prop) (w X:World):Prop where
 os:X.os=w.os
 tape:X.tape=w.tape
 output:X.output=w.output
 size:w.heap.size≤X.heap.size
 block:∀b,b<w.heap.size→¬O b w.heap[b]?→X.heap[b]? = w.heap[b]?
 shape:∀(b:Nat) (cs:Array Value) (T:TypeId) (fr:Nat × Nat),w.heap[b]? = some (Obj.cells cs T fr)→∃cs':Array Value,cs'.size=cs.size∧X.heap[b]? = some (Obj.cells cs' T fr)
theorem Grw.refl (O:Nat→Option Obj→Prop) (w:World):Grw O w w:=⟨rfl,rfl,rfl,Nat.le_refl _,fun _ _ _=>rfl,fun b cs T fr h=>⟨cs,rfl,h⟩⟩
theorem Grw.trans {O:Nat→Option Obj→Prop} {a b c:World} (h:Grw O a b) (k:Grw O b c):Grw O a c:=
 ⟨k.os.trans h.os,k.tape.trans h.tape,k.output.trans h.output,Nat.le_trans h.size k.size,fun x hx hO=>by
  have e:=h.block x hx hO
  exact(k.block x (Nat.lt_of_lt_of_le hx h.size) (by rw[e];exact hO)).trans e,
  fun x cs T fr hx=>by
   obtain⟨c1,h1,h2⟩:=h.shape x cs T fr hx;obtain⟨c2,h3,h4⟩:=k.shape x c1 T fr h2
   exact⟨c2,h3.trans h1,h4⟩⟩
theorem Grw.of_below {O:Nat→Option Obj→Prop} {a b:World} (h:Below a.heap.size a b):Grw O a b:=
 ⟨h.os,h.tape,h.output,h.size,fun x hx _=>h.block x hx,fun x cs T fr hx=>⟨cs,rfl,(h.block x (Array.getElem?_eq_some_iff.1 hx).1).trans hx⟩⟩
theorem Grw.weaken {O O':Nat→Option Obj→Prop} {a b:World} (h:Grw O a b) (hO:∀x o,O x o→O' x o):Grw O' a b:=
 ⟨h.os,h.tape,h.output,h.size,fun x hx hn=>h.block x hx (fun h=>hn (hO _ _ h)),h.shape⟩
theorem Grw.below {a b:World} (h:Grw (fun _ _=>False) a b):Below a.heap.size a b:=⟨h.os,h.tape,h.output,h.size,fun x hx=>h.block x hx (fun h=>h)⟩
theorem Grw.drew {O:Nat→Option Obj→Prop} {a b:World} (h:Grw O a b):Grw O a { b with drawn:=b.drawn+1 }:=⟨h.os,h.tape,h.output,h.size,h.block,h.shape⟩
theorem Grw.cell {O:Nat→Option Obj→Prop} {a b:World} (h:Grw O a b) {p:Addr} (hp:p.block<a.heap.size) (hO:¬O p.block a.heap[p.block]?):b.cell? p=a.cell? p:=World.cell?_of_block (h.block p.block hp hO)
section
variable {P:Program} {ops:Array Oper} {w:World}
def cn (P:Program) (R:Value→World→Prop) (X:World):Result Next→Prop
 | .ok (.value u) X'=>Below X.heap.size X X'∧R u X'
 | .ok (.enter f args) X'=>X'=X∧Calls P f args X (fun e X''=>∃v,e=.returned v∧Below X.heap.size X X''∧R v X'')
 | _=>False
def AD (P:Program) (O:Nat→Option Obj→Prop) (st:Bool) (R:Value→World→Prop) (X:World) (r:Result Next):Prop:=
 cn P R X r∨(st=true∧∃X',r=.ok .skip X'∧Grw O X X'∧R undef X')
def CR (sts:List (Nat × (Nat→Option Obj→Prop))) (k:Nat) (X X':World):Prop:=Below X.heap.size X X'∨∃p∈sts,p.1=k∧Grw p.2 X X'
def gW (P:Program) (sts:List (Nat × (Nat→Option Obj→Prop))) (k:Nat) (R:Value→World→Prop) (X:World):Result Next→Prop
 | .ok (.value u) X'=>CR sts k X X'∧R u X'
 | .ok .skip X'=>CR sts k X X'∧R undef X'
 | .ok (.enter f args) X'=>X'=X∧Calls P f args X (fun e X''=>∃v,e=.returned v∧CR sts k X X''∧R v X'')
 | _=>False
def lV (sts:List (Nat × (Nat→Option Obj→Prop))) (b:Nat) (o:Option Obj):Prop:=∃p∈sts,p.2 b o
def Cb (sts:List (Nat × (Nat→Option Obj→Prop))) (k:Nat) (b:Nat) (o:Option Obj):Prop:=∃p∈sts,p.1≠k∧p.2 b o
def aC (ops:Array Oper) (i:Nat):Option Tmp:=(ops[i]?).bind (·.dst)
def rW (P:Program) (ops:Array Oper) (sts:List (Nat × (Nat→Option Obj→Prop))) (w:World) (Q:Exit→Act→World→Prop) (tail:List Oper):List NdB→Act→List (Nat × (World→Prop))→Prop
 | [],g,Φ=>∀X,Grw (lV sts) w X→dB Φ X→wpList P ops Q tail g X
 | d::rest,g,Φ=>((∀v X X',d.R g v X→Below X.heap.size X X'→d.R g v X')∧(∀p∈sts,p.1≠d.k→p.1∉d.deps→∀v X X',d.R g v X→Grw p.2 X X'→d.R g v X') ∧
  (∀g' v X,(∀j∈d.deps,∀t,aC ops j=some t→g'.tmps[t]? = g.tmps[t]?)→d.R g v X→d.R g' v X)) ∧
  (∀o,ops[d.k]? = some o→∀X,Grw (Cb sts d.k) w X→told d.deps Φ X→gW P sts d.k (d.R g) X ((execOp g.eval o).run P X)) ∧
  ∀v,rW P ops sts w Q tail rest (g.put (aC ops d.k) v) ((d.k,d.R g v)::Φ)
def BW (P:Program) (ops:Array Oper) (O:Nat→Option Obj→Prop) (w:World) (Q:Exit→Act→World→Prop) (tail:List Oper):List NdA→Act→List (Nat × (World→Prop))→Prop
 | [],g,Φ=>∀X,Grw O w X→dB Φ X→wpList P ops Q tail g X
 | d::rest,g,Φ=>((∀v X X',d.R g v X→Below X.heap.size X X'→d.R g v X')∧(d.st=false→∀v X X',d.R g v X→Grw O X X'→d.R g v X') ∧
  (∀g' v X,(∀j∈d.deps,∀t,aC ops j=some t→g'.tmps[t]? = g.tmps[t]?)→d.R g v X→d.R g' v X)) ∧
  (∀o,ops[d.k]? = some o→∀X,Grw O w X→(d.st=true→Below w.heap.size w X)→told d.deps Φ X→AD P O d.st (d.R g) X ((execOp g.eval o).run P X)) ∧
  ∀v,BW P ops O w Q tail rest (g.put (aC ops d.k) v) ((d.k,d.R g v)::Φ)
theorem ng {O:Nat→Option Obj→Prop} {Q:Exit→Act→World→Prop} {tail:List Oper} (all:List NdA) (hone1:∀e∈all,∀f∈all,e.st=true→f.st=true→e.k=f.k) (huniq:∀e∈all,∀f∈all,e.k=f.k→e.st=f.st) :
 ∀(nds:List NdA) (g:Act) (Φ:List (Nat × (World→Prop))),(∀d∈nds,d∈all)→BW P ops O w Q tail nds g Φ→rW P ops ((all.filter (·.st)).map fun d=>(d.k,O)) w Q tail (nds.map NdA.lift) g Φ
 | [],g,Φ,_,h=>fun X hX hΦ=>h X (hX.weaken (fun x o ⟨p,hp,hpo⟩=>by obtain⟨d,_,rfl⟩:=List.mem_map.1 hp;exact hpo)) hΦ
 | d::rest,g,Φ,hsub,⟨⟨h1,h1b,h1c⟩,h2,h3⟩=>by
  refine⟨⟨h1,fun p hp hne _ v X X' hR hX=>?_,h1c⟩,fun o ho X hX hΦ=>?_,fun v=>ng all hone1 huniq rest _ _ (fun x hx=>hsub x (by simp[hx])) (h3 v)⟩
  · obtain⟨e,he,rfl⟩:=List.mem_map.1 hp
    obtain⟨he1,he2⟩:=List.mem_filter.1 he
    cases hds:d.st with
    | false=>exact h1b hds v X X' hR hX
    | true=>exact absurd (hone1 e he1 d (hsub d a7) he2 hds) hne
  · have hgx:Grw O w X:=hX.weaken (fun x o ⟨p,hp,_,hpo⟩=>by obtain⟨d,_,rfl⟩:=List.mem_map.1 hp;exact hpo)
    have:=h2 o ho X hgx (fun hds=>(hX.weaken (O':=fun _ _=>False) (fun x o ⟨p,hp,hne,hpo⟩=>by
     obtain⟨e,he,rfl⟩:=List.mem_map.1 hp;obtain⟨he1,he2⟩:=List.mem_filter.1 he
     exact hne (hone1 e he1 d (hsub d a7) he2 hds))).below) hΦ
    rcases this with h | ⟨hds,X',h4,h5,h6⟩
    · generalize (execOp g.eval o).run P X=r at *
      cases r with
      | ok nx w'=>
       cases nx<;>simp only[cn] at h<;>simp only[gW]
       case value u=>exact⟨.inl h.1,h.2⟩
       case enter f args=>exact⟨h.1,h.2.mono fun e X'' ⟨v,h1,h2,h3⟩=>⟨v,h1,.inl h2,h3⟩⟩
      | halt x w'=>simp only[cn] at h
    · rw[h4]
      exact⟨.inr ⟨(d.k,O),List.mem_map.2 ⟨d,List.mem_filter.2 ⟨hsub d a7,hds⟩,rfl⟩,rfl,h5⟩,h6⟩
def nv (P:Program) (ops:Array Oper) (w:World) (Q:Exit→Act→World→Prop) (tail:List Oper):List Nd→Act→List (Nat × (World→Prop))→Prop
 | [],g,Φ=>∀X,Below w.heap.size w X→dB Φ X→wpList P ops Q tail g X
 | d::rest,g,Φ=>(∀v X X',d.R v X→Below X.heap.size X X'→d.R v X') ∧
  (∀o,ops[d.k]? = some o→∀X,Below w.heap.size w X→told d.deps Φ X→cn P d.R X ((execOp g.eval o).run P X)) ∧
  ∀v,nv P ops w Q tail rest (g.put (aC ops d.k) v) ((d.k,d.R v)::Φ)
theorem nt {Q:Exit→Act→World→Prop} {tail:List Oper}:∀(nds:List Nd) (g:Act) (Φ:List (Nat × (World→Prop))),nv P ops w Q tail nds g Φ→BW P ops (fun _ _=>False) w Q tail (nds.map Nd.lift) g Φ
 | [],g,Φ,h=>fun X hX hΦ=>h X hX.below hΦ
 | d::rest,g,Φ,⟨h1,h2,h3⟩=>⟨⟨h1,fun _ v X X' hR hX=>h1 v X X' hR hX.below,fun _ v X _ h=>h⟩,fun o ho X hX _ hΦ=>.inl (h2 o ho X hX.below hΦ),fun v=>nt rest _ _ (h3 v)⟩
def aF (ops:Array Oper) (vals:Nat→Value) (nds:List NdB) (g:Act):Act:=nds.foldl (fun g d=>g.put (aC ops d.k) (vals d.k)) g
theorem gF (vals vals':Nat→Value):∀(nds:List NdB) (g:Act),(∀e∈nds,vals e.k=vals' e.k)→aF ops vals nds g=aF ops vals' nds g
 | [],_,_=>rfl
 | d::rest,g,h=>by
  show aF ops vals rest (g.put (aC ops d.k) (vals d.k))=aF ops vals' rest (g.put (aC ops d.k) (vals' d.k));rw[h d a7];exact gF vals vals' rest _ (fun e he=>h e (by simp[he]))
theorem fQ {sts:List (Nat × (Nat→Option Obj→Prop))} {Q:Exit→Act→World→Prop} {tail:List Oper}:∀(nds:List NdB) (g:Act) (Φ:List (Nat × (World→Prop))),rW P ops sts w Q tail nds g Φ→∀vals:Nat→Value,
 (∀pre d suf,nds=pre ++ d::suf→((∀v X X',d.R (aF ops vals pre g) v X→Below X.heap.size X X'→d.R (aF ops vals pre g) v X')∧(∀p∈sts,p.1≠d.k→p.1∉d.deps→∀v X X',d.R (aF ops vals pre g) v X→Grw p.2 X X'→d.R (aF ops vals pre g) v X') ∧
  (∀g' v X,(∀j∈d.deps,∀t,aC ops j=some t→g'.tmps[t]? = (aF ops vals pre g).tmps[t]?)→d.R (aF ops vals pre g) v X→d.R g' v X)) ∧
  ∀o,ops[d.k]? = some o→∀X,Grw (Cb sts d.k) w X→told d.deps Φ X→(∀p2 e s2,pre=p2 ++ e::s2→e.k∈d.deps→e.R (aF ops vals p2 g) (vals e.k) X) →
  gW P sts d.k (d.R (aF ops vals pre g)) X ((execOp (aF ops vals pre g).eval o).run P X)) ∧
 (∀X,Grw (lV sts) w X→dB Φ X→(∀p2 e s2,nds=p2 ++ e::s2→e.R (aF ops vals p2 g) (vals e.k) X)→wpList P ops Q tail (aF ops vals nds g) X)
 | [],g,Φ,h,vals=>⟨fun pre d suf e=>by simp at e,fun X hX hΦ _=>h X hX hΦ⟩
 | d::rest,g,Φ,⟨h1,h2,h3⟩,vals=>by
  obtain⟨i1,i2⟩:=fQ rest _ _ (h3 (vals d.k)) vals;refine⟨fun pre d' suf e=>?_,fun X hX hΦ hR=>i2 X hX ⟨hR [] d rest rfl,hΦ⟩ (fun p2 e s2 he=>hR (d::p2) e s2 (by rw[he];rfl))⟩
  cases pre with
  | nil=>
   simp only[List.nil_append,List.cons.injEq] at e;obtain⟨rfl,rfl⟩:=e;exact⟨h1,fun o ho X hX hf _=>h2 o ho X hX hf⟩
  | cons p pre=>
   simp only[List.cons_append,List.cons.injEq] at e;obtain⟨rfl,e⟩:=e;obtain⟨j1,j2⟩:=i1 pre d' suf e;refine⟨j1,fun o ho X hX hf hR=>j2 o ho X hX ?_ (fun p2 x s2 hx hd=>hR (d::p2) x s2 (by rw[hx];rfl) hd)⟩;unfold told
   split
   · rename_i hc
     exact⟨hR [] d pre rfl (List.contains_iff_mem.1 hc),hf⟩
   · exact hf
theorem du (a:Act) (d:Option Tmp) (v:Value):(a.put d v).tmps.size=a.tmps.size:=by unfold Act.put;split<;>simp
theorem put_defers (a:Act) (d:Option Tmp) (v:Value):(a.put d v).defers=a.defers:=by unfold Act.put;split<;>rfl
theorem fk {a:Act} {d:Option Tmp} {t:Tmp} (h:d≠some t) (v:Value):(a.put d v).tmps[t]? = a.tmps[t]?:=by
 unfold Act.put
 split
 · rename_i u
   exact Array.getElem?_setIfInBounds_ne (fun e=>h (by rw[e]))
 · rfl
theorem put_eq {a:Act} {t:Tmp} (h:t<a.tmps.size) (v:Value):(a.put (some t) v).tmps[t]? = some v:=by
 unfold Act.put;simp[h]
theorem iz (vals:Nat→Value):∀(nds:List NdB) (g:Act),(aF ops vals nds g).tmps.size=g.tmps.size∧(aF ops vals nds g).defers=g.defers
 | [],g=>⟨rfl,rfl⟩
 | d::rest,g=>by
  obtain⟨h1,h2⟩:=iz vals rest (g.put (aC ops d.k) (vals d.k));exact⟨h1.trans (du _ _ _),h2.trans (put_defers _ _ _)⟩
theorem kR (vals vals':Nat→Value) (t:Tmp):∀(nds:List NdB) (g g':Act),g.tmps.size=g'.tmps.size→g.tmps[t]? = g'.tmps[t]?→(∀e∈nds,aC ops e.k=some t→vals e.k=vals' e.k)→(aF ops vals nds g).tmps[t]? = (aF ops vals' nds g').tmps[t]?
 | [],g,g',_,h,_=>h
 | d::rest,g,g',hs,h,hv=>by
  refine kR vals vals' t rest _ _ (by rw[du,du];exact hs) ?_ (fun e he=>hv e (by simp[he]));show(g.put (aC ops d.k) (vals d.k)).tmps[t]? = (g'.put (aC ops d.k) (vals' d.k)).tmps[t]?;by_cases hd:aC ops d.k=some t
  · rw[hd,hv d a7 hd]
    by_cases ht:t<g.tmps.size
    · rw[put_eq ht,put_eq (by rw[←hs];exact ht)]
    · rw[Array.getElem?_eq_none (by rw[du];exact Nat.le_of_not_lt ht),Array.getElem?_eq_none (by rw[du,←hs];exact Nat.le_of_not_lt ht)]
  · rw[fk hd,fk hd];exact h
theorem dc (vals:Nat→Value) (t:Tmp):∀(nds:List NdB) (g:Act),(∀e∈nds,aC ops e.k≠some t)→(aF ops vals nds g).tmps[t]? = g.tmps[t]?
 | [],g,_=>rfl
 | d::rest,g,h=>(dc vals t rest _ (fun e he=>h e (by simp[he]))).trans (fk (h d a7) _)
theorem gr (vals:Nat→Value) (t:Tmp) (k:Nat):∀(nds:List NdB) (g:Act),t<g.tmps.size→(∃e∈nds,e.k=k)→(aC ops k=some t)→(∀e∈nds,aC ops e.k=some t→e.k=k)→(aF ops vals nds g).tmps[t]? = some (vals k)
 | [],g,_,h,_,_=>by obtain⟨e,he,_⟩:=h;cases he
 | d::rest,g,ht,h,hk,hu=>by
  by_cases hr:∃e∈rest,e.k=k
  · exact gr vals t k rest _ (by rw[du];exact ht) hr hk (fun e he=>hu e (by simp[he]))
  · have hd:d.k=k:=by
     obtain⟨e,he,hek⟩:=h;rcases List.mem_cons.1 he with rfl | he
     · exact hek
     · exact absurd ⟨e,he,hek⟩ hr
    show(aF ops vals rest (g.put (aC ops d.k) (vals d.k))).tmps[t]? = _;rw[dc vals t rest _ (fun e he e2=>hr ⟨e,he,hu e (by simp[he]) e2⟩),hd,hk];exact put_eq ht _
theorem ja {o:Oper} (hs:∀cs b,o.op≠.select cs b) {b g:Act} (h:∀t∈o.looksAt ops,b.tmps[t]? = g.tmps[t]?):execOp b.eval o=execOp g.eval o:=
 execOp_congr o hs fun x hx=>by
  cases x with
  | tmp t=>
   have:=h t (List.mem_append_left _ (List.mem_filterMap.2 ⟨.tmp t,by simpa using hx,rfl⟩));simp[Act.eval,this]
  | _=>rfl
theorem lJ {o:Oper} {b g:Act} (h:∀t∈o.looksAt ops,b.tmps[t]? = g.tmps[t]?):Region.wanted o (yielded ops b.tmps)=Region.wanted o (yielded ops g.tmps):=by
 unfold Region.wanted
 cases hg:o.guard with
 | none=>rfl
 | some gw=>
  obtain⟨k,want⟩:=gw
  have hy:yielded ops b.tmps k=yielded ops g.tmps k:=by
   unfold yielded
   cases ht:(ops[k]?).bind (·.dst) with
   | none=>rfl
   | some t=>
    have:=h t (by simp[Oper.looksAt,hg,ht]);simp[this]
  simp only[hy]
def zn (P:Program) (C:World→Prop) (s:Sem Next) (v:Value):Prop:=∀X,C X→Oper.quietUpon P (fun X'=>Below X.heap.size X X') X v (s.run P X)
def cV (P:Program) (ops:Array Oper) (C:World→Prop) (L:Act→Prop):List Oper→Act→Prop
 | [],a=>L a
 | o::rest,a=>if Region.wanted o (yielded ops a.tmps) then ∃v,zn P C (execOp a.eval o) v∧cV P ops C L rest (a.put o.dst v) else cV P ops C L rest (a.put o.dst undef)
def YieldsC (P:Program) (ops:Array Oper) (C:World→Prop) (o:Oper) (v:Value) (a:Act):Prop:=
 (Region.wanted o (yielded ops a.tmps)=true∧zn P C (execOp a.eval o) v)∨(Region.wanted o (yielded ops a.tmps)=false∧v=undef)
theorem YieldsC.of_same {C:World→Prop} {o:Oper} {v:Value} {a a':Act} (hy:YieldsC P ops C o v a) (he:execOp a'.eval o=execOp a.eval o)
 (hw:Region.wanted o (yielded ops a'.tmps)=Region.wanted o (yielded ops a.tmps)):YieldsC P ops C o v a':=by
 unfold YieldsC at *;rw[he,hw];exact hy
theorem gJ {C:World→Prop} {afin:Act} (hC:C w):∀(l:List Oper) (a:Act),ph l a.tmps.size=true →
 (∀X,C X→wpQuiet P ops (fun w'=>∃p:Regrown,w'=grow (redrawn X p.d) p.os) (fun a'=>a'=afin) l a)→cV P ops C (fun a'=>a'=afin) l a
 | [],a,_,h=>h w hC
 | o::l,a,hd,h=>by
  unfold ph at hd;rw[Bool.and_eq_true] at hd;obtain⟨hd1,hd2⟩:=hd
  have hsz:∀v,(a.put o.dst v).tmps.size=a.tmps.size:=fun v=>by unfold Act.put;split<;>simp
  unfold cV
  split
  · rename_i hw
    have h':∀X,C X→∃v,(∀W,(∃p:Regrown,W=grow (redrawn X p.d) p.os)→o.quietAt P a (fun w'=>∃p:Regrown,w'=grow (redrawn X p.d) p.os) W v)∧wpQuiet P ops (fun w'=>∃p:Regrown,w'=grow (redrawn X p.d) p.os) (fun a'=>a'=afin) l (a.put o.dst v):=fun X hX=>by
     have:=h X hX;unfold wpQuiet at this;rw[if_pos hw] at this;exact this
    cases hdst:o.dst with
    | none=>rw[hdst] at hd1;cases hd1
    | some d=>
     rw[hdst] at hd1 h';simp only[Bool.and_eq_true,decide_eq_true_eq,Bool.not_eq_true',List.any_eq_false,beq_iff_eq] at hd1
     have hval:∀X,C X→∀v,wpQuiet P ops (fun w'=>∃p:Regrown,w'=grow (redrawn X p.d) p.os) (fun a'=>a'=afin) l (a.put (some d) v)→some v=afin.tmps[d]?:=fun X hX v hv=>by
      rw[←jB l _ (fun o' ho'=>hd1.2 o' ho') hv];show some v=(a.tmps.setIfInBounds d v)[d]?;rw[Array.getElem?_setIfInBounds_self_of_lt hd1.1]
     obtain⟨v0,_,hv0⟩:=h' w hC
     have hsame:∀X,C X→o.quietAt P a (fun w'=>∃p:Regrown,w'=grow (redrawn X p.d) p.os) X v0∧wpQuiet P ops (fun w'=>∃p:Regrown,w'=grow (redrawn X p.d) p.os) (fun a'=>a'=afin) l (a.put (some d) v0):=fun X hX=>by
      obtain⟨v,g1,g2⟩:=h' X hX;have e:=(hval X hX v g2).trans (hval w hC v0 hv0).symm;injection e with e;subst e;exact⟨g1 X ⟨⟨X.drawn,#[]⟩,by rw[grow_empty];rfl⟩,g2⟩
     refine⟨v0,fun X hX=>nw (fun W hW=>cp hW) (hsame X hX).1,?_⟩;exact gJ hC l _ (by rw[←hdst,hsz];exact hd2) fun X hX=>(hsame X hX).2
  · rename_i hw
    refine gJ hC l _ (by rw[hsz];exact hd2) fun X hX=>?_;have:=h X hX;unfold wpQuiet at this;rw[if_neg hw] at this;exact this
def pick:List Bool→List Oper→List Oper
 | true::fs,_::l=>pick fs l
 | false::fs,o::l=>o::pick fs l
 | _,_=>[]
def ca (fl:List Bool) (i:Nat):Bool:=(fl[i]?).getD false
theorem gq {C:World→Prop} {afin:Act} {t:Tmp}:∀(l:List Oper) (a:Act),(∀o∈l,o.dst≠some t)→cV P ops C (fun a'=>a'=afin) l a→a.tmps[t]? = afin.tmps[t]?∧True
 | [],a,_,h=>by rw[show a=afin from h];exact⟨rfl,trivial⟩
 | o::l,a,hd,h=>by
  unfold cV at h
  split at h
  · obtain⟨v,_,h2⟩:=h
    rw[←fk (hd o a7) v];exact gq l _ (fun o ho=>hd o (by simp[ho])) h2
  · rw[←fk (hd o a7) undef]
    exact gq l _ (fun o ho=>hd o (by simp[ho])) h
theorem iq {C:World→Prop} {afin:Act}:∀(l:List Oper) (a:Act),cV P ops C (fun a'=>a'=afin) l a→afin.tmps.size=a.tmps.size∧afin.defers=a.defers
 | [],a,h=>by rw[show a=afin from h];exact⟨rfl,rfl⟩
 | o::l,a,h=>by
  unfold cV at h
  split at h
  · obtain⟨v,_,h2⟩:=h
    have:=iq l _ h2;rw[du,put_defers] at this;exact this
  · have:=iq l _ h
    rw[du,put_defers] at this;exact this
def AQ (P:Program) (ops:Array Oper) (C:World→Prop) (G:Tmp→Option Value) (afin:Act) (o:Oper):Prop:=
 ∃(g:Act) (d:Tmp) (v:Value),(∀t∈o.looksAt ops,g.tmps[t]? = G t)∧o.dst=some d∧afin.tmps[d]? = some v∧YieldsC P ops C o v g
def x8 (ops:Array Oper) (fl:List Bool) (n N:Nat):Bool:=
 (List.range n).all fun i=>match ops[i]? with
  | none=>false
  | some o=>
   (match o.dst with | some d=>decide (d<N)&&((List.range n).all fun j=>j==i||aC ops j != some d) | none=>ca fl i) &&
   o.after.all (fun e=>!Region.binds .any e||decide (e.on<i)) &&
   (o.looksAt ops).all (fun t=>(List.range n).all fun j=>aC ops j != some t||(decide (j<i)&&Region.waitsFor .any ops i j&&(ca fl i||!ca fl j))) &&
   (!ca fl i||o.guard.isNone)
def iu (ops:Array Oper):Nat→Nat→Nat→Bool
 | 0,_,_=>false
 | f+1,k,j=>Region.waitsFor .any ops k j||(List.range k).any fun i=>Region.waitsFor .any ops k i&&iu ops f i j
def dG (N n:Nat):Array Bool:=((List.range N).map fun i=>decide (i<n)).toArray
def zr (ops:Array Oper) (fl:List Bool) (n:Nat):List Nat→List (Nat × List Nat)→Bool
 | _,[]=>true
 | pre,(k,fr)::rest=>decide (k<n)&&ca fl k&&fr.all (fun j=>pre.contains j)&&pre.all (fun j=>decide (j<k)&&(!fr.contains j||iu ops 4 k j))&&zr ops fl n (pre ++ [k]) rest
def jj (ops:Array Oper) (fl:List Bool) (n N:Nat) (ks:List (Nat × List Nat)):Bool:=
 Region.noSelect ops&&decide (n<ops.size)&&Region.sinkB .any ops n&&Region.chainB .any ops n&&Region.seqB .any ops (ops.size-n) n (dG ops.size n) &&
 x8 ops fl n N&&decide (fl.length=n)&&((List.range n).all fun i=>!ca fl i||(ks.map (·.1)).contains i)&&zr ops fl n [] ks&&ks.all (fun p=>p.2.all fun j=>decide (j<n))
theorem da {n:Nat} {listed:Array Bool} (inv:HeadInv .any ops n listed):∀(f k j:Nat) (o:Oper),ops[k]? = some o→(∀e∈o.after,Region.binds .any e=true→listed.getD e.on false=true)→iu ops f k j=true→listed.getD j false=true
 | 0,_,_,_,_,_,h=>by simp[iu] at h
 | f+1,k,j,o,ho,hall,h=>by
  unfold iu at h;rw[Bool.or_eq_true] at h
  have one:∀i,Region.waitsFor .any ops k i=true→listed.getD i false=true:=fun i hi=>by
   obtain⟨o',ho',e,he,hb,hon⟩:=Region.waitsFor_spec hi;have:o'=o:=Option.some.inj (ho'.symm.trans ho);subst this;rw[←hon];exact hall e he hb
  rcases h with h | h
  · exact one j h
  · obtain⟨i,_,hi2⟩:=List.any_eq_true.1 h
    rw[Bool.and_eq_true] at hi2;have hli:=one i hi2.1
    cases hoi:ops[i]? with
    | none=>
     have:i<listed.size:=by
      rcases Nat.lt_or_ge i listed.size with h4 | h4
      · exact h4
      · simp[Array.getElem?_eq_none h4] at hli
     rw[inv.size] at this;rw[Array.getElem?_eq_getElem this] at hoi
     cases hoi
    | some oi=>exact da inv f i j oi hoi (fun e he hb=>inv.closed i oi hoi hli e he hb) hi2.2
theorem kQ {fl:List Bool} {n:Nat}:∀(nds:List NdB) (pre0:List Nat),zr ops fl n pre0 (nds.map fun d=>(d.k,d.deps))=true →
 ∀pre d suf,nds=pre ++ d::suf→d.k<n∧ca fl d.k=true∧(∀j∈pre0 ++ pre.map (·.k),j<d.k∧(j∈d.deps→iu ops 4 d.k j=true))∧∀j∈d.deps,j∈pre0 ++ pre.map (·.k)
 | [],_,_,pre,d,suf,e=>by simp at e
 | x::rest,pre0,h,pre,d,suf,e=>by
  simp only[List.map_cons,zr,Bool.and_eq_true,decide_eq_true_eq] at h;obtain⟨⟨⟨⟨h1,h2⟩,h2b⟩,h3⟩,h4⟩:=h
  cases pre with
  | nil=>
   simp only[List.nil_append,List.cons.injEq] at e;obtain⟨rfl,rfl⟩:=e;refine⟨h1,h2,fun j hj=>?_,fun j hj=>by have:=List.all_eq_true.1 h2b j hj;simpa using this⟩;have:=List.all_eq_true.1 h3 j (by simpa using hj);simp only[Bool.and_eq_true,decide_eq_true_eq,Bool.or_eq_true] at this;exact⟨this.1,fun hf=>this.2.resolve_left (by rw[List.contains_iff_mem.2 hf];decide)⟩
  | cons p pre=>
   simp only[List.cons_append,List.cons.injEq] at e;obtain⟨rfl,e⟩:=e;obtain⟨g1,g2,g3,g4⟩:=kQ rest (pre0 ++ [x.k]) h4 pre d suf e;exact⟨g1,g2,fun j hj=>g3 j (by simpa using hj),fun j hj=>by have:=g4 j hj;simpa using this⟩
theorem count_set (n:Nat) (i:Nat) (listed:Array Bool) (hi:listed.getD i true=false):∀m,((List.range m).filter fun j=>!(listed.setIfInBounds i true).getD j true).length+(if i<m then 1 else 0)=((List.range m).filter fun j=>!listed.getD j true).length
 | 0=>by simp
 | m+1=>by
  have ih:=count_set n i listed hi m
  have hlt:i<listed.size:=by
   rcases Nat.lt_or_ge i listed.size with h' | h'
   · exact h'
   · simp[Array.getElem?_eq_none h'] at hi
  rw[List.range_succ,List.filter_append,List.filter_append,List.length_append,List.length_append,←ih];by_cases e:i=m
  · subst e
    have Y:(listed.setIfInBounds i true).getD i true=true:=by simp[hlt]
    simp only[List.filter_cons,List.filter_nil,Y,hi];simp
  · have h2:(if i<m+1 then 1 else 0)=(if i<m then 1 else 0):=by
     by_cases h:i<m
     · rw[if_pos h,if_pos ab]
     · rw[if_neg h,if_neg ab]
    rw[h2]
    have Y:(List.filter (fun j=>!(listed.setIfInBounds i true).getD j true) [m])=(List.filter (fun j=>!listed.getD j true) [m]):=by
     simp only[List.filter_cons,List.filter_nil,getD_set_ne true e]
    rw[Y];omega
section
variable {n N:Nat} {fl:List Bool} {nds:List NdB} {a afin:Act} {Q:Exit→Act→World→Prop} {tail:List Oper} {C:World→Prop} {sts:List (Nat × (Nat→Option Obj→Prop))}
theorem iW (hh:x8 ops fl n N=true) (hN:N=a.tmps.size) (hfl:fl.length=n) (hn:n≤ops.size)
 (G:Tmp→Option Value) (hG1:∀j t,j<n→ca fl j=false→aC ops j=some t→G t=afin.tmps[t]?) (hG2:∀t,(∀j,j<n→ca fl j=false→aC ops j≠some t)→G t=a.tmps[t]?) :
 ∀(fs:List Bool) (l:List Oper) (i:Nat) (g:Act),i+fs.length=n→(∀j,fs[j]? = fl[i+j]?)→(∀j,l[j]? = ops[i+j]?)→g.tmps.size=a.tmps.size →
  (∀t,(∃j,j<i∧ca fl j=false∧aC ops j=some t)→g.tmps[t]? = afin.tmps[t]?)→(∀t,(∀j,j<i→ca fl j=false→aC ops j≠some t)→g.tmps[t]? = a.tmps[t]?) →
  cV P ops C (fun a'=>a'=afin) (pick fs l) g→∀j o,i≤j→j<n→ca fl j=false→ops[j]? = some o→AQ P ops C G afin o
 | [],l,i,g,hi,_,_,_,_,_,_,j,o,hij,hjn,_,_=>by simp at hi;omega
 | f::fs,[],i,g,hi,_,hl,_,_,_,_,j,o,hij,hjn,_,hj=>by
  have:=hl (j-i);rw[show i+(j-i)=j by omega,hj] at this;simp at this
 | f::fs,o0::l,i,g,hi,hfs,hl,hsz,h1,h2,h,j,o,hij,hjn,hjd,hj=>by
  have hf:ca fl i=f:=by
   have:=hfs 0;rw[Nat.add_zero] at this;unfold ca;rw[←this];rfl
  have ho0:ops[i]? = some o0:=by have:=hl 0;rw[Nat.add_zero] at this;rw[←this];rfl
  have hin:i<n:=by simp at hi;omega
  have hchk:=List.all_eq_true.1 hh i (List.mem_range.2 hin);simp only[ho0,Bool.and_eq_true] at hchk;obtain⟨⟨⟨c1,c2⟩,c3⟩,c4⟩:=hchk
  cases hd:o0.dst with
  | none=>
   rw[hd] at c1;replace c1:ca fl i=true:=c1
   obtain rfl:f=true:=by rw[←hf,c1]
   have hji:j≠i:=fun e=>by rw[e,hf] at hjd;cases hjd
   refine iW hh hN hfl hn G hG1 hG2 fs l (i+1) g (by simp at hi ⊢;omega) (fun j=>by have:=hfs (j+1);rw[show i+1+j=i+(j+1) by omega,←this];rfl) (fun j=>by have:=hl (j+1);rw[show i+1+j=i+(j+1) by omega,←this];rfl) hsz ?_ ?_ h j o ab hjn hjd hj
   · rintro t ⟨j',hj',hd',ht'⟩
     refine h1 t ⟨j',?_,hd',ht'⟩;rcases Nat.lt_or_ge j' i with h' | h'
     · exact h'
     · have:j'=i:=by omega
       subst this;rw[hf] at hd';cases hd'
   · intro t ht
     exact h2 t (fun j' hj'=>ht j' ab)
  | some d=>
   rw[hd] at c1;simp only[Bool.and_eq_true,decide_eq_true_eq] at c1;obtain⟨c1,c1b⟩:=c1
   have hdi:aC ops i=some d:=by unfold aC;rw[ho0];exact hd
   have huniq:∀j,j<n→j≠i→aC ops j≠some d:=fun j hj hne e=>by
    have:=List.all_eq_true.1 c1b j (List.mem_range.2 hj);simp[hne,e] at this
   cases f with
   | true=>
    have hji:j≠i:=fun e=>by rw[e,hf] at hjd;cases hjd
    refine iW hh hN hfl hn G hG1 hG2 fs l (i+1) g (by simp at hi ⊢;omega) (fun j=>by have:=hfs (j+1);rw[show i+1+j=i+(j+1) by omega,←this];rfl) (fun j=>by have:=hl (j+1);rw[show i+1+j=i+(j+1) by omega,←this];rfl) hsz ?_ ?_ h j o ab hjn hjd hj
    · rintro t ⟨j',hj',hd',ht'⟩
      refine h1 t ⟨j',?_,hd',ht'⟩;rcases Nat.lt_or_ge j' i with h' | h'
      · exact h'
      · have:j'=i:=by omega
        subst this;rw[hf] at hd';cases hd'
    · intro t ht
      exact h2 t (fun j' hj'=>ht j' ab)
   | false=>
    have hpick:pick (false::fs) (o0::l)=o0::pick fs l:=rfl;rw[hpick] at h
    have hlook:∀t∈o0.looksAt ops,g.tmps[t]? = G t:=fun t ht=>by
     have c3t:=List.all_eq_true.1 c3 t ht;by_cases hex:∃j',j'<n∧aC ops j'=some t
     · obtain⟨j',hj'n,hj't⟩:=hex
       have:=List.all_eq_true.1 c3t j' (List.mem_range.2 hj'n);simp only[hj't,bne_self_eq_false,Bool.false_or,Bool.and_eq_true,decide_eq_true_eq,hf,Bool.not_eq_true'] at this;rw[h1 t ⟨j',this.1.1,this.2,hj't⟩,hG1 j' t hj'n this.2 hj't]
     · rw[h2 t (fun j' hj' hd' e=>hex ⟨j',by omega,e⟩),hG2 t (fun j' hj' hd' e=>hex ⟨j',hj',e⟩)]
    have step:∀v,cV P ops C (fun a'=>a'=afin) (pick fs l) (g.put o0.dst v) →
     afin.tmps[d]? = some v∧∀j o,i+1≤j→j<n→ca fl j=false→ops[j]? = some o→AQ P ops C G afin o:=fun v hv=>by
     have hnot:∀o'∈pick fs l,o'.dst≠some d:=by
      have aux:∀(fs:List Bool) (l:List Oper) (i':Nat),i<i'→i'+fs.length=n→(∀j,l[j]? = ops[i'+j]?)→∀o'∈pick fs l,o'.dst≠some d:=by
       intro fs
       induction fs with
       | nil=>intro l i' _ _ _ o' ho';cases l<;>simp[pick] at ho'
       | cons b fs ih=>
        intro l i' hi' hlen hl' o' ho'
        cases l with
        | nil=>cases b<;>simp[pick] at ho'
        | cons x l=>
         have hx:ops[i']? = some x:=by have:=hl' 0;rw[Nat.add_zero] at this;rw[←this];rfl
         have hlen':i'+1+fs.length=n:=by simp at hlen;omega
         have hl'':∀j,l[j]? = ops[i'+1+j]?:=fun j=>by have:=hl' (j+1);rw[show i'+1+j=i'+(j+1) by omega,←this];rfl
         cases b with
         | true=>exact ih l (i'+1) ab hlen' hl'' o' ho'
         | false=>
          rcases List.mem_cons.1 ho' with rfl | ho'
          · intro e
            exact huniq i' (by simp at hlen;omega) ab (by unfold aC;rw[hx];exact e)
          · exact ih l (i'+1) ab hlen' hl'' o' ho'
      exact aux fs l (i+1) ab (by simp at hi;omega) (fun j=>by have:=hl (j+1);rw[show i+1+j=i+(j+1) by omega,←this];rfl)
     have hfin:afin.tmps[d]? = some v:=by
      rw[←(gq _ _ hnot hv).1,hd];exact put_eq (by rw[hsz,←hN];exact c1) v
     refine⟨hfin,iW hh hN hfl hn G hG1 hG2 fs l (i+1) (g.put o0.dst v) (by simp at hi ⊢;omega) (fun j=>by have:=hfs (j+1);rw[show i+1+j=i+(j+1) by omega,←this];rfl) (fun j=>by have:=hl (j+1);rw[show i+1+j=i+(j+1) by omega,←this];rfl)
      (by rw[du];exact hsz) ?_ ?_ hv⟩
     · rintro t ⟨j',hj',hd',ht'⟩
       by_cases hji:j'=i
       · subst hji
         rw[hdi] at ht';injection ht' with ht';subst ht';rw[hd,put_eq (by rw[hsz,←hN];exact c1) v,hfin]
       · have htd:d≠t:=fun e=>huniq j' ab hji (by rw[ht',e])
         rw[fk (by rw[hd];intro e;exact htd (Option.some.inj e)) v];exact h1 t ⟨j',by omega,hd',ht'⟩
     · intro t ht
       have htd:d≠t:=fun e=>ht i ab hf (by rw[hdi,e]);rw[fk (by rw[hd];intro e;exact htd (Option.some.inj e)) v];exact h2 t (fun j' hj'=>ht j' ab)
    unfold cV at h;by_cases hw:Region.wanted o0 (yielded ops g.tmps)=true
    · rw[if_pos hw] at h
      obtain⟨v,hv1,hv2⟩:=h;obtain⟨s1,s2⟩:=step v hv2;by_cases hji:j=i
      · subst hji
        obtain rfl:o0=o:=Option.some.inj (ho0.symm.trans hj);exact⟨g,d,v,hlook,hd,s1,.inl ⟨hw,hv1⟩⟩
      · exact s2 j o ab hjn hjd hj
    · rw[if_neg hw] at h
      obtain⟨s1,s2⟩:=step undef h;by_cases hji:j=i
      · subst hji
        obtain rfl:o0=o:=Option.some.inj (ho0.symm.trans hj);exact⟨g,d,undef,hlook,hd,s1,.inr ⟨by simpa using hw,rfl⟩⟩
      · exact s2 j o ab hjn hjd hj
structure FlowInv (ops:Array Oper) (sts:List (Nat × (Nat→Option Obj→Prop))) (w:World) (fl:List Bool) (n:Nat) (nds:List NdB) (a afin:Act) (listed:Array Bool) (b:Act) (X:World) (vals:Nat→Value):Prop where
 below:Grw (lV sts) w X
 head:HeadInv .any ops n listed
 size:b.tmps.size=a.tmps.size
 defers:b.defers=a.defers
 done:∀i d,i<n→aC ops i=some d→listed.getD i false=true→b.tmps[d]? = if ca fl i=true then some (vals i) else afin.tmps[d]?
 rest:∀t,(∀i,i<n→aC ops i=some t→listed.getD i true=false)→b.tmps[t]? = a.tmps[t]?
 facts:∀pre d suf,nds=pre ++ d::suf→listed.getD d.k false=true→d.R (aF ops vals pre afin) (vals d.k) X
 calm:∀k,listed.getD k false=false→Grw (Cb sts k) w X
theorem j4 {listed:Array Bool} {i:Nat} (hi:i<listed.size) (h:listed.getD i true≠false):listed.getD i false=true:=by
 simp[hi] at h ⊢;exact h
theorem dK {listed:Array Bool} {i:Nat} (hi:i<listed.size) (d:Bool):(listed.setIfInBounds i true).getD i d=true:=by simp[hi]
theorem FlowInv.step {listed:Array Bool} {b:Act} {X:World} {vals:Nat→Value} (h:FlowInv ops sts w fl n nds a afin listed b X vals) {i:Nat} {o:Oper} {v:Value} {X':World}
 (hi:i∈Region.ready .any ops listed) (hin:i<n) (ho:ops[i]? = some o) (hdst:∀d,o.dst=some d→d<a.tmps.size∧∀j,j<n→j≠i→aC ops j≠some d)
 (hX:CR sts i X X') (hst:∀pre e suf,nds=pre ++ e::suf→e.k≠i→listed.getD e.k false=true→∀vals v,e.R (aF ops vals pre afin) v X→e.R (aF ops vals pre afin) v X')
 (hdep:∀pre e suf,nds=pre ++ e::suf→(∀vals vals' v X,(∀x∈pre,x.k∈e.deps→vals x.k=vals' x.k)→e.R (aF ops vals pre afin) v X→e.R (aF ops vals' pre afin) v X)∧(listed.getD e.k false=true→∀x∈pre,x.k∈e.deps→listed.getD x.k false=true))
 (hv:∀d,o.dst=some d→ca fl i=false→afin.tmps[d]? = some v) (hR:∀pre e suf,nds=pre ++ e::suf→e.k=i→e.R (aF ops vals pre afin) v X') (hpre:∀pre e suf,nds=pre ++ e::suf→e.k=i→∀x∈pre,x.k≠i) :
 FlowInv ops sts w fl n nds a afin (listed.setIfInBounds i true) (b.put o.dst v) X' (fun j=>if j=i then v else vals j):=by
 have hdi:aC ops i=o.dst:=by unfold aC;rw[ho];rfl
 have his:i<listed.size:=by rw[h.head.size];exact(Array.getElem?_eq_some_iff.1 ho).1
 have hXa:Grw (lV sts) X X':=by
  rcases hX with h | ⟨p,hp,_,h⟩
  · exact Grw.of_below h
  · exact h.weaken (fun x o ho=>⟨p,hp,ho⟩)
 refine⟨h.below.trans hXa,h.head.set hi hin,by rw[du];exact h.size,by rw[put_defers];exact h.defers,?_,?_,?_,?_⟩
 · intro j e hj he hl
   by_cases hji:j=i
   · subst hji
     rw[hdi] at he;rw[he,put_eq (by rw[h.size];exact(hdst e he).1) v]
     cases hnd:ca fl j with
     | true=>simp
     | false=>rw[if_neg aq];exact(hv e he hnd).symm
   · rw[getD_set_ne false (Ne.symm hji)] at hl
     have hne:o.dst≠some e:=fun e2=>(hdst e e2).2 j hj hji he;rw[fk hne v,h.done j e hj he hl,if_neg (c:=j=i) hji]
 · intro t ht
   have hne:o.dst≠some t:=fun e=>by
    have:=ht i hin (by rw[hdi,e]);rw[dK his] at this
    cases this
   rw[fk hne v];refine h.rest t fun j hj hjt=>?_;have:=ht j hj hjt;by_cases hji:i=j
   · subst hji;rw[hdi] at hjt;exact absurd hjt hne
   · rw[getD_set_ne true hji] at this;exact this
 · intro pre e suf he hl
   by_cases hek:e.k=i
   · show e.R _ (if e.k=i then v else vals e.k) X'
     rw[if_pos hek,←gF vals (fun j=>if j=i then v else vals j) pre afin (fun x hx=>(if_neg (hpre pre e suf he hek x hx)).symm)];exact hR pre e suf he hek
   · show e.R _ (if e.k=i then v else vals e.k) X'
     rw[if_neg hek];rw[getD_set_ne false (Ne.symm hek)] at hl;have Y:=hst pre e suf he hek hl vals _ (h.facts pre e suf he hl);obtain⟨hf1,hf2⟩:=hdep pre e suf he;refine hf1 vals _ _ _ (fun x hx hxd=>?_) Y;have Y:=hf2 hl x hx hxd
     have hne:x.k≠i:=fun e=>by
      rw[e] at Y;have:=(mem_ready.1 hi).1;rw[getD_both this] at Y;cases Y
     exact(if_neg hne).symm
 · intro k hk
   have hki:k≠i:=fun e=>by rw[e,dK his] at hk;cases hk
   rw[getD_set_ne false (Ne.symm hki)] at hk;refine(h.calm k hk).trans ?_;rcases hX with h | ⟨p,hp,hpi,h⟩
   · exact Grw.of_below h
   · exact h.weaken (fun x o ho=>⟨p,hp,by rw[hpi];exact Ne.symm hki,ho⟩)
theorem ry (hB:jj ops fl n N (nds.map fun d=>(d.k,d.deps))=true) (hN:N=a.tmps.size) (htl:∀j,tail[j]? = ops[n+j]?) (htn:tail.length=ops.size-n)
 (hrest:afin.tmps.size=a.tmps.size∧afin.defers=a.defers) (hslot:∀t,(∀j,j<n→ca fl j=false→aC ops j≠some t)→afin.tmps[t]? = a.tmps[t]?)
 (hdet:∀j o,j<n→ca fl j=false→ops[j]? = some o→AQ P ops (Grw (lV sts) w) (fun t=>if (∃j,j<n∧ca fl j=false∧aC ops j=some t) then afin.tmps[t]? else a.tmps[t]?) afin o)
 (hnd:rW P ops sts w Q tail nds afin []) :
 ∀(f:Nat) (listed:Array Bool) (b:Act) (X:World) (vals:Nat→Value),((List.range n).filter fun j=>!listed.getD j true).length=f→FlowInv ops sts w fl n nds a afin listed b X vals→wpAny P .any ops Q (f+(ops.size-n)) listed b X:=by
 unfold jj at hB;simp only[Bool.and_eq_true,decide_eq_true_eq] at hB;obtain⟨⟨⟨⟨⟨⟨⟨⟨⟨hsel,hn⟩,hs⟩,hc⟩,hseq⟩,hh⟩,hfl⟩,hks⟩,hndB⟩,hdB0⟩:=hB
 have hdB:∀e∈nds,∀j∈e.deps,j<n:=fun e he j hj=>by
  have:=List.all_eq_true.1 (List.all_eq_true.1 hdB0 (e.k,e.deps) (List.mem_map.2 ⟨e,he,rfl⟩)) j hj
  simpa using this
 have hspec:=kQ nds [] hndB
 have hstab:∀pre e suf,nds=pre ++ e::suf→∀vals,((∀v X X',e.R (aF ops vals pre afin) v X→Below X.heap.size X X'→e.R (aF ops vals pre afin) v X')∧(∀p∈sts,p.1≠e.k→p.1∉e.deps→∀v X X',e.R (aF ops vals pre afin) v X→Grw p.2 X X'→e.R (aF ops vals pre afin) v X')∧(∀g' v X,(∀j∈e.deps,∀t,aC ops j=some t→g'.tmps[t]? = (aF ops vals pre afin).tmps[t]?)→e.R (aF ops vals pre afin) v X→e.R g' v X)):=fun pre e suf hps vals=>
  ((fQ nds afin _ hnd vals).1 pre e suf hps).1
 have hlt:∀e∈nds,e.k<n:=fun e he=>by
  obtain⟨pre,suf,hps⟩:=List.append_of_mem he;exact(hspec pre e suf hps).1
 have hchk:∀i,i<n→∃o,ops[i]? = some o∧(∀d,o.dst=some d→d<a.tmps.size∧(∀j,j<n→j≠i→aC ops j≠some d))∧(∀e∈o.after,Region.binds .any e=true→e.on<i) ∧
  (∀t∈o.looksAt ops,∀j,j<n→aC ops j=some t→j<i∧Region.waitsFor .any ops i j=true∧(ca fl i=false→ca fl j=false))∧(ca fl i=true→o.guard=none):=fun i hi=>by
  have h1:=List.all_eq_true.1 hh i (List.mem_range.2 hi)
  cases ho:ops[i]? with
  | none=>rw[ho] at h1;cases h1
  | some o=>
   rw[ho] at h1;simp only[Bool.and_eq_true] at h1;obtain⟨⟨⟨c1,c2⟩,c3⟩,c4⟩:=h1
   · refine⟨o,rfl,fun d hd=>?_,fun e he hb=>?_,fun t ht j hj hjt=>?_,fun hnd=>?_⟩
     · rw[hd] at c1
       simp only[Bool.and_eq_true,decide_eq_true_eq] at c1;refine⟨by rw[←hN];exact c1.1,fun j hj hne e=>?_⟩;have:=List.all_eq_true.1 c1.2 j (List.mem_range.2 hj);simp[hne,e] at this
     · have:=Array.all_eq_true_iff_forall_mem.1 c2 e he
       simpa [hb] using this
     · have:=List.all_eq_true.1 (List.all_eq_true.1 c3 t ht) j (List.mem_range.2 hj)
       simp only[hjt,bne_self_eq_false,Bool.false_or,Bool.and_eq_true,decide_eq_true_eq,Bool.or_eq_true,Bool.not_eq_true'] at this;exact⟨this.1.1,this.1.2,fun hni=>this.2.resolve_left (by rw[hni];decide)⟩
     · rw[hnd] at c4
       simpa using c4
 intro f
 induction f with
 | zero=>
  intro listed b X vals hcnt inv
  have hall:∀i,i<n→listed.getD i true=true:=fun i hi=>by
   cases hl:listed.getD i true with
   | true=>rfl
   | false=>
    have:i∈(List.range n).filter fun j=>!listed.getD j true:=List.mem_filter.2 ⟨List.mem_range.2 hi,by rw[hl];rfl⟩;rw[List.length_eq_zero_iff.1 hcnt] at this
    cases this
  have hall':∀i,i<n→listed.getD i false=true:=fun i hi=>j4 (by rw[inv.head.size];omega) (by rw[hall i hi];decide)
  have hli:listed=dG ops.size n:=by
   apply Array.ext
   · rw[inv.head.size];simp[dG]
   · intro i h1 h2
     have e2:(dG ops.size n)[i]=decide (i<n):=by simp[dG]
     rw[e2];by_cases hi:i<n
     · have:=hall i hi
       simp[h1] at this;rw[this];simp[hi]
     · have:=inv.head.tail i ab (by rw[←inv.head.size];exact h1)
       simp[h1] at this;rw[this];simp[hi]
  have hb:b=aF ops vals nds afin:=by
   obtain⟨s1,s2⟩:=iz (ops:=ops) vals nds afin
   have ht:b.tmps=(aF ops vals nds afin).tmps:=by
    apply Array.ext_getElem?;intro t;by_cases hex:∃j,j<n∧aC ops j=some t
    · obtain⟨j,hj,hjt⟩:=hex
      obtain⟨o,ho,hdst,_⟩:=hchk j hj
      have hdj:o.dst=some t:=by
       have:aC ops j=o.dst:=by unfold aC;rw[ho];rfl
       rw[←this];exact hjt
      obtain⟨hdN,huniq⟩:=hdst t hdj;obtain⟨d,rfl⟩:∃d,d=t:=⟨t,rfl⟩;rw[inv.done j d hj hjt (hall' j hj)]
      have hu:∀e∈nds,aC ops e.k=some d→e.k=j:=fun e he hed=>by
       rcases Nat.decEq e.k j with hne | heq
       · exact absurd hed (huniq e.k (hlt e he) hne)
       · exact heq
      cases hndj:ca fl j with
      | true=>
       rw[if_pos rfl];have hmem:=List.all_eq_true.1 hks j (List.mem_range.2 hj);rw[hndj] at hmem;simp only[Bool.not_true,Bool.false_or,List.contains_iff_mem,List.map_map] at hmem;obtain⟨e,he,hek⟩:=List.mem_map.1 hmem;rw[gr vals d j nds afin (by rw[hrest.1];exact hdN) ⟨e,he,hek⟩ hjt hu]
      | false=>
       rw[if_neg aq,dc vals d nds afin (fun e he hed=>by
        have:=hu e he hed;obtain⟨pre,suf,hps⟩:=List.append_of_mem he;have Y:=(hspec pre e suf hps).2.1
        rw[this,hndj] at Y;cases Y)]
    · rw[inv.rest t (fun j hj hjt=>absurd ⟨j,hj,hjt⟩ hex),dc vals t nds afin (fun e he hed=>hex ⟨e.k,hlt e he,hed⟩),hslot t (fun j hj _ hjt=>hex ⟨j,hj,hjt⟩)]
   have hdf:b.defers=(aF ops vals nds afin).defers:=by rw[inv.defers,s2,hrest.2]
   cases b with
   | mk bt bd=>cases hp:aF ops vals nds afin with
    | mk pt pd=>rw[hp] at ht hdf;simp at ht hdf;rw[ht,hdf]
  rw[hli,hb,Nat.zero_add,←htn];refine wpAny_of_seq tail n _ _ X htl (by rw[htn];exact hseq) ?_;exact(fQ nds afin _ hnd vals).2 X inv.below trivial (fun p2 e s2 he=>inv.facts p2 e s2 he (hall' e.k (hlt e (by rw[he];simp))))
 | succ f ih=>
  intro listed b X vals hcnt inv
  have hex:∃i,i<n∧listed.getD i true=false:=by
   cases hl:(List.range n).filter fun j=>!listed.getD j true with
   | nil=>rw[hl] at hcnt;simp at hcnt
   | cons i _=>
    have:i∈(List.range n).filter fun j=>!listed.getD j true:=by rw[hl];simp
    obtain⟨h1,h2⟩:=List.mem_filter.1 this;exact⟨i,List.mem_range.1 h1,by simpa using h2⟩
  have hready:∃i,i∈Region.ready .any ops listed:=by
   obtain⟨i,hin,hun⟩:=hex
   have aux:∀m,m<n→listed.getD m true=false→∃i,i∈Region.ready .any ops listed:=by
    intro m
    induction m using Nat.strongRecOn with
    | _ m ihm=>
     intro hm hun;obtain⟨o,ho,_,haf,_⟩:=hchk m hm;by_cases hall:∀e∈o.after,Region.binds .any e=true→listed.getD e.on false=true
     · exact⟨m,mem_ready.2 ⟨hun,o,ho,hall⟩⟩
     · obtain⟨e,he⟩:=Classical.not_forall.1 hall
       obtain⟨he1,he2⟩:=Classical.not_imp.1 he;obtain⟨hb,he3⟩:=Classical.not_imp.1 he2;have hlt:=haf e he1 hb;refine ihm e.on hlt ab (getD_in (by rw[inv.head.size];omega) (by simpa using he3))
   exact aux i hin hun
  obtain⟨i0,hi0n,hi0u⟩:=hex;rw[Nat.succ_add];refine⟨fun h0=>(by obtain⟨i,hi⟩:=hready;rw[h0] at hi;cases hi),fun i hi=>?_⟩;have hin:i<n:=Nat.lt_of_not_le fun h=>tail_waits hs hc hn inv.head _ i0 rfl hi0n hi0u i h hi;obtain⟨o,ho,hdst,haf,hlook,hgd⟩:=hchk i hin;obtain⟨hun,o',ho',hallr⟩:=mem_ready.1 hi;obtain rfl:o'=o:=Option.some.inj (ho'.symm.trans ho)
  have hcnt':((List.range n).filter fun j=>!(listed.setIfInBounds i true).getD j true).length=f:=by
   have:=count_set n i listed hun n;rw[if_pos hin,hcnt] at this;omega
  have hwaits:∀j,Region.waitsFor .any ops i j=true→listed.getD j false=true:=fun j hj=>by
   obtain⟨o2,ho2,e,he,hb,hon⟩:=Region.waitsFor_spec hj;obtain rfl:o2=o':=Option.some.inj (ho2.symm.trans ho);rw[←hon];exact hallr e he hb
  have hdep:∀pre e suf,nds=pre ++ e::suf→(∀vals vals' v X,(∀x∈pre,x.k∈e.deps→vals x.k=vals' x.k)→e.R (aF ops vals pre afin) v X→e.R (aF ops vals' pre afin) v X)∧(listed.getD e.k false=true→∀x∈pre,x.k∈e.deps→listed.getD x.k false=true):=fun pre e suf hps=>by
   refine⟨fun vals vals' v X hv hR=>(hstab pre e suf hps vals).2.2 _ v X (fun j hj t ht=>?_) hR,fun hl x hx hxd=>?_⟩
   · refine(kR vals vals' t pre afin afin rfl rfl (fun x hx hxt=>?_)).symm
     have hxn:=hlt x (by rw[hps];simp[hx]);obtain⟨ox,hox,hdx,_⟩:=hchk x.k hxn;by_cases hjx:x.k=j
     · exact hv x hx (by rw[hjx];exact hj)
     · have hjn:j<n:=by
        rcases Nat.lt_or_ge j n with h | h
        · exact h
        · exfalso
          have hdx2:ox.dst=some t:=by
           have:aC ops x.k=ox.dst:=by unfold aC;rw[hox];rfl
           rw[←this];exact hxt
          have Y:=hdB e (by rw[hps];simp) j hj;omega
       have hdx2:ox.dst=some t:=by
        have:aC ops x.k=ox.dst:=by unfold aC;rw[hox];rfl
        rw[←this];exact hxt
       exact absurd ht ((hdx t hdx2).2 j hjn (fun e=>hjx e.symm))
   · obtain⟨hk,_,hp,_⟩:=hspec pre e suf hps
     obtain⟨oe,hoe,_⟩:=hchk e.k hk;exact da inv.head 4 e.k x.k oe hoe (fun e2 he2 hb2=>inv.head.closed e.k oe hoe hl e2 he2 hb2) ((hp x.k (by simp;exact⟨x,hx,rfl⟩)).2 hxd)
  have hpreK:∀pre e suf,nds=pre ++ e::suf→e.k=i→∀x∈pre,x.k≠i:=fun pre e suf hps hek x hx=>by
   have:=((hspec pre e suf hps).2.2.1 x.k (by simp;exact⟨x,hx,rfl⟩)).1;omega
  unfold wpOp;simp only[ho]
  cases hndi:ca fl i with
  | false=>
   obtain⟨g,d,v,hg,hd,hfin,hy⟩:=hdet i o' hin hndi ho
   have hsame:∀t∈o'.looksAt ops,b.tmps[t]? = g.tmps[t]?:=fun t ht=>by
    rw[hg t ht];by_cases hex:∃j,j<n∧aC ops j=some t
    · obtain⟨j,hj,hjt⟩:=hex
      obtain⟨_,hw,hnj⟩:=hlook t ht j hj hjt;have hnj':=hnj hndi;show _=if _ then _ else _;rw[if_pos ⟨j,hj,hnj',hjt⟩,inv.done j t hj hjt (hwaits j hw),hnj']
      rfl
    · show _=if _ then _ else _
      rw[if_neg (fun ⟨j,hj,_,hjt⟩=>hex ⟨j,hj,hjt⟩)];exact inv.rest t (fun j hj hjt=>absurd ⟨j,hj,hjt⟩ hex)
   have hy':YieldsC P ops (Grw (lV sts) w) o' v b:=hy.of_same (ja (Region.noSelect_spec hsel i o' · · ho) hsame) (lJ hsame)
   have hgo:∀X',Below X.heap.size X X'→wpAny P .any ops Q (f+(ops.size-n)) (listed.setIfInBounds i true) (b.put o'.dst v) X':=fun X' hX'=>
    ih _ _ _ _ hcnt' (inv.step hi hin ho hdst (.inl hX') (fun pre e suf hps _ _ vals v hR=>(hstab pre e suf hps vals).1 v _ _ hR hX') hdep (fun d2 hd2 _=>by rw[hd] at hd2;rw[←Option.some.inj hd2];exact hfin) (fun pre e suf hps hek=>by
     have Y:=(hspec pre e suf hps).2.1
     rw[hek,hndi] at Y;cases Y) hpreK)
   rcases hy' with ⟨hw,hv⟩ | ⟨hw,rfl⟩
   · rw[if_pos hw]
     refine .inl ?_;unfold Oper.wp;have Y:=hv X inv.below;generalize (execOp b.eval o').run P X=r at *
     cases r with
     | ok nx w'=>
      cases nx<;>simp only[Oper.quietUpon] at Y<;>simp only[Oper.upon]
      case value u=>
       obtain⟨e1,e2⟩:=Y;rw[e1,e2];exact hgo _ (Below.refl _ _)
      case skip=>
       obtain⟨e1,e2⟩:=Y;rw[e1,←e2];exact hgo _ (Below.refl _ _)
      case enter f args=>
       obtain⟨e1,hcl⟩:=Y;rw[e1]
       exact hcl.mono fun e w'' ⟨he,hw''⟩=>by subst he;exact hgo _ hw''
     | halt x w'=>simp only[Oper.quietUpon] at Y
   · rw[hw,if_neg aq]
     exact hgo X (Below.refl _ _)
  | true=>
   have hmem:=List.all_eq_true.1 hks i (List.mem_range.2 hin);rw[hndi] at hmem;simp only[Bool.not_true,Bool.false_or,List.contains_iff_mem,List.map_map] at hmem;obtain⟨e,he,hek⟩:=List.mem_map.1 hmem;replace hek:e.k=i:=hek;obtain⟨pre,suf,hps⟩:=List.append_of_mem he;obtain⟨_,_,hpre,_⟩:=hspec pre e suf hps
   have hobl:=((fQ nds afin _ hnd vals).1 pre e suf hps).2 o' (by rw[hek];exact ho) X (by rw[hek];exact inv.calm i (getD_both hun)) trivial (fun p2 x s2 hx hxd=>by
    have hx2:=(hpre x.k (by rw[hx];simp)).2 hxd;rw[hek] at hx2
    exact inv.facts p2 x (s2 ++ e::suf) (by rw[hps,hx];simp) (da inv.head 4 i x.k o' ho hallr hx2))
   have hprelt:∀x∈pre,x.k<i:=fun x hx=>by
    have:=(hpre x.k (by simp;exact⟨x,hx,rfl⟩)).1;rw[hek] at this;exact this
   have hsame:∀t∈o'.looksAt ops,b.tmps[t]? = (aF ops vals pre afin).tmps[t]?:=fun t ht=>by
    by_cases hex:∃j,j<n∧aC ops j=some t
    · obtain⟨j,hj,hjt⟩:=hex
      obtain⟨hji,hw,_⟩:=hlook t ht j hj hjt;obtain⟨oj,hoj,hdstj,_⟩:=hchk j hj
      have hdj:oj.dst=some t:=by
       have:aC ops j=oj.dst:=by unfold aC;rw[hoj];rfl
       rw[←this];exact hjt
      obtain⟨hdjN,huj⟩:=hdstj t hdj;obtain⟨dj,rfl⟩:∃d,d=t:=⟨t,rfl⟩
      have hu:∀x∈pre,aC ops x.k=some dj→x.k=j:=fun x hx hxd=>by
       rcases Nat.decEq x.k j with hne | heq
       · exact absurd hxd (huj x.k (hlt x (by rw[hps];simp[hx])) hne)
       · exact heq
      rw[inv.done j dj hj hjt (hwaits j hw)]
      cases hndj:ca fl j with
      | true=>
       rw[if_pos rfl];have hmem:=List.all_eq_true.1 hks j (List.mem_range.2 hj);rw[hndj] at hmem;simp only[Bool.not_true,Bool.false_or,List.contains_iff_mem,List.map_map] at hmem;obtain⟨x,hx,hxk⟩:=List.mem_map.1 hmem;replace hxk:x.k=j:=hxk
       have hxpre:x∈pre:=by
        rw[hps] at hx;rcases List.mem_append.1 hx with hx | hx
        · exact hx
        · rcases List.mem_cons.1 hx with rfl | hx
          · omega
          · obtain⟨p2,s2,hp2⟩:=List.append_of_mem hx
            have:=((hspec (pre ++ e::p2) x s2 (by rw[hps,hp2];simp)).2.2.1 e.k a7).1;omega
       rw[gr vals dj j pre afin (by rw[hrest.1];exact hdjN) ⟨x,hxpre,hxk⟩ hjt hu]
      | false=>
       rw[if_neg aq,dc vals dj pre afin (fun x hx hxd=>by
        have h6:=hu x hx hxd;obtain⟨p2,s2,hp2⟩:=List.append_of_mem hx;have Y:=(hspec p2 x (s2 ++ e::suf) (by rw[hps,hp2];simp)).2.1
        rw[h6,hndj] at Y;cases Y)]
    · rw[inv.rest t (fun j hj hjt=>absurd ⟨j,hj,hjt⟩ hex),dc vals t pre afin (fun x hx hxd=>hex ⟨x.k,hlt x (by rw[hps];simp[hx]),hxd⟩),hslot t (fun j hj _ hjt=>hex ⟨j,hj,hjt⟩)]
   rw[←ja (Region.noSelect_spec hsel i o' · · ho) hsame] at hobl
   have hwant:Region.wanted o' (yielded ops b.tmps)=true:=by unfold Region.wanted;rw[hgd hndi]
   have huk:∀x∈nds,x.k=i→x=e∨x.k=i:=fun x _ h=>.inr h
   have hone:∀x∈nds,x.k=i→x=e:=fun x hx hxi=>by
    rw[hps] at hx;rcases List.mem_append.1 hx with hx | hx
    · have:=hprelt x hx;omega
    · rcases List.mem_cons.1 hx with rfl | hx
      · rfl
      · obtain⟨p2,s2,hp2⟩:=List.append_of_mem hx
        have:=((hspec (pre ++ e::p2) x s2 (by rw[hps,hp2];simp)).2.2.1 e.k a7).1;omega
   have huniqp:∀p2 x s2,nds=p2 ++ x::s2→x.k=i→p2=pre∧x=e:=fun p2 x s2 hx hxi=>by
    have hxe:x=e:=hone x (by rw[hx];simp) hxi;subst hxe;refine⟨?_,rfl⟩
    have hnot:∀(l1 l2 s1 s2:List NdB),l1 ++ x::s1=l2 ++ x::s2→(∀y∈l1,y.k≠i)→(∀y∈l2,y.k≠i)→l1=l2:=by
     intro l1
     induction l1 with
     | nil=>
      intro l2 s1 s2 h _ h2
      cases l2 with
      | nil=>rfl
      | cons y l2=>
       simp only[List.nil_append,List.cons_append,List.cons.injEq] at h;exact absurd (h.1▸hxi) (h2 y a7)
     | cons y l1 ih=>
      intro l2 s1 s2 h h1 h2
      cases l2 with
      | nil=>
       simp only[List.nil_append,List.cons_append,List.cons.injEq] at h;exact absurd (h.1.symm▸hxi) (h1 y a7)
      | cons z l2=>
       simp only[List.cons_append,List.cons.injEq] at h;rw[h.1,ih l2 s1 s2 h.2 (fun y hy=>h1 y (by simp[hy])) (fun y hy=>h2 y (by simp[hy]))]
    exact hnot p2 pre s2 suf (hx.symm.trans hps) (fun y hy=>hpreK p2 x s2 hx hxi y hy) (fun y hy=>hpreK pre x suf hps hek y hy)
   have hgo:∀v X',CR sts i X X'→e.R (aF ops vals pre afin) v X'→wpAny P .any ops Q (f+(ops.size-n)) (listed.setIfInBounds i true) (b.put o'.dst v) X':=fun v X' hX' hR=>
    ih _ _ _ _ hcnt' (inv.step hi hin ho hdst hX' (fun p2 x s2 hx hxi hxl vals v hR=>by
     rcases hX' with h | ⟨p,hp,hpi,h⟩
     · exact(hstab p2 x s2 hx vals).1 v _ _ hR h
     · exact(hstab p2 x s2 hx vals).2.1 p hp (by rw[hpi];exact Ne.symm hxi) (fun hin=>by
        rw[hpi] at hin;have Y:=(hspec p2 x s2 hx).2.2.2 i hin;rw[List.nil_append] at Y;obtain⟨y,hy,hyi⟩:=List.mem_map.1 Y;have Y:=(hdep p2 x s2 hx).2 hxl y hy (by rw[hyi];exact hin);rw[hyi,getD_both hun] at Y
        cases Y) v _ _ hR h) hdep (fun _ _ h=>by rw[hndi] at h;cases h) (fun p2 x s2 hx hxk=>by obtain⟨rfl,rfl⟩:=huniqp p2 x s2 hx hxk;exact hR) hpreK)
   rw[if_pos hwant];refine .inl ?_;unfold Oper.wp;generalize (execOp b.eval o').run P X=r at *;rw[hek] at hobl
   cases r with
   | ok nx w'=>
    cases nx<;>simp only[gW] at hobl<;>simp only[Oper.upon]
    case value u=>exact hgo _ _ hobl.1 hobl.2
    case skip=>exact hgo _ _ hobl.1 hobl.2
    case enter f args=>
     obtain⟨e1,hcl⟩:=hobl;rw[e1]
     exact hcl.mono fun e w'' ⟨v,he,hw'',hR⟩=>by subst he;exact hgo _ _ hw'' hR
   | halt x w'=>simp only[gW] at hobl
end
theorem lU {id:Nat} {Q:Exit→Act→World→Prop} {a:Act} {w:World} {l:List Oper} (sts:List (Nat × (Nat→Option Obj→Prop))) (fl:List Bool) (nds:List NdB) (hm:P.follows .mixedOrders=true)
 (hB:jj l.toArray fl fl.length a.tmps.size (nds.map fun d=>(d.k,d.deps))=true) (hds:ph (pick fl l) a.tmps.size=true)
 (h:∃afin:Act,(∀X,Grw (lV sts) w X→wpQuiet P l.toArray (fun w'=>∃p:Regrown,w'=grow (redrawn X p.d) p.os) (fun a'=>a'=afin) (pick fl l) a)∧rW P l.toArray sts w Q (l.drop fl.length) nds afin []) :
 (Code.region id l.toArray true).wp P Q a w:=by
 obtain⟨afin,hq,hnd⟩:=h;have hwg:=gJ (C:=Grw (lV sts) w) (Grw.refl _ w) (pick fl l) a hds hq;have hB':=hB;unfold jj at hB';simp only[Bool.and_eq_true,decide_eq_true_eq] at hB';obtain⟨⟨⟨⟨⟨⟨⟨⟨⟨hsel,hn⟩,hs⟩,hc⟩,hseq⟩,hh⟩,_⟩,hks⟩,hndB⟩,_⟩:=hB'
 have hsz:l.toArray.size=l.length:=by simp
 have hrest:=iq _ _ hwg
 have hslot:∀t,(∀j,j<fl.length→ca fl j=false→aC l.toArray j≠some t)→afin.tmps[t]? = a.tmps[t]?:=fun t ht=>by
  refine(gq _ _ ?_ hwg).1.symm
  have aux:∀(fs:List Bool) (l':List Oper) (i:Nat),i+fs.length=fl.length→(∀j,fs[j]? = fl[i+j]?)→(∀j,l'[j]? = l.toArray[i+j]?)→∀o∈pick fs l',o.dst≠some t:=by
   intro fs
   induction fs with
   | nil=>intro l' i _ _ _ o ho;cases l'<;>simp[pick] at ho
   | cons b fs ih=>
    intro l' i hlen hfs hl' o ho
    cases l' with
    | nil=>cases b<;>simp[pick] at ho
    | cons x l'=>
     have hx:l.toArray[i]? = some x:=by have:=hl' 0;rw[Nat.add_zero] at this;rw[←this];rfl
     have hb:ca fl i=b:=by have:=hfs 0;rw[Nat.add_zero] at this;unfold ca;rw[←this];rfl
     have hfs':∀j,fs[j]? = fl[i+1+j]?:=fun j=>by have:=hfs (j+1);rw[show i+1+j=i+(j+1) by omega,←this];rfl
     have hl'':∀j,l'[j]? = l.toArray[i+1+j]?:=fun j=>by have:=hl' (j+1);rw[show i+1+j=i+(j+1) by omega,←this];rfl
     cases b with
     | true=>exact ih l' (i+1) (by simp at hlen;omega) hfs' hl'' o ho
     | false=>
      rcases List.mem_cons.1 ho with rfl | ho
      · intro e
        exact ht i (by simp at hlen;omega) hb (by unfold aC;rw[hx];exact e)
      · exact ih l' (i+1) (by simp at hlen;omega) hfs' hl'' o ho
  exact aux fl l 0 ab (fun j=>by rw[Nat.zero_add]) (fun j=>by rw[Nat.zero_add];simp)
 have hdet:=iW (P:=P) (C:=Grw (lV sts) w) (afin:=afin) hh rfl rfl (Nat.le_of_lt hn) (fun t=>if (∃j,j<fl.length∧ca fl j=false∧aC l.toArray j=some t) then afin.tmps[t]? else a.tmps[t]?)
  (fun j t hj hnj hjt=>if_pos ⟨j,hj,hnj,hjt⟩) (fun t ht=>if_neg (fun ⟨j,hj,hnj,hjt⟩=>ht j hj hnj hjt))
  fl l 0 a ab (fun j=>by rw[Nat.zero_add]) (fun j=>by rw[Nat.zero_add];simp) rfl (fun t ⟨j,hj,_⟩=>absurd hj (Nat.not_lt_zero _)) (fun t _=>rfl) hwg
 refine wp_region_any hm ?_
 have:=ry (P:=P) (w:=w) (Q:=Q) (tail:=l.drop fl.length) (a:=a) (afin:=afin) (sts:=sts) hB rfl (fun j=>by rw[List.getElem?_drop,List.getElem?_toArray]) (by rw[List.length_drop,hsz]) hrest hslot
  (fun j o hj hnj ho=>hdet j o (Nat.zero_le _) hj hnj ho) hnd fl.length (Array.replicate l.toArray.size false) a { w with drawn:=w.drawn+1 } (fun _=>undef)
  (by
   rw[List.filter_eq_self.2 (fun j hj=>by
    have hj':j<l.toArray.size:=by have:=List.mem_range.1 hj;omega
    rw[getD_in (by rw[Array.size_replicate];exact hj') (getD_replicate_false _ _)];rfl)]
   simp)
  ⟨(Grw.refl _ w).drew,⟨by simp,fun j oj _ hl=>(by rw[getD_replicate_false] at hl;cases hl),fun t _ ht=>getD_in (by simpa using ht) (getD_replicate_false _ _)⟩,rfl,rfl,
   fun i d _ _ hl=>(by rw[getD_replicate_false] at hl;cases hl),fun t _=>rfl,fun pre d suf _ hl=>(by rw[getD_replicate_false] at hl;cases hl),fun k _=>(Grw.refl _ w).drew⟩
 rw[show fl.length+(l.toArray.size-fl.length)=l.toArray.size by omega] at this;exact this
end
theorem zH {w X:World} (hX:Below w.heap.size w X):∀d os b o,b<w.heap.size→(grow (redrawn X d) os).cell? ⟨b,o,none⟩=w.cell? ⟨b,o,none⟩:=fun d os b o h=>
 ((below_regrown X d os).cell (p:=⟨b,o,none⟩) (Nat.lt_of_lt_of_le h hX.size)).trans (hX.cell (p:=⟨b,o,none⟩) h)
end Go.Proofs.YtcfdpfmchchkaaaGreatDoor
