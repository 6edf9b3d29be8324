/- Chapter 22 -/
import Derived.Test.YtcfdpfmchchkaaaGreatDoorRcE
import Derived.Shelf.SlSortCmp.NoneTotal
namespace Go.Proofs.YtcfdpfmchchkaaaGreatDoor
set_option maxHeartbeats 1000000
set_option maxRecDepth 4000
set_option linter.unusedVariables false
set_option linter.unusedSimpArgs false
open Go.RowKit Go.Sort Go.Shelf
theorem l0 {α:Type} [Inhabited α] {enc:α→List Value} {k:Nat} (a:∀x,(enc x).length=k) (f:0<k) (d:Array α):(flatK enc k d).toList=d.toList.flatMap enc:=by
 apply List.ext_getElem?;intro t;have c:(flatK enc k d).size=d.size*k:=size_flatK enc k d;by_cases ht:t<d.size*k
 · have b:t / k<d.size:=by rw[Nat.div_lt_iff_lt_mul f];exact ht
   have e:t % k<k:=Nat.mod_lt _ f;have Y:=get_flatK enc k d t ht
   have h:(flatK enc k d).toList[t]? = some (flatK enc k d)[t]!:=by
    rw[Array.getElem?_toList,Array.getElem?_eq_getElem (by rw[c];exact ht),getElem!_pos _ t (by rw[c];exact ht)]
   rw[h,Y]
   have e2:d[t / k]! = d.toList[t / k]'(al b):=by rw[getElem!_pos d _ b];rfl
   have Y:=sZ a d.toList (k:=t / k) (al b) (j:=t % k) (u:=(enc d[t / k]!)[t % k]!) (by
    rw[←e2,List.getElem?_eq_getElem (by rw[a];exact e),getElem!_pos (enc d[t / k]!) (t % k) (by rw[a];exact e)])
   rw[Nat.div_add_mod' t k] at Y;exact Y.symm
 · have g:(d.toList.flatMap enc).length=d.size*k:=by
    rw[jS a d.toList,Array.length_toList,Nat.mul_comm]
   rw[List.getElem?_eq_none (by rw[Array.length_toList,c];omega),List.getElem?_eq_none (by rw[g];omega)]
theorem uY (cur F:Array Value) (h:F.size≤cur.size):(putCells (id:Value→Value) 0 F cur).toList.take F.size=F.toList:=by
 apply List.ext_getElem?;intro j;by_cases a:j<F.size
 · rw[List.getElem?_take_of_lt a,Array.getElem?_toList,Array.getElem?_toList]
   simp[putCells,a,show j<cur.size by omega]
 · rw[List.getElem?_take_eq_none ab,List.getElem?_eq_none (by simp;omega)]
theorem yq {α:Type} [Inhabited α] {d d':Array α} (h:PermIn 0 d.size d d'):d'.toList.Perm d.toList:=by
 obtain⟨a,_,h3⟩:=h
 have b:d.extract 0 d.size=d:=by simp
 have e2:d'.extract 0 d.size=d':=by rw[←a];simp
 rwa [b,e2] at h3
theorem w2 {α:Type} [Inhabited α] {lt:α→α→Bool} {d d':Array α} (e:d'.size=d.size) (h:SortedIn lt 0 d.size d'):d'.toList.Pairwise fun x y=>lt y x=false:=by
 rw[List.pairwise_iff_getElem];intro i j c b a;rw[Array.length_toList] at c b;have:=h i j (Nat.zero_le _) a ab;rw[getElem!_pos d' i c,getElem!_pos d' j b] at this;exact this
theorem wW {α:Type} [Inhabited α] {P:Program} {ρ:Ren} (L:SlLaysF0.n6 P ρ) (k:Nat) (J:0<k) (O:∀w,(isAgg (ρ.t 24)).run P w=.ok true w) (U:∀w,(Go.sizeOf (ρ.t 24)).run P w=.ok k w) (enc:α→List Value) (D:∀x,(enc x).length=k) (R:∀x,∀v∈enc x,v.oneCell'=true) (C:α→α→Int) (Z:SWO (ltOf C)) (g:Nat) (K:Array Value) (T:TypeId) {c:Nat} {A:Option Addr} (xs:List α) (w:World)
 (S:∀args w,(callFunc g args).run P w=.ok (.enter g args) w) (u:∀H off size p,CmpLays P g K enc k C H off size p) (X:w.ownsRow 0 T k (.slice A xs.length c) xs.length (xs.flatMap enc)) (G:xs.length<4611686018427387904) :
 Calls P (ρ.f 6) #[.slice A xs.length c,.func (.func g) #[] K] w fun e p=>∃ys:List α,e=.returned (.tuple #[])∧(ys.Perm xs∧ys.Pairwise (fun x y=>ltOf C y x=false))∧p.ownsRow 0 T k (.slice A xs.length c) xs.length (ys.flatMap enc)∧w.grownBy p (Value.slice A xs.length c).ownBlock:=by
 obtain⟨N,F⟩:=X;rcases F with ⟨I,B⟩ | ⟨b,cap,cur,I,hb0,hb,B,hcap,hcs,htk⟩
 · rw[B]
   refine(AnyF.slices_SortFunc_none L A c _ w).mono ?_
   rintro e p ⟨rfl,rfl⟩
   have hx:xs=[]:=List.eq_nil_of_length_eq_zero B;subst hx
   exact⟨[],rfl,⟨List.Perm.refl _,.nil⟩,by
    injection I with q1 q2 q3;subst q1 q3
    exact World.ownsRow_nil _ _ _ _,⟨rfl,rfl,rfl,Nat.le_refl _,fun _ _ _=>rfl⟩⟩
 · injection I with q1 q2 q3
   subst q1 q3;have r:b<w.heap.size:=(Array.getElem?_eq_some_iff.1 hb).1;have hF:=l0 D J xs.toArray
   have m:(flatK enc k xs.toArray).size=xs.length*k:=by rw[size_flatK];simp
   have Y:HoldsK enc k w b 0 xs.toArray:=by
    intro j o;rw[m] at o;refine⟨?_,by simp[World.frozen?,hb]⟩
    have W:(flatK enc k xs.toArray).toList[j]? = cur.toList[j]?:=by
     rw[hF];show(xs.flatMap enc)[j]? = _;rw[←htk,List.getElem?_take_of_lt o]
    have h3:cur[j]? = some (flatK enc k xs.toArray)[j]!:=by
     rw[←Array.getElem?_toList,←W,Array.getElem?_toList,Array.getElem?_eq_getElem (by rw[m];exact o),getElem!_pos _ j (by rw[m];exact o)]
    rw[cell_of_row _ _ _ cur T (0,0) hb]
    simpa using h3
   have h:=AnyQ.slices_SortFunc L k O U enc D R C Z g K b 0 c xs.toArray w S (u _ _ _ _) Y r (al G)
   have e0:xs.toArray.size=xs.length:=by simp
   rw[e0] at h;refine h.mono ?_
   rintro e p ⟨rfl,d',n,os,M,Q,rfl⟩
   have q:d'.size=xs.length:=by have:=M.1;simpa using this
   have a:(flatK enc k d').size=xs.length*k:=by rw[size_flatK,q]
   have E:=yq (d:=xs.toArray) (d':=d') (by rw[e0];exact M);have s:d'.toList.Perm xs:=al E
   have i:(sortWorldK enc k w b 0 n d' os).heap[b]? = some (.cells (putCells id 0 (flatK enc k d') cur) T (0,0)):=by
    show(grow (putRow id (Sort.ahead w n) b 0 (flatK enc k d')) os).heap[b]? = _;rw[heap_grow_old _ _ (al r)];simp[putRow,mapBlock,Sort.ahead,Array.getElem?_modify,hb,onCells]
   refine⟨d'.toList,rfl,⟨s,w2 (d:=xs.toArray) (by rw[e0];exact q) (by rw[e0];exact Q)⟩,⟨?_,.inr ⟨b,c,_,rfl,hb0,i,B,hcap,by simp[putCells,hcs],?_⟩⟩,?_⟩
   · rw[←l0 D J d',Array.length_toList,a]
   · rw[←l0 D J d',←a]
     exact uY cur _ (by
      rw[a,hcs]
      exact Nat.mul_le_mul_right k B)
   · refine⟨rfl,rfl,rfl,by show _≤(grow (putRow id (Sort.ahead w n) b 0 (flatK enc k d')) os).heap.size;simp,fun j o hne=>?_⟩
     show(grow (putRow id (Sort.ahead w n) b 0 (flatK enc k d')) os).heap[j]? = _;rw[heap_grow_old _ _ (al o)];have:b≠j:=fun e=>hne (by rw[e];rfl);simp[putRow,mapBlock,Sort.ahead,Array.getElem?_modify,this]
abbrev Ii:Type:={ x:Trn // 0≤x.i∧x.i≤100000 }
abbrev Hv:Type:={ x:Dty // 0≤x.g∧x.g≤100000 }
instance:Inhabited Ii:=⟨⟨qD,by decide⟩⟩
instance:Inhabited Hv:=⟨⟨⟨0,false,0⟩,by decide⟩⟩
def Gg (x y:Ii):Int:=x.1.i-y.1.i
def F6 (x y:Hv):Int:=x.1.g-y.1.g
theorem ID:SWO (ltOf Gg) where
 irrefl x:=by unfold ltOf Gg;simp
 trans x y z h1 h2:=by unfold ltOf Gg at *;simp at *;omega
 ntrans x y z h1 h2:=by unfold ltOf Gg at *;simp at *;omega
theorem IA:SWO (ltOf F6) where
 irrefl x:=by unfold ltOf F6;simp
 trans x y z h1 h2:=by unfold ltOf F6 at *;simp at *;omega
 ntrans x y z h1 h2:=by unfold ltOf F6 at *;simp at *;omega
theorem zV (x y:Ii) (W:World):Calls Tryz.prog 197 #[.agg #[.int .i64 x.1.i,.int .i64 x.1.l,.int .i64 x.1.u,.bool x.1.c],.agg #[.int .i64 y.1.i,.int .i64 y.1.l,.int .i64 y.1.u,.bool y.1.c]] W fun e w'=>e=.returned (.int .i64 (Gg x y))∧∃q os',w'=grow (W.drewN q) os':=by
 obtain⟨⟨xi,xl,xu,xc⟩,hx0,hx1⟩:=x;obtain⟨⟨yi,yl,yu,yc⟩,hy0,hy1⟩:=y;unfold Gg
 dsimp only at *
 go_enter Tryz.func197,Tryz.ntmps197
 have x0:0≤xi:=hx0;have x1:xi≤100000:=hx1;have y0:0≤yi:=hy0;have y1:yi≤100000:=hy1;clear hx0 hx1 hy0 hy1
 have hw:wrap64 (xi-yi)=xi-yi:=by unfold wrap64;omega
 go_wp2
 go_ret
 exact⟨rfl,0,_,by rw[alloc_eq_grow,alloc_eq_grow,grow_grow];rfl⟩
theorem Ba (x y:Hv) (W:World):Calls Tryz.prog 199 #[.agg #[.int .i64 x.1.g,.bool x.1.f,.int .i64 x.1.l],.agg #[.int .i64 y.1.g,.bool y.1.f,.int .i64 y.1.l]] W fun e w'=>e=.returned (.int .i64 (F6 x y))∧∃q os',w'=grow (W.drewN q) os':=by
 obtain⟨⟨xi,xl,xu⟩,hx0,hx1⟩:=x;obtain⟨⟨yi,yl,yu⟩,hy0,hy1⟩:=y;unfold F6
 dsimp only at *
 go_enter Tryz.func199,Tryz.ntmps199
 have x0:0≤xi:=hx0;have x1:xi≤100000:=hx1;have y0:0≤yi:=hy0;have y1:yi≤100000:=hy1;clear hx0 hx1 hy0 hy1
 have hw:wrap64 (xi-yi)=xi-yi:=by unfold wrap64;omega
 go_wp2
 go_ret
 exact⟨rfl,0,_,by rw[alloc_eq_grow,alloc_eq_grow,grow_grow];rfl⟩
theorem qY {P:Program} {t:TypeId} {a:Array Field} (h:P.underlying t=some (.struct a)) (w:World):(isAgg t).run P w=.ok true w:=by simp[isAgg,run_underlying h]
theorem oK {P:Program} {t:TypeId} {n:Nat} (h:(P.info? t).map (·.size)=some n) (w:World):(Go.sizeOf t).run P w=.ok n w:=by
 cases hq:P.info? t with
 | none=>rw[hq] at h;cases h
 | some q=>
  rw[hq] at h;have a:q.size=n:=al h;simp[Go.sizeOf,typeInfo,hq,a]
open Go.RowKit Go.Sort Go.Shelf
section
variable {α:Type} {κ:α→Int}
theorem tu {l:List α} (h:l.Pairwise fun x y=>κ x≤κ y) (a:(l.map κ).Nodup):cH κ l:=by
 unfold cH;unfold List.Nodup at a;rw[List.pairwise_map] at a
 exact(h.and a).imp fun ⟨b,c⟩=>by omega
end
theorem CY:∀(xs:List Trn),(∀x∈xs,0≤x.i∧x.i≤100000)→∃zs:List Ii,zs.map (fun z=>z.1)=xs
 | [],_=>⟨[],rfl⟩
 | x::xs,h=>by
  obtain⟨zs,b⟩:=CY xs (fun y a=>h y (List.mem_cons_of_mem _ a));exact⟨⟨x,h x (List.mem_cons_self)⟩::zs,by rw[List.map_cons,b]⟩
theorem CH:∀(xs:List Dty),(∀x∈xs,0≤x.g∧x.g≤100000)→∃zs:List Hv,zs.map (fun z=>z.1)=xs
 | [],_=>⟨[],rfl⟩
 | x::xs,h=>by
  obtain⟨zs,b⟩:=CH xs (fun y a=>h y (List.mem_cons_of_mem _ a));exact⟨⟨x,h x (List.mem_cons_self)⟩::zs,by rw[List.map_cons,b]⟩
theorem zz (s xs:List Trn) (B:cH Trn.i s) (hm:∀x,x∈xs↔x∈s) (k:(xs.map Trn.i).Nodup) (u:∀x∈xs,0≤x.i∧x.i≤100000) (A:Option Addr) (c:Nat) (w:World) (r:w.ownsRow 0 116 4 (.slice A xs.length c) xs.length (xs.flatMap bW)) (E:xs.length≤1000000) :
 Calls Tryz.prog 196 #[.slice A xs.length c,.func (.func 197) #[] #[]] w fun e t=>∃p:Unit,e=.returned (.tuple #[])∧xs.length=s.length∧St (Value.slice A xs.length c).ownBlock.toList w t [.row (.slice A xs.length c) xs.length 116 4 (s.flatMap bW)]:=by
 obtain⟨zs,m⟩:=CY xs u
 have g:zs.length=xs.length:=by rw[←m,List.length_map]
 have n:zs.flatMap (fun z=>bW z.1)=xs.flatMap bW:=by rw[←m,List.flatMap_map]
 have a:=wW Tryz.laySort196 4 au (qY Tryz.underlying116) (oK aa) (fun z:Ii=>bW z.1) (fun z=>bq _) (fun z v D=>wc _ v D) Gg ID 197 #[] 116 (A:=A) (c:=c) zs w
  (enters_of Tryz.func197 aa rfl) (fun _ _ _ _ _ _ _ _ x y=>zV x y _) (by rw[g,n];exact r) ab
 rw[g] at a
 change Calls Tryz.prog 196 _ _ _ at a
 refine a.mono ?_
 rintro e t ⟨ys,rfl,⟨C,o⟩,d,j⟩
 have b:(ys.map fun z=>z.1).Perm xs:=by rw[←m];exact C.map _
 have f:cH Trn.i (ys.map fun z=>z.1):=tu (List.pairwise_map.2 (o.imp fun {x y} h=>by unfold ltOf Gg at h;simp at h;omega)) (((b.map Trn.i).nodup_iff).2 k);have heq:(ys.map fun z=>z.1)=s:=rE f B fun x=>(b.mem_iff).trans (hm x)
 have q:ys.flatMap (fun z=>bW z.1)=s.flatMap bW:=by rw[←heq,List.flatMap_map]
 rw[q] at d;exact⟨(),rfl,by rw[←heq];exact b.length_eq.symm,(St.initO r).sub (List.Sublist.refl _) |>.grown (i:=0) rfl d j (.inl rfl)⟩
theorem Bb (s xs:List Dty) (C:cH Dty.g s) (hm:∀x,x∈xs↔x∈s) (m:(xs.map Dty.g).Nodup) (B:∀x∈xs,0≤x.g∧x.g≤100000) (A:Option Addr) (c:Nat) (w:World) (t:w.ownsRow 0 124 3 (.slice A xs.length c) xs.length (xs.flatMap cN)) (F:xs.length≤1000000) :
 Calls Tryz.prog 198 #[.slice A xs.length c,.func (.func 199) #[] #[]] w fun e u=>∃p:Unit,e=.returned (.tuple #[])∧xs.length=s.length∧St (Value.slice A xs.length c).ownBlock.toList w u [.row (.slice A xs.length c) xs.length 124 3 (s.flatMap cN)]:=by
 obtain⟨zs,n⟩:=CH xs B
 have j:zs.length=xs.length:=by rw[←n,List.length_map]
 have o:zs.flatMap (fun z=>cN z.1)=xs.flatMap cN:=by rw[←n,List.flatMap_map]
 have a:=wW Tryz.laySort198 3 au (qY Tryz.underlying124) (oK aa) (fun z:Hv=>cN z.1) (fun z=>dF _) (fun z v E=>vp _ v E) F6 IA 199 #[] 124 (A:=A) (c:=c) zs w
  (enters_of Tryz.func199 aa rfl) (fun _ _ _ _ _ _ _ _ x y=>Ba x y _) (by rw[j,o];exact t) ab
 rw[j] at a
 change Calls Tryz.prog 198 _ _ _ at a
 refine a.mono ?_
 rintro e u ⟨ys,rfl,⟨D,q⟩,d,k⟩
 have b:(ys.map fun z=>z.1).Perm xs:=by rw[←n];exact D.map _
 have f:cH Dty.g (ys.map fun z=>z.1):=tu (List.pairwise_map.2 (q.imp fun {x y} h=>by unfold ltOf F6 at h;simp at h;omega)) (((b.map Dty.g).nodup_iff).2 m);have heq:(ys.map fun z=>z.1)=s:=rE f C fun x=>(b.mem_iff).trans (hm x)
 have r:ys.flatMap (fun z=>cN z.1)=s.flatMap cN:=by rw[←heq,List.flatMap_map]
 rw[r] at d;exact⟨(),rfl,by rw[←heq];exact b.length_eq.symm,(St.initO t).sub (List.Sublist.refl _) |>.grown (i:=0) rfl d k (.inl rfl)⟩
def rY (e:MapEntry):Int:=match e.key with | .int _ k=>k | _=>0
def El {α:Type} (z:α) (g:Int→Option α) (e:MapEntry):α:=(g (rY e)).getD z
section
variable {α:Type} {κ:α→Int} {V:α→Value} {z:α} {l:List α} {es:Array MapEntry} {ck:Nat}
theorem od (h:MapFn es ck (fun i=>(cF κ l i).map V)) {e:MapEntry} (d:e∈es.toList):cF κ l (rY e)=some (El z (cF κ l) e)∧e.val=V (El z (cF κ l) e)∧e.key=ae (rY e):=by
 obtain⟨k,b,a⟩:=h.key e d
 have c:rY e=k:=by unfold rY;rw[b]
 unfold El;rw[c]
 cases hq:cF κ l k with
 | none=>rw[hq] at a;cases a
 | some y=>
  rw[hq] at a;exact⟨rfl,by injection a with a;exact a.symm,b⟩
theorem D9 (h:MapFn es ck (fun i=>(cF κ l i).map V)) {e:MapEntry} (a:e∈es.toList):κ (El z (cF κ l) e)=rY e:=(gr (od (z:=z) h a).1).2
theorem rH (h:MapFn es ck (fun i=>(cF κ l i).map V)) {seen:Array Nat} {out:List MapEntry} (b:Handed es ck seen out):((out.map (El z (cF κ l))).map κ).Nodup:=by
 have n:=h.st.2.2
 have a:∀e∈es.toList,∀f∈es.toList,rY e=rY f→e=f:=fun e c f hf m=>by
  obtain⟨i,k,rfl⟩:=List.getElem_of_mem c;obtain⟨j,g,rfl⟩:=List.getElem_of_mem hf;have o:=(od (z:=z) h (List.getElem_mem k)).2.2;have e2:=(od (z:=z) h (List.getElem_mem g)).2.2
  have:(es.toList.map (·.key))[i]'(al k)=(es.toList.map (·.key))[j]'(al g):=by
   rw[List.getElem_map,List.getElem_map,o,e2,m]
  have:=(List.getElem_inj n).1 this;subst this;rfl
 have d:=b.nd;unfold List.Nodup at d ⊢;rw[List.pairwise_map] at d;rw[List.pairwise_map,List.pairwise_map];refine d.imp_of_mem fun {e f} c hf hne heq=>hne ?_;rw[D9 h (b.sub e c),D9 h (b.sub f hf)] at heq;rw[a e (b.sub e c) f (b.sub f hf) heq]
theorem BX (h:MapFn es ck (fun i=>(cF κ l i).map V)) {seen:Array Nat} {out:List MapEntry} (b:Handed es ck seen out):∀x∈out.map (El z (cF κ l)),x∈l:=fun x hx=>by
 obtain⟨e,a,rfl⟩:=List.mem_map.1 hx;exact(gr (od h (b.sub e a)).1).1
theorem Du (h:MapFn es ck (fun i=>(cF κ l i).map V)) (a:cH κ l) {seen:Array Nat} {out:List MapEntry} (f:Handed es ck seen out) (g:∀e∈es.toList,e∈out):∀x,x∈out.map (El z (cF κ l))↔x∈l:=fun x=>⟨BX h f x,fun hx=>by
 obtain⟨e,d,b,j⟩:=h.all (κ x) (V x) (by rw[iD a hx];rfl)
 have c:rY e=κ x:=by unfold rY;rw[b]
 refine List.mem_map.2 ⟨e,g e d,?_⟩;unfold El
 rw[c,iD a hx];rfl⟩
theorem tN (z:α) (h:MapFn es ck (fun i=>(cF κ l i).map V)) {seen:Array Nat} {out:List MapEntry} (b:Handed es ck seen out):out.length≤l.length:=by
 have a:=rH (z:=z) h b
 have c:=yE (out.map (El z (cF κ l))) l (by
  unfold List.Nodup at a ⊢;rw[List.pairwise_map] at a
  exact a.imp fun h e=>h (by rw[e])) (BX (z:=z) h b)
 rwa [List.length_map] at c
end
open Go.RowKit Go.Sort Go.Shelf
theorem tK {w X:World} {m:Nat} {o:Obj} (a:Below w.heap.size w X) (h:w.heap[m]? = some o):X.heap[m]? = some o:=(a.block m (Array.getElem?_eq_some_iff.1 h).1).trans h
structure BdTbl (t:Tbl):Prop where
 ts:∀x∈t.ts,0≤x.i∧x.i≤100000
 ds:∀x∈t.ds,0≤x.g∧x.g≤100000
 lt:t.ts.length≤100000
 ld:t.ds.length≤100000
theorem wR (t:Tbl) (bt E m2:Nat) (w:World) (hB:Box w bt #[.map (some E),.map (some m2)] 228) (Vg:MapF w E (rT (fp t.ts))) (Vf:MapF w m2 (sq (ey t.ds))) (hs:SrtT t) (O:BdTbl t) :
 Calls Tryz.prog 131 #[.pointer (some ⟨bt,0,none⟩)] w fun e w'=>∃i:Option Addr × Nat × Option Addr × Nat,e=.returned (cc t i.1 i.2.1 i.2.2.1 i.2.2.2) ∧
  St [] w w' [.row (.slice i.1 t.ts.length i.2.1) t.ts.length 116 4 (t.ts.flatMap bW),.row (.slice i.2.2.1 t.ds.length i.2.2.2) t.ds.length 124 3 (t.ds.flatMap cN)]:=by
 obtain⟨J,a,A,f⟩:=Vg;obtain⟨y,c,M,d⟩:=Vf;obtain⟨I,K⟩:∃I:MapEntry→Trn,I=El qD (fp t.ts):=⟨_,rfl⟩;obtain⟨F,L⟩:∃F:MapEntry→Dty,F=El ⟨0,false,0⟩ (ey t.ds):=⟨_,rfl⟩;refine an (N:=45) Tryz.func131 rfl rfl rfl (fun _ Y=>?_);have Z:=St.init w;refine aj (aq ?_);refine na (.agg gV) Y rfl Z fun b2 _ _ Zj Y Z=>rV ?_;refine na (.agg gV) Y rfl Z fun P _ _ Zk Y Z=>GO 7 ?_;intro _ Y;refine sv Y (fy 0 (Y.ev rfl)) fun _ Y=>?_;refine sv Y (lx (Y.ev rfl) ((hB.below Z.below).cells 0)) fun _ Y=>?_;refine ti (m:=E) (es:=J) (clock:=a) Y (wn rfl) rfl rfl rfl rG (Y.ev rfl) Z (tK Z.below A) fun j _ _ Vy Y Z=>?_;replace Z:=St.nilRow Z 116 4;refine ag (ai (wp_block ?_));refine aV Y Z [12,3,2,0] (fun (q:List MapEntry × Array Nat × Option Addr × Nat)=>[]) (fun (q:List MapEntry × Array Nat × Option Addr × Nat)=>Handed J a q.2.1 q.1) (fun q _=>[.row (.slice q.2.2.1 q.1.length q.2.2.2) q.1.length 116 4 ((q.1.map I).flatMap bW),kv j E a q.2.1 a,.box P #[.slice q.2.2.1 q.1.length q.2.2.2,.slice none 0 0] 25,.box b2 #[.slice none 0 0,.slice none 0 0] 25]) (fun (q:List MapEntry × Array Nat × Option Addr × Nat)=>t.ts.length-q.1.length) (([],#[],none,0)) (Handed.nil J a) bC (Z) ?_;intro q _ _ Zc Y Z;refine aj (aq ?_);refine w6 (out:=q.1) Y (wn rfl) rfl rfl rfl (Y.ev rfl) Z (i:=1) rfl (tK Z.below A) f.st ⟨rfl,Nat.le_refl _⟩ Zc fun Va _ X9 Y S R Z Vo=>sv Y (C4 (Y.ev rfl)) fun _ Y=>?_;refine ag (ai (aj ?_));refine ak (Y.ev rfl) (fun Ze=>?_) (fun Ze=>?_)
 ·
  obtain⟨h,rfl⟩:=Option.isSome_iff_exists.1 Ze;obtain⟨r,Jz⟩:=R h rfl;have H:=tN (κ:=Trn.i) (V:=eX) qD f Jz;rw[List.length_append,List.length_singleton] at H
  have Vx:(q.1 ++ [h]).length=q.1.length+1:=by rw[List.length_append];rfl
  have Vc:=O.lt;have Vj:=O.ld;refine wp_skip (ai (wp_block (aj (aq ?_))));refine sv Y (sI (Y.ev rfl) (Z.at_ (i:=1) rfl) (tK Z.below A) r f.st) fun _ Y=>?_;refine sv Y (aA (v':=eX (I h)) (by rw[K];exact(od (κ:=Trn.i) (V:=eX) (z:=qD) f r).2.1) (bN (Y.ev rfl) rfl)) fun _ Y=>?_;refine na (.agg lZ) Y rfl Z fun b5 _ _ Zl Y Z=>sw Y Z 0 fun _ Z=>?_;refine GO 5 ?_;intro _ Y;refine sv (v:=eX (I h)) Y (ah aa aa (Y.ev rfl) (Z.cellsAll (i:=0) rfl)) fun _ Y=>?_;refine dc (zc:=oJ) (sz:=4) Y (wn rfl) ⟨rfl,rfl⟩ rfl dT aa aa rfl rfl rfl (Y.evs2 rfl) rfl rfl rfl Z fun Vp _ _ Zg Y Z=>bS (z:=.agg lZ) (sz:=4) (bytes:=32) Y (wn rfl) ⟨rfl,rfl⟩ rfl dT aa rfl rfl (Y.ev rfl) (Y.ev rfl) Z (i:=2) rfl (Z.boxRd (i:=0) rfl) rfl (List.all_eq_true.1 rfl) ⟨ab,by decide⟩ fun Ve Vk _ _ Y Z=>?_;refine GO 1 ?_;intro _ Y;refine aS Y (wn rfl) ⟨rfl,rfl⟩ (Y.ev rfl) (Y.ev rfl) rfl aa Z (i:=4) rfl rfl rfl fun _ Z=>ag (eC (ai ?_));exact⟨(q.1 ++ [h],q.2.1.push h.born,Ve,Vk),(by show t.ts.length-(q.1 ++ [h]).length<_;omega),Jz,Y.re bC,(by show St [] w _ [.row (.slice _ (q.1 ++ [h]).length _) (q.1 ++ [h]).length _ _ (((q.1 ++ [h]).map I).flatMap bW),_,.box P #[.slice _ (q.1 ++ [h]).length _,_] _,_];rw[List.length_append,List.map_append,List.flatMap_append];exact(Z.sub (aB 60)))⟩
 ·
  obtain rfl:Va=none:=by cases Va with | none=>rfl | some e=>cases Ze
  have D:=S rfl;obtain⟨p,b,u,c1⟩:=q;obtain⟨xs,n⟩:∃xs,xs=p.map I:=⟨_,rfl⟩
  have W:p.length=xs.length:=by rw[n,List.length_map]
  have U:∀x,x∈xs↔x∈t.ts:=by rw[n,K];exact Du (κ:=Trn.i) (V:=eX) f hs.ts Zc D
  have Vi:(xs.map Trn.i).Nodup:=by rw[n,K];exact rH (κ:=Trn.i) (V:=eX) f Zc
  have Vt:xs.length≤t.ts.length:=by rw[←W];exact tN (κ:=Trn.i) (V:=eX) qD f Zc
  have Vh:∀x∈xs,0≤x.i∧x.i≤100000:=fun x hx=>O.ts x ((U x).1 hx);have Vc:=O.lt;have Vj:=O.ld
  replace Z:St [] w X9 [.row (.slice u xs.length c1) xs.length 116 4 (xs.flatMap bW),kv j E a b a,.box P #[.slice u xs.length c1,.slice none 0 0] 25,.box b2 #[.slice none 0 0,.slice none 0 0] 25]:=by rw[←W,n];exact Z
  refine GO 10 ?_;intro _ Y;refine sv Y (fy 1 (Y.ev rfl)) fun _ Y=>?_;refine sv Y (lx (Y.ev rfl) ((hB.below Z.below).cells 1)) fun _ Y=>?_;refine ti (m:=m2) (es:=y) (clock:=c) Y (wn rfl) rfl rfl rfl qA (Y.ev rfl) Z (tK Z.below M) fun Jv _ _ Vq Y Z=>?_;replace Z:=St.nilRow Z 124 3;refine ag (ai (wp_block ?_));refine aV Y Z [27,3,2] (fun (q:List MapEntry × Array Nat × Option Addr × Nat)=>[]) (fun (q:List MapEntry × Array Nat × Option Addr × Nat)=>Handed y c q.2.1 q.1) (fun q _=>[.row (.slice q.2.2.1 q.1.length q.2.2.2) q.1.length 124 3 ((q.1.map F).flatMap cN),kv Jv m2 c q.2.1 c,.row (.slice u xs.length c1) xs.length 116 4 (xs.flatMap bW),kv j E a b a,.box P #[.slice u xs.length c1,.slice q.2.2.1 q.1.length q.2.2.2] 25,.box b2 #[.slice none 0 0,.slice none 0 0] 25]) (fun (q:List MapEntry × Array Nat × Option Addr × Nat)=>t.ds.length-q.1.length) (([],#[],none,0)) (Handed.nil y c) bC (Z) ?_;intro q _ _ Zd Y Z;refine aj (aq ?_);refine w6 (out:=q.1) Y (wn rfl) rfl rfl rfl (Y.ev rfl) Z (i:=1) rfl (tK Z.below M) d.st ⟨rfl,Nat.le_refl _⟩ Zd fun Jw _ Zh Y X T Z Vn=>sv Y (C4 (Y.ev rfl)) fun _ Y=>?_;refine ag (ai (aj ?_));refine ak (Y.ev rfl) (fun Zf=>?_) (fun Zf=>?_)
  ·
   obtain⟨e2,rfl⟩:=Option.isSome_iff_exists.1 Zf;obtain⟨o,Q⟩:=T e2 rfl;have G:=tN (κ:=Dty.g) (V:=iL) ⟨0,false,0⟩ d Q;rw[List.length_append,List.length_singleton] at G
   have Vu:(q.1 ++ [e2]).length=q.1.length+1:=by rw[List.length_append];rfl
   refine wp_skip (ai (wp_block (aj (aq ?_))));refine sv Y (sI (Y.ev rfl) (Z.at_ (i:=1) rfl) (tK Z.below M) o d.st) fun _ Y=>?_;refine sv Y (aA (v':=iL (F e2)) (by rw[L];exact(od (κ:=Dty.g) (V:=iL) (z:=⟨0,false,0⟩) d o).2.1) (bN (Y.ev rfl) rfl)) fun _ Y=>?_;refine na (.agg oz) Y rfl Z fun b7 _ _ Zm Y Z=>sw Y Z 0 fun _ Z=>?_;refine GO 5 ?_;intro _ Y;refine sv (v:=iL (F e2)) Y (ah aa aa (Y.ev rfl) (Z.cellsAll (i:=0) rfl)) fun _ Y=>?_;refine dc (zc:=ri) (sz:=3) Y (wn rfl) ⟨rfl,rfl⟩ rfl iy aa aa rfl rfl rfl (Y.evs2 rfl) rfl rfl rfl Z fun Vs _ _ Zi Y Z=>bS (z:=.agg oz) (sz:=3) (bytes:=24) Y (wn rfl) ⟨rfl,rfl⟩ rfl iy aa rfl rfl (Y.ev rfl) (Y.ev rfl) Z (i:=2) rfl (Z.boxRd (i:=0) rfl) rfl (List.all_eq_true.1 rfl) ⟨ab,by decide⟩ fun Vb Vm _ _ Y Z=>?_;refine GO 1 ?_;intro _ Y;refine aS Y (wn rfl) ⟨rfl,rfl⟩ (Y.ev rfl) (Y.ev rfl) rfl aa Z (i:=6) rfl rfl rfl fun _ Z=>ag (eC (ai ?_));exact⟨(q.1 ++ [e2],q.2.1.push e2.born,Vb,Vm),(by show t.ds.length-(q.1 ++ [e2]).length<_;omega),Q,Y.re bC,(by show St [] w _ [.row (.slice _ (q.1 ++ [e2]).length _) (q.1 ++ [e2]).length _ _ (((q.1 ++ [e2]).map F).flatMap cN),_,_,_,.box P #[_,.slice _ (q.1 ++ [e2]).length _] _,_];rw[List.length_append,List.map_append,List.flatMap_append];exact(Z.sub (aB 252)))⟩
  ·
   obtain rfl:Jw=none:=by cases Jw with | none=>rfl | some e=>cases Zf
   have B:=X rfl;obtain⟨s,C,A2,c2⟩:=q;obtain⟨ys,k⟩:∃ys,ys=s.map F:=⟨_,rfl⟩
   have Jy:s.length=ys.length:=by rw[k,List.length_map]
   have Jx:∀x,x∈ys↔x∈t.ds:=by rw[k,L];exact Du (κ:=Dty.g) (V:=iL) d hs.ds Zd B
   have Vd:(ys.map Dty.g).Nodup:=by rw[k,L];exact rH (κ:=Dty.g) (V:=iL) d Zd
   have Vr:ys.length≤t.ds.length:=by rw[←Jy];exact tN (κ:=Dty.g) (V:=iL) ⟨0,false,0⟩ d Zd
   have Vl:∀x∈ys,0≤x.g∧x.g≤100000:=fun x hx=>O.ds x ((Jx x).1 hx)
   replace Z:St [] w Zh [.row (.slice A2 ys.length c2) ys.length 124 3 (ys.flatMap cN),kv Jv m2 c C c,.row (.slice u xs.length c1) xs.length 116 4 (xs.flatMap bW),kv j E a b a,.box P #[.slice u xs.length c1,.slice A2 ys.length c2] 25,.box b2 #[.slice none 0 0,.slice none 0 0] 25]:=by rw[←Jy,k];exact Z
   refine GO 9 ?_;intro _ Y;refine jd Y (wn rfl) (aw a6 (Y.evs rfl) rfl) rfl rfl Z (i:=2) rfl uS (zz t.ts xs hs.ts U Vi Vh u c1 _ (Z.at_ (i:=2) rfl) ab) fun Vv _ _ Y Za Z=>?_;refine GO 6 ?_;intro _ Y;refine jd Y (wn rfl) (aw a6 (Y.evs rfl) rfl) rfl rfl Z (i:=0) rfl uS (Bb t.ds ys hs.ds Jx Vd Vl A2 c2 _ (Z.at_ (i:=0) rfl) ab) fun Vw _ _ Y Zb Z=>?_;refine rV ?_;refine sv Y (ah aa aa (Y.ev rfl) (Z.cellsAll (i:=4) rfl)) fun _ Y=>?_;refine sw Y Z 5 fun _ Z=>?_;refine ag (ai (wp_ret ?_));refine ni Y rfl rfl Z (i:=5) rfl aa aa ?_;refine⟨(u,c1,A2,c2),?_,?_⟩
   · rw[Za,Zb];rfl
   · have q9:=St.swap (Z.sub (aB 5))
     rw[Za,Zb] at q9;exact q9
open Go.RowKit Go.Sort Go.Shelf
theorem nf (t:Tbl) (A:Option Addr) (c:Nat) (B:Option Addr) (d:Nat) (w:World) (hr:Rd w w.heap.size A (t.ts.flatMap bW)) (g:Rd w w.heap.size B (t.ds.flatMap cN)) (f:SrtT t) (h:t.ts.length≤1000∧t.ds.length≤1000) :
 Calls Tryz.prog 128 #[cc t A c B d] w fun e a=>∃i:Nat × Nat × Nat,e=.returned (.pointer (some ⟨i.1,0,none⟩))∧St [] w a [pH i.1 i.2.1 i.2.2 t]:=
 (oX t A c B d w hr g f h).mono fun e a ⟨i,b,j⟩=>⟨i,b,D4 j⟩
theorem vG (t:Tbl) (r:Rcd) (f m g:Nat) (w:World) (h:(pH f m g t).ok w) :
 Calls Tryz.prog 130 #[.pointer (some ⟨f,0,none⟩),ae r.l,cy r.e] w fun e u=>∃p:Unit,e=.returned (.tuple #[])∧True∧St [f,m,g] w u [pH f m g (fH t r)]:=by
 obtain⟨hB,j,d,hne⟩:=h;refine(Ff t r f m g w hB j d hne).mono ?_
 rintro e u ⟨rfl,c⟩
 have o:mX w [m,g]:=fun b a=>by
  rcases List.mem_cons.1 a with rfl | a
  · exact j.noCells
  · rw[List.mem_singleton.1 a];exact d.noCells
 have q:=c.at_ (i:=0) rfl;have s:=c.at_ (i:=1) rfl;have k:=c.keptL.box o hB;refine⟨(),rfl,trivial,c.os,c.tape,c.output,c.size,fun b a v=>c.block b a (fun h=>v (List.mem_cons_of_mem _ h)),fun e n=>?_,fun e n b a=>?_,List.pairwise_singleton _ _⟩
 · rw[List.mem_singleton.1 n];exact⟨k,q,s,hne⟩
 · rw[List.mem_singleton.1 n] at a
   rcases a with rfl | rfl | rfl
   · exact⟨.inr bw,k.lt⟩
   · exact⟨.inr bw,MapF.lt q⟩
   · exact⟨.inr bw,MapF.lt s⟩
theorem DD (s:List UInt8):SrtT (dK s)∧(∀x∈(dK s).ts,0≤x.i∧x.i≤100000)∧(∀x∈(dK s).ds,0≤x.g∧x.g≤100000)∧(dK s).ts.length≤60∧(dK s).ds.length≤60:=by
 unfold dK
 split
 · rename_i h
   have d:cZ (eS s)=0:=by
    unfold iM at h
    split at h
    · cases h
    · split at h
      · cases h
      · rw[aN] at h
        exact h _ (.tail _ (.head _))
   have b:=tblE_zero.1 d;refine⟨b.srt,fun x hx=>?_,fun x hx=>?_,b.n,b.m⟩
   · obtain⟨k,a,rfl⟩:=List.getElem_of_mem hx
     have c:=(b.ts k a).i;omega
   · obtain⟨k,a,rfl⟩:=List.getElem_of_mem hx
     have c:=(b.ds k a).g;omega
 · exact⟨qz,fun x hx=>(by cases hx),fun x hx=>(by cases hx),by decide,by decide⟩
structure BdN (n:Nat) (t:Tbl):Prop where
 ts:∀x∈t.ts,0≤x.i∧x.i≤100000
 ds:∀x∈t.ds,0≤x.g∧x.g≤100000
 lt:t.ts.length≤n
 ld:t.ds.length≤n
theorem xd {α:Type} {κ:α→Int} (l:List α) (x:α):(mc κ l x).length≤l.length+1:=by
 unfold mc;rw[List.length_append,List.length_cons]
 have:(l.filter fun y=>decide (κ y<κ x)).length+(l.filter fun y=>decide (κ x<κ y)).length≤l.length:=by
  induction l with
  | nil=>simp
  | cons y l ih=>
   rw[List.filter_cons,List.filter_cons];by_cases a:κ y<κ x
   · rw[if_pos (al a),if_neg (by simp;omega)];simp only[List.length_cons];omega
   · rw[if_neg (al a)]
     split<;>simp only[List.length_cons]<;>omega
 omega
theorem w5 {α:Type} {κ:α→Int} {l:List α} {x y:α} (h:y∈mc κ l x):y=x∨y∈l:=by
 unfold mc at h;rcases List.mem_append.1 h with h | h
 · exact .inr (List.mem_filter.1 h).1
 · rcases List.mem_cons.1 h with h | h
   · exact .inl h
   · exact .inr (List.mem_filter.1 h).1
theorem BdN.chg {n:Nat} {t:Tbl} (h:BdN n t) {x:Rcd} (hx:cA x.e=0):BdN (n+1) (fH t x):=by
 obtain⟨d,_,_,c⟩:=kY hx;unfold fH
 split
 · exact⟨h.ts,h.ds,Nat.le_succ_of_le h.lt,Nat.le_succ_of_le h.ld⟩
 · refine⟨fun y a=>?_,fun y a=>?_,?_,?_⟩
   · have a:y∈(if x.e.k=4 then tV Trn.i t.ts x.e.t else mc Trn.i t.ts (wI t x)):=a
     split at a
     · exact h.ts y (List.mem_filter.1 a).1
     · rcases w5 a with rfl | a
       · show 0≤x.e.t∧x.e.t≤100000;omega
       · exact h.ts y a
   · have a:y∈mg t x:=a
     unfold mg at a
     split at a
     · rcases w5 a with rfl | a
       · show 0≤x.e.g∧x.e.g≤100000;omega
       · exact h.ds y a
     · exact h.ds y a
   · show(if x.e.k=4 then tV Trn.i t.ts x.e.t else mc Trn.i t.ts (wI t x)).length≤n+1
     have b:=h.lt
     split
     · have:=List.length_filter_le (fun y=>decide (Trn.i y≠x.e.t)) t.ts
       unfold tV;omega
     · have:=xd (κ:=Trn.i) t.ts (wI t x);omega
   · show(mg t x).length≤n+1
     have b:=h.ld;unfold mg
     split
     · have:=xd (κ:=Dty.g) t.ds ⟨x.e.g,x.e.f,x.l⟩;omega
     · omega
theorem BdN.fold:∀{l:List Rcd} {n:Nat} {t:Tbl},BdN n t→(∀x∈l,cA x.e=0)→BdN (n+l.length) (l.foldl fH t)
 | [],_,_,h,_=>h
 | x::l,n,t,h,hx=>by
  have:=(h.chg (hx x (List.mem_cons_self))).fold (fun y a=>hx y (List.mem_cons_of_mem _ a)) (l:=l);rw[List.length_cons,show n+(l.length+1)=n+1+l.length by omega];exact this
def jr (l:List Rcd) (a:Int):List Rcd:=l.filter fun y=>decide (a<y.l)
theorem lj (l:List Rcd) (a:Int) {j:Nat} (b:j<l.length):jr (l.take (j+1)) a=if a<l[j].l then jr (l.take j) a ++ [l[j]] else jr (l.take j) a:=by
 unfold jr;rw[List.take_succ_eq_append_getElem b,List.filter_append,List.filter_cons];by_cases h:a<l[j].l
 · rw[if_pos (al h),if_pos h];rfl
 · rw[if_neg (al h),if_neg h];simp
theorem gH {l:List Rcd} (a:cH Rcd.l l) {A:Option Addr} {n:Int} {w:World} {B:Nat} (hr:Rd w B A (l.flatMap cB)) (h:(mj A l n).isNone=false):∃b o,A=some ⟨b,o,none⟩∧∃e:jU Rcd.l l n<l.length,l[jU Rcd.l l n].l=n∧cz l n=some l[jU Rcd.l l n]∧mj A l n=some ⟨b,o+jU Rcd.l l n*14+1,none⟩:=by
 have c:nC Rcd.l l n=true:=by
  unfold mj at h
  split at h
  · assumption
  · cases h
 obtain⟨e,_,_⟩:=lk a c;obtain⟨b,o,rfl,_⟩:=hr.opened (aF aI au ab);obtain⟨i,g,f,d⟩:=tw a h;exact⟨b,o,rfl,i,g,f,d⟩
theorem p8 {l:List Rcd} (c:cH Rcd.l l) {A:Option Addr} {n:Int} {w:World} {B:Nat} (hr:Rd w B A (l.flatMap cB)) (h:(mj A l n).isNone=true):cz l n=none:=by
 rcases Nat.eq_zero_or_pos l.length with a | a
 · rw[List.eq_nil_of_length_eq_zero a];rfl
 · obtain⟨b,o,rfl,_⟩:=hr.opened (aF aI au a)
   exact tI h
def D5 (l:List Rcd) (a:Int):Bool:=match cz l a with | none=>false | some x=>x.e.k != 5
theorem Fz {l:List Rcd} (h:∀x∈l,1≤x.l):jr l 0=l:=List.filter_eq_self.2 fun x hx=>by have:=h x hx;simp;omega
theorem uN (l:List Rcd) (A:Option Addr) (c:Nat) (a:Int) (w:World) (hr:Rd w w.heap.size A (l.flatMap cB)) (hv:VldH l l.length) (hl:l.length≤1000) (hx:∀x∈l,FewE x.e) :
 Calls Tryz.prog 78 #[.slice A l.length c,ae a] w fun e w'=>∃i:Option Addr × Nat × Option Addr × Nat,e=.returned (.tuple #[cc (kd l a).1 i.1 i.2.1 i.2.2.1 i.2.2.2,ae (kd l a).2]) ∧
  St [] w w' [.row (.slice i.1 (kd l a).1.ts.length i.2.1) (kd l a).1.ts.length 116 4 ((kd l a).1.ts.flatMap bW),.row (.slice i.2.2.1 (kd l a).1.ds.length i.2.2.2) (kd l a).1.ds.length 124 3 ((kd l a).1.ds.flatMap cN)]:=by
 have I:cH Rcd.l l:=by have:=hv.srt;rwa [List.take_length] at this
 have W:∀x∈l,cA x.e=0:=fun x hx=>by
  obtain⟨k,hk,rfl⟩:=List.getElem_of_mem hx;exact(hv.e0 hk).2.2
 refine an (N:=67) Tryz.func78 rfl rfl rfl (fun _ Y=>?_);have Z:=St.init w;refine aj (aq ?_);refine na (.agg gV) Y rfl Z fun b4 _ _ Zn Y Z=>GO 5 ?_;intro _ Y;refine sv (v:=cc jI none 0 none 0) Y (az (zs:=mD) (pl:=lM) aa aa (Y.evs2 rfl) rfl rfl) fun _ Y=>?_;refine cT Y (wn rfl) (aw a6 (Y.evs rfl) rfl) rfl rfl Z (nf jI none 0 none 0 _ (Rd.nil _ _ _) (Rd.nil _ _ _) qz au) fun Jy _ X4 Y Z=>GO 1 ?_;intro _ Y;obtain⟨u,y,B⟩:=Jy;refine GO 9 ?_;intro _ Y;refine ak (Y.ev rfl) (fun Zf=>?_) (fun Zf=>?_)
 ·
  have U:a≠0:=al Zf;refine GO 4 ?_;intro _ Y;refine cQ Y rfl Z (lu l I A c a _ (Z.rd0 hr) hl) fun _ _ Y Z=>?_;refine GO 7 ?_;intro _ Y;refine sv Y (mZ ub aa (Y.ev rfl) (Y.ev rfl)) fun _ Y=>?_;refine GO 1 ?_;intro _ Y;apply bI (x:=D5 l a) Y Z 23 rfl 6 29
  case hf=>
   intro Ze;obtain⟨b',o',rfl,qk,q1,X,q3⟩:=gH I hr Ze;refine sy Y (aA (v':=.pointer (some ⟨b',o'+jU Rcd.l l a*14+1,none⟩)) (congrArg Value.pointer q3) (bD (Y.ev rfl))) fun _ Y=>?_;refine GO 1 ?_;intro _ Y;refine sy Y (fy 0 (Y.ev rfl)) fun _ Y=>?_;refine sy Y (lx (Y.ev rfl) ((dQ (Z.rd0 hr) qk) 0 _ rfl)) fun _ Y=>?_;refine sy Y (aA (v':=.bool (D5 l a)) (congrArg Value.bool (by unfold D5;rw[X])) (kh (Y.ev rfl) (Y.ev rfl))) fun _ Y=>?_;refine GO 1 ?_;intro _ Y;exact ag ⟨Y.midE 5,Z⟩
  case ht=>
   intro Ze;refine GO 6 ?_;intro _ Y;exact ag ⟨Y.midE 5,Z⟩
  case h=>
   rintro Ve Zo ⟨T,Zg⟩
   refine ag (ai ?_);refine ak (T.ev rfl) (fun Zh=>?_) (fun Zh=>?_)
   ·
    have J:kd l a=(jI,6):=by
     unfold kd;rw[if_neg U];rcases Bool.or_eq_true_iff.1 Zh with Q | Q
     · rw[p8 I hr Q]
     · unfold D5 at Q
       cases hq:cz l a with
       | none=>rfl
       | some x=>rw[hq] at Q;simp only[];rw[if_pos (al Q)]
    refine aj (aq ?_);refine sv T (az (zs:=mD) (pl:=lM) aa aa (T.evs2 rfl) rfl rfl) fun _ Y=>?_;refine sw Y Zg 1 fun _ Z=>?_;refine GO 6 ?_;intro _ Y;refine bZ Y rfl rfl rfl Z (i:=1) rfl aa aa ?_;refine⟨(none,0,none,0),by rw[J];rfl,?_⟩;rw[J];exact((Z.sub (List.nil_sublist _)).nilRow 124 3).nilRow 116 4
   ·
    obtain⟨Q,r2⟩:=Bool.or_eq_false_iff.1 Zh;obtain⟨b',o',rfl,qk,q1,X,q3⟩:=gH I hr Q
    have r3:l[jU Rcd.l l a].e.k=5:=by unfold D5 at r2;rw[X] at r2;simpa using r2
    generalize jU Rcd.l l a=k at qk q1 X q3 r3 T;have Jx:=hx _ (List.getElem_mem qk);refine wp_skip (ai (aj (aq ?_)));refine sv T (aA (v':=.pointer (some ⟨b',o'+k*14+1,none⟩)) (congrArg Value.pointer q3) (bD (T.ev rfl))) fun _ Y=>?_;refine GO 1 ?_;intro _ Y;refine sv Y (fy 12 (Y.ev rfl)) fun _ Y=>?_;refine sv Y (lx (Y.ev rfl) ((dQ (Zg.rd0 hr) qk) 12 _ rfl)) fun _ Y=>?_;refine cT Y (wn rfl) (aw a6 (Y.evs rfl) rfl) rfl rfl Zg (oV (bl l[k].e.d) _ Jx.d) fun p _ _ Y Z=>GO 1 ?_;intro _ Y;refine sv (v:=cc (dK (bl l[k].e.d)) p.1 p.2.1 p.2.2.1 p.2.2.2) Y (bN (Y.ev rfl) rfl) fun _ Y=>?_;refine GO 1 ?_;intro _ Y;refine na (.agg gV) Y rfl Z fun b8 _ _ Zp Y Z=>sw Y Z 0 fun _ Z=>?_;refine GO 1 ?_;intro _ Y;obtain⟨g1,g2,g3,g4,g5⟩:=DD (bl l[k].e.d);refine ag (ai (aq ?_));refine sv (v:=cc (dK (bl l[k].e.d)) p.1 p.2.1 p.2.2.1 p.2.2.2) Y (ah aa aa (Y.ev rfl) (Z.cellsAll (i:=0) rfl)) fun _ Y=>?_;refine cT Y (wn rfl) (aw a6 (Y.evs rfl) rfl) rfl rfl Z (nf (dK (bl l[k].e.d)) p.1 p.2.1 p.2.2.1 p.2.2.2 _ (Z.rdOf (i:=1) rfl) (Z.rdOf (i:=2) rfl) g1 ab) fun Vb _ Zm Y Z=>?_;refine GO 1 ?_;intro _ Y;obtain⟨u,y,B⟩:=Vb;obtain⟨q,r⟩:∃q,q=dK (bl l[k].e.d):=⟨_,rfl⟩
    have M:SrtT q:=by rw[r];exact g1
    have R:BdN 60 q:=by rw[r];exact⟨g2,g3,g4,g5⟩
    have S:kd l a=EW q (jr l a):=by unfold kd;rw[if_neg U,X];simp only[];rw[if_neg (by rw[r3];decide),r];rfl
    replace Z:St [] w Zm [pH u y B (((jr (l.take 0) a)).foldl fH q),.box b4 #[.slice none 0 0,.slice none 0 0] 25]:=by rw[r];exact(Z.sub (aB 33))
    refine GO 11 ?_;intro _ Y;refine aV Y Z [42,41,6,5,4,1] (fun (j:Nat)=>[(43,ae j)]) (fun (j:Nat)=>j≤l.length) (fun j L=>L.set 0 (pH u y B ((jr (l.take j) a).foldl fH q))) (fun (j:Nat)=>l.length-j) (0) (Nat.zero_le _) bC (Z) ?_;intro j _ _ Zi Y Z;refine GO 6 ?_;intro _ Y;refine ak (Y.ev rfl) (fun K=>?_) (fun K=>?_)
    ·
     have m:j<l.length:=by have:=of_decide_eq_true K;omega
     obtain⟨b5,o5,G,Vd,_⟩:=hr.opened (aF aI au ab);have F:=hr;rw[G] at F;refine wp_skip (ai (aj (wp_block (aj (aq ?_)))));refine sv Y (ar (b:=b5) (o:=o5) (i:=j) (sz:=14) gO aa ((Y.ev rfl).trans (congrArg (fun A=>Value.slice A l.length c) G)) (Y.ev rfl) rfl m rfl) fun _ Y=>?_;refine sv (v:=iR l[j]) Y (ah aa aa (Y.ev rfl) (aL aI (Z.rd0 F) m)) fun _ Y=>?_;refine na (.agg mi) Y rfl Z fun Jw _ _ Zj Y Z=>sw Y Z 0 fun _ Z=>?_;refine GO 10 ?_;intro _ Y;refine ak (Y.ev rfl) (fun P=>?_) (fun P=>?_)
     ·
      have t:a<l[j].l:=of_decide_eq_true P;refine GO 5 ?_;intro _ Y;refine sv (v:=cy l[j].e) Y (ah aa aa (Y.ev rfl) (Z.cellsOf (i:=0) rfl 1 13)) fun _ Y=>?_;refine jd Y (wn rfl) (aw a6 (Y.evs rfl) rfl) rfl rfl Z (i:=1) rfl (fun b H=>by rcases List.mem_cons.1 H with h | H;exact .inl h;rcases List.mem_cons.1 H with h | H;exact .inr (.inl h);exact .inr (.inr (List.mem_singleton.1 H))) (vG _ l[j] u y B _ (Z.at_ (i:=1) rfl)) fun Vc _ _ Y Zk Z=>GO 8 ?_;intro _ Y;exact⟨j+1,by omega,m,Y.re bC,(by have D:=lj l a m;rw[if_pos t] at D;show St [] w _ [pH u y B ((jr (l.take (j+1)) a).foldl fH q),_];rw[D,List.foldl_append];exact(Z.sub (aB 6)))⟩
     ·
      have t:¬a<l[j].l:=of_decide_eq_false P;refine GO 8 ?_;intro _ Y;exact⟨j+1,by omega,m,Y.re bC,(by have D:=lj l a m;rw[if_neg t] at D;show St [] w _ [pH u y B ((jr (l.take (j+1)) a).foldl fH q),_];rw[D];exact(Z.sub (aB 6)))⟩
    ·
     have Jz:l.length≤j:=by have:=of_decide_eq_false K;omega
     obtain rfl:j=l.length:=by have:=Zi;omega
     obtain⟨n,s⟩:∃n,n=(jr l a).foldl fH q:=⟨_,rfl⟩;have Va:(jr l a).length≤l.length:=List.length_filter_le _ _
     have E:SrtT n:=by rw[s];exact M.fold
     have C:BdTbl n:=by
      have:=R.fold (l:=jr l a) (fun x hx=>W x (List.mem_filter.1 hx).1);rw[s];exact⟨this.ts,this.ds,by have:=this.lt;omega,by have:=this.ld;omega⟩
     have g:kd l a=if cZ n≠0 then (jI,cZ n) else (n,0):=by rw[S,s];rfl
     rw[List.take_length,←s] at Z;refine GO 8 ?_;intro _ Y;refine cT Y (wn rfl) (aw a6 (Y.evs rfl) rfl) rfl rfl Z (wR n u y B _ (Z.at_ (i:=0) rfl).1 (Z.at_ (i:=0) rfl).2.1 (Z.at_ (i:=0) rfl).2.2.1 E C) fun f _ _ Y Z=>na (.agg gV) Y rfl Z fun Jv _ _ Zl Y Z=>sw Y Z 0 fun _ Z=>?_;refine ag (ai (aj (aj (aq ?_))));refine sv (v:=cc n f.1 f.2.1 f.2.2.1 f.2.2.2) Y (ah aa aa (Y.ev rfl) (Z.cellsAll (i:=0) rfl)) fun _ Y=>?_;refine cQ Y rfl Z (dp n f.1 f.2.1 f.2.2.1 f.2.2.2 _ (Z.rdOf (i:=1) rfl) (Z.rdOf (i:=2) rfl)) fun _ _ Y Z=>?_;refine GO 9 ?_;intro _ Y;refine ak (Y.ev rfl) (fun O=>?_) (fun O=>?_)
     ·
      have hne:cZ n≠0:=al O;rw[if_pos hne] at g;refine aj (aq ?_);refine sv Y (az (zs:=mD) (pl:=lM) aa aa (Y.evs2 rfl) rfl rfl) fun _ Y=>?_;refine GO 1 ?_;intro _ Y;refine sw Y Z 4 fun _ Z=>?_;refine GO 5 ?_;intro _ Y;refine bZ Y rfl rfl rfl Z (i:=4) rfl aa aa ?_;refine⟨(none,0,none,0),by rw[g];rfl,?_⟩;rw[g];exact((Z.sub (List.nil_sublist _)).nilRow 124 3).nilRow 116 4
     ·
      have hne:¬cZ n≠0:=al O;rw[if_neg hne] at g;refine wp_skip (ai (aj (aq ?_)));refine sv (v:=cc n f.1 f.2.1 f.2.2.1 f.2.2.2) Y (ah aa aa (Y.ev rfl) (Z.cellsAll (i:=0) rfl)) fun _ Y=>?_;refine sw Y Z 4 fun _ Z=>?_;refine GO 4 ?_;intro _ Y;refine bZ Y rfl rfl rfl Z (i:=4) rfl aa aa ?_;refine⟨f,by rw[g];rfl,?_⟩;rw[g];exact(Z.sub (aB 6))
 ·
  have U:a=0:=al Zf;obtain⟨q,r⟩:∃q,q=jI:=⟨_,rfl⟩
  have M:SrtT q:=by rw[r];exact qz
  have R:BdN 60 q:=by rw[r];exact⟨fun x hx=>(by cases hx),fun x hx=>(by cases hx),by decide,by decide⟩
  have S:kd l a=EW q (jr l a):=by
   unfold kd;rw[if_pos U,r,U,Fz];intro x hx;obtain⟨k,hk,rfl⟩:=List.getElem_of_mem hx;exact(hv.e0 hk).1
  replace Z:St [] w X4 [pH u y B (((jr (l.take 0) a)).foldl fH q),.box b4 #[.slice none 0 0,.slice none 0 0] 25]:=by rw[r];exact Z
  refine GO 11 ?_;intro _ Y;refine aV Y Z [42,41,6,5,4,1] (fun (j:Nat)=>[(43,ae j)]) (fun (j:Nat)=>j≤l.length) (fun j L=>L.set 0 (pH u y B ((jr (l.take j) a).foldl fH q))) (fun (j:Nat)=>l.length-j) (0) (Nat.zero_le _) bC (Z) ?_;intro j _ _ Zi Y Z;refine GO 6 ?_;intro _ Y;refine ak (Y.ev rfl) (fun K=>?_) (fun K=>?_)
  ·
   have m:j<l.length:=by have:=of_decide_eq_true K;omega
   obtain⟨b5,o5,G,Vd,_⟩:=hr.opened (aF aI au ab);have F:=hr;rw[G] at F;refine wp_skip (ai (aj (wp_block (aj (aq ?_)))));refine sv Y (ar (b:=b5) (o:=o5) (i:=j) (sz:=14) gO aa ((Y.ev rfl).trans (congrArg (fun A=>Value.slice A l.length c) G)) (Y.ev rfl) rfl m rfl) fun _ Y=>?_;refine sv (v:=iR l[j]) Y (ah aa aa (Y.ev rfl) (aL aI (Z.rd0 F) m)) fun _ Y=>?_;refine na (.agg mi) Y rfl Z fun Jw _ _ Zj Y Z=>sw Y Z 0 fun _ Z=>?_;refine GO 10 ?_;intro _ Y;refine ak (Y.ev rfl) (fun P=>?_) (fun P=>?_)
   ·
    have t:a<l[j].l:=of_decide_eq_true P;refine GO 5 ?_;intro _ Y;refine sv (v:=cy l[j].e) Y (ah aa aa (Y.ev rfl) (Z.cellsOf (i:=0) rfl 1 13)) fun _ Y=>?_;refine jd Y (wn rfl) (aw a6 (Y.evs rfl) rfl) rfl rfl Z (i:=1) rfl (fun b H=>by rcases List.mem_cons.1 H with h | H;exact .inl h;rcases List.mem_cons.1 H with h | H;exact .inr (.inl h);exact .inr (.inr (List.mem_singleton.1 H))) (vG _ l[j] u y B _ (Z.at_ (i:=1) rfl)) fun Vc _ _ Y Zk Z=>GO 8 ?_;intro _ Y;exact⟨j+1,by omega,m,Y.re bC,(by have D:=lj l a m;rw[if_pos t] at D;show St [] w _ [pH u y B ((jr (l.take (j+1)) a).foldl fH q),_];rw[D,List.foldl_append];exact(Z.sub (aB 6)))⟩
   ·
    have t:¬a<l[j].l:=of_decide_eq_false P;refine GO 8 ?_;intro _ Y;exact⟨j+1,by omega,m,Y.re bC,(by have D:=lj l a m;rw[if_neg t] at D;show St [] w _ [pH u y B ((jr (l.take (j+1)) a).foldl fH q),_];rw[D];exact(Z.sub (aB 6)))⟩
  ·
   have Jz:l.length≤j:=by have:=of_decide_eq_false K;omega
   obtain rfl:j=l.length:=by have:=Zi;omega
   obtain⟨n,s⟩:∃n,n=(jr l a).foldl fH q:=⟨_,rfl⟩;have Va:(jr l a).length≤l.length:=List.length_filter_le _ _
   have E:SrtT n:=by rw[s];exact M.fold
   have C:BdTbl n:=by
    have:=R.fold (l:=jr l a) (fun x hx=>W x (List.mem_filter.1 hx).1);rw[s];exact⟨this.ts,this.ds,by have:=this.lt;omega,by have:=this.ld;omega⟩
   have g:kd l a=if cZ n≠0 then (jI,cZ n) else (n,0):=by rw[S,s];rfl
   rw[List.take_length,←s] at Z;refine GO 8 ?_;intro _ Y;refine cT Y (wn rfl) (aw a6 (Y.evs rfl) rfl) rfl rfl Z (wR n u y B _ (Z.at_ (i:=0) rfl).1 (Z.at_ (i:=0) rfl).2.1 (Z.at_ (i:=0) rfl).2.2.1 E C) fun f _ _ Y Z=>na (.agg gV) Y rfl Z fun Jv _ _ Zl Y Z=>sw Y Z 0 fun _ Z=>?_;refine ag (ai (aj (aj (aq ?_))));refine sv (v:=cc n f.1 f.2.1 f.2.2.1 f.2.2.2) Y (ah aa aa (Y.ev rfl) (Z.cellsAll (i:=0) rfl)) fun _ Y=>?_;refine cQ Y rfl Z (dp n f.1 f.2.1 f.2.2.1 f.2.2.2 _ (Z.rdOf (i:=1) rfl) (Z.rdOf (i:=2) rfl)) fun _ _ Y Z=>?_;refine GO 9 ?_;intro _ Y;refine ak (Y.ev rfl) (fun O=>?_) (fun O=>?_)
   ·
    have hne:cZ n≠0:=al O;rw[if_pos hne] at g;refine aj (aq ?_);refine sv Y (az (zs:=mD) (pl:=lM) aa aa (Y.evs2 rfl) rfl rfl) fun _ Y=>?_;refine GO 1 ?_;intro _ Y;refine sw Y Z 4 fun _ Z=>?_;refine GO 5 ?_;intro _ Y;refine bZ Y rfl rfl rfl Z (i:=4) rfl aa aa ?_;refine⟨(none,0,none,0),by rw[g];rfl,?_⟩;rw[g];exact((Z.sub (List.nil_sublist _)).nilRow 124 3).nilRow 116 4
   ·
    have hne:¬cZ n≠0:=al O;rw[if_neg hne] at g;refine wp_skip (ai (aj (aq ?_)));refine sv (v:=cc n f.1 f.2.1 f.2.2.1 f.2.2.2) Y (ah aa aa (Y.ev rfl) (Z.cellsAll (i:=0) rfl)) fun _ Y=>?_;refine sw Y Z 4 fun _ Z=>?_;refine GO 4 ?_;intro _ Y;refine bZ Y rfl rfl rfl Z (i:=4) rfl aa aa ?_;refine⟨f,by rw[g];rfl,?_⟩;rw[g];exact(Z.sub (aB 6))
theorem lf {l:List Rcd} (h:(fh l).2=0):l.length≤100∧VldH l l.length:=by
 unfold fh at h
 split at h
 · cases h
 · rename_i b
   exact⟨by omega,Nat.le_refl _,fun k a _=>(cK _ l).1 h k a⟩
def n0 (l:List Rcd) (a:Int):Tbl × Int:=if (fh l).2≠0 then (jI,(fh l).2) else kd l a
theorem uu (l:List Rcd) (A:Option Addr) (c:Nat) (a:Int) (w:World) (hr:Rd w w.heap.size A (l.flatMap cB)) (g:l.length≤1000) (k:l.length≤c) (hF:FolT w) (hx:∀x∈l,FewE x.e) :
 Calls Tryz.prog 24 #[.slice A l.length c,ae a] w fun e n=>∃i:Option Addr × Nat × Option Addr × Nat,e=.returned (.tuple #[cc (n0 l a).1 i.1 i.2.1 i.2.2.1 i.2.2.2,ae (n0 l a).2]) ∧
  St [] w n [.row (.slice i.1 (n0 l a).1.ts.length i.2.1) (n0 l a).1.ts.length 116 4 ((n0 l a).1.ts.flatMap bW),.row (.slice i.2.2.1 (n0 l a).1.ds.length i.2.2.2) (n0 l a).1.ds.length 124 3 ((n0 l a).1.ds.flatMap cN)]:=by
 refine an (N:=18) Tryz.func24 rfl rfl rfl (fun _ Y=>?_);have Z:=St.init w;refine aj (aq ?_);refine na (.agg gV) Y rfl Z fun b4 _ _ p Y Z=>GO 7 ?_;intro _ Y;refine cQ Y rfl Z (fR l A c _ (Z.rd0 hr) g k (hF.below Z.below) hx) fun _ _ Y Z=>?_;refine GO 9 ?_;intro _ Y;refine ak (Y.ev rfl) (fun f=>?_) (fun f=>?_)
 ·
  have hne:(fh l).2≠0:=al f
  have d:n0 l a=(jI,(fh l).2):=by unfold n0;rw[if_pos hne]
  refine aj (aq ?_);refine sv Y (az (zs:=mD) (pl:=lM) aa aa (Y.evs2 rfl) rfl rfl) fun _ Y=>?_;refine GO 1 ?_;intro _ Y;refine sw Y Z 0 fun _ Z=>?_;refine GO 5 ?_;intro _ Y;refine bZ Y rfl rfl rfl Z (i:=0) rfl aa aa ?_;refine⟨(none,0,none,0),by rw[d];rfl,?_⟩;rw[d];exact((Z.sub (List.nil_sublist _)).nilRow 124 3).nilRow 116 4
 ·
  have j:(fh l).2=0:=al f
  have d:n0 l a=kd l a:=by unfold n0;rw[if_neg (fun h=>h j)]
  obtain⟨m,o⟩:=lf j;refine GO 6 ?_;intro _ Y;refine cT Y (wn rfl) (aw a6 (Y.evs rfl) rfl) rfl rfl Z (uN l A c a _ (Z.rd0 hr) o g hx) fun b _ _ Y Z=>sv (v:=cc (kd l a).1 b.1 b.2.1 b.2.2.1 b.2.2.2) Y (bN (Y.ev rfl) rfl) fun _ Y=>?_;refine GO 1 ?_;intro _ Y;refine sw Y Z 2 fun _ Z=>?_;refine GO 4 ?_;intro _ Y;refine bZ Y rfl rfl rfl Z (i:=2) rfl aa aa ?_;refine⟨b,by rw[d];rfl,?_⟩;rw[d];exact(Z.sub (aB 3))
end Go.Proofs.YtcfdpfmchchkaaaGreatDoor
