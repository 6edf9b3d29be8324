/- Chapter 22 -/
import Derived.Test.YtcfdpfmchchkaaaGreatDoorRcE
import Derived.Shelf.SlSortCmp.NoneTotal
namespace Go.Proofs.YtcfdpfmchchkaaaGreatDoor
set_option maxHeartbeats 1000000
set_option maxRecDepth 4000
set_option linter.unusedVariables false
set_option linter.unusedSimpArgs false
open Go.RowKit Go.Sort Go.Shelf
theorem kX {α:Type} [Inhabited α] {enc:α→List Value} {k:Nat} (a:∀x,(enc x).length=k) (f:0<k) (d:Array α):(flatK enc k d).toList=d.toList.flatMap enc:=by
 apply List.ext_getElem?;intro t;have b:(flatK enc k d).size=d.size*k:=size_flatK enc k d;by_cases ht:t<d.size*k
 · have c:t / k<d.size:=by rw[Nat.div_lt_iff_lt_mul f];exact ht
   have e:t % k<k:=Nat.mod_lt _ f;have Y:=get_flatK enc k d t ht
   have h:(flatK enc k d).toList[t]? = some (flatK enc k d)[t]!:=by
    rw[Array.getElem?_toList,Array.getElem?_eq_getElem (by rw[b];exact ht),getElem!_pos _ t (by rw[b];exact ht)]
   rw[h,Y]
   have e2:d[t / k]! = d.toList[t / k]'(ar c):=by rw[getElem!_pos d _ c];rfl
   have Y:=sg a d.toList (k:=t / k) (ar c) (j:=t % k) (u:=(enc d[t / k]!)[t % k]!) (by
    rw[←e2,List.getElem?_eq_getElem (by rw[a];exact e),getElem!_pos (enc d[t / k]!) (t % k) (by rw[a];exact e)])
   rw[Nat.div_add_mod' t k] at Y;exact Y.symm
 · have g:(d.toList.flatMap enc).length=d.size*k:=by
    rw[iH a d.toList,Array.length_toList,Nat.mul_comm]
   rw[List.getElem?_eq_none (by rw[Array.length_toList,b];omega),List.getElem?_eq_none (by rw[g];omega)]
theorem ti (cur F:Array Value) (h:F.size≤cur.size):(putCells (id:Value→Value) 0 F cur).toList.take F.size=F.toList:=by
 apply List.ext_getElem?;intro j;by_cases a:j<F.size
 · rw[List.getElem?_take_of_lt a,Array.getElem?_toList,Array.getElem?_toList]
   simp[putCells,a,show j<cur.size by omega]
 · rw[List.getElem?_take_eq_none ab,List.getElem?_eq_none (by simp;omega)]
theorem wz {α:Type} [Inhabited α] {d d':Array α} (h:PermIn 0 d.size d d'):d'.toList.Perm d.toList:=by
 obtain⟨a,_,h3⟩:=h
 have b:d.extract 0 d.size=d:=by simp
 have e2:d'.extract 0 d.size=d':=by rw[←a];simp
 rwa [b,e2] at h3
theorem uJ {α:Type} [Inhabited α] {lt:α→α→Bool} {d d':Array α} (e:d'.size=d.size) (h:SortedIn lt 0 d.size d'):d'.toList.Pairwise fun x y=>lt y x=false:=by
 rw[List.pairwise_iff_getElem];intro i j c b a;rw[Array.length_toList] at c b;have:=h i j (Nat.zero_le _) a ab;rw[getElem!_pos d' i c,getElem!_pos d' j b] at this;exact this
theorem vQ {α:Type} [Inhabited α] {P:Program} {ρ:Ren} (L:SlLaysF0.n6 P ρ) (k:Nat) (K:0<k) (U:∀w,(isAgg (ρ.t 24)).run P w=.ok true w) (Q:∀w,(Go.sizeOf (ρ.t 24)).run P w=.ok k w) (enc:α→List Value) (D:∀x,(enc x).length=k) (X:∀x,∀v∈enc x,v.oneCell'=true) (C:α→α→Int) (hO:SWO (ltOf C)) (g:Nat) (F:Array Value) (T:TypeId) {c:Nat} {A:Option Addr} (xs:List α) (w:World)
 (S:∀args w,(callFunc g args).run P w=.ok (.enter g args) w) (B:∀E off size o,CmpLays P g F enc k C E off size o) (Z:w.ownsRow 0 T k (.slice A xs.length c) xs.length (xs.flatMap enc)) (J:xs.length<4611686018427387904) :
 Calls P (ρ.f 6) #[.slice A xs.length c,.func (.func g) #[] F] w fun e o=>∃ys:List α,e=.returned (.tuple #[])∧(ys.Perm xs∧ys.Pairwise (fun x y=>ltOf C y x=false))∧o.ownsRow 0 T k (.slice A xs.length c) xs.length (ys.flatMap enc)∧w.grownBy o (Value.slice A xs.length c).ownBlock:=by
 obtain⟨R,I⟩:=Z;rcases I with ⟨H,u⟩ | ⟨b,cap,cur,H,hb0,hb,u,hcap,hcs,htk⟩
 · rw[u]
   refine(AnyF.slices_SortFunc_none L A c _ w).mono ?_
   rintro e o ⟨rfl,rfl⟩
   have hx:xs=[]:=List.eq_nil_of_length_eq_zero u;subst hx
   exact⟨[],rfl,⟨List.Perm.refl _,.nil⟩,by
    injection H with q1 q2 q3;subst q1 q3
    exact World.ownsRow_nil _ _ _ _,⟨rfl,rfl,rfl,Nat.le_refl _,fun _ _ _=>rfl⟩⟩
 · injection H with q1 q2 q3
   subst q1 q3;have r:b<w.heap.size:=(Array.getElem?_eq_some_iff.1 hb).1;have hF:=kX D K xs.toArray
   have m:(flatK enc k xs.toArray).size=xs.length*k:=by rw[size_flatK];simp
   have W:HoldsK enc k w b 0 xs.toArray:=by
    intro j p;rw[m] at p;refine⟨?_,by simp[World.frozen?,hb]⟩
    have Y:(flatK enc k xs.toArray).toList[j]? = cur.toList[j]?:=by
     rw[hF];show(xs.flatMap enc)[j]? = _;rw[←htk,List.getElem?_take_of_lt p]
    have h3:cur[j]? = some (flatK enc k xs.toArray)[j]!:=by
     rw[←Array.getElem?_toList,←Y,Array.getElem?_toList,Array.getElem?_eq_getElem (by rw[m];exact p),getElem!_pos _ j (by rw[m];exact p)]
    rw[cell_of_row _ _ _ cur T (0,0) hb]
    simpa using h3
   have h:=AnyQ.slices_SortFunc L k U Q enc D X C hO g F b 0 c xs.toArray w S (B _ _ _ _) W r (ar J)
   have e0:xs.toArray.size=xs.length:=by simp
   rw[e0] at h;refine h.mono ?_
   rintro e o ⟨rfl,d',n,os,N,O,rfl⟩
   have q:d'.size=xs.length:=by have:=N.1;simpa using this
   have a:(flatK enc k d').size=xs.length*k:=by rw[size_flatK,q]
   have G:=wz (d:=xs.toArray) (d':=d') (by rw[e0];exact N);have s:d'.toList.Perm xs:=ar G
   have i:(sortWorldK enc k w b 0 n d' os).heap[b]? = some (.cells (putCells id 0 (flatK enc k d') cur) T (0,0)):=by
    show(grow (putRow id (Sort.ahead w n) b 0 (flatK enc k d')) os).heap[b]? = _;rw[heap_grow_old _ _ (ar r)];simp[putRow,mapBlock,Sort.ahead,Array.getElem?_modify,hb,onCells]
   refine⟨d'.toList,rfl,⟨s,uJ (d:=xs.toArray) (by rw[e0];exact q) (by rw[e0];exact O)⟩,⟨?_,.inr ⟨b,c,_,rfl,hb0,i,u,hcap,by simp[putCells,hcs],?_⟩⟩,?_⟩
   · rw[←kX D K d',Array.length_toList,a]
   · rw[←kX D K d',←a]
     exact ti cur _ (by
      rw[a,hcs]
      exact Nat.mul_le_mul_right k u)
   · refine⟨rfl,rfl,rfl,by show _≤(grow (putRow id (Sort.ahead w n) b 0 (flatK enc k d')) os).heap.size;simp,fun j p M=>?_⟩
     show(grow (putRow id (Sort.ahead w n) b 0 (flatK enc k d')) os).heap[j]? = _;rw[heap_grow_old _ _ (ar p)];have:b≠j:=fun e=>M (by rw[e];rfl);simp[putRow,mapBlock,Sort.ahead,Array.getElem?_modify,this]
abbrev Hb:Type:={ x:Trn // 0≤x.i∧x.i≤100000 }
abbrev He:Type:={ x:Dty // 0≤x.g∧x.g≤100000 }
instance:Inhabited Hb:=⟨⟨qA,by decide⟩⟩
instance:Inhabited He:=⟨⟨⟨0,false,0⟩,by decide⟩⟩
def FA (x y:Hb):Int:=x.1.i-y.1.i
def Fg (x y:He):Int:=x.1.g-y.1.g
theorem HI:SWO (ltOf FA) where
 irrefl x:=by unfold ltOf FA;simp
 trans x y z h1 h2:=by unfold ltOf FA at *;simp at *;omega
 ntrans x y z h1 h2:=by unfold ltOf FA at *;simp at *;omega
theorem Hm:SWO (ltOf Fg) where
 irrefl x:=by unfold ltOf Fg;simp
 trans x y z h1 h2:=by unfold ltOf Fg at *;simp at *;omega
 ntrans x y z h1 h2:=by unfold ltOf Fg at *;simp at *;omega
theorem zb (x y:Hb) (W:World):Calls Tryz.prog 197 #[.agg #[.int .i64 x.1.i,.int .i64 x.1.l,.int .i64 x.1.u,.bool x.1.c],.agg #[.int .i64 y.1.i,.int .i64 y.1.l,.int .i64 y.1.u,.bool y.1.c]] W fun e w'=>e=.returned (.int .i64 (FA x y))∧∃q os',w'=grow (W.drewN q) os':=by
 obtain⟨⟨xi,xl,xu,xc⟩,hx0,hx1⟩:=x;obtain⟨⟨yi,yl,yu,yc⟩,hy0,hy1⟩:=y;unfold FA
 dsimp only at *
 go_enter Tryz.func197,Tryz.ntmps197
 have x0:0≤xi:=hx0;have x1:xi≤100000:=hx1;have y0:0≤yi:=hy0;have y1:yi≤100000:=hy1;clear hx0 hx1 hy0 hy1
 have hw:wrap64 (xi-yi)=xi-yi:=by unfold wrap64;omega
 go_wp2
 go_ret
 exact⟨rfl,0,_,by rw[alloc_eq_grow,alloc_eq_grow,grow_grow];rfl⟩
theorem zO (x y:He) (W:World):Calls Tryz.prog 199 #[.agg #[.int .i64 x.1.g,.bool x.1.f,.int .i64 x.1.l],.agg #[.int .i64 y.1.g,.bool y.1.f,.int .i64 y.1.l]] W fun e w'=>e=.returned (.int .i64 (Fg x y))∧∃q os',w'=grow (W.drewN q) os':=by
 obtain⟨⟨xi,xl,xu⟩,hx0,hx1⟩:=x;obtain⟨⟨yi,yl,yu⟩,hy0,hy1⟩:=y;unfold Fg
 dsimp only at *
 go_enter Tryz.func199,Tryz.ntmps199
 have x0:0≤xi:=hx0;have x1:xi≤100000:=hx1;have y0:0≤yi:=hy0;have y1:yi≤100000:=hy1;clear hx0 hx1 hy0 hy1
 have hw:wrap64 (xi-yi)=xi-yi:=by unfold wrap64;omega
 go_wp2
 go_ret
 exact⟨rfl,0,_,by rw[alloc_eq_grow,alloc_eq_grow,grow_grow];rfl⟩
theorem oY {P:Program} {t:TypeId} {a:Array Field} (h:P.underlying t=some (.struct a)) (w:World):(isAgg t).run P w=.ok true w:=by simp[isAgg,run_underlying h]
theorem nR {P:Program} {t:TypeId} {n:Nat} (h:(P.info? t).map (·.size)=some n) (w:World):(Go.sizeOf t).run P w=.ok n w:=by
 cases hq:P.info? t with
 | none=>rw[hq] at h;cases h
 | some q=>
  rw[hq] at h;have a:q.size=n:=ar h;simp[Go.sizeOf,typeInfo,hq,a]
open Go.RowKit Go.Sort Go.Shelf
section
variable {α:Type} {κ:α→Int}
theorem rW {l:List α} (h:l.Pairwise fun x y=>κ x≤κ y) (a:(l.map κ).Nodup):cC κ l:=by
 unfold cC;unfold List.Nodup at a;rw[List.pairwise_map] at a
 exact(h.and a).imp fun ⟨c,b⟩=>by omega
end
theorem CV:∀(xs:List Trn),(∀x∈xs,0≤x.i∧x.i≤100000)→∃zs:List Hb,zs.map (fun z=>z.1)=xs
 | [],_=>⟨[],rfl⟩
 | x::xs,h=>by
  obtain⟨zs,a⟩:=CV xs (fun y b=>h y (List.mem_cons_of_mem _ b));exact⟨⟨x,h x (List.mem_cons_self)⟩::zs,by rw[List.map_cons,a]⟩
theorem CX:∀(xs:List Dty),(∀x∈xs,0≤x.g∧x.g≤100000)→∃zs:List He,zs.map (fun z=>z.1)=xs
 | [],_=>⟨[],rfl⟩
 | x::xs,h=>by
  obtain⟨zs,a⟩:=CX xs (fun y b=>h y (List.mem_cons_of_mem _ b));exact⟨⟨x,h x (List.mem_cons_self)⟩::zs,by rw[List.map_cons,a]⟩
theorem Aj (s xs:List Trn) (u:cC Trn.i s) (hm:∀x,x∈xs↔x∈s) (n:(xs.map Trn.i).Nodup) (C:∀x∈xs,0≤x.i∧x.i≤100000) (A:Option Addr) (c:Nat) (w:World) (t:w.ownsRow 0 116 4 (.slice A xs.length c) xs.length (xs.flatMap cc)) (E:xs.length≤1000000) :
 Calls Tryz.prog 196 #[.slice A xs.length c,.func (.func 197) #[] #[]] w fun e r=>∃p:Unit,e=.returned (.tuple #[])∧xs.length=s.length∧St (Value.slice A xs.length c).ownBlock.toList w r [.row (.slice A xs.length c) xs.length 116 4 (s.flatMap cc)]:=by
 obtain⟨zs,m⟩:=CV xs C
 have f:zs.length=xs.length:=by rw[←m,List.length_map]
 have o:zs.flatMap (fun z=>cc z.1)=xs.flatMap cc:=by rw[←m,List.flatMap_map]
 have a:=vQ Tryz.laySort196 4 au (oY sT) (nR aa) (fun z:Hb=>cc z.1) (fun z=>bG _) (fun z v B=>tX _ v B) FA HI 197 #[] 116 (A:=A) (c:=c) zs w
  (enters_of Tryz.func197 aa rfl) (fun _ _ _ _ _ _ _ _ x y=>zb x y _) (by rw[f,o];exact t) ab
 rw[f] at a
 change Calls Tryz.prog 196 _ _ _ at a
 refine a.mono ?_
 rintro e r ⟨ys,rfl,⟨D,j⟩,g,q⟩
 have b:(ys.map fun z=>z.1).Perm xs:=by rw[←m];exact D.map _
 have d:cC Trn.i (ys.map fun z=>z.1):=rW (List.pairwise_map.2 (j.imp fun {x y} h=>by unfold ltOf FA at h;simp at h;omega)) (((b.map Trn.i).nodup_iff).2 n);have heq:(ys.map fun z=>z.1)=s:=p6 d u fun x=>(b.mem_iff).trans (hm x)
 have k:ys.flatMap (fun z=>cc z.1)=s.flatMap cc:=by rw[←heq,List.flatMap_map]
 rw[k] at g;exact⟨(),rfl,by rw[←heq];exact b.length_eq.symm,(St.initO t).sub (List.Sublist.refl _) |>.grown (i:=0) rfl g q (.inl rfl)⟩
theorem Ag (s xs:List Dty) (B:cC Dty.g s) (hm:∀x,x∈xs↔x∈s) (o:(xs.map Dty.g).Nodup) (D:∀x∈xs,0≤x.g∧x.g≤100000) (A:Option Addr) (c:Nat) (w:World) (u:w.ownsRow 0 124 3 (.slice A xs.length c) xs.length (xs.flatMap cw)) (F:xs.length≤1000000) :
 Calls Tryz.prog 198 #[.slice A xs.length c,.func (.func 199) #[] #[]] w fun e t=>∃p:Unit,e=.returned (.tuple #[])∧xs.length=s.length∧St (Value.slice A xs.length c).ownBlock.toList w t [.row (.slice A xs.length c) xs.length 124 3 (s.flatMap cw)]:=by
 obtain⟨zs,n⟩:=CX xs D
 have f:zs.length=xs.length:=by rw[←n,List.length_map]
 have q:zs.flatMap (fun z=>cw z.1)=xs.flatMap cw:=by rw[←n,List.flatMap_map]
 have a:=vQ Tryz.laySort198 3 au (oY Tryz.underlying124) (nR aa) (fun z:He=>cw z.1) (fun z=>bU _) (fun z v C=>vh _ v C) Fg Hm 199 #[] 124 (A:=A) (c:=c) zs w
  (enters_of Tryz.func199 aa rfl) (fun _ _ _ _ _ _ _ _ x y=>zO x y _) (by rw[f,q];exact u) ab
 rw[f] at a
 change Calls Tryz.prog 198 _ _ _ at a
 refine a.mono ?_
 rintro e t ⟨ys,rfl,⟨E,k⟩,j,r⟩
 have b:(ys.map fun z=>z.1).Perm xs:=by rw[←n];exact E.map _
 have d:cC Dty.g (ys.map fun z=>z.1):=rW (List.pairwise_map.2 (k.imp fun {x y} h=>by unfold ltOf Fg at h;simp at h;omega)) (((b.map Dty.g).nodup_iff).2 o);have heq:(ys.map fun z=>z.1)=s:=p6 d B fun x=>(b.mem_iff).trans (hm x)
 have m:ys.flatMap (fun z=>cw z.1)=s.flatMap cw:=by rw[←heq,List.flatMap_map]
 rw[m] at j;exact⟨(),rfl,by rw[←heq];exact b.length_eq.symm,(St.initO u).sub (List.Sublist.refl _) |>.grown (i:=0) rfl j r (.inl rfl)⟩
def rk (e:MapEntry):Int:=match e.key with | .int _ k=>k | _=>0
def Cq {α:Type} (z:α) (g:Int→Option α) (e:MapEntry):α:=(g (rk e)).getD z
section
variable {α:Type} {κ:α→Int} {V:α→Value} {z:α} {l:List α} {es:Array MapEntry} {ck:Nat}
theorem np (h:MapFn es ck (fun i=>(cF κ l i).map V)) {e:MapEntry} (c:e∈es.toList):cF κ l (rk e)=some (Cq z (cF κ l) e)∧e.val=V (Cq z (cF κ l) e)∧e.key=ae (rk e):=by
 obtain⟨k,b,a⟩:=h.key e c
 have d:rk e=k:=by unfold rk;rw[b]
 unfold Cq;rw[d]
 cases hq:cF κ l k with
 | none=>rw[hq] at a;cases a
 | some y=>
  rw[hq] at a;exact⟨rfl,by injection a with a;exact a.symm,b⟩
theorem Dd (h:MapFn es ck (fun i=>(cF κ l i).map V)) {e:MapEntry} (a:e∈es.toList):κ (Cq z (cF κ l) e)=rk e:=(fL (np (z:=z) h a).1).2
theorem pQ (h:MapFn es ck (fun i=>(cF κ l i).map V)) {seen:Array Nat} {out:List MapEntry} (b:Handed es ck seen out):((out.map (Cq z (cF κ l))).map κ).Nodup:=by
 have o:=h.st.2.2
 have a:∀e∈es.toList,∀f∈es.toList,rk e=rk f→e=f:=fun e c f hf n=>by
  obtain⟨i,m,rfl⟩:=List.getElem_of_mem c;obtain⟨j,k,rfl⟩:=List.getElem_of_mem hf;have p:=(np (z:=z) h (List.getElem_mem m)).2.2;have e2:=(np (z:=z) h (List.getElem_mem k)).2.2
  have:(es.toList.map (·.key))[i]'(ar m)=(es.toList.map (·.key))[j]'(ar k):=by
   rw[List.getElem_map,List.getElem_map,p,e2,n]
  have:=(List.getElem_inj o).1 this;subst this;rfl
 have d:=b.nd;unfold List.Nodup at d ⊢;rw[List.pairwise_map] at d;rw[List.pairwise_map,List.pairwise_map];refine d.imp_of_mem fun {e f} c hf g heq=>g ?_;rw[Dd h (b.sub e c),Dd h (b.sub f hf)] at heq;rw[a e (b.sub e c) f (b.sub f hf) heq]
theorem Ds (h:MapFn es ck (fun i=>(cF κ l i).map V)) {seen:Array Nat} {out:List MapEntry} (a:Handed es ck seen out):∀x∈out.map (Cq z (cF κ l)),x∈l:=fun x hx=>by
 obtain⟨e,b,rfl⟩:=List.mem_map.1 hx;exact(fL (np h (a.sub e b)).1).1
theorem Dr (h:MapFn es ck (fun i=>(cF κ l i).map V)) (a:cC κ l) {seen:Array Nat} {out:List MapEntry} (c:Handed es ck seen out) (g:∀e∈es.toList,e∈out):∀x,x∈out.map (Cq z (cF κ l))↔x∈l:=fun x=>⟨Ds h c x,fun hx=>by
 obtain⟨e,d,b,j⟩:=h.all (κ x) (V x) (by rw[gM a hx];rfl)
 have f:rk e=κ x:=by unfold rk;rw[b]
 refine List.mem_map.2 ⟨e,g e d,?_⟩;unfold Cq
 rw[f,gM a hx];rfl⟩
theorem sZ (z:α) (h:MapFn es ck (fun i=>(cF κ l i).map V)) {seen:Array Nat} {out:List MapEntry} (b:Handed es ck seen out):out.length≤l.length:=by
 have a:=pQ (z:=z) h b
 have c:=yx (out.map (Cq z (cF κ l))) l (by
  unfold List.Nodup at a ⊢;rw[List.pairwise_map] at a
  exact a.imp fun h e=>h (by rw[e])) (Ds (z:=z) h b)
 rwa [List.length_map] at c
end
open Go.RowKit Go.Sort Go.Shelf
theorem sm {w X:World} {m:Nat} {o:Obj} (a:Below w.heap.size w X) (h:w.heap[m]? = some o):X.heap[m]? = some o:=(a.block m (Array.getElem?_eq_some_iff.1 h).1).trans h
structure BdTbl (t:Tbl):Prop where
 ts:∀x∈t.ts,0≤x.i∧x.i≤100000
 ds:∀x∈t.ds,0≤x.g∧x.g≤100000
 lt:t.ts.length≤100000
 ld:t.ds.length≤100000
theorem uE (t:Tbl) (bt I Q:Nat) (w:World) (hB:Box w bt #[.map (some I),.map (some Q)] 228) (Vg:MapF w I (qK (eK t.ts))) (Vi:MapF w Q (ru (dS t.ds))) (hs:SrtT t) (P:BdTbl t) :
 Calls Tryz.prog 131 #[.pointer (some ⟨bt,0,none⟩)] w fun e w'=>∃i:Option Addr × Nat × Option Addr × Nat,e=.returned (bW t i.1 i.2.1 i.2.2.1 i.2.2.2) ∧
  St [] w w' [.row (.slice i.1 t.ts.length i.2.1) t.ts.length 116 4 (t.ts.flatMap cc),.row (.slice i.2.2.1 t.ds.length i.2.2.2) t.ds.length 124 3 (t.ds.flatMap cw)]:=by
 obtain⟨y,a,K,b⟩:=Vg;obtain⟨C,c,G,f⟩:=Vi;obtain⟨A,J⟩:∃A:MapEntry→Trn,A=Cq qA (eK t.ts):=⟨_,rfl⟩;obtain⟨H,L⟩:∃H:MapEntry→Dty,H=Cq ⟨0,false,0⟩ (dS t.ds):=⟨_,rfl⟩;refine aq (N:=45) Tryz.func131 rfl rfl rfl (fun _ Y=>?_);have Z:=St.init w;refine ai (an ?_);refine na (.agg fX) Y rfl Z fun b2 _ _ Zj Y Z=>mM ?_;refine na (.agg fX) Y rfl Z fun O _ _ Zk Y Z=>GO 7 ?_;intro _ Y;refine sv Y (fy 0 (Y.ev rfl)) fun _ Y=>?_;refine sv Y (lx (Y.ev rfl) ((hB.below Z.below).cells 0)) fun _ Y=>?_;refine r8 (m:=I) (es:=y) (clock:=a) Y (wn rfl) rfl rfl rfl qc (Y.ev rfl) Z (sm Z.below K) fun j _ _ Vy Y Z=>?_;replace Z:=St.nilRow Z 116 4;refine ah (aj (wp_block ?_));refine aY Y Z [12,3,2,0] (fun (q:List MapEntry × Array Nat × Option Addr × Nat)=>[]) (fun (q:List MapEntry × Array Nat × Option Addr × Nat)=>Handed y a q.2.1 q.1) (fun q _=>[.row (.slice q.2.2.1 q.1.length q.2.2.2) q.1.length 116 4 ((q.1.map A).flatMap cc),jB j I a q.2.1 a,.box O #[.slice q.2.2.1 q.1.length q.2.2.2,.slice none 0 0] 25,.box b2 #[.slice none 0 0,.slice none 0 0] 25]) (fun (q:List MapEntry × Array Nat × Option Addr × Nat)=>t.ts.length-q.1.length) (([],#[],none,0)) (Handed.nil y a) bN (Z) ?_;intro q _ _ Zc Y Z;refine ai (an ?_);refine uZ (out:=q.1) Y (wn rfl) rfl rfl rfl (Y.ev rfl) Z (i:=1) rfl (sm Z.below K) b.st ⟨rfl,Nat.le_refl _⟩ Zc fun U _ X9 Y T X Z Vo=>sv Y (Bb (Y.ev rfl)) fun _ Y=>?_;refine ah (aj (ai ?_));refine ak (Y.ev rfl) (fun Ze=>?_) (fun Ze=>?_)
 ·
  obtain⟨h,rfl⟩:=Option.isSome_iff_exists.1 Ze;obtain⟨p,W⟩:=X h rfl;have M:=sZ (κ:=Trn.i) (V:=e9) qA b W;rw[List.length_append,List.length_singleton] at M
  have Vv:(q.1 ++ [h]).length=q.1.length+1:=by rw[List.length_append];rfl
  have Vm:=P.lt;have Vd:=P.ld;refine wp_skip (aj (wp_block (ai (an ?_))));refine sv Y (rF (Y.ev rfl) (Z.at_ (i:=1) rfl) (sm Z.below K) p b.st) fun _ Y=>?_;refine sv Y (aA (v':=e9 (A h)) (by rw[J];exact(np (κ:=Trn.i) (V:=e9) (z:=qA) b p).2.1) (cb (Y.ev rfl) rfl)) fun _ Y=>?_;refine na (.agg lG) Y rfl Z fun b5 _ _ Zl Y Z=>sw Y Z 0 fun _ Z=>?_;refine GO 5 ?_;intro _ Y;refine sv (v:=e9 (A h)) Y (ag aa aa (Y.ev rfl) (Z.cellsAll (i:=0) rfl)) fun _ Y=>?_;refine cX (zc:=nV) (sz:=4) Y (wn rfl) ⟨rfl,rfl⟩ rfl ed aa aa rfl rfl rfl (Y.evs2 rfl) rfl rfl rfl Z fun Vu _ _ Zg Y Z=>bP (z:=.agg lG) (sz:=4) (bytes:=32) Y (wn rfl) ⟨rfl,rfl⟩ rfl ed aa rfl rfl (Y.ev rfl) (Y.ev rfl) Z (i:=2) rfl (Z.boxRd (i:=0) rfl) rfl (List.all_eq_true.1 rfl) ⟨ab,by decide⟩ fun Vh Vl _ _ Y Z=>?_;refine GO 1 ?_;intro _ Y;refine aM Y (wn rfl) ⟨rfl,rfl⟩ (Y.ev rfl) (Y.ev rfl) rfl aa Z (i:=4) rfl rfl rfl fun _ Z=>ah (ez (aj ?_));exact⟨(q.1 ++ [h],q.2.1.push h.born,Vh,Vl),(by show t.ts.length-(q.1 ++ [h]).length<_;omega),W,Y.re bN,(by show St [] w _ [.row (.slice _ (q.1 ++ [h]).length _) (q.1 ++ [h]).length _ _ (((q.1 ++ [h]).map A).flatMap cc),_,.box O #[.slice _ (q.1 ++ [h]).length _,_] _,_];rw[List.length_append,List.map_append,List.flatMap_append];exact(Z.sub (aL 60)))⟩
 ·
  obtain rfl:U=none:=by cases U with | none=>rfl | some e=>cases Ze
  have F:=T rfl;obtain⟨s,d,r,c1⟩:=q;obtain⟨xs,n⟩:∃xs,xs=s.map A:=⟨_,rfl⟩
  have Va:s.length=xs.length:=by rw[n,List.length_map]
  have Jy:∀x,x∈xs↔x∈t.ts:=by rw[n,J];exact Dr (κ:=Trn.i) (V:=e9) b hs.ts Zc F
  have Vc:(xs.map Trn.i).Nodup:=by rw[n,J];exact pQ (κ:=Trn.i) (V:=e9) b Zc
  have Vt:xs.length≤t.ts.length:=by rw[←Va];exact sZ (κ:=Trn.i) (V:=e9) qA b Zc
  have Vk:∀x∈xs,0≤x.i∧x.i≤100000:=fun x hx=>P.ts x ((Jy x).1 hx);have Vm:=P.lt;have Vd:=P.ld
  replace Z:St [] w X9 [.row (.slice r xs.length c1) xs.length 116 4 (xs.flatMap cc),jB j I a d a,.box O #[.slice r xs.length c1,.slice none 0 0] 25,.box b2 #[.slice none 0 0,.slice none 0 0] 25]:=by rw[←Va,n];exact Z
  refine GO 10 ?_;intro _ Y;refine sv Y (fy 1 (Y.ev rfl)) fun _ Y=>?_;refine sv Y (lx (Y.ev rfl) ((hB.below Z.below).cells 1)) fun _ Y=>?_;refine r8 (m:=Q) (es:=C) (clock:=c) Y (wn rfl) rfl rfl rfl pq (Y.ev rfl) Z (sm Z.below G) fun R _ _ Vx Y Z=>?_;replace Z:=St.nilRow Z 124 3;refine ah (aj (wp_block ?_));refine aY Y Z [27,3,2] (fun (q:List MapEntry × Array Nat × Option Addr × Nat)=>[]) (fun (q:List MapEntry × Array Nat × Option Addr × Nat)=>Handed C c q.2.1 q.1) (fun q _=>[.row (.slice q.2.2.1 q.1.length q.2.2.2) q.1.length 124 3 ((q.1.map H).flatMap cw),jB R Q c q.2.1 c,.row (.slice r xs.length c1) xs.length 116 4 (xs.flatMap cc),jB j I a d a,.box O #[.slice r xs.length c1,.slice q.2.2.1 q.1.length q.2.2.2] 25,.box b2 #[.slice none 0 0,.slice none 0 0] 25]) (fun (q:List MapEntry × Array Nat × Option Addr × Nat)=>t.ds.length-q.1.length) (([],#[],none,0)) (Handed.nil C c) bN (Z) ?_;intro q _ _ Zd Y Z;refine ai (an ?_);refine uZ (out:=q.1) Y (wn rfl) rfl rfl rfl (Y.ev rfl) Z (i:=1) rfl (sm Z.below G) f.st ⟨rfl,Nat.le_refl _⟩ Zd fun Jv _ Zh Y Jw Jz Z Vp=>sv Y (Bb (Y.ev rfl)) fun _ Y=>?_;refine ah (aj (ai ?_));refine ak (Y.ev rfl) (fun Zf=>?_) (fun Zf=>?_)
  ·
   obtain⟨e2,rfl⟩:=Option.isSome_iff_exists.1 Zf;obtain⟨o,Vb⟩:=Jz e2 rfl;have B:=sZ (κ:=Dty.g) (V:=fV) ⟨0,false,0⟩ f Vb;rw[List.length_append,List.length_singleton] at B
   have Vs:(q.1 ++ [e2]).length=q.1.length+1:=by rw[List.length_append];rfl
   refine wp_skip (aj (wp_block (ai (an ?_))));refine sv Y (rF (Y.ev rfl) (Z.at_ (i:=1) rfl) (sm Z.below G) o f.st) fun _ Y=>?_;refine sv Y (aA (v':=fV (H e2)) (by rw[L];exact(np (κ:=Dty.g) (V:=fV) (z:=⟨0,false,0⟩) f o).2.1) (cb (Y.ev rfl) rfl)) fun _ Y=>?_;refine na (.agg ln) Y rfl Z fun b7 _ _ Zm Y Z=>sw Y Z 0 fun _ Z=>?_;refine GO 5 ?_;intro _ Y;refine sv (v:=fV (H e2)) Y (ag aa aa (Y.ev rfl) (Z.cellsAll (i:=0) rfl)) fun _ Y=>?_;refine cX (zc:=pZ) (sz:=3) Y (wn rfl) ⟨rfl,rfl⟩ rfl eP aa aa rfl rfl rfl (Y.evs2 rfl) rfl rfl rfl Z fun Vz _ _ Zi Y Z=>bP (z:=.agg ln) (sz:=3) (bytes:=24) Y (wn rfl) ⟨rfl,rfl⟩ rfl eP aa rfl rfl (Y.ev rfl) (Y.ev rfl) Z (i:=2) rfl (Z.boxRd (i:=0) rfl) rfl (List.all_eq_true.1 rfl) ⟨ab,by decide⟩ fun Vn Vj _ _ Y Z=>?_;refine GO 1 ?_;intro _ Y;refine aM Y (wn rfl) ⟨rfl,rfl⟩ (Y.ev rfl) (Y.ev rfl) rfl aa Z (i:=6) rfl rfl rfl fun _ Z=>ah (ez (aj ?_));exact⟨(q.1 ++ [e2],q.2.1.push e2.born,Vn,Vj),(by show t.ds.length-(q.1 ++ [e2]).length<_;omega),Vb,Y.re bN,(by show St [] w _ [.row (.slice _ (q.1 ++ [e2]).length _) (q.1 ++ [e2]).length _ _ (((q.1 ++ [e2]).map H).flatMap cw),_,_,_,.box O #[_,.slice _ (q.1 ++ [e2]).length _] _,_];rw[List.length_append,List.map_append,List.flatMap_append];exact(Z.sub (aL 252)))⟩
  ·
   obtain rfl:Jv=none:=by cases Jv with | none=>rfl | some e=>cases Zf
   have D:=Jw rfl;obtain⟨u,E,A2,c2⟩:=q;obtain⟨ys,k⟩:∃ys,ys=u.map H:=⟨_,rfl⟩
   have Jx:u.length=ys.length:=by rw[k,List.length_map]
   have S:∀x,x∈ys↔x∈t.ds:=by rw[k,L];exact Dr (κ:=Dty.g) (V:=fV) f hs.ds Zd D
   have Vf:(ys.map Dty.g).Nodup:=by rw[k,L];exact pQ (κ:=Dty.g) (V:=fV) f Zd
   have Vq:ys.length≤t.ds.length:=by rw[←Jx];exact sZ (κ:=Dty.g) (V:=fV) ⟨0,false,0⟩ f Zd
   have Ve:∀x∈ys,0≤x.g∧x.g≤100000:=fun x hx=>P.ds x ((S x).1 hx)
   replace Z:St [] w Zh [.row (.slice A2 ys.length c2) ys.length 124 3 (ys.flatMap cw),jB R Q c E c,.row (.slice r xs.length c1) xs.length 116 4 (xs.flatMap cc),jB j I a d a,.box O #[.slice r xs.length c1,.slice A2 ys.length c2] 25,.box b2 #[.slice none 0 0,.slice none 0 0] 25]:=by rw[←Jx,k];exact Z
   refine GO 9 ?_;intro _ Y;refine gD Y (wn rfl) (az bc (Y.evs rfl) rfl) rfl rfl Z (i:=2) rfl oQ (Aj t.ts xs hs.ts Jy Vc Vk r c1 _ (Z.at_ (i:=2) rfl) ab) fun Vw _ _ Y Za Z=>?_;refine GO 6 ?_;intro _ Y;refine gD Y (wn rfl) (az bc (Y.evs rfl) rfl) rfl rfl Z (i:=0) rfl oQ (Ag t.ds ys hs.ds S Vf Ve A2 c2 _ (Z.at_ (i:=0) rfl) ab) fun Vr _ _ Y Zb Z=>?_;refine mM ?_;refine sv Y (ag aa aa (Y.ev rfl) (Z.cellsAll (i:=4) rfl)) fun _ Y=>?_;refine sw Y Z 5 fun _ Z=>?_;refine ah (aj (wp_ret ?_));refine mz Y rfl rfl Z (i:=5) rfl aa aa ?_;refine⟨(r,c1,A2,c2),?_,?_⟩
   · rw[Za,Zb];rfl
   · have q9:=St.swap (Z.sub (aL 5))
     rw[Za,Zb] at q9;exact q9
open Go.RowKit Go.Sort Go.Shelf
theorem ma (t:Tbl) (A:Option Addr) (c:Nat) (B:Option Addr) (d:Nat) (w:World) (hr:Rd w w.heap.size A (t.ts.flatMap cc)) (h:Rd w w.heap.size B (t.ds.flatMap cw)) (b:SrtT t) (j:t.ts.length≤1000∧t.ds.length≤1000) :
 Calls Tryz.prog 128 #[bW t A c B d] w fun e a=>∃i:Nat × Nat × Nat,e=.returned (.pointer (some ⟨i.1,0,none⟩))∧St [] w a [ot i.1 i.2.1 i.2.2 t]:=
 (n0 t A c B d w hr h b j).mono fun e a ⟨i,g,f⟩=>⟨i,g,Bt f⟩
theorem vb (t:Tbl) (r:Rcd) (j g k:Nat) (w:World) (h:(ot j g k t).ok w) :
 Calls Tryz.prog 130 #[.pointer (some ⟨j,0,none⟩),ae r.l,cZ r.e] w fun e v=>∃p:Unit,e=.returned (.tuple #[])∧True∧St [j,g,k] w v [ot j g k (eY t r)]:=by
 obtain⟨hB,f,d,n⟩:=h;refine(Ef t r j g k w hB f d n).mono ?_
 rintro e v ⟨rfl,a⟩
 have o:l9 w [g,k]:=fun b c=>by
  rcases List.mem_cons.1 c with rfl | c
  · exact f.noCells
  · rw[List.mem_singleton.1 c];exact d.noCells
 have u:=a.at_ (i:=0) rfl;have s:=a.at_ (i:=1) rfl;have m:=a.keptL.box o hB;refine⟨(),rfl,trivial,a.os,a.tape,a.output,a.size,fun b c x=>a.block b c (fun h=>x (List.mem_cons_of_mem _ h)),fun e q=>?_,fun e q b c=>?_,List.pairwise_singleton _ _⟩
 · rw[List.mem_singleton.1 q];exact⟨m,u,s,n⟩
 · rw[List.mem_singleton.1 q] at c
   rcases c with rfl | rfl | rfl
   · exact⟨.inr bm,m.lt⟩
   · exact⟨.inr bm,MapF.lt u⟩
   · exact⟨.inr bm,MapF.lt s⟩
theorem Cv (s:List UInt8):SrtT (dg s)∧(∀x∈(dg s).ts,0≤x.i∧x.i≤100000)∧(∀x∈(dg s).ds,0≤x.g∧x.g≤100000)∧(dg s).ts.length≤60∧(dg s).ds.length≤60:=by
 unfold dg
 split
 · rename_i h
   have d:dz (dT s)=0:=by
    unfold gE at h
    split at h
    · cases h
    · split at h
      · cases h
      · rw[aS] at h
        exact h _ (.tail _ (.head _))
   have b:=tblE_zero.1 d;refine⟨b.srt,fun x hx=>?_,fun x hx=>?_,b.n,b.m⟩
   · obtain⟨k,a,rfl⟩:=List.getElem_of_mem hx
     have c:=(b.ts k a).i;omega
   · obtain⟨k,a,rfl⟩:=List.getElem_of_mem hx
     have c:=(b.ds k a).g;omega
 · exact⟨pJ,fun x hx=>(by cases hx),fun x hx=>(by cases hx),by decide,by decide⟩
structure BdN (n:Nat) (t:Tbl):Prop where
 ts:∀x∈t.ts,0≤x.i∧x.i≤100000
 ds:∀x∈t.ds,0≤x.g∧x.g≤100000
 lt:t.ts.length≤n
 ld:t.ds.length≤n
theorem vU {α:Type} {κ:α→Int} (l:List α) (x:α):(ly κ l x).length≤l.length+1:=by
 unfold ly;rw[List.length_append,List.length_cons]
 have:(l.filter fun y=>decide (κ y<κ x)).length+(l.filter fun y=>decide (κ x<κ y)).length≤l.length:=by
  induction l with
  | nil=>simp
  | cons y l ih=>
   rw[List.filter_cons,List.filter_cons];by_cases a:κ y<κ x
   · rw[if_pos (ar a),if_neg (by simp;omega)];simp only[List.length_cons];omega
   · rw[if_neg (ar a)]
     split<;>simp only[List.length_cons]<;>omega
 omega
theorem uC {α:Type} {κ:α→Int} {l:List α} {x y:α} (h:y∈ly κ l x):y=x∨y∈l:=by
 unfold ly at h;rcases List.mem_append.1 h with h | h
 · exact .inr (List.mem_filter.1 h).1
 · rcases List.mem_cons.1 h with h | h
   · exact .inl h
   · exact .inr (List.mem_filter.1 h).1
theorem BdN.chg {n:Nat} {t:Tbl} (h:BdN n t) {x:Rcd} (hx:cD x.e=0):BdN (n+1) (eY t x):=by
 obtain⟨d,_,_,c⟩:=wO hx;unfold eY
 split
 · exact⟨h.ts,h.ds,Nat.le_succ_of_le h.lt,Nat.le_succ_of_le h.ld⟩
 · refine⟨fun y a=>?_,fun y a=>?_,?_,?_⟩
   · have a:y∈(if x.e.k=4 then s9 Trn.i t.ts x.e.t else ly Trn.i t.ts (vT t x)):=a
     split at a
     · exact h.ts y (List.mem_filter.1 a).1
     · rcases uC a with rfl | a
       · show 0≤x.e.t∧x.e.t≤100000;omega
       · exact h.ts y a
   · have a:y∈lq t x:=a
     unfold lq at a
     split at a
     · rcases uC a with rfl | a
       · show 0≤x.e.g∧x.e.g≤100000;omega
       · exact h.ds y a
     · exact h.ds y a
   · show(if x.e.k=4 then s9 Trn.i t.ts x.e.t else ly Trn.i t.ts (vT t x)).length≤n+1
     have b:=h.lt
     split
     · have:=List.length_filter_le (fun y=>decide (Trn.i y≠x.e.t)) t.ts
       unfold s9;omega
     · have:=vU (κ:=Trn.i) t.ts (vT t x);omega
   · show(lq t x).length≤n+1
     have b:=h.ld;unfold lq
     split
     · have:=vU (κ:=Dty.g) t.ds ⟨x.e.g,x.e.f,x.l⟩;omega
     · omega
theorem BdN.fold:∀{l:List Rcd} {n:Nat} {t:Tbl},BdN n t→(∀x∈l,cD x.e=0)→BdN (n+l.length) (l.foldl eY t)
 | [],_,_,h,_=>h
 | x::l,n,t,h,hx=>by
  have:=(h.chg (hx x (List.mem_cons_self))).fold (fun y a=>hx y (List.mem_cons_of_mem _ a)) (l:=l);rw[List.length_cons,show n+(l.length+1)=n+1+l.length by omega];exact this
def iw (l:List Rcd) (a:Int):List Rcd:=l.filter fun y=>decide (a<y.l)
theorem kz (l:List Rcd) (a:Int) {j:Nat} (b:j<l.length):iw (l.take (j+1)) a=if a<l[j].l then iw (l.take j) a ++ [l[j]] else iw (l.take j) a:=by
 unfold iw;rw[List.take_succ_eq_append_getElem b,List.filter_append,List.filter_cons];by_cases h:a<l[j].l
 · rw[if_pos (ar h),if_pos h];rfl
 · rw[if_neg (ar h),if_neg h];simp
theorem iK {l:List Rcd} (a:cC Rcd.l l) {A:Option Addr} {n:Int} {w:World} {B:Nat} (hr:Rd w B A (l.flatMap cm)) (h:(nw A l n).isNone=false):∃b o,A=some ⟨b,o,none⟩∧∃g:jN Rcd.l l n<l.length,l[jN Rcd.l l n].l=n∧dx l n=some l[jN Rcd.l l n]∧nw A l n=some ⟨b,o+jN Rcd.l l n*14+1,none⟩:=by
 have i:lI Rcd.l l n=true:=by
  unfold nw at h
  split at h
  · assumption
  · cases h
 obtain⟨g,_,_⟩:=kE a i;obtain⟨b,o,rfl,_⟩:=hr.opened (aQ aO au ab);obtain⟨e,c,d,f⟩:=rV a h;exact⟨b,o,rfl,e,c,d,f⟩
theorem qa {l:List Rcd} (c:cC Rcd.l l) {A:Option Addr} {n:Int} {w:World} {B:Nat} (hr:Rd w B A (l.flatMap cm)) (h:(nw A l n).isNone=true):dx l n=none:=by
 rcases Nat.eq_zero_or_pos l.length with a | a
 · rw[List.eq_nil_of_length_eq_zero a];rfl
 · obtain⟨b,o,rfl,_⟩:=hr.opened (aQ aO au a)
   exact rR h
def A3 (l:List Rcd) (a:Int):Bool:=match dx l a with | none=>false | some x=>x.e.k != 5
theorem D9 {l:List Rcd} (h:∀x∈l,1≤x.l):iw l 0=l:=List.filter_eq_self.2 fun x hx=>by have:=h x hx;simp;omega
theorem tt (l:List Rcd) (A:Option Addr) (c:Nat) (a:Int) (w:World) (hr:Rd w w.heap.size A (l.flatMap cm)) (hv:VldH l l.length) (hl:l.length≤1000) (hx:∀x∈l,FewE x.e) :
 Calls Tryz.prog 78 #[.slice A l.length c,ae a] w fun e w'=>∃i:Option Addr × Nat × Option Addr × Nat,e=.returned (.tuple #[bW (iI l a).1 i.1 i.2.1 i.2.2.1 i.2.2.2,ae (iI l a).2]) ∧
  St [] w w' [.row (.slice i.1 (iI l a).1.ts.length i.2.1) (iI l a).1.ts.length 116 4 ((iI l a).1.ts.flatMap cc),.row (.slice i.2.2.1 (iI l a).1.ds.length i.2.2.2) (iI l a).1.ds.length 124 3 ((iI l a).1.ds.flatMap cw)]:=by
 have J:cC Rcd.l l:=by have:=hv.srt;rwa [List.take_length] at this
 have Jv:∀x∈l,cD x.e=0:=fun x hx=>by
  obtain⟨k,hk,rfl⟩:=List.getElem_of_mem hx;exact(hv.e0 hk).2.2
 refine aq (N:=67) Tryz.func78 rfl rfl rfl (fun _ Y=>?_);have Z:=St.init w;refine ai (an ?_);refine na (.agg fX) Y rfl Z fun b4 _ _ Zn Y Z=>GO 5 ?_;intro _ Y;refine sv (v:=bW iu none 0 none 0) Y (ay (zs:=l5) (pl:=kT) aa aa (Y.evs2 rfl) rfl rfl) fun _ Y=>?_;refine df Y (wn rfl) (az bc (Y.evs rfl) rfl) rfl rfl Z (ma iu none 0 none 0 _ (Rd.nil _ _ _) (Rd.nil _ _ _) pJ au) fun Jw _ X4 Y Z=>GO 1 ?_;intro _ Y;obtain⟨C,B,y⟩:=Jw;refine GO 9 ?_;intro _ Y;refine ak (Y.ev rfl) (fun Zf=>?_) (fun Zf=>?_)
 ·
  have ha:a≠0:=ar Zf;refine GO 4 ?_;intro _ Y;refine cN Y rfl Z (kq l J A c a _ (Z.rd0 hr) hl) fun _ _ Y Z=>?_;refine GO 7 ?_;intro _ Y;refine sv Y (mi tk aa (Y.ev rfl) (Y.ev rfl)) fun _ Y=>?_;refine GO 1 ?_;intro _ Y;apply bI (x:=A3 l a) Y Z 23 rfl 6 29
  case hf=>
   intro Ze;obtain⟨b',o',rfl,X,q1,W,q3⟩:=iK J hr Ze;refine sy Y (aA (v':=.pointer (some ⟨b',o'+jN Rcd.l l a*14+1,none⟩)) (congrArg Value.pointer q3) (bQ (Y.ev rfl))) fun _ Y=>?_;refine GO 1 ?_;intro _ Y;refine sy Y (fy 0 (Y.ev rfl)) fun _ Y=>?_;refine sy Y (lx (Y.ev rfl) ((ff (Z.rd0 hr) X) 0 _ rfl)) fun _ Y=>?_;refine sy Y (aA (v':=.bool (A3 l a)) (congrArg Value.bool (by unfold A3;rw[W])) (kW (Y.ev rfl) (Y.ev rfl))) fun _ Y=>?_;refine GO 1 ?_;intro _ Y;exact ah ⟨Y.midE 5,Z⟩
  case ht=>
   intro Ze;refine GO 6 ?_;intro _ Y;exact ah ⟨Y.midE 5,Z⟩
  case h=>
   rintro Vf Zo ⟨U,Zg⟩
   refine ah (aj ?_);refine ak (U.ev rfl) (fun Zh=>?_) (fun Zh=>?_)
   ·
    have K:iI l a=(iu,6):=by
     unfold iI;rw[if_neg ha];rcases Bool.or_eq_true_iff.1 Zh with R | R
     · rw[qa J hr R]
     · unfold A3 at R
       cases hq:dx l a with
       | none=>rfl
       | some x=>rw[hq] at R;simp only[];rw[if_pos (ar R)]
    refine ai (an ?_);refine sv U (ay (zs:=l5) (pl:=kT) aa aa (U.evs2 rfl) rfl rfl) fun _ Y=>?_;refine sw Y Zg 1 fun _ Z=>?_;refine GO 6 ?_;intro _ Y;refine br Y rfl rfl rfl Z (i:=1) rfl aa aa ?_;refine⟨(none,0,none,0),by rw[K];rfl,?_⟩;rw[K];exact((Z.sub (List.nil_sublist _)).nilRow 124 3).nilRow 116 4
   ·
    obtain⟨R,r2⟩:=Bool.or_eq_false_iff.1 Zh;obtain⟨b',o',rfl,X,q1,W,q3⟩:=iK J hr R
    have r3:l[jN Rcd.l l a].e.k=5:=by unfold A3 at r2;rw[W] at r2;simpa using r2
    generalize jN Rcd.l l a=k at X q1 W q3 r3 U;have Jx:=hx _ (List.getElem_mem X);refine wp_skip (aj (ai (an ?_)));refine sv U (aA (v':=.pointer (some ⟨b',o'+k*14+1,none⟩)) (congrArg Value.pointer q3) (bQ (U.ev rfl))) fun _ Y=>?_;refine GO 1 ?_;intro _ Y;refine sv Y (fy 12 (Y.ev rfl)) fun _ Y=>?_;refine sv Y (lx (Y.ev rfl) ((ff (Zg.rd0 hr) X) 12 _ rfl)) fun _ Y=>?_;refine df Y (wn rfl) (az bc (Y.evs rfl) rfl) rfl rfl Zg (nL (bl l[k].e.d) _ Jx.d) fun p _ _ Y Z=>GO 1 ?_;intro _ Y;refine sv (v:=bW (dg (bl l[k].e.d)) p.1 p.2.1 p.2.2.1 p.2.2.2) Y (cb (Y.ev rfl) rfl) fun _ Y=>?_;refine GO 1 ?_;intro _ Y;refine na (.agg fX) Y rfl Z fun b8 _ _ Zp Y Z=>sw Y Z 0 fun _ Z=>?_;refine GO 1 ?_;intro _ Y;obtain⟨g1,g2,g3,g4,g5⟩:=Cv (bl l[k].e.d);refine ah (aj (an ?_));refine sv (v:=bW (dg (bl l[k].e.d)) p.1 p.2.1 p.2.2.1 p.2.2.2) Y (ag aa aa (Y.ev rfl) (Z.cellsAll (i:=0) rfl)) fun _ Y=>?_;refine df Y (wn rfl) (az bc (Y.evs rfl) rfl) rfl rfl Z (ma (dg (bl l[k].e.d)) p.1 p.2.1 p.2.2.1 p.2.2.2 _ (Z.rdOf (i:=1) rfl) (Z.rdOf (i:=2) rfl) g1 ab) fun Vc _ Zm Y Z=>?_;refine GO 1 ?_;intro _ Y;obtain⟨C,B,y⟩:=Vc;obtain⟨q,r⟩:∃q,q=dg (bl l[k].e.d):=⟨_,rfl⟩
    have S:SrtT q:=by rw[r];exact g1
    have P:BdN 60 q:=by rw[r];exact⟨g2,g3,g4,g5⟩
    have Q:iI l a=Bp q (iw l a):=by unfold iI;rw[if_neg ha,W];simp only[];rw[if_neg (by rw[r3];decide),r];rfl
    replace Z:St [] w Zm [ot C B y (((iw (l.take 0) a)).foldl eY q),.box b4 #[.slice none 0 0,.slice none 0 0] 25]:=by rw[r];exact(Z.sub (aL 33))
    refine GO 11 ?_;intro _ Y;refine aY Y Z [42,41,6,5,4,1] (fun (j:Nat)=>[(43,ae j)]) (fun (j:Nat)=>j≤l.length) (fun j L=>L.set 0 (ot C B y ((iw (l.take j) a).foldl eY q))) (fun (j:Nat)=>l.length-j) (0) (Nat.zero_le _) bN (Z) ?_;intro j _ _ Zi Y Z;refine GO 6 ?_;intro _ Y;refine ak (Y.ev rfl) (fun T=>?_) (fun T=>?_)
    ·
     have n:j<l.length:=by have:=of_decide_eq_true T;omega
     obtain⟨b5,o5,D,Vd,_⟩:=hr.opened (aQ aO au ab);have F:=hr;rw[D] at F;refine wp_skip (aj (ai (wp_block (ai (an ?_)))));refine sv Y (av (b:=b5) (o:=o5) (i:=j) (sz:=14) gk aa ((Y.ev rfl).trans (congrArg (fun A=>Value.slice A l.length c) D)) (Y.ev rfl) rfl n rfl) fun _ Y=>?_;refine sv (v:=gV l[j]) Y (ag aa aa (Y.ev rfl) (aZ aO (Z.rd0 F) n)) fun _ Y=>?_;refine na (.agg qU) Y rfl Z fun Va _ _ Zj Y Z=>sw Y Z 0 fun _ Z=>?_;refine GO 10 ?_;intro _ Y;refine ak (Y.ev rfl) (fun M=>?_) (fun M=>?_)
     ·
      have t:a<l[j].l:=of_decide_eq_true M;refine GO 5 ?_;intro _ Y;refine sv (v:=cZ l[j].e) Y (ag aa aa (Y.ev rfl) (Z.cellsOf (i:=0) rfl 1 13)) fun _ Y=>?_;refine gD Y (wn rfl) (az bc (Y.evs rfl) rfl) rfl rfl Z (i:=1) rfl (fun b H=>by rcases List.mem_cons.1 H with h | H;exact .inl h;rcases List.mem_cons.1 H with h | H;exact .inr (.inl h);exact .inr (.inr (List.mem_singleton.1 H))) (vb _ l[j] C B y _ (Z.at_ (i:=1) rfl)) fun Jz _ _ Y Zk Z=>GO 8 ?_;intro _ Y;exact⟨j+1,by omega,n,Y.re bN,(by have I:=kz l a n;rw[if_pos t] at I;show St [] w _ [ot C B y ((iw (l.take (j+1)) a).foldl eY q),_];rw[I,List.foldl_append];exact(Z.sub (aL 6)))⟩
     ·
      have t:¬a<l[j].l:=of_decide_eq_false M;refine GO 8 ?_;intro _ Y;exact⟨j+1,by omega,n,Y.re bN,(by have I:=kz l a n;rw[if_neg t] at I;show St [] w _ [ot C B y ((iw (l.take (j+1)) a).foldl eY q),_];rw[I];exact(Z.sub (aL 6)))⟩
    ·
     have Jy:l.length≤j:=by have:=of_decide_eq_false T;omega
     obtain rfl:j=l.length:=by have:=Zi;omega
     obtain⟨m,s⟩:∃m,m=(iw l a).foldl eY q:=⟨_,rfl⟩;have Ve:(iw l a).length≤l.length:=List.length_filter_le _ _
     have G:SrtT m:=by rw[s];exact S.fold
     have E:BdTbl m:=by
      have:=P.fold (l:=iw l a) (fun x hx=>Jv x (List.mem_filter.1 hx).1);rw[s];exact⟨this.ts,this.ds,by have:=this.lt;omega,by have:=this.ld;omega⟩
     have g:iI l a=if dz m≠0 then (iu,dz m) else (m,0):=by rw[Q,s];rfl
     rw[List.take_length,←s] at Z;refine GO 8 ?_;intro _ Y;refine df Y (wn rfl) (az bc (Y.evs rfl) rfl) rfl rfl Z (uE m C B y _ (Z.at_ (i:=0) rfl).1 (Z.at_ (i:=0) rfl).2.1 (Z.at_ (i:=0) rfl).2.2.1 G E) fun f _ _ Y Z=>na (.agg fX) Y rfl Z fun Vb _ _ Zl Y Z=>sw Y Z 0 fun _ Z=>?_;refine ah (aj (ai (ai (an ?_))));refine sv (v:=bW m f.1 f.2.1 f.2.2.1 f.2.2.2) Y (ag aa aa (Y.ev rfl) (Z.cellsAll (i:=0) rfl)) fun _ Y=>?_;refine cN Y rfl Z (da m f.1 f.2.1 f.2.2.1 f.2.2.2 _ (Z.rdOf (i:=1) rfl) (Z.rdOf (i:=2) rfl)) fun _ _ Y Z=>?_;refine GO 9 ?_;intro _ Y;refine ak (Y.ev rfl) (fun O=>?_) (fun O=>?_)
     ·
      have u:dz m≠0:=ar O;rw[if_pos u] at g;refine ai (an ?_);refine sv Y (ay (zs:=l5) (pl:=kT) aa aa (Y.evs2 rfl) rfl rfl) fun _ Y=>?_;refine GO 1 ?_;intro _ Y;refine sw Y Z 4 fun _ Z=>?_;refine GO 5 ?_;intro _ Y;refine br Y rfl rfl rfl Z (i:=4) rfl aa aa ?_;refine⟨(none,0,none,0),by rw[g];rfl,?_⟩;rw[g];exact((Z.sub (List.nil_sublist _)).nilRow 124 3).nilRow 116 4
     ·
      have u:¬dz m≠0:=ar O;rw[if_neg u] at g;refine wp_skip (aj (ai (an ?_)));refine sv (v:=bW m f.1 f.2.1 f.2.2.1 f.2.2.2) Y (ag aa aa (Y.ev rfl) (Z.cellsAll (i:=0) rfl)) fun _ Y=>?_;refine sw Y Z 4 fun _ Z=>?_;refine GO 4 ?_;intro _ Y;refine br Y rfl rfl rfl Z (i:=4) rfl aa aa ?_;refine⟨f,by rw[g];rfl,?_⟩;rw[g];exact(Z.sub (aL 6))
 ·
  have ha:a=0:=ar Zf;obtain⟨q,r⟩:∃q,q=iu:=⟨_,rfl⟩
  have S:SrtT q:=by rw[r];exact pJ
  have P:BdN 60 q:=by rw[r];exact⟨fun x hx=>(by cases hx),fun x hx=>(by cases hx),by decide,by decide⟩
  have Q:iI l a=Bp q (iw l a):=by
   unfold iI;rw[if_pos ha,r,ha,D9];intro x hx;obtain⟨k,hk,rfl⟩:=List.getElem_of_mem hx;exact(hv.e0 hk).1
  replace Z:St [] w X4 [ot C B y (((iw (l.take 0) a)).foldl eY q),.box b4 #[.slice none 0 0,.slice none 0 0] 25]:=by rw[r];exact Z
  refine GO 11 ?_;intro _ Y;refine aY Y Z [42,41,6,5,4,1] (fun (j:Nat)=>[(43,ae j)]) (fun (j:Nat)=>j≤l.length) (fun j L=>L.set 0 (ot C B y ((iw (l.take j) a).foldl eY q))) (fun (j:Nat)=>l.length-j) (0) (Nat.zero_le _) bN (Z) ?_;intro j _ _ Zi Y Z;refine GO 6 ?_;intro _ Y;refine ak (Y.ev rfl) (fun T=>?_) (fun T=>?_)
  ·
   have n:j<l.length:=by have:=of_decide_eq_true T;omega
   obtain⟨b5,o5,D,Vd,_⟩:=hr.opened (aQ aO au ab);have F:=hr;rw[D] at F;refine wp_skip (aj (ai (wp_block (ai (an ?_)))));refine sv Y (av (b:=b5) (o:=o5) (i:=j) (sz:=14) gk aa ((Y.ev rfl).trans (congrArg (fun A=>Value.slice A l.length c) D)) (Y.ev rfl) rfl n rfl) fun _ Y=>?_;refine sv (v:=gV l[j]) Y (ag aa aa (Y.ev rfl) (aZ aO (Z.rd0 F) n)) fun _ Y=>?_;refine na (.agg qU) Y rfl Z fun Va _ _ Zj Y Z=>sw Y Z 0 fun _ Z=>?_;refine GO 10 ?_;intro _ Y;refine ak (Y.ev rfl) (fun M=>?_) (fun M=>?_)
   ·
    have t:a<l[j].l:=of_decide_eq_true M;refine GO 5 ?_;intro _ Y;refine sv (v:=cZ l[j].e) Y (ag aa aa (Y.ev rfl) (Z.cellsOf (i:=0) rfl 1 13)) fun _ Y=>?_;refine gD Y (wn rfl) (az bc (Y.evs rfl) rfl) rfl rfl Z (i:=1) rfl (fun b H=>by rcases List.mem_cons.1 H with h | H;exact .inl h;rcases List.mem_cons.1 H with h | H;exact .inr (.inl h);exact .inr (.inr (List.mem_singleton.1 H))) (vb _ l[j] C B y _ (Z.at_ (i:=1) rfl)) fun Jz _ _ Y Zk Z=>GO 8 ?_;intro _ Y;exact⟨j+1,by omega,n,Y.re bN,(by have I:=kz l a n;rw[if_pos t] at I;show St [] w _ [ot C B y ((iw (l.take (j+1)) a).foldl eY q),_];rw[I,List.foldl_append];exact(Z.sub (aL 6)))⟩
   ·
    have t:¬a<l[j].l:=of_decide_eq_false M;refine GO 8 ?_;intro _ Y;exact⟨j+1,by omega,n,Y.re bN,(by have I:=kz l a n;rw[if_neg t] at I;show St [] w _ [ot C B y ((iw (l.take (j+1)) a).foldl eY q),_];rw[I];exact(Z.sub (aL 6)))⟩
  ·
   have Jy:l.length≤j:=by have:=of_decide_eq_false T;omega
   obtain rfl:j=l.length:=by have:=Zi;omega
   obtain⟨m,s⟩:∃m,m=(iw l a).foldl eY q:=⟨_,rfl⟩;have Ve:(iw l a).length≤l.length:=List.length_filter_le _ _
   have G:SrtT m:=by rw[s];exact S.fold
   have E:BdTbl m:=by
    have:=P.fold (l:=iw l a) (fun x hx=>Jv x (List.mem_filter.1 hx).1);rw[s];exact⟨this.ts,this.ds,by have:=this.lt;omega,by have:=this.ld;omega⟩
   have g:iI l a=if dz m≠0 then (iu,dz m) else (m,0):=by rw[Q,s];rfl
   rw[List.take_length,←s] at Z;refine GO 8 ?_;intro _ Y;refine df Y (wn rfl) (az bc (Y.evs rfl) rfl) rfl rfl Z (uE m C B y _ (Z.at_ (i:=0) rfl).1 (Z.at_ (i:=0) rfl).2.1 (Z.at_ (i:=0) rfl).2.2.1 G E) fun f _ _ Y Z=>na (.agg fX) Y rfl Z fun Vb _ _ Zl Y Z=>sw Y Z 0 fun _ Z=>?_;refine ah (aj (ai (ai (an ?_))));refine sv (v:=bW m f.1 f.2.1 f.2.2.1 f.2.2.2) Y (ag aa aa (Y.ev rfl) (Z.cellsAll (i:=0) rfl)) fun _ Y=>?_;refine cN Y rfl Z (da m f.1 f.2.1 f.2.2.1 f.2.2.2 _ (Z.rdOf (i:=1) rfl) (Z.rdOf (i:=2) rfl)) fun _ _ Y Z=>?_;refine GO 9 ?_;intro _ Y;refine ak (Y.ev rfl) (fun O=>?_) (fun O=>?_)
   ·
    have u:dz m≠0:=ar O;rw[if_pos u] at g;refine ai (an ?_);refine sv Y (ay (zs:=l5) (pl:=kT) aa aa (Y.evs2 rfl) rfl rfl) fun _ Y=>?_;refine GO 1 ?_;intro _ Y;refine sw Y Z 4 fun _ Z=>?_;refine GO 5 ?_;intro _ Y;refine br Y rfl rfl rfl Z (i:=4) rfl aa aa ?_;refine⟨(none,0,none,0),by rw[g];rfl,?_⟩;rw[g];exact((Z.sub (List.nil_sublist _)).nilRow 124 3).nilRow 116 4
   ·
    have u:¬dz m≠0:=ar O;rw[if_neg u] at g;refine wp_skip (aj (ai (an ?_)));refine sv (v:=bW m f.1 f.2.1 f.2.2.1 f.2.2.2) Y (ag aa aa (Y.ev rfl) (Z.cellsAll (i:=0) rfl)) fun _ Y=>?_;refine sw Y Z 4 fun _ Z=>?_;refine GO 4 ?_;intro _ Y;refine br Y rfl rfl rfl Z (i:=4) rfl aa aa ?_;refine⟨f,by rw[g];rfl,?_⟩;rw[g];exact(Z.sub (aL 6))
theorem kF {l:List Rcd} (h:(eA l).2=0):l.length≤100∧VldH l l.length:=by
 unfold eA at h
 split at h
 · cases h
 · rename_i b
   exact⟨by omega,Nat.le_refl _,fun k a _=>(cY _ l).1 h k a⟩
def kM (l:List Rcd) (a:Int):Tbl × Int:=if (eA l).2≠0 then (iu,(eA l).2) else iI l a
theorem l6 (l:List Rcd) (A:Option Addr) (c:Nat) (a:Int) (w:World) (hr:Rd w w.heap.size A (l.flatMap cm)) (j:l.length≤1000) (o:l.length≤c) (hF:FolT w) (hx:∀x∈l,FewE x.e) :
 Calls Tryz.prog 24 #[.slice A l.length c,ae a] w fun e n=>∃i:Option Addr × Nat × Option Addr × Nat,e=.returned (.tuple #[bW (kM l a).1 i.1 i.2.1 i.2.2.1 i.2.2.2,ae (kM l a).2]) ∧
  St [] w n [.row (.slice i.1 (kM l a).1.ts.length i.2.1) (kM l a).1.ts.length 116 4 ((kM l a).1.ts.flatMap cc),.row (.slice i.2.2.1 (kM l a).1.ds.length i.2.2.2) (kM l a).1.ds.length 124 3 ((kM l a).1.ds.flatMap cw)]:=by
 refine aq (N:=18) Tryz.func24 rfl rfl rfl (fun _ Y=>?_);have Z:=St.init w;refine ai (an ?_);refine na (.agg fX) Y rfl Z fun b4 _ _ q Y Z=>GO 7 ?_;intro _ Y;refine cN Y rfl Z (fb l A c _ (Z.rd0 hr) j o (hF.below Z.below) hx) fun _ _ Y Z=>?_;refine GO 9 ?_;intro _ Y;refine ak (Y.ev rfl) (fun f=>?_) (fun f=>?_)
 ·
  have g:(eA l).2≠0:=ar f
  have d:kM l a=(iu,(eA l).2):=by unfold kM;rw[if_pos g]
  refine ai (an ?_);refine sv Y (ay (zs:=l5) (pl:=kT) aa aa (Y.evs2 rfl) rfl rfl) fun _ Y=>?_;refine GO 1 ?_;intro _ Y;refine sw Y Z 0 fun _ Z=>?_;refine GO 5 ?_;intro _ Y;refine br Y rfl rfl rfl Z (i:=0) rfl aa aa ?_;refine⟨(none,0,none,0),by rw[d];rfl,?_⟩;rw[d];exact((Z.sub (List.nil_sublist _)).nilRow 124 3).nilRow 116 4
 ·
  have k:(eA l).2=0:=ar f
  have d:kM l a=iI l a:=by unfold kM;rw[if_neg (fun h=>h k)]
  obtain⟨m,p⟩:=kF k;refine GO 6 ?_;intro _ Y;refine df Y (wn rfl) (az bc (Y.evs rfl) rfl) rfl rfl Z (tt l A c a _ (Z.rd0 hr) p j hx) fun b _ _ Y Z=>sv (v:=bW (iI l a).1 b.1 b.2.1 b.2.2.1 b.2.2.2) Y (cb (Y.ev rfl) rfl) fun _ Y=>?_;refine GO 1 ?_;intro _ Y;refine sw Y Z 2 fun _ Z=>?_;refine GO 4 ?_;intro _ Y;refine br Y rfl rfl rfl Z (i:=2) rfl aa aa ?_;refine⟨b,by rw[d];rfl,?_⟩;rw[d];exact(Z.sub (aL 3))
end Go.Proofs.YtcfdpfmchchkaaaGreatDoor
