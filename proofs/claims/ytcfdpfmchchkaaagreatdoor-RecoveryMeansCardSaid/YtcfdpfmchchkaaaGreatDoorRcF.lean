/-
  Chapter 22: rows of structs that are sorted by numbers.
  Chapter 22: a table in order.
  Chapter 22: a table in order; analysis.
  Chapter 22: analysis.
-/
import Derived.Test.YtcfdpfmchchkaaaGreatDoorRcE
import Derived.Shelf.SlSortCmp.NoneTotal
namespace Go.Proofs.YtcfdpfmchchkaaaGreatDoor
set_option linter.unusedVariables false
set_option linter.unusedSimpArgs false
set_option maxRecDepth 4000
open Go.RowKit Go.Sort Go.Shelf
theorem jq {α:Type} [Inhabited α] {enc:α→List Value} {k:Nat} (hk:∀x,(enc x).length=k) (h0:0<k) (d:Array α):(flatK enc k d).toList=d.toList.flatMap enc:=by
 apply List.ext_getElem?;intro t;have hs:(flatK enc k d).size=d.size*k:=size_flatK enc k d;by_cases ht:t<d.size*k
 · have h1:t / k<d.size:=by rw[Nat.div_lt_iff_lt_mul h0];exact ht
   have h2:t % k<k:=Nat.mod_lt _ h0;have h3:=get_flatK enc k d t ht
   have e1:(flatK enc k d).toList[t]? = some (flatK enc k d)[t]!:=by
    rw[Array.getElem?_toList,Array.getElem?_eq_getElem (by rw[hs];exact ht),getElem!_pos _ t (by rw[hs];exact ht)]
   rw[e1,h3]
   have e2:d[t / k]! = d.toList[t / k]'(by simpa using h1):=by rw[getElem!_pos d _ h1];rfl
   have h4:=nr hk d.toList (k:=t / k) (by simpa using h1) (j:=t % k) (u:=(enc d[t / k]!)[t % k]!) (by
    rw[←e2,List.getElem?_eq_getElem (by rw[hk];exact h2),getElem!_pos (enc d[t / k]!) (t % k) (by rw[hk];exact h2)])
   rw[Nat.div_add_mod' t k] at h4;exact h4.symm
 · have hl:(d.toList.flatMap enc).length=d.size*k:=by
    rw[iF hk d.toList,Array.length_toList,Nat.mul_comm]
   rw[List.getElem?_eq_none (by rw[Array.length_toList,hs];omega),List.getElem?_eq_none (by rw[hl];omega)]
theorem pj (cur F:Array Value) (h:F.size≤cur.size):(putCells (id:Value→Value) 0 F cur).toList.take F.size=F.toList:=by
 apply List.ext_getElem?;intro j;by_cases hj:j<F.size
 · rw[List.getElem?_take_of_lt hj,Array.getElem?_toList,Array.getElem?_toList]
   simp[putCells,hj,show j<cur.size by omega]
 · rw[List.getElem?_take_eq_none (by omega),List.getElem?_eq_none (by simp;omega)]
theorem se {α:Type} [Inhabited α] {d d':Array α} (h:PermIn 0 d.size d d'):d'.toList.Perm d.toList:=by
 obtain⟨h1,_,h3⟩:=h
 have e1:d.extract 0 d.size=d:=by simp
 have e2:d'.extract 0 d.size=d':=by rw[←h1];simp
 rwa [e1,e2] at h3
theorem qO {α:Type} [Inhabited α] {lt:α→α→Bool} {d d':Array α} (hs:d'.size=d.size) (h:SortedIn lt 0 d.size d'):d'.toList.Pairwise fun x y=>lt y x=false:=by
 rw[List.pairwise_iff_getElem];intro i j hi hj hij;rw[Array.length_toList] at hi hj;have:=h i j (Nat.zero_le _) hij (by omega);rw[getElem!_pos d' i hi,getElem!_pos d' j hj] at this;exact this
theorem qh {α:Type} [Inhabited α] {P:Program} {ρ:Ren} (L:SlLaysF0.n6 P ρ) (k:Nat) (h0:0<k) (aE:∀w,(isAgg (ρ.t 24)).run P w=.ok true w) (zE:∀w,(Go.sizeOf (ρ.t 24)).run P w=.ok k w) (enc:α→List Value) (hk:∀x,(enc x).length=k) (h1:∀x,∀v∈enc x,v.oneCell'=true) (cf:α→α→Int) (hO:SWO (ltOf cf)) (g:Nat) (cb:Array Value) (T:TypeId) {c:Nat} {A:Option Addr} (xs:List α) (w:World)
 (eg:∀args w,(callFunc g args).run P w=.ok (.enter g args) w) (hcmp:∀blk off size w',CmpLays P g cb enc k cf blk off size w') (ho:w.ownsRow 0 T k (.slice A xs.length c) xs.length (xs.flatMap enc)) (hsz:xs.length<4611686018427387904) :
 Calls P (ρ.f 6) #[.slice A xs.length c,.func (.func g) #[] cb] w fun e w'=>∃ys:List α,e=.returned (.tuple #[])∧(ys.Perm xs∧ys.Pairwise (fun x y=>ltOf cf y x=false))∧w'.ownsRow 0 T k (.slice A xs.length c) xs.length (ys.flatMap enc)∧w.grownBy w' (Value.slice A xs.length c).ownBlock:=by
 obtain⟨ho1,ho2⟩:=ho;rcases ho2 with ⟨hv,hn⟩ | ⟨b,cap,cur,hv,hb0,hb,hn,hcap,hcs,htk⟩
 · rw[hn]
   refine(AnyF.slices_SortFunc_none L A c _ w).mono ?_
   rintro e w' ⟨rfl,rfl⟩
   have hx:xs=[]:=List.eq_nil_of_length_eq_zero hn;subst hx
   exact⟨[],rfl,⟨List.Perm.refl _,.nil⟩,by
    injection hv with q1 q2 q3;subst q1 q3
    exact World.ownsRow_nil _ _ _ _,⟨rfl,rfl,rfl,Nat.le_refl _,fun _ _ _=>rfl⟩⟩
 · injection hv with q1 q2 q3
   subst q1 q3;have hbl:b<w.heap.size:=(Array.getElem?_eq_some_iff.1 hb).1;have hF:=jq hk h0 xs.toArray
   have hFs:(flatK enc k xs.toArray).size=xs.length*k:=by rw[size_flatK];simp
   have hH:HoldsK enc k w b 0 xs.toArray:=by
    intro j hj;rw[hFs] at hj;refine⟨?_,by simp[World.frozen?,hb]⟩
    have h2:(flatK enc k xs.toArray).toList[j]? = cur.toList[j]?:=by
     rw[hF];show(xs.flatMap enc)[j]? = _;rw[←htk,List.getElem?_take_of_lt hj]
    have h3:cur[j]? = some (flatK enc k xs.toArray)[j]!:=by
     rw[←Array.getElem?_toList,←h2,Array.getElem?_toList,Array.getElem?_eq_getElem (by rw[hFs];exact hj),getElem!_pos _ j (by rw[hFs];exact hj)]
    rw[cell_of_row _ _ _ cur T (0,0) hb]
    simpa using h3
   have hcon:=AnyQ.slices_SortFunc L k aE zE enc hk h1 cf hO g cb b 0 c xs.toArray w eg (hcmp _ _ _ _) hH hbl (by simpa using hsz)
   have e0:xs.toArray.size=xs.length:=by simp
   rw[e0] at hcon;refine hcon.mono ?_
   rintro e w' ⟨rfl,d',n,os,hp,hs,rfl⟩
   have hps:d'.size=xs.length:=by have:=hp.1;simpa using this
   have hFs':(flatK enc k d').size=xs.length*k:=by rw[size_flatK,hps]
   have hpr:=se (d:=xs.toArray) (d':=d') (by rw[e0];exact hp)
   have hprl:d'.toList.Perm xs:=by simpa using hpr
   have hheap:(sortWorldK enc k w b 0 n d' os).heap[b]? = some (.cells (putCells id 0 (flatK enc k d') cur) T (0,0)):=by
    show(grow (putRow id (Sort.ahead w n) b 0 (flatK enc k d')) os).heap[b]? = _;rw[heap_grow_old _ _ (by simpa using hbl)];simp[putRow,mapBlock,Sort.ahead,Array.getElem?_modify,hb,onCells]
   refine⟨d'.toList,rfl,⟨hprl,qO (d:=xs.toArray) (by rw[e0];exact hps) (by rw[e0];exact hs)⟩,⟨?_,.inr ⟨b,c,_,rfl,hb0,hheap,hn,hcap,by simp[putCells,hcs],?_⟩⟩,?_⟩
   · rw[←jq hk h0 d',Array.length_toList,hFs']
   · rw[←jq hk h0 d',←hFs']
     exact pj cur _ (by
      rw[hFs',hcs]
      exact Nat.mul_le_mul_right k hn)
   · refine⟨rfl,rfl,rfl,by show _≤(grow (putRow id (Sort.ahead w n) b 0 (flatK enc k d')) os).heap.size;simp,fun j hj hne=>?_⟩
     show(grow (putRow id (Sort.ahead w n) b 0 (flatK enc k d')) os).heap[j]? = _;rw[heap_grow_old _ _ (by simpa using hj)];have:b≠j:=fun e=>hne (by rw[e];rfl);simp[putRow,mapBlock,Sort.ahead,Array.getElem?_modify,this]
abbrev Bu:Type:={ x:Trn // 0≤x.i∧x.i≤100000 }
abbrev Bk:Type:={ x:Dty // 0≤x.g∧x.g≤100000 }
instance:Inhabited Bu:=⟨⟨mo,by decide⟩⟩
instance:Inhabited Bk:=⟨⟨⟨0,false,0⟩,by decide⟩⟩
def zU (x y:Bu):Int:=x.1.i-y.1.i
def zR (x y:Bk):Int:=x.1.g-y.1.g
theorem BB:SWO (ltOf zU) where
 irrefl x:=by unfold ltOf zU;simp
 trans x y z h1 h2:=by unfold ltOf zU at *;simp at *;omega
 ntrans x y z h1 h2:=by unfold ltOf zU at *;simp at *;omega
theorem BA:SWO (ltOf zR) where
 irrefl x:=by unfold ltOf zR;simp
 trans x y z h1 h2:=by unfold ltOf zR at *;simp at *;omega
 ntrans x y z h1 h2:=by unfold ltOf zR at *;simp at *;omega
set_option maxHeartbeats 1000000 in
theorem uv (x y:Bu) (W:World):Calls Tryz.prog 197 #[.agg #[.int .i64 x.1.i,.int .i64 x.1.l,.int .i64 x.1.u,.bool x.1.c],.agg #[.int .i64 y.1.i,.int .i64 y.1.l,.int .i64 y.1.u,.bool y.1.c]] W fun e w'=>e=.returned (.int .i64 (zU x y))∧∃q os',w'=grow (W.drewN q) os':=by
 obtain⟨⟨xi,xl,xu,xc⟩,hx0,hx1⟩:=x;obtain⟨⟨yi,yl,yu,yc⟩,hy0,hy1⟩:=y;unfold zU
 dsimp only at *
 go_enter Tryz.func197,Tryz.ntmps197
 have x0:0≤xi:=hx0;have x1:xi≤100000:=hx1;have y0:0≤yi:=hy0;have y1:yi≤100000:=hy1;clear hx0 hx1 hy0 hy1
 have hw:wrap64 (xi-yi)=xi-yi:=by unfold wrap64;omega
 go_wp2
 go_ret
 exact⟨rfl,0,_,by rw[alloc_eq_grow,alloc_eq_grow,grow_grow];rfl⟩
set_option maxHeartbeats 1000000 in
theorem vp (x y:Bk) (W:World):Calls Tryz.prog 199 #[.agg #[.int .i64 x.1.g,.bool x.1.f,.int .i64 x.1.l],.agg #[.int .i64 y.1.g,.bool y.1.f,.int .i64 y.1.l]] W fun e w'=>e=.returned (.int .i64 (zR x y))∧∃q os',w'=grow (W.drewN q) os':=by
 obtain⟨⟨xi,xl,xu⟩,hx0,hx1⟩:=x;obtain⟨⟨yi,yl,yu⟩,hy0,hy1⟩:=y;unfold zR
 dsimp only at *
 go_enter Tryz.func199,Tryz.ntmps199
 have x0:0≤xi:=hx0;have x1:xi≤100000:=hx1;have y0:0≤yi:=hy0;have y1:yi≤100000:=hy1;clear hx0 hx1 hy0 hy1
 have hw:wrap64 (xi-yi)=xi-yi:=by unfold wrap64;omega
 go_wp2
 go_ret
 exact⟨rfl,0,_,by rw[alloc_eq_grow,alloc_eq_grow,grow_grow];rfl⟩
theorem mm {P:Program} {t:TypeId} {fs:Array Field} (h:P.underlying t=some (.struct fs)) (w:World):(isAgg t).run P w=.ok true w:=by simp[isAgg,run_underlying h]
theorem k8 {P:Program} {t:TypeId} {n:Nat} (h:(P.info? t).map (·.size)=some n) (w:World):(Go.sizeOf t).run P w=.ok n w:=by
 cases hq:P.info? t with
 | none=>rw[hq] at h;cases h
 | some q=>
  rw[hq] at h
  have hz:q.size=n:=by simpa using h
  simp[Go.sizeOf,typeInfo,hq,hz]
set_option maxRecDepth 4000
open Go.RowKit Go.Sort Go.Shelf
section
variable {α:Type} {κ:α→Int}
theorem n9 {l:List α} (h:l.Pairwise fun x y=>κ x≤κ y) (hn:(l.map κ).Nodup):cu κ l:=by
 unfold cu;unfold List.Nodup at hn;rw[List.pairwise_map] at hn
 exact(h.and hn).imp fun ⟨h1,h2⟩=>by omega
end
theorem wj:∀(xs:List Trn),(∀x∈xs,0≤x.i∧x.i≤100000)→∃zs:List Bu,zs.map (fun z=>z.1)=xs
 | [],_=>⟨[],rfl⟩
 | x::xs,h=>by
  obtain⟨zs,hz⟩:=wj xs (fun y hy=>h y (List.mem_cons_of_mem _ hy));exact⟨⟨x,h x (List.mem_cons_self)⟩::zs,by rw[List.map_cons,hz]⟩
theorem xw:∀(xs:List Dty),(∀x∈xs,0≤x.g∧x.g≤100000)→∃zs:List Bk,zs.map (fun z=>z.1)=xs
 | [],_=>⟨[],rfl⟩
 | x::xs,h=>by
  obtain⟨zs,hz⟩:=xw xs (fun y hy=>h y (List.mem_cons_of_mem _ hy));exact⟨⟨x,h x (List.mem_cons_self)⟩::zs,by rw[List.map_cons,hz]⟩
theorem uH (s xs:List Trn) (hs:cu Trn.i s) (hm:∀x,x∈xs↔x∈s) (hnd:(xs.map Trn.i).Nodup) (hb:∀x∈xs,0≤x.i∧x.i≤100000) (A:Option Addr) (c:Nat) (w:World) (ho:w.ownsRow 0 116 4 (.slice A xs.length c) xs.length (xs.flatMap cA)) (hl:xs.length≤1000000) :
 Calls Tryz.prog 196 #[.slice A xs.length c,.func (.func 197) #[] #[]] w fun e w'=>∃p:Unit,e=.returned (.tuple #[])∧xs.length=s.length∧St (Value.slice A xs.length c).ownBlock.toList w w' [.row (.slice A xs.length c) xs.length 116 4 (s.flatMap cA)]:=by
 obtain⟨zs,hz⟩:=wj xs hb
 have hzl:zs.length=xs.length:=by rw[←hz,List.length_map]
 have hzf:zs.flatMap (fun z=>cA z.1)=xs.flatMap cA:=by rw[←hz,List.flatMap_map]
 have hcon:=qh Tryz.laySort196 4 (by decide) (mm Tryz.underlying116) (k8 (by kernel_rfl)) (fun z:Bu=>cA z.1) (fun z=>cW _) (fun z v hv=>vE _ v hv) zU BB 197 #[] 116 (A:=A) (c:=c) zs w
  (enters_of Tryz.func197 (by kernel_rfl) rfl) (fun _ _ _ _ _ _ _ _ x y=>uv x y _) (by rw[hzl,hzf];exact ho) (by omega)
 rw[hzl] at hcon
 change Calls Tryz.prog 196 _ _ _ at hcon
 refine hcon.mono ?_
 rintro e w' ⟨ys,rfl,⟨hp,hpw⟩,hw1,hw2⟩
 have hpv:(ys.map fun z=>z.1).Perm xs:=by rw[←hz];exact hp.map _
 have hsrt:cu Trn.i (ys.map fun z=>z.1):=n9 (List.pairwise_map.2 (hpw.imp fun {x y} h=>by unfold ltOf zU at h;simp at h;omega)) (((hpv.map Trn.i).nodup_iff).2 hnd);have heq:(ys.map fun z=>z.1)=s:=mI hsrt hs fun x=>(hpv.mem_iff).trans (hm x)
 have hfl:ys.flatMap (fun z=>cA z.1)=s.flatMap cA:=by rw[←heq,List.flatMap_map]
 rw[hfl] at hw1;exact⟨(),rfl,by rw[←heq];exact hpv.length_eq.symm,(St.initO ho).sub (List.Sublist.refl _) |>.grown (i:=0) rfl hw1 hw2 (.inl rfl)⟩
theorem uV (s xs:List Dty) (hs:cu Dty.g s) (hm:∀x,x∈xs↔x∈s) (hnd:(xs.map Dty.g).Nodup) (hb:∀x∈xs,0≤x.g∧x.g≤100000) (A:Option Addr) (c:Nat) (w:World) (ho:w.ownsRow 0 124 3 (.slice A xs.length c) xs.length (xs.flatMap da)) (hl:xs.length≤1000000) :
 Calls Tryz.prog 198 #[.slice A xs.length c,.func (.func 199) #[] #[]] w fun e w'=>∃p:Unit,e=.returned (.tuple #[])∧xs.length=s.length∧St (Value.slice A xs.length c).ownBlock.toList w w' [.row (.slice A xs.length c) xs.length 124 3 (s.flatMap da)]:=by
 obtain⟨zs,hz⟩:=xw xs hb
 have hzl:zs.length=xs.length:=by rw[←hz,List.length_map]
 have hzf:zs.flatMap (fun z=>da z.1)=xs.flatMap da:=by rw[←hz,List.flatMap_map]
 have hcon:=qh Tryz.laySort198 3 (by decide) (mm Tryz.underlying124) (k8 (by kernel_rfl)) (fun z:Bk=>da z.1) (fun z=>dD _) (fun z v hv=>xR _ v hv) zR BA 199 #[] 124 (A:=A) (c:=c) zs w
  (enters_of Tryz.func199 (by kernel_rfl) rfl) (fun _ _ _ _ _ _ _ _ x y=>vp x y _) (by rw[hzl,hzf];exact ho) (by omega)
 rw[hzl] at hcon
 change Calls Tryz.prog 198 _ _ _ at hcon
 refine hcon.mono ?_
 rintro e w' ⟨ys,rfl,⟨hp,hpw⟩,hw1,hw2⟩
 have hpv:(ys.map fun z=>z.1).Perm xs:=by rw[←hz];exact hp.map _
 have hsrt:cu Dty.g (ys.map fun z=>z.1):=n9 (List.pairwise_map.2 (hpw.imp fun {x y} h=>by unfold ltOf zR at h;simp at h;omega)) (((hpv.map Dty.g).nodup_iff).2 hnd);have heq:(ys.map fun z=>z.1)=s:=mI hsrt hs fun x=>(hpv.mem_iff).trans (hm x)
 have hfl:ys.flatMap (fun z=>da z.1)=s.flatMap da:=by rw[←heq,List.flatMap_map]
 rw[hfl] at hw1;exact⟨(),rfl,by rw[←heq];exact hpv.length_eq.symm,(St.initO ho).sub (List.Sublist.refl _) |>.grown (i:=0) rfl hw1 hw2 (.inl rfl)⟩
def mW (e:MapEntry):Int:=match e.key with | .int _ k=>k | _=>0
def wE {α:Type} (z:α) (g:Int→Option α) (e:MapEntry):α:=(g (mW e)).getD z
section
variable {α:Type} {κ:α→Int} {V:α→Value} {z:α} {l:List α} {es:Array MapEntry} {ck:Nat}
theorem kH (h:MapFn es ck (fun i=>(ct κ l i).map V)) {e:MapEntry} (he:e∈es.toList):ct κ l (mW e)=some (wE z (ct κ l) e)∧e.val=V (wE z (ct κ l) e)∧e.key=.int .i64 (mW e):=by
 obtain⟨k,h1,h2⟩:=h.key e he
 have hk:mW e=k:=by unfold mW;rw[h1]
 unfold wE;rw[hk]
 cases hq:ct κ l k with
 | none=>rw[hq] at h2;cases h2
 | some y=>
  rw[hq] at h2;exact⟨rfl,by injection h2 with h2;exact h2.symm,h1⟩
theorem vN (h:MapFn es ck (fun i=>(ct κ l i).map V)) {e:MapEntry} (he:e∈es.toList):κ (wE z (ct κ l) e)=mW e:=(eW (kH (z:=z) h he).1).2
theorem lV (h:MapFn es ck (fun i=>(ct κ l i).map V)) {seen:Array Nat} {out:List MapEntry} (hh:Handed es ck seen out):((out.map (wE z (ct κ l))).map κ).Nodup:=by
 have hn:=h.st.2.2
 have hinj:∀e∈es.toList,∀f∈es.toList,mW e=mW f→e=f:=fun e he f hf hk=>by
  obtain⟨i,hi,rfl⟩:=List.getElem_of_mem he;obtain⟨j,hj,rfl⟩:=List.getElem_of_mem hf;have e1:=(kH (z:=z) h (List.getElem_mem hi)).2.2;have e2:=(kH (z:=z) h (List.getElem_mem hj)).2.2
  have:(es.toList.map (·.key))[i]'(by simpa using hi)=(es.toList.map (·.key))[j]'(by simpa using hj):=by
   rw[List.getElem_map,List.getElem_map,e1,e2,hk]
  have:=(List.getElem_inj hn).1 this;subst this;rfl
 have Y:=hh.nd;unfold List.Nodup at Y ⊢;rw[List.pairwise_map] at Y;rw[List.pairwise_map,List.pairwise_map];refine Y.imp_of_mem fun {e f} he hf hne heq=>hne ?_;rw[vN h (hh.sub e he),vN h (hh.sub f hf)] at heq;rw[hinj e (hh.sub e he) f (hh.sub f hf) heq]
theorem vH (h:MapFn es ck (fun i=>(ct κ l i).map V)) {seen:Array Nat} {out:List MapEntry} (hh:Handed es ck seen out):∀x∈out.map (wE z (ct κ l)),x∈l:=fun x hx=>by
 obtain⟨e,he,rfl⟩:=List.mem_map.1 hx;exact(eW (kH h (hh.sub e he)).1).1
theorem wy (h:MapFn es ck (fun i=>(ct κ l i).map V)) (hs:cu κ l) {seen:Array Nat} {out:List MapEntry} (hh:Handed es ck seen out) (ha:∀e∈es.toList,e∈out):∀x,x∈out.map (wE z (ct κ l))↔x∈l:=fun x=>⟨vH h hh x,fun hx=>by
 obtain⟨e,he,h1,h2⟩:=h.all (κ x) (V x) (by rw[fM hs hx];rfl)
 have hk:mW e=κ x:=by unfold mW;rw[h1]
 refine List.mem_map.2 ⟨e,ha e he,?_⟩;unfold wE
 rw[hk,fM hs hx];rfl⟩
theorem o8 (z:α) (h:MapFn es ck (fun i=>(ct κ l i).map V)) {seen:Array Nat} {out:List MapEntry} (hh:Handed es ck seen out):out.length≤l.length:=by
 have h1:=lV (z:=z) h hh
 have h2:=sX (out.map (wE z (ct κ l))) l (by
  unfold List.Nodup at h1 ⊢;rw[List.pairwise_map] at h1
  exact h1.imp fun h e=>h (by rw[e])) (vH (z:=z) h hh)
 rwa [List.length_map] at h2
end
set_option maxRecDepth 4000
open Go.RowKit Go.Sort Go.Shelf
theorem nU {w X:World} {m:Nat} {o:Obj} (hb:Below w.heap.size w X) (h:w.heap[m]? = some o):X.heap[m]? = some o:=(hb.block m (Array.getElem?_eq_some_iff.1 h).1).trans h
structure BdTbl (t:Tbl):Prop where
 ts:∀x∈t.ts,0≤x.i∧x.i≤100000
 ds:∀x∈t.ds,0≤x.g∧x.g≤100000
 lt:t.ts.length≤100000
 ld:t.ds.length≤100000
theorem qd (t:Tbl) (bt m1 m2:Nat) (w:World) (hB:Box w bt #[.map (some m1),.map (some m2)] 228) (hm1:MapF w m1 (mJ (eo t.ts))) (hm2:MapF w m2 (mY (dH t.ds))) (hs:SrtT t) (hd:BdTbl t) :
 Calls Tryz.prog 131 #[.pointer (some ⟨bt,0,none⟩)] w fun e w'=>∃i:Option Addr × Nat × Option Addr × Nat,e=.returned (cR t i.1 i.2.1 i.2.2.1 i.2.2.2) ∧
  St [] w w' [.row (.slice i.1 t.ts.length i.2.1) t.ts.length 116 4 (t.ts.flatMap cA),.row (.slice i.2.2.1 t.ds.length i.2.2.2) t.ds.length 124 3 (t.ds.flatMap da)]:=by
 obtain⟨es1,ck1,he1,hf1⟩:=hm1;obtain⟨es2,ck2,he2,hf2⟩:=hm2;obtain⟨tv,htv⟩:∃tv:MapEntry→Trn,tv=wE mo (eo t.ts):=⟨_,rfl⟩;obtain⟨dv,hdv⟩:∃dv:MapEntry→Dty,dv=wE ⟨0,false,0⟩ (dH t.ds):=⟨_,rfl⟩;refine aF (N:=45) Tryz.func131 rfl rfl rfl (fun _ Y=>?_);have Z:=St.init w;refine ab (ah ?_);refine na (.agg #[.slice none 0 0,.slice none 0 0]) Y rfl Z fun b2 _ _ gb2 Y Z=>?_;refine cm ?_;refine na (.agg #[.slice none 0 0,.slice none 0 0]) Y rfl Z fun b3 _ _ gb3 Y Z=>?_;refine ae (aa (ab (ab (ah ?_))));refine mv Y rfl rfl fun _ Y=>?_;refine sv Y (bo (Y.ev rfl)) fun _ Y=>?_;refine sv Y (aj (off:=0) (by kernel_rfl) (Y.ev rfl) rfl) fun _ Y=>?_;refine sv Y (aw (by kernel_rfl) (Y.ev rfl) ((hB.below Z.below).cells 0)) fun _ Y=>?_;refine nT (m:=m1) (es:=es1) (clock:=ck1) Y (wn rfl) rfl rfl rfl Tryz.underlying225 (Y.ev rfl) Z (nU Z.below he1) fun it1 _ _ g12 Y Z=>?_;replace Z:=St.nilRow Z 116 4;refine ae (aa (wp_block ?_));refine bz Y Z [12,3,2,0] (fun (q:List MapEntry × Array Nat × Option Addr × Nat)=>[]) (fun (q:List MapEntry × Array Nat × Option Addr × Nat)=>Handed es1 ck1 q.2.1 q.1) (fun q _=>[.row (.slice q.2.2.1 q.1.length q.2.2.2) q.1.length 116 4 ((q.1.map tv).flatMap cA),im it1 m1 ck1 q.2.1 ck1,.box b3 #[.slice q.2.2.1 q.1.length q.2.2.2,.slice none 0 0] 25,.box b2 #[.slice none 0 0,.slice none 0 0] 25]) (fun (q:List MapEntry × Array Nat × Option Addr × Nat)=>t.ts.length-q.1.length) (([],#[],none,0)) (Handed.nil es1 ck1) ⟨rfl,rfl,rfl,rfl,trivial⟩ (Z) ?_;intro q _ _ hF0 Y Z;refine ab (ah ?_);refine qz (out:=q.1) Y (wn rfl) rfl rfl rfl (Y.ev rfl) Z (i:=1) rfl (nU Z.below he1) hf1.st ⟨rfl,Nat.le_refl _⟩ hF0 fun p13 _ X9 Y hn13 hs13 Z hm13=>?_;refine sv Y (xL (Y.ev rfl)) fun _ Y=>?_;refine ae (aa (ab ?_));refine aB (Y.ev rfl) (fun hc0=>?_) (fun hc0=>?_)
 ·
  obtain⟨e1,rfl⟩:=Option.isSome_iff_exists.1 hc0;obtain⟨hmm1,hh1⟩:=hs13 e1 rfl;have hlen1:=o8 (κ:=Trn.i) (V:=fg) mo hf1 hh1;rw[List.length_append,List.length_singleton] at hlen1
  have hl1:(q.1 ++ [e1]).length=q.1.length+1:=by rw[List.length_append];rfl
  have hlt:=hd.lt;have hld:=hd.ld;refine wp_skip (aa (wp_block (ab (ah ?_))));refine sv Y (nP (Y.ev rfl) (Z.at_ (i:=1) rfl) (nU Z.below he1) hmm1 hf1.st) fun _ Y=>?_;refine sv Y (bb (v':=fg (tv e1)) (by rw[htv];exact(kH (κ:=Trn.i) (V:=fg) (z:=mo) hf1 hmm1).2.1) (bG (Y.ev rfl) rfl)) fun _ Y=>?_;refine na (.agg #[.int .i64 0,.int .i64 0,.int .i64 0,.bool false]) Y rfl Z fun b5 _ _ gb5 Y Z=>?_;refine aG Y (wn rfl) ⟨rfl,rfl⟩ (Y.ev rfl) (Y.ev rfl) rfl (by kernel_rfl) Z (i:=0) rfl rfl rfl fun _ Z=>?_;refine ae (aa (ah ?_));refine vf Y 0 0 rfl rfl rfl fun _ Y=>?_;refine vl Y Z 3 rfl rfl rfl rfl fun _ Y=>?_;refine sv (v:=fg (tv e1)) Y (ay (by kernel_rfl) (by kernel_rfl) (Y.ev rfl) (Z.cellsAll (i:=0) rfl)) fun _ Y=>?_;refine ez (zc:=[.int .i64 0,.int .i64 0,.int .i64 0,.bool false]) (sz:=4) Y (wn rfl) ⟨rfl,rfl⟩ rfl Tryz.underlying22 (by kernel_rfl) (by kernel_rfl) rfl rfl rfl (Y.evs2 rfl) rfl rfl rfl Z fun b20 _ _ gb20 Y Z=>?_;refine cv (z:=.agg #[.int .i64 0,.int .i64 0,.int .i64 0,.bool false]) (sz:=4) (bytes:=32) Y (wn rfl) ⟨rfl,rfl⟩ rfl Tryz.underlying22 (by kernel_rfl) rfl rfl (Y.ev rfl) (Y.ev rfl) Z (i:=2) rfl (Z.boxRd (i:=0) rfl) rfl (List.all_eq_true.1 rfl) ⟨(by omega),by decide⟩ fun A21 c21 _ _ Y Z=>?_;refine vf Y 0 0 rfl rfl rfl fun _ Y=>?_;refine cX Y (wn rfl) ⟨rfl,rfl⟩ (Y.ev rfl) (Y.ev rfl) rfl (by kernel_rfl) Z (i:=4) rfl rfl rfl fun _ Z=>?_;refine ae (aO (aa ?_));exact⟨(q.1 ++ [e1],q.2.1.push e1.born,A21,c21),(by show t.ts.length-(q.1 ++ [e1]).length<_;omega),hh1,Y.re ⟨rfl,rfl,rfl,rfl,trivial⟩,(by show St [] w _ [.row (.slice _ (q.1 ++ [e1]).length _) (q.1 ++ [e1]).length _ _ (((q.1 ++ [e1]).map tv).flatMap cA),_,.box b3 #[.slice _ (q.1 ++ [e1]).length _,_] _,_];rw[List.length_append,List.map_append,List.flatMap_append];exact(Z.sub (.cons _ (.cons _ (.cons_cons _ (.cons_cons _ (.cons_cons _ (.cons_cons _ .slnil))))))))⟩
 ·
  obtain rfl:p13=none:=by cases p13 with | none=>rfl | some e=>cases hc0
  have hall1:=hn13 rfl;obtain⟨out1,seen1,A1,c1⟩:=q;obtain⟨xs,hxs⟩:∃xs,xs=out1.map tv:=⟨_,rfl⟩
  have hxl:out1.length=xs.length:=by rw[hxs,List.length_map]
  have hxm:∀x,x∈xs↔x∈t.ts:=by rw[hxs,htv];exact wy (κ:=Trn.i) (V:=fg) hf1 hs.ts hF0 hall1
  have hxn:(xs.map Trn.i).Nodup:=by rw[hxs,htv];exact lV (κ:=Trn.i) (V:=fg) hf1 hF0
  have hxc:xs.length≤t.ts.length:=by rw[←hxl];exact o8 (κ:=Trn.i) (V:=fg) mo hf1 hF0
  have hxb:∀x∈xs,0≤x.i∧x.i≤100000:=fun x hx=>hd.ts x ((hxm x).1 hx);have hlt:=hd.lt;have hld:=hd.ld
  replace Z:St [] w X9 [.row (.slice A1 xs.length c1) xs.length 116 4 (xs.flatMap cA),im it1 m1 ck1 seen1 ck1,.box b3 #[.slice A1 xs.length c1,.slice none 0 0] 25,.box b2 #[.slice none 0 0,.slice none 0 0] 25]:=by rw[←hxl,hxs];exact Z
  refine wp_exit ?_;refine av ?_;refine av ?_;refine bn ?_;refine aa (ab (ab (ah ?_)));refine mv Y rfl rfl fun _ Y=>?_;refine sv Y (bo (Y.ev rfl)) fun _ Y=>?_;refine sv Y (aj (off:=1) (by kernel_rfl) (Y.ev rfl) rfl) fun _ Y=>?_;refine sv Y (aw (by kernel_rfl) (Y.ev rfl) ((hB.below Z.below).cells 1)) fun _ Y=>?_;refine nT (m:=m2) (es:=es2) (clock:=ck2) Y (wn rfl) rfl rfl rfl Tryz.underlying226 (Y.ev rfl) Z (nU Z.below he2) fun it2 _ _ g27 Y Z=>?_;replace Z:=St.nilRow Z 124 3;refine ae (aa (wp_block ?_));refine bz Y Z [27,3,2] (fun (q:List MapEntry × Array Nat × Option Addr × Nat)=>[]) (fun (q:List MapEntry × Array Nat × Option Addr × Nat)=>Handed es2 ck2 q.2.1 q.1) (fun q _=>[.row (.slice q.2.2.1 q.1.length q.2.2.2) q.1.length 124 3 ((q.1.map dv).flatMap da),im it2 m2 ck2 q.2.1 ck2,.row (.slice A1 xs.length c1) xs.length 116 4 (xs.flatMap cA),im it1 m1 ck1 seen1 ck1,.box b3 #[.slice A1 xs.length c1,.slice q.2.2.1 q.1.length q.2.2.2] 25,.box b2 #[.slice none 0 0,.slice none 0 0] 25]) (fun (q:List MapEntry × Array Nat × Option Addr × Nat)=>t.ds.length-q.1.length) (([],#[],none,0)) (Handed.nil es2 ck2) ⟨rfl,rfl,rfl,trivial⟩ (Z) ?_;intro q _ _ hF1 Y Z;refine ab (ah ?_);refine qz (out:=q.1) Y (wn rfl) rfl rfl rfl (Y.ev rfl) Z (i:=1) rfl (nU Z.below he2) hf2.st ⟨rfl,Nat.le_refl _⟩ hF1 fun p28 _ X28 Y hn28 hs28 Z hm28=>?_;refine sv Y (xL (Y.ev rfl)) fun _ Y=>?_;refine ae (aa (ab ?_));refine aB (Y.ev rfl) (fun hc1=>?_) (fun hc1=>?_)
  ·
   obtain⟨e2,rfl⟩:=Option.isSome_iff_exists.1 hc1;obtain⟨hmm2,hh2⟩:=hs28 e2 rfl;have hlen2:=o8 (κ:=Dty.g) (V:=fR) ⟨0,false,0⟩ hf2 hh2;rw[List.length_append,List.length_singleton] at hlen2
   have hl2:(q.1 ++ [e2]).length=q.1.length+1:=by rw[List.length_append];rfl
   refine wp_skip (aa (wp_block (ab (ah ?_))));refine sv Y (nP (Y.ev rfl) (Z.at_ (i:=1) rfl) (nU Z.below he2) hmm2 hf2.st) fun _ Y=>?_;refine sv Y (bb (v':=fR (dv e2)) (by rw[hdv];exact(kH (κ:=Dty.g) (V:=fR) (z:=⟨0,false,0⟩) hf2 hmm2).2.1) (bG (Y.ev rfl) rfl)) fun _ Y=>?_;refine na (.agg #[.int .i64 0,.bool false,.int .i64 0]) Y rfl Z fun b7 _ _ gb7 Y Z=>?_;refine aG Y (wn rfl) ⟨rfl,rfl⟩ (Y.ev rfl) (Y.ev rfl) rfl (by kernel_rfl) Z (i:=0) rfl rfl rfl fun _ Z=>?_;refine ae (aa (ah ?_));refine vf Y 1 1 rfl rfl rfl fun _ Y=>?_;refine vl Y Z 5 rfl rfl rfl rfl fun _ Y=>?_;refine sv (v:=fR (dv e2)) Y (ay (by kernel_rfl) (by kernel_rfl) (Y.ev rfl) (Z.cellsAll (i:=0) rfl)) fun _ Y=>?_;refine ez (zc:=[.int .i64 0,.bool false,.int .i64 0]) (sz:=3) Y (wn rfl) ⟨rfl,rfl⟩ rfl Tryz.underlying23 (by kernel_rfl) (by kernel_rfl) rfl rfl rfl (Y.evs2 rfl) rfl rfl rfl Z fun b35 _ _ gb35 Y Z=>?_;refine cv (z:=.agg #[.int .i64 0,.bool false,.int .i64 0]) (sz:=3) (bytes:=24) Y (wn rfl) ⟨rfl,rfl⟩ rfl Tryz.underlying23 (by kernel_rfl) rfl rfl (Y.ev rfl) (Y.ev rfl) Z (i:=2) rfl (Z.boxRd (i:=0) rfl) rfl (List.all_eq_true.1 rfl) ⟨(by omega),by decide⟩ fun A36 c36 _ _ Y Z=>?_;refine vf Y 1 1 rfl rfl rfl fun _ Y=>?_;refine cX Y (wn rfl) ⟨rfl,rfl⟩ (Y.ev rfl) (Y.ev rfl) rfl (by kernel_rfl) Z (i:=6) rfl rfl rfl fun _ Z=>?_;refine ae (aO (aa ?_));exact⟨(q.1 ++ [e2],q.2.1.push e2.born,A36,c36),(by show t.ds.length-(q.1 ++ [e2]).length<_;omega),hh2,Y.re ⟨rfl,rfl,rfl,trivial⟩,(by show St [] w _ [.row (.slice _ (q.1 ++ [e2]).length _) (q.1 ++ [e2]).length _ _ (((q.1 ++ [e2]).map dv).flatMap da),_,_,_,.box b3 #[_,.slice _ (q.1 ++ [e2]).length _] _,_];rw[List.length_append,List.map_append,List.flatMap_append];exact(Z.sub (.cons _ (.cons _ (.cons_cons _ (.cons_cons _ (.cons_cons _ (.cons_cons _ (.cons_cons _ (.cons_cons _ .slnil))))))))))⟩
  ·
   obtain rfl:p28=none:=by cases p28 with | none=>rfl | some e=>cases hc1
   have hall2:=hn28 rfl;obtain⟨out2,seen2,A2,c2⟩:=q;obtain⟨ys,hys⟩:∃ys,ys=out2.map dv:=⟨_,rfl⟩
   have hyl:out2.length=ys.length:=by rw[hys,List.length_map]
   have hym:∀x,x∈ys↔x∈t.ds:=by rw[hys,hdv];exact wy (κ:=Dty.g) (V:=fR) hf2 hs.ds hF1 hall2
   have hyn:(ys.map Dty.g).Nodup:=by rw[hys,hdv];exact lV (κ:=Dty.g) (V:=fR) hf2 hF1
   have hyc:ys.length≤t.ds.length:=by rw[←hyl];exact o8 (κ:=Dty.g) (V:=fR) ⟨0,false,0⟩ hf2 hF1
   have hyb:∀x∈ys,0≤x.g∧x.g≤100000:=fun x hx=>hd.ds x ((hym x).1 hx)
   replace Z:St [] w X28 [.row (.slice A2 ys.length c2) ys.length 124 3 (ys.flatMap da),im it2 m2 ck2 seen2 ck2,.row (.slice A1 xs.length c1) xs.length 116 4 (xs.flatMap cA),im it1 m1 ck1 seen1 ck1,.box b3 #[.slice A1 xs.length c1,.slice A2 ys.length c2] 25,.box b2 #[.slice none 0 0,.slice none 0 0] 25]:=by rw[←hyl,hys];exact Z
   refine wp_exit ?_;refine av ?_;refine av ?_;refine bn ?_;refine aa (ab (ah ?_));refine vf Y 0 0 rfl rfl rfl fun _ Y=>?_;refine vl Y Z 4 rfl rfl rfl rfl fun _ Y=>?_;refine fY Y (wn rfl) (aq (fun _ _=>by kernel_rfl) (Y.evs rfl) rfl) rfl rfl Z (i:=2) rfl pf (uH t.ts xs hs.ts hxm hxn hxb A1 c1 _ (Z.at_ (i:=2) rfl) (by omega)) fun p40 _ _ Y hF40 Z=>?_;refine cm ?_;refine vf Y 1 1 rfl rfl rfl fun _ Y=>?_;refine vl Y Z 4 rfl rfl rfl rfl fun _ Y=>?_;refine fY Y (wn rfl) (aq (fun _ _=>by kernel_rfl) (Y.evs rfl) rfl) rfl rfl Z (i:=0) rfl pf (uV t.ds ys hs.ds hym hyn hyb A2 c2 _ (Z.at_ (i:=0) rfl) (by omega)) fun p43 _ _ Y hF43 Z=>?_;refine cm ?_;refine sv Y (ay (by kernel_rfl) (by kernel_rfl) (Y.ev rfl) (Z.cellsAll (i:=4) rfl)) fun _ Y=>?_;refine aG Y (wn rfl) ⟨rfl,rfl⟩ (Y.ev rfl) (Y.ev rfl) rfl (by kernel_rfl) Z (i:=5) rfl rfl rfl fun _ Z=>?_;refine ae (aa (wp_ret ?_));refine zw Y rfl rfl Z (i:=5) rfl (by kernel_rfl) (by kernel_rfl) ?_;refine⟨(A1,c1,A2,c2),?_,?_⟩
   · rw[hF40,hF43];rfl
   · have q9:=St.swap (Z.sub (.cons_cons _ (.cons _ (.cons_cons _ (.cons _ (.cons _ (.cons _ .slnil)))))))
     rw[hF40,hF43] at q9;exact q9
set_option maxRecDepth 4000
open Go.RowKit Go.Sort Go.Shelf
theorem jA (t:Tbl) (A:Option Addr) (c:Nat) (B:Option Addr) (d:Nat) (w:World) (hr:Rd w w.heap.size A (t.ts.flatMap cA)) (hq:Rd w w.heap.size B (t.ds.flatMap da)) (hs:SrtT t) (hl:t.ts.length≤1000∧t.ds.length≤1000) :
 Calls Tryz.prog 128 #[cR t A c B d] w fun e w'=>∃i:Nat × Nat × Nat,e=.returned (.pointer (some ⟨i.1,0,none⟩))∧St [] w w' [lx i.1 i.2.1 i.2.2 t]:=
 (kW t A c B d w hr hq hs hl).mono fun e w' ⟨i,h1,h2⟩=>⟨i,h1,vS h2⟩
theorem q7 (t:Tbl) (r:Rcd) (bt m1 m2:Nat) (w:World) (h:(lx bt m1 m2 t).ok w) :
 Calls Tryz.prog 130 #[.pointer (some ⟨bt,0,none⟩),.int .i64 r.l,dz r.e] w fun e w'=>∃p:Unit,e=.returned (.tuple #[])∧True∧St [bt,m1,m2] w w' [lx bt m1 m2 (eB t r)]:=by
 obtain⟨hB,hm1,hm2,hne⟩:=h;refine(yT t r bt m1 m2 w hB hm1 hm2 hne).mono ?_
 rintro e w' ⟨rfl,hS⟩
 have hmm:jW w [m1,m2]:=fun b hb=>by
  rcases List.mem_cons.1 hb with rfl | hb
  · exact hm1.noCells
  · rw[List.mem_singleton.1 hb];exact hm2.noCells
 have k1:=hS.at_ (i:=0) rfl;have k2:=hS.at_ (i:=1) rfl;have hb':=hS.keptL.box hmm hB;refine⟨(),rfl,trivial,hS.os,hS.tape,hS.output,hS.size,fun b hb hM=>hS.block b hb (fun h=>hM (List.mem_cons_of_mem _ h)),fun e he=>?_,fun e he b hb=>?_,List.pairwise_singleton _ _⟩
 · rw[List.mem_singleton.1 he];exact⟨hb',k1,k2,hne⟩
 · rw[List.mem_singleton.1 he] at hb
   rcases hb with rfl | rfl | rfl
   · exact⟨.inr (by simp),hb'.lt⟩
   · exact⟨.inr (by simp),MapF.lt k1⟩
   · exact⟨.inr (by simp),MapF.lt k2⟩
theorem wM (s:List UInt8):SrtT (di s)∧(∀x∈(di s).ts,0≤x.i∧x.i≤100000)∧(∀x∈(di s).ds,0≤x.g∧x.g≤100000)∧(di s).ts.length≤60∧(di s).ds.length≤60:=by
 unfold di
 split
 · rename_i h
   have hz:dR (dX s)=0:=by
    unfold fQ at h
    split at h
    · cases h
    · split at h
      · cases h
      · rw[bw] at h
        exact h _ (.tail _ (.head _))
   have hk:=tblE_zero.1 hz;refine⟨hk.srt,fun x hx=>?_,fun x hx=>?_,hk.n,hk.m⟩
   · obtain⟨k,hk',rfl⟩:=List.getElem_of_mem hx
     have Y:=(hk.ts k hk').i;omega
   · obtain⟨k,hk',rfl⟩:=List.getElem_of_mem hx
     have Y:=(hk.ds k hk').g;omega
 · exact⟨lQ,fun x hx=>(by cases hx),fun x hx=>(by cases hx),by decide,by decide⟩
structure BdN (n:Nat) (t:Tbl):Prop where
 ts:∀x∈t.ts,0≤x.i∧x.i≤100000
 ds:∀x∈t.ds,0≤x.g∧x.g≤100000
 lt:t.ts.length≤n
 ld:t.ds.length≤n
theorem rp {α:Type} {κ:α→Int} (l:List α) (x:α):(jk κ l x).length≤l.length+1:=by
 unfold jk;rw[List.length_append,List.length_cons]
 have:(l.filter fun y=>decide (κ y<κ x)).length+(l.filter fun y=>decide (κ x<κ y)).length≤l.length:=by
  induction l with
  | nil=>simp
  | cons y l ih=>
   rw[List.filter_cons,List.filter_cons];by_cases h1:κ y<κ x
   · rw[if_pos (by simpa using h1),if_neg (by simp;omega)];simp only[List.length_cons];omega
   · rw[if_neg (by simpa using h1)]
     split<;>simp only[List.length_cons]<;>omega
 omega
theorem qW {α:Type} {κ:α→Int} {l:List α} {x y:α} (h:y∈jk κ l x):y=x∨y∈l:=by
 unfold jk at h;rcases List.mem_append.1 h with h | h
 · exact .inr (List.mem_filter.1 h).1
 · rcases List.mem_cons.1 h with h | h
   · exact .inl h
   · exact .inr (List.mem_filter.1 h).1
theorem BdN.chg {n:Nat} {t:Tbl} (h:BdN n t) {x:Rcd} (hx:eC x.e=0):BdN (n+1) (eB t x):=by
 obtain⟨hp,_,_,hg⟩:=sF hx;unfold eB
 split
 · exact⟨h.ts,h.ds,Nat.le_succ_of_le h.lt,Nat.le_succ_of_le h.ld⟩
 · refine⟨fun y hy=>?_,fun y hy=>?_,?_,?_⟩
   · have hy:y∈(if x.e.k=4 then pC Trn.i t.ts x.e.t else jk Trn.i t.ts (qG t x)):=hy
     split at hy
     · exact h.ts y (List.mem_filter.1 hy).1
     · rcases qW hy with rfl | hy
       · show 0≤x.e.t∧x.e.t≤100000;omega
       · exact h.ts y hy
   · have hy:y∈jy t x:=hy
     unfold jy at hy
     split at hy
     · rcases qW hy with rfl | hy
       · show 0≤x.e.g∧x.e.g≤100000;omega
       · exact h.ds y hy
     · exact h.ds y hy
   · show(if x.e.k=4 then pC Trn.i t.ts x.e.t else jk Trn.i t.ts (qG t x)).length≤n+1
     have hl:=h.lt
     split
     · have:=List.length_filter_le (fun y=>decide (Trn.i y≠x.e.t)) t.ts
       unfold pC;omega
     · have:=rp (κ:=Trn.i) t.ts (qG t x);omega
   · show(jy t x).length≤n+1
     have hl:=h.ld;unfold jy
     split
     · have:=rp (κ:=Dty.g) t.ds ⟨x.e.g,x.e.f,x.l⟩;omega
     · omega
theorem BdN.fold:∀{l:List Rcd} {n:Nat} {t:Tbl},BdN n t→(∀x∈l,eC x.e=0)→BdN (n+l.length) (l.foldl eB t)
 | [],_,_,h,_=>h
 | x::l,n,t,h,hx=>by
  have:=(h.chg (hx x (List.mem_cons_self))).fold (fun y hy=>hx y (List.mem_cons_of_mem _ hy)) (l:=l);rw[List.length_cons,show n+(l.length+1)=n+1+l.length by omega];exact this
def gm (l:List Rcd) (a:Int):List Rcd:=l.filter fun y=>decide (a<y.l)
theorem iO (l:List Rcd) (a:Int) {j:Nat} (hj:j<l.length):gm (l.take (j+1)) a=if a<l[j].l then gm (l.take j) a ++ [l[j]] else gm (l.take j) a:=by
 unfold gm;rw[List.take_succ_eq_append_getElem hj,List.filter_append,List.filter_cons];by_cases h:a<l[j].l
 · rw[if_pos (by simpa using h),if_pos h];rfl
 · rw[if_neg (by simpa using h),if_neg h];simp
theorem iM {l:List Rcd} (hs:cu Rcd.l l) {A:Option Addr} {n:Int} {w:World} {B:Nat} (hr:Rd w B A (l.flatMap cg)) (h:(km A l n).isNone=false):∃b o,A=some ⟨b,o,none⟩∧∃hk:iu Rcd.l l n<l.length,l[iu Rcd.l l n].l=n∧eE l n=some l[iu Rcd.l l n]∧km A l n=some ⟨b,o+iu Rcd.l l n*14+1,none⟩:=by
 have hb:jB Rcd.l l n=true:=by
  unfold km at h
  split at h
  · assumption
  · cases h
 obtain⟨hk,_,_⟩:=iS hs hb;obtain⟨b,o,rfl,_⟩:=hr.opened (aR aJ (by decide) (by omega));obtain⟨q1,q2,q3,q4⟩:=nB hs h;exact⟨b,o,rfl,q1,q2,q3,q4⟩
theorem qt {l:List Rcd} (hs:cu Rcd.l l) {A:Option Addr} {n:Int} {w:World} {B:Nat} (hr:Rd w B A (l.flatMap cg)) (h:(km A l n).isNone=true):eE l n=none:=by
 rcases Nat.eq_zero_or_pos l.length with h0 | h0
 · rw[List.eq_nil_of_length_eq_zero h0];rfl
 · obtain⟨b,o,rfl,_⟩:=hr.opened (aR aJ (by decide) h0)
   exact oh h
def xp (l:List Rcd) (a:Int):Bool:=match eE l a with | none=>false | some x=>x.e.k != 5
theorem zH {l:List Rcd} (h:∀x∈l,1≤x.l):gm l 0=l:=List.filter_eq_self.2 fun x hx=>by have:=h x hx;simp;omega
theorem oV (l:List Rcd) (A:Option Addr) (c:Nat) (a:Int) (w:World) (hr:Rd w w.heap.size A (l.flatMap cg)) (hv:VldH l l.length) (hl:l.length≤1000) (hx:∀x∈l,FewE x.e) :
 Calls Tryz.prog 78 #[.slice A l.length c,.int .i64 a] w fun e w'=>∃i:Option Addr × Nat × Option Addr × Nat,e=.returned (.tuple #[cR (ie l a).1 i.1 i.2.1 i.2.2.1 i.2.2.2,.int .i64 (ie l a).2]) ∧
  St [] w w' [.row (.slice i.1 (ie l a).1.ts.length i.2.1) (ie l a).1.ts.length 116 4 ((ie l a).1.ts.flatMap cA),.row (.slice i.2.2.1 (ie l a).1.ds.length i.2.2.2) (ie l a).1.ds.length 124 3 ((ie l a).1.ds.flatMap da)]:=by
 have hsl:cu Rcd.l l:=by have:=hv.srt;rwa [List.take_length] at this
 have hel:∀x∈l,eC x.e=0:=fun x hx=>by
  obtain⟨k,hk,rfl⟩:=List.getElem_of_mem hx;exact(hv.e0 hk).2.2
 refine aF (N:=67) Tryz.func78 rfl rfl rfl (fun _ h0=>?_);have S0:=St.init w;refine ab (ah ?_);refine na (.agg #[.slice none 0 0,.slice none 0 0]) h0 rfl S0 fun b4 _ _ gb4 h1 S1=>?_;refine ma h1 rfl rfl fun _ h2=>?_;refine cm ?_;refine sv (v:=cR gB none 0 none 0) h2 (br (zs:=[.slice none 0 0,.slice none 0 0]) (pl:=[(0,1),(1,1)]) (by kernel_rfl) (by kernel_rfl) (h2.evs2 rfl) rfl rfl) fun _ h3=>?_;refine dp h3 (wn rfl) (aq (fun _ _=>by kernel_rfl) (h3.evs rfl) rfl) rfl rfl S1 (jA gB none 0 none 0 _ (Rd.nil _ _ _) (Rd.nil _ _ _) lQ (by decide)) fun p15 _ X4 h4 S4=>?_;refine ma h4 rfl rfl fun _ h5=>?_;obtain⟨bt,m1,m2⟩:=p15;refine ae (aa (ab (ab (ah ?_))));refine mv h5 rfl rfl fun _ h6=>?_;refine sv h6 (a8 (h6.ev rfl) (h6.ev rfl)) fun _ h7=>?_;refine ae (aa ?_);refine aB (h7.ev rfl) (fun hc0=>?_) (fun hc0=>?_)
 ·
  have ha:a≠0:=by simpa using hc0
  refine ab (ah ?_);refine mv h7 rfl rfl fun _ h8=>?_;refine mv h8 rfl rfl fun _ h9=>?_;refine aS h9 (wn rfl) (aq (fun _ _=>by kernel_rfl) (h9.evs rfl) rfl) rfl rfl S4 (kB l hsl A c a _ (S4.rd0 hr) hl) fun _ _ h10 S10=>?_;refine ma h10 rfl rfl fun _ h11=>?_;refine ae (aa (ab (ab (ah ?_))));refine mv h11 rfl rfl fun _ h12=>?_;refine sv h12 (lG Tryz.underlying219 (by kernel_rfl) (h12.ev rfl) (h12.ev rfl)) fun _ h13=>?_;refine mv h13 rfl rfl fun _ h14=>?_;apply dw (x:=xp l a) h14 S10 23 rfl 6 29
  case hf=>
   intro gc23;obtain⟨b',o',rfl,qk,q1,q2,q3⟩:=iM hsl hr gc23;refine sy h14 rfl rfl rfl gc23 (bb (v':=.pointer (some ⟨b',o'+iu Rcd.l l a*14+1,none⟩)) (congrArg Value.pointer q3) (ak (h14.ev rfl))) rfl rfl fun _ h15=>?_;refine sy h15 rfl rfl rfl gc23 (bo (h15.ev rfl)) rfl rfl fun _ h16=>?_;refine sy h16 rfl rfl rfl gc23 (aj (off:=0) (by kernel_rfl) (h16.ev rfl) rfl) rfl rfl fun _ h17=>?_;refine sy h17 rfl rfl rfl gc23 (aw (by kernel_rfl) (h17.ev rfl) ((dJ (S10.rd0 hr) qk) 0 _ rfl)) rfl rfl fun _ h18=>?_;refine sy h18 rfl rfl rfl gc23 (bb (v':=.bool (xp l a)) (congrArg Value.bool (by unfold xp;rw[q2])) (a8 (h18.ev rfl) (h18.ev rfl))) rfl rfl fun _ h19=>?_;refine sv h19 (aD (h19.ev rfl) gc23 (h19.ev rfl)) fun _ h20=>?_;exact ae ⟨h20.mid (m:=[(_,_),(_,_),(_,_),(_,_),(_,_)]) rfl,S10⟩
  case ht=>
   intro gc23;refine no h14 rfl rfl rfl gc23 rfl rfl fun _ h21=>?_;refine no h21 rfl rfl rfl gc23 rfl rfl fun _ h22=>?_;refine no h22 rfl rfl rfl gc23 rfl rfl fun _ h23=>?_;refine no h23 rfl rfl rfl gc23 rfl rfl fun _ h24=>?_;refine no h24 rfl rfl rfl gc23 rfl rfl fun _ h25=>?_;refine sv h25 (aA (h25.ev rfl) gc23 (h25.ev rfl)) fun _ h26=>?_;exact ae ⟨h26.mid (m:=[(_,_),(_,_),(_,_),(_,_),(_,_)]) rfl,S10⟩
  case h=>
   rintro a27 X27 ⟨h27,S27⟩
   refine ae (aa ?_);refine aB (h27.ev rfl) (fun hc1=>?_) (fun hc1=>?_)
   ·
    have hbad:ie l a=(gB,6):=by
     unfold ie;rw[if_neg ha];rcases Bool.or_eq_true_iff.1 hc1 with r1 | r1
     · rw[qt hsl hr r1]
     · unfold xp at r1
       cases hq:eE l a with
       | none=>rfl
       | some x=>rw[hq] at r1;simp only[];rw[if_pos (by simpa using r1)]
    refine ab (ah ?_);refine sv h27 (br (zs:=[.slice none 0 0,.slice none 0 0]) (pl:=[(0,1),(1,1)]) (by kernel_rfl) (by kernel_rfl) (h27.evs2 rfl) rfl rfl) fun _ h28=>?_;refine aG h28 (wn rfl) ⟨rfl,rfl⟩ (h28.ev rfl) (h28.ev rfl) rfl (by kernel_rfl) S27 (i:=1) rfl rfl rfl fun _ S29=>?_;refine ma h28 rfl rfl fun _ h30=>?_;refine ae (aa (wp_ret (ai (ai ?_))));refine ek h30 rfl rfl rfl S29 (i:=1) rfl (by kernel_rfl) (by kernel_rfl) ?_;refine⟨(none,0,none,0),by rw[hbad];rfl,?_⟩;rw[hbad];exact((S29.sub (List.nil_sublist _)).nilRow 124 3).nilRow 116 4
   ·
    obtain⟨r1,r2⟩:=Bool.or_eq_false_iff.1 hc1;obtain⟨b',o',rfl,qk,q1,q2,q3⟩:=iM hsl hr r1
    have r3:l[iu Rcd.l l a].e.k=5:=by unfold xp at r2;rw[q2] at r2;simpa using r2
    generalize iu Rcd.l l a=k at qk q1 q2 q3 r3 h27;have hfe:=hx _ (List.getElem_mem qk);refine wp_skip (aa (ab (ah ?_)));refine sv h27 (bb (v':=.pointer (some ⟨b',o'+k*14+1,none⟩)) (congrArg Value.pointer q3) (ak (h27.ev rfl))) fun _ h31=>?_;refine sv h31 (bo (h31.ev rfl)) fun _ h32=>?_;refine sv h32 (aj (off:=12) (by kernel_rfl) (h32.ev rfl) rfl) fun _ h33=>?_;refine sv h33 (aw (by kernel_rfl) (h33.ev rfl) ((dJ (S27.rd0 hr) qk) 12 _ rfl)) fun _ h34=>?_;refine dp h34 (wn rfl) (aq (fun _ _=>by kernel_rfl) (h34.evs rfl) rfl) rfl rfl S27 (k7 (bl l[k].e.d) _ hfe.d) fun p36 _ _ h35 S35=>?_;refine mv h35 rfl rfl fun _ h36=>?_;refine sv (v:=cR (di (bl l[k].e.d)) p36.1 p36.2.1 p36.2.2.1 p36.2.2.2) h36 (bG (h36.ev rfl) rfl) fun _ h37=>?_;refine vx h37 rfl rfl rfl fun _ h38=>?_;refine na (.agg #[.slice none 0 0,.slice none 0 0]) h38 rfl S35 fun b8 _ _ gb8 h39 S39=>?_;refine aG h39 (wn rfl) ⟨rfl,rfl⟩ (h39.ev rfl) (h39.ev rfl) rfl (by kernel_rfl) S39 (i:=0) rfl rfl rfl fun _ S40=>?_;refine ma h39 rfl rfl fun _ h41=>?_;obtain⟨g1,g2,g3,g4,g5⟩:=wM (bl l[k].e.d);refine ae (aa (ah ?_));refine sv (v:=cR (di (bl l[k].e.d)) p36.1 p36.2.1 p36.2.2.1 p36.2.2.2) h41 (ay (by kernel_rfl) (by kernel_rfl) (h41.ev rfl) (S40.cellsAll (i:=0) rfl)) fun _ h42=>?_;refine dp h42 (wn rfl) (aq (fun _ _=>by kernel_rfl) (h42.evs rfl) rfl) rfl rfl S40 (jA (di (bl l[k].e.d)) p36.1 p36.2.1 p36.2.2.1 p36.2.2.2 _ (S40.rdOf (i:=1) rfl) (S40.rdOf (i:=2) rfl) g1 (by omega)) fun p40 _ X43 h43 S43=>?_;refine ma h43 rfl rfl fun _ h44=>?_;obtain⟨bt,m1,m2⟩:=p40;obtain⟨T0,hT0⟩:∃T0,T0=di (bl l[k].e.d):=⟨_,rfl⟩
    have hTs:SrtT T0:=by rw[hT0];exact g1
    have hTb:BdN 60 T0:=by rw[hT0];exact⟨g2,g3,g4,g5⟩
    have hAn:ie l a=yp T0 (gm l a):=by unfold ie;rw[if_neg ha,q2];simp only[];rw[if_neg (by rw[r3];decide),hT0];rfl
    replace S43:St [] w X43 [lx bt m1 m2 (((gm (l.take 0) a)).foldl eB T0),.box b4 #[.slice none 0 0,.slice none 0 0] 25]:=by rw[hT0];exact(S43.sub (.cons_cons _ (.cons _ (.cons _ (.cons _ (.cons _ (.cons_cons _ .slnil)))))))
    refine ae (aa (ab (ab (ah ?_))));refine mv h44 rfl rfl fun _ h45=>?_;refine sv h45 (bf Tryz.underlying180 (h45.ev rfl)) fun _ h46=>?_;refine mv h46 rfl rfl fun _ h47=>?_;refine ae (aa (wp_block ?_));refine bz h47 S43 [42,41,6,5,4,1] (fun (j:Nat)=>[(43,.int .i64 j)]) (fun (j:Nat)=>j≤l.length) (fun j L=>L.set 0 (lx bt m1 m2 ((gm (l.take j) a).foldl eB T0))) (fun (j:Nat)=>l.length-j) (0) (Nat.zero_le _) ⟨rfl,rfl,rfl,rfl,rfl,rfl,rfl,trivial⟩ (S43) ?_;intro j _ _ hF0 h48 S48;refine ab (ah ?_);refine sv h48 (bq (h48.ev rfl) (h48.ev rfl)) fun _ h49=>?_;refine ae (aa (ab ?_));refine aB (h49.ev rfl) (fun hc2=>?_) (fun hc2=>?_)
    ·
     have hlt:j<l.length:=by have:=of_decide_eq_true hc2;omega
     obtain⟨b5,o5,hA5,hB5,_⟩:=hr.opened (aR aJ (by decide) (by omega));have hr5:=hr;rw[hA5] at hr5;refine wp_skip (aa (ab (wp_block (ab (ah ?_)))));refine sv h49 (aC (b:=b5) (o:=o5) (i:=j) (sz:=14) Tryz.underlying180 (by kernel_rfl) ((h49.ev rfl).trans (congrArg (fun A=>Value.slice A l.length c) hA5)) (h49.ev rfl) rfl hlt rfl) fun _ h50=>?_;refine sv (v:=fS l[j]) h50 (ay (by kernel_rfl) (by kernel_rfl) (h50.ev rfl) (a7 aJ (S48.rd0 hr5) hlt)) fun _ h51=>?_;refine na (.agg #[.int .i64 0,.int .i64 0,.int .i64 0,.int .i64 0,.int .i64 0,.int .i64 0,.bool false,.int .i64 0,.int .i64 0,.int .i64 0,.int .i64 0,.string ⟨#[]⟩,.string ⟨#[]⟩,.string ⟨#[]⟩]) h51 rfl S48 fun b11 _ _ gb11 h52 S52=>?_;refine aG h52 (wn rfl) ⟨rfl,rfl⟩ (h52.ev rfl) (h52.ev rfl) rfl (by kernel_rfl) S52 (i:=0) rfl rfl rfl fun _ S53=>?_;refine cm ?_;refine vf h52 0 0 rfl rfl rfl fun _ h54=>?_;refine vl h54 S53 0 rfl rfl rfl rfl fun _ h55=>?_;refine mv h55 rfl rfl fun _ h56=>?_;refine sv h56 (cD (h56.ev rfl) (h56.ev rfl)) fun _ h57=>?_;refine ae (aa ?_);refine aB (h57.ev rfl) (fun hc3=>?_) (fun hc3=>?_)
     ·
      have hgt:a<l[j].l:=of_decide_eq_true hc3;refine ah ?_;refine mv h57 rfl rfl fun _ h58=>?_;refine vf h58 0 0 rfl rfl rfl fun _ h59=>?_;refine vl h59 S53 0 rfl rfl rfl rfl fun _ h60=>?_;refine vf h60 1 1 rfl rfl rfl fun _ h61=>?_;refine sv (v:=dz l[j].e) h61 (ay (by kernel_rfl) (by kernel_rfl) (h61.ev rfl) (S53.cellsOf (i:=0) rfl 1 13)) fun _ h62=>?_;refine fY h62 (wn rfl) (aq (fun _ _=>by kernel_rfl) (h62.evs rfl) rfl) rfl rfl S53 (i:=1) rfl (fun b hb=>by rcases List.mem_cons.1 hb with h | hb;exact .inl h;rcases List.mem_cons.1 hb with h | hb;exact .inr (.inl h);exact .inr (.inr (List.mem_singleton.1 hb))) (q7 _ l[j] bt m1 m2 _ (S53.at_ (i:=1) rfl)) fun p56 _ _ h63 hF56 S63=>?_;refine ae (aO (aa (ah ?_)));refine sv h63 (aV (h63.ev rfl) (h63.ev rfl) (by omega)) fun _ h64=>?_;refine mv h64 rfl rfl fun _ h65=>?_;refine ae (aa ?_);exact⟨j+1,by omega,hlt,h65.re ⟨rfl,rfl,rfl,rfl,rfl,rfl,rfl,trivial⟩,(by have e9:=iO l a hlt;rw[if_pos hgt] at e9;show St [] w _ [lx bt m1 m2 ((gm (l.take (j+1)) a).foldl eB T0),_];rw[e9,List.foldl_append];exact(S63.sub (.cons _ (.cons_cons _ (.cons_cons _ .slnil)))))⟩
     ·
      have hgt:¬a<l[j].l:=of_decide_eq_false hc3;refine wp_skip (aO (aa (ah ?_)));refine sv h57 (aV (h57.ev rfl) (h57.ev rfl) (by omega)) fun _ h66=>?_;refine mv h66 rfl rfl fun _ h67=>?_;refine ae (aa ?_);exact⟨j+1,by omega,hlt,h67.re ⟨rfl,rfl,rfl,rfl,rfl,rfl,rfl,trivial⟩,(by have e9:=iO l a hlt;rw[if_neg hgt] at e9;show St [] w _ [lx bt m1 m2 ((gm (l.take (j+1)) a).foldl eB T0),_];rw[e9];exact(S53.sub (.cons _ (.cons_cons _ (.cons_cons _ .slnil)))))⟩
    ·
     have hge:l.length≤j:=by have:=of_decide_eq_false hc2;omega
     obtain rfl:j=l.length:=by have:=hF0;omega
     obtain⟨T1,hT1⟩:∃T1,T1=(gm l a).foldl eB T0:=⟨_,rfl⟩;have hbl:(gm l a).length≤l.length:=List.length_filter_le _ _
     have hTs1:SrtT T1:=by rw[hT1];exact hTs.fold
     have hTb1:BdTbl T1:=by
      have:=hTb.fold (l:=gm l a) (fun x hx=>hel x (List.mem_filter.1 hx).1);rw[hT1];exact⟨this.ts,this.ds,by have:=this.lt;omega,by have:=this.ld;omega⟩
     have hAn1:ie l a=if dR T1≠0 then (gB,dR T1) else (T1,0):=by rw[hAn,hT1];rfl
     rw[List.take_length,←hT1] at S48;refine wp_exit ?_;refine av ?_;refine av ?_;refine bn ?_;refine aa (ab (ah ?_));refine mv h49 rfl rfl fun _ h68=>?_;refine dp h68 (wn rfl) (aq (fun _ _=>by kernel_rfl) (h68.evs rfl) rfl) rfl rfl S48 (qd T1 bt m1 m2 _ (S48.at_ (i:=0) rfl).1 (S48.at_ (i:=0) rfl).2.1 (S48.at_ (i:=0) rfl).2.2.1 hTs1 hTb1) fun p59 _ _ h69 S69=>?_;refine na (.agg #[.slice none 0 0,.slice none 0 0]) h69 rfl S69 fun b12 _ _ gb12 h70 S70=>?_;refine aG h70 (wn rfl) ⟨rfl,rfl⟩ (h70.ev rfl) (h70.ev rfl) rfl (by kernel_rfl) S70 (i:=0) rfl rfl rfl fun _ S71=>?_;refine ae (aa (ab (ab (ah ?_))));refine sv (v:=cR T1 p59.1 p59.2.1 p59.2.2.1 p59.2.2.2) h70 (ay (by kernel_rfl) (by kernel_rfl) (h70.ev rfl) (S71.cellsAll (i:=0) rfl)) fun _ h72=>?_;refine aS h72 (wn rfl) (aq (fun _ _=>by kernel_rfl) (h72.evs rfl) rfl) rfl rfl S71 (dt T1 p59.1 p59.2.1 p59.2.2.1 p59.2.2.2 _ (S71.rdOf (i:=1) rfl) (S71.rdOf (i:=2) rfl)) fun _ _ h73 S73=>?_;refine ma h73 rfl rfl fun _ h74=>?_;refine cm ?_;refine mv h74 rfl rfl fun _ h75=>?_;refine sv h75 (a8 (h75.ev rfl) (h75.ev rfl)) fun _ h76=>?_;refine ae (aa ?_);refine aB (h76.ev rfl) (fun hc4=>?_) (fun hc4=>?_)
     ·
      have hne:dR T1≠0:=by simpa using hc4
      rw[if_pos hne] at hAn1;refine ab (ah ?_);refine sv h76 (br (zs:=[.slice none 0 0,.slice none 0 0]) (pl:=[(0,1),(1,1)]) (by kernel_rfl) (by kernel_rfl) (h76.evs2 rfl) rfl rfl) fun _ h77=>?_;refine mv h77 rfl rfl fun _ h78=>?_;refine aG h78 (wn rfl) ⟨rfl,rfl⟩ (h78.ev rfl) (h78.ev rfl) rfl (by kernel_rfl) S73 (i:=4) rfl rfl rfl fun _ S79=>?_;refine ma h78 rfl rfl fun _ h80=>?_;refine ae (aa (wp_ret (ai ?_)));refine ek h80 rfl rfl rfl S79 (i:=4) rfl (by kernel_rfl) (by kernel_rfl) ?_;refine⟨(none,0,none,0),by rw[hAn1];rfl,?_⟩;rw[hAn1];exact((S79.sub (List.nil_sublist _)).nilRow 124 3).nilRow 116 4
     ·
      have hne:¬dR T1≠0:=by simpa using hc4
      rw[if_neg hne] at hAn1;refine wp_skip (aa (ab (ah ?_)));refine sv (v:=cR T1 p59.1 p59.2.1 p59.2.2.1 p59.2.2.2) h76 (ay (by kernel_rfl) (by kernel_rfl) (h76.ev rfl) (S73.cellsAll (i:=0) rfl)) fun _ h81=>?_;refine aG h81 (wn rfl) ⟨rfl,rfl⟩ (h81.ev rfl) (h81.ev rfl) rfl (by kernel_rfl) S73 (i:=4) rfl rfl rfl fun _ S82=>?_;refine ma h81 rfl rfl fun _ h83=>?_;refine ae (aa (wp_ret ?_));refine ek h83 rfl rfl rfl S82 (i:=4) rfl (by kernel_rfl) (by kernel_rfl) ?_;refine⟨p59,by rw[hAn1];rfl,?_⟩;rw[hAn1];exact(S82.sub (.cons _ (.cons_cons _ (.cons_cons _ (.cons _ (.cons _ .slnil))))))
 ·
  have ha:a=0:=by simpa using hc0
  obtain⟨T0,hT0⟩:∃T0,T0=gB:=⟨_,rfl⟩
  have hTs:SrtT T0:=by rw[hT0];exact lQ
  have hTb:BdN 60 T0:=by rw[hT0];exact⟨fun x hx=>(by cases hx),fun x hx=>(by cases hx),by decide,by decide⟩
  have hAn:ie l a=yp T0 (gm l a):=by
   unfold ie;rw[if_pos ha,hT0,ha,zH];intro x hx;obtain⟨k,hk,rfl⟩:=List.getElem_of_mem hx;exact(hv.e0 hk).1
  replace S4:St [] w X4 [lx bt m1 m2 (((gm (l.take 0) a)).foldl eB T0),.box b4 #[.slice none 0 0,.slice none 0 0] 25]:=by rw[hT0];exact S4
  refine wp_skip (aa (ab (ab (ah ?_))));refine mv h7 rfl rfl fun _ h84=>?_;refine sv h84 (bf Tryz.underlying180 (h84.ev rfl)) fun _ h85=>?_;refine mv h85 rfl rfl fun _ h86=>?_;refine ae (aa (wp_block ?_));refine bz h86 S4 [42,41,6,5,4,1] (fun (j:Nat)=>[(43,.int .i64 j)]) (fun (j:Nat)=>j≤l.length) (fun j L=>L.set 0 (lx bt m1 m2 ((gm (l.take j) a).foldl eB T0))) (fun (j:Nat)=>l.length-j) (0) (Nat.zero_le _) ⟨rfl,rfl,rfl,rfl,rfl,rfl,rfl,trivial⟩ (S4) ?_;intro j _ _ hF0 h87 S87;refine ab (ah ?_);refine sv h87 (bq (h87.ev rfl) (h87.ev rfl)) fun _ h88=>?_;refine ae (aa (ab ?_));refine aB (h88.ev rfl) (fun hc2=>?_) (fun hc2=>?_)
  ·
   have hlt:j<l.length:=by have:=of_decide_eq_true hc2;omega
   obtain⟨b5,o5,hA5,hB5,_⟩:=hr.opened (aR aJ (by decide) (by omega));have hr5:=hr;rw[hA5] at hr5;refine wp_skip (aa (ab (wp_block (ab (ah ?_)))));refine sv h88 (aC (b:=b5) (o:=o5) (i:=j) (sz:=14) Tryz.underlying180 (by kernel_rfl) ((h88.ev rfl).trans (congrArg (fun A=>Value.slice A l.length c) hA5)) (h88.ev rfl) rfl hlt rfl) fun _ h89=>?_;refine sv (v:=fS l[j]) h89 (ay (by kernel_rfl) (by kernel_rfl) (h89.ev rfl) (a7 aJ (S87.rd0 hr5) hlt)) fun _ h90=>?_;refine na (.agg #[.int .i64 0,.int .i64 0,.int .i64 0,.int .i64 0,.int .i64 0,.int .i64 0,.bool false,.int .i64 0,.int .i64 0,.int .i64 0,.int .i64 0,.string ⟨#[]⟩,.string ⟨#[]⟩,.string ⟨#[]⟩]) h90 rfl S87 fun b11 _ _ gb11 h91 S91=>?_;refine aG h91 (wn rfl) ⟨rfl,rfl⟩ (h91.ev rfl) (h91.ev rfl) rfl (by kernel_rfl) S91 (i:=0) rfl rfl rfl fun _ S92=>?_;refine cm ?_;refine vf h91 0 0 rfl rfl rfl fun _ h93=>?_;refine vl h93 S92 0 rfl rfl rfl rfl fun _ h94=>?_;refine mv h94 rfl rfl fun _ h95=>?_;refine sv h95 (cD (h95.ev rfl) (h95.ev rfl)) fun _ h96=>?_;refine ae (aa ?_);refine aB (h96.ev rfl) (fun hc3=>?_) (fun hc3=>?_)
   ·
    have hgt:a<l[j].l:=of_decide_eq_true hc3;refine ah ?_;refine mv h96 rfl rfl fun _ h97=>?_;refine vf h97 0 0 rfl rfl rfl fun _ h98=>?_;refine vl h98 S92 0 rfl rfl rfl rfl fun _ h99=>?_;refine vf h99 1 1 rfl rfl rfl fun _ h100=>?_;refine sv (v:=dz l[j].e) h100 (ay (by kernel_rfl) (by kernel_rfl) (h100.ev rfl) (S92.cellsOf (i:=0) rfl 1 13)) fun _ h101=>?_;refine fY h101 (wn rfl) (aq (fun _ _=>by kernel_rfl) (h101.evs rfl) rfl) rfl rfl S92 (i:=1) rfl (fun b hb=>by rcases List.mem_cons.1 hb with h | hb;exact .inl h;rcases List.mem_cons.1 hb with h | hb;exact .inr (.inl h);exact .inr (.inr (List.mem_singleton.1 hb))) (q7 _ l[j] bt m1 m2 _ (S92.at_ (i:=1) rfl)) fun p56 _ _ h102 hF56 S102=>?_;refine ae (aO (aa (ah ?_)));refine sv h102 (aV (h102.ev rfl) (h102.ev rfl) (by omega)) fun _ h103=>?_;refine mv h103 rfl rfl fun _ h104=>?_;refine ae (aa ?_);exact⟨j+1,by omega,hlt,h104.re ⟨rfl,rfl,rfl,rfl,rfl,rfl,rfl,trivial⟩,(by have e9:=iO l a hlt;rw[if_pos hgt] at e9;show St [] w _ [lx bt m1 m2 ((gm (l.take (j+1)) a).foldl eB T0),_];rw[e9,List.foldl_append];exact(S102.sub (.cons _ (.cons_cons _ (.cons_cons _ .slnil)))))⟩
   ·
    have hgt:¬a<l[j].l:=of_decide_eq_false hc3;refine wp_skip (aO (aa (ah ?_)));refine sv h96 (aV (h96.ev rfl) (h96.ev rfl) (by omega)) fun _ h105=>?_;refine mv h105 rfl rfl fun _ h106=>?_;refine ae (aa ?_);exact⟨j+1,by omega,hlt,h106.re ⟨rfl,rfl,rfl,rfl,rfl,rfl,rfl,trivial⟩,(by have e9:=iO l a hlt;rw[if_neg hgt] at e9;show St [] w _ [lx bt m1 m2 ((gm (l.take (j+1)) a).foldl eB T0),_];rw[e9];exact(S92.sub (.cons _ (.cons_cons _ (.cons_cons _ .slnil)))))⟩
  ·
   have hge:l.length≤j:=by have:=of_decide_eq_false hc2;omega
   obtain rfl:j=l.length:=by have:=hF0;omega
   obtain⟨T1,hT1⟩:∃T1,T1=(gm l a).foldl eB T0:=⟨_,rfl⟩;have hbl:(gm l a).length≤l.length:=List.length_filter_le _ _
   have hTs1:SrtT T1:=by rw[hT1];exact hTs.fold
   have hTb1:BdTbl T1:=by
    have:=hTb.fold (l:=gm l a) (fun x hx=>hel x (List.mem_filter.1 hx).1);rw[hT1];exact⟨this.ts,this.ds,by have:=this.lt;omega,by have:=this.ld;omega⟩
   have hAn1:ie l a=if dR T1≠0 then (gB,dR T1) else (T1,0):=by rw[hAn,hT1];rfl
   rw[List.take_length,←hT1] at S87;refine wp_exit ?_;refine av ?_;refine av ?_;refine bn ?_;refine aa (ab (ah ?_));refine mv h88 rfl rfl fun _ h107=>?_;refine dp h107 (wn rfl) (aq (fun _ _=>by kernel_rfl) (h107.evs rfl) rfl) rfl rfl S87 (qd T1 bt m1 m2 _ (S87.at_ (i:=0) rfl).1 (S87.at_ (i:=0) rfl).2.1 (S87.at_ (i:=0) rfl).2.2.1 hTs1 hTb1) fun p59 _ _ h108 S108=>?_;refine na (.agg #[.slice none 0 0,.slice none 0 0]) h108 rfl S108 fun b12 _ _ gb12 h109 S109=>?_;refine aG h109 (wn rfl) ⟨rfl,rfl⟩ (h109.ev rfl) (h109.ev rfl) rfl (by kernel_rfl) S109 (i:=0) rfl rfl rfl fun _ S110=>?_;refine ae (aa (ab (ab (ah ?_))));refine sv (v:=cR T1 p59.1 p59.2.1 p59.2.2.1 p59.2.2.2) h109 (ay (by kernel_rfl) (by kernel_rfl) (h109.ev rfl) (S110.cellsAll (i:=0) rfl)) fun _ h111=>?_;refine aS h111 (wn rfl) (aq (fun _ _=>by kernel_rfl) (h111.evs rfl) rfl) rfl rfl S110 (dt T1 p59.1 p59.2.1 p59.2.2.1 p59.2.2.2 _ (S110.rdOf (i:=1) rfl) (S110.rdOf (i:=2) rfl)) fun _ _ h112 S112=>?_;refine ma h112 rfl rfl fun _ h113=>?_;refine cm ?_;refine mv h113 rfl rfl fun _ h114=>?_;refine sv h114 (a8 (h114.ev rfl) (h114.ev rfl)) fun _ h115=>?_;refine ae (aa ?_);refine aB (h115.ev rfl) (fun hc4=>?_) (fun hc4=>?_)
   ·
    have hne:dR T1≠0:=by simpa using hc4
    rw[if_pos hne] at hAn1;refine ab (ah ?_);refine sv h115 (br (zs:=[.slice none 0 0,.slice none 0 0]) (pl:=[(0,1),(1,1)]) (by kernel_rfl) (by kernel_rfl) (h115.evs2 rfl) rfl rfl) fun _ h116=>?_;refine mv h116 rfl rfl fun _ h117=>?_;refine aG h117 (wn rfl) ⟨rfl,rfl⟩ (h117.ev rfl) (h117.ev rfl) rfl (by kernel_rfl) S112 (i:=4) rfl rfl rfl fun _ S118=>?_;refine ma h117 rfl rfl fun _ h119=>?_;refine ae (aa (wp_ret (ai ?_)));refine ek h119 rfl rfl rfl S118 (i:=4) rfl (by kernel_rfl) (by kernel_rfl) ?_;refine⟨(none,0,none,0),by rw[hAn1];rfl,?_⟩;rw[hAn1];exact((S118.sub (List.nil_sublist _)).nilRow 124 3).nilRow 116 4
   ·
    have hne:¬dR T1≠0:=by simpa using hc4
    rw[if_neg hne] at hAn1;refine wp_skip (aa (ab (ah ?_)));refine sv (v:=cR T1 p59.1 p59.2.1 p59.2.2.1 p59.2.2.2) h115 (ay (by kernel_rfl) (by kernel_rfl) (h115.ev rfl) (S112.cellsAll (i:=0) rfl)) fun _ h120=>?_;refine aG h120 (wn rfl) ⟨rfl,rfl⟩ (h120.ev rfl) (h120.ev rfl) rfl (by kernel_rfl) S112 (i:=4) rfl rfl rfl fun _ S121=>?_;refine ma h120 rfl rfl fun _ h122=>?_;refine ae (aa (wp_ret ?_));refine ek h122 rfl rfl rfl S121 (i:=4) rfl (by kernel_rfl) (by kernel_rfl) ?_;refine⟨p59,by rw[hAn1];rfl,?_⟩;rw[hAn1];exact(S121.sub (.cons _ (.cons_cons _ (.cons_cons _ (.cons _ (.cons _ .slnil))))))
theorem j9 {l:List Rcd} (h:(dI l).2=0):l.length≤100∧VldH l l.length:=by
 unfold dI at h
 split at h
 · cases h
 · rename_i h1
   exact⟨by omega,Nat.le_refl _,fun k hk _=>(cQ _ l).1 h k hk⟩
def kK (l:List Rcd) (a:Int):Tbl × Int:=if (dI l).2≠0 then (gB,(dI l).2) else ie l a
theorem pc (l:List Rcd) (A:Option Addr) (c:Nat) (a:Int) (w:World) (hr:Rd w w.heap.size A (l.flatMap cg)) (hl:l.length≤1000) (hc:l.length≤c) (hF:FolT w) (hx:∀x∈l,FewE x.e) :
 Calls Tryz.prog 24 #[.slice A l.length c,.int .i64 a] w fun e w'=>∃i:Option Addr × Nat × Option Addr × Nat,e=.returned (.tuple #[cR (kK l a).1 i.1 i.2.1 i.2.2.1 i.2.2.2,.int .i64 (kK l a).2]) ∧
  St [] w w' [.row (.slice i.1 (kK l a).1.ts.length i.2.1) (kK l a).1.ts.length 116 4 ((kK l a).1.ts.flatMap cA),.row (.slice i.2.2.1 (kK l a).1.ds.length i.2.2.2) (kK l a).1.ds.length 124 3 ((kK l a).1.ds.flatMap da)]:=by
 refine aF (N:=18) Tryz.func24 rfl rfl rfl (fun _ Y=>?_);have Z:=St.init w;refine ab (ah ?_);refine na (.agg #[.slice none 0 0,.slice none 0 0]) Y rfl Z fun b4 _ _ gb4 Y Z=>?_;refine ma Y rfl rfl fun _ Y=>?_;refine ae (aa (ab (ab (ah ?_))));refine mv Y rfl rfl fun _ Y=>?_;refine aS Y (wn rfl) (aq (fun _ _=>by kernel_rfl) (Y.evs rfl) rfl) rfl rfl Z (dP l A c _ (Z.rd0 hr) hl hc (hF.below Z.below) hx) fun _ _ Y Z=>?_;refine ma Y rfl rfl fun _ Y=>?_;refine cm ?_;refine mv Y rfl rfl fun _ Y=>?_;refine sv Y (a8 (Y.ev rfl) (Y.ev rfl)) fun _ Y=>?_;refine ae (aa ?_);refine aB (Y.ev rfl) (fun hc0=>?_) (fun hc0=>?_)
 ·
  have hne:(dI l).2≠0:=by simpa using hc0
  have e1:kK l a=(gB,(dI l).2):=by unfold kK;rw[if_pos hne]
  refine ab (ah ?_);refine sv Y (br (zs:=[.slice none 0 0,.slice none 0 0]) (pl:=[(0,1),(1,1)]) (by kernel_rfl) (by kernel_rfl) (Y.evs2 rfl) rfl rfl) fun _ Y=>?_;refine mv Y rfl rfl fun _ Y=>?_;refine aG Y (wn rfl) ⟨rfl,rfl⟩ (Y.ev rfl) (Y.ev rfl) rfl (by kernel_rfl) Z (i:=0) rfl rfl rfl fun _ Z=>?_;refine ma Y rfl rfl fun _ Y=>?_;refine ae (aa (wp_ret (ai ?_)));refine ek Y rfl rfl rfl Z (i:=0) rfl (by kernel_rfl) (by kernel_rfl) ?_;refine⟨(none,0,none,0),by rw[e1];rfl,?_⟩;rw[e1];exact((Z.sub (List.nil_sublist _)).nilRow 124 3).nilRow 116 4
 ·
  have hz:(dI l).2=0:=by simpa using hc0
  have e1:kK l a=ie l a:=by unfold kK;rw[if_neg (fun h=>h hz)]
  obtain⟨hl2,hv⟩:=j9 hz;refine wp_skip (aa (ab (ah ?_)));refine mv Y rfl rfl fun _ Y=>?_;refine mv Y rfl rfl fun _ Y=>?_;refine dp Y (wn rfl) (aq (fun _ _=>by kernel_rfl) (Y.evs rfl) rfl) rfl rfl Z (oV l A c a _ (Z.rd0 hr) hv hl hx) fun p15 _ _ Y Z=>?_;refine sv (v:=cR (ie l a).1 p15.1 p15.2.1 p15.2.2.1 p15.2.2.2) Y (bG (Y.ev rfl) rfl) fun _ Y=>?_;refine vx Y rfl rfl rfl fun _ Y=>?_;refine aG Y (wn rfl) ⟨rfl,rfl⟩ (Y.ev rfl) (Y.ev rfl) rfl (by kernel_rfl) Z (i:=2) rfl rfl rfl fun _ Z=>?_;refine ma Y rfl rfl fun _ Y=>?_;refine ae (aa (wp_ret ?_));refine ek Y rfl rfl rfl Z (i:=2) rfl (by kernel_rfl) (by kernel_rfl) ?_;refine⟨p15,by rw[e1];rfl,?_⟩;rw[e1];exact(Z.sub (.cons_cons _ (.cons_cons _ (.cons _ .slnil))))
end Go.Proofs.YtcfdpfmchchkaaaGreatDoor
