/-
  Chapter 22: rows of structs that are sorted by numbers.
  Chapter 22: a table in order.
  Chapter 22: a table in order; analysis.
  Chapter 22: analysis.
-/
import Derived.Test.YtcfdpfmchchkaaaGreatDoorRcE
import Derived.Shelf.SlSortCmp.NoneTotal
namespace Go.Proofs.YtcfdpfmchchkaaaGreatDoor
set_option maxHeartbeats 1000000
set_option maxRecDepth 4000
set_option linter.unusedVariables false
set_option linter.unusedSimpArgs false
open Go.RowKit Go.Sort Go.Shelf
theorem ju {α:Type} [Inhabited α] {enc:α→List Value} {k:Nat} (hk:∀x,(enc x).length=k) (h0:0<k) (d:Array α):(flatK enc k d).toList=d.toList.flatMap enc:=by
 apply List.ext_getElem?;intro t;have hs:(flatK enc k d).size=d.size*k:=size_flatK enc k d;by_cases ht:t<d.size*k
 · have h1:t / k<d.size:=by rw[Nat.div_lt_iff_lt_mul h0];exact ht
   have h2:t % k<k:=Nat.mod_lt _ h0;have Y:=get_flatK enc k d t ht
   have e1:(flatK enc k d).toList[t]? = some (flatK enc k d)[t]!:=by
    rw[Array.getElem?_toList,Array.getElem?_eq_getElem (by rw[hs];exact ht),getElem!_pos _ t (by rw[hs];exact ht)]
   rw[e1,Y]
   have e2:d[t / k]! = d.toList[t / k]'(by simpa using h1):=by rw[getElem!_pos d _ h1];rfl
   have Y:=oq hk d.toList (k:=t / k) (by simpa using h1) (j:=t % k) (u:=(enc d[t / k]!)[t % k]!) (by
    rw[←e2,List.getElem?_eq_getElem (by rw[hk];exact h2),getElem!_pos (enc d[t / k]!) (t % k) (by rw[hk];exact h2)])
   rw[Nat.div_add_mod' t k] at Y;exact Y.symm
 · have hl:(d.toList.flatMap enc).length=d.size*k:=by
    rw[jX hk d.toList,Array.length_toList,Nat.mul_comm]
   rw[List.getElem?_eq_none (by rw[Array.length_toList,hs];omega),List.getElem?_eq_none (by rw[hl];omega)]
theorem pO (cur F:Array Value) (h:F.size≤cur.size):(putCells (id:Value→Value) 0 F cur).toList.take F.size=F.toList:=by
 apply List.ext_getElem?;intro j;by_cases hj:j<F.size
 · rw[List.getElem?_take_of_lt hj,Array.getElem?_toList,Array.getElem?_toList]
   simp[putCells,hj,show j<cur.size by omega]
 · rw[List.getElem?_take_eq_none ab,List.getElem?_eq_none (by simp;omega)]
theorem tt {α:Type} [Inhabited α] {d d':Array α} (h:PermIn 0 d.size d d'):d'.toList.Perm d.toList:=by
 obtain⟨h1,_,h3⟩:=h
 have e1:d.extract 0 d.size=d:=by simp
 have e2:d'.extract 0 d.size=d':=by rw[←h1];simp
 rwa [e1,e2] at h3
theorem qW {α:Type} [Inhabited α] {lt:α→α→Bool} {d d':Array α} (hs:d'.size=d.size) (h:SortedIn lt 0 d.size d'):d'.toList.Pairwise fun x y=>lt y x=false:=by
 rw[List.pairwise_iff_getElem];intro i j hi hj hij;rw[Array.length_toList] at hi hj;have:=h i j (Nat.zero_le _) hij ab;rw[getElem!_pos d' i hi,getElem!_pos d' j hj] at this;exact this
theorem rk {α:Type} [Inhabited α] {P:Program} {ρ:Ren} (L:SlLaysF0.n6 P ρ) (k:Nat) (h0:0<k) (aE:∀w,(isAgg (ρ.t 24)).run P w=.ok true w) (zE:∀w,(Go.sizeOf (ρ.t 24)).run P w=.ok k w) (enc:α→List Value) (hk:∀x,(enc x).length=k) (h1:∀x,∀v∈enc x,v.oneCell'=true) (cf:α→α→Int) (hO:SWO (ltOf cf)) (g:Nat) (cb:Array Value) (T:TypeId) {c:Nat} {A:Option Addr} (xs:List α) (w:World)
 (eg:∀args w,(callFunc g args).run P w=.ok (.enter g args) w) (hcmp:∀blk off size w',CmpLays P g cb enc k cf blk off size w') (ho:w.ownsRow 0 T k (.slice A xs.length c) xs.length (xs.flatMap enc)) (hsz:xs.length<4611686018427387904) :
 Calls P (ρ.f 6) #[.slice A xs.length c,.func (.func g) #[] cb] w fun e w'=>∃ys:List α,e=.returned (.tuple #[])∧(ys.Perm xs∧ys.Pairwise (fun x y=>ltOf cf y x=false))∧w'.ownsRow 0 T k (.slice A xs.length c) xs.length (ys.flatMap enc)∧w.grownBy w' (Value.slice A xs.length c).ownBlock:=by
 obtain⟨ho1,ho2⟩:=ho;rcases ho2 with ⟨hv,hn⟩ | ⟨b,cap,cur,hv,hb0,hb,hn,hcap,hcs,htk⟩
 · rw[hn]
   refine(AnyF.slices_SortFunc_none L A c _ w).mono ?_
   rintro e w' ⟨rfl,rfl⟩
   have hx:xs=[]:=List.eq_nil_of_length_eq_zero hn;subst hx
   exact⟨[],rfl,⟨List.Perm.refl _,.nil⟩,by
    injection hv with q1 q2 q3;subst q1 q3
    exact World.ownsRow_nil _ _ _ _,⟨rfl,rfl,rfl,Nat.le_refl _,fun _ _ _=>rfl⟩⟩
 · injection hv with q1 q2 q3
   subst q1 q3;have hbl:b<w.heap.size:=(Array.getElem?_eq_some_iff.1 hb).1;have hF:=ju hk h0 xs.toArray
   have hFs:(flatK enc k xs.toArray).size=xs.length*k:=by rw[size_flatK];simp
   have hH:HoldsK enc k w b 0 xs.toArray:=by
    intro j hj;rw[hFs] at hj;refine⟨?_,by simp[World.frozen?,hb]⟩
    have h2:(flatK enc k xs.toArray).toList[j]? = cur.toList[j]?:=by
     rw[hF];show(xs.flatMap enc)[j]? = _;rw[←htk,List.getElem?_take_of_lt hj]
    have h3:cur[j]? = some (flatK enc k xs.toArray)[j]!:=by
     rw[←Array.getElem?_toList,←h2,Array.getElem?_toList,Array.getElem?_eq_getElem (by rw[hFs];exact hj),getElem!_pos _ j (by rw[hFs];exact hj)]
    rw[cell_of_row _ _ _ cur T (0,0) hb]
    simpa using h3
   have hcon:=AnyQ.slices_SortFunc L k aE zE enc hk h1 cf hO g cb b 0 c xs.toArray w eg (hcmp _ _ _ _) hH hbl (by simpa using hsz)
   have e0:xs.toArray.size=xs.length:=by simp
   rw[e0] at hcon;refine hcon.mono ?_
   rintro e w' ⟨rfl,d',n,os,hp,hs,rfl⟩
   have hps:d'.size=xs.length:=by have:=hp.1;simpa using this
   have hFs':(flatK enc k d').size=xs.length*k:=by rw[size_flatK,hps]
   have hpr:=tt (d:=xs.toArray) (d':=d') (by rw[e0];exact hp)
   have hprl:d'.toList.Perm xs:=by simpa using hpr
   have hheap:(sortWorldK enc k w b 0 n d' os).heap[b]? = some (.cells (putCells id 0 (flatK enc k d') cur) T (0,0)):=by
    show(grow (putRow id (Sort.ahead w n) b 0 (flatK enc k d')) os).heap[b]? = _;rw[heap_grow_old _ _ (by simpa using hbl)];simp[putRow,mapBlock,Sort.ahead,Array.getElem?_modify,hb,onCells]
   refine⟨d'.toList,rfl,⟨hprl,qW (d:=xs.toArray) (by rw[e0];exact hps) (by rw[e0];exact hs)⟩,⟨?_,.inr ⟨b,c,_,rfl,hb0,hheap,hn,hcap,by simp[putCells,hcs],?_⟩⟩,?_⟩
   · rw[←ju hk h0 d',Array.length_toList,hFs']
   · rw[←ju hk h0 d',←hFs']
     exact pO cur _ (by
      rw[hFs',hcs]
      exact Nat.mul_le_mul_right k hn)
   · refine⟨rfl,rfl,rfl,by show _≤(grow (putRow id (Sort.ahead w n) b 0 (flatK enc k d')) os).heap.size;simp,fun j hj hne=>?_⟩
     show(grow (putRow id (Sort.ahead w n) b 0 (flatK enc k d')) os).heap[j]? = _;rw[heap_grow_old _ _ (by simpa using hj)];have:b≠j:=fun e=>hne (by rw[e];rfl);simp[putRow,mapBlock,Sort.ahead,Array.getElem?_modify,this]
abbrev Cv:Type:={ x:Trn // 0≤x.i∧x.i≤100000 }
abbrev Cz:Type:={ x:Dty // 0≤x.g∧x.g≤100000 }
instance:Inhabited Cv:=⟨⟨mR,by decide⟩⟩
instance:Inhabited Cz:=⟨⟨⟨0,false,0⟩,by decide⟩⟩
def BG (x y:Cv):Int:=x.1.i-y.1.i
def Br (x y:Cz):Int:=x.1.g-y.1.g
theorem De:SWO (ltOf BG) where
 irrefl x:=by unfold ltOf BG;simp
 trans x y z h1 h2:=by unfold ltOf BG at *;simp at *;omega
 ntrans x y z h1 h2:=by unfold ltOf BG at *;simp at *;omega
theorem CZ:SWO (ltOf Br) where
 irrefl x:=by unfold ltOf Br;simp
 trans x y z h1 h2:=by unfold ltOf Br at *;simp at *;omega
 ntrans x y z h1 h2:=by unfold ltOf Br at *;simp at *;omega
theorem vK (x y:Cv) (W:World):Calls Tryz.prog 197 #[.agg #[.int .i64 x.1.i,.int .i64 x.1.l,.int .i64 x.1.u,.bool x.1.c],.agg #[.int .i64 y.1.i,.int .i64 y.1.l,.int .i64 y.1.u,.bool y.1.c]] W fun e w'=>e=.returned (.int .i64 (BG x y))∧∃q os',w'=grow (W.drewN q) os':=by
 obtain⟨⟨xi,xl,xu,xc⟩,hx0,hx1⟩:=x;obtain⟨⟨yi,yl,yu,yc⟩,hy0,hy1⟩:=y;unfold BG
 dsimp only at *
 go_enter Tryz.func197,Tryz.ntmps197
 have x0:0≤xi:=hx0;have x1:xi≤100000:=hx1;have y0:0≤yi:=hy0;have y1:yi≤100000:=hy1;clear hx0 hx1 hy0 hy1
 have hw:wrap64 (xi-yi)=xi-yi:=by unfold wrap64;omega
 go_wp2
 go_ret
 exact⟨rfl,0,_,by rw[alloc_eq_grow,alloc_eq_grow,grow_grow];rfl⟩
theorem wJ (x y:Cz) (W:World):Calls Tryz.prog 199 #[.agg #[.int .i64 x.1.g,.bool x.1.f,.int .i64 x.1.l],.agg #[.int .i64 y.1.g,.bool y.1.f,.int .i64 y.1.l]] W fun e w'=>e=.returned (.int .i64 (Br x y))∧∃q os',w'=grow (W.drewN q) os':=by
 obtain⟨⟨xi,xl,xu⟩,hx0,hx1⟩:=x;obtain⟨⟨yi,yl,yu⟩,hy0,hy1⟩:=y;unfold Br
 dsimp only at *
 go_enter Tryz.func199,Tryz.ntmps199
 have x0:0≤xi:=hx0;have x1:xi≤100000:=hx1;have y0:0≤yi:=hy0;have y1:yi≤100000:=hy1;clear hx0 hx1 hy0 hy1
 have hw:wrap64 (xi-yi)=xi-yi:=by unfold wrap64;omega
 go_wp2
 go_ret
 exact⟨rfl,0,_,by rw[alloc_eq_grow,alloc_eq_grow,grow_grow];rfl⟩
theorem ml {P:Program} {t:TypeId} {fs:Array Field} (h:P.underlying t=some (.struct fs)) (w:World):(isAgg t).run P w=.ok true w:=by simp[isAgg,run_underlying h]
theorem lJ {P:Program} {t:TypeId} {n:Nat} (h:(P.info? t).map (·.size)=some n) (w:World):(Go.sizeOf t).run P w=.ok n w:=by
 cases hq:P.info? t with
 | none=>rw[hq] at h;cases h
 | some q=>
  rw[hq] at h
  have hz:q.size=n:=by simpa using h
  simp[Go.sizeOf,typeInfo,hq,hz]
open Go.RowKit Go.Sort Go.Shelf
section
variable {α:Type} {κ:α→Int}
theorem oY {l:List α} (h:l.Pairwise fun x y=>κ x≤κ y) (hn:(l.map κ).Nodup):bZ κ l:=by
 unfold bZ;unfold List.Nodup at hn;rw[List.pairwise_map] at hn
 exact(h.and hn).imp fun ⟨h1,h2⟩=>by omega
end
theorem xh:∀(xs:List Trn),(∀x∈xs,0≤x.i∧x.i≤100000)→∃zs:List Cv,zs.map (fun z=>z.1)=xs
 | [],_=>⟨[],rfl⟩
 | x::xs,h=>by
  obtain⟨zs,hz⟩:=xh xs (fun y hy=>h y (List.mem_cons_of_mem _ hy));exact⟨⟨x,h x (List.mem_cons_self)⟩::zs,by rw[List.map_cons,hz]⟩
theorem yj:∀(xs:List Dty),(∀x∈xs,0≤x.g∧x.g≤100000)→∃zs:List Cz,zs.map (fun z=>z.1)=xs
 | [],_=>⟨[],rfl⟩
 | x::xs,h=>by
  obtain⟨zs,hz⟩:=yj xs (fun y hy=>h y (List.mem_cons_of_mem _ hy));exact⟨⟨x,h x (List.mem_cons_self)⟩::zs,by rw[List.map_cons,hz]⟩
theorem vP (s xs:List Trn) (hs:bZ Trn.i s) (hm:∀x,x∈xs↔x∈s) (hnd:(xs.map Trn.i).Nodup) (hb:∀x∈xs,0≤x.i∧x.i≤100000) (A:Option Addr) (c:Nat) (w:World) (ho:w.ownsRow 0 116 4 (.slice A xs.length c) xs.length (xs.flatMap cp)) (hl:xs.length≤1000000) :
 Calls Tryz.prog 196 #[.slice A xs.length c,.func (.func 197) #[] #[]] w fun e w'=>∃p:Unit,e=.returned (.tuple #[])∧xs.length=s.length∧St (Value.slice A xs.length c).ownBlock.toList w w' [.row (.slice A xs.length c) xs.length 116 4 (s.flatMap cp)]:=by
 obtain⟨zs,hz⟩:=xh xs hb
 have hzl:zs.length=xs.length:=by rw[←hz,List.length_map]
 have hzf:zs.flatMap (fun z=>cp z.1)=xs.flatMap cp:=by rw[←hz,List.flatMap_map]
 have hcon:=rk Tryz.laySort196 4 ar (ml Tryz.underlying116) (lJ aa) (fun z:Cv=>cp z.1) (fun z=>cC _) (fun z v hv=>ya _ v hv) BG De 197 #[] 116 (A:=A) (c:=c) zs w
  (enters_of Tryz.func197 aa rfl) (fun _ _ _ _ _ _ _ _ x y=>vK x y _) (by rw[hzl,hzf];exact ho) ab
 rw[hzl] at hcon
 change Calls Tryz.prog 196 _ _ _ at hcon
 refine hcon.mono ?_
 rintro e w' ⟨ys,rfl,⟨hp,hpw⟩,hw1,hw2⟩
 have hpv:(ys.map fun z=>z.1).Perm xs:=by rw[←hz];exact hp.map _
 have hsrt:bZ Trn.i (ys.map fun z=>z.1):=oY (List.pairwise_map.2 (hpw.imp fun {x y} h=>by unfold ltOf BG at h;simp at h;omega)) (((hpv.map Trn.i).nodup_iff).2 hnd);have heq:(ys.map fun z=>z.1)=s:=mA hsrt hs fun x=>(hpv.mem_iff).trans (hm x)
 have hfl:ys.flatMap (fun z=>cp z.1)=s.flatMap cp:=by rw[←heq,List.flatMap_map]
 rw[hfl] at hw1;exact⟨(),rfl,by rw[←heq];exact hpv.length_eq.symm,(St.initO ho).sub (List.Sublist.refl _) |>.grown (i:=0) rfl hw1 hw2 (.inl rfl)⟩
theorem vM (s xs:List Dty) (hs:bZ Dty.g s) (hm:∀x,x∈xs↔x∈s) (hnd:(xs.map Dty.g).Nodup) (hb:∀x∈xs,0≤x.g∧x.g≤100000) (A:Option Addr) (c:Nat) (w:World) (ho:w.ownsRow 0 124 3 (.slice A xs.length c) xs.length (xs.flatMap cP)) (hl:xs.length≤1000000) :
 Calls Tryz.prog 198 #[.slice A xs.length c,.func (.func 199) #[] #[]] w fun e w'=>∃p:Unit,e=.returned (.tuple #[])∧xs.length=s.length∧St (Value.slice A xs.length c).ownBlock.toList w w' [.row (.slice A xs.length c) xs.length 124 3 (s.flatMap cP)]:=by
 obtain⟨zs,hz⟩:=yj xs hb
 have hzl:zs.length=xs.length:=by rw[←hz,List.length_map]
 have hzf:zs.flatMap (fun z=>cP z.1)=xs.flatMap cP:=by rw[←hz,List.flatMap_map]
 have hcon:=rk Tryz.laySort198 3 ar (ml Tryz.underlying124) (lJ aa) (fun z:Cz=>cP z.1) (fun z=>dg _) (fun z v hv=>w8 _ v hv) Br CZ 199 #[] 124 (A:=A) (c:=c) zs w
  (enters_of Tryz.func199 aa rfl) (fun _ _ _ _ _ _ _ _ x y=>wJ x y _) (by rw[hzl,hzf];exact ho) ab
 rw[hzl] at hcon
 change Calls Tryz.prog 198 _ _ _ at hcon
 refine hcon.mono ?_
 rintro e w' ⟨ys,rfl,⟨hp,hpw⟩,hw1,hw2⟩
 have hpv:(ys.map fun z=>z.1).Perm xs:=by rw[←hz];exact hp.map _
 have hsrt:bZ Dty.g (ys.map fun z=>z.1):=oY (List.pairwise_map.2 (hpw.imp fun {x y} h=>by unfold ltOf Br at h;simp at h;omega)) (((hpv.map Dty.g).nodup_iff).2 hnd);have heq:(ys.map fun z=>z.1)=s:=mA hsrt hs fun x=>(hpv.mem_iff).trans (hm x)
 have hfl:ys.flatMap (fun z=>cP z.1)=s.flatMap cP:=by rw[←heq,List.flatMap_map]
 rw[hfl] at hw1;exact⟨(),rfl,by rw[←heq];exact hpv.length_eq.symm,(St.initO ho).sub (List.Sublist.refl _) |>.grown (i:=0) rfl hw1 hw2 (.inl rfl)⟩
def n3 (e:MapEntry):Int:=match e.key with | .int _ k=>k | _=>0
def wT {α:Type} (z:α) (g:Int→Option α) (e:MapEntry):α:=(g (n3 e)).getD z
section
variable {α:Type} {κ:α→Int} {V:α→Value} {z:α} {l:List α} {es:Array MapEntry} {ck:Nat}
theorem kO (h:MapFn es ck (fun i=>(bV κ l i).map V)) {e:MapEntry} (he:e∈es.toList):bV κ l (n3 e)=some (wT z (bV κ l) e)∧e.val=V (wT z (bV κ l) e)∧e.key=.int .i64 (n3 e):=by
 obtain⟨k,h1,h2⟩:=h.key e he
 have hk:n3 e=k:=by unfold n3;rw[h1]
 unfold wT;rw[hk]
 cases hq:bV κ l k with
 | none=>rw[hq] at h2;cases h2
 | some y=>
  rw[hq] at h2;exact⟨rfl,by injection h2 with h2;exact h2.symm,h1⟩
theorem xC (h:MapFn es ck (fun i=>(bV κ l i).map V)) {e:MapEntry} (he:e∈es.toList):κ (wT z (bV κ l) e)=n3 e:=(eK (kO (z:=z) h he).1).2
theorem mn (h:MapFn es ck (fun i=>(bV κ l i).map V)) {seen:Array Nat} {out:List MapEntry} (hh:Handed es ck seen out):((out.map (wT z (bV κ l))).map κ).Nodup:=by
 have hn:=h.st.2.2
 have hinj:∀e∈es.toList,∀f∈es.toList,n3 e=n3 f→e=f:=fun e he f hf hk=>by
  obtain⟨i,hi,rfl⟩:=List.getElem_of_mem he;obtain⟨j,hj,rfl⟩:=List.getElem_of_mem hf;have e1:=(kO (z:=z) h (List.getElem_mem hi)).2.2;have e2:=(kO (z:=z) h (List.getElem_mem hj)).2.2
  have:(es.toList.map (·.key))[i]'(by simpa using hi)=(es.toList.map (·.key))[j]'(by simpa using hj):=by
   rw[List.getElem_map,List.getElem_map,e1,e2,hk]
  have:=(List.getElem_inj hn).1 this;subst this;rfl
 have h1:=hh.nd;unfold List.Nodup at h1 ⊢;rw[List.pairwise_map] at h1;rw[List.pairwise_map,List.pairwise_map];refine h1.imp_of_mem fun {e f} he hf hne heq=>hne ?_;rw[xC h (hh.sub e he),xC h (hh.sub f hf)] at heq;rw[hinj e (hh.sub e he) f (hh.sub f hf) heq]
theorem yX (h:MapFn es ck (fun i=>(bV κ l i).map V)) {seen:Array Nat} {out:List MapEntry} (hh:Handed es ck seen out):∀x∈out.map (wT z (bV κ l)),x∈l:=fun x hx=>by
 obtain⟨e,he,rfl⟩:=List.mem_map.1 hx;exact(eK (kO h (hh.sub e he)).1).1
theorem wS (h:MapFn es ck (fun i=>(bV κ l i).map V)) (hs:bZ κ l) {seen:Array Nat} {out:List MapEntry} (hh:Handed es ck seen out) (ha:∀e∈es.toList,e∈out):∀x,x∈out.map (wT z (bV κ l))↔x∈l:=fun x=>⟨yX h hh x,fun hx=>by
 obtain⟨e,he,h1,h2⟩:=h.all (κ x) (V x) (by rw[fD hs hx];rfl)
 have hk:n3 e=κ x:=by unfold n3;rw[h1]
 refine List.mem_map.2 ⟨e,ha e he,?_⟩;unfold wT
 rw[hk,fD hs hx];rfl⟩
theorem pI (z:α) (h:MapFn es ck (fun i=>(bV κ l i).map V)) {seen:Array Nat} {out:List MapEntry} (hh:Handed es ck seen out):out.length≤l.length:=by
 have h1:=mn (z:=z) h hh
 have h2:=uD (out.map (wT z (bV κ l))) l (by
  unfold List.Nodup at h1 ⊢;rw[List.pairwise_map] at h1
  exact h1.imp fun h e=>h (by rw[e])) (yX (z:=z) h hh)
 rwa [List.length_map] at h2
end
open Go.RowKit Go.Sort Go.Shelf
theorem oS {w X:World} {m:Nat} {o:Obj} (hb:Below w.heap.size w X) (h:w.heap[m]? = some o):X.heap[m]? = some o:=(hb.block m (Array.getElem?_eq_some_iff.1 h).1).trans h
structure BdTbl (t:Tbl):Prop where
 ts:∀x∈t.ts,0≤x.i∧x.i≤100000
 ds:∀x∈t.ds,0≤x.g∧x.g≤100000
 lt:t.ts.length≤100000
 ld:t.ds.length≤100000
theorem rG (t:Tbl) (bt m1 m2:Nat) (w:World) (hB:Box w bt #[.map (some m1),.map (some m2)] 228) (hm1:MapF w m1 (nE (dT t.ts))) (hm2:MapF w m2 (om (dn t.ds))) (hs:SrtT t) (hd:BdTbl t) :
 Calls Tryz.prog 131 #[.pointer (some ⟨bt,0,none⟩)] w fun e w'=>∃i:Option Addr × Nat × Option Addr × Nat,e=.returned (cB t i.1 i.2.1 i.2.2.1 i.2.2.2) ∧
  St [] w w' [.row (.slice i.1 t.ts.length i.2.1) t.ts.length 116 4 (t.ts.flatMap cp),.row (.slice i.2.2.1 t.ds.length i.2.2.2) t.ds.length 124 3 (t.ds.flatMap cP)]:=by
 obtain⟨es1,ck1,he1,hf1⟩:=hm1;obtain⟨es2,ck2,he2,hf2⟩:=hm2;obtain⟨tv,htv⟩:∃tv:MapEntry→Trn,tv=wT mR (dT t.ts):=⟨_,rfl⟩;obtain⟨dv,hdv⟩:∃dv:MapEntry→Dty,dv=wT ⟨0,false,0⟩ (dn t.ds):=⟨_,rfl⟩;refine ao (N:=45) Tryz.func131 rfl rfl rfl (fun _ Y=>?_);have Z:=St.init w;refine ai (aq ?_);refine na (.agg #[.slice none 0 0,.slice none 0 0]) Y rfl Z fun b2 _ _ Zj Y Z=>?_;refine pb ?_;refine na (.agg #[.slice none 0 0,.slice none 0 0]) Y rfl Z fun b3 _ _ Zk Y Z=>?_;refine GO 7 ?_;intro _ Y;refine sv Y (fy 0 (Y.ev rfl)) fun _ Y=>?_;refine sv Y (lx (Y.ev rfl) ((hB.below Z.below).cells 0)) fun _ Y=>?_;refine o8 (m:=m1) (es:=es1) (clock:=ck1) Y (wn rfl) rfl rfl rfl Tryz.underlying225 (Y.ev rfl) Z (oS Z.below he1) fun it1 _ _ g12 Y Z=>?_;replace Z:=St.nilRow Z 116 4;refine ae (ag (wp_block ?_));refine aY Y Z [12,3,2,0] (fun (q:List MapEntry × Array Nat × Option Addr × Nat)=>[]) (fun (q:List MapEntry × Array Nat × Option Addr × Nat)=>Handed es1 ck1 q.2.1 q.1) (fun q _=>[.row (.slice q.2.2.1 q.1.length q.2.2.2) q.1.length 116 4 ((q.1.map tv).flatMap cp),ij it1 m1 ck1 q.2.1 ck1,.box b3 #[.slice q.2.2.1 q.1.length q.2.2.2,.slice none 0 0] 25,.box b2 #[.slice none 0 0,.slice none 0 0] 25]) (fun (q:List MapEntry × Array Nat × Option Addr × Nat)=>t.ts.length-q.1.length) (([],#[],none,0)) (Handed.nil es1 ck1) bD (Z) ?_;intro q _ _ Zc Y Z;refine ai (aq ?_);refine sx (out:=q.1) Y (wn rfl) rfl rfl rfl (Y.ev rfl) Z (i:=1) rfl (oS Z.below he1) hf1.st ⟨rfl,Nat.le_refl _⟩ Zc fun p13 _ X9 Y hn13 hs13 Z hm13=>?_;refine sv Y (yx (Y.ev rfl)) fun _ Y=>?_;refine ae (ag (ai ?_));refine ak (Y.ev rfl) (fun Ze=>?_) (fun Ze=>?_)
 ·
  obtain⟨e1,rfl⟩:=Option.isSome_iff_exists.1 Ze;obtain⟨hmm1,hh1⟩:=hs13 e1 rfl;have hlen1:=pI (κ:=Trn.i) (V:=eZ) mR hf1 hh1;rw[List.length_append,List.length_singleton] at hlen1
  have hl1:(q.1 ++ [e1]).length=q.1.length+1:=by rw[List.length_append];rfl
  have hlt:=hd.lt;have hld:=hd.ld;refine wp_skip (ag (wp_block (ai (aq ?_))));refine sv Y (oL (Y.ev rfl) (Z.at_ (i:=1) rfl) (oS Z.below he1) hmm1 hf1.st) fun _ Y=>?_;refine sv Y (aC (v':=eZ (tv e1)) (by rw[htv];exact(kO (κ:=Trn.i) (V:=eZ) (z:=mR) hf1 hmm1).2.1) (bH (Y.ev rfl) rfl)) fun _ Y=>?_;refine na (.agg #[.int .i64 0,.int .i64 0,.int .i64 0,.bool false]) Y rfl Z fun b5 _ _ Zl Y Z=>?_;refine sw Y Z 0 fun _ Z=>?_;refine GO 5 ?_;intro _ Y;refine sv (v:=eZ (tv e1)) Y (ah aa aa (Y.ev rfl) (Z.cellsAll (i:=0) rfl)) fun _ Y=>?_;refine dh (zc:=[.int .i64 0,.int .i64 0,.int .i64 0,.bool false]) (sz:=4) Y (wn rfl) ⟨rfl,rfl⟩ rfl Tryz.underlying22 aa aa rfl rfl rfl (Y.evs2 rfl) rfl rfl rfl Z fun b20 _ _ Zg Y Z=>?_;refine bI (z:=.agg #[.int .i64 0,.int .i64 0,.int .i64 0,.bool false]) (sz:=4) (bytes:=32) Y (wn rfl) ⟨rfl,rfl⟩ rfl Tryz.underlying22 aa rfl rfl (Y.ev rfl) (Y.ev rfl) Z (i:=2) rfl (Z.boxRd (i:=0) rfl) rfl (List.all_eq_true.1 rfl) ⟨ab,by decide⟩ fun A21 c21 _ _ Y Z=>?_;refine GO 1 ?_;intro _ Y;refine aP Y (wn rfl) ⟨rfl,rfl⟩ (Y.ev rfl) (Y.ev rfl) rfl aa Z (i:=4) rfl rfl rfl fun _ Z=>?_;refine ae (dP (ag ?_));exact⟨(q.1 ++ [e1],q.2.1.push e1.born,A21,c21),(by show t.ts.length-(q.1 ++ [e1]).length<_;omega),hh1,Y.re bD,(by show St [] w _ [.row (.slice _ (q.1 ++ [e1]).length _) (q.1 ++ [e1]).length _ _ (((q.1 ++ [e1]).map tv).flatMap cp),_,.box b3 #[.slice _ (q.1 ++ [e1]).length _,_] _,_];rw[List.length_append,List.map_append,List.flatMap_append];exact(Z.sub (.cons _ (.cons _ (.cons_cons _ (.cons_cons _ (.cons_cons _ (.cons_cons _ .slnil))))))))⟩
 ·
  obtain rfl:p13=none:=by cases p13 with | none=>rfl | some e=>cases Ze
  have hall1:=hn13 rfl;obtain⟨out1,seen1,A1,c1⟩:=q;obtain⟨xs,hxs⟩:∃xs,xs=out1.map tv:=⟨_,rfl⟩
  have hxl:out1.length=xs.length:=by rw[hxs,List.length_map]
  have hxm:∀x,x∈xs↔x∈t.ts:=by rw[hxs,htv];exact wS (κ:=Trn.i) (V:=eZ) hf1 hs.ts Zc hall1
  have hxn:(xs.map Trn.i).Nodup:=by rw[hxs,htv];exact mn (κ:=Trn.i) (V:=eZ) hf1 Zc
  have hxc:xs.length≤t.ts.length:=by rw[←hxl];exact pI (κ:=Trn.i) (V:=eZ) mR hf1 Zc
  have hxb:∀x∈xs,0≤x.i∧x.i≤100000:=fun x hx=>hd.ts x ((hxm x).1 hx);have hlt:=hd.lt;have hld:=hd.ld
  replace Z:St [] w X9 [.row (.slice A1 xs.length c1) xs.length 116 4 (xs.flatMap cp),ij it1 m1 ck1 seen1 ck1,.box b3 #[.slice A1 xs.length c1,.slice none 0 0] 25,.box b2 #[.slice none 0 0,.slice none 0 0] 25]:=by rw[←hxl,hxs];exact Z
  refine GO 10 ?_;intro _ Y;refine sv Y (fy 1 (Y.ev rfl)) fun _ Y=>?_;refine sv Y (lx (Y.ev rfl) ((hB.below Z.below).cells 1)) fun _ Y=>?_;refine o8 (m:=m2) (es:=es2) (clock:=ck2) Y (wn rfl) rfl rfl rfl Tryz.underlying226 (Y.ev rfl) Z (oS Z.below he2) fun it2 _ _ g27 Y Z=>?_;replace Z:=St.nilRow Z 124 3;refine ae (ag (wp_block ?_));refine aY Y Z [27,3,2] (fun (q:List MapEntry × Array Nat × Option Addr × Nat)=>[]) (fun (q:List MapEntry × Array Nat × Option Addr × Nat)=>Handed es2 ck2 q.2.1 q.1) (fun q _=>[.row (.slice q.2.2.1 q.1.length q.2.2.2) q.1.length 124 3 ((q.1.map dv).flatMap cP),ij it2 m2 ck2 q.2.1 ck2,.row (.slice A1 xs.length c1) xs.length 116 4 (xs.flatMap cp),ij it1 m1 ck1 seen1 ck1,.box b3 #[.slice A1 xs.length c1,.slice q.2.2.1 q.1.length q.2.2.2] 25,.box b2 #[.slice none 0 0,.slice none 0 0] 25]) (fun (q:List MapEntry × Array Nat × Option Addr × Nat)=>t.ds.length-q.1.length) (([],#[],none,0)) (Handed.nil es2 ck2) bD (Z) ?_;intro q _ _ Zd Y Z;refine ai (aq ?_);refine sx (out:=q.1) Y (wn rfl) rfl rfl rfl (Y.ev rfl) Z (i:=1) rfl (oS Z.below he2) hf2.st ⟨rfl,Nat.le_refl _⟩ Zd fun p28 _ Zh Y hn28 hs28 Z hm28=>?_;refine sv Y (yx (Y.ev rfl)) fun _ Y=>?_;refine ae (ag (ai ?_));refine ak (Y.ev rfl) (fun Zf=>?_) (fun Zf=>?_)
  ·
   obtain⟨e2,rfl⟩:=Option.isSome_iff_exists.1 Zf;obtain⟨hmm2,hh2⟩:=hs28 e2 rfl;have hlen2:=pI (κ:=Dty.g) (V:=fM) ⟨0,false,0⟩ hf2 hh2;rw[List.length_append,List.length_singleton] at hlen2
   have hl2:(q.1 ++ [e2]).length=q.1.length+1:=by rw[List.length_append];rfl
   refine wp_skip (ag (wp_block (ai (aq ?_))));refine sv Y (oL (Y.ev rfl) (Z.at_ (i:=1) rfl) (oS Z.below he2) hmm2 hf2.st) fun _ Y=>?_;refine sv Y (aC (v':=fM (dv e2)) (by rw[hdv];exact(kO (κ:=Dty.g) (V:=fM) (z:=⟨0,false,0⟩) hf2 hmm2).2.1) (bH (Y.ev rfl) rfl)) fun _ Y=>?_;refine na (.agg #[.int .i64 0,.bool false,.int .i64 0]) Y rfl Z fun b7 _ _ Zm Y Z=>?_;refine sw Y Z 0 fun _ Z=>?_;refine GO 5 ?_;intro _ Y;refine sv (v:=fM (dv e2)) Y (ah aa aa (Y.ev rfl) (Z.cellsAll (i:=0) rfl)) fun _ Y=>?_;refine dh (zc:=[.int .i64 0,.bool false,.int .i64 0]) (sz:=3) Y (wn rfl) ⟨rfl,rfl⟩ rfl Tryz.underlying23 aa aa rfl rfl rfl (Y.evs2 rfl) rfl rfl rfl Z fun b35 _ _ Zi Y Z=>?_;refine bI (z:=.agg #[.int .i64 0,.bool false,.int .i64 0]) (sz:=3) (bytes:=24) Y (wn rfl) ⟨rfl,rfl⟩ rfl Tryz.underlying23 aa rfl rfl (Y.ev rfl) (Y.ev rfl) Z (i:=2) rfl (Z.boxRd (i:=0) rfl) rfl (List.all_eq_true.1 rfl) ⟨ab,by decide⟩ fun A36 c36 _ _ Y Z=>?_;refine GO 1 ?_;intro _ Y;refine aP Y (wn rfl) ⟨rfl,rfl⟩ (Y.ev rfl) (Y.ev rfl) rfl aa Z (i:=6) rfl rfl rfl fun _ Z=>?_;refine ae (dP (ag ?_));exact⟨(q.1 ++ [e2],q.2.1.push e2.born,A36,c36),(by show t.ds.length-(q.1 ++ [e2]).length<_;omega),hh2,Y.re bD,(by show St [] w _ [.row (.slice _ (q.1 ++ [e2]).length _) (q.1 ++ [e2]).length _ _ (((q.1 ++ [e2]).map dv).flatMap cP),_,_,_,.box b3 #[_,.slice _ (q.1 ++ [e2]).length _] _,_];rw[List.length_append,List.map_append,List.flatMap_append];exact(Z.sub (.cons _ (.cons _ (.cons_cons _ (.cons_cons _ (.cons_cons _ (.cons_cons _ (.cons_cons _ (.cons_cons _ .slnil))))))))))⟩
  ·
   obtain rfl:p28=none:=by cases p28 with | none=>rfl | some e=>cases Zf
   have hall2:=hn28 rfl;obtain⟨out2,seen2,A2,c2⟩:=q;obtain⟨ys,hys⟩:∃ys,ys=out2.map dv:=⟨_,rfl⟩
   have hyl:out2.length=ys.length:=by rw[hys,List.length_map]
   have hym:∀x,x∈ys↔x∈t.ds:=by rw[hys,hdv];exact wS (κ:=Dty.g) (V:=fM) hf2 hs.ds Zd hall2
   have hyn:(ys.map Dty.g).Nodup:=by rw[hys,hdv];exact mn (κ:=Dty.g) (V:=fM) hf2 Zd
   have hyc:ys.length≤t.ds.length:=by rw[←hyl];exact pI (κ:=Dty.g) (V:=fM) ⟨0,false,0⟩ hf2 Zd
   have hyb:∀x∈ys,0≤x.g∧x.g≤100000:=fun x hx=>hd.ds x ((hym x).1 hx)
   replace Z:St [] w Zh [.row (.slice A2 ys.length c2) ys.length 124 3 (ys.flatMap cP),ij it2 m2 ck2 seen2 ck2,.row (.slice A1 xs.length c1) xs.length 116 4 (xs.flatMap cp),ij it1 m1 ck1 seen1 ck1,.box b3 #[.slice A1 xs.length c1,.slice A2 ys.length c2] 25,.box b2 #[.slice none 0 0,.slice none 0 0] 25]:=by rw[←hyl,hys];exact Z
   refine GO 9 ?_;intro _ Y;refine fS Y (wn rfl) (ax a8 (Y.evs rfl) rfl) rfl rfl Z (i:=2) rfl qj (vP t.ts xs hs.ts hxm hxn hxb A1 c1 _ (Z.at_ (i:=2) rfl) ab) fun p40 _ _ Y Za Z=>?_;refine GO 6 ?_;intro _ Y;refine fS Y (wn rfl) (ax a8 (Y.evs rfl) rfl) rfl rfl Z (i:=0) rfl qj (vM t.ds ys hs.ds hym hyn hyb A2 c2 _ (Z.at_ (i:=0) rfl) ab) fun p43 _ _ Y Zb Z=>?_;refine pb ?_;refine sv Y (ah aa aa (Y.ev rfl) (Z.cellsAll (i:=4) rfl)) fun _ Y=>?_;refine sw Y Z 5 fun _ Z=>?_;refine ae (ag (wp_ret ?_));refine kU Y rfl rfl Z (i:=5) rfl aa aa ?_;refine⟨(A1,c1,A2,c2),?_,?_⟩
   · rw[Za,Zb];rfl
   · have q9:=St.swap (Z.sub (.cons_cons _ (.cons _ (.cons_cons _ (.cons _ (.cons _ (.cons _ .slnil)))))))
     rw[Za,Zb] at q9;exact q9
open Go.RowKit Go.Sort Go.Shelf
theorem jT (t:Tbl) (A:Option Addr) (c:Nat) (B:Option Addr) (d:Nat) (w:World) (hr:Rd w w.heap.size A (t.ts.flatMap cp)) (hq:Rd w w.heap.size B (t.ds.flatMap cP)) (hs:SrtT t) (hl:t.ts.length≤1000∧t.ds.length≤1000) :
 Calls Tryz.prog 128 #[cB t A c B d] w fun e w'=>∃i:Nat × Nat × Nat,e=.returned (.pointer (some ⟨i.1,0,none⟩))∧St [] w w' [lR i.1 i.2.1 i.2.2 t]:=
 (lA t A c B d w hr hq hs hl).mono fun e w' ⟨i,h1,h2⟩=>⟨i,h1,yN h2⟩
theorem qQ (t:Tbl) (r:Rcd) (bt m1 m2:Nat) (w:World) (h:(lR bt m1 m2 t).ok w) :
 Calls Tryz.prog 130 #[.pointer (some ⟨bt,0,none⟩),.int .i64 r.l,de r.e] w fun e w'=>∃p:Unit,e=.returned (.tuple #[])∧True∧St [bt,m1,m2] w w' [lR bt m1 m2 (ej t r)]:=by
 obtain⟨hB,hm1,hm2,hne⟩:=h;refine(zC t r bt m1 m2 w hB hm1 hm2 hne).mono ?_
 rintro e w' ⟨rfl,hS⟩
 have hmm:kb w [m1,m2]:=fun b hb=>by
  rcases List.mem_cons.1 hb with rfl | hb
  · exact hm1.noCells
  · rw[List.mem_singleton.1 hb];exact hm2.noCells
 have k1:=hS.at_ (i:=0) rfl;have k2:=hS.at_ (i:=1) rfl;have hb':=hS.keptL.box hmm hB;refine⟨(),rfl,trivial,hS.os,hS.tape,hS.output,hS.size,fun b hb hM=>hS.block b hb (fun h=>hM (List.mem_cons_of_mem _ h)),fun e he=>?_,fun e he b hb=>?_,List.pairwise_singleton _ _⟩
 · rw[List.mem_singleton.1 he];exact⟨hb',k1,k2,hne⟩
 · rw[List.mem_singleton.1 he] at hb
   rcases hb with rfl | rfl | rfl
   · exact⟨.inr a7,hb'.lt⟩
   · exact⟨.inr a7,MapF.lt k1⟩
   · exact⟨.inr a7,MapF.lt k2⟩
theorem xU (s:List UInt8):SrtT (cV s)∧(∀x∈(cV s).ts,0≤x.i∧x.i≤100000)∧(∀x∈(cV s).ds,0≤x.g∧x.g≤100000)∧(cV s).ts.length≤60∧(cV s).ds.length≤60:=by
 unfold cV
 split
 · rename_i h
   have hz:dw (dE s)=0:=by
    unfold fJ at h
    split at h
    · cases h
    · split at h
      · cases h
      · rw[aQ] at h
        exact h _ (.tail _ (.head _))
   have hk:=tblE_zero.1 hz;refine⟨hk.srt,fun x hx=>?_,fun x hx=>?_,hk.n,hk.m⟩
   · obtain⟨k,hk',rfl⟩:=List.getElem_of_mem hx
     have h1:=(hk.ts k hk').i;omega
   · obtain⟨k,hk',rfl⟩:=List.getElem_of_mem hx
     have h1:=(hk.ds k hk').g;omega
 · exact⟨nD,fun x hx=>(by cases hx),fun x hx=>(by cases hx),by decide,by decide⟩
structure BdN (n:Nat) (t:Tbl):Prop where
 ts:∀x∈t.ts,0≤x.i∧x.i≤100000
 ds:∀x∈t.ds,0≤x.g∧x.g≤100000
 lt:t.ts.length≤n
 ld:t.ds.length≤n
theorem q8 {α:Type} {κ:α→Int} (l:List α) (x:α):(jC κ l x).length≤l.length+1:=by
 unfold jC;rw[List.length_append,List.length_cons]
 have:(l.filter fun y=>decide (κ y<κ x)).length+(l.filter fun y=>decide (κ x<κ y)).length≤l.length:=by
  induction l with
  | nil=>simp
  | cons y l ih=>
   rw[List.filter_cons,List.filter_cons];by_cases h1:κ y<κ x
   · rw[if_pos (by simpa using h1),if_neg (by simp;omega)];simp only[List.length_cons];omega
   · rw[if_neg (by simpa using h1)]
     split<;>simp only[List.length_cons]<;>omega
 omega
theorem sm {α:Type} {κ:α→Int} {l:List α} {x y:α} (h:y∈jC κ l x):y=x∨y∈l:=by
 unfold jC at h;rcases List.mem_append.1 h with h | h
 · exact .inr (List.mem_filter.1 h).1
 · rcases List.mem_cons.1 h with h | h
   · exact .inl h
   · exact .inr (List.mem_filter.1 h).1
theorem BdN.chg {n:Nat} {t:Tbl} (h:BdN n t) {x:Rcd} (hx:dH x.e=0):BdN (n+1) (ej t x):=by
 obtain⟨hp,_,_,hg⟩:=tQ hx;unfold ej
 split
 · exact⟨h.ts,h.ds,Nat.le_succ_of_le h.lt,Nat.le_succ_of_le h.ld⟩
 · refine⟨fun y hy=>?_,fun y hy=>?_,?_,?_⟩
   · have hy:y∈(if x.e.k=4 then p4 Trn.i t.ts x.e.t else jC Trn.i t.ts (rO t x)):=hy
     split at hy
     · exact h.ts y (List.mem_filter.1 hy).1
     · rcases sm hy with rfl | hy
       · show 0≤x.e.t∧x.e.t≤100000;omega
       · exact h.ts y hy
   · have hy:y∈jw t x:=hy
     unfold jw at hy
     split at hy
     · rcases sm hy with rfl | hy
       · show 0≤x.e.g∧x.e.g≤100000;omega
       · exact h.ds y hy
     · exact h.ds y hy
   · show(if x.e.k=4 then p4 Trn.i t.ts x.e.t else jC Trn.i t.ts (rO t x)).length≤n+1
     have hl:=h.lt
     split
     · have:=List.length_filter_le (fun y=>decide (Trn.i y≠x.e.t)) t.ts
       unfold p4;omega
     · have:=q8 (κ:=Trn.i) t.ts (rO t x);omega
   · show(jw t x).length≤n+1
     have hl:=h.ld;unfold jw
     split
     · have:=q8 (κ:=Dty.g) t.ds ⟨x.e.g,x.e.f,x.l⟩;omega
     · omega
theorem BdN.fold:∀{l:List Rcd} {n:Nat} {t:Tbl},BdN n t→(∀x∈l,dH x.e=0)→BdN (n+l.length) (l.foldl ej t)
 | [],_,_,h,_=>h
 | x::l,n,t,h,hx=>by
  have:=(h.chg (hx x (List.mem_cons_self))).fold (fun y hy=>hx y (List.mem_cons_of_mem _ hy)) (l:=l);rw[List.length_cons,show n+(l.length+1)=n+1+l.length by omega];exact this
def gg (l:List Rcd) (a:Int):List Rcd:=l.filter fun y=>decide (a<y.l)
theorem je (l:List Rcd) (a:Int) {j:Nat} (hj:j<l.length):gg (l.take (j+1)) a=if a<l[j].l then gg (l.take j) a ++ [l[j]] else gg (l.take j) a:=by
 unfold gg;rw[List.take_succ_eq_append_getElem hj,List.filter_append,List.filter_cons];by_cases h:a<l[j].l
 · rw[if_pos (by simpa using h),if_pos h];rfl
 · rw[if_neg (by simpa using h),if_neg h];simp
theorem iI {l:List Rcd} (hs:bZ Rcd.l l) {A:Option Addr} {n:Int} {w:World} {B:Nat} (hr:Rd w B A (l.flatMap bC)) (h:(kR A l n).isNone=false):∃b o,A=some ⟨b,o,none⟩∧∃hk:iv Rcd.l l n<l.length,l[iv Rcd.l l n].l=n∧ei l n=some l[iv Rcd.l l n]∧kR A l n=some ⟨b,o+iv Rcd.l l n*14+1,none⟩:=by
 have hb:jV Rcd.l l n=true:=by
  unfold kR at h
  split at h
  · assumption
  · cases h
 obtain⟨hk,_,_⟩:=jf hs hb;obtain⟨b,o,rfl,_⟩:=hr.opened (aK aB ar ab);obtain⟨q1,q2,q3,q4⟩:=oG hs h;exact⟨b,o,rfl,q1,q2,q3,q4⟩
theorem sa {l:List Rcd} (hs:bZ Rcd.l l) {A:Option Addr} {n:Int} {w:World} {B:Nat} (hr:Rd w B A (l.flatMap bC)) (h:(kR A l n).isNone=true):ei l n=none:=by
 rcases Nat.eq_zero_or_pos l.length with h0 | h0
 · rw[List.eq_nil_of_length_eq_zero h0];rfl
 · obtain⟨b,o,rfl,_⟩:=hr.opened (aK aB ar h0)
   exact oH h
def x9 (l:List Rcd) (a:Int):Bool:=match ei l a with | none=>false | some x=>x.e.k != 5
theorem A6 {l:List Rcd} (h:∀x∈l,1≤x.l):gg l 0=l:=List.filter_eq_self.2 fun x hx=>by have:=h x hx;simp;omega
theorem pB (l:List Rcd) (A:Option Addr) (c:Nat) (a:Int) (w:World) (hr:Rd w w.heap.size A (l.flatMap bC)) (hv:VldH l l.length) (hl:l.length≤1000) (hx:∀x∈l,FewE x.e) :
 Calls Tryz.prog 78 #[.slice A l.length c,.int .i64 a] w fun e w'=>∃i:Option Addr × Nat × Option Addr × Nat,e=.returned (.tuple #[cB (gR l a).1 i.1 i.2.1 i.2.2.1 i.2.2.2,.int .i64 (gR l a).2]) ∧
  St [] w w' [.row (.slice i.1 (gR l a).1.ts.length i.2.1) (gR l a).1.ts.length 116 4 ((gR l a).1.ts.flatMap cp),.row (.slice i.2.2.1 (gR l a).1.ds.length i.2.2.2) (gR l a).1.ds.length 124 3 ((gR l a).1.ds.flatMap cP)]:=by
 have hsl:bZ Rcd.l l:=by have:=hv.srt;rwa [List.take_length] at this
 have hel:∀x∈l,dH x.e=0:=fun x hx=>by
  obtain⟨k,hk,rfl⟩:=List.getElem_of_mem hx;exact(hv.e0 hk).2.2
 refine ao (N:=67) Tryz.func78 rfl rfl rfl (fun _ Y=>?_);have Z:=St.init w;refine ai (aq ?_);refine na (.agg #[.slice none 0 0,.slice none 0 0]) Y rfl Z fun b4 _ _ Zn Y Z=>?_;refine GO 5 ?_;intro _ Y;refine sv (v:=cB gn none 0 none 0) Y (ay (zs:=[.slice none 0 0,.slice none 0 0]) (pl:=[(0,1),(1,1)]) aa aa (Y.evs2 rfl) rfl rfl) fun _ Y=>?_;refine cW Y (wn rfl) (ax a8 (Y.evs rfl) rfl) rfl rfl Z (jT gn none 0 none 0 _ (Rd.nil _ _ _) (Rd.nil _ _ _) nD ar) fun p15 _ X4 Y Z=>?_;refine GO 1 ?_;intro _ Y;obtain⟨bt,m1,m2⟩:=p15;refine GO 9 ?_;intro _ Y;refine ak (Y.ev rfl) (fun Zf=>?_) (fun Zf=>?_)
 ·
  have ha:a≠0:=by simpa using Zf
  refine GO 4 ?_;intro _ Y;refine cT Y rfl Z (la l hsl A c a _ (Z.rd0 hr) hl) fun _ _ Y Z=>?_;refine GO 7 ?_;intro _ Y;refine sv Y (l7 Tryz.underlying219 aa (Y.ev rfl) (Y.ev rfl)) fun _ Y=>?_;refine GO 1 ?_;intro _ Y;apply bn (x:=x9 l a) Y Z 23 rfl 6 29
  case hf=>
   intro Ze;obtain⟨b',o',rfl,qk,q1,q2,q3⟩:=iI hsl hr Ze;refine sy Y (aC (v':=.pointer (some ⟨b',o'+iv Rcd.l l a*14+1,none⟩)) (congrArg Value.pointer q3) (bc (Y.ev rfl))) fun _ Y=>?_;refine GO 1 ?_;intro _ Y;refine sy Y (fy 0 (Y.ev rfl)) fun _ Y=>?_;refine sy Y (lx (Y.ev rfl) ((en (Z.rd0 hr) qk) 0 _ rfl)) fun _ Y=>?_;refine sy Y (aC (v':=.bool (x9 l a)) (congrArg Value.bool (by unfold x9;rw[q2])) (jv (Y.ev rfl) (Y.ev rfl))) fun _ Y=>?_;refine GO 1 ?_;intro _ Y;exact ae ⟨Y.midE 5,Z⟩
  case ht=>
   intro Ze;refine GO 6 ?_;intro _ Y;exact ae ⟨Y.midE 5,Z⟩
  case h=>
   rintro a27 Zo ⟨Zd,Zg⟩
   refine ae (ag ?_);refine ak (Zd.ev rfl) (fun Zh=>?_) (fun Zh=>?_)
   ·
    have hbad:gR l a=(gn,6):=by
     unfold gR;rw[if_neg ha];rcases Bool.or_eq_true_iff.1 Zh with r1 | r1
     · rw[sa hsl hr r1]
     · unfold x9 at r1
       cases hq:ei l a with
       | none=>rfl
       | some x=>rw[hq] at r1;simp only[];rw[if_pos (by simpa using r1)]
    refine ai (aq ?_);refine sv Zd (ay (zs:=[.slice none 0 0,.slice none 0 0]) (pl:=[(0,1),(1,1)]) aa aa (Zd.evs2 rfl) rfl rfl) fun _ Y=>?_;refine sw Y Zg 1 fun _ Z=>?_;refine GO 6 ?_;intro _ Y;refine br Y rfl rfl rfl Z (i:=1) rfl aa aa ?_;refine⟨(none,0,none,0),by rw[hbad];rfl,?_⟩;rw[hbad];exact((Z.sub (List.nil_sublist _)).nilRow 124 3).nilRow 116 4
   ·
    obtain⟨r1,r2⟩:=Bool.or_eq_false_iff.1 Zh;obtain⟨b',o',rfl,qk,q1,q2,q3⟩:=iI hsl hr r1
    have r3:l[iv Rcd.l l a].e.k=5:=by unfold x9 at r2;rw[q2] at r2;simpa using r2
    generalize iv Rcd.l l a=k at qk q1 q2 q3 r3 Zd;have hfe:=hx _ (List.getElem_mem qk);refine wp_skip (ag (ai (aq ?_)));refine sv Zd (aC (v':=.pointer (some ⟨b',o'+k*14+1,none⟩)) (congrArg Value.pointer q3) (bc (Zd.ev rfl))) fun _ Y=>?_;refine GO 1 ?_;intro _ Y;refine sv Y (fy 12 (Y.ev rfl)) fun _ Y=>?_;refine sv Y (lx (Y.ev rfl) ((en (Zg.rd0 hr) qk) 12 _ rfl)) fun _ Y=>?_;refine cW Y (wn rfl) (ax a8 (Y.evs rfl) rfl) rfl rfl Zg (lD (bl l[k].e.d) _ hfe.d) fun p36 _ _ Y Z=>?_;refine GO 1 ?_;intro _ Y;refine sv (v:=cB (cV (bl l[k].e.d)) p36.1 p36.2.1 p36.2.2.1 p36.2.2.2) Y (bH (Y.ev rfl) rfl) fun _ Y=>?_;refine GO 1 ?_;intro _ Y;refine na (.agg #[.slice none 0 0,.slice none 0 0]) Y rfl Z fun b8 _ _ Zp Y Z=>?_;refine sw Y Z 0 fun _ Z=>?_;refine GO 1 ?_;intro _ Y;obtain⟨g1,g2,g3,g4,g5⟩:=xU (bl l[k].e.d);refine ae (ag (aq ?_));refine sv (v:=cB (cV (bl l[k].e.d)) p36.1 p36.2.1 p36.2.2.1 p36.2.2.2) Y (ah aa aa (Y.ev rfl) (Z.cellsAll (i:=0) rfl)) fun _ Y=>?_;refine cW Y (wn rfl) (ax a8 (Y.evs rfl) rfl) rfl rfl Z (jT (cV (bl l[k].e.d)) p36.1 p36.2.1 p36.2.2.1 p36.2.2.2 _ (Z.rdOf (i:=1) rfl) (Z.rdOf (i:=2) rfl) g1 ab) fun p40 _ Zm Y Z=>?_;refine GO 1 ?_;intro _ Y;obtain⟨bt,m1,m2⟩:=p40;obtain⟨T0,hT0⟩:∃T0,T0=cV (bl l[k].e.d):=⟨_,rfl⟩
    have hTs:SrtT T0:=by rw[hT0];exact g1
    have hTb:BdN 60 T0:=by rw[hT0];exact⟨g2,g3,g4,g5⟩
    have hAn:gR l a=AL T0 (gg l a):=by unfold gR;rw[if_neg ha,q2];simp only[];rw[if_neg (by rw[r3];decide),hT0];rfl
    replace Z:St [] w Zm [lR bt m1 m2 (((gg (l.take 0) a)).foldl ej T0),.box b4 #[.slice none 0 0,.slice none 0 0] 25]:=by rw[hT0];exact(Z.sub (.cons_cons _ (.cons _ (.cons _ (.cons _ (.cons _ (.cons_cons _ .slnil)))))))
    refine GO 11 ?_;intro _ Y;refine aY Y Z [42,41,6,5,4,1] (fun (j:Nat)=>[(43,.int .i64 j)]) (fun (j:Nat)=>j≤l.length) (fun j L=>L.set 0 (lR bt m1 m2 ((gg (l.take j) a).foldl ej T0))) (fun (j:Nat)=>l.length-j) (0) (Nat.zero_le _) bD (Z) ?_;intro j _ _ Zi Y Z;refine GO 6 ?_;intro _ Y;refine ak (Y.ev rfl) (fun Za=>?_) (fun Za=>?_)
    ·
     have hlt:j<l.length:=by have:=of_decide_eq_true Za;omega
     obtain⟨b5,o5,hA5,hB5,_⟩:=hr.opened (aK aB ar ab);have hr5:=hr;rw[hA5] at hr5;refine wp_skip (ag (ai (wp_block (ai (aq ?_)))));refine sv Y (av (b:=b5) (o:=o5) (i:=j) (sz:=14) Tryz.underlying180 aa ((Y.ev rfl).trans (congrArg (fun A=>Value.slice A l.length c) hA5)) (Y.ev rfl) rfl hlt rfl) fun _ Y=>?_;refine sv (v:=fk l[j]) Y (ah aa aa (Y.ev rfl) (aW aB (Z.rd0 hr5) hlt)) fun _ Y=>?_;refine na (.agg #[.int .i64 0,.int .i64 0,.int .i64 0,.int .i64 0,.int .i64 0,.int .i64 0,.bool false,.int .i64 0,.int .i64 0,.int .i64 0,.int .i64 0,.string ⟨#[]⟩,.string ⟨#[]⟩,.string ⟨#[]⟩]) Y rfl Z fun b11 _ _ Zj Y Z=>?_;refine sw Y Z 0 fun _ Z=>?_;refine GO 10 ?_;intro _ Y;refine ak (Y.ev rfl) (fun Zb=>?_) (fun Zb=>?_)
     ·
      have hgt:a<l[j].l:=of_decide_eq_true Zb;refine GO 5 ?_;intro _ Y;refine sv (v:=de l[j].e) Y (ah aa aa (Y.ev rfl) (Z.cellsOf (i:=0) rfl 1 13)) fun _ Y=>?_;refine fS Y (wn rfl) (ax a8 (Y.evs rfl) rfl) rfl rfl Z (i:=1) rfl (fun b hb=>by rcases List.mem_cons.1 hb with h | hb;exact .inl h;rcases List.mem_cons.1 hb with h | hb;exact .inr (.inl h);exact .inr (.inr (List.mem_singleton.1 hb))) (qQ _ l[j] bt m1 m2 _ (Z.at_ (i:=1) rfl)) fun p56 _ _ Y Zk Z=>?_;refine GO 8 ?_;intro _ Y;exact⟨j+1,by omega,hlt,Y.re bD,(by have e9:=je l a hlt;rw[if_pos hgt] at e9;show St [] w _ [lR bt m1 m2 ((gg (l.take (j+1)) a).foldl ej T0),_];rw[e9,List.foldl_append];exact(Z.sub (.cons _ (.cons_cons _ (.cons_cons _ .slnil)))))⟩
     ·
      have hgt:¬a<l[j].l:=of_decide_eq_false Zb;refine GO 8 ?_;intro _ Y;exact⟨j+1,by omega,hlt,Y.re bD,(by have e9:=je l a hlt;rw[if_neg hgt] at e9;show St [] w _ [lR bt m1 m2 ((gg (l.take (j+1)) a).foldl ej T0),_];rw[e9];exact(Z.sub (.cons _ (.cons_cons _ (.cons_cons _ .slnil)))))⟩
    ·
     have hge:l.length≤j:=by have:=of_decide_eq_false Za;omega
     obtain rfl:j=l.length:=by have:=Zi;omega
     obtain⟨T1,hT1⟩:∃T1,T1=(gg l a).foldl ej T0:=⟨_,rfl⟩;have hbl:(gg l a).length≤l.length:=List.length_filter_le _ _
     have hTs1:SrtT T1:=by rw[hT1];exact hTs.fold
     have hTb1:BdTbl T1:=by
      have:=hTb.fold (l:=gg l a) (fun x hx=>hel x (List.mem_filter.1 hx).1);rw[hT1];exact⟨this.ts,this.ds,by have:=this.lt;omega,by have:=this.ld;omega⟩
     have hAn1:gR l a=if dw T1≠0 then (gn,dw T1) else (T1,0):=by rw[hAn,hT1];rfl
     rw[List.take_length,←hT1] at Z;refine GO 8 ?_;intro _ Y;refine cW Y (wn rfl) (ax a8 (Y.evs rfl) rfl) rfl rfl Z (rG T1 bt m1 m2 _ (Z.at_ (i:=0) rfl).1 (Z.at_ (i:=0) rfl).2.1 (Z.at_ (i:=0) rfl).2.2.1 hTs1 hTb1) fun p59 _ _ Y Z=>?_;refine na (.agg #[.slice none 0 0,.slice none 0 0]) Y rfl Z fun b12 _ _ Zl Y Z=>?_;refine sw Y Z 0 fun _ Z=>?_;refine ae (ag (ai (ai (aq ?_))));refine sv (v:=cB T1 p59.1 p59.2.1 p59.2.2.1 p59.2.2.2) Y (ah aa aa (Y.ev rfl) (Z.cellsAll (i:=0) rfl)) fun _ Y=>?_;refine cT Y rfl Z (cY T1 p59.1 p59.2.1 p59.2.2.1 p59.2.2.2 _ (Z.rdOf (i:=1) rfl) (Z.rdOf (i:=2) rfl)) fun _ _ Y Z=>?_;refine GO 9 ?_;intro _ Y;refine ak (Y.ev rfl) (fun Zc=>?_) (fun Zc=>?_)
     ·
      have hne:dw T1≠0:=by simpa using Zc
      rw[if_pos hne] at hAn1;refine ai (aq ?_);refine sv Y (ay (zs:=[.slice none 0 0,.slice none 0 0]) (pl:=[(0,1),(1,1)]) aa aa (Y.evs2 rfl) rfl rfl) fun _ Y=>?_;refine GO 1 ?_;intro _ Y;refine sw Y Z 4 fun _ Z=>?_;refine GO 5 ?_;intro _ Y;refine br Y rfl rfl rfl Z (i:=4) rfl aa aa ?_;refine⟨(none,0,none,0),by rw[hAn1];rfl,?_⟩;rw[hAn1];exact((Z.sub (List.nil_sublist _)).nilRow 124 3).nilRow 116 4
     ·
      have hne:¬dw T1≠0:=by simpa using Zc
      rw[if_neg hne] at hAn1;refine wp_skip (ag (ai (aq ?_)));refine sv (v:=cB T1 p59.1 p59.2.1 p59.2.2.1 p59.2.2.2) Y (ah aa aa (Y.ev rfl) (Z.cellsAll (i:=0) rfl)) fun _ Y=>?_;refine sw Y Z 4 fun _ Z=>?_;refine GO 4 ?_;intro _ Y;refine br Y rfl rfl rfl Z (i:=4) rfl aa aa ?_;refine⟨p59,by rw[hAn1];rfl,?_⟩;rw[hAn1];exact(Z.sub (.cons _ (.cons_cons _ (.cons_cons _ (.cons _ (.cons _ .slnil))))))
 ·
  have ha:a=0:=by simpa using Zf
  obtain⟨T0,hT0⟩:∃T0,T0=gn:=⟨_,rfl⟩
  have hTs:SrtT T0:=by rw[hT0];exact nD
  have hTb:BdN 60 T0:=by rw[hT0];exact⟨fun x hx=>(by cases hx),fun x hx=>(by cases hx),by decide,by decide⟩
  have hAn:gR l a=AL T0 (gg l a):=by
   unfold gR;rw[if_pos ha,hT0,ha,A6];intro x hx;obtain⟨k,hk,rfl⟩:=List.getElem_of_mem hx;exact(hv.e0 hk).1
  replace Z:St [] w X4 [lR bt m1 m2 (((gg (l.take 0) a)).foldl ej T0),.box b4 #[.slice none 0 0,.slice none 0 0] 25]:=by rw[hT0];exact Z
  refine GO 11 ?_;intro _ Y;refine aY Y Z [42,41,6,5,4,1] (fun (j:Nat)=>[(43,.int .i64 j)]) (fun (j:Nat)=>j≤l.length) (fun j L=>L.set 0 (lR bt m1 m2 ((gg (l.take j) a).foldl ej T0))) (fun (j:Nat)=>l.length-j) (0) (Nat.zero_le _) bD (Z) ?_;intro j _ _ Zi Y Z;refine GO 6 ?_;intro _ Y;refine ak (Y.ev rfl) (fun Za=>?_) (fun Za=>?_)
  ·
   have hlt:j<l.length:=by have:=of_decide_eq_true Za;omega
   obtain⟨b5,o5,hA5,hB5,_⟩:=hr.opened (aK aB ar ab);have hr5:=hr;rw[hA5] at hr5;refine wp_skip (ag (ai (wp_block (ai (aq ?_)))));refine sv Y (av (b:=b5) (o:=o5) (i:=j) (sz:=14) Tryz.underlying180 aa ((Y.ev rfl).trans (congrArg (fun A=>Value.slice A l.length c) hA5)) (Y.ev rfl) rfl hlt rfl) fun _ Y=>?_;refine sv (v:=fk l[j]) Y (ah aa aa (Y.ev rfl) (aW aB (Z.rd0 hr5) hlt)) fun _ Y=>?_;refine na (.agg #[.int .i64 0,.int .i64 0,.int .i64 0,.int .i64 0,.int .i64 0,.int .i64 0,.bool false,.int .i64 0,.int .i64 0,.int .i64 0,.int .i64 0,.string ⟨#[]⟩,.string ⟨#[]⟩,.string ⟨#[]⟩]) Y rfl Z fun b11 _ _ Zj Y Z=>?_;refine sw Y Z 0 fun _ Z=>?_;refine GO 10 ?_;intro _ Y;refine ak (Y.ev rfl) (fun Zb=>?_) (fun Zb=>?_)
   ·
    have hgt:a<l[j].l:=of_decide_eq_true Zb;refine GO 5 ?_;intro _ Y;refine sv (v:=de l[j].e) Y (ah aa aa (Y.ev rfl) (Z.cellsOf (i:=0) rfl 1 13)) fun _ Y=>?_;refine fS Y (wn rfl) (ax a8 (Y.evs rfl) rfl) rfl rfl Z (i:=1) rfl (fun b hb=>by rcases List.mem_cons.1 hb with h | hb;exact .inl h;rcases List.mem_cons.1 hb with h | hb;exact .inr (.inl h);exact .inr (.inr (List.mem_singleton.1 hb))) (qQ _ l[j] bt m1 m2 _ (Z.at_ (i:=1) rfl)) fun p56 _ _ Y Zk Z=>?_;refine GO 8 ?_;intro _ Y;exact⟨j+1,by omega,hlt,Y.re bD,(by have e9:=je l a hlt;rw[if_pos hgt] at e9;show St [] w _ [lR bt m1 m2 ((gg (l.take (j+1)) a).foldl ej T0),_];rw[e9,List.foldl_append];exact(Z.sub (.cons _ (.cons_cons _ (.cons_cons _ .slnil)))))⟩
   ·
    have hgt:¬a<l[j].l:=of_decide_eq_false Zb;refine GO 8 ?_;intro _ Y;exact⟨j+1,by omega,hlt,Y.re bD,(by have e9:=je l a hlt;rw[if_neg hgt] at e9;show St [] w _ [lR bt m1 m2 ((gg (l.take (j+1)) a).foldl ej T0),_];rw[e9];exact(Z.sub (.cons _ (.cons_cons _ (.cons_cons _ .slnil)))))⟩
  ·
   have hge:l.length≤j:=by have:=of_decide_eq_false Za;omega
   obtain rfl:j=l.length:=by have:=Zi;omega
   obtain⟨T1,hT1⟩:∃T1,T1=(gg l a).foldl ej T0:=⟨_,rfl⟩;have hbl:(gg l a).length≤l.length:=List.length_filter_le _ _
   have hTs1:SrtT T1:=by rw[hT1];exact hTs.fold
   have hTb1:BdTbl T1:=by
    have:=hTb.fold (l:=gg l a) (fun x hx=>hel x (List.mem_filter.1 hx).1);rw[hT1];exact⟨this.ts,this.ds,by have:=this.lt;omega,by have:=this.ld;omega⟩
   have hAn1:gR l a=if dw T1≠0 then (gn,dw T1) else (T1,0):=by rw[hAn,hT1];rfl
   rw[List.take_length,←hT1] at Z;refine GO 8 ?_;intro _ Y;refine cW Y (wn rfl) (ax a8 (Y.evs rfl) rfl) rfl rfl Z (rG T1 bt m1 m2 _ (Z.at_ (i:=0) rfl).1 (Z.at_ (i:=0) rfl).2.1 (Z.at_ (i:=0) rfl).2.2.1 hTs1 hTb1) fun p59 _ _ Y Z=>?_;refine na (.agg #[.slice none 0 0,.slice none 0 0]) Y rfl Z fun b12 _ _ Zl Y Z=>?_;refine sw Y Z 0 fun _ Z=>?_;refine ae (ag (ai (ai (aq ?_))));refine sv (v:=cB T1 p59.1 p59.2.1 p59.2.2.1 p59.2.2.2) Y (ah aa aa (Y.ev rfl) (Z.cellsAll (i:=0) rfl)) fun _ Y=>?_;refine cT Y rfl Z (cY T1 p59.1 p59.2.1 p59.2.2.1 p59.2.2.2 _ (Z.rdOf (i:=1) rfl) (Z.rdOf (i:=2) rfl)) fun _ _ Y Z=>?_;refine GO 9 ?_;intro _ Y;refine ak (Y.ev rfl) (fun Zc=>?_) (fun Zc=>?_)
   ·
    have hne:dw T1≠0:=by simpa using Zc
    rw[if_pos hne] at hAn1;refine ai (aq ?_);refine sv Y (ay (zs:=[.slice none 0 0,.slice none 0 0]) (pl:=[(0,1),(1,1)]) aa aa (Y.evs2 rfl) rfl rfl) fun _ Y=>?_;refine GO 1 ?_;intro _ Y;refine sw Y Z 4 fun _ Z=>?_;refine GO 5 ?_;intro _ Y;refine br Y rfl rfl rfl Z (i:=4) rfl aa aa ?_;refine⟨(none,0,none,0),by rw[hAn1];rfl,?_⟩;rw[hAn1];exact((Z.sub (List.nil_sublist _)).nilRow 124 3).nilRow 116 4
   ·
    have hne:¬dw T1≠0:=by simpa using Zc
    rw[if_neg hne] at hAn1;refine wp_skip (ag (ai (aq ?_)));refine sv (v:=cB T1 p59.1 p59.2.1 p59.2.2.1 p59.2.2.2) Y (ah aa aa (Y.ev rfl) (Z.cellsAll (i:=0) rfl)) fun _ Y=>?_;refine sw Y Z 4 fun _ Z=>?_;refine GO 4 ?_;intro _ Y;refine br Y rfl rfl rfl Z (i:=4) rfl aa aa ?_;refine⟨p59,by rw[hAn1];rfl,?_⟩;rw[hAn1];exact(Z.sub (.cons _ (.cons_cons _ (.cons_cons _ (.cons _ (.cons _ .slnil))))))
theorem qd {l:List Rcd} (h:(eh l).2=0):l.length≤100∧VldH l l.length:=by
 unfold eh at h
 split at h
 · cases h
 · rename_i h1
   exact⟨by omega,Nat.le_refl _,fun k hk _=>(cA _ l).1 h k hk⟩
def kX (l:List Rcd) (a:Int):Tbl × Int:=if (eh l).2≠0 then (gn,(eh l).2) else gR l a
theorem qt (l:List Rcd) (A:Option Addr) (c:Nat) (a:Int) (w:World) (hr:Rd w w.heap.size A (l.flatMap bC)) (hl:l.length≤1000) (hc:l.length≤c) (hF:FolT w) (hx:∀x∈l,FewE x.e) :
 Calls Tryz.prog 24 #[.slice A l.length c,.int .i64 a] w fun e w'=>∃i:Option Addr × Nat × Option Addr × Nat,e=.returned (.tuple #[cB (kX l a).1 i.1 i.2.1 i.2.2.1 i.2.2.2,.int .i64 (kX l a).2]) ∧
  St [] w w' [.row (.slice i.1 (kX l a).1.ts.length i.2.1) (kX l a).1.ts.length 116 4 ((kX l a).1.ts.flatMap cp),.row (.slice i.2.2.1 (kX l a).1.ds.length i.2.2.2) (kX l a).1.ds.length 124 3 ((kX l a).1.ds.flatMap cP)]:=by
 refine ao (N:=18) Tryz.func24 rfl rfl rfl (fun _ Y=>?_);have Z:=St.init w;refine ai (aq ?_);refine na (.agg #[.slice none 0 0,.slice none 0 0]) Y rfl Z fun b4 _ _ Zb Y Z=>?_;refine GO 7 ?_;intro _ Y;refine cT Y rfl Z (eA l A c _ (Z.rd0 hr) hl hc (hF.below Z.below) hx) fun _ _ Y Z=>?_;refine GO 9 ?_;intro _ Y;refine ak (Y.ev rfl) (fun Za=>?_) (fun Za=>?_)
 ·
  have hne:(eh l).2≠0:=by simpa using Za
  have e1:kX l a=(gn,(eh l).2):=by unfold kX;rw[if_pos hne]
  refine ai (aq ?_);refine sv Y (ay (zs:=[.slice none 0 0,.slice none 0 0]) (pl:=[(0,1),(1,1)]) aa aa (Y.evs2 rfl) rfl rfl) fun _ Y=>?_;refine GO 1 ?_;intro _ Y;refine sw Y Z 0 fun _ Z=>?_;refine GO 5 ?_;intro _ Y;refine br Y rfl rfl rfl Z (i:=0) rfl aa aa ?_;refine⟨(none,0,none,0),by rw[e1];rfl,?_⟩;rw[e1];exact((Z.sub (List.nil_sublist _)).nilRow 124 3).nilRow 116 4
 ·
  have hz:(eh l).2=0:=by simpa using Za
  have e1:kX l a=gR l a:=by unfold kX;rw[if_neg (fun h=>h hz)]
  obtain⟨hl2,hv⟩:=qd hz;refine GO 6 ?_;intro _ Y;refine cW Y (wn rfl) (ax a8 (Y.evs rfl) rfl) rfl rfl Z (pB l A c a _ (Z.rd0 hr) hv hl hx) fun p15 _ _ Y Z=>?_;refine sv (v:=cB (gR l a).1 p15.1 p15.2.1 p15.2.2.1 p15.2.2.2) Y (bH (Y.ev rfl) rfl) fun _ Y=>?_;refine GO 1 ?_;intro _ Y;refine sw Y Z 2 fun _ Z=>?_;refine GO 4 ?_;intro _ Y;refine br Y rfl rfl rfl Z (i:=2) rfl aa aa ?_;refine⟨p15,by rw[e1];rfl,?_⟩;rw[e1];exact(Z.sub (.cons_cons _ (.cons_cons _ (.cons _ .slnil))))
end Go.Proofs.YtcfdpfmchchkaaaGreatDoor
