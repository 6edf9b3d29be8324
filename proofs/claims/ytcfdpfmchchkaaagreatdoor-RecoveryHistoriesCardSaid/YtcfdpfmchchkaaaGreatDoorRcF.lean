/-
  Chapter 22: rows of structs that are sorted by numbers.
  Chapter 22: a table in order.
  Chapter 22: a table in order; analysis.
  Chapter 22: analysis.
-/
import Derived.Test.YtcfdpfmchchkaaaGreatDoorRcE
import Derived.Shelf.SlSortCmp.NoneTotal
namespace Go.Proofs.YtcfdpfmchchkaaaGreatDoor
set_option maxHeartbeats 1000000
set_option maxRecDepth 4000
set_option linter.unusedVariables false
set_option linter.unusedSimpArgs false
open Go.RowKit Go.Sort Go.Shelf
theorem jC {α:Type} [Inhabited α] {enc:α→List Value} {k:Nat} (hk:∀x,(enc x).length=k) (h0:0<k) (d:Array α):(flatK enc k d).toList=d.toList.flatMap enc:=by
 apply List.ext_getElem?;intro t;have hs:(flatK enc k d).size=d.size*k:=size_flatK enc k d;by_cases ht:t<d.size*k
 · have h1:t / k<d.size:=by rw[Nat.div_lt_iff_lt_mul h0];exact ht
   have h2:t % k<k:=Nat.mod_lt _ h0;have Y:=get_flatK enc k d t ht
   have e1:(flatK enc k d).toList[t]? = some (flatK enc k d)[t]!:=by
    rw[Array.getElem?_toList,Array.getElem?_eq_getElem (by rw[hs];exact ht),getElem!_pos _ t (by rw[hs];exact ht)]
   rw[e1,Y]
   have e2:d[t / k]! = d.toList[t / k]'(by simpa using h1):=by rw[getElem!_pos d _ h1];rfl
   have Y:=o9 hk d.toList (k:=t / k) (by simpa using h1) (j:=t % k) (u:=(enc d[t / k]!)[t % k]!) (by
    rw[←e2,List.getElem?_eq_getElem (by rw[hk];exact h2),getElem!_pos (enc d[t / k]!) (t % k) (by rw[hk];exact h2)])
   rw[Nat.div_add_mod' t k] at Y;exact Y.symm
 · have hl:(d.toList.flatMap enc).length=d.size*k:=by
    rw[jW hk d.toList,Array.length_toList,Nat.mul_comm]
   rw[List.getElem?_eq_none (by rw[Array.length_toList,hs];omega),List.getElem?_eq_none (by rw[hl];omega)]
theorem pP (cur F:Array Value) (h:F.size≤cur.size):(putCells (id:Value→Value) 0 F cur).toList.take F.size=F.toList:=by
 apply List.ext_getElem?;intro j;by_cases hj:j<F.size
 · rw[List.getElem?_take_of_lt hj,Array.getElem?_toList,Array.getElem?_toList]
   simp[putCells,hj,show j<cur.size by omega]
 · rw[List.getElem?_take_eq_none ab,List.getElem?_eq_none (by simp;omega)]
theorem tJ {α:Type} [Inhabited α] {d d':Array α} (h:PermIn 0 d.size d d'):d'.toList.Perm d.toList:=by
 obtain⟨h1,_,h3⟩:=h
 have e1:d.extract 0 d.size=d:=by simp
 have e2:d'.extract 0 d.size=d':=by rw[←h1];simp
 rwa [e1,e2] at h3
theorem rC {α:Type} [Inhabited α] {lt:α→α→Bool} {d d':Array α} (hs:d'.size=d.size) (h:SortedIn lt 0 d.size d'):d'.toList.Pairwise fun x y=>lt y x=false:=by
 rw[List.pairwise_iff_getElem];intro i j hi hj hij;rw[Array.length_toList] at hi hj;have:=h i j (Nat.zero_le _) hij ab;rw[getElem!_pos d' i hi,getElem!_pos d' j hj] at this;exact this
theorem qz {α:Type} [Inhabited α] {P:Program} {ρ:Ren} (L:SlLaysF0.n6 P ρ) (k:Nat) (h0:0<k) (aE:∀w,(isAgg (ρ.t 24)).run P w=.ok true w) (zE:∀w,(Go.sizeOf (ρ.t 24)).run P w=.ok k w) (enc:α→List Value) (hk:∀x,(enc x).length=k) (h1:∀x,∀v∈enc x,v.oneCell'=true) (cf:α→α→Int) (hO:SWO (ltOf cf)) (g:Nat) (cb:Array Value) (T:TypeId) {c:Nat} {A:Option Addr} (xs:List α) (w:World)
 (eg:∀args w,(callFunc g args).run P w=.ok (.enter g args) w) (hcmp:∀blk off size w',CmpLays P g cb enc k cf blk off size w') (ho:w.ownsRow 0 T k (.slice A xs.length c) xs.length (xs.flatMap enc)) (hsz:xs.length<4611686018427387904) :
 Calls P (ρ.f 6) #[.slice A xs.length c,.func (.func g) #[] cb] w fun e w'=>∃ys:List α,e=.returned (.tuple #[])∧(ys.Perm xs∧ys.Pairwise (fun x y=>ltOf cf y x=false))∧w'.ownsRow 0 T k (.slice A xs.length c) xs.length (ys.flatMap enc)∧w.grownBy w' (Value.slice A xs.length c).ownBlock:=by
 obtain⟨ho1,ho2⟩:=ho;rcases ho2 with ⟨hv,hn⟩ | ⟨b,cap,cur,hv,hb0,hb,hn,hcap,hcs,htk⟩
 · rw[hn]
   refine(AnyF.slices_SortFunc_none L A c _ w).mono ?_
   rintro e w' ⟨rfl,rfl⟩
   have hx:xs=[]:=List.eq_nil_of_length_eq_zero hn;subst hx
   exact⟨[],rfl,⟨List.Perm.refl _,.nil⟩,by
    injection hv with q1 q2 q3;subst q1 q3
    exact World.ownsRow_nil _ _ _ _,⟨rfl,rfl,rfl,Nat.le_refl _,fun _ _ _=>rfl⟩⟩
 · injection hv with q1 q2 q3
   subst q1 q3;have hbl:b<w.heap.size:=(Array.getElem?_eq_some_iff.1 hb).1;have hF:=jC hk h0 xs.toArray
   have hFs:(flatK enc k xs.toArray).size=xs.length*k:=by rw[size_flatK];simp
   have hH:HoldsK enc k w b 0 xs.toArray:=by
    intro j hj;rw[hFs] at hj;refine⟨?_,by simp[World.frozen?,hb]⟩
    have h2:(flatK enc k xs.toArray).toList[j]? = cur.toList[j]?:=by
     rw[hF];show(xs.flatMap enc)[j]? = _;rw[←htk,List.getElem?_take_of_lt hj]
    have h3:cur[j]? = some (flatK enc k xs.toArray)[j]!:=by
     rw[←Array.getElem?_toList,←h2,Array.getElem?_toList,Array.getElem?_eq_getElem (by rw[hFs];exact hj),getElem!_pos _ j (by rw[hFs];exact hj)]
    rw[cell_of_row _ _ _ cur T (0,0) hb]
    simpa using h3
   have hcon:=AnyQ.slices_SortFunc L k aE zE enc hk h1 cf hO g cb b 0 c xs.toArray w eg (hcmp _ _ _ _) hH hbl (by simpa using hsz)
   have e0:xs.toArray.size=xs.length:=by simp
   rw[e0] at hcon;refine hcon.mono ?_
   rintro e w' ⟨rfl,d',n,os,hp,hs,rfl⟩
   have hps:d'.size=xs.length:=by have:=hp.1;simpa using this
   have hFs':(flatK enc k d').size=xs.length*k:=by rw[size_flatK,hps]
   have hpr:=tJ (d:=xs.toArray) (d':=d') (by rw[e0];exact hp)
   have hprl:d'.toList.Perm xs:=by simpa using hpr
   have hheap:(sortWorldK enc k w b 0 n d' os).heap[b]? = some (.cells (putCells id 0 (flatK enc k d') cur) T (0,0)):=by
    show(grow (putRow id (Sort.ahead w n) b 0 (flatK enc k d')) os).heap[b]? = _;rw[heap_grow_old _ _ (by simpa using hbl)];simp[putRow,mapBlock,Sort.ahead,Array.getElem?_modify,hb,onCells]
   refine⟨d'.toList,rfl,⟨hprl,rC (d:=xs.toArray) (by rw[e0];exact hps) (by rw[e0];exact hs)⟩,⟨?_,.inr ⟨b,c,_,rfl,hb0,hheap,hn,hcap,by simp[putCells,hcs],?_⟩⟩,?_⟩
   · rw[←jC hk h0 d',Array.length_toList,hFs']
   · rw[←jC hk h0 d',←hFs']
     exact pP cur _ (by
      rw[hFs',hcs]
      exact Nat.mul_le_mul_right k hn)
   · refine⟨rfl,rfl,rfl,by show _≤(grow (putRow id (Sort.ahead w n) b 0 (flatK enc k d')) os).heap.size;simp,fun j hj hne=>?_⟩
     show(grow (putRow id (Sort.ahead w n) b 0 (flatK enc k d')) os).heap[j]? = _;rw[heap_grow_old _ _ (by simpa using hj)];have:b≠j:=fun e=>hne (by rw[e];rfl);simp[putRow,mapBlock,Sort.ahead,Array.getElem?_modify,this]
abbrev CL:Type:={ x:Trn // 0≤x.i∧x.i≤100000 }
abbrev CP:Type:={ x:Dty // 0≤x.g∧x.g≤100000 }
instance:Inhabited CL:=⟨⟨mv,by decide⟩⟩
instance:Inhabited CP:=⟨⟨⟨0,false,0⟩,by decide⟩⟩
def Bp (x y:CL):Int:=x.1.i-y.1.i
def Bq (x y:CP):Int:=x.1.g-y.1.g
theorem C2:SWO (ltOf Bp) where
 irrefl x:=by unfold ltOf Bp;simp
 trans x y z h1 h2:=by unfold ltOf Bp at *;simp at *;omega
 ntrans x y z h1 h2:=by unfold ltOf Bp at *;simp at *;omega
theorem Db:SWO (ltOf Bq) where
 irrefl x:=by unfold ltOf Bq;simp
 trans x y z h1 h2:=by unfold ltOf Bq at *;simp at *;omega
 ntrans x y z h1 h2:=by unfold ltOf Bq at *;simp at *;omega
theorem vO (x y:CL) (W:World):Calls Tryz.prog 197 #[.agg #[.int .i64 x.1.i,.int .i64 x.1.l,.int .i64 x.1.u,.bool x.1.c],.agg #[.int .i64 y.1.i,.int .i64 y.1.l,.int .i64 y.1.u,.bool y.1.c]] W fun e w'=>e=.returned (.int .i64 (Bp x y))∧∃q os',w'=grow (W.drewN q) os':=by
 obtain⟨⟨xi,xl,xu,xc⟩,hx0,hx1⟩:=x;obtain⟨⟨yi,yl,yu,yc⟩,hy0,hy1⟩:=y;unfold Bp
 dsimp only at *
 go_enter Tryz.func197,Tryz.ntmps197
 have x0:0≤xi:=hx0;have x1:xi≤100000:=hx1;have y0:0≤yi:=hy0;have y1:yi≤100000:=hy1;clear hx0 hx1 hy0 hy1
 have hw:wrap64 (xi-yi)=xi-yi:=by unfold wrap64;omega
 go_wp2
 go_ret
 exact⟨rfl,0,_,by rw[alloc_eq_grow,alloc_eq_grow,grow_grow];rfl⟩
theorem wP (x y:CP) (W:World):Calls Tryz.prog 199 #[.agg #[.int .i64 x.1.g,.bool x.1.f,.int .i64 x.1.l],.agg #[.int .i64 y.1.g,.bool y.1.f,.int .i64 y.1.l]] W fun e w'=>e=.returned (.int .i64 (Bq x y))∧∃q os',w'=grow (W.drewN q) os':=by
 obtain⟨⟨xi,xl,xu⟩,hx0,hx1⟩:=x;obtain⟨⟨yi,yl,yu⟩,hy0,hy1⟩:=y;unfold Bq
 dsimp only at *
 go_enter Tryz.func199,Tryz.ntmps199
 have x0:0≤xi:=hx0;have x1:xi≤100000:=hx1;have y0:0≤yi:=hy0;have y1:yi≤100000:=hy1;clear hx0 hx1 hy0 hy1
 have hw:wrap64 (xi-yi)=xi-yi:=by unfold wrap64;omega
 go_wp2
 go_ret
 exact⟨rfl,0,_,by rw[alloc_eq_grow,alloc_eq_grow,grow_grow];rfl⟩
theorem mc {P:Program} {t:TypeId} {fs:Array Field} (h:P.underlying t=some (.struct fs)) (w:World):(isAgg t).run P w=.ok true w:=by simp[isAgg,run_underlying h]
theorem lH {P:Program} {t:TypeId} {n:Nat} (h:(P.info? t).map (·.size)=some n) (w:World):(Go.sizeOf t).run P w=.ok n w:=by
 cases hq:P.info? t with
 | none=>rw[hq] at h;cases h
 | some q=>
  rw[hq] at h
  have hz:q.size=n:=by simpa using h
  simp[Go.sizeOf,typeInfo,hq,hz]
open Go.RowKit Go.Sort Go.Shelf
section
variable {α:Type} {κ:α→Int}
theorem pa {l:List α} (h:l.Pairwise fun x y=>κ x≤κ y) (hn:(l.map κ).Nodup):bS κ l:=by
 unfold bS;unfold List.Nodup at hn;rw[List.pairwise_map] at hn
 exact(h.and hn).imp fun ⟨h1,h2⟩=>by omega
end
theorem zb:∀(xs:List Trn),(∀x∈xs,0≤x.i∧x.i≤100000)→∃zs:List CL,zs.map (fun z=>z.1)=xs
 | [],_=>⟨[],rfl⟩
 | x::xs,h=>by
  obtain⟨zs,hz⟩:=zb xs (fun y hy=>h y (List.mem_cons_of_mem _ hy));exact⟨⟨x,h x (List.mem_cons_self)⟩::zs,by rw[List.map_cons,hz]⟩
theorem xo:∀(xs:List Dty),(∀x∈xs,0≤x.g∧x.g≤100000)→∃zs:List CP,zs.map (fun z=>z.1)=xs
 | [],_=>⟨[],rfl⟩
 | x::xs,h=>by
  obtain⟨zs,hz⟩:=xo xs (fun y hy=>h y (List.mem_cons_of_mem _ hy));exact⟨⟨x,h x (List.mem_cons_self)⟩::zs,by rw[List.map_cons,hz]⟩
theorem wz (s xs:List Trn) (hs:bS Trn.i s) (hm:∀x,x∈xs↔x∈s) (hnd:(xs.map Trn.i).Nodup) (hb:∀x∈xs,0≤x.i∧x.i≤100000) (A:Option Addr) (c:Nat) (w:World) (ho:w.ownsRow 0 116 4 (.slice A xs.length c) xs.length (xs.flatMap cd)) (hl:xs.length≤1000000) :
 Calls Tryz.prog 196 #[.slice A xs.length c,.func (.func 197) #[] #[]] w fun e w'=>∃p:Unit,e=.returned (.tuple #[])∧xs.length=s.length∧St (Value.slice A xs.length c).ownBlock.toList w w' [.row (.slice A xs.length c) xs.length 116 4 (s.flatMap cd)]:=by
 obtain⟨zs,hz⟩:=zb xs hb
 have hzl:zs.length=xs.length:=by rw[←hz,List.length_map]
 have hzf:zs.flatMap (fun z=>cd z.1)=xs.flatMap cd:=by rw[←hz,List.flatMap_map]
 have hcon:=qz Tryz.laySort196 4 aq (mc Tryz.underlying116) (lH aa) (fun z:CL=>cd z.1) (fun z=>cy _) (fun z v hv=>w7 _ v hv) Bp C2 197 #[] 116 (A:=A) (c:=c) zs w
  (enters_of Tryz.func197 aa rfl) (fun _ _ _ _ _ _ _ _ x y=>vO x y _) (by rw[hzl,hzf];exact ho) ab
 rw[hzl] at hcon
 change Calls Tryz.prog 196 _ _ _ at hcon
 refine hcon.mono ?_
 rintro e w' ⟨ys,rfl,⟨hp,hpw⟩,hw1,hw2⟩
 have hpv:(ys.map fun z=>z.1).Perm xs:=by rw[←hz];exact hp.map _
 have hsrt:bS Trn.i (ys.map fun z=>z.1):=pa (List.pairwise_map.2 (hpw.imp fun {x y} h=>by unfold ltOf Bp at h;simp at h;omega)) (((hpv.map Trn.i).nodup_iff).2 hnd);have heq:(ys.map fun z=>z.1)=s:=nn hsrt hs fun x=>(hpv.mem_iff).trans (hm x)
 have hfl:ys.flatMap (fun z=>cd z.1)=s.flatMap cd:=by rw[←heq,List.flatMap_map]
 rw[hfl] at hw1;exact⟨(),rfl,by rw[←heq];exact hpv.length_eq.symm,(St.initO ho).sub (List.Sublist.refl _) |>.grown (i:=0) rfl hw1 hw2 (.inl rfl)⟩
theorem wc (s xs:List Dty) (hs:bS Dty.g s) (hm:∀x,x∈xs↔x∈s) (hnd:(xs.map Dty.g).Nodup) (hb:∀x∈xs,0≤x.g∧x.g≤100000) (A:Option Addr) (c:Nat) (w:World) (ho:w.ownsRow 0 124 3 (.slice A xs.length c) xs.length (xs.flatMap cK)) (hl:xs.length≤1000000) :
 Calls Tryz.prog 198 #[.slice A xs.length c,.func (.func 199) #[] #[]] w fun e w'=>∃p:Unit,e=.returned (.tuple #[])∧xs.length=s.length∧St (Value.slice A xs.length c).ownBlock.toList w w' [.row (.slice A xs.length c) xs.length 124 3 (s.flatMap cK)]:=by
 obtain⟨zs,hz⟩:=xo xs hb
 have hzl:zs.length=xs.length:=by rw[←hz,List.length_map]
 have hzf:zs.flatMap (fun z=>cK z.1)=xs.flatMap cK:=by rw[←hz,List.flatMap_map]
 have hcon:=qz Tryz.laySort198 3 aq (mc Tryz.underlying124) (lH aa) (fun z:CP=>cK z.1) (fun z=>cW _) (fun z v hv=>wZ _ v hv) Bq Db 199 #[] 124 (A:=A) (c:=c) zs w
  (enters_of Tryz.func199 aa rfl) (fun _ _ _ _ _ _ _ _ x y=>wP x y _) (by rw[hzl,hzf];exact ho) ab
 rw[hzl] at hcon
 change Calls Tryz.prog 198 _ _ _ at hcon
 refine hcon.mono ?_
 rintro e w' ⟨ys,rfl,⟨hp,hpw⟩,hw1,hw2⟩
 have hpv:(ys.map fun z=>z.1).Perm xs:=by rw[←hz];exact hp.map _
 have hsrt:bS Dty.g (ys.map fun z=>z.1):=pa (List.pairwise_map.2 (hpw.imp fun {x y} h=>by unfold ltOf Bq at h;simp at h;omega)) (((hpv.map Dty.g).nodup_iff).2 hnd);have heq:(ys.map fun z=>z.1)=s:=nn hsrt hs fun x=>(hpv.mem_iff).trans (hm x)
 have hfl:ys.flatMap (fun z=>cK z.1)=s.flatMap cK:=by rw[←heq,List.flatMap_map]
 rw[hfl] at hw1;exact⟨(),rfl,by rw[←heq];exact hpv.length_eq.symm,(St.initO ho).sub (List.Sublist.refl _) |>.grown (i:=0) rfl hw1 hw2 (.inl rfl)⟩
def nK (e:MapEntry):Int:=match e.key with | .int _ k=>k | _=>0
def xv {α:Type} (z:α) (g:Int→Option α) (e:MapEntry):α:=(g (nK e)).getD z
section
variable {α:Type} {κ:α→Int} {V:α→Value} {z:α} {l:List α} {es:Array MapEntry} {ck:Nat}
theorem lk (h:MapFn es ck (fun i=>(bP κ l i).map V)) {e:MapEntry} (he:e∈es.toList):bP κ l (nK e)=some (xv z (bP κ l) e)∧e.val=V (xv z (bP κ l) e)∧e.key=.int .i64 (nK e):=by
 obtain⟨k,h1,h2⟩:=h.key e he
 have hk:nK e=k:=by unfold nK;rw[h1]
 unfold xv;rw[hk]
 cases hq:bP κ l k with
 | none=>rw[hq] at h2;cases h2
 | some y=>
  rw[hq] at h2;exact⟨rfl,by injection h2 with h2;exact h2.symm,h1⟩
theorem za (h:MapFn es ck (fun i=>(bP κ l i).map V)) {e:MapEntry} (he:e∈es.toList):κ (xv z (bP κ l) e)=nK e:=(ey (lk (z:=z) h he).1).2
theorem nm (h:MapFn es ck (fun i=>(bP κ l i).map V)) {seen:Array Nat} {out:List MapEntry} (hh:Handed es ck seen out):((out.map (xv z (bP κ l))).map κ).Nodup:=by
 have hn:=h.st.2.2
 have hinj:∀e∈es.toList,∀f∈es.toList,nK e=nK f→e=f:=fun e he f hf hk=>by
  obtain⟨i,hi,rfl⟩:=List.getElem_of_mem he;obtain⟨j,hj,rfl⟩:=List.getElem_of_mem hf;have e1:=(lk (z:=z) h (List.getElem_mem hi)).2.2;have e2:=(lk (z:=z) h (List.getElem_mem hj)).2.2
  have:(es.toList.map (·.key))[i]'(by simpa using hi)=(es.toList.map (·.key))[j]'(by simpa using hj):=by
   rw[List.getElem_map,List.getElem_map,e1,e2,hk]
  have:=(List.getElem_inj hn).1 this;subst this;rfl
 have h1:=hh.nd;unfold List.Nodup at h1 ⊢;rw[List.pairwise_map] at h1;rw[List.pairwise_map,List.pairwise_map];refine h1.imp_of_mem fun {e f} he hf hne heq=>hne ?_;rw[za h (hh.sub e he),za h (hh.sub f hf)] at heq;rw[hinj e (hh.sub e he) f (hh.sub f hf) heq]
theorem xA (h:MapFn es ck (fun i=>(bP κ l i).map V)) {seen:Array Nat} {out:List MapEntry} (hh:Handed es ck seen out):∀x∈out.map (xv z (bP κ l)),x∈l:=fun x hx=>by
 obtain⟨e,he,rfl⟩:=List.mem_map.1 hx;exact(ey (lk h (hh.sub e he)).1).1
theorem xM (h:MapFn es ck (fun i=>(bP κ l i).map V)) (hs:bS κ l) {seen:Array Nat} {out:List MapEntry} (hh:Handed es ck seen out) (ha:∀e∈es.toList,e∈out):∀x,x∈out.map (xv z (bP κ l))↔x∈l:=fun x=>⟨xA h hh x,fun hx=>by
 obtain⟨e,he,h1,h2⟩:=h.all (κ x) (V x) (by rw[fu hs hx];rfl)
 have hk:nK e=κ x:=by unfold nK;rw[h1]
 refine List.mem_map.2 ⟨e,ha e he,?_⟩;unfold xv
 rw[hk,fu hs hx];rfl⟩
theorem ql (z:α) (h:MapFn es ck (fun i=>(bP κ l i).map V)) {seen:Array Nat} {out:List MapEntry} (hh:Handed es ck seen out):out.length≤l.length:=by
 have h1:=nm (z:=z) h hh
 have h2:=uv (out.map (xv z (bP κ l))) l (by
  unfold List.Nodup at h1 ⊢;rw[List.pairwise_map] at h1
  exact h1.imp fun h e=>h (by rw[e])) (xA (z:=z) h hh)
 rwa [List.length_map] at h2
end
open Go.RowKit Go.Sort Go.Shelf
theorem pn {w X:World} {m:Nat} {o:Obj} (hb:Below w.heap.size w X) (h:w.heap[m]? = some o):X.heap[m]? = some o:=(hb.block m (Array.getElem?_eq_some_iff.1 h).1).trans h
structure BdTbl (t:Tbl):Prop where
 ts:∀x∈t.ts,0≤x.i∧x.i≤100000
 ds:∀x∈t.ds,0≤x.g∧x.g≤100000
 lt:t.ts.length≤100000
 ld:t.ds.length≤100000
theorem rS (t:Tbl) (bt m1 m2:Nat) (w:World) (hB:Box w bt #[.map (some m1),.map (some m2)] 228) (hm1:MapF w m1 (nD (dO t.ts))) (hm2:MapF w m2 (nM (df t.ds))) (hs:SrtT t) (hd:BdTbl t) :
 Calls Tryz.prog 131 #[.pointer (some ⟨bt,0,none⟩)] w fun e w'=>∃i:Option Addr × Nat × Option Addr × Nat,e=.returned (cv t i.1 i.2.1 i.2.2.1 i.2.2.2) ∧
  St [] w w' [.row (.slice i.1 t.ts.length i.2.1) t.ts.length 116 4 (t.ts.flatMap cd),.row (.slice i.2.2.1 t.ds.length i.2.2.2) t.ds.length 124 3 (t.ds.flatMap cK)]:=by
 obtain⟨es1,ck1,he1,hf1⟩:=hm1;obtain⟨es2,ck2,he2,hf2⟩:=hm2;obtain⟨tv,htv⟩:∃tv:MapEntry→Trn,tv=xv mv (dO t.ts):=⟨_,rfl⟩;obtain⟨dv,hdv⟩:∃dv:MapEntry→Dty,dv=xv ⟨0,false,0⟩ (df t.ds):=⟨_,rfl⟩;refine al (N:=45) Tryz.func131 rfl rfl rfl (fun _ Y=>?_);have Z:=St.init w;refine ah (ao ?_);refine na (.agg #[.slice none 0 0,.slice none 0 0]) Y rfl Z fun b2 _ _ Zj Y Z=>?_;refine pk ?_;refine na (.agg #[.slice none 0 0,.slice none 0 0]) Y rfl Z fun b3 _ _ Zk Y Z=>?_;refine GO 7 ?_;intro _ Y;refine sv Y (fy 0 (Y.ev rfl)) fun _ Y=>?_;refine sv Y (lx (Y.ev rfl) ((hB.below Z.below).cells 0)) fun _ Y=>?_;refine oQ (m:=m1) (es:=es1) (clock:=ck1) Y (wn rfl) rfl rfl rfl Tryz.underlying225 (Y.ev rfl) Z (pn Z.below he1) fun it1 _ _ g12 Y Z=>?_;replace Z:=St.nilRow Z 116 4;refine ae (ag (wp_block ?_));refine aY Y Z [12,3,2,0] (fun (q:List MapEntry × Array Nat × Option Addr × Nat)=>[]) (fun (q:List MapEntry × Array Nat × Option Addr × Nat)=>Handed es1 ck1 q.2.1 q.1) (fun q _=>[.row (.slice q.2.2.1 q.1.length q.2.2.2) q.1.length 116 4 ((q.1.map tv).flatMap cd),ib it1 m1 ck1 q.2.1 ck1,.box b3 #[.slice q.2.2.1 q.1.length q.2.2.2,.slice none 0 0] 25,.box b2 #[.slice none 0 0,.slice none 0 0] 25]) (fun (q:List MapEntry × Array Nat × Option Addr × Nat)=>t.ts.length-q.1.length) (([],#[],none,0)) (Handed.nil es1 ck1) bz (Z) ?_;intro q _ _ Zc Y Z;refine ah (ao ?_);refine qS (out:=q.1) Y (wn rfl) rfl rfl rfl (Y.ev rfl) Z (i:=1) rfl (pn Z.below he1) hf1.st ⟨rfl,Nat.le_refl _⟩ Zc fun p13 _ X9 Y hn13 hs13 Z hm13=>?_;refine sv Y (yv (Y.ev rfl)) fun _ Y=>?_;refine ae (ag (ah ?_));refine ak (Y.ev rfl) (fun Ze=>?_) (fun Ze=>?_)
 ·
  obtain⟨e1,rfl⟩:=Option.isSome_iff_exists.1 Ze;obtain⟨hmm1,hh1⟩:=hs13 e1 rfl;have hlen1:=ql (κ:=Trn.i) (V:=eV) mv hf1 hh1;rw[List.length_append,List.length_singleton] at hlen1
  have hl1:(q.1 ++ [e1]).length=q.1.length+1:=by rw[List.length_append];rfl
  have hlt:=hd.lt;have hld:=hd.ld;refine wp_skip (ag (wp_block (ah (ao ?_))));refine sv Y (oX (Y.ev rfl) (Z.at_ (i:=1) rfl) (pn Z.below he1) hmm1 hf1.st) fun _ Y=>?_;refine sv Y (aw (v':=eV (tv e1)) (by rw[htv];exact(lk (κ:=Trn.i) (V:=eV) (z:=mv) hf1 hmm1).2.1) (bD (Y.ev rfl) rfl)) fun _ Y=>?_;refine na (.agg #[.int .i64 0,.int .i64 0,.int .i64 0,.bool false]) Y rfl Z fun b5 _ _ Zl Y Z=>?_;refine sw Y Z 0 fun _ Z=>?_;refine GO 5 ?_;intro _ Y;refine sv (v:=eV (tv e1)) Y (ai aa aa (Y.ev rfl) (Z.cellsAll (i:=0) rfl)) fun _ Y=>?_;refine dd (zc:=[.int .i64 0,.int .i64 0,.int .i64 0,.bool false]) (sz:=4) Y (wn rfl) ⟨rfl,rfl⟩ rfl Tryz.underlying22 aa aa rfl rfl rfl (Y.evs2 rfl) rfl rfl rfl Z fun b20 _ _ Zg Y Z=>?_;refine bG (z:=.agg #[.int .i64 0,.int .i64 0,.int .i64 0,.bool false]) (sz:=4) (bytes:=32) Y (wn rfl) ⟨rfl,rfl⟩ rfl Tryz.underlying22 aa rfl rfl (Y.ev rfl) (Y.ev rfl) Z (i:=2) rfl (Z.boxRd (i:=0) rfl) rfl (List.all_eq_true.1 rfl) ⟨ab,by decide⟩ fun A21 c21 _ _ Y Z=>?_;refine GO 1 ?_;intro _ Y;refine aN Y (wn rfl) ⟨rfl,rfl⟩ (Y.ev rfl) (Y.ev rfl) rfl aa Z (i:=4) rfl rfl rfl fun _ Z=>?_;refine ae (dL (ag ?_));exact⟨(q.1 ++ [e1],q.2.1.push e1.born,A21,c21),(by show t.ts.length-(q.1 ++ [e1]).length<_;omega),hh1,Y.re bz,(by show St [] w _ [.row (.slice _ (q.1 ++ [e1]).length _) (q.1 ++ [e1]).length _ _ (((q.1 ++ [e1]).map tv).flatMap cd),_,.box b3 #[.slice _ (q.1 ++ [e1]).length _,_] _,_];rw[List.length_append,List.map_append,List.flatMap_append];exact(Z.sub (.cons _ (.cons _ (.cons_cons _ (.cons_cons _ (.cons_cons _ (.cons_cons _ .slnil))))))))⟩
 ·
  obtain rfl:p13=none:=by cases p13 with | none=>rfl | some e=>cases Ze
  have hall1:=hn13 rfl;obtain⟨out1,seen1,A1,c1⟩:=q;obtain⟨xs,hxs⟩:∃xs,xs=out1.map tv:=⟨_,rfl⟩
  have hxl:out1.length=xs.length:=by rw[hxs,List.length_map]
  have hxm:∀x,x∈xs↔x∈t.ts:=by rw[hxs,htv];exact xM (κ:=Trn.i) (V:=eV) hf1 hs.ts Zc hall1
  have hxn:(xs.map Trn.i).Nodup:=by rw[hxs,htv];exact nm (κ:=Trn.i) (V:=eV) hf1 Zc
  have hxc:xs.length≤t.ts.length:=by rw[←hxl];exact ql (κ:=Trn.i) (V:=eV) mv hf1 Zc
  have hxb:∀x∈xs,0≤x.i∧x.i≤100000:=fun x hx=>hd.ts x ((hxm x).1 hx);have hlt:=hd.lt;have hld:=hd.ld
  replace Z:St [] w X9 [.row (.slice A1 xs.length c1) xs.length 116 4 (xs.flatMap cd),ib it1 m1 ck1 seen1 ck1,.box b3 #[.slice A1 xs.length c1,.slice none 0 0] 25,.box b2 #[.slice none 0 0,.slice none 0 0] 25]:=by rw[←hxl,hxs];exact Z
  refine GO 10 ?_;intro _ Y;refine sv Y (fy 1 (Y.ev rfl)) fun _ Y=>?_;refine sv Y (lx (Y.ev rfl) ((hB.below Z.below).cells 1)) fun _ Y=>?_;refine oQ (m:=m2) (es:=es2) (clock:=ck2) Y (wn rfl) rfl rfl rfl Tryz.underlying226 (Y.ev rfl) Z (pn Z.below he2) fun it2 _ _ g27 Y Z=>?_;replace Z:=St.nilRow Z 124 3;refine ae (ag (wp_block ?_));refine aY Y Z [27,3,2] (fun (q:List MapEntry × Array Nat × Option Addr × Nat)=>[]) (fun (q:List MapEntry × Array Nat × Option Addr × Nat)=>Handed es2 ck2 q.2.1 q.1) (fun q _=>[.row (.slice q.2.2.1 q.1.length q.2.2.2) q.1.length 124 3 ((q.1.map dv).flatMap cK),ib it2 m2 ck2 q.2.1 ck2,.row (.slice A1 xs.length c1) xs.length 116 4 (xs.flatMap cd),ib it1 m1 ck1 seen1 ck1,.box b3 #[.slice A1 xs.length c1,.slice q.2.2.1 q.1.length q.2.2.2] 25,.box b2 #[.slice none 0 0,.slice none 0 0] 25]) (fun (q:List MapEntry × Array Nat × Option Addr × Nat)=>t.ds.length-q.1.length) (([],#[],none,0)) (Handed.nil es2 ck2) bz (Z) ?_;intro q _ _ Zd Y Z;refine ah (ao ?_);refine qS (out:=q.1) Y (wn rfl) rfl rfl rfl (Y.ev rfl) Z (i:=1) rfl (pn Z.below he2) hf2.st ⟨rfl,Nat.le_refl _⟩ Zd fun p28 _ Zh Y hn28 hs28 Z hm28=>?_;refine sv Y (yv (Y.ev rfl)) fun _ Y=>?_;refine ae (ag (ah ?_));refine ak (Y.ev rfl) (fun Zf=>?_) (fun Zf=>?_)
  ·
   obtain⟨e2,rfl⟩:=Option.isSome_iff_exists.1 Zf;obtain⟨hmm2,hh2⟩:=hs28 e2 rfl;have hlen2:=ql (κ:=Dty.g) (V:=fF) ⟨0,false,0⟩ hf2 hh2;rw[List.length_append,List.length_singleton] at hlen2
   have hl2:(q.1 ++ [e2]).length=q.1.length+1:=by rw[List.length_append];rfl
   refine wp_skip (ag (wp_block (ah (ao ?_))));refine sv Y (oX (Y.ev rfl) (Z.at_ (i:=1) rfl) (pn Z.below he2) hmm2 hf2.st) fun _ Y=>?_;refine sv Y (aw (v':=fF (dv e2)) (by rw[hdv];exact(lk (κ:=Dty.g) (V:=fF) (z:=⟨0,false,0⟩) hf2 hmm2).2.1) (bD (Y.ev rfl) rfl)) fun _ Y=>?_;refine na (.agg #[.int .i64 0,.bool false,.int .i64 0]) Y rfl Z fun b7 _ _ Zm Y Z=>?_;refine sw Y Z 0 fun _ Z=>?_;refine GO 5 ?_;intro _ Y;refine sv (v:=fF (dv e2)) Y (ai aa aa (Y.ev rfl) (Z.cellsAll (i:=0) rfl)) fun _ Y=>?_;refine dd (zc:=[.int .i64 0,.bool false,.int .i64 0]) (sz:=3) Y (wn rfl) ⟨rfl,rfl⟩ rfl Tryz.underlying23 aa aa rfl rfl rfl (Y.evs2 rfl) rfl rfl rfl Z fun b35 _ _ Zi Y Z=>?_;refine bG (z:=.agg #[.int .i64 0,.bool false,.int .i64 0]) (sz:=3) (bytes:=24) Y (wn rfl) ⟨rfl,rfl⟩ rfl Tryz.underlying23 aa rfl rfl (Y.ev rfl) (Y.ev rfl) Z (i:=2) rfl (Z.boxRd (i:=0) rfl) rfl (List.all_eq_true.1 rfl) ⟨ab,by decide⟩ fun A36 c36 _ _ Y Z=>?_;refine GO 1 ?_;intro _ Y;refine aN Y (wn rfl) ⟨rfl,rfl⟩ (Y.ev rfl) (Y.ev rfl) rfl aa Z (i:=6) rfl rfl rfl fun _ Z=>?_;refine ae (dL (ag ?_));exact⟨(q.1 ++ [e2],q.2.1.push e2.born,A36,c36),(by show t.ds.length-(q.1 ++ [e2]).length<_;omega),hh2,Y.re bz,(by show St [] w _ [.row (.slice _ (q.1 ++ [e2]).length _) (q.1 ++ [e2]).length _ _ (((q.1 ++ [e2]).map dv).flatMap cK),_,_,_,.box b3 #[_,.slice _ (q.1 ++ [e2]).length _] _,_];rw[List.length_append,List.map_append,List.flatMap_append];exact(Z.sub (.cons _ (.cons _ (.cons_cons _ (.cons_cons _ (.cons_cons _ (.cons_cons _ (.cons_cons _ (.cons_cons _ .slnil))))))))))⟩
  ·
   obtain rfl:p28=none:=by cases p28 with | none=>rfl | some e=>cases Zf
   have hall2:=hn28 rfl;obtain⟨out2,seen2,A2,c2⟩:=q;obtain⟨ys,hys⟩:∃ys,ys=out2.map dv:=⟨_,rfl⟩
   have hyl:out2.length=ys.length:=by rw[hys,List.length_map]
   have hym:∀x,x∈ys↔x∈t.ds:=by rw[hys,hdv];exact xM (κ:=Dty.g) (V:=fF) hf2 hs.ds Zd hall2
   have hyn:(ys.map Dty.g).Nodup:=by rw[hys,hdv];exact nm (κ:=Dty.g) (V:=fF) hf2 Zd
   have hyc:ys.length≤t.ds.length:=by rw[←hyl];exact ql (κ:=Dty.g) (V:=fF) ⟨0,false,0⟩ hf2 Zd
   have hyb:∀x∈ys,0≤x.g∧x.g≤100000:=fun x hx=>hd.ds x ((hym x).1 hx)
   replace Z:St [] w Zh [.row (.slice A2 ys.length c2) ys.length 124 3 (ys.flatMap cK),ib it2 m2 ck2 seen2 ck2,.row (.slice A1 xs.length c1) xs.length 116 4 (xs.flatMap cd),ib it1 m1 ck1 seen1 ck1,.box b3 #[.slice A1 xs.length c1,.slice A2 ys.length c2] 25,.box b2 #[.slice none 0 0,.slice none 0 0] 25]:=by rw[←hyl,hys];exact Z
   refine GO 9 ?_;intro _ Y;refine fM Y (wn rfl) (ax a8 (Y.evs rfl) rfl) rfl rfl Z (i:=2) rfl qh (wz t.ts xs hs.ts hxm hxn hxb A1 c1 _ (Z.at_ (i:=2) rfl) ab) fun p40 _ _ Y Za Z=>?_;refine GO 6 ?_;intro _ Y;refine fM Y (wn rfl) (ax a8 (Y.evs rfl) rfl) rfl rfl Z (i:=0) rfl qh (wc t.ds ys hs.ds hym hyn hyb A2 c2 _ (Z.at_ (i:=0) rfl) ab) fun p43 _ _ Y Zb Z=>?_;refine pk ?_;refine sv Y (ai aa aa (Y.ev rfl) (Z.cellsAll (i:=4) rfl)) fun _ Y=>?_;refine sw Y Z 5 fun _ Z=>?_;refine ae (ag (wp_ret ?_));refine kN Y rfl rfl Z (i:=5) rfl aa aa ?_;refine⟨(A1,c1,A2,c2),?_,?_⟩
   · rw[Za,Zb];rfl
   · have q9:=St.swap (Z.sub (.cons_cons _ (.cons _ (.cons_cons _ (.cons _ (.cons _ (.cons _ .slnil)))))))
     rw[Za,Zb] at q9;exact q9
open Go.RowKit Go.Sort Go.Shelf
theorem j5 (t:Tbl) (A:Option Addr) (c:Nat) (B:Option Addr) (d:Nat) (w:World) (hr:Rd w w.heap.size A (t.ts.flatMap cd)) (hq:Rd w w.heap.size B (t.ds.flatMap cK)) (hs:SrtT t) (hl:t.ts.length≤1000∧t.ds.length≤1000) :
 Calls Tryz.prog 128 #[cv t A c B d] w fun e w'=>∃i:Nat × Nat × Nat,e=.returned (.pointer (some ⟨i.1,0,none⟩))∧St [] w w' [lO i.1 i.2.1 i.2.2 t]:=
 (lG t A c B d w hr hq hs hl).mono fun e w' ⟨i,h1,h2⟩=>⟨i,h1,yZ h2⟩
theorem qA (t:Tbl) (r:Rcd) (bt m1 m2:Nat) (w:World) (h:(lO bt m1 m2 t).ok w) :
 Calls Tryz.prog 130 #[.pointer (some ⟨bt,0,none⟩),.int .i64 r.l,cY r.e] w fun e w'=>∃p:Unit,e=.returned (.tuple #[])∧True∧St [bt,m1,m2] w w' [lO bt m1 m2 (dV t r)]:=by
 obtain⟨hB,hm1,hm2,hne⟩:=h;refine(As t r bt m1 m2 w hB hm1 hm2 hne).mono ?_
 rintro e w' ⟨rfl,hS⟩
 have hmm:kj w [m1,m2]:=fun b hb=>by
  rcases List.mem_cons.1 hb with rfl | hb
  · exact hm1.noCells
  · rw[List.mem_singleton.1 hb];exact hm2.noCells
 have k1:=hS.at_ (i:=0) rfl;have k2:=hS.at_ (i:=1) rfl;have hb':=hS.keptL.box hmm hB;refine⟨(),rfl,trivial,hS.os,hS.tape,hS.output,hS.size,fun b hb hM=>hS.block b hb (fun h=>hM (List.mem_cons_of_mem _ h)),fun e he=>?_,fun e he b hb=>?_,List.pairwise_singleton _ _⟩
 · rw[List.mem_singleton.1 he];exact⟨hb',k1,k2,hne⟩
 · rw[List.mem_singleton.1 he] at hb
   rcases hb with rfl | rfl | rfl
   · exact⟨.inr a7,hb'.lt⟩
   · exact⟨.inr a7,MapF.lt k1⟩
   · exact⟨.inr a7,MapF.lt k2⟩
theorem yb (s:List UInt8):SrtT (cM s)∧(∀x∈(cM s).ts,0≤x.i∧x.i≤100000)∧(∀x∈(cM s).ds,0≤x.g∧x.g≤100000)∧(cM s).ts.length≤60∧(cM s).ds.length≤60:=by
 unfold cM
 split
 · rename_i h
   have hz:dy (dz s)=0:=by
    unfold fE at h
    split at h
    · cases h
    · split at h
      · cases h
      · rw[aQ] at h
        exact h _ (.tail _ (.head _))
   have hk:=tblE_zero.1 hz;refine⟨hk.srt,fun x hx=>?_,fun x hx=>?_,hk.n,hk.m⟩
   · obtain⟨k,hk',rfl⟩:=List.getElem_of_mem hx
     have h1:=(hk.ts k hk').i;omega
   · obtain⟨k,hk',rfl⟩:=List.getElem_of_mem hx
     have h1:=(hk.ds k hk').g;omega
 · exact⟨ni,fun x hx=>(by cases hx),fun x hx=>(by cases hx),by decide,by decide⟩
structure BdN (n:Nat) (t:Tbl):Prop where
 ts:∀x∈t.ts,0≤x.i∧x.i≤100000
 ds:∀x∈t.ds,0≤x.g∧x.g≤100000
 lt:t.ts.length≤n
 ld:t.ds.length≤n
theorem ru {α:Type} {κ:α→Int} (l:List α) (x:α):(ju κ l x).length≤l.length+1:=by
 unfold ju;rw[List.length_append,List.length_cons]
 have:(l.filter fun y=>decide (κ y<κ x)).length+(l.filter fun y=>decide (κ x<κ y)).length≤l.length:=by
  induction l with
  | nil=>simp
  | cons y l ih=>
   rw[List.filter_cons,List.filter_cons];by_cases h1:κ y<κ x
   · rw[if_pos (by simpa using h1),if_neg (by simp;omega)];simp only[List.length_cons];omega
   · rw[if_neg (by simpa using h1)]
     split<;>simp only[List.length_cons]<;>omega
 omega
theorem rf {α:Type} {κ:α→Int} {l:List α} {x y:α} (h:y∈ju κ l x):y=x∨y∈l:=by
 unfold ju at h;rcases List.mem_append.1 h with h | h
 · exact .inr (List.mem_filter.1 h).1
 · rcases List.mem_cons.1 h with h | h
   · exact .inl h
   · exact .inr (List.mem_filter.1 h).1
theorem BdN.chg {n:Nat} {t:Tbl} (h:BdN n t) {x:Rcd} (hx:dF x.e=0):BdN (n+1) (dV t x):=by
 obtain⟨hp,_,_,hg⟩:=tK hx;unfold dV
 split
 · exact⟨h.ts,h.ds,Nat.le_succ_of_le h.lt,Nat.le_succ_of_le h.ld⟩
 · refine⟨fun y hy=>?_,fun y hy=>?_,?_,?_⟩
   · have hy:y∈(if x.e.k=4 then pM Trn.i t.ts x.e.t else ju Trn.i t.ts (rp t x)):=hy
     split at hy
     · exact h.ts y (List.mem_filter.1 hy).1
     · rcases rf hy with rfl | hy
       · show 0≤x.e.t∧x.e.t≤100000;omega
       · exact h.ts y hy
   · have hy:y∈jA t x:=hy
     unfold jA at hy
     split at hy
     · rcases rf hy with rfl | hy
       · show 0≤x.e.g∧x.e.g≤100000;omega
       · exact h.ds y hy
     · exact h.ds y hy
   · show(if x.e.k=4 then pM Trn.i t.ts x.e.t else ju Trn.i t.ts (rp t x)).length≤n+1
     have hl:=h.lt
     split
     · have:=List.length_filter_le (fun y=>decide (Trn.i y≠x.e.t)) t.ts
       unfold pM;omega
     · have:=ru (κ:=Trn.i) t.ts (rp t x);omega
   · show(jA t x).length≤n+1
     have hl:=h.ld;unfold jA
     split
     · have:=ru (κ:=Dty.g) t.ds ⟨x.e.g,x.e.f,x.l⟩;omega
     · omega
theorem BdN.fold:∀{l:List Rcd} {n:Nat} {t:Tbl},BdN n t→(∀x∈l,dF x.e=0)→BdN (n+l.length) (l.foldl dV t)
 | [],_,_,h,_=>h
 | x::l,n,t,h,hx=>by
  have:=(h.chg (hx x (List.mem_cons_self))).fold (fun y hy=>hx y (List.mem_cons_of_mem _ hy)) (l:=l);rw[List.length_cons,show n+(l.length+1)=n+1+l.length by omega];exact this
def ga (l:List Rcd) (a:Int):List Rcd:=l.filter fun y=>decide (a<y.l)
theorem iV (l:List Rcd) (a:Int) {j:Nat} (hj:j<l.length):ga (l.take (j+1)) a=if a<l[j].l then ga (l.take j) a ++ [l[j]] else ga (l.take j) a:=by
 unfold ga;rw[List.take_succ_eq_append_getElem hj,List.filter_append,List.filter_cons];by_cases h:a<l[j].l
 · rw[if_pos (by simpa using h),if_pos h];rfl
 · rw[if_neg (by simpa using h),if_neg h];simp
theorem iA {l:List Rcd} (hs:bS Rcd.l l) {A:Option Addr} {n:Int} {w:World} {B:Nat} (hr:Rd w B A (l.flatMap bA)) (h:(ll A l n).isNone=false):∃b o,A=some ⟨b,o,none⟩∧∃hk:il Rcd.l l n<l.length,l[il Rcd.l l n].l=n∧dX l n=some l[il Rcd.l l n]∧ll A l n=some ⟨b,o+il Rcd.l l n*14+1,none⟩:=by
 have hb:km Rcd.l l n=true:=by
  unfold ll at h
  split at h
  · assumption
  · cases h
 obtain⟨hk,_,_⟩:=i7 hs hb;obtain⟨b,o,rfl,_⟩:=hr.opened (aK aB aq ab);obtain⟨q1,q2,q3,q4⟩:=o8 hs h;exact⟨b,o,rfl,q1,q2,q3,q4⟩
theorem r9 {l:List Rcd} (hs:bS Rcd.l l) {A:Option Addr} {n:Int} {w:World} {B:Nat} (hr:Rd w B A (l.flatMap bA)) (h:(ll A l n).isNone=true):dX l n=none:=by
 rcases Nat.eq_zero_or_pos l.length with h0 | h0
 · rw[List.eq_nil_of_length_eq_zero h0];rfl
 · obtain⟨b,o,rfl,_⟩:=hr.opened (aK aB aq h0)
   exact oB h
def xp (l:List Rcd) (a:Int):Bool:=match dX l a with | none=>false | some x=>x.e.k != 5
theorem Au {l:List Rcd} (h:∀x∈l,1≤x.l):ga l 0=l:=List.filter_eq_self.2 fun x hx=>by have:=h x hx;simp;omega
theorem qj (l:List Rcd) (A:Option Addr) (c:Nat) (a:Int) (w:World) (hr:Rd w w.heap.size A (l.flatMap bA)) (hv:VldH l l.length) (hl:l.length≤1000) (hx:∀x∈l,FewE x.e) :
 Calls Tryz.prog 78 #[.slice A l.length c,.int .i64 a] w fun e w'=>∃i:Option Addr × Nat × Option Addr × Nat,e=.returned (.tuple #[cv (gO l a).1 i.1 i.2.1 i.2.2.1 i.2.2.2,.int .i64 (gO l a).2]) ∧
  St [] w w' [.row (.slice i.1 (gO l a).1.ts.length i.2.1) (gO l a).1.ts.length 116 4 ((gO l a).1.ts.flatMap cd),.row (.slice i.2.2.1 (gO l a).1.ds.length i.2.2.2) (gO l a).1.ds.length 124 3 ((gO l a).1.ds.flatMap cK)]:=by
 have hsl:bS Rcd.l l:=by have:=hv.srt;rwa [List.take_length] at this
 have hel:∀x∈l,dF x.e=0:=fun x hx=>by
  obtain⟨k,hk,rfl⟩:=List.getElem_of_mem hx;exact(hv.e0 hk).2.2
 refine al (N:=67) Tryz.func78 rfl rfl rfl (fun _ Y=>?_);have Z:=St.init w;refine ah (ao ?_);refine na (.agg #[.slice none 0 0,.slice none 0 0]) Y rfl Z fun b4 _ _ Zn Y Z=>?_;refine GO 5 ?_;intro _ Y;refine sv (v:=cv gA none 0 none 0) Y (ay (zs:=[.slice none 0 0,.slice none 0 0]) (pl:=[(0,1),(1,1)]) aa aa (Y.evs2 rfl) rfl rfl) fun _ Y=>?_;refine cO Y (wn rfl) (ax a8 (Y.evs rfl) rfl) rfl rfl Z (j5 gA none 0 none 0 _ (Rd.nil _ _ _) (Rd.nil _ _ _) ni aq) fun p15 _ X4 Y Z=>?_;refine GO 1 ?_;intro _ Y;obtain⟨bt,m1,m2⟩:=p15;refine GO 9 ?_;intro _ Y;refine ak (Y.ev rfl) (fun Zf=>?_) (fun Zf=>?_)
 ·
  have ha:a≠0:=by simpa using Zf
  refine GO 4 ?_;intro _ Y;refine cE Y rfl Z (kV l hsl A c a _ (Z.rd0 hr) hl) fun _ _ Y Z=>?_;refine GO 7 ?_;intro _ Y;refine sv Y (lY Tryz.underlying219 aa (Y.ev rfl) (Y.ev rfl)) fun _ Y=>?_;refine GO 1 ?_;intro _ Y;apply bm (x:=xp l a) Y Z 23 rfl 6 29
  case hf=>
   intro Ze;obtain⟨b',o',rfl,qk,q1,q2,q3⟩:=iA hsl hr Ze;refine sy Y (aw (v':=.pointer (some ⟨b',o'+il Rcd.l l a*14+1,none⟩)) (congrArg Value.pointer q3) (bc (Y.ev rfl))) fun _ Y=>?_;refine GO 1 ?_;intro _ Y;refine sy Y (fy 0 (Y.ev rfl)) fun _ Y=>?_;refine sy Y (lx (Y.ev rfl) ((el (Z.rd0 hr) qk) 0 _ rfl)) fun _ Y=>?_;refine sy Y (aw (v':=.bool (xp l a)) (congrArg Value.bool (by unfold xp;rw[q2])) (iE (Y.ev rfl) (Y.ev rfl))) fun _ Y=>?_;refine GO 1 ?_;intro _ Y;exact ae ⟨Y.midE 5,Z⟩
  case ht=>
   intro Ze;refine GO 6 ?_;intro _ Y;exact ae ⟨Y.midE 5,Z⟩
  case h=>
   rintro a27 Zo ⟨Zd,Zg⟩
   refine ae (ag ?_);refine ak (Zd.ev rfl) (fun Zh=>?_) (fun Zh=>?_)
   ·
    have hbad:gO l a=(gA,6):=by
     unfold gO;rw[if_neg ha];rcases Bool.or_eq_true_iff.1 Zh with r1 | r1
     · rw[r9 hsl hr r1]
     · unfold xp at r1
       cases hq:dX l a with
       | none=>rfl
       | some x=>rw[hq] at r1;simp only[];rw[if_pos (by simpa using r1)]
    refine ah (ao ?_);refine sv Zd (ay (zs:=[.slice none 0 0,.slice none 0 0]) (pl:=[(0,1),(1,1)]) aa aa (Zd.evs2 rfl) rfl rfl) fun _ Y=>?_;refine sw Y Zg 1 fun _ Z=>?_;refine GO 6 ?_;intro _ Y;refine bo Y rfl rfl rfl Z (i:=1) rfl aa aa ?_;refine⟨(none,0,none,0),by rw[hbad];rfl,?_⟩;rw[hbad];exact((Z.sub (List.nil_sublist _)).nilRow 124 3).nilRow 116 4
   ·
    obtain⟨r1,r2⟩:=Bool.or_eq_false_iff.1 Zh;obtain⟨b',o',rfl,qk,q1,q2,q3⟩:=iA hsl hr r1
    have r3:l[il Rcd.l l a].e.k=5:=by unfold xp at r2;rw[q2] at r2;simpa using r2
    generalize il Rcd.l l a=k at qk q1 q2 q3 r3 Zd;have hfe:=hx _ (List.getElem_mem qk);refine wp_skip (ag (ah (ao ?_)));refine sv Zd (aw (v':=.pointer (some ⟨b',o'+k*14+1,none⟩)) (congrArg Value.pointer q3) (bc (Zd.ev rfl))) fun _ Y=>?_;refine GO 1 ?_;intro _ Y;refine sv Y (fy 12 (Y.ev rfl)) fun _ Y=>?_;refine sv Y (lx (Y.ev rfl) ((el (Zg.rd0 hr) qk) 12 _ rfl)) fun _ Y=>?_;refine cO Y (wn rfl) (ax a8 (Y.evs rfl) rfl) rfl rfl Zg (lM (bl l[k].e.d) _ hfe.d) fun p36 _ _ Y Z=>?_;refine GO 1 ?_;intro _ Y;refine sv (v:=cv (cM (bl l[k].e.d)) p36.1 p36.2.1 p36.2.2.1 p36.2.2.2) Y (bD (Y.ev rfl) rfl) fun _ Y=>?_;refine GO 1 ?_;intro _ Y;refine na (.agg #[.slice none 0 0,.slice none 0 0]) Y rfl Z fun b8 _ _ Zp Y Z=>?_;refine sw Y Z 0 fun _ Z=>?_;refine GO 1 ?_;intro _ Y;obtain⟨g1,g2,g3,g4,g5⟩:=yb (bl l[k].e.d);refine ae (ag (ao ?_));refine sv (v:=cv (cM (bl l[k].e.d)) p36.1 p36.2.1 p36.2.2.1 p36.2.2.2) Y (ai aa aa (Y.ev rfl) (Z.cellsAll (i:=0) rfl)) fun _ Y=>?_;refine cO Y (wn rfl) (ax a8 (Y.evs rfl) rfl) rfl rfl Z (j5 (cM (bl l[k].e.d)) p36.1 p36.2.1 p36.2.2.1 p36.2.2.2 _ (Z.rdOf (i:=1) rfl) (Z.rdOf (i:=2) rfl) g1 ab) fun p40 _ Zm Y Z=>?_;refine GO 1 ?_;intro _ Y;obtain⟨bt,m1,m2⟩:=p40;obtain⟨T0,hT0⟩:∃T0,T0=cM (bl l[k].e.d):=⟨_,rfl⟩
    have hTs:SrtT T0:=by rw[hT0];exact g1
    have hTb:BdN 60 T0:=by rw[hT0];exact⟨g2,g3,g4,g5⟩
    have hAn:gO l a=AR T0 (ga l a):=by unfold gO;rw[if_neg ha,q2];simp only[];rw[if_neg (by rw[r3];decide),hT0];rfl
    replace Z:St [] w Zm [lO bt m1 m2 (((ga (l.take 0) a)).foldl dV T0),.box b4 #[.slice none 0 0,.slice none 0 0] 25]:=by rw[hT0];exact(Z.sub (.cons_cons _ (.cons _ (.cons _ (.cons _ (.cons _ (.cons_cons _ .slnil)))))))
    refine GO 11 ?_;intro _ Y;refine aY Y Z [42,41,6,5,4,1] (fun (j:Nat)=>[(43,.int .i64 j)]) (fun (j:Nat)=>j≤l.length) (fun j L=>L.set 0 (lO bt m1 m2 ((ga (l.take j) a).foldl dV T0))) (fun (j:Nat)=>l.length-j) (0) (Nat.zero_le _) bz (Z) ?_;intro j _ _ Zi Y Z;refine GO 6 ?_;intro _ Y;refine ak (Y.ev rfl) (fun Za=>?_) (fun Za=>?_)
    ·
     have hlt:j<l.length:=by have:=of_decide_eq_true Za;omega
     obtain⟨b5,o5,hA5,hB5,_⟩:=hr.opened (aK aB aq ab);have hr5:=hr;rw[hA5] at hr5;refine wp_skip (ag (ah (wp_block (ah (ao ?_)))));refine sv Y (au (b:=b5) (o:=o5) (i:=j) (sz:=14) Tryz.underlying180 aa ((Y.ev rfl).trans (congrArg (fun A=>Value.slice A l.length c) hA5)) (Y.ev rfl) rfl hlt rfl) fun _ Y=>?_;refine sv (v:=ff l[j]) Y (ai aa aa (Y.ev rfl) (aW aB (Z.rd0 hr5) hlt)) fun _ Y=>?_;refine na (.agg #[.int .i64 0,.int .i64 0,.int .i64 0,.int .i64 0,.int .i64 0,.int .i64 0,.bool false,.int .i64 0,.int .i64 0,.int .i64 0,.int .i64 0,.string ⟨#[]⟩,.string ⟨#[]⟩,.string ⟨#[]⟩]) Y rfl Z fun b11 _ _ Zj Y Z=>?_;refine sw Y Z 0 fun _ Z=>?_;refine GO 10 ?_;intro _ Y;refine ak (Y.ev rfl) (fun Zb=>?_) (fun Zb=>?_)
     ·
      have hgt:a<l[j].l:=of_decide_eq_true Zb;refine GO 5 ?_;intro _ Y;refine sv (v:=cY l[j].e) Y (ai aa aa (Y.ev rfl) (Z.cellsOf (i:=0) rfl 1 13)) fun _ Y=>?_;refine fM Y (wn rfl) (ax a8 (Y.evs rfl) rfl) rfl rfl Z (i:=1) rfl (fun b hb=>by rcases List.mem_cons.1 hb with h | hb;exact .inl h;rcases List.mem_cons.1 hb with h | hb;exact .inr (.inl h);exact .inr (.inr (List.mem_singleton.1 hb))) (qA _ l[j] bt m1 m2 _ (Z.at_ (i:=1) rfl)) fun p56 _ _ Y Zk Z=>?_;refine GO 8 ?_;intro _ Y;exact⟨j+1,by omega,hlt,Y.re bz,(by have e9:=iV l a hlt;rw[if_pos hgt] at e9;show St [] w _ [lO bt m1 m2 ((ga (l.take (j+1)) a).foldl dV T0),_];rw[e9,List.foldl_append];exact(Z.sub (.cons _ (.cons_cons _ (.cons_cons _ .slnil)))))⟩
     ·
      have hgt:¬a<l[j].l:=of_decide_eq_false Zb;refine GO 8 ?_;intro _ Y;exact⟨j+1,by omega,hlt,Y.re bz,(by have e9:=iV l a hlt;rw[if_neg hgt] at e9;show St [] w _ [lO bt m1 m2 ((ga (l.take (j+1)) a).foldl dV T0),_];rw[e9];exact(Z.sub (.cons _ (.cons_cons _ (.cons_cons _ .slnil)))))⟩
    ·
     have hge:l.length≤j:=by have:=of_decide_eq_false Za;omega
     obtain rfl:j=l.length:=by have:=Zi;omega
     obtain⟨T1,hT1⟩:∃T1,T1=(ga l a).foldl dV T0:=⟨_,rfl⟩;have hbl:(ga l a).length≤l.length:=List.length_filter_le _ _
     have hTs1:SrtT T1:=by rw[hT1];exact hTs.fold
     have hTb1:BdTbl T1:=by
      have:=hTb.fold (l:=ga l a) (fun x hx=>hel x (List.mem_filter.1 hx).1);rw[hT1];exact⟨this.ts,this.ds,by have:=this.lt;omega,by have:=this.ld;omega⟩
     have hAn1:gO l a=if dy T1≠0 then (gA,dy T1) else (T1,0):=by rw[hAn,hT1];rfl
     rw[List.take_length,←hT1] at Z;refine GO 8 ?_;intro _ Y;refine cO Y (wn rfl) (ax a8 (Y.evs rfl) rfl) rfl rfl Z (rS T1 bt m1 m2 _ (Z.at_ (i:=0) rfl).1 (Z.at_ (i:=0) rfl).2.1 (Z.at_ (i:=0) rfl).2.2.1 hTs1 hTb1) fun p59 _ _ Y Z=>?_;refine na (.agg #[.slice none 0 0,.slice none 0 0]) Y rfl Z fun b12 _ _ Zl Y Z=>?_;refine sw Y Z 0 fun _ Z=>?_;refine ae (ag (ah (ah (ao ?_))));refine sv (v:=cv T1 p59.1 p59.2.1 p59.2.2.1 p59.2.2.2) Y (ai aa aa (Y.ev rfl) (Z.cellsAll (i:=0) rfl)) fun _ Y=>?_;refine cE Y rfl Z (cQ T1 p59.1 p59.2.1 p59.2.2.1 p59.2.2.2 _ (Z.rdOf (i:=1) rfl) (Z.rdOf (i:=2) rfl)) fun _ _ Y Z=>?_;refine GO 9 ?_;intro _ Y;refine ak (Y.ev rfl) (fun Zc=>?_) (fun Zc=>?_)
     ·
      have hne:dy T1≠0:=by simpa using Zc
      rw[if_pos hne] at hAn1;refine ah (ao ?_);refine sv Y (ay (zs:=[.slice none 0 0,.slice none 0 0]) (pl:=[(0,1),(1,1)]) aa aa (Y.evs2 rfl) rfl rfl) fun _ Y=>?_;refine GO 1 ?_;intro _ Y;refine sw Y Z 4 fun _ Z=>?_;refine GO 5 ?_;intro _ Y;refine bo Y rfl rfl rfl Z (i:=4) rfl aa aa ?_;refine⟨(none,0,none,0),by rw[hAn1];rfl,?_⟩;rw[hAn1];exact((Z.sub (List.nil_sublist _)).nilRow 124 3).nilRow 116 4
     ·
      have hne:¬dy T1≠0:=by simpa using Zc
      rw[if_neg hne] at hAn1;refine wp_skip (ag (ah (ao ?_)));refine sv (v:=cv T1 p59.1 p59.2.1 p59.2.2.1 p59.2.2.2) Y (ai aa aa (Y.ev rfl) (Z.cellsAll (i:=0) rfl)) fun _ Y=>?_;refine sw Y Z 4 fun _ Z=>?_;refine GO 4 ?_;intro _ Y;refine bo Y rfl rfl rfl Z (i:=4) rfl aa aa ?_;refine⟨p59,by rw[hAn1];rfl,?_⟩;rw[hAn1];exact(Z.sub (.cons _ (.cons_cons _ (.cons_cons _ (.cons _ (.cons _ .slnil))))))
 ·
  have ha:a=0:=by simpa using Zf
  obtain⟨T0,hT0⟩:∃T0,T0=gA:=⟨_,rfl⟩
  have hTs:SrtT T0:=by rw[hT0];exact ni
  have hTb:BdN 60 T0:=by rw[hT0];exact⟨fun x hx=>(by cases hx),fun x hx=>(by cases hx),by decide,by decide⟩
  have hAn:gO l a=AR T0 (ga l a):=by
   unfold gO;rw[if_pos ha,hT0,ha,Au];intro x hx;obtain⟨k,hk,rfl⟩:=List.getElem_of_mem hx;exact(hv.e0 hk).1
  replace Z:St [] w X4 [lO bt m1 m2 (((ga (l.take 0) a)).foldl dV T0),.box b4 #[.slice none 0 0,.slice none 0 0] 25]:=by rw[hT0];exact Z
  refine GO 11 ?_;intro _ Y;refine aY Y Z [42,41,6,5,4,1] (fun (j:Nat)=>[(43,.int .i64 j)]) (fun (j:Nat)=>j≤l.length) (fun j L=>L.set 0 (lO bt m1 m2 ((ga (l.take j) a).foldl dV T0))) (fun (j:Nat)=>l.length-j) (0) (Nat.zero_le _) bz (Z) ?_;intro j _ _ Zi Y Z;refine GO 6 ?_;intro _ Y;refine ak (Y.ev rfl) (fun Za=>?_) (fun Za=>?_)
  ·
   have hlt:j<l.length:=by have:=of_decide_eq_true Za;omega
   obtain⟨b5,o5,hA5,hB5,_⟩:=hr.opened (aK aB aq ab);have hr5:=hr;rw[hA5] at hr5;refine wp_skip (ag (ah (wp_block (ah (ao ?_)))));refine sv Y (au (b:=b5) (o:=o5) (i:=j) (sz:=14) Tryz.underlying180 aa ((Y.ev rfl).trans (congrArg (fun A=>Value.slice A l.length c) hA5)) (Y.ev rfl) rfl hlt rfl) fun _ Y=>?_;refine sv (v:=ff l[j]) Y (ai aa aa (Y.ev rfl) (aW aB (Z.rd0 hr5) hlt)) fun _ Y=>?_;refine na (.agg #[.int .i64 0,.int .i64 0,.int .i64 0,.int .i64 0,.int .i64 0,.int .i64 0,.bool false,.int .i64 0,.int .i64 0,.int .i64 0,.int .i64 0,.string ⟨#[]⟩,.string ⟨#[]⟩,.string ⟨#[]⟩]) Y rfl Z fun b11 _ _ Zj Y Z=>?_;refine sw Y Z 0 fun _ Z=>?_;refine GO 10 ?_;intro _ Y;refine ak (Y.ev rfl) (fun Zb=>?_) (fun Zb=>?_)
   ·
    have hgt:a<l[j].l:=of_decide_eq_true Zb;refine GO 5 ?_;intro _ Y;refine sv (v:=cY l[j].e) Y (ai aa aa (Y.ev rfl) (Z.cellsOf (i:=0) rfl 1 13)) fun _ Y=>?_;refine fM Y (wn rfl) (ax a8 (Y.evs rfl) rfl) rfl rfl Z (i:=1) rfl (fun b hb=>by rcases List.mem_cons.1 hb with h | hb;exact .inl h;rcases List.mem_cons.1 hb with h | hb;exact .inr (.inl h);exact .inr (.inr (List.mem_singleton.1 hb))) (qA _ l[j] bt m1 m2 _ (Z.at_ (i:=1) rfl)) fun p56 _ _ Y Zk Z=>?_;refine GO 8 ?_;intro _ Y;exact⟨j+1,by omega,hlt,Y.re bz,(by have e9:=iV l a hlt;rw[if_pos hgt] at e9;show St [] w _ [lO bt m1 m2 ((ga (l.take (j+1)) a).foldl dV T0),_];rw[e9,List.foldl_append];exact(Z.sub (.cons _ (.cons_cons _ (.cons_cons _ .slnil)))))⟩
   ·
    have hgt:¬a<l[j].l:=of_decide_eq_false Zb;refine GO 8 ?_;intro _ Y;exact⟨j+1,by omega,hlt,Y.re bz,(by have e9:=iV l a hlt;rw[if_neg hgt] at e9;show St [] w _ [lO bt m1 m2 ((ga (l.take (j+1)) a).foldl dV T0),_];rw[e9];exact(Z.sub (.cons _ (.cons_cons _ (.cons_cons _ .slnil)))))⟩
  ·
   have hge:l.length≤j:=by have:=of_decide_eq_false Za;omega
   obtain rfl:j=l.length:=by have:=Zi;omega
   obtain⟨T1,hT1⟩:∃T1,T1=(ga l a).foldl dV T0:=⟨_,rfl⟩;have hbl:(ga l a).length≤l.length:=List.length_filter_le _ _
   have hTs1:SrtT T1:=by rw[hT1];exact hTs.fold
   have hTb1:BdTbl T1:=by
    have:=hTb.fold (l:=ga l a) (fun x hx=>hel x (List.mem_filter.1 hx).1);rw[hT1];exact⟨this.ts,this.ds,by have:=this.lt;omega,by have:=this.ld;omega⟩
   have hAn1:gO l a=if dy T1≠0 then (gA,dy T1) else (T1,0):=by rw[hAn,hT1];rfl
   rw[List.take_length,←hT1] at Z;refine GO 8 ?_;intro _ Y;refine cO Y (wn rfl) (ax a8 (Y.evs rfl) rfl) rfl rfl Z (rS T1 bt m1 m2 _ (Z.at_ (i:=0) rfl).1 (Z.at_ (i:=0) rfl).2.1 (Z.at_ (i:=0) rfl).2.2.1 hTs1 hTb1) fun p59 _ _ Y Z=>?_;refine na (.agg #[.slice none 0 0,.slice none 0 0]) Y rfl Z fun b12 _ _ Zl Y Z=>?_;refine sw Y Z 0 fun _ Z=>?_;refine ae (ag (ah (ah (ao ?_))));refine sv (v:=cv T1 p59.1 p59.2.1 p59.2.2.1 p59.2.2.2) Y (ai aa aa (Y.ev rfl) (Z.cellsAll (i:=0) rfl)) fun _ Y=>?_;refine cE Y rfl Z (cQ T1 p59.1 p59.2.1 p59.2.2.1 p59.2.2.2 _ (Z.rdOf (i:=1) rfl) (Z.rdOf (i:=2) rfl)) fun _ _ Y Z=>?_;refine GO 9 ?_;intro _ Y;refine ak (Y.ev rfl) (fun Zc=>?_) (fun Zc=>?_)
   ·
    have hne:dy T1≠0:=by simpa using Zc
    rw[if_pos hne] at hAn1;refine ah (ao ?_);refine sv Y (ay (zs:=[.slice none 0 0,.slice none 0 0]) (pl:=[(0,1),(1,1)]) aa aa (Y.evs2 rfl) rfl rfl) fun _ Y=>?_;refine GO 1 ?_;intro _ Y;refine sw Y Z 4 fun _ Z=>?_;refine GO 5 ?_;intro _ Y;refine bo Y rfl rfl rfl Z (i:=4) rfl aa aa ?_;refine⟨(none,0,none,0),by rw[hAn1];rfl,?_⟩;rw[hAn1];exact((Z.sub (List.nil_sublist _)).nilRow 124 3).nilRow 116 4
   ·
    have hne:¬dy T1≠0:=by simpa using Zc
    rw[if_neg hne] at hAn1;refine wp_skip (ag (ah (ao ?_)));refine sv (v:=cv T1 p59.1 p59.2.1 p59.2.2.1 p59.2.2.2) Y (ai aa aa (Y.ev rfl) (Z.cellsAll (i:=0) rfl)) fun _ Y=>?_;refine sw Y Z 4 fun _ Z=>?_;refine GO 4 ?_;intro _ Y;refine bo Y rfl rfl rfl Z (i:=4) rfl aa aa ?_;refine⟨p59,by rw[hAn1];rfl,?_⟩;rw[hAn1];exact(Z.sub (.cons _ (.cons_cons _ (.cons_cons _ (.cons _ (.cons _ .slnil))))))
theorem qb {l:List Rcd} (h:(dW l).2=0):l.length≤100∧VldH l l.length:=by
 unfold dW at h
 split at h
 · cases h
 · rename_i h1
   exact⟨by omega,Nat.le_refl _,fun k hk _=>(cu _ l).1 h k hk⟩
def k7 (l:List Rcd) (a:Int):Tbl × Int:=if (dW l).2≠0 then (gA,(dW l).2) else gO l a
theorem pG (l:List Rcd) (A:Option Addr) (c:Nat) (a:Int) (w:World) (hr:Rd w w.heap.size A (l.flatMap bA)) (hl:l.length≤1000) (hc:l.length≤c) (hF:FolT w) (hx:∀x∈l,FewE x.e) :
 Calls Tryz.prog 24 #[.slice A l.length c,.int .i64 a] w fun e w'=>∃i:Option Addr × Nat × Option Addr × Nat,e=.returned (.tuple #[cv (k7 l a).1 i.1 i.2.1 i.2.2.1 i.2.2.2,.int .i64 (k7 l a).2]) ∧
  St [] w w' [.row (.slice i.1 (k7 l a).1.ts.length i.2.1) (k7 l a).1.ts.length 116 4 ((k7 l a).1.ts.flatMap cd),.row (.slice i.2.2.1 (k7 l a).1.ds.length i.2.2.2) (k7 l a).1.ds.length 124 3 ((k7 l a).1.ds.flatMap cK)]:=by
 refine al (N:=18) Tryz.func24 rfl rfl rfl (fun _ Y=>?_);have Z:=St.init w;refine ah (ao ?_);refine na (.agg #[.slice none 0 0,.slice none 0 0]) Y rfl Z fun b4 _ _ Zb Y Z=>?_;refine GO 7 ?_;intro _ Y;refine cE Y rfl Z (dZ l A c _ (Z.rd0 hr) hl hc (hF.below Z.below) hx) fun _ _ Y Z=>?_;refine GO 9 ?_;intro _ Y;refine ak (Y.ev rfl) (fun Za=>?_) (fun Za=>?_)
 ·
  have hne:(dW l).2≠0:=by simpa using Za
  have e1:k7 l a=(gA,(dW l).2):=by unfold k7;rw[if_pos hne]
  refine ah (ao ?_);refine sv Y (ay (zs:=[.slice none 0 0,.slice none 0 0]) (pl:=[(0,1),(1,1)]) aa aa (Y.evs2 rfl) rfl rfl) fun _ Y=>?_;refine GO 1 ?_;intro _ Y;refine sw Y Z 0 fun _ Z=>?_;refine GO 5 ?_;intro _ Y;refine bo Y rfl rfl rfl Z (i:=0) rfl aa aa ?_;refine⟨(none,0,none,0),by rw[e1];rfl,?_⟩;rw[e1];exact((Z.sub (List.nil_sublist _)).nilRow 124 3).nilRow 116 4
 ·
  have hz:(dW l).2=0:=by simpa using Za
  have e1:k7 l a=gO l a:=by unfold k7;rw[if_neg (fun h=>h hz)]
  obtain⟨hl2,hv⟩:=qb hz;refine GO 6 ?_;intro _ Y;refine cO Y (wn rfl) (ax a8 (Y.evs rfl) rfl) rfl rfl Z (qj l A c a _ (Z.rd0 hr) hv hl hx) fun p15 _ _ Y Z=>?_;refine sv (v:=cv (gO l a).1 p15.1 p15.2.1 p15.2.2.1 p15.2.2.2) Y (bD (Y.ev rfl) rfl) fun _ Y=>?_;refine GO 1 ?_;intro _ Y;refine sw Y Z 2 fun _ Z=>?_;refine GO 4 ?_;intro _ Y;refine bo Y rfl rfl rfl Z (i:=2) rfl aa aa ?_;refine⟨p15,by rw[e1];rfl,?_⟩;rw[e1];exact(Z.sub (.cons_cons _ (.cons_cons _ (.cons _ .slnil))))
end Go.Proofs.YtcfdpfmchchkaaaGreatDoor
