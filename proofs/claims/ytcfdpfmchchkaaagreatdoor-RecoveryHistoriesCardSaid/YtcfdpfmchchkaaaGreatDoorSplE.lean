/-
  SPL, part 12: maps with numbers as keys, told as functions: what is looked up, written, struck; ranged over in whatever order. No program in sight.
  A walk by steps: ways that meet with a fact, groups behind a head, four results.
  The law of Flow within a fence: in a round of a range over a function, where no operation is a defer.
  A range over a function whose iterator keeps its state in one cell of its own (block bi, laid before the loop): the rounds leave that cell alone, the loop's invariant does not mind what is stored there. In a wide fence; the body is never left by a jump.
  A range over a function whose iterator keeps no state (boxes that it reads are kept by the rounds: K). In a wide fence; the body is never left by a jump.
  A walk by steps: a range over a function whose iterator keeps no state; its rounds; functions that hold such loops.
-/
import Derived.Test.YtcfdpfmchchkaaaGreatDoorSplD
import Derived.Maps.RangeRun
import Derived.OrdersIn
import Derived.TacticsIn
import Derived.RangeFuncCalls
import Derived.RangeFuncNested
import Derived.RangeFuncBound
import Derived.RangeFuncLeaves
import Derived.Shelf.Abstract
import Derived.Shelf.RegionOpen
import Derived.OwnWalkIn
import Derived.TacticsInMore
import Derived.LoopNIn
import Derived.LoopIn
namespace Go.Proofs.YtcfdpfmchchkaaaGreatDoor
set_option linter.unusedVariables false
set_option linter.unusedSimpArgs false
open Go.RowKit Go.Sort
variable {ds:List Deferred}
theorem qX {α:Type} {l:List α} {i:Nat} {x:α} (h:l[i]? = some x):l.set i x=l:=by
 obtain⟨hl,rfl⟩:=List.getElem?_eq_some_iff.1 h;exact List.set_getElem_self hl
structure MapFn (es:Array MapEntry) (clock:Nat) (g:Int→Option Value):Prop where
 st:MapKept.Stamped es clock
 key:∀e∈es.toList,∃k,e.key=.int .i64 k∧g k=some e.val
 all:∀k v,g k=some v→∃e∈es.toList,e.key=.int .i64 k∧e.val=v
def MapF (X:World) (m:Nat) (g:Int→Option Value):Prop:=∃es clock,X.heap[m]? = some (.map es clock)∧MapFn es clock g
def en (g:Int→Option Value) (k:Int) (u:Option Value):Int→Option Value:=fun i=>if i=k then u else g i
def cq (m:Nat) (g:Int→Option Value):Ent:=.inv (fun b=>b=m) (fun X=>MapF X m g) (fun X X' ⟨es,ck,h1,h2⟩ hb=>⟨es,ck,(hb m rfl).trans h1,h2⟩)
theorem MapF.lt {X:World} {m:Nat} {g:Int→Option Value} (h:MapF X m g):m<X.heap.size:=by
 obtain⟨es,ck,h1,_⟩:=h;exact(Array.getElem?_eq_some_iff.1 h1).1
theorem MapF.below {X X':World} {m:Nat} {g:Int→Option Value} (h:MapF X m g) (hb:Below X.heap.size X X'):MapF X' m g:=by
 obtain⟨es,ck,h1,h2⟩:=h;exact⟨es,ck,(hb.block m (Array.getElem?_eq_some_iff.1 h1).1).trans h1,h2⟩
theorem MapFn.isKey {es:Array MapEntry} {clock:Nat} {g:Int→Option Value} (h:MapFn es clock g):∀x∈es.toList,MapKept.IsKey (.int .i64) x.key:=fun x hx=>by
 obtain⟨k,hk,_⟩:=h.key x hx;rw[hk];exact rfl
theorem MapFn.find {es:Array MapEntry} {clock:Nat} {g:Int→Option Value} (h:MapFn es clock g) (k:Int) :
 (Instr.findNow (.int .i64) (.int .i64 k) es.toList 0=some none∧g k=none∧∀x∈es.toList,x.key≠.int .i64 k) ∨
 ∃j e,Instr.findNow (.int .i64) (.int .i64 k) es.toList 0=some (some (j,e.val))∧es[j]? = some e∧e.key=.int .i64 k∧g k=some e.val:=by
 rcases MapKept.findNow_spec (d:=.int .i64) (k:=.int .i64 k) rfl es.toList 0 h.isKey with ⟨h1,h2⟩ | ⟨j,e,h1,h2,h3⟩
 · left
   refine⟨h1,?_,h2⟩
   cases hg:g k with
   | none=>rfl
   | some v=>
    obtain⟨e,he,hk,_⟩:=h.all k v hg;exact absurd hk (h2 e he)
 · right
   rw[Nat.zero_add] at h1;have hm:e∈es.toList:=List.mem_of_getElem? h2;obtain⟨k',hk',hg⟩:=h.key e hm;rw[h3] at hk';injection hk' with _ hk';subst hk';exact⟨j,e,h1,by simpa using h2,h3,hg⟩
section
variable {P:Program} {ρ:Operand→Value} {X:World} {d:Option Tmp} {ty:TypeId} {ps:String} {af:Array Edge} {g:Option (Nat × Bool)}
theorem qF {t kt e:TypeId} {x y:Operand} {m:Nat} {k:Int} {z:Value} {f:Int→Option Value} {b:Bool} (ht:P.underlying t=some (.map kt e)) (hk:P.underlying kt=some (.int .i64)) (hz:(P.info? e).map (·.zero)=some (some z)) (hx:ρ x=.map (some m)) (hy:ρ y=.int .i64 k) (hm:MapF X m f) :
 (execOp ρ ⟨d,.lookup t x y b,ty,ps,af,g⟩).run P X=.ok (.value (if b then .tuple #[(f k).getD z,.bool (f k).isSome] else (f k).getD z)) X:=by
 obtain⟨es,clock,hb,he⟩:=hm;have hg:=MapKept.run_getObj_map (P:=P) hb
 have hzz:(zeroValue e).run P X=.ok z X:=by
  cases hq:P.info? e with
  | none=>rw[hq] at hz;cases hz
  | some q=>
   rw[hq] at hz
   have:q.zero=some z:=by simpa using hz
   simp[zeroValue,typeInfo,hq,this]
 rcases he.find k with ⟨h1,h2,_⟩ | ⟨j,e',h1,h2,h3,h4⟩
 · have hf:=MapKept.run_findKey (P:=P) (w:=X) hk h1
   cases b<;>simp[execOp,hx,hy,Instr.lookup,run_underlying ht,hg,dA hk,hf,hzz,h2]
 · have hf:=MapKept.run_findKey (P:=P) (w:=X) hk h1
   cases b<;>simp[execOp,hx,hy,Instr.lookup,run_underlying ht,hg,dA hk,hf,h4]
theorem mM {t kt e:TypeId} {x y:Operand} {m:Nat} {k:Int} {z:Value} {f:Int→Option Value} (ht:P.underlying t=some (.map kt e)) (hk:P.underlying kt=some (.int .i64)) (hz:(P.info? e).map (·.zero)=some (some z)) (hx:ρ x=.map (some m)) (hy:ρ y=.int .i64 k) (hm:MapF X m f) :
 (execOp ρ ⟨d,.lookup t x y true,ty,ps,af,g⟩).run P X=.ok (.value (.tuple #[(f k).getD z,.bool (f k).isSome])) X:=qF (b:=true) ht hk hz hx hy hm
theorem yT {t kt e:TypeId} {x y:Operand} {m:Nat} {k:Int} {z:Value} {f:Int→Option Value} (ht:P.underlying t=some (.map kt e)) (hk:P.underlying kt=some (.int .i64)) (hz:(P.info? e).map (·.zero)=some (some z)) (hx:ρ x=.map (some m)) (hy:ρ y=.int .i64 k) (hm:MapF X m f) :
 (execOp ρ ⟨d,.lookup t x y false,ty,ps,af,g⟩).run P X=.ok (.value ((f k).getD z)) X:=qF (b:=false) ht hk hz hx hy hm
def iB (X:World) (m:Nat) (es:Array MapEntry) (clock:Nat):World:={ X with heap:=X.heap.setIfInBounds m (.map es clock) }
theorem th {t kt e:TypeId} {m:Nat} {k:Int} {u:Value} {f:Int→Option Value} (ht:P.underlying t=some (.map kt e)) (hk:P.underlying kt=some (.int .i64)) (hm:MapF X m f) :
 ∃es clock,(Instr.mapUpdate t (.map (some m)) (.int .i64 k) u).run P X=.ok () (iB X m es clock)∧MapFn es clock (en f k (some u)):=by
 obtain⟨es,clock,hb,he⟩:=hm;have hg:=MapKept.run_getObj_map (P:=P) hb;rcases he.find k with ⟨h1,h2,h3⟩ | ⟨j,e',h1,h2,h3,h4⟩
 · have hf:=MapKept.run_findKey (P:=P) (w:=X) hk h1
   refine⟨es.push { key:=.int .i64 k,val:=u,born:=clock },clock+1,?_,MapKept.stamped_push he.st h3,fun x hx=>?_,fun i v hi=>?_⟩
   · have hs:=MapKept.run_setObj_map (P:=P) (.map (es.push { key:=.int .i64 k,val:=u,born:=clock }) (clock+1)) hb
     simp[Instr.mapUpdate,run_underlying ht,hg,dA hk,hf,hs,iB]
   · simp only[Array.toList_push,List.mem_append,List.mem_singleton] at hx
     rcases hx with hx | rfl
     · obtain⟨i,hi,hgi⟩:=he.key x hx
       refine⟨i,hi,?_⟩;unfold en;rw[if_neg,hgi]
       rintro rfl
       exact h3 x hx hi
     · exact⟨k,rfl,by unfold en;rw[if_pos rfl]⟩
   · unfold en at hi
     simp only[Array.toList_push,List.mem_append,List.mem_singleton]
     split at hi
     · rename_i hik
       subst hik
       cases hi
       exact⟨_,.inr rfl,rfl,rfl⟩
     · obtain⟨x,hx,hxk⟩:=he.all i v hi
       exact⟨x,.inl hx,hxk⟩
 · have hf:=MapKept.run_findKey (P:=P) (w:=X) hk h1
   have hjl:j<es.size:=(Array.getElem?_eq_some_iff.1 h2).1;have hje:es[j]=e':=(Array.getElem?_eq_some_iff.1 h2).2
   have hL:∀x,x∈(es.modify j fun e=>{ e with key:=.int .i64 k,val:=u }).toList↔∃i,∃hi:i<es.size,x=if i=j then { es[i] with key:=.int .i64 k,val:=u } else es[i]:=fun x=>by
    rw[Array.mem_toList_iff,Array.mem_iff_getElem]
    constructor
    · rintro ⟨i,hi,rfl⟩
      rw[Array.size_modify] at hi;refine⟨i,hi,?_⟩;rw[Array.getElem_modify];by_cases h:i=j
      · rw[if_pos h,if_pos h.symm]
      · rw[if_neg h,if_neg (fun q=>h q.symm)]
    · rintro ⟨i,hi,rfl⟩
      refine⟨i,by rw[Array.size_modify];exact hi,?_⟩;rw[Array.getElem_modify];by_cases h:i=j
      · rw[if_pos h,if_pos h.symm]
      · rw[if_neg h,if_neg (fun q=>h q.symm)]
   have hne:∀i (hi:i<es.size),i≠j→es[i].key≠.int .i64 k:=fun i hi hij hki=>by
    have hn:=he.st.2.2;rw[List.nodup_iff_pairwise_ne,List.pairwise_map,List.pairwise_iff_getElem] at hn;rcases Nat.lt_or_gt_of_ne hij with h | h
    · have:=hn i j (by simpa using hi) (by simpa using hjl) h
      simp only[Array.getElem_toList] at this;rw[hki,hje,h3] at this;exact this rfl
    · have:=hn j i (by simpa using hjl) (by simpa using hi) h
      simp only[Array.getElem_toList] at this;rw[hki,hje,h3] at this;exact this rfl
   refine⟨es.modify j fun e=>{ e with key:=.int .i64 k,val:=u },clock,?_,MapKept.stamped_modify he.st j _ (fun _ _=>rfl) (fun x _ hx=>by rw[h2] at hx;cases hx;exact h3.symm),fun x hx=>?_,fun i v hi=>?_⟩
   · have hs:=MapKept.run_setObj_map (P:=P) (.map (es.modify j fun e=>{ e with key:=.int .i64 k,val:=u }) clock) hb
     simp[Instr.mapUpdate,run_underlying ht,hg,dA hk,hf,hs,h2,h3,MapKept.run_keyThatStays (d:=.int .i64) (k:=.int .i64 k) rfl,iB]
   · obtain⟨i,hi,rfl⟩:=(hL x).1 hx
     by_cases hij:i=j
     · rw[if_pos hij]
       exact⟨k,rfl,by unfold en;rw[if_pos rfl]⟩
     · rw[if_neg hij]
       obtain⟨q,hq,hgq⟩:=he.key es[i] a7;refine⟨q,hq,?_⟩;unfold en;rw[if_neg,hgq]
       rintro rfl
       exact hne i hi hij hq
   · unfold en at hi
     split at hi
     · rename_i hik
       subst hik
       cases hi
       exact⟨_,(hL _).2 ⟨j,hjl,rfl⟩,by rw[if_pos rfl],by rw[if_pos rfl]⟩
     · rename_i hik
       obtain⟨x,hx,hxk,hxv⟩:=he.all i v hi;obtain⟨a,ha,rfl⟩:=Array.mem_iff_getElem.1 (Array.mem_toList_iff.1 hx);refine⟨_,(hL _).2 ⟨a,ha,rfl⟩,?_⟩;rw[if_neg]
       · exact⟨hxk,hxv⟩
       · rintro rfl
         rw[hje,h3] at hxk;injection hxk with _ hxk;exact hik hxk.symm
theorem tT {t kt e:TypeId} {m:Nat} {k:Int} {f:Int→Option Value} {t2:TypeId} (ht:P.underlying t=some (.map kt e)) (hk:P.underlying kt=some (.int .i64)) (hm:MapF X m f) :
 ∃es clock,(Builtin.delete_ #[t,t2] ty #[.map (some m),.int .i64 k]).run P X=.ok (.tuple #[]) (iB X m es clock)∧MapFn es clock (en f k none):=by
 obtain⟨es,clock,hb,he⟩:=hm;have hg:=MapKept.run_getObj_map (P:=P) hb;rcases he.find k with ⟨h1,h2,h3⟩ | ⟨j,e',h1,h2,h3,h4⟩
 · have hf:=MapKept.run_findKey (P:=P) (w:=X) hk h1
   refine⟨es,clock,?_,he.st,fun x hx=>?_,fun i v hi=>?_⟩
   · have hs:=MapKept.run_setObj_map (P:=P) (.map es clock) hb
     simp[Builtin.delete_,run_underlying ht,hg,dA hk,hf,hs,iB]
   · obtain⟨i,hi,hgi⟩:=he.key x hx
     refine⟨i,hi,?_⟩;unfold en;rw[if_neg,hgi]
     rintro rfl
     exact h3 x hx hi
   · unfold en at hi
     split at hi
     · cases hi
     · exact he.all i v hi
 · have hf:=MapKept.run_findKey (P:=P) (w:=X) hk h1
   have hjl:j<es.size:=(Array.getElem?_eq_some_iff.1 h2).1;have hje:es[j]=e':=(Array.getElem?_eq_some_iff.1 h2).2;have hn:=he.st.2.2;rw[List.nodup_iff_pairwise_ne,List.pairwise_map,List.pairwise_iff_getElem] at hn
   have hne:∀i (hi:i<es.toList.length),i≠j→es.toList[i].key≠.int .i64 k:=fun i hi hij hki=>by
    rcases Nat.lt_or_gt_of_ne hij with h | h
    · have:=hn i j hi (by simpa using hjl) h
      rw[hki] at this;simp only[Array.getElem_toList] at this;rw[hje,h3] at this;exact this rfl
    · have:=hn j i (by simpa using hjl) hi h
      rw[hki] at this;simp only[Array.getElem_toList] at this;rw[hje,h3] at this;exact this rfl
   have hL:∀x,x∈(es.eraseIdxIfInBounds j).toList↔∃i,∃hi:i<es.toList.length,i≠j∧es.toList[i]=x:=fun x=>by
    have e1:(es.eraseIdxIfInBounds j).toList=es.toList.eraseIdx j:=by
     unfold Array.eraseIdxIfInBounds;rw[dif_pos hjl,Array.toList_eraseIdx]
    rw[e1,List.mem_eraseIdx_iff_getElem]
   refine⟨es.eraseIdxIfInBounds j,clock,?_,MapKept.stamped_erase he.st j,fun x hx=>?_,fun i v hi=>?_⟩
   · have hs:=MapKept.run_setObj_map (P:=P) (.map (es.eraseIdxIfInBounds j) clock) hb
     simp[Builtin.delete_,run_underlying ht,hg,dA hk,hf,hs,iB]
   · obtain⟨i,hi,hij,rfl⟩:=(hL x).1 hx
     obtain⟨q,hq,hgq⟩:=he.key es.toList[i] (List.getElem_mem _);refine⟨q,hq,?_⟩;unfold en;rw[if_neg,hgq]
     rintro rfl
     exact hne i hi hij hq
   · unfold en at hi
     split at hi
     · cases hi
     · rename_i hik
       obtain⟨x,hx,hxk,hxv⟩:=he.all i v hi;obtain⟨a,ha,rfl⟩:=List.getElem_of_mem hx;refine⟨_,(hL _).2 ⟨a,ha,?_,rfl⟩,hxk,hxv⟩
       rintro rfl
       simp only[Array.getElem_toList] at hxk;rw[hje,h3] at hxk;injection hxk with _ hxk;exact hik hxk.symm
end
section
variable {P:Program} {ops:Array Oper} {rest:List Oper} {o:Oper} {a:Act} {Q:Exit→Act→World→Prop} {X X':World} {N d:Nat} {l:List (Nat × Value)} {M:List Nat} {w:World} {L:List Ent}
theorem oD {m i:Nat} {f f':Int→Option Value} {es:Array MapEntry} {clock:Nat} (hS:St M w X L) (hi:L[i]? = some (cq m f)) (h:MapFn es clock f'):St M w (iB X m es clock) (L.set i (cq m f')):=by
 have hm:MapF X m f:=hS.at_ hi;have hlt:=hm.lt;refine hS.turn hi rfl rfl rfl (by show X.heap.size≤(X.heap.setIfInBounds m _).size;simp) (fun b hb hne=>?_) ⟨es,clock,?_,h⟩ (fun b hb=>⟨.inl hb,?_⟩)
 · show(X.heap.setIfInBounds m _)[b]? = _
   rw[Array.getElem?_setIfInBounds];rw[if_neg (fun q=>hne q.symm)]
 · show(X.heap.setIfInBounds m _)[m]? = _
   rw[Array.getElem?_setIfInBounds,if_pos rfl,if_pos hlt]
 · cases hb
   show m<(X.heap.setIfInBounds m _).size
   simpa using hlt
theorem k8 {t:TypeId} (ha:Has ds a N l) (hw:Region.wanted o (yielded ops a.tmps)=true) (ho:o.op=.makeMap t none) (hd:o.dst=some d) (hN:Nat.blt d N=true) (hS:St M w X L)
 (k:∀m a' X',w.heap.size≤m→Has ds a' N ((d,.map (some m))::l)→St M w X' (cq m (fun _=>none)::L)→wpList P ops Q rest a' X'):wpList P ops Q (o::rest) a X:=by
 have hr:(Instr.makeMap t none).run P X=.ok (.map (some X.heap.size)) (X.alloc (.map #[] 0)):=by
  simp[Instr.makeMap]
 refine aI (X':=X.alloc (.map #[] 0)) ha hw ?_ hd hN fun a' ha'=>k X.heap.size a' _ hS.size ha' (hS.add (dU (Below.refl _ _) _) (e:=cq X.heap.size (fun _=>none)) ?_ (fun b hb=>by cases hb;simp))
 · unfold execOp
   simp[ho,hr]
 · exact⟨#[],0,by show(X.heap.push (.map #[] 0))[X.heap.size]? = _;simp,MapKept.stamped_empty 0,fun e he=>by simp at he,fun k v h=>by cases h⟩
theorem gE {t kt e:TypeId} {x y z':Operand} {m i:Nat} {k:Int} {u:Value} {f:Int→Option Value} (hw:Region.wanted o (yielded ops a.tmps)=true) (ho:o.op=.mapUpdate t x y z'∧o.dst=none) (ht:P.underlying t=some (.map kt e)) (hk:P.underlying kt=some (.int .i64)) (hx:a.eval x=.map (some m)) (hy:a.eval y=.int .i64 k) (hz:a.eval z'=u)
 (hS:St M w X L) (hi:L[i]? = some (cq m f)) (K:∀X':World,St M w X' (L.set i (cq m (en f k (some u))))→wpList P ops Q rest a X'):wpList P ops Q (o::rest) a X:=by
 obtain⟨es,clock,hr,hf⟩:=th (P:=P) (k:=k) (u:=u) ht hk (hS.at_ hi);refine kb (X':=iB X m es clock) hw ?_ ho.2 (K _ (oD hS hi hf));unfold execOp;simp only[ho.1,hx,hy,hz,Sem.run_bind,hr,Result.andThen_ok,Sem.run_pure]
theorem wO {t t2 kt e:TypeId} {x y:Operand} {m i:Nat} {k:Int} {f:Int→Option Value} (hw:Region.wanted o (yielded ops a.tmps)=true) (ho:o.op=.call ⟨.builtin .delete,#[x,y],#[t,t2]⟩∧o.dst=none) (ht:P.underlying t=some (.map kt e)) (hk:P.underlying kt=some (.int .i64)) (hx:a.eval x=.map (some m)) (hy:a.eval y=.int .i64 k)
 (hS:St M w X L) (hi:L[i]? = some (cq m f)) (K:∀X':World,St M w X' (L.set i (cq m (en f k none)))→wpList P ops Q rest a X'):wpList P ops Q (o::rest) a X:=by
 obtain⟨es,clock,hr,hf⟩:=tT (P:=P) (ty:=o.type) (t2:=t2) (k:=k) ht hk (hS.at_ hi);refine fP hw fun K' hK'=>?_;unfold Oper.wp;simp[execOp,ho.1,resolve,invoke,builtin,hx,hy,hr,Result.andThen];exact hK' _ _ (by rw[ho.2];exact K _ (oD hS hi hf))
def ib (r m since:Nat) (seen:Array Nat) (c0:Nat):Ent:=.inv (fun b=>b=r) (fun X=>X.heap[r]? = some (.mapIter (some m) since seen c0)) (fun X X' h hb=>(hb r rfl).trans h)
structure Handed (es:Array MapEntry) (clock:Nat) (seen:Array Nat) (out:List MapEntry):Prop where
 sub:∀e∈out,e∈es.toList
 nd:(out.map (·.born)).Nodup
 see:seen.toList=out.map (·.born)
theorem Handed.nil (es:Array MapEntry) (clock:Nat):Handed es clock #[] []:=⟨fun _ h=>(by cases h),List.Pairwise.nil,rfl⟩
theorem Handed.left {es:Array MapEntry} {clock:Nat} {seen:Array Nat} {out:List MapEntry} (h:Handed es clock seen out) {e:MapEntry} (he:e∈(leftOf es seen).toList):e∈es.toList∧e.born∉out.map (·.born):=by
 unfold leftOf at he;simp only[Array.toList_filter,List.mem_filter] at he;refine⟨he.1,?_⟩;rw[←h.see]
 simpa using he.2
theorem Handed.push {es:Array MapEntry} {clock:Nat} {seen:Array Nat} {out:List MapEntry} (h:Handed es clock seen out) {e:MapEntry} (he:e∈(leftOf es seen).toList):Handed es clock (seen.push e.born) (out ++ [e]):=by
 obtain⟨h1,h2⟩:=h.left he;refine⟨fun x hx=>?_,?_,?_⟩
 · rcases List.mem_append.1 hx with hx | hx
   · exact h.sub x hx
   · rw[List.mem_singleton.1 hx];exact h1
 · rw[List.map_append,List.nodup_append]
   refine⟨h.nd,by simp,?_⟩
   rintro a ha b hb rfl
   simp at hb;subst hb;exact h2 ha
 · rw[Array.toList_push,List.map_append,h.see];rfl
theorem uv {α:Type}:∀(l m:List α),l.Nodup→(∀x∈l,x∈m)→l.length≤m.length:=fun l m hn hs=>by
 induction l generalizing m with
 | nil=>exact Nat.zero_le _
 | cons x l ih=>
  obtain⟨a,b,rfl⟩:=List.append_of_mem (hs x (List.mem_cons_self ..));have hx:=List.nodup_cons.1 hn
  have:=ih (a ++ b) hx.2 fun y hy=>by
   have h1:=hs y (List.mem_cons_of_mem _ hy);simp only[List.mem_append,List.mem_cons] at h1 ⊢;rcases h1 with h1 | rfl | h1
   · exact .inl h1
   · exact absurd hy hx.1
   · exact .inr h1
  simp only[List.length_append,List.length_cons] at this ⊢;omega
theorem Handed.len {es:Array MapEntry} {clock:Nat} {seen:Array Nat} {out:List MapEntry} (h:Handed es clock seen out):out.length≤es.size:=by
 have hnd:out.Nodup:=by
  have:=h.nd;rw[List.nodup_iff_pairwise_ne,List.pairwise_map] at this;rw[List.nodup_iff_pairwise_ne];exact this.imp fun hq e=>hq (by rw[e])
 have:=uv out es.toList hnd h.sub
 simpa using this
theorem Handed.done {es:Array MapEntry} {clock:Nat} {seen:Array Nat} {out:List MapEntry} (h:Handed es clock seen out) (hst:MapKept.Stamped es clock) (h0:(leftOf es seen).size=0):∀e∈es.toList,e∈out:=by
 intro e he
 have Y:e∉(leftOf es seen).toList:=by
  rw[show(leftOf es seen).toList=[] from List.eq_nil_of_length_eq_zero (by simpa using h0)];exact List.not_mem_nil
 unfold leftOf at Y;simp only[Array.toList_filter,List.mem_filter,not_and] at Y;have Y:=Y he
 have Y:e.born∈seen.toList:=by simpa using Y
 rw[h.see] at Y;obtain⟨x,hx,hxe⟩:=List.mem_map.1 Y;have hxs:=h.sub x hx;have hn:=hst.2.1;rw[List.nodup_iff_pairwise_ne,List.pairwise_map,List.pairwise_iff_getElem] at hn;obtain⟨i,hi,rfl⟩:=List.getElem_of_mem he;obtain⟨j,hj,rfl⟩:=List.getElem_of_mem hxs;rcases Nat.lt_trichotomy i j with hij | hij | hij
 · exact absurd hxe.symm (hn i j hi hj hij)
 · subst hij;exact hx
 · exact absurd hxe (hn j i hj hi hij)
def zY:Option MapEntry→Value
 | none=>.tuple #[.bool false]
 | some e=>.tuple #[.bool true,e.key,e.val]
theorem yv {ρ:Operand→Value} {d:Option Tmp} {ty:TypeId} {ps:String} {af:Array Edge} {g:Option (Nat × Bool)} {x:Operand} {p:Option MapEntry} (hx:ρ x=zY p):(execOp ρ ⟨d,.extract x 0,ty,ps,af,g⟩).run P X=.ok (.value (.bool p.isSome)) X:=by
 cases p with
 | none=>exact bD (vs:=#[.bool false]) hx rfl
 | some e=>exact bD (vs:=#[.bool true,e.key,e.val]) hx rfl
theorem oQ {t kt e:TypeId} {x:Operand} {m:Nat} {es:Array MapEntry} {clock:Nat} (ha:Has ds a N l) (hw:Region.wanted o (yielded ops a.tmps)=true) (ho:o.op=.range t x) (hd:o.dst=some d) (hN:Nat.blt d N=true) (ht:P.underlying t=some (.map kt e)) (hx:a.eval x=.map (some m)) (hS:St M w X L)
 (hm:X.heap[m]? = some (.map es clock)) (k:∀r a' X',w.heap.size≤r→Has ds a' N ((d,.pointer (some ⟨r,0,none⟩))::l)→St M w X' (ib r m clock #[] clock::L)→wpList P ops Q rest a' X'):wpList P ops Q (o::rest) a X:=by
 have hr:=run_range_map (P:=P) X t kt e m es clock ht hm;refine aI (X':=X.alloc (.mapIter (some m) clock #[] clock)) ha hw ?_ hd hN fun a' ha'=>k X.heap.size a' _ hS.size ha' (hS.add (dU (Below.refl _ _) _) (e:=ib X.heap.size m clock #[] clock) ?_ (fun b hb=>by cases hb;simp))
 · unfold execOp
   simp[ho,hx,hr]
 · show(X.heap.push _)[X.heap.size]? = _;simp
theorem qS {x:Operand} {r m since c0 i:Nat} {es:Array MapEntry} {clock:Nat} {seen:Array Nat} {out:List MapEntry} (ha:Has ds a N l) (hw:Region.wanted o (yielded ops a.tmps)=true) (ho:o.op=.next x false) (hd:o.dst=some d) (hN:Nat.blt d N=true) (hx:a.eval x=.pointer (some ⟨r,0,none⟩)) (hS:St M w X L)
 (hi:L[i]? = some (ib r m since seen c0)) (hm:X.heap[m]? = some (.map es clock)) (hst:MapKept.Stamped es clock) (hsc:clock=since∧since≤c0) (hh:Handed es clock seen out)
 (k:∀(p:Option MapEntry) a' X',Has ds a' N ((d,zY p)::l)→(p=none→∀e∈es.toList,e∈out)→(∀e,p=some e→e∈es.toList∧Handed es clock (seen.push e.born) (out ++ [e])) →
  St M w X' (L.set i (match p with | none=>ib r m since seen c0 | some e=>ib r m since (seen.push e.born) clock))→X'.heap[m]? = some (.map es clock)→wpList P ops Q rest a' X'):wpList P ops Q (o::rest) a X:=by
 have hr:X.heap[r]? = some (.mapIter (some m) since seen c0):=hS.at_ hi
 have hne:m≠r:=by rintro rfl;rw[hr] at hm;cases hm
 rcases run_next_at (P:=P) X o.type r m since c0 seen es clock hr hm (fun x hx'=>by rw[←hsc.1];exact hst.1 x hx') hsc.2 with ⟨h0,hrun⟩ | ⟨e,he,w1,hw1,hrun⟩
 · refine aI (X':=X) (v:=zY none) ha hw ?_ hd hN fun a' ha'=>k none a' X ha' (fun _=>hh.done hst h0) (fun e q=>by cases q) ?_ hm
   · unfold execOp
     simp[ho,hx,hrun];rfl
   · have:L.set i (ib r m since seen c0)=L:=qX hi
     rw[this];exact hS
 · obtain⟨hmem,hnew⟩:=hh.left he
   have hw1h:w1.heap=X.heap∧w1.os=X.os∧w1.tape=X.tape∧w1.output=X.output:=by
    rcases hw1 with rfl | rfl
    · exact⟨rfl,rfl,rfl,rfl⟩
    · exact⟨rfl,rfl,rfl,rfl⟩
   obtain⟨q1,q2,q3,q4⟩:=hw1h;have hrl:r<X.heap.size:=(Array.getElem?_eq_some_iff.1 hr).1;refine aI (X':=ChangeMaps.setBlock w1 r (.mapIter (some m) since (seen.push e.born) clock)) (v:=zY (some e)) ha hw ?_ hd hN fun a' ha'=>k (some e) a' _ ha' (fun q=>by cases q) (fun e' q=>by cases q;exact⟨hmem,hh.push he⟩) ?_ ?_
   · unfold execOp
     simp[ho,hx,hrun];rfl
   · refine hS.turn hi q2 q3 q4 (by show X.heap.size≤(w1.heap.setIfInBounds r _).size;rw[q1];simp) (fun b hb hneb=>?_) ?_ (fun b hb=>⟨.inl hb,?_⟩)
     · show(w1.heap.setIfInBounds r _)[b]? = _
       rw[q1,Array.getElem?_setIfInBounds,if_neg (fun q=>hneb q.symm)]
     · show(w1.heap.setIfInBounds r _)[r]? = _
       rw[q1,Array.getElem?_setIfInBounds,if_pos rfl,if_pos hrl]
     · cases hb
       show r<(w1.heap.setIfInBounds r _).size;rw[q1];simpa using hrl
   · show(w1.heap.setIfInBounds r _)[m]? = _
     rw[q1,Array.getElem?_setIfInBounds,if_neg (fun q=>hne q.symm)];exact hm
theorem oX {ρ:Operand→Value} {d:Option Tmp} {ty:TypeId} {ps:String} {af:Array Edge} {g:Option (Nat × Bool)} {x:Operand} {r m since:Nat} {seen:Array Nat} {es:Array MapEntry} {clock:Nat} {e:MapEntry} (hx:ρ x=.pointer (some ⟨r,0,none⟩))
 (hr:X.heap[r]? = some (.mapIter (some m) since (seen.push e.born) clock)) (hb:X.heap[m]? = some (.map es clock)) (he:e∈es.toList) (hst:MapKept.Stamped es clock):(execOp ρ ⟨d,.entry x,ty,ps,af,g⟩).run P X=.ok (.value (.tuple #[e.key,e.val])) X:=by
 have h:=run_entry_at (P:=P) X r m since seen es clock e hr hb he hst.2.1;simp[execOp,hx,h]
end
open Go.RowKit Go.Sort
variable {ds:List Deferred}
theorem kf {F:Prop} {P:Program} {Q:Exit→Act→World→Prop} {a:Act} {X:World} {N:Nat} {l:List (Nat × Value)} {c:Code} {M:List Nat} {w:World} {L:List Ent} (ha:Has ds a N l) (hS:St M w X L) (J:List (Nat × Value)) (ks:List Nat)
 (h1:c.wp P (Exit.then (fun a' X'=>Has ds a' N (J ++ ic l ks)∧St M w X' L∧F) Q) a X) (h2:∀a' X',Has ds a' N (J ++ ic l ks)→St M w X' L→F→Q .normal a' X'):c.wp P Q a X:=
 qo _ h1 fun a' X' h=>h2 a' X' h.1 h.2.1 h.2.2
theorem qQ {F:Prop} {P:Program} {Q:Exit→Act→World→Prop} {a:Act} {X:World} {N:Nat} {l:List (Nat × Value)} {c:Code} {M:List Nat} {w:World} {L:List Ent} (ha:Has ds a N l) (hS:St M w X L) (J:List (Nat × Value)) (ks:List Nat) (E:List Ent→List Ent)
 (h1:c.wp P (Exit.then (fun a' X'=>Has ds a' N (J ++ ic l ks)∧St M w X' (E L)∧F) Q) a X) (h2:∀a' X',Has ds a' N (J ++ ic l ks)→St M w X' (E L)→F→Q .normal a' X'):c.wp P Q a X:=
 qo _ h1 fun a' X' h=>h2 a' X' h.1 h.2.1 h.2.2
theorem pE {P:Program} {ops:Array Oper} {rest:List Oper} {o:Oper} {a:Act} {N:Nat} {l:List (Nat × Value)} {c:Bool} {C:World→Prop} {L:Act→Prop} {v:Value} (ha:Has ds a N l) (cs:Nat) (hcs:look l cs=some (.bool c)) (n p:Nat) (hf:c=false→cV P ops C (fun a'=>Has ds a' N ((p,v)::l)) ((o::rest).take n) a) (ht:c=true→cV P ops C (fun a'=>∃u,Has ds a' N ((p,u)::l)) ((o::rest).take n) a)
 (h:∀u a',(c=false→u=v)→Has ds a' N ((p,u)::l)→cV P ops C L ((o::rest).drop n) a'):cV P ops C L (o::rest) a:=by
 refine pN n (fun a'=>∃u,(c=false→u=v)∧Has ds a' N ((p,u)::l)) ?_ (fun a' h'=>(let ⟨u,h1,h2⟩:=h';h u a' h1 h2))
 cases c
 · refine gv ?_ _ _ (hf rfl)
   intro a' hu;exact⟨v,fun _=>rfl,hu⟩
 · refine gv ?_ _ _ (ht rfl)
   rintro a' ⟨u,hu⟩
   exact⟨u,fun e=>(by cases e),hu⟩
theorem jw {P:Program} {ρ:Operand→Value} {X:World} {d:Option Tmp} {ty:TypeId} {ps:String} {af:Array Edge} {g:Option (Nat × Bool)} {c x y:Operand} {b u:Bool} {v:Value} (hc:ρ c=.bool b) (hx:ρ x=.bool true) (hy:ρ y=v) (hv:b=false→v=.bool u):(execOp ρ ⟨d,.pick c x y,ty,ps,af,g⟩).run P X=.ok (.value (.bool (b||u))) X:=by
 cases b
 · rw[hv rfl] at hy;simp[execOp,hc,hy,asBool]
 · simp[execOp,hc,hx,asBool]
theorem St.swap {M:List Nat} {w X:World} {e f:Ent} {L:List Ent} (h:St M w X (e::f::L)):St M w X (f::e::L):=by
 have hm:∀g,g∈f::e::L→g∈e::f::L:=fun g hg=>by
  rcases List.mem_cons.1 hg with rfl | hg
  · exact List.mem_cons_of_mem _ (List.mem_cons_self)
  · rcases List.mem_cons.1 hg with rfl | hg
    · exact List.mem_cons_self
    · exact List.mem_cons_of_mem _ (List.mem_cons_of_mem _ hg)
 obtain⟨h1,h2⟩:=List.pairwise_cons.1 h.sep;obtain⟨h3,h4⟩:=List.pairwise_cons.1 h2;refine⟨h.os,h.tape,h.output,h.size,h.block,fun g hg=>h.ok g (hm g hg),fun g hg=>h.new g (hm g hg),List.pairwise_cons.2 ⟨fun g hg=>?_,List.pairwise_cons.2 ⟨fun g hg=>h1 g (List.mem_cons_of_mem _ hg),h4⟩⟩⟩;rcases List.mem_cons.1 hg with rfl | hg
 · exact fun b hb hb'=>h1 f (List.mem_cons_self) b hb' hb
 · exact h3 g hg
theorem St.fuse2 {M:List Nat} {w X:World} {e1 e2 e:Ent} {L:List Ent} (h:St M w X (e1::e2::L)) (hD:∀b,e.dom b→e1.dom b∨e2.dom b) (hok:e.ok X):St M w X (e::L):=by
 obtain⟨h1,h2⟩:=List.pairwise_cons.1 h.sep;obtain⟨h3,h4⟩:=List.pairwise_cons.1 h2;refine⟨h.os,h.tape,h.output,h.size,h.block,fun f hf=>?_,fun f hf b hb=>?_,List.pairwise_cons.2 ⟨fun f hf b hb hfb=>?_,h4⟩⟩
 · rcases List.mem_cons.1 hf with rfl | hf
   · exact hok
   · exact h.ok f (List.mem_cons_of_mem _ (List.mem_cons_of_mem _ hf))
 · rcases List.mem_cons.1 hf with rfl | hf
   · rcases hD b hb with h5 | h5
     · exact h.new e1 (List.mem_cons_self) b h5
     · exact h.new e2 (List.mem_cons_of_mem _ (List.mem_cons_self)) b h5
   · exact h.new f (List.mem_cons_of_mem _ (List.mem_cons_of_mem _ hf)) b hb
 · rcases hD b hb with h5 | h5
   · exact h1 f (List.mem_cons_of_mem _ hf) b h5 hfb
   · exact h3 f hf b h5 hfb
structure KeptL (M:List Nat) (w X:World):Prop where
 size:w.heap.size≤X.heap.size
 block:∀b,b<w.heap.size→b∉M→X.heap[b]? = w.heap[b]?
theorem St.keptL {M:List Nat} {w X:World} {L:List Ent} (h:St M w X L):KeptL M w X:=⟨h.size,h.block⟩
def kj (w:World) (M:List Nat):Prop:=∀b∈M,∃o:Obj,w.heap[b]? = some o∧∀cs T fr,o≠.cells cs T fr
theorem KeptL.box {M:List Nat} {w X:World} (h:KeptL M w X) (hm:kj w M) {b:Nat} {cs:Array Value} {T:TypeId} (hb:Box w b cs T):Box X b cs T:=by
 refine(h.block b hb.lt (fun e=>?_)).trans hb;obtain⟨o,h1,h2⟩:=hm b e;have hb':w.heap[b]? = some (.cells cs T (0,0)):=hb;rw[h1] at hb';exact h2 cs T (0,0) (by injection hb')
theorem KeptL.cell {M:List Nat} {w X:World} (h:KeptL M w X) (hm:kj w M) {a:Addr} {v:Value} (hc:w.cell? a=some v):X.cell? a=some v:=by
 have hlt:=block_lt_of_cell hc;refine(World.cell?_of_block (h.block _ hlt (fun e=>?_))).trans hc;obtain⟨o,h1,h2⟩:=hm _ e;unfold World.cell? at hc;rw[h1] at hc
 cases o<;>first | cases hc | exact h2 _ _ _ rfl
theorem KeptL.rd {M:List Nat} {w X:World} (h:KeptL M w X) (hm:kj w M) {A:Option Addr} {xs:List Value} (hr:Rd w w.heap.size A xs):Rd X X.heap.size A xs:=fun j u hj=>by
 obtain⟨b,o,h1,h2,h3⟩:=hr j u hj;exact⟨b,o,h1,Nat.lt_of_lt_of_le h2 h.size,h.cell hm h3⟩
theorem MapF.noCells {w:World} {m:Nat} {g:Int→Option Value} (h:MapF w m g):∃o:Obj,w.heap[m]? = some o∧∀cs T fr,o≠.cells cs T fr:=by
 obtain⟨es,ck,h1,_⟩:=h;exact⟨_,h1,fun cs T fr e=>by cases e⟩
theorem St.initM2 {w:World} {m1 m2:Nat} {f1 f2:Int→Option Value} (h1:MapF w m1 f1) (h2:MapF w m2 f2) (hne:m1≠m2):St [m1,m2] w w [cq m1 f1,cq m2 f2]:=
 ⟨rfl,rfl,rfl,Nat.le_refl _,fun _ _ _=>rfl,fun e he=>by
  rcases List.mem_cons.1 he with rfl | he
  · exact h1
  · rw[List.mem_singleton.1 he];exact h2,
  fun e he b hb=>by
   rcases List.mem_cons.1 he with rfl | he
   · have hb':b=m1:=hb
     exact⟨.inr (by rw[hb'];simp),by rw[hb'];exact h1.lt⟩
   · rw[List.mem_singleton.1 he] at hb
     have hb':b=m2:=hb
     exact⟨.inr (by rw[hb'];simp),by rw[hb'];exact h2.lt⟩,
  List.pairwise_cons.2 ⟨fun f hf b hb hfb=>by
   rw[List.mem_singleton.1 hf] at hfb;have hb':b=m1:=hb;have hb'':b=m2:=hfb
   exact hne (hb'.symm.trans hb''),List.pairwise_singleton _ _⟩⟩
theorem lY {P:Program} {ρ:Operand→Value} {X:World} {d:Option Tmp} {ty:TypeId} {ps:String} {af:Array Edge} {g:Option (Nat × Bool)} {x y:Operand} {t t' e:TypeId} {p:Option Addr} (ht:P.underlying t=some (.pointer e)) (hgd:P.eqGuardType P.depth t=false) (hx:ρ x=.pointer p) (hy:ρ y=.pointer none) :
 (execOp ρ ⟨d,.binOp .eql t x y t',ty,ps,af,g⟩).run P X=.ok (.value (.bool p.isNone)) X:=by
 have hp:P.pointee t=e:=by unfold Program.pointee;rw[ht]
 have h:=run_eql_pointer_nil (P:=P) X t p (by rw[hp];exact ht);simp[execOp,hx,hy,eqGuard,hgd,h]
theorem vd {P:Program} {ρ:Operand→Value} {X:World} {d:Option Tmp} {ty:TypeId} {ps:String} {af:Array Edge} {g:Option (Nat × Bool)} {x y:Operand} {t e:TypeId} {n b o i sz j:Nat} {m:Int} (ht:P.underlying t=some (.array n e)) (hs:(P.info? e).map (·.size)=some sz) (hx:ρ x=.pointer (some ⟨b,o,none⟩)) (hy:ρ y=.int .i64 m) (hm:m=(i:Int)) (hi:i<n) (hj:o+i*sz=j) :
 (execOp ρ ⟨d,.indexAddr t x y,ty,ps,af,g⟩).run P X=.ok (.value (.pointer (some ⟨b,j,none⟩))) X:=by
 subst hm hj
 cases hq:P.info? e with
 | none=>rw[hq] at hs;cases hs
 | some q=>
  rw[hq] at hs
  have hz:q.size=sz:=by simpa using hs
  have h1:(0:Int)≤i∧(i:Int)<n:=by omega
  simp[execOp,hx,hy,Instr.indexAt,Instr.sureAddr,asIntOf,run_underlying ht,hi,sizeOf,typeInfo,hq,hz,dp]
open Go.RowKit Go.Sort
section
variable {P:Program} {ops:Array Oper} {w:World}
end
def gz (ops:Array Oper):Bool:=ops.all fun o=>match o.op with | .defer _=>false | _=>true
theorem ud {ops:Array Oper} (h:gz ops=true) {i:Nat} {o:Oper} (ho:ops[i]? = some o):∀c,o.op≠.defer c:=by
 intro c hc;obtain⟨hi,he⟩:=Array.getElem?_eq_some_iff.1 ho;have:=Array.all_eq_true.1 h i hi;rw[he,hc] at this
 cases this
section
variable {P:Program} {ops:Array Oper} {Q:Exit→Act→World→Prop} {lr n:Nat}
theorem wQ (hd:gz ops=true) (hQ:¬LetsOut Q) {i:Nat} {K K':Act→World→Prop} {a:Act} {w:World} (hK:∀a w,K a w→K' a w) (h:wpOp P ops Q i K a w):wpOpIn (Fence.wide.inRound lr) n P ops Q i K' a w:=by
 unfold wpOp at h;unfold wpOpIn
 cases ho:ops[i]? with
 | none=>rw[ho] at h;exact hK _ _ h
 | some o=>
  rw[ho] at h;simp only at h ⊢
  split
  · rename_i hw
    rw[if_pos hw] at h;have h:=h.resolve_right (fun h=>hQ h.2);unfold Oper.wp at h;unfold Oper.wpIn;refine⟨fun _ _=>trivial,?_⟩;rw[show(Fence.wide.inRound lr).round=some lr from rfl,Oper.semAt_some lr _ _ (ud hd ho)];generalize (execOp a.eval o).run P w=r at *
    cases r with
    | ok x w'=>
     cases x<;>simp only[Oper.upon,Oper.uponIn] at h ⊢
     case value v=>exact hK _ _ h
     case skip=>exact hK _ _ h
     case defer d=>exact hK _ _ h
     case enter f args=>exact⟨fun e=>(by cases e),CallsIn.inRound lr (callsIn_wide.2 (h.mono fun e w'' he=>by cases e<;>first | exact hK _ _ he | exact he))⟩
     case row row args=>exact⟨fun e=>(by cases e),fun c cs _=>let ⟨v,w'',hr,hs⟩:=h c cs;⟨v,w'',hK _ _ hr,stepsIn_wide.2 hs⟩⟩
    | halt x w'=>cases x<;>simp only[Oper.upon,Oper.uponIn] at h ⊢<;>exact h
  · rename_i hw
    rw[if_neg hw] at h;exact⟨fun _ _=>trivial,hK _ _ h⟩
theorem mG (hd:gz ops=true) (hQ:¬LetsOut Q) {md:Region.Mode}:∀(fuel:Nat) (listed:Array Bool) (a:Act) (w:World),wpAny P md ops Q fuel listed a w→wpAnyIn (Fence.wide.inRound lr) n P md ops Q fuel listed a w
 | 0,_,_,_,h=>h
 | fuel+1,listed,a,w,⟨h1,h2⟩=>⟨h1,fun i hi=>wQ hd hQ (fun a w h=>mG hd hQ fuel _ a w h) (h2 i hi)⟩
theorem j7 {id:Nat} {a:Act} {w:World} {l:List Oper} (sts:List (Nat × (Nat→Option Obj→Prop))) (fl:List Bool) (nds:List NdB) (hm:P.follows .mixedOrders=true)
 (hB:jj l.toArray fl fl.length a.tmps.size (nds.map fun d=>(d.k,d.deps))=true) (hds:ph (pick fl l) a.tmps.size=true)
 (h:∃afin:Act,(∀X,Grw (lV sts) w X→wpQuiet P l.toArray (fun w'=>∃p:Regrown,w'=grow (redrawn X p.d) p.os) (fun a'=>a'=afin) (pick fl l) a)∧rW P l.toArray sts w Q (l.drop fl.length) nds afin []) :
 (Code.region id l.toArray true).wpIn Fence.wide n P Q a w:=
 wpIn_wide.2 (lU sts fl nds hm hB hds h)
theorem me {w:World} {tail:List Oper}:∀(nds:List Nd) (g:Act) (Φ:List (Nat × (World→Prop))),nv P ops w Q tail nds g Φ→rW P ops [] w Q tail (nds.map fun d=>d.lift.lift) g Φ
 | [],g,Φ,h=>fun X hX hΦ=>h X (hX.weaken (O':=fun _ _=>False) (fun x o ⟨p,hp,_⟩=>by cases hp)).below hΦ
 | d::rest,g,Φ,⟨h1,h2,h3⟩=>by
  refine⟨⟨h1,fun p hp=>(by cases hp),fun _ v X _ h=>h⟩,fun o ho X hX hΦ=>?_,fun v=>me rest _ _ (h3 v)⟩;have h:=h2 o ho X (hX.weaken (O':=fun _ _=>False) (fun x o ⟨p,hp,_⟩=>by cases hp)).below hΦ
  change cn P d.R X ((execOp g.eval o).run P X) at h
  change gW P [] d.k d.R X ((execOp g.eval o).run P X)
  generalize (execOp g.eval o).run P X=r at *
  cases r with
  | ok nx w'=>
   cases nx<;>simp only[cn] at h<;>simp only[gW]
   case value u=>exact⟨.inl h.1,h.2⟩
   case enter f args=>exact⟨h.1,h.2.mono fun e X'' ⟨v,h1,h2,h3⟩=>⟨v,h1,.inl h2,h3⟩⟩
  | halt x w'=>simp only[cn] at h
theorem kr {id:Nat} {a:Act} {w:World} {l:List Oper} (fl:List Bool) (nds:List Nd) (hm:P.follows .mixedOrders=true)
 (hB:jj l.toArray fl fl.length a.tmps.size (nds.map fun d=>(d.k,d.deps))=true) (hds:ph (pick fl l) a.tmps.size=true)
 (h:∃afin:Act,(∀X,Below w.heap.size w X→wpQuiet P l.toArray (fun w'=>∃p:Regrown,w'=grow (redrawn X p.d) p.os) (fun a'=>a'=afin) (pick fl l) a)∧nv P l.toArray w Q (l.drop fl.length) nds afin []) :
 (Code.region id l.toArray true).wpIn Fence.wide n P Q a w:=by
 obtain⟨afin,hq,hnd⟩:=h;exact j7 [] fl (nds.map fun d=>d.lift.lift) hm (by rw[List.map_map];exact hB) hds ⟨afin,fun X hX=>hq X (hX.weaken (O':=fun _ _=>False) (fun x o ⟨p,hp,_⟩=>by cases hp)).below,me nds afin _ hnd⟩
end
open Go.RowKit Go.Shelf
theorem zD (k:FuncId):Fence.wide.fn k=True:=rfl
theorem sQ:Fence.wide.depth=none:=rfl
open Go.RowKit Go.Shelf
def sN {α:Type} (n:Nat) (P:Program) (g:Nat) (lb:Array Value) (encs:α→Array Value) (K:World→Prop) (xs:List α):Prop:=
 ∀(l:Nat) (J:List α→World→Prop) (W:World),(∀s A,J s A→K A)→(∀s A B,J s A→Below A.heap.size A B→J s B) →
  (∀pre x rest W1,xs=pre ++ x::rest→J pre W1→YieldAt Fence.wide (n-1) P l (encs x) W1 fun e W'=>e=.returned (.bool true)∧J (pre ++ [x]) W') →
  J [] W →
  CallsIn Fence.wide n P g (#[.func (.yield l) #[] #[]] ++ lb) W fun e W'=>(∃v,e=.returned v)∧J xs W'
theorem jn {α:Type} {n:Nat} {P:Program} {w:World} {g:Operand} {ps:Array Tmp} {assign body:Code} {Q:Exit→Act→World→Prop} {a:Act}
 {gf:Nat} {lb:Array Value} (hg:a.eval g=.func (.func gf) #[] lb) (eg:∀args w,(callFunc gf args).run P w=.ok (.enter gf args) w)
 {encs:α→Array Value} {K:World→Prop} {xs:List α} (hseq:sN (n-1) P gf lb encs K xs)
 (hps:∀x,(encs x).size=ps.size)
 (I:List α→World→Prop) (hI:OwnFrom w.heap.size I) (hIK:∀s A,I s A→K A) (h0:I [] w)
 (hround:∀(l:Nat) (pre:List α) (x:α) (rest:List α) (W:World),xs=pre ++ x::rest →
  assign.wpIn (Fence.wide.inRound l) (n-1-1) P (Exit.then (fun a' W'=>W=W'∧∀W2,I pre W2 →
   body.wpIn (Fence.wide.inRound l) (n-1-1) P (fun e _ W'=>e=.normal∧KeepsFrom w.heap.size W2 W'∧I (pre ++ [x]) W') a' W2) (fun _ _ _=>False))
   { tmps:=(ps.zip (encs x)).foldl (fun t (p,v)=>t.setIfInBounds p v) a.tmps,defers:=[] } W)
 (hdone:∀(D:Nat) (W:World),w.heap.size≤D→I xs W→W.heap[D]? = some (.deferred (some []))→Q .normal { a with defers:={ target:=.collected D,args:=#[] }::a.defers } W) :
 (Code.rangeFunc g ps assign body).wpIn Fence.wide n P Q a w:=by
 refine wpIn_rangeFunc ?_;intro fn hfn;obtain⟨rec,hrec⟩:∃rec:LoopState→Option Code→Loop,rec=fun s pe=>{ state:=s,pending:=pe,fn,tmps:=a.tmps,params:=ps,assign,body,defers:=w.heap.size }:=⟨_,rfl⟩;obtain⟨W1,hW1⟩:∃W1,(w.alloc (.deferred (some []))).alloc (.loop (rec .ready none))=W1:=⟨_,rfl⟩
 have hL1:W1.heap[w.heap.size+1]? = some (.loop (rec .ready none)):=by
  rw[←hW1];have:=World.alloc_heap_new (w.alloc (.deferred (some []))) (.loop (rec .ready none));rwa [World.size_alloc] at this
 have hK1:W1.heap[w.heap.size]? = some (.deferred (some [])):=by
  rw[←hW1];exact(Below.heap_alloc _ _ _ a7).trans (World.alloc_heap_new w _)
 have hI1:I [] W1:=by rw[←hW1];exact hI.alloc _ (hI.alloc _ h0)
 refine⟨w.heap.size+1,[{ target:=.collected w.heap.size,args:=#[] }],W1,{ target:=.fn (.func gf) lb,args:=#[.func (.yield (w.heap.size+1)) #[] #[]] },W1,gf,
  #[.func (.yield (w.heap.size+1)) #[] #[]] ++ lb,W1,?_,?_,fun _ _=>trivial,?_,fun e=>(by cases e),?_⟩
 · rw[←hW1,hrec];exact run_enterLoop_outer _ _ _ _ _
 · simp only[resolve,hg]
   simp[go_sem]
 · simp[invoke,go_sem,eg]
 · refine(hseq (w.heap.size+1)
    (fun pre W=>I pre W∧W.heap[w.heap.size+1]? = some (.loop (rec .ready none))∧W.heap[w.heap.size]? = some (.deferred (some [])))
    W1 (fun s A hs=>hIK s A hs.1)
    (fun s A B hs hb=>⟨hI s A B none hs.1 ⟨hb.os,hb.tape,hb.output,hb.size,fun k hk _=>hb.block k hk⟩ (fun r e=>(by cases e)),(hb.block _ (Array.getElem?_eq_some_iff.1 hs.2.1).1).trans hs.2.1,(hb.block _ (Array.getElem?_eq_some_iff.1 hs.2.2).1).trans hs.2.2⟩)
    ?_ ⟨hI1,hL1,hK1⟩).mono ?_
   · rintro pre x rest W hx ⟨hi,hl,hk⟩
     have hlt:w.heap.size+1<W.heap.size:=(Array.getElem?_eq_some_iff.1 hl).1;have hy:=run_yield (P:=P) (args:=encs x) hl (by rw[hrec];exact hps x);rw[hrec] at hy;refine⟨fn,_,assign,body,hy,roundIn_of_wpIn hfn (wpIn_mono (hround (w.heap.size+1) pre x rest W hx) ?_)⟩;clear hy;intro e0 _ W' he0
     cases e0<;>try exact he0.elim
     obtain⟨rfl,hbody⟩:=he0;refine⟨_,run_beginRound hl (by rw[hrec]),?_⟩;obtain⟨W2,hW2⟩:∃W2,W2=W.putObj (w.heap.size+1) (.loop { rec .ready none with state:=.busy }):=⟨_,rfl⟩
     have hl2:W2.heap[w.heap.size+1]? = some (.loop { rec .ready none with state:=.busy }):=by rw[hW2];exact World.putObj_heap_same hlt
     have hk2:W2.heap[w.heap.size]? = some (.deferred (some [])):=by rw[hW2];exact(World.putObj_heap_other ab).trans hk
     have hi2:I pre W2:=by rw[hW2];exact hI.putObj _ hi ab hl rfl
     rw[←hW2];refine wpIn_mono (hbody W2 hi2) ?_
     rintro e a3 W3 ⟨rfl,hk3,hi3⟩
     have hl3:=hk3.same _ _ ab hl2 rfl;have hr:=run_endRound (P:=P) none hl3;refine⟨_,_,hr,rfl,?_,?_,?_⟩
     · exact hI.putObj _ hi3 ab hl3 rfl
     · rw[World.putObj_heap_same (Array.getElem?_eq_some_iff.1 hl3).1,hrec];rfl
     · exact(World.putObj_heap_other ab).trans (hk3.same _ _ (Nat.le_refl _) hk2 rfl)
   · rintro e W2 ⟨⟨v,rfl⟩,hi,hl,hk⟩
     exact⟨none,_,by have:=run_endLoop (P:=P) hl (by rw[hrec];simp);rw[hrec] at this;exact this,hdone _ _ (Nat.le_refl _) (hI.putObj _ hi ab hl rfl) ((World.putObj_heap_other ab).trans hk)⟩
open Go.RowKit Go.Sort Go.Shelf
variable {ds:List Deferred}
def A0 (X:World) (b:Nat):Prop:=∃o:Obj,X.heap[b]? = some o∧o.isCells=true
def Ent.tame (B:Nat):Ent→Prop
 | .box .. | .byt .. | .row ..=>True
 | e=>∀b,e.dom b→b<B
theorem Ent.tame_cells {B:Nat} {X:World} {e:Ent} (h:e.tame B) (hok:e.ok X) {b:Nat} (hb:e.dom b):b<B∨A0 X b:=by
 cases e with
 | box c cs T=>obtain rfl:b=c:=hb;exact .inr ⟨_,hok,rfl⟩
 | byt c l=>obtain rfl:b=c:=hb;obtain⟨cs,T,fr,h1,_⟩:=hok;exact .inr ⟨_,h1,rfl⟩
 | row v n T sz xs=>
  obtain⟨h1,h2⟩:=hok;have hb':v.ownBlock=some b:=hb;rcases h2 with ⟨rfl,_⟩ | ⟨g,cap,cur,rfl,_,h3,_⟩
  · cases hb'
  · obtain rfl:g=b:=by injection hb'
    exact .inr ⟨_,h3,rfl⟩
 | rd lo hi A xs=>exact .inl (h b hb)
 | inv D φ st=>exact .inl (h b hb)
def zu (L:List Ent):List Ent→Prop
 | []=>True
 | e::l=>(match e with | .box .. | .byt .. | .row ..=>True | e=>e∈L)∧zu L l
theorem oJ {L:List Ent} {B:Nat} (hB:∀e∈L,∀b,e.dom b→b<B):∀{l:List Ent},zu L l→∀e∈l,e.tame B
 | [],_,e,h=>by cases h
 | f::l,⟨h1,h2⟩,e,h=>by
  rcases List.mem_cons.1 h with rfl | h
  · cases e with
    | box c cs T=>trivial
    | byt c l=>trivial
    | row v n T sz xs=>trivial
    | rd lo hi A xs=>exact fun b hb=>hB _ h1 b hb
    | inv D φ st=>exact fun b hb=>hB _ h1 b hb
  · exact oJ hB h2 e h
section
variable {M:List Nat} {w X X':World} {L:List Ent}
theorem St.records {B:Nat} (h:St M w X L) (ht:∀e∈L,e.tame B) (hB:w.heap.size≤B) {row:Option Nat} (hg:X.grownBy X' row) (hr:∀r,row=some r→B≤r∧∃o:Obj,X.heap[r]? = some o∧o.isCells=false):St M w X' L:=by
 have hne:∀e∈L,∀b,e.dom b→some b≠row:=fun e he b hb hrow=>by
  obtain⟨h1,o,h2,h3⟩:=hr b hrow.symm;rcases Ent.tame_cells (ht e he) (h.ok e he) hb with h4 | ⟨o',h4,h5⟩
  · omega
  · rw[h2] at h4;injection h4 with h4;rw[h4,h5] at h3;cases h3
 refine⟨hg.os.trans h.os,hg.tape.trans h.tape,hg.output.trans h.output,Nat.le_trans h.size hg.size,fun b hb hM=>?_,fun e he=>Ent.ok_of (h.ok e he) (fun b hb=>hg.block b (h.new e he b hb).2 (hne e he b hb)),
  fun e he b hb=>⟨(h.new e he b hb).1,Nat.lt_of_lt_of_le (h.new e he b hb).2 hg.size⟩,h.sep⟩
 refine(hg.block b (Nat.lt_of_lt_of_le hb h.size) (fun hrow=>?_)).trans (h.block b hb hM);have:=(hr b hrow.symm).1;omega
open Classical in
noncomputable def fq (X:World) (L:List Ent):List Nat:=(List.range X.heap.size).filter fun b=>decide (∃e∈L,e.dom b)
theorem mem_domsL {b:Nat}:b∈fq X L↔b<X.heap.size∧∃e∈L,e.dom b:=by
 unfold fq;rw[List.mem_filter,List.mem_range];simp
theorem St.inner (h:St M w X L):St (fq X L) X X L:=
 ⟨rfl,rfl,rfl,Nat.le_refl _,fun _ _ _=>rfl,h.ok,fun e he b hb=>⟨.inr (mem_domsL.2 ⟨(h.new e he b hb).2,e,he,hb⟩),(h.new e he b hb).2⟩,h.sep⟩
theorem St.outer {L':List Ent} (h:St M w X L) (h':St (fq X L) X X' L'):St M w X' L':=by
 refine⟨h'.os.trans h.os,h'.tape.trans h.tape,h'.output.trans h.output,Nat.le_trans h.size h'.size,fun b hb hM=>?_,h'.ok,fun e he b hb=>⟨?_,(h'.new e he b hb).2⟩,h'.sep⟩
 · refine(h'.block b (Nat.lt_of_lt_of_le hb h.size) (fun hm=>?_)).trans (h.block b hb hM)
   obtain⟨_,e,he,hd⟩:=mem_domsL.1 hm;rcases (h.new e he b hd).1 with h1 | h1
   · omega
   · exact hM h1
 · rcases (h'.new e he b hb).1 with h1 | h1
   · exact .inl (Nat.le_trans h.size h1)
   · obtain⟨_,f,hf,hd⟩:=mem_domsL.1 h1
     exact(h.new f hf b hd).1
theorem St.keepsFrom {B:Nat} {L':List Ent} (h:St M w X L) (ht:∀e∈L,e.tame B) (h':St (fq X L) X X' L'):KeepsFrom B X X':=
 ⟨h'.size,fun k o hk ho hc=>by
  have hlt:k<X.heap.size:=(Array.getElem?_eq_some_iff.1 ho).1;refine(h'.block k hlt (fun hm=>?_)).trans ho;obtain⟨_,e,he,hd⟩:=mem_domsL.1 hm;rcases Ent.tame_cells (ht e he) (h.ok e he) hd with h4 | ⟨o',h4,h5⟩
  · omega
  · rw[ho] at h4;injection h4 with h4;rw[h4,h5] at hc;cases hc⟩
def lD (D:Nat):Ent:=.inv (fun b=>b=D) (fun X=>X.heap[D]? = some (.deferred (some []))) (fun X X' h hb=>(hb D rfl).trans h)
def CO:Ent:=.inv (fun _=>False) (fun _=>True) (fun _ _ h _=>h)
def mk (D:Nat):Deferred:={ target:=.collected D,args:=#[] }
theorem St.mark {B D:Nat} (h:St M w X L) (ht:∀e∈L,e.tame B) (hw:w.heap.size≤B) (hD:B≤D) (hm:X.heap[D]? = some (.deferred (some []))):St M w X (lD D::L):=by
 have hlt:D<X.heap.size:=(Array.getElem?_eq_some_iff.1 hm).1;refine⟨h.os,h.tape,h.output,h.size,h.block,fun e he=>?_,fun e he b hb=>?_,List.pairwise_cons.2 ⟨fun f hf b hb hfb=>?_,h.sep⟩⟩
 · rcases List.mem_cons.1 he with rfl | he
   · exact hm
   · exact h.ok e he
 · rcases List.mem_cons.1 he with rfl | he
   · obtain rfl:b=D:=hb;exact⟨.inl ab,hlt⟩
   · exact h.new e he b hb
 · obtain rfl:b=D:=hb
   rcases Ent.tame_cells (ht f hf) (h.ok f hf) hfb with h4 | ⟨o',h4,h5⟩
   · omega
   · rw[hm] at h4;injection h4 with h4;rw[←h4] at h5;cases h5
theorem St.taken {i D:Nat} (h:St M w X L) (hi:L[i]? = some (lD D)):St M w (X.putObj D (.deferred none)) (L.set i CO):=
 h.turn hi rfl rfl rfl (by rw[World.putObj_size];exact Nat.le_refl _) (fun b hb hne=>World.putObj_heap_other hne) trivial (fun b hb=>hb.elim)
end
theorem St.append {M:List Nat} {w X X':World} {L L':List Ent} (h:St M w X L) (h':St [] X X' L'):St M w X' (L' ++ L):=by
 have hg:=h.grow h'.below;refine⟨hg.os,hg.tape,hg.output,hg.size,hg.block,fun e he=>?_,fun e he b hb=>?_,List.pairwise_append.2 ⟨h'.sep,h.sep,fun e he f hf b hb hfb=>?_⟩⟩
 · rcases List.mem_append.1 he with he | he
   · exact h'.ok e he
   · exact hg.ok e he
 · rcases List.mem_append.1 he with he | he
   · rcases (h'.new e he b hb).1 with h1 | h1
     · exact⟨.inl (Nat.le_trans h.size h1),(h'.new e he b hb).2⟩
     · cases h1
   · exact hg.new e he b hb
 · have h1:=(h.new f hf b hfb).2
   rcases (h'.new e he b hb).1 with h2 | h2
   · omega
   · cases h2
theorem cO {κ:Type} {P:Program} {ops:Array Oper} {Q:Exit→Act→World→Prop} {rest:List Oper} {o:Oper} {a:Act} {X w:World} {N d:Nat} {l:List (Nat × Value)} {M:List Nat} {L:List Ent} {f:FuncId} {args:Array Value} {V:κ→Value} {E1:κ→List Ent}
 (ha:Has ds a N l) (hw:Region.wanted o (yielded ops a.tmps)=true) (hx:(execOp a.eval o).run P X=.ok (.enter f args) X) (hd:o.dst=some d) (hN:Nat.blt d N=true) (hS:St M w X L)
 (hc:Calls P f args X fun e X'=>∃i,e=.returned (V i)∧St [] X X' (E1 i)) (k:∀i a' X',Has ds a' N ((d,V i)::l)→St M w X' (E1 i ++ L)→wpList P ops Q rest a' X'):wpList P ops Q (o::rest) a X:=
 jP ha hw hx hd hN hc fun e X' ⟨i,he,hX⟩=>⟨V i,he,fun a' h'=>k i a' X' h' (hS.append hX)⟩
section
variable {P:Program} {Q:Exit→Act→World→Prop} {a:Act} {X:World} {N n:Nat} {l:List (Nat × Value)} {fn:Func} {R:Ending→World→Prop}
theorem vB {f:FuncId} {fn:Func} {c:Code} {vs:List Value} {R:Ending→World→Prop} (hf:P.funcs[f]? = some fn) (hb:fn.body=some c) (hn:fn.ntmps=N) (hN:Nat.ble vs.length N=true)
 (h:∀a,Has [] a N (vh 0 vs)→c.wp P (bodyPostM Fence.wide 6 P fn R) a X):Calls P f vs.toArray X R:=by
 refine(callsIn_wide (n:=6)).1 (callsIn_of_wp_marks hf hb trivial (wpIn_wide.2 ?_) rfl);rw[hn];exact h _ (qs hN)
theorem tz (ha:Has ds a N l) (h:LeavesInM Fence.wide n P fn a.tmps R ds .returning X):bodyPostM Fence.wide n P fn R .ret a X:=by
 show LeavesInM Fence.wide n P fn a.tmps R a.defers .returning X;rw[ha.defers];exact h
theorem l5 {M:List Nat} {w:World} {L:List Ent} {i D:Nat} {t:Array Value} (hS:St M w X L) (hi:L[i]? = some (lD D)) (k:∀X',St M w X' (L.set i CO)→LeavesInM Fence.wide n P fn t R ds .returning X') :
 LeavesInM Fence.wide n P fn t R (mk D::ds) .returning X:=
 ⟨by simp,.inl ⟨D,_,rfl,run_takeDeferred (hS.at_ hi),k _ (hS.taken hi)⟩⟩
theorem s6 (ha:Has ds a N l) (h:∀a',Has [] a' N l→bodyPost P fn R .ret a' X):LeavesInM Fence.wide n P fn a.tmps R [] .returning X:=by
 obtain⟨_,v,h1,h2⟩:=h { a with defers:=[] } ⟨rfl,ha.size,ha.slot⟩;exact⟨v,h1,h2⟩
end
theorem fS {Q:Exit→Act→World→Prop} {K:Act→World→Prop} (h:¬LetsOut Q):¬LetsOut (Exit.then K Q):=h
theorem fg {Q:Exit→Act→World→Prop} {id:Nat} (h:¬LetsOut Q):¬LetsOut (Exit.inBlock id Q):=h
theorem oS:¬LetsOut (fun _ _ _=>False):=fun ⟨_,_,h⟩=>h
theorem gS {R:Act→World→Prop}:¬LetsOut (fun e a X=>e=.normal∧R a X):=fun ⟨_,_,h⟩=>by cases h.1
section
variable {P:Program} {ops:Array Oper} {Q:Exit→Act→World→Prop} {lr n:Nat} {a:Act} {X:World}
theorem lC (hQ:¬LetsOut Q):∀(l:List Oper),(∀o∈l,∀c,o.op≠.defer c)→∀(a:Act) (w:World),wpList P ops Q l a w→wpListIn (Fence.wide.inRound lr) n P ops Q l a w
 | [],_,_,_,h=>h
 | o::l,hd,a,w,h=>by
  have ih:=lC hQ l (fun o ho=>hd o (List.mem_cons_of_mem _ ho));unfold wpList at h;unfold wpListIn
  split
  · rename_i hw
    rw[if_pos hw] at h;have h:=h.resolve_right (fun h=>hQ h.2);unfold Oper.wp at h;unfold Oper.wpIn;refine⟨fun _ _=>trivial,?_⟩;rw[show(Fence.wide.inRound lr).round=some lr from rfl,Oper.semAt_some lr _ _ (hd o (List.mem_cons_self))];generalize (execOp a.eval o).run P w=r at *
    cases r with
    | ok x w'=>
     cases x<;>simp only[Oper.upon,Oper.uponIn] at h ⊢
     case value v=>exact ih _ _ h
     case skip=>exact ih _ _ h
     case defer d=>exact ih _ _ h
     case enter f args=>exact⟨fun e=>(by cases e),CallsIn.inRound lr (callsIn_wide.2 (h.mono fun e w'' he=>by cases e<;>first | exact ih _ _ he | exact he))⟩
     case row row args=>exact⟨fun e=>(by cases e),fun c cs _=>let ⟨v,w'',hr,hs⟩:=h c cs;⟨v,w'',ih _ _ hr,stepsIn_wide.2 hs⟩⟩
    | halt x w'=>cases x<;>simp only[Oper.upon,Oper.uponIn] at h ⊢<;>exact h
  · rename_i hw
    rw[if_neg hw] at h;exact⟨fun _ _=>trivial,ih _ _ h⟩
theorem yX {l:List Oper} (h:gz l.toArray=true):∀o∈l,∀c,o.op≠.defer c:=fun o ho=>by
 obtain⟨i,hi,rfl⟩:=List.getElem_of_mem ho;exact ud h (i:=i) (by simp[hi])
theorem qd {id:Nat} {l:List Oper} (hd:gz l.toArray=true) (hQ:¬LetsOut Q) (h:wpList P l.toArray Q l a X):(Code.region id l.toArray false).wpIn (Fence.wide.inRound lr) n P Q a X:=
 wpIn_region_lit (lC hQ l (yX hd) _ _ h)
theorem uT {id:Nat} {l:List Oper} (hm:P.follows .mixedOrders=true) (hd:gz l.toArray=true) (hQ:¬LetsOut Q) (h:nk P l Q a X):(Code.region id l.toArray true).wpIn (Fence.wide.inRound lr) n P Q a X:=
 wpIn_region_any hm (mG hd hQ _ _ _ _ h)
end
theorem om {α ι:Type} {P:Program} {M:List Nat} {w X:World} {L:List Ent} {N p:Nat} {l:List (Nat × Value)} {a:Act} {Q:Exit→Act→World→Prop} {g:Operand} {assign body:Code} (ha:Has ds a N l) (hS:St M w X L)
 (gf:Nat) (lb:Array Value) (hg:zS l g=some (.func (.func gf) #[] lb)) (eg:∀args w,(callFunc gf args).run P w=.ok (.enter gf args) w) (enc:α→Value) {K:World→Prop} (xs:List α) (hseq:sN 5 P gf lb (fun x=>#[enc x]) K xs)
 (F:List α→ι→Prop) (E:ι→List Ent) (hp:Nat.blt p N=true) (hT:∀i,zu L (E i)) (hK:∀i A,St M w A (E i)→K A) (i0:ι) (h0:F [] i0) (hE:St M w X (E i0))
 (hround:∀(lr:Nat) (pre:List α) (x:α) (rest:List α) (W:World) (a0:Act),xs=pre ++ x::rest→Has [] a0 N ((p,enc x)::l) →
  assign.wpIn (Fence.wide.inRound lr) 4 P (Exit.then (fun a' W'=>W=W'∧∀i W2,F pre i→St (fq W2 (E i)) W2 W2 (E i) →
   body.wpIn (Fence.wide.inRound lr) 4 P (fun e a2 W'=>e=.normal∧∃i',F (pre ++ [x]) i'∧St (fq W2 (E i)) W2 W' (E i')) a' W2) (fun _ _ _=>False)) a0 W)
 (hdone:∀D a' X' i,F xs i→Has (mk D::ds) a' N l→St M w X' (lD D::E i)→Q .normal a' X'):(Code.rangeFunc g #[p] assign body).wp P Q a X:=by
 have htame:∀i,∀e∈E i,e.tame X.heap.size:=fun i=>oJ (fun e he b hb=>(hS.new e he b hb).2) (hT i)
 refine(wpIn_wide (n:=6)).1 (jn (gf:=gf) (lb:=lb) (ha.ev hg) eg (encs:=fun x=>#[enc x]) (K:=K) (xs:=xs) hseq (fun _=>rfl)
  (fun pre A=>∃i,F pre i∧St M w A (E i)) ?_ (fun pre A ⟨i,_,h⟩=>hK i A h) ⟨i0,h0,hE⟩ ?_ ?_)
 · intro pre A A' row ⟨i,hF,h⟩ hg' hr
   exact⟨i,hF,h.records (htame i) hS.size hg' hr⟩
 · intro lr pre x rest W hx
   have hh:=hround lr pre x rest W { tmps:=((#[p]:Array Tmp).zip #[enc x]).foldl (fun t (q:Tmp × Value)=>t.setIfInBounds q.1 q.2) a.tmps,defers:=[] } hx (by
    have h1:=ha.put hp (enc x)
    have h2:((#[p]:Array Tmp).zip #[enc x]).foldl (fun t (q:Tmp × Value)=>t.setIfInBounds q.1 q.2) a.tmps=(a.put (some p) (enc x)).tmps:=by simp[Act.put]
    rw[h2]
    exact⟨rfl,h1.size,h1.slot⟩)
   refine wpIn_mono hh ?_;intro e a' W' he
   cases e<;>try exact he.elim
   obtain⟨rfl,hb⟩:=he;refine⟨rfl,fun W2 ⟨i,hF,hSt⟩=>?_⟩;refine wpIn_mono (hb i W2 hF hSt.inner) ?_
   rintro e a2 W3 ⟨rfl,i',hF',hSt'⟩
   exact⟨rfl,hSt.keepsFrom (htame i) hSt',i',hF',hSt.outer hSt'⟩
 · rintro D W hD ⟨i,hF,hSt⟩ hm
   exact hdone D _ W i hF ⟨by show mk D::a.defers=_;rw[ha.defers],ha.size,ha.slot⟩ (hSt.mark (htame i) hS.size hD hm)
end Go.Proofs.YtcfdpfmchchkaaaGreatDoor
