/- SPL, part 12 -/
import Derived.Test.YtcfdpfmchchkaaaGreatDoorSplD
import Derived.Maps.RangeRun
import Derived.OrdersIn
import Derived.TacticsIn
import Derived.RangeFuncCalls
import Derived.RangeFuncNested
import Derived.RangeFuncBound
import Derived.RangeFuncLeaves
import Derived.Shelf.Abstract
import Derived.Shelf.RegionOpen
import Derived.OwnWalkIn
import Derived.TacticsInMore
import Derived.LoopNIn
import Derived.LoopIn
namespace Go.Proofs.YtcfdpfmchchkaaaGreatDoor
set_option linter.unusedVariables false
set_option linter.unusedSimpArgs false
open Go.RowKit Go.Sort
variable {ds:List Deferred}
theorem wb {α:Type} {l:List α} {i:Nat} {x:α} (h:l[i]? = some x):l.set i x=l:=by
 obtain⟨b,rfl⟩:=List.getElem?_eq_some_iff.1 h;exact List.set_getElem_self b
structure MapFn (es:Array MapEntry) (clock:Nat) (g:Int→Option Value):Prop where
 st:MapKept.Stamped es clock
 key:∀e∈es.toList,∃k,e.key=ae k∧g k=some e.val
 all:∀k v,g k=some v→∃e∈es.toList,e.key=ae k∧e.val=v
def MapF (X:World) (m:Nat) (g:Int→Option Value):Prop:=∃es clock,X.heap[m]? = some (.map es clock)∧MapFn es clock g
def fB (g:Int→Option Value) (k:Int) (u:Option Value):Int→Option Value:=fun i=>if i=k then u else g i
def cV (m:Nat) (g:Int→Option Value):Ent:=.inv (fun b=>b=m) (fun X=>MapF X m g) (fun X X' ⟨es,h,e,c⟩ f=>⟨es,h,(f m rfl).trans e,c⟩)
theorem MapF.lt {X:World} {m:Nat} {g:Int→Option Value} (h:MapF X m g):m<X.heap.size:=by
 obtain⟨es,c,b,_⟩:=h;exact(Array.getElem?_eq_some_iff.1 b).1
theorem MapF.below {X X':World} {m:Nat} {g:Int→Option Value} (h:MapF X m g) (f:Below X.heap.size X X'):MapF X' m g:=by
 obtain⟨es,e,b,c⟩:=h;exact⟨es,e,(f.block m (Array.getElem?_eq_some_iff.1 b).1).trans b,c⟩
theorem MapFn.isKey {es:Array MapEntry} {clock:Nat} {g:Int→Option Value} (h:MapFn es clock g):∀x∈es.toList,MapKept.IsKey (.int .i64) x.key:=fun x hx=>by
 obtain⟨k,b,_⟩:=h.key x hx;rw[b];exact rfl
theorem MapFn.find {es:Array MapEntry} {clock:Nat} {g:Int→Option Value} (h:MapFn es clock g) (k:Int) :
 (Instr.findNow (.int .i64) (ae k) es.toList 0=some none∧g k=none∧∀x∈es.toList,x.key≠ae k) ∨
 ∃j e,Instr.findNow (.int .i64) (ae k) es.toList 0=some (some (j,e.val))∧es[j]? = some e∧e.key=ae k∧g k=some e.val:=by
 rcases MapKept.findNow_spec (d:=.int .i64) (k:=ae k) rfl es.toList 0 h.isKey with ⟨f,c⟩ | ⟨j,e,f,c,h3⟩
 · left
   refine⟨f,?_,c⟩
   cases i:g k with
   | none=>rfl
   | some v=>
    obtain⟨e,m,p,_⟩:=h.all k v i;exact absurd p (c e m)
 · right
   rw[Nat.zero_add] at f;have hm:e∈es.toList:=List.mem_of_getElem? c;obtain⟨q,b,i⟩:=h.key e hm;rw[h3] at b;injection b with _ b;subst b;exact⟨j,e,f,ar c,h3,i⟩
section
variable {P:Program} {ρ:Operand→Value} {X:World} {d:Option Tmp} {ty:TypeId} {ps:String} {af:Array Edge} {g:Option (Nat × Bool)}
theorem uX {t r e:TypeId} {x y:Operand} {m:Nat} {k:Int} {z:Value} {f:Int→Option Value} {b:Bool} (ht:P.underlying t=some (.map r e)) (h:P.underlying r=some (.int .i64)) (c:(P.info? e).map (·.zero)=some (some z)) (hx:ρ x=.map (some m)) (u:ρ y=ae k) (hm:MapF X m f) :
 (execOp ρ ⟨d,.lookup t x y b,ty,ps,af,g⟩).run P X=.ok (.value (if b then .tuple #[(f k).getD z,.bool (f k).isSome] else (f k).getD z)) X:=by
 obtain⟨es,clock,B,A⟩:=hm;have v:=MapKept.run_getObj_map (P:=P) B
 have p:(zeroValue e).run P X=.ok z X:=by
  cases hq:P.info? e with
  | none=>rw[hq] at c;cases c
  | some q=>
   rw[hq] at c;have:q.zero=some z:=ar c;simp[zeroValue,typeInfo,hq,this]
 rcases A.find k with ⟨i,s,_⟩ | ⟨j,e',i,s,h3,h4⟩
 · have hf:=MapKept.run_findKey (P:=P) (w:=X) h i
   cases b<;>simp[execOp,hx,u,Instr.lookup,run_underlying ht,v,ep h,hf,p,s]
 · have hf:=MapKept.run_findKey (P:=P) (w:=X) h i
   cases b<;>simp[execOp,hx,u,Instr.lookup,run_underlying ht,v,ep h,hf,h4]
theorem pH {t c e:TypeId} {x y:Operand} {m:Nat} {k:Int} {z:Value} {f:Int→Option Value} (ht:P.underlying t=some (.map c e)) (h:P.underlying c=some (.int .i64)) (i:(P.info? e).map (·.zero)=some (some z)) (hx:ρ x=.map (some m)) (j:ρ y=ae k) (hm:MapF X m f) :
 (execOp ρ ⟨d,.lookup t x y true,ty,ps,af,g⟩).run P X=.ok (.value (.tuple #[(f k).getD z,.bool (f k).isSome])) X:=uX (b:=true) ht h i hx j hm
theorem BD {t c e:TypeId} {x y:Operand} {m:Nat} {k:Int} {z:Value} {f:Int→Option Value} (ht:P.underlying t=some (.map c e)) (h:P.underlying c=some (.int .i64)) (i:(P.info? e).map (·.zero)=some (some z)) (hx:ρ x=.map (some m)) (j:ρ y=ae k) (hm:MapF X m f) :
 (execOp ρ ⟨d,.lookup t x y false,ty,ps,af,g⟩).run P X=.ok (.value ((f k).getD z)) X:=uX (b:=false) ht h i hx j hm
def kh (X:World) (m:Nat) (es:Array MapEntry) (clock:Nat):World:={ X with heap:=X.heap.setIfInBounds m (.map es clock) }
theorem wD {t S e:TypeId} {m:Nat} {k:Int} {u:Value} {f:Int→Option Value} (ht:P.underlying t=some (.map S e)) (C:P.underlying S=some (.int .i64)) (hm:MapF X m f) :
 ∃es clock,(Instr.mapUpdate t (.map (some m)) (ae k) u).run P X=.ok () (kh X m es clock)∧MapFn es clock (fB f k (some u)):=by
 obtain⟨es,clock,O,s⟩:=hm;have T:=MapKept.run_getObj_map (P:=P) O;rcases s.find k with ⟨J,B,h3⟩ | ⟨j,e',J,B,h3,h4⟩
 · have hf:=MapKept.run_findKey (P:=P) (w:=X) C J
   refine⟨es.push { key:=ae k,val:=u,born:=clock },clock+1,?_,MapKept.stamped_push s.st h3,fun x hx=>?_,fun i v b=>?_⟩
   · have D:=MapKept.run_setObj_map (P:=P) (.map (es.push { key:=ae k,val:=u,born:=clock }) (clock+1)) O
     simp[Instr.mapUpdate,run_underlying ht,T,ep C,hf,D,kh]
   · simp only[Array.toList_push,List.mem_append,List.mem_singleton] at hx
     rcases hx with hx | rfl
     · obtain⟨i,b,K⟩:=s.key x hx
       refine⟨i,b,?_⟩;unfold fB;rw[if_neg,K]
       rintro rfl
       exact h3 x hx b
     · exact⟨k,rfl,by unfold fB;rw[if_pos rfl]⟩
   · unfold fB at b
     simp only[Array.toList_push,List.mem_append,List.mem_singleton]
     split at b
     · rename_i p
       subst p
       cases b
       exact⟨_,.inr rfl,rfl,rfl⟩
     · obtain⟨x,hx,c⟩:=s.all i v b
       exact⟨x,.inl hx,c⟩
 · have hf:=MapKept.run_findKey (P:=P) (w:=X) C J
   have z:j<es.size:=(Array.getElem?_eq_some_iff.1 B).1;have y:es[j]=e':=(Array.getElem?_eq_some_iff.1 B).2
   have E:∀x,x∈(es.modify j fun e=>{ e with key:=ae k,val:=u }).toList↔∃i,∃b:i<es.size,x=if i=j then { es[i] with key:=ae k,val:=u } else es[i]:=fun x=>by
    rw[Array.mem_toList_iff,Array.mem_iff_getElem]
    constructor
    · rintro ⟨i,b,rfl⟩
      rw[Array.size_modify] at b;refine⟨i,b,?_⟩;rw[Array.getElem_modify];by_cases h:i=j
      · rw[if_pos h,if_pos h.symm]
      · rw[if_neg h,if_neg (fun q=>h q.symm)]
    · rintro ⟨i,b,rfl⟩
      refine⟨i,by rw[Array.size_modify];exact b,?_⟩;rw[Array.getElem_modify];by_cases h:i=j
      · rw[if_pos h,if_pos h.symm]
      · rw[if_neg h,if_neg (fun q=>h q.symm)]
   have F:∀i (b:i<es.size),i≠j→es[i].key≠ae k:=fun i b r A=>by
    have I:=s.st.2.2;rw[List.nodup_iff_pairwise_ne,List.pairwise_map,List.pairwise_iff_getElem] at I;rcases Nat.lt_or_gt_of_ne r with h | h
    · have:=I i j (ar b) (ar z) h
      simp only[Array.getElem_toList] at this;rw[A,y,h3] at this;exact this rfl
    · have:=I j i (ar z) (ar b) h
      simp only[Array.getElem_toList] at this;rw[A,y,h3] at this;exact this rfl
   refine⟨es.modify j fun e=>{ e with key:=ae k,val:=u },clock,?_,MapKept.stamped_modify s.st j _ (fun _ _=>rfl) (fun x _ hx=>by rw[B] at hx;cases hx;exact h3.symm),fun x hx=>?_,fun i v b=>?_⟩
   · have D:=MapKept.run_setObj_map (P:=P) (.map (es.modify j fun e=>{ e with key:=ae k,val:=u }) clock) O
     simp[Instr.mapUpdate,run_underlying ht,T,ep C,hf,D,B,h3,MapKept.run_keyThatStays (d:=.int .i64) (k:=ae k) rfl,kh]
   · obtain⟨i,b,rfl⟩:=(E x).1 hx
     by_cases r:i=j
     · rw[if_pos r]
       exact⟨k,rfl,by unfold fB;rw[if_pos rfl]⟩
     · rw[if_neg r]
       obtain⟨q,U,G⟩:=s.key es[i] bm;refine⟨q,U,?_⟩;unfold fB;rw[if_neg,G]
       rintro rfl
       exact F i b r U
   · unfold fB at b
     split at b
     · rename_i p
       subst p
       cases b
       exact⟨_,(E _).2 ⟨j,z,rfl⟩,by rw[if_pos rfl],by rw[if_pos rfl]⟩
     · rename_i p
       obtain⟨x,hx,c,H⟩:=s.all i v b;obtain⟨a,V,rfl⟩:=Array.mem_iff_getElem.1 (Array.mem_toList_iff.1 hx);refine⟨_,(E _).2 ⟨a,V,rfl⟩,?_⟩;rw[if_neg]
       · exact⟨c,H⟩
       · rintro rfl
         rw[y,h3] at c;injection c with _ c;exact p c.symm
theorem wQ {t O e:TypeId} {m:Nat} {k:Int} {f:Int→Option Value} {t2:TypeId} (ht:P.underlying t=some (.map O e)) (z:P.underlying O=some (.int .i64)) (hm:MapF X m f) :
 ∃es clock,(Builtin.delete_ #[t,t2] ty #[.map (some m),ae k]).run P X=.ok (.tuple #[]) (kh X m es clock)∧MapFn es clock (fB f k none):=by
 obtain⟨es,clock,J,p⟩:=hm;have S:=MapKept.run_getObj_map (P:=P) J;rcases p.find k with ⟨H,G,h3⟩ | ⟨j,e',H,G,h3,h4⟩
 · have hf:=MapKept.run_findKey (P:=P) (w:=X) z H
   refine⟨es,clock,?_,p.st,fun x hx=>?_,fun i v b=>?_⟩
   · have A:=MapKept.run_setObj_map (P:=P) (.map es clock) J
     simp[Builtin.delete_,run_underlying ht,S,ep z,hf,A,kh]
   · obtain⟨i,b,I⟩:=p.key x hx
     refine⟨i,b,?_⟩;unfold fB;rw[if_neg,I]
     rintro rfl
     exact h3 x hx b
   · unfold fB at b
     split at b
     · cases b
     · exact p.all i v b
 · have hf:=MapKept.run_findKey (P:=P) (w:=X) z H
   have u:j<es.size:=(Array.getElem?_eq_some_iff.1 G).1;have s:es[j]=e':=(Array.getElem?_eq_some_iff.1 G).2;have F:=p.st.2.2;rw[List.nodup_iff_pairwise_ne,List.pairwise_map,List.pairwise_iff_getElem] at F
   have B:∀i (b:i<es.toList.length),i≠j→es.toList[i].key≠ae k:=fun i b r y=>by
    rcases Nat.lt_or_gt_of_ne r with h | h
    · have:=F i j b (ar u) h
      rw[y] at this;simp only[Array.getElem_toList] at this;rw[s,h3] at this;exact this rfl
    · have:=F j i (ar u) b h
      rw[y] at this;simp only[Array.getElem_toList] at this;rw[s,h3] at this;exact this rfl
   have K:∀x,x∈(es.eraseIdxIfInBounds j).toList↔∃i,∃b:i<es.toList.length,i≠j∧es.toList[i]=x:=fun x=>by
    have V:(es.eraseIdxIfInBounds j).toList=es.toList.eraseIdx j:=by
     unfold Array.eraseIdxIfInBounds;rw[dif_pos u,Array.toList_eraseIdx]
    rw[V,List.mem_eraseIdx_iff_getElem]
   refine⟨es.eraseIdxIfInBounds j,clock,?_,MapKept.stamped_erase p.st j,fun x hx=>?_,fun i v b=>?_⟩
   · have A:=MapKept.run_setObj_map (P:=P) (.map (es.eraseIdxIfInBounds j) clock) J
     simp[Builtin.delete_,run_underlying ht,S,ep z,hf,A,kh]
   · obtain⟨i,b,r,rfl⟩:=(K x).1 hx
     obtain⟨q,T,D⟩:=p.key es.toList[i] (List.getElem_mem _);refine⟨q,T,?_⟩;unfold fB;rw[if_neg,D]
     rintro rfl
     exact B i b r T
   · unfold fB at b
     split at b
     · cases b
     · rename_i C
       obtain⟨x,hx,c,E⟩:=p.all i v b;obtain⟨a,U,rfl⟩:=List.getElem_of_mem hx;refine⟨_,(K _).2 ⟨a,U,?_,rfl⟩,c,E⟩
       rintro rfl
       simp only[Array.getElem_toList] at c;rw[s,h3] at c;injection c with _ c;exact C c.symm
end
section
variable {P:Program} {ops:Array Oper} {rest:List Oper} {o:Oper} {a:Act} {Q:Exit→Act→World→Prop} {X X':World} {N d:Nat} {l:List (Nat × Value)} {M:List Nat} {w:World} {L:List Ent}
theorem r5 {m i:Nat} {f r:Int→Option Value} {es:Array MapEntry} {clock:Nat} (k:St M w X L) (p:L[i]? = some (cV m f)) (h:MapFn es clock r):St M w (kh X m es clock) (L.set i (cV m r)):=by
 have hm:MapF X m f:=k.at_ p;have c:=hm.lt;refine k.turn p rfl rfl rfl (by show X.heap.size≤(X.heap.setIfInBounds m _).size;simp) (fun b e j=>?_) ⟨es,clock,?_,h⟩ (fun b e=>⟨.inl e,?_⟩)
 · show(X.heap.setIfInBounds m _)[b]? = _
   rw[Array.getElem?_setIfInBounds];rw[if_neg (fun q=>j q.symm)]
 · show(X.heap.setIfInBounds m _)[m]? = _
   rw[Array.getElem?_setIfInBounds,if_pos rfl,if_pos c]
 · cases e
   show m<(X.heap.setIfInBounds m _).size
   simpa using c
theorem nu {t:TypeId} (x:Has ds a N l) (j:Region.wanted o (yielded ops a.tmps)=true) (p:o.op=.makeMap t none) (q:o.dst=some d) (u:Nat.blt d N=true) (i:St M w X L)
 (k:∀m c X',w.heap.size≤m→Has ds c N ((d,.map (some m))::l)→St M w X' (cV m (fun _=>none)::L)→wpList P ops Q rest c X'):wpList P ops Q (o::rest) a X:=by
 have hr:(Instr.makeMap t none).run P X=.ok (.map (some X.heap.size)) (X.alloc (.map #[] 0)):=by
  simp[Instr.makeMap]
 refine aT (X':=X.alloc (.map #[] 0)) x j ?_ q u fun c f=>k X.heap.size c _ i.size f (i.add (eV (Below.refl _ _) _) (e:=cV X.heap.size (fun _=>none)) ?_ (fun b s=>by cases s;simp))
 · unfold execOp
   simp[p,hr]
 · exact⟨#[],0,by show(X.heap.push (.map #[] 0))[X.heap.size]? = _;simp,MapKept.stamped_empty 0,fun e r=>by simp at r,fun k v h=>by cases h⟩
theorem iU {t p e:TypeId} {x y b:Operand} {m i:Nat} {k:Int} {u:Value} {f:Int→Option Value} (q:Region.wanted o (yielded ops a.tmps)=true) (j:o.op=.mapUpdate t x y b∧o.dst=none) (ht:P.underlying t=some (.map p e)) (v:P.underlying p=some (.int .i64)) (hx:a.eval x=.map (some m)) (s:a.eval y=ae k) (r:a.eval b=u)
 (c:St M w X L) (h:L[i]? = some (cV m f)) (K:∀X':World,St M w X' (L.set i (cV m (fB f k (some u))))→wpList P ops Q rest a X'):wpList P ops Q (o::rest) a X:=by
 obtain⟨es,clock,hr,hf⟩:=wD (P:=P) (k:=k) (u:=u) ht v (c.at_ h);refine lP (X':=kh X m es clock) q ?_ j.2 (K _ (r5 c h hf));unfold execOp;simp only[j.1,hx,s,r,Sem.run_bind,hr,Result.andThen_ok,Sem.run_pure]
theorem zQ {t t2 p e:TypeId} {x y:Operand} {m i:Nat} {k:Int} {f:Int→Option Value} (q:Region.wanted o (yielded ops a.tmps)=true) (j:o.op=.call ⟨.builtin .delete,#[x,y],#[t,t2]⟩∧o.dst=none) (ht:P.underlying t=some (.map p e)) (s:P.underlying p=some (.int .i64)) (hx:a.eval x=.map (some m)) (r:a.eval y=ae k)
 (c:St M w X L) (h:L[i]? = some (cV m f)) (K:∀X':World,St M w X' (L.set i (cV m (fB f k none)))→wpList P ops Q rest a X'):wpList P ops Q (o::rest) a X:=by
 obtain⟨es,clock,hr,hf⟩:=wQ (P:=P) (ty:=o.type) (t2:=t2) (k:=k) ht s (c.at_ h);refine gy q fun u b=>?_;unfold Oper.wp;simp[execOp,j.1,resolve,invoke,builtin,hx,r,hr,Result.andThen];exact b _ _ (by rw[j.2];exact K _ (r5 c h hf))
def jB (r m c:Nat) (seen:Array Nat) (f:Nat):Ent:=.inv (fun b=>b=r) (fun X=>X.heap[r]? = some (.mapIter (some m) c seen f)) (fun X X' h e=>(e r rfl).trans h)
structure Handed (es:Array MapEntry) (clock:Nat) (seen:Array Nat) (out:List MapEntry):Prop where
 sub:∀e∈out,e∈es.toList
 nd:(out.map (·.born)).Nodup
 see:seen.toList=out.map (·.born)
theorem Handed.nil (es:Array MapEntry) (clock:Nat):Handed es clock #[] []:=⟨fun _ h=>(by cases h),List.Pairwise.nil,rfl⟩
theorem Handed.left {es:Array MapEntry} {clock:Nat} {seen:Array Nat} {out:List MapEntry} (h:Handed es clock seen out) {e:MapEntry} (b:e∈(leftOf es seen).toList):e∈es.toList∧e.born∉out.map (·.born):=by
 unfold leftOf at b;simp only[Array.toList_filter,List.mem_filter] at b;refine⟨b.1,?_⟩;rw[←h.see]
 simpa using b.2
theorem Handed.push {es:Array MapEntry} {clock:Nat} {seen:Array Nat} {out:List MapEntry} (h:Handed es clock seen out) {e:MapEntry} (k:e∈(leftOf es seen).toList):Handed es clock (seen.push e.born) (out ++ [e]):=by
 obtain⟨i,f⟩:=h.left k;refine⟨fun x hx=>?_,?_,?_⟩
 · rcases List.mem_append.1 hx with hx | hx
   · exact h.sub x hx
   · rw[List.mem_singleton.1 hx];exact i
 · rw[List.map_append,List.nodup_append]
   refine⟨h.nd,by simp,?_⟩
   rintro a j b c rfl
   simp at c;subst c;exact f j
 · rw[Array.toList_push,List.map_append,h.see];rfl
theorem yx {α:Type}:∀(l m:List α),l.Nodup→(∀x∈l,x∈m)→l.length≤m.length:=fun l m h e=>by
 induction l generalizing m with
 | nil=>exact Nat.zero_le _
 | cons x l ih=>
  obtain⟨a,b,rfl⟩:=List.append_of_mem (e x (List.mem_cons_self ..));have hx:=List.nodup_cons.1 h
  have:=ih (a ++ b) hx.2 fun y f=>by
   have c:=e y (List.mem_cons_of_mem _ f);simp only[List.mem_append,List.mem_cons] at c ⊢;rcases c with c | rfl | c
   · exact .inl c
   · exact absurd f hx.1
   · exact .inr c
  simp only[List.length_append,List.length_cons] at this ⊢;omega
theorem Handed.len {es:Array MapEntry} {clock:Nat} {seen:Array Nat} {out:List MapEntry} (h:Handed es clock seen out):out.length≤es.size:=by
 have b:out.Nodup:=by
  have:=h.nd;rw[List.nodup_iff_pairwise_ne,List.pairwise_map] at this;rw[List.nodup_iff_pairwise_ne];exact this.imp fun c e=>c (by rw[e])
 have:=yx out es.toList b h.sub
 simpa using this
theorem Handed.done {es:Array MapEntry} {clock:Nat} {seen:Array Nat} {out:List MapEntry} (h:Handed es clock seen out) (hst:MapKept.Stamped es clock) (r:(leftOf es seen).size=0):∀e∈es.toList,e∈out:=by
 intro e q
 have Y:e∉(leftOf es seen).toList:=by
  rw[show(leftOf es seen).toList=[] from List.eq_nil_of_length_eq_zero (ar r)];exact List.not_mem_nil
 unfold leftOf at Y;simp only[Array.toList_filter,List.mem_filter,not_and] at Y;have Y:=Y q;have Y:e.born∈seen.toList:=ar Y;rw[h.see] at Y;obtain⟨x,hx,c⟩:=List.mem_map.1 Y;have f:=h.sub x hx;have k:=hst.2.1;rw[List.nodup_iff_pairwise_ne,List.pairwise_map,List.pairwise_iff_getElem] at k;obtain⟨i,p,rfl⟩:=List.getElem_of_mem q;obtain⟨j,m,rfl⟩:=List.getElem_of_mem f;rcases Nat.lt_trichotomy i j with b | b | b
 · exact absurd c.symm (k i j p m b)
 · subst b;exact hx
 · exact absurd c (k j i m p b)
def EW:Option MapEntry→Value
 | none=>.tuple #[.bool false]
 | some e=>.tuple #[.bool true,e.key,e.val]
theorem Bb {ρ:Operand→Value} {d:Option Tmp} {ty:TypeId} {ps:String} {af:Array Edge} {g:Option (Nat × Bool)} {x:Operand} {p:Option MapEntry} (hx:ρ x=EW p):(execOp ρ ⟨d,.extract x 0,ty,ps,af,g⟩).run P X=.ok (.value (.bool p.isSome)) X:=by
 cases p with
 | none=>exact cb (vs:=#[.bool false]) hx rfl
 | some e=>exact cb (vs:=#[.bool true,e.key,e.val]) hx rfl
theorem r8 {t h e:TypeId} {x:Operand} {m:Nat} {es:Array MapEntry} {clock:Nat} (q:Has ds a N l) (j:Region.wanted o (yielded ops a.tmps)=true) (s:o.op=.range t x) (u:o.dst=some d) (p:Nat.blt d N=true) (ht:P.underlying t=some (.map h e)) (hx:a.eval x=.map (some m)) (i:St M w X L)
 (hm:X.heap[m]? = some (.map es clock)) (k:∀r c X',w.heap.size≤r→Has ds c N ((d,.pointer (some ⟨r,0,none⟩))::l)→St M w X' (jB r m clock #[] clock::L)→wpList P ops Q rest c X'):wpList P ops Q (o::rest) a X:=by
 have hr:=run_range_map (P:=P) X t h e m es clock ht hm;refine aT (X':=X.alloc (.mapIter (some m) clock #[] clock)) q j ?_ u p fun c f=>k X.heap.size c _ i.size f (i.add (eV (Below.refl _ _) _) (e:=jB X.heap.size m clock #[] clock) ?_ (fun b v=>by cases v;simp))
 · unfold execOp
   simp[s,hx,hr]
 · show(X.heap.push _)[X.heap.size]? = _;simp
theorem uZ {x:Operand} {r m c s i:Nat} {es:Array MapEntry} {clock:Nat} {seen:Array Nat} {out:List MapEntry} (I:Has ds a N l) (J:Region.wanted o (yielded ops a.tmps)=true) (O:o.op=.next x false) (S:o.dst=some d) (K:Nat.blt d N=true) (hx:a.eval x=.pointer (some ⟨r,0,none⟩)) (C:St M w X L)
 (G:L[i]? = some (jB r m c seen s)) (hm:X.heap[m]? = some (.map es clock)) (hst:MapKept.Stamped es clock) (y:clock=c∧c≤s) (F:Handed es clock seen out)
 (k:∀(p:Option MapEntry) j X',Has ds j N ((d,EW p)::l)→(p=none→∀e∈es.toList,e∈out)→(∀e,p=some e→e∈es.toList∧Handed es clock (seen.push e.born) (out ++ [e])) →
  St M w X' (L.set i (match p with | none=>jB r m c seen s | some e=>jB r m c (seen.push e.born) clock))→X'.heap[m]? = some (.map es clock)→wpList P ops Q rest j X'):wpList P ops Q (o::rest) a X:=by
 have hr:X.heap[r]? = some (.mapIter (some m) c seen s):=C.at_ G
 have H:m≠r:=by rintro rfl;rw[hr] at hm;cases hm
 rcases run_next_at (P:=P) X o.type r m c s seen es clock hr hm (fun x E=>by rw[←y.1];exact hst.1 x E) y.2 with ⟨Y,f⟩ | ⟨e,he,w1,hw1,f⟩
 · refine aT (X':=X) (v:=EW none) I J ?_ S K fun j h=>k none j X h (fun _=>F.done hst Y) (fun e q=>by cases q) ?_ hm
   · unfold execOp
     simp[O,hx,f];rfl
   · have:L.set i (jB r m c seen s)=L:=wb G
     rw[this];exact C
 · obtain⟨u,T⟩:=F.left he
   have z:w1.heap=X.heap∧w1.os=X.os∧w1.tape=X.tape∧w1.output=X.output:=by
    rcases hw1 with rfl | rfl
    · exact⟨rfl,rfl,rfl,rfl⟩
    · exact⟨rfl,rfl,rfl,rfl⟩
   obtain⟨A,W,U,V⟩:=z;have B:r<X.heap.size:=(Array.getElem?_eq_some_iff.1 hr).1;refine aT (X':=ChangeMaps.setBlock w1 r (.mapIter (some m) c (seen.push e.born) clock)) (v:=EW (some e)) I J ?_ S K fun j h=>k (some e) j _ h (fun q=>by cases q) (fun Z q=>by cases q;exact⟨u,F.push he⟩) ?_ ?_
   · unfold execOp
     simp[O,hx,f];rfl
   · refine C.turn G W U V (by show X.heap.size≤(w1.heap.setIfInBounds r _).size;rw[A];simp) (fun b D t=>?_) ?_ (fun b D=>⟨.inl D,?_⟩)
     · show(w1.heap.setIfInBounds r _)[b]? = _
       rw[A,Array.getElem?_setIfInBounds,if_neg (fun q=>t q.symm)]
     · show(w1.heap.setIfInBounds r _)[r]? = _
       rw[A,Array.getElem?_setIfInBounds,if_pos rfl,if_pos B]
     · cases D
       show r<(w1.heap.setIfInBounds r _).size;rw[A];simpa using B
   · show(w1.heap.setIfInBounds r _)[m]? = _
     rw[A,Array.getElem?_setIfInBounds,if_neg (fun q=>H q.symm)];exact hm
theorem rF {ρ:Operand→Value} {d:Option Tmp} {ty:TypeId} {ps:String} {af:Array Edge} {g:Option (Nat × Bool)} {x:Operand} {r m b:Nat} {seen:Array Nat} {es:Array MapEntry} {clock:Nat} {e:MapEntry} (hx:ρ x=.pointer (some ⟨r,0,none⟩))
 (hr:X.heap[r]? = some (.mapIter (some m) b (seen.push e.born) clock)) (f:X.heap[m]? = some (.map es clock)) (c:e∈es.toList) (hst:MapKept.Stamped es clock):(execOp ρ ⟨d,.entry x,ty,ps,af,g⟩).run P X=.ok (.value (.tuple #[e.key,e.val])) X:=by
 have h:=run_entry_at (P:=P) X r m b seen es clock e hr f c hst.2.1;simp[execOp,hx,h]
end
open Go.RowKit Go.Sort
variable {ds:List Deferred}
theorem mv {F:Prop} {P:Program} {Q:Exit→Act→World→Prop} {a:Act} {X:World} {N:Nat} {l:List (Nat × Value)} {c:Code} {M:List Nat} {w:World} {L:List Ent} (j:Has ds a N l) (i:St M w X L) (J:List (Nat × Value)) (ks:List Nat)
 (f:c.wp P (Exit.then (fun b X'=>Has ds b N (J ++ jE l ks)∧St M w X' L∧F) Q) a X) (e:∀b X',Has ds b N (J ++ jE l ks)→St M w X' L→F→Q .normal b X'):c.wp P Q a X:=
 th _ f fun b X' h=>e b X' h.1 h.2.1 h.2.2
theorem vq {F:Prop} {P:Program} {Q:Exit→Act→World→Prop} {a:Act} {X:World} {N:Nat} {l:List (Nat × Value)} {c:Code} {M:List Nat} {w:World} {L:List Ent} (i:Has ds a N l) (j:St M w X L) (J:List (Nat × Value)) (ks:List Nat) (E:List Ent→List Ent)
 (f:c.wp P (Exit.then (fun b X'=>Has ds b N (J ++ jE l ks)∧St M w X' (E L)∧F) Q) a X) (e:∀b X',Has ds b N (J ++ jE l ks)→St M w X' (E L)→F→Q .normal b X'):c.wp P Q a X:=
 th _ f fun b X' h=>e b X' h.1 h.2.1 h.2.2
theorem tG {P:Program} {ops:Array Oper} {rest:List Oper} {o:Oper} {a:Act} {N:Nat} {l:List (Nat × Value)} {c:Bool} {C:World→Prop} {L:Act→Prop} {v:Value} (j:Has ds a N l) (cs:Nat) (i:look l cs=some (.bool c)) (n p:Nat) (hf:c=false→dK P ops C (fun b=>Has ds b N ((p,v)::l)) ((o::rest).take n) a) (ht:c=true→dK P ops C (fun b=>∃u,Has ds b N ((p,u)::l)) ((o::rest).take n) a)
 (h:∀u b,(c=false→u=v)→Has ds b N ((p,u)::l)→dK P ops C L ((o::rest).drop n) b):dK P ops C L (o::rest) a:=by
 refine tq n (fun b=>∃u,(c=false→u=v)∧Has ds b N ((p,u)::l)) ?_ (fun b h'=>(let ⟨u,h1,h2⟩:=h';h u b h1 h2))
 cases c
 · refine iX ?_ _ _ (hf rfl)
   intro b f;exact⟨v,fun _=>rfl,f⟩
 · refine iX ?_ _ _ (ht rfl)
   rintro b ⟨u,f⟩
   exact⟨u,fun e=>(by cases e),f⟩
theorem lv {P:Program} {ρ:Operand→Value} {X:World} {d:Option Tmp} {ty:TypeId} {ps:String} {af:Array Edge} {g:Option (Nat × Bool)} {c x y:Operand} {b u:Bool} {v:Value} (e:ρ c=.bool b) (hx:ρ x=.bool true) (f:ρ y=v) (h:b=false→v=.bool u):(execOp ρ ⟨d,.pick c x y,ty,ps,af,g⟩).run P X=.ok (.value (.bool (b||u))) X:=by
 cases b
 · rw[h rfl] at f;simp[execOp,e,f,asBool]
 · simp[execOp,e,hx,asBool]
theorem St.swap {M:List Nat} {w X:World} {e f:Ent} {L:List Ent} (h:St M w X (e::f::L)):St M w X (f::e::L):=by
 have hm:∀g,g∈f::e::L→g∈e::f::L:=fun g c=>by
  rcases List.mem_cons.1 c with rfl | c
  · exact List.mem_cons_of_mem _ (List.mem_cons_self)
  · rcases List.mem_cons.1 c with rfl | c
    · exact List.mem_cons_self
    · exact List.mem_cons_of_mem _ (List.mem_cons_of_mem _ c)
 obtain⟨j,k⟩:=List.pairwise_cons.1 h.sep;obtain⟨h3,m⟩:=List.pairwise_cons.1 k;refine⟨h.os,h.tape,h.output,h.size,h.block,fun g c=>h.ok g (hm g c),fun g c=>h.new g (hm g c),List.pairwise_cons.2 ⟨fun g c=>?_,List.pairwise_cons.2 ⟨fun g c=>j g (List.mem_cons_of_mem _ c),m⟩⟩⟩;rcases List.mem_cons.1 c with rfl | c
 · exact fun b p i=>j f (List.mem_cons_self) b i p
 · exact h3 g c
theorem St.fuse2 {M:List Nat} {w X:World} {m e2 e:Ent} {L:List Ent} (h:St M w X (m::e2::L)) (p:∀b,e.dom b→m.dom b∨e2.dom b) (k:e.ok X):St M w X (e::L):=by
 obtain⟨r,q⟩:=List.pairwise_cons.1 h.sep;obtain⟨h3,s⟩:=List.pairwise_cons.1 q;refine⟨h.os,h.tape,h.output,h.size,h.block,fun f hf=>?_,fun f hf b j=>?_,List.pairwise_cons.2 ⟨fun f hf b j i=>?_,s⟩⟩
 · rcases List.mem_cons.1 hf with rfl | hf
   · exact k
   · exact h.ok f (List.mem_cons_of_mem _ (List.mem_cons_of_mem _ hf))
 · rcases List.mem_cons.1 hf with rfl | hf
   · rcases p b j with c | c
     · exact h.new m (List.mem_cons_self) b c
     · exact h.new e2 (List.mem_cons_of_mem _ (List.mem_cons_self)) b c
   · exact h.new f (List.mem_cons_of_mem _ (List.mem_cons_of_mem _ hf)) b j
 · rcases p b j with c | c
   · exact r f (List.mem_cons_of_mem _ hf) b c i
   · exact h3 f hf b c i
structure KeptL (M:List Nat) (w X:World):Prop where
 size:w.heap.size≤X.heap.size
 block:∀b,b<w.heap.size→b∉M→X.heap[b]? = w.heap[b]?
theorem St.keptL {M:List Nat} {w X:World} {L:List Ent} (h:St M w X L):KeptL M w X:=⟨h.size,h.block⟩
def l9 (w:World) (M:List Nat):Prop:=∀b∈M,∃o:Obj,w.heap[b]? = some o∧∀cs T fr,o≠.cells cs T fr
theorem KeptL.box {M:List Nat} {w X:World} (h:KeptL M w X) (hm:l9 w M) {b:Nat} {cs:Array Value} {T:TypeId} (f:Box w b cs T):Box X b cs T:=by
 refine(h.block b f.lt (fun e=>?_)).trans f;obtain⟨o,j,i⟩:=hm b e;have c:w.heap[b]? = some (.cells cs T (0,0)):=f;rw[j] at c;exact i cs T (0,0) (by injection c)
theorem KeptL.cell {M:List Nat} {w X:World} (h:KeptL M w X) (hm:l9 w M) {a:Addr} {v:Value} (b:w.cell? a=some v):X.cell? a=some v:=by
 have c:=block_lt_of_cell b;refine(World.cell?_of_block (h.block _ c (fun e=>?_))).trans b;obtain⟨o,i,f⟩:=hm _ e;unfold World.cell? at b;rw[i] at b
 cases o<;>first | cases b | exact f _ _ _ rfl
theorem KeptL.rd {M:List Nat} {w X:World} (h:KeptL M w X) (hm:l9 w M) {A:Option Addr} {xs:List Value} (hr:Rd w w.heap.size A xs):Rd X X.heap.size A xs:=fun j u c=>by
 obtain⟨b,o,f,e,h3⟩:=hr j u c;exact⟨b,o,f,Nat.lt_of_lt_of_le e h.size,h.cell hm h3⟩
theorem MapF.noCells {w:World} {m:Nat} {g:Int→Option Value} (h:MapF w m g):∃o:Obj,w.heap[m]? = some o∧∀cs T fr,o≠.cells cs T fr:=by
 obtain⟨es,c,b,_⟩:=h;exact⟨_,b,fun cs T fr e=>by cases e⟩
theorem St.initM2 {w:World} {i j:Nat} {u t:Int→Option Value} (s:MapF w i u) (r:MapF w j t) (q:i≠j):St [i,j] w w [cV i u,cV j t]:=
 ⟨rfl,rfl,rfl,Nat.le_refl _,fun _ _ _=>rfl,fun e h=>by
  rcases List.mem_cons.1 h with rfl | h
  · exact s
  · rw[List.mem_singleton.1 h];exact r,
  fun e h b m=>by
   rcases List.mem_cons.1 h with rfl | h
   · have c:b=i:=m
     exact⟨.inr (by rw[c];simp),by rw[c];exact s.lt⟩
   · rw[List.mem_singleton.1 h] at m
     have c:b=j:=m
     exact⟨.inr (by rw[c];simp),by rw[c];exact r.lt⟩,
  List.pairwise_cons.2 ⟨fun f hf b m p=>by
   rw[List.mem_singleton.1 hf] at p;have c:b=i:=m;have k:b=j:=p
   exact q (c.symm.trans k),List.pairwise_singleton _ _⟩⟩
theorem mi {P:Program} {ρ:Operand→Value} {X:World} {d:Option Tmp} {ty:TypeId} {ps:String} {af:Array Edge} {g:Option (Nat × Bool)} {x y:Operand} {t c e:TypeId} {p:Option Addr} (ht:P.underlying t=some (.pointer e)) (b:P.eqGuardType P.depth t=false) (hx:ρ x=.pointer p) (f:ρ y=.pointer none) :
 (execOp ρ ⟨d,.binOp .eql t x y c,ty,ps,af,g⟩).run P X=.ok (.value (.bool p.isNone)) X:=by
 have i:P.pointee t=e:=by unfold Program.pointee;rw[ht]
 have h:=run_eql_pointer_nil (P:=P) X t p (by rw[i];exact ht);simp[execOp,hx,f,eqGuard,b,h]
theorem zD {P:Program} {ρ:Operand→Value} {X:World} {d:Option Tmp} {ty:TypeId} {ps:String} {af:Array Edge} {g:Option (Nat × Bool)} {x y:Operand} {t e:TypeId} {n b o i sz j:Nat} {m:Int} (ht:P.underlying t=some (.array n e)) (c:(P.info? e).map (·.size)=some sz) (hx:ρ x=.pointer (some ⟨b,o,none⟩)) (p:ρ y=ae m) (hm:m=(i:Int)) (k:i<n) (f:o+i*sz=j) :
 (execOp ρ ⟨d,.indexAddr t x y,ty,ps,af,g⟩).run P X=.ok (.value (.pointer (some ⟨b,j,none⟩))) X:=by
 subst hm f
 cases hq:P.info? e with
 | none=>rw[hq] at c;cases c
 | some q=>
  rw[hq] at c;have h:q.size=sz:=ar c
  have r:(0:Int)≤i∧(i:Int)<n:=by omega
  simp[execOp,hx,p,Instr.indexAt,Instr.sureAddr,asIntOf,run_underlying ht,k,sizeOf,typeInfo,hq,h,el]
open Go.RowKit Go.Sort
def iB (ops:Array Oper):Bool:=ops.all fun o=>match o.op with | .defer _=>false | _=>true
theorem ye {ops:Array Oper} (h:iB ops=true) {i:Nat} {o:Oper} (f:ops[i]? = some o):∀c,o.op≠.defer c:=by
 intro c b;obtain⟨e,j⟩:=Array.getElem?_eq_some_iff.1 f;have:=Array.all_eq_true.1 h i e;rw[j,b] at this
 cases this
section
variable {P:Program} {ops:Array Oper} {Q:Exit→Act→World→Prop} {lr n:Nat}
theorem ze (q:iB ops=true) (s:¬LetsOut Q) {i:Nat} {K p:Act→World→Prop} {a:Act} {w:World} (b:∀a w,K a w→p a w) (h:wpOp P ops Q i K a w):wpOpIn (Fence.wide.inRound lr) n P ops Q i p a w:=by
 unfold wpOp at h;unfold wpOpIn
 cases ho:ops[i]? with
 | none=>rw[ho] at h;exact b _ _ h
 | some o=>
  rw[ho] at h;simp only at h ⊢
  split
  · rename_i k
    rw[if_pos k] at h;have h:=h.resolve_right (fun h=>s h.2);unfold Oper.wp at h;unfold Oper.wpIn;refine⟨fun _ _=>trivial,?_⟩;rw[show(Fence.wide.inRound lr).round=some lr from rfl,Oper.semAt_some lr _ _ (ye q ho)];generalize (execOp a.eval o).run P w=r at *
    cases r with
    | ok x w'=>
     cases x<;>simp only[Oper.upon,Oper.uponIn] at h ⊢
     case value v=>exact b _ _ h
     case skip=>exact b _ _ h
     case defer d=>exact b _ _ h
     case enter f args=>exact⟨fun e=>(by cases e),CallsIn.inRound lr (callsIn_wide.2 (h.mono fun e j m=>by cases e<;>first | exact b _ _ m | exact m))⟩
     case row row args=>exact⟨fun e=>(by cases e),fun c cs _=>let ⟨v,j,hr,hs⟩:=h c cs;⟨v,j,b _ _ hr,stepsIn_wide.2 hs⟩⟩
    | halt x w'=>cases x<;>simp only[Oper.upon,Oper.uponIn] at h ⊢<;>exact h
  · rename_i k
    rw[if_neg k] at h;exact⟨fun _ _=>trivial,b _ _ h⟩
theorem pv (c:iB ops=true) (e:¬LetsOut Q) {md:Region.Mode}:∀(b:Nat) (listed:Array Bool) (a:Act) (w:World),wpAny P md ops Q b listed a w→wpAnyIn (Fence.wide.inRound lr) n P md ops Q b listed a w
 | 0,_,_,_,h=>h
 | b+1,listed,a,w,⟨h1,h2⟩=>⟨h1,fun i f=>ze c e (fun a w h=>pv c e b _ a w h) (h2 i f)⟩
theorem mL {id:Nat} {a:Act} {w:World} {l:List Oper} (sts:List (Nat × (Nat→Option Obj→Prop))) (fl:List Bool) (nds:List NdB) (hm:P.follows .mixedOrders=true)
 (hB:mB l.toArray fl fl.length a.tmps.size (nds.map fun d=>(d.k,d.deps))=true) (b:qi (pick fl l) a.tmps.size=true)
 (h:∃afin:Act,(∀X,Grw (Aa sts) w X→wpQuiet P l.toArray (fun e=>∃p:Regrown,e=grow (redrawn X p.d) p.os) (fun c=>c=afin) (pick fl l) a)∧vl P l.toArray sts w Q (l.drop fl.length) nds afin []) :
 (Code.region id l.toArray true).wpIn Fence.wide n P Q a w:=
 wpIn_wide.2 (od sts fl nds hm hB b h)
theorem qC {w:World} {tail:List Oper}:∀(nds:List Nd) (g:Act) (Φ:List (Nat × (World→Prop))),p8 P ops w Q tail nds g Φ→vl P ops [] w Q tail (nds.map fun d=>d.lift.lift) g Φ
 | [],g,Φ,h=>fun X m j=>h X (m.weaken (O':=fun _ _=>False) (fun x o ⟨p,b,_⟩=>by cases b)).below j
 | d::rest,g,Φ,⟨i,c,h3⟩=>by
  refine⟨⟨i,fun p b=>(by cases b),fun _ v X _ h=>h⟩,fun o s X m j=>?_,fun v=>qC rest _ _ (h3 v)⟩;have h:=c o s X (m.weaken (O':=fun _ _=>False) (fun x o ⟨p,b,_⟩=>by cases b)).below j
  change cz P d.R X ((execOp g.eval o).run P X) at h
  change kH P [] d.k d.R X ((execOp g.eval o).run P X)
  generalize (execOp g.eval o).run P X=r at *
  cases r with
  | ok nx w'=>
   cases nx<;>simp only[cz] at h<;>simp only[kH]
   case value u=>exact⟨.inl h.1,h.2⟩
   case enter f args=>exact⟨h.1,h.2.mono fun e q ⟨v,i,c,h3⟩=>⟨v,i,.inl c,h3⟩⟩
  | halt x w'=>simp only[cz] at h
theorem lM {id:Nat} {a:Act} {w:World} {l:List Oper} (fl:List Bool) (nds:List Nd) (hm:P.follows .mixedOrders=true)
 (hB:mB l.toArray fl fl.length a.tmps.size (nds.map fun d=>(d.k,d.deps))=true) (c:qi (pick fl l) a.tmps.size=true)
 (h:∃afin:Act,(∀X,Below w.heap.size w X→wpQuiet P l.toArray (fun j=>∃p:Regrown,j=grow (redrawn X p.d) p.os) (fun e=>e=afin) (pick fl l) a)∧p8 P l.toArray w Q (l.drop fl.length) nds afin []) :
 (Code.region id l.toArray true).wpIn Fence.wide n P Q a w:=by
 obtain⟨afin,f,b⟩:=h;exact mL [] fl (nds.map fun d=>d.lift.lift) hm (by rw[List.map_map];exact hB) c ⟨afin,fun X i=>f X (i.weaken (O':=fun _ _=>False) (fun x o ⟨p,m,_⟩=>by cases m)).below,qC nds afin _ b⟩
end
open Go.RowKit Go.Shelf
theorem Ew (k:FuncId):Fence.wide.fn k=True:=rfl
theorem xe:Fence.wide.depth=none:=rfl
open Go.RowKit Go.Shelf
def wB {α:Type} (n:Nat) (P:Program) (g:Nat) (lb:Array Value) (encs:α→Array Value) (K:World→Prop) (xs:List α):Prop:=
 ∀(l:Nat) (J:List α→World→Prop) (W:World),(∀s A,J s A→K A)→(∀s A B,J s A→Below A.heap.size A B→J s B) →
  (∀pre x rest c,xs=pre ++ x::rest→J pre c→YieldAt Fence.wide (n-1) P l (encs x) c fun e b=>e=.returned (.bool true)∧J (pre ++ [x]) b) →
  J [] W →
  CallsIn Fence.wide n P g (#[.func (.yield l) #[] #[]] ++ lb) W fun e b=>(∃v,e=.returned v)∧J xs b
theorem lf {α:Type} {n:Nat} {P:Program} {w:World} {g:Operand} {ps:Array Tmp} {assign body:Code} {Q:Exit→Act→World→Prop} {a:Act}
 {gf:Nat} {lb:Array Value} (hg:a.eval g=.func (.func gf) #[] lb) (eg:∀args w,(callFunc gf args).run P w=.ok (.enter gf args) w)
 {encs:α→Array Value} {K:World→Prop} {xs:List α} (hseq:wB (n-1) P gf lb encs K xs)
 (hps:∀x,(encs x).size=ps.size)
 (I:List α→World→Prop) (hI:OwnFrom w.heap.size I) (hIK:∀s A,I s A→K A) (h0:I [] w)
 (hround:∀(l:Nat) (pre:List α) (x:α) (rest:List α) (W:World),xs=pre ++ x::rest →
  assign.wpIn (Fence.wide.inRound l) (n-1-1) P (Exit.then (fun a' W'=>W=W'∧∀W2,I pre W2 →
   body.wpIn (Fence.wide.inRound l) (n-1-1) P (fun e _ W'=>e=.normal∧KeepsFrom w.heap.size W2 W'∧I (pre ++ [x]) W') a' W2) (fun _ _ _=>False))
   { tmps:=(ps.zip (encs x)).foldl (fun t (p,v)=>t.setIfInBounds p v) a.tmps,defers:=[] } W)
 (hdone:∀(D:Nat) (W:World),w.heap.size≤D→I xs W→W.heap[D]? = some (.deferred (some []))→Q .normal { a with defers:={ target:=.collected D,args:=#[] }::a.defers } W) :
 (Code.rangeFunc g ps assign body).wpIn Fence.wide n P Q a w:=by
 refine wpIn_rangeFunc ?_;intro fn hfn;obtain⟨rec,hrec⟩:∃rec:LoopState→Option Code→Loop,rec=fun s pe=>{ state:=s,pending:=pe,fn,tmps:=a.tmps,params:=ps,assign,body,defers:=w.heap.size }:=⟨_,rfl⟩;obtain⟨W1,hW1⟩:∃W1,(w.alloc (.deferred (some []))).alloc (.loop (rec .ready none))=W1:=⟨_,rfl⟩
 have hL1:W1.heap[w.heap.size+1]? = some (.loop (rec .ready none)):=by
  rw[←hW1];have:=World.alloc_heap_new (w.alloc (.deferred (some []))) (.loop (rec .ready none));rwa [World.size_alloc] at this
 have hK1:W1.heap[w.heap.size]? = some (.deferred (some [])):=by
  rw[←hW1];exact(Below.heap_alloc _ _ _ bm).trans (World.alloc_heap_new w _)
 have hI1:I [] W1:=by rw[←hW1];exact hI.alloc _ (hI.alloc _ h0)
 refine⟨w.heap.size+1,[{ target:=.collected w.heap.size,args:=#[] }],W1,{ target:=.fn (.func gf) lb,args:=#[.func (.yield (w.heap.size+1)) #[] #[]] },W1,gf,
  #[.func (.yield (w.heap.size+1)) #[] #[]] ++ lb,W1,?_,?_,fun _ _=>trivial,?_,fun e=>(by cases e),?_⟩
 · rw[←hW1,hrec];exact run_enterLoop_outer _ _ _ _ _
 · simp only[resolve,hg]
   simp[go_sem]
 · simp[invoke,go_sem,eg]
 · refine(hseq (w.heap.size+1)
    (fun pre W=>I pre W∧W.heap[w.heap.size+1]? = some (.loop (rec .ready none))∧W.heap[w.heap.size]? = some (.deferred (some [])))
    W1 (fun s A hs=>hIK s A hs.1)
    (fun s A B hs hb=>⟨hI s A B none hs.1 ⟨hb.os,hb.tape,hb.output,hb.size,fun k hk _=>hb.block k hk⟩ (fun r e=>(by cases e)),(hb.block _ (Array.getElem?_eq_some_iff.1 hs.2.1).1).trans hs.2.1,(hb.block _ (Array.getElem?_eq_some_iff.1 hs.2.2).1).trans hs.2.2⟩)
    ?_ ⟨hI1,hL1,hK1⟩).mono ?_
   · rintro pre x rest W hx ⟨hi,hl,hk⟩
     have hlt:w.heap.size+1<W.heap.size:=(Array.getElem?_eq_some_iff.1 hl).1;have hy:=run_yield (P:=P) (args:=encs x) hl (by rw[hrec];exact hps x);rw[hrec] at hy;refine⟨fn,_,assign,body,hy,roundIn_of_wpIn hfn (wpIn_mono (hround (w.heap.size+1) pre x rest W hx) ?_)⟩;clear hy;intro e0 _ W' he0
     cases e0<;>try exact he0.elim
     obtain⟨rfl,hbody⟩:=he0;refine⟨_,run_beginRound hl (by rw[hrec]),?_⟩;obtain⟨W2,hW2⟩:∃W2,W2=W.putObj (w.heap.size+1) (.loop { rec .ready none with state:=.busy }):=⟨_,rfl⟩
     have hl2:W2.heap[w.heap.size+1]? = some (.loop { rec .ready none with state:=.busy }):=by rw[hW2];exact World.putObj_heap_same hlt
     have hk2:W2.heap[w.heap.size]? = some (.deferred (some [])):=by rw[hW2];exact(World.putObj_heap_other ab).trans hk
     have hi2:I pre W2:=by rw[hW2];exact hI.putObj _ hi ab hl rfl
     rw[←hW2];refine wpIn_mono (hbody W2 hi2) ?_
     rintro e a3 W3 ⟨rfl,hk3,hi3⟩
     have hl3:=hk3.same _ _ ab hl2 rfl;have hr:=run_endRound (P:=P) none hl3;refine⟨_,_,hr,rfl,?_,?_,?_⟩
     · exact hI.putObj _ hi3 ab hl3 rfl
     · rw[World.putObj_heap_same (Array.getElem?_eq_some_iff.1 hl3).1,hrec];rfl
     · exact(World.putObj_heap_other ab).trans (hk3.same _ _ (Nat.le_refl _) hk2 rfl)
   · rintro e W2 ⟨⟨v,rfl⟩,hi,hl,hk⟩
     exact⟨none,_,by have:=run_endLoop (P:=P) hl (by rw[hrec];simp);rw[hrec] at this;exact this,hdone _ _ (Nat.le_refl _) (hI.putObj _ hi ab hl rfl) ((World.putObj_heap_other ab).trans hk)⟩
open Go.RowKit Go.Sort Go.Shelf
variable {ds:List Deferred}
def ET (X:World) (b:Nat):Prop:=∃o:Obj,X.heap[b]? = some o∧o.isCells=true
def Ent.tame (B:Nat):Ent→Prop
 | .box .. | .byt .. | .row ..=>True
 | e=>∀b,e.dom b→b<B
theorem Ent.tame_cells {B:Nat} {X:World} {e:Ent} (h:e.tame B) (f:e.ok X) {b:Nat} (j:e.dom b):b<B∨ET X b:=by
 cases e with
 | box c cs T=>obtain rfl:b=c:=j;exact .inr ⟨_,f,rfl⟩
 | byt c l=>obtain rfl:b=c:=j;obtain⟨cs,T,fr,k,_⟩:=f;exact .inr ⟨_,k,rfl⟩
 | row v n T sz xs=>
  obtain⟨k,m⟩:=f;have i:v.ownBlock=some b:=j;rcases m with ⟨rfl,_⟩ | ⟨g,cap,cur,rfl,_,h3,_⟩
  · cases i
  · obtain rfl:g=b:=by injection i
    exact .inr ⟨_,h3,rfl⟩
 | rd lo hi A xs=>exact .inl (h b j)
 | inv D φ st=>exact .inl (h b j)
def Cu (L:List Ent):List Ent→Prop
 | []=>True
 | e::l=>(match e with | .box .. | .byt .. | .row ..=>True | e=>e∈L)∧Cu L l
theorem sJ {L:List Ent} {B:Nat} (hB:∀e∈L,∀b,e.dom b→b<B):∀{l:List Ent},Cu L l→∀e∈l,e.tame B
 | [],_,e,h=>by cases h
 | f::l,⟨h1,h2⟩,e,h=>by
  rcases List.mem_cons.1 h with rfl | h
  · cases e with
    | box c cs T=>trivial
    | byt c l=>trivial
    | row v n T sz xs=>trivial
    | rd lo hi A xs=>exact fun b i=>hB _ h1 b i
    | inv D φ st=>exact fun b i=>hB _ h1 b i
  · exact sJ hB h2 e h
section
variable {M:List Nat} {w X X':World} {L:List Ent}
theorem St.records {B:Nat} (h:St M w X L) (ht:∀e∈L,e.tame B) (hB:w.heap.size≤B) {row:Option Nat} (j:X.grownBy X' row) (hr:∀r,row=some r→B≤r∧∃o:Obj,X.heap[r]? = some o∧o.isCells=false):St M w X' L:=by
 have m:∀e∈L,∀b,e.dom b→some b≠row:=fun e i b f c=>by
  obtain⟨s,o,p,h3⟩:=hr b c.symm;rcases Ent.tame_cells (ht e i) (h.ok e i) f with k | ⟨o',k,h5⟩
  · omega
  · rw[p] at k;injection k with k;rw[k,h5] at h3;cases h3
 refine⟨j.os.trans h.os,j.tape.trans h.tape,j.output.trans h.output,Nat.le_trans h.size j.size,fun b f q=>?_,fun e i=>Ent.ok_of (h.ok e i) (fun b f=>j.block b (h.new e i b f).2 (m e i b f)),
  fun e i b f=>⟨(h.new e i b f).1,Nat.lt_of_lt_of_le (h.new e i b f).2 j.size⟩,h.sep⟩
 refine(j.block b (Nat.lt_of_lt_of_le f h.size) (fun c=>?_)).trans (h.block b f q);have:=(hr b c.symm).1;omega
open Classical in
noncomputable def gq (X:World) (L:List Ent):List Nat:=(List.range X.heap.size).filter fun b=>decide (∃e∈L,e.dom b)
theorem mem_domsL {b:Nat}:b∈gq X L↔b<X.heap.size∧∃e∈L,e.dom b:=by
 unfold gq;rw[List.mem_filter,List.mem_range];simp
theorem St.inner (h:St M w X L):St (gq X L) X X L:=
 ⟨rfl,rfl,rfl,Nat.le_refl _,fun _ _ _=>rfl,h.ok,fun e c b f=>⟨.inr (mem_domsL.2 ⟨(h.new e c b f).2,e,c,f⟩),(h.new e c b f).2⟩,h.sep⟩
theorem St.outer {p:List Ent} (h:St M w X L) (h':St (gq X L) X X' p):St M w X' p:=by
 refine⟨h'.os.trans h.os,h'.tape.trans h.tape,h'.output.trans h.output,Nat.le_trans h.size h'.size,fun b i m=>?_,h'.ok,fun e j b i=>⟨?_,(h'.new e j b i).2⟩,h'.sep⟩
 · refine(h'.block b (Nat.lt_of_lt_of_le i h.size) (fun hm=>?_)).trans (h.block b i m)
   obtain⟨_,e,j,k⟩:=mem_domsL.1 hm;rcases (h.new e j b k).1 with c | c
   · omega
   · exact m c
 · rcases (h'.new e j b i).1 with c | c
   · exact .inl (Nat.le_trans h.size c)
   · obtain⟨_,f,hf,k⟩:=mem_domsL.1 c
     exact(h.new f hf b k).1
theorem St.keepsFrom {B:Nat} {p:List Ent} (h:St M w X L) (ht:∀e∈L,e.tame B) (h':St (gq X L) X X' p):KeepsFrom B X X':=
 ⟨h'.size,fun k o q f i=>by
  have c:k<X.heap.size:=(Array.getElem?_eq_some_iff.1 f).1;refine(h'.block k c (fun hm=>?_)).trans f;obtain⟨_,e,j,m⟩:=mem_domsL.1 hm;rcases Ent.tame_cells (ht e j) (h.ok e j) m with b | ⟨o',b,h5⟩
  · omega
  · rw[f] at b;injection b with b;rw[b,h5] at i;cases i⟩
def nQ (D:Nat):Ent:=.inv (fun b=>b=D) (fun X=>X.heap[D]? = some (.deferred (some []))) (fun X X' h c=>(c D rfl).trans h)
def GS:Ent:=.inv (fun _=>False) (fun _=>True) (fun _ _ h _=>h)
def mk (D:Nat):Deferred:={ target:=.collected D,args:=#[] }
theorem St.mark {B D:Nat} (h:St M w X L) (ht:∀e∈L,e.tame B) (q:w.heap.size≤B) (p:B≤D) (hm:X.heap[D]? = some (.deferred (some []))):St M w X (nQ D::L):=by
 have k:D<X.heap.size:=(Array.getElem?_eq_some_iff.1 hm).1;refine⟨h.os,h.tape,h.output,h.size,h.block,fun e c=>?_,fun e c b j=>?_,List.pairwise_cons.2 ⟨fun f hf b j m=>?_,h.sep⟩⟩
 · rcases List.mem_cons.1 c with rfl | c
   · exact hm
   · exact h.ok e c
 · rcases List.mem_cons.1 c with rfl | c
   · obtain rfl:b=D:=j;exact⟨.inl ab,k⟩
   · exact h.new e c b j
 · obtain rfl:b=D:=j
   rcases Ent.tame_cells (ht f hf) (h.ok f hf) m with i | ⟨o',i,h5⟩
   · omega
   · rw[hm] at i;injection i with i;rw[←i] at h5;cases h5
theorem St.taken {i D:Nat} (h:St M w X L) (f:L[i]? = some (nQ D)):St M w (X.putObj D (.deferred none)) (L.set i GS):=
 h.turn f rfl rfl rfl (by rw[World.putObj_size];exact Nat.le_refl _) (fun b e c=>World.putObj_heap_other c) trivial (fun b e=>e.elim)
end
theorem St.append {M:List Nat} {w X X':World} {L q:List Ent} (h:St M w X L) (h':St [] X X' q):St M w X' (q ++ L):=by
 have i:=h.grow h'.below;refine⟨i.os,i.tape,i.output,i.size,i.block,fun e c=>?_,fun e c b j=>?_,List.pairwise_append.2 ⟨h'.sep,h.sep,fun e c f hf b j m=>?_⟩⟩
 · rcases List.mem_append.1 c with c | c
   · exact h'.ok e c
   · exact i.ok e c
 · rcases List.mem_append.1 c with c | c
   · rcases (h'.new e c b j).1 with k | k
     · exact⟨.inl (Nat.le_trans h.size k),(h'.new e c b j).2⟩
     · cases k
   · exact i.new e c b j
 · have k:=(h.new f hf b m).2
   rcases (h'.new e c b j).1 with p | p
   · omega
   · cases p
theorem df {κ:Type} {P:Program} {ops:Array Oper} {Q:Exit→Act→World→Prop} {rest:List Oper} {o:Oper} {a:Act} {X w:World} {N d:Nat} {l:List (Nat × Value)} {M:List Nat} {L:List Ent} {f:FuncId} {args:Array Value} {V:κ→Value} {c:κ→List Ent}
 (t:Has ds a N l) (m:Region.wanted o (yielded ops a.tmps)=true) (hx:(execOp a.eval o).run P X=.ok (.enter f args) X) (q:o.dst=some d) (h:Nat.blt d N=true) (p:St M w X L)
 (j:Calls P f args X fun e X'=>∃i,e=.returned (V i)∧St [] X X' (c i)) (k:∀i b X',Has ds b N ((d,V i)::l)→St M w X' (c i ++ L)→wpList P ops Q rest b X'):wpList P ops Q (o::rest) a X:=
 kr t m hx q h j fun e X' ⟨i,s,r⟩=>⟨V i,s,fun b h'=>k i b X' h' (p.append r)⟩
section
variable {P:Program} {Q:Exit→Act→World→Prop} {a:Act} {X:World} {N n:Nat} {l:List (Nat × Value)} {fn:Func} {R:Ending→World→Prop}
theorem AQ {f:FuncId} {fn:Func} {c:Code} {vs:List Value} {R:Ending→World→Prop} (hf:P.funcs[f]? = some fn) (e:fn.body=some c) (i:fn.ntmps=N) (b:Nat.ble vs.length N=true)
 (h:∀a,Has [] a N (zE 0 vs)→c.wp P (bodyPostM Fence.wide 6 P fn R) a X):Calls P f vs.toArray X R:=by
 refine(callsIn_wide (n:=6)).1 (callsIn_of_wp_marks hf e trivial (wpIn_wide.2 ?_) rfl);rw[i];exact h _ (ve b)
theorem xG (b:Has ds a N l) (h:LeavesInM Fence.wide n P fn a.tmps R ds .returning X):bodyPostM Fence.wide n P fn R .ret a X:=by
 show LeavesInM Fence.wide n P fn a.tmps R a.defers .returning X;rw[b.defers];exact h
theorem oH {M:List Nat} {w:World} {L:List Ent} {i D:Nat} {t:Array Value} (b:St M w X L) (c:L[i]? = some (nQ D)) (k:∀X',St M w X' (L.set i GS)→LeavesInM Fence.wide n P fn t R ds .returning X') :
 LeavesInM Fence.wide n P fn t R (mk D::ds) .returning X:=
 ⟨by simp,.inl ⟨D,_,rfl,run_takeDeferred (b.at_ c),k _ (b.taken c)⟩⟩
theorem wC (c:Has ds a N l) (h:∀b,Has [] b N l→bodyPost P fn R .ret b X):LeavesInM Fence.wide n P fn a.tmps R [] .returning X:=by
 obtain⟨_,v,f,e⟩:=h { a with defers:=[] } ⟨rfl,c.size,c.slot⟩;exact⟨v,f,e⟩
end
theorem ie {Q:Exit→Act→World→Prop} {K:Act→World→Prop} (h:¬LetsOut Q):¬LetsOut (Exit.then K Q):=h
theorem gC {Q:Exit→Act→World→Prop} {id:Nat} (h:¬LetsOut Q):¬LetsOut (Exit.inBlock id Q):=h
theorem rH:¬LetsOut (fun _ _ _=>False):=fun ⟨_,_,h⟩=>h
theorem ji {R:Act→World→Prop}:¬LetsOut (fun e a X=>e=.normal∧R a X):=fun ⟨_,_,h⟩=>by cases h.1
section
variable {P:Program} {ops:Array Oper} {Q:Exit→Act→World→Prop} {lr n:Nat} {a:Act} {X:World}
theorem nY (k:¬LetsOut Q):∀(l:List Oper),(∀o∈l,∀c,o.op≠.defer c)→∀(a:Act) (w:World),wpList P ops Q l a w→wpListIn (Fence.wide.inRound lr) n P ops Q l a w
 | [],_,_,_,h=>h
 | o::l,hd,a,w,h=>by
  have b:=nY k l (fun o p=>hd o (List.mem_cons_of_mem _ p));unfold wpList at h;unfold wpListIn
  split
  · rename_i j
    rw[if_pos j] at h;have h:=h.resolve_right (fun h=>k h.2);unfold Oper.wp at h;unfold Oper.wpIn;refine⟨fun _ _=>trivial,?_⟩;rw[show(Fence.wide.inRound lr).round=some lr from rfl,Oper.semAt_some lr _ _ (hd o (List.mem_cons_self))];generalize (execOp a.eval o).run P w=r at *
    cases r with
    | ok x w'=>
     cases x<;>simp only[Oper.upon,Oper.uponIn] at h ⊢
     case value v=>exact b _ _ h
     case skip=>exact b _ _ h
     case defer d=>exact b _ _ h
     case enter f args=>exact⟨fun e=>(by cases e),CallsIn.inRound lr (callsIn_wide.2 (h.mono fun e i m=>by cases e<;>first | exact b _ _ m | exact m))⟩
     case row row args=>exact⟨fun e=>(by cases e),fun c cs _=>let ⟨v,i,hr,hs⟩:=h c cs;⟨v,i,b _ _ hr,stepsIn_wide.2 hs⟩⟩
    | halt x w'=>cases x<;>simp only[Oper.upon,Oper.uponIn] at h ⊢<;>exact h
  · rename_i j
    rw[if_neg j] at h;exact⟨fun _ _=>trivial,b _ _ h⟩
theorem C6 {l:List Oper} (h:iB l.toArray=true):∀o∈l,∀c,o.op≠.defer c:=fun o e=>by
 obtain⟨i,b,rfl⟩:=List.getElem_of_mem e;exact ye h (i:=i) (by simp[b])
theorem tP {id:Nat} {l:List Oper} (c:iB l.toArray=true) (b:¬LetsOut Q) (h:wpList P l.toArray Q l a X):(Code.region id l.toArray false).wpIn (Fence.wide.inRound lr) n P Q a X:=
 wpIn_region_lit (nY b l (C6 c) _ _ h)
theorem yK {id:Nat} {l:List Oper} (hm:P.follows .mixedOrders=true) (c:iB l.toArray=true) (b:¬LetsOut Q) (h:o9 P l Q a X):(Code.region id l.toArray true).wpIn (Fence.wide.inRound lr) n P Q a X:=
 wpIn_region_any hm (pv c b _ _ _ _ h)
end
theorem ss {α ι:Type} {P:Program} {M:List Nat} {w X:World} {L:List Ent} {N p:Nat} {l:List (Nat × Value)} {a:Act} {Q:Exit→Act→World→Prop} {g:Operand} {assign body:Code} (s:Has ds a N l) (G:St M w X L)
 (gf:Nat) (lb:Array Value) (U:E2 l g=some (.func (.func gf) #[] lb)) (T:∀args w,(callFunc gf args).run P w=.ok (.enter gf args) w) (enc:α→Value) {K:World→Prop} (xs:List α) (v:wB 5 P gf lb (fun x=>#[enc x]) K xs)
 (F:List α→ι→Prop) (E:ι→List Ent) (hp:Nat.blt p N=true) (hT:∀i,Cu L (E i)) (V:∀i A,St M w A (E i)→K A) (I:ι) (h0:F [] I) (Z:St M w X (E I))
 (j:∀(lr:Nat) (pre:List α) (x:α) (rest:List α) (W:World) (O:Act),xs=pre ++ x::rest→Has [] O N ((p,enc x)::l) →
  assign.wpIn (Fence.wide.inRound lr) 4 P (Exit.then (fun u z=>W=z∧∀i m,F pre i→St (gq m (E i)) m m (E i) →
   body.wpIn (Fence.wide.inRound lr) 4 P (fun e a2 z=>e=.normal∧∃y,F (pre ++ [x]) y∧St (gq m (E i)) m z (E y)) u m) (fun _ _ _=>False)) O W)
 (r:∀D u X' i,F xs i→Has (mk D::ds) u N l→St M w X' (nQ D::E i)→Q .normal u X'):(Code.rangeFunc g #[p] assign body).wp P Q a X:=by
 have c:∀i,∀e∈E i,e.tame X.heap.size:=fun i=>sJ (fun e B b H=>(G.new e B b H).2) (hT i)
 refine(wpIn_wide (n:=6)).1 (lf (gf:=gf) (lb:=lb) (s.ev U) T (encs:=fun x=>#[enc x]) (K:=K) (xs:=xs) v (fun _=>rfl)
  (fun pre A=>∃i,F pre i∧St M w A (E i)) ?_ (fun pre A ⟨i,_,h⟩=>V i A h) ⟨I,h0,Z⟩ ?_ ?_)
 · intro pre A A' row ⟨i,hF,h⟩ J hr
   exact⟨i,hF,h.records (c i) G.size J hr⟩
 · intro lr pre x rest W hx
   have Y:=j lr pre x rest W { tmps:=((#[p]:Array Tmp).zip #[enc x]).foldl (fun t (q:Tmp × Value)=>t.setIfInBounds q.1 q.2) a.tmps,defers:=[] } hx (by
    have S:=s.put hp (enc x)
    have h2:((#[p]:Array Tmp).zip #[enc x]).foldl (fun t (q:Tmp × Value)=>t.setIfInBounds q.1 q.2) a.tmps=(a.put (some p) (enc x)).tmps:=by simp[Act.put]
    rw[h2]
    exact⟨rfl,S.size,S.slot⟩)
   refine wpIn_mono Y ?_;intro e u z B
   cases e<;>try exact B.elim
   obtain⟨rfl,H⟩:=B;refine⟨rfl,fun m ⟨i,hF,f⟩=>?_⟩;refine wpIn_mono (H i m hF f.inner) ?_
   rintro e a2 W3 ⟨rfl,y,C,k⟩
   exact⟨rfl,f.keepsFrom (c i) k,y,C,f.outer k⟩
 · rintro D W hD ⟨i,hF,f⟩ hm
   exact r D _ W i hF ⟨by show mk D::a.defers=_;rw[s.defers],s.size,s.slot⟩ (f.mark (c i) G.size hD hm)
end Go.Proofs.YtcfdpfmchchkaaaGreatDoor
