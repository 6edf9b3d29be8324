/-
  A drawn region with several appends, each onto what the one before it gave, the first one onto a literal without elements. No program in sight.
  A drawn region in which several new boxes, maybe of one type, are laid and stored over as a whole, by values that no order turns. No program in sight.
-/
import Derived.Test.YtcfdpfmchchkaaaGreatDoorRcL
namespace Go.Proofs.YtcfdpfmchchkaaaGreatDoor
set_option linter.unusedVariables false
set_option linter.unusedSimpArgs false
open Go.RowKit Go.Sort
variable {ds:List Deferred}
def jW (B:Nat) (cs:List (Nat × Nat)):List sX:=cs.map fun p=>(p.1,(fun b _=>B≤b),kT p.2)
theorem jS {B:Nat} {cs:List (Nat × Nat)} {p:sX} (h:p∈jW B cs):∃q∈cs,p=(q.1,(fun b _=>B≤b),kT q.2):=by
 obtain⟨q,h1,h2⟩:=List.mem_map.1 h;exact⟨q,h1,h2.symm⟩
section
variable {P:Program} {ops:Array Oper} {Q:Exit→Act→World→Prop} {w:World} {tail:List Oper} {l:List (Nat × Value)} {o:Oper} {a:Act} {N d:Nat} {cs:List (Nat × Nat)}
theorem wy {X:World} (h:Grw (jd (jW w.heap.size cs)) w X):Below w.heap.size w X:=pX (h.weaken fun b o ⟨p,hp,hpo⟩=>by
 obtain⟨q,_,rfl⟩:=jS hp;exact hpo)
theorem xn {k:Nat} {X:World} (h:Grw (pw (jW w.heap.size cs) k) w X):Below w.heap.size w X:=pX (h.weaken fun b o ⟨p,hp,_,hpo⟩=>by
 obtain⟨q,_,rfl⟩:=jS hp;exact hpo)
theorem wS {N:Nat} {a:Act} {w:World} {l:List Oper} {sl:List (Nat × Value)} (ha:Has ds a N sl) (cs:List (Nat × Nat)) (fl:List Bool) (nds:List NdB)
 (h:dE P l.toArray (Below w.heap.size w) (fun g=>ep P l.toArray (jW w.heap.size cs) w Q (l.drop fl.length) nds g []) (pick fl l) a)
 (hB:fW l.toArray fl fl.length N (nds.map fun d=>(d.k,d.deps))=true):kL P l Q a w:=by
 obtain⟨afin,h1,h2⟩:=gi _ _ h;exact ko (jW w.heap.size cs) fl nds (by rw[ha.size];exact hB) ⟨afin,gx (fun X hX=>wy hX) _ _ h1,h2⟩
theorem qx {id N:Nat} {a:Act} {w:World} {l:List Oper} {sl:List (Nat × Value)} (ha:Has ds a N sl) (cs:List (Nat × Nat)) (fl:List Bool) (nds:List NdB) (hm:P.follows .mixedOrders=true)
 (h:dE P l.toArray (Below w.heap.size w) (fun g=>ep P l.toArray (jW w.heap.size cs) w Q (l.drop fl.length) nds g []) (pick fl l) a)
 (hB:fW l.toArray fl fl.length N (nds.map fun d=>(d.k,d.deps))=true):(Code.region id l.toArray true).wp P Q a w:=wp_region_any hm (wS ha cs fl nds h hB)
theorem iM {nds:List NdB} {k:Nat} {deps:List Nat} {R:Value→World→Prop} {Φ:List (Nat × (World→Prop))} (ha:Has ds a N l) (ho:ops[k]? = some o) (hd:o.dst=some d) (hN:Nat.blt d N=true)
 (hst:∀v X X',R v X→Below X.heap.size X X'→R v X') (hst2:∀p∈cs,∀v X X',R v X→Kp (fun b=>w.heap.size≤b) p.2 X X'→R v X') (hx:∀X,Below w.heap.size w X→told deps Φ X→cd P R X ((execOp a.eval o).run P X))
 (k':∀v a',Has ds a' N ((d,v)::l)→ep P ops (jW w.heap.size cs) w Q tail nds a' ((k,R v)::Φ)):ep P ops (jW w.heap.size cs) w Q tail (⟨k,deps,fun _=>R⟩::nds) a Φ:=by
 refine⟨⟨fun v X X'=>hst v X X',fun p hp _ _ v X X' hR hX=>?_,fun _ _ _ _ h=>h⟩,fun o' ho' X hX hE hΦ=>?_,fun v=>?_⟩
 · obtain⟨q,h1,rfl⟩:=jS hp
   exact hst2 q h1 v X X' hR hX
 · rw[ho] at ho';cases ho'
   exact nY (hx X (xn hX) hΦ)
 · have e:aM ops k=some d:=by unfold aM;rw[ho];exact hd
   show ep P ops (jW w.heap.size cs) w Q tail nds (a.put (aM ops k) v) _;rw[e];exact k' v _ (ha.put hN v)
theorem vn {nds:List NdB} {k K:Nat} {deps:List Nat} {R:Value→World→Prop} {Φ:List (Nat × (World→Prop))} (ha:Has ds a N l) (ho:ops[k]? = some o) (hd:o.dst=some d) (hN:Nat.blt d N=true) (hk:(k,K)∈cs)
 (hst:∀v X X',R v X→Below X.heap.size X X'→R v X') (hst2:∀p∈cs,p.1≠k→∀v X X',R v X→Kp (fun b=>w.heap.size≤b) p.2 X X'→R v X') (hx:∀X,Below w.heap.size w X→told deps Φ X→eb P (fun b=>w.heap.size≤b) K R X ((execOp a.eval o).run P X))
 (k':∀v a',Has ds a' N ((d,v)::l)→ep P ops (jW w.heap.size cs) w Q tail nds a' ((k,R v)::Φ)):ep P ops (jW w.heap.size cs) w Q tail (⟨k,deps,fun _=>R⟩::nds) a Φ:=by
 refine⟨⟨fun v X X'=>hst v X X',fun p hp hne _ v X X' hR hX=>?_,fun _ _ _ _ h=>h⟩,fun o' ho' X hX hE hΦ=>?_,fun v=>?_⟩
 · obtain⟨q,h1,rfl⟩:=jS hp
   exact hst2 q h1 hne v X X' hR hX
 · rw[ho] at ho';cases ho'
   have h:=hx X (xn hX) hΦ;have hp:(k,(fun b (_:Option Obj)=>w.heap.size≤b),kT K)∈jW w.heap.size cs:=List.mem_map.2 ⟨_,hk,rfl⟩;show dZ P _ k R X ((execOp a.eval o).run P X);generalize (execOp a.eval o).run P X=r at *
   cases r with
   | ok nx w'=>
    cases nx<;>simp only[eb] at h<;>simp only[dZ]
    case value u=>exact⟨.inr ⟨_,hp,rfl,h.1⟩,h.2⟩
    case skip=>exact⟨.inr ⟨_,hp,rfl,h.1⟩,h.2⟩
    case enter f args=>exact⟨h.1,h.2.mono fun e X'' ⟨v,h1,h2,h3⟩=>⟨v,h1,.inr ⟨_,hp,rfl,h2⟩,h3⟩⟩
   | halt x w'=>simp only[eb] at h
 · have e:aM ops k=some d:=by unfold aM;rw[ho];exact hd
   show ep P ops (jW w.heap.size cs) w Q tail nds (a.put (aM ops k) v) _;rw[e];exact k' v _ (ha.put hN v)
theorem wD {Φ:List (Nat × (World→Prop))} (h:∀X,Below w.heap.size w X→dy Φ X→wpList P ops Q tail a X):ep P ops (jW w.heap.size cs) w Q tail [] a Φ:=fun X hX hΦ=>h X (wy hX) hΦ
end
section
variable {P:Program} {ρ:Operand→Value} {X:World}
theorem pH {o:Oper} {s x:Operand} {t e:TypeId} {z v1 v2:Value} {m sz bytes B:Nat} {cs:Array Value} {news:List Value} (ho:o.op=.call { callee:=.builtin .append,args:=#[s,x],argTypes:=#[t,t] })
 (ht:P.underlying t=some (.slice e)) (hinfo:(P.info? e).map (fun i=>(i.zero,i.size,i.bytes))=some (some z,sz,bytes)) (hz:z.cells.size=sz) (hsz:Nat.blt 0 sz=true) (hs:ρ s=v1) (hx:ρ x=v2)
 (hO:NewB B (fun b=>.slice (some ⟨b,0,none⟩) 0 0) cs e v1 X) (hcs:cs.size=0) (h2:∃A c,v2=.slice A m c∧Rd X X.heap.size A news) (hl:news.length=m*sz) (h1:∀u∈news,u.oneCell'=true) (hb:m≤1000000∧bytes≤1000000) (hB:B≤X.heap.size) :
 cd P (OwnC B e sz m news) X ((execOp ρ o).run P X):=by
 by_cases hm:m=0
 · subst hm
   obtain⟨q,hq,hz1,hz2,hz3⟩:=iE hinfo;obtain⟨b,rfl,hBb,hbx⟩:=hO;obtain⟨A,c,rfl,hr⟩:=h2;have hn:news=[]:=List.eq_nil_of_length_eq_zero (by simpa using hl);subst hn
   have hex:(execOp ρ o).run P X=.ok (.value (.slice (some ⟨b,0,none⟩) 0 0)) X:=by
    unfold execOp;simp[ho,resolve,invoke,builtin,hs,hx,Builtin.append_,run_underlying ht,sizeOf,typeInfo,hq,Builtin.lenOf,Builtin.firstCells,storeCells]
    cases A<;>simp[loadCells,loadCellsFrom,storeCells]
   rw[hex];exact⟨Below.refl _ _,⟨_,_,rfl,by simp,.inr ⟨b,0,cs,rfl,hBb,hbx,Nat.le_refl _,Nat.zero_le _,by simpa using hcs,by simp⟩⟩,fun _=>⟨_,rfl⟩⟩
 · have h:=oq ho ht hinfo hz hsz hs hx hO hcs h2 hl h1 hb hB
   generalize (execOp ρ o).run P X=r at *
   cases r with
   | ok nx w'=>
    cases nx<;>simp only[cd] at h ⊢
    case value u=>exact⟨h.1,h.2,fun h0=>absurd h0 hm⟩
    case enter f args=>exact⟨h.1,h.2.mono fun e X'' ⟨v,h1,h2,h3⟩=>⟨v,h1,h2,h3,fun h0=>absurd h0 hm⟩⟩
   | halt x w'=>simp only[cd] at h
end
open Go.RowKit Go.Sort
variable {ds:List Deferred}
structure BxD where
 a:Nat
 s:Nat
 x:Tmp
 y:Tmp
 T:TypeId
 z:Array Value
 v:Value
section
variable {P:Program} {ops:Array Oper} {Q:Exit→Act→World→Prop} {w:World} {tail:List Oper}
structure BoxI (listed:Array Bool) (w:World) (bs:List BxD) (vals:Nat→Value) (X:World):Prop where
 box:∀q∈bs,listed.getD q.a false=true→∃b,vals q.a=.pointer (some ⟨b,0,none⟩)∧w.heap.size≤b∧Box X b (if listed.getD q.s false=true then q.v.cells else q.z) q.T
 ne:∀q∈bs,∀r∈bs,q.a≠r.a→listed.getD q.a false=true→listed.getD r.a false=true→vals q.a≠vals r.a
variable {n N:Nat} {fl:List Bool} {bs:List BxD} {a afin:Act}
end
theorem lQ {ι:Type} {P:Program} {Q:Exit→Act→World→Prop} {a:Act} {X:World} {N:Nat} {l:List (Nat × Value)} {c:Code} {M:List Nat} {w:World} {L:List Ent} (ha:Has ds a N l) (hS:St M w X L) (J:ι→List (Nat × Value)) (ks:List Nat) (E:ι→List Ent→List Ent) (F:ι→Prop)
 (h1:c.wp P (Exit.then (fun a' X'=>∃i,Has ds a' N (J i ++ fT l ks)∧St M w X' (E i L)∧F i) Q) a X) (h2:∀i a' X',Has ds a' N (J i ++ fT l ks)→St M w X' (E i L)→F i→Q .normal a' X'):c.wp P Q a X:=
 ly _ h1 fun a' X' h=>let ⟨i,h3,h4,h5⟩:=h;h2 i a' X' h3 h4 h5
theorem St.pull' {M:List Nat} {w X:World} {L:List Ent} (h:St M w X L) (i:Nat) {e:Ent} (hi:L[i]? = some e):St M w X (e::L.eraseIdx i):=by
 obtain⟨hlt,rfl⟩:=List.getElem?_eq_some_iff.1 hi
 have e:L=L.take i ++ L[i]::L.drop (i+1):=by rw[←List.drop_eq_getElem_cons hlt,List.take_append_drop]
 have hp:List.Perm L (L[i]::L.eraseIdx i):=by
  rw[List.eraseIdx_eq_take_drop_succ]
  conv=>lhs;rw[e]
  exact List.perm_middle
 exact⟨h.os,h.tape,h.output,h.size,h.block,fun f hf=>h.ok f (hp.mem_iff.2 hf),fun f hf=>h.new f (hp.mem_iff.2 hf),(hp.pairwise_iff (fun {x y} hxy b hb hb'=>hxy b hb' hb)).1 h.sep⟩
theorem St.rowTo {M:List Nat} {w X:World} {L:List Ent} {i n n' sz c:Nat} {A:Option Addr} {T:TypeId} {xs xs':List Value} (h:St M w X L) (hi:L[i]? = some (.row (.slice A n c) n T sz xs)) (hn:n=n') (e:xs=xs'):St M w X (L.set i (.row (.slice A n' c) n' T sz xs')):=by
 subst hn e
 have:L.set i (.row (.slice A n c) n T sz xs)=L:=by
  apply List.ext_getElem?;intro j;rw[List.getElem?_set]
  split
  · rename_i hij;subst hij
    split
    · exact hi.symm
    · rename_i h2;rw[List.getElem?_eq_none (by omega)]
  · rfl
 rw[this];exact h
def oF (A:Option Addr) (c l sz:Nat):Option Addr:=if c=l then A else A.map (·.add (l*sz))
section
variable {P:Program} {ρ:Operand→Value} {X:World} {d:Option Tmp} {ty:TypeId} {ps:String} {af:Array Edge} {g:Option (Nat × Bool)}
theorem fv {x:Operand} {t e:TypeId} {A:Option Addr} {n c l h sz:Nat} {lo hi:Option Operand} (ht:P.underlying t=some (.slice e)) (hs:(P.info? e).map (·.size)=some sz) (hx:ρ x=.slice A n c) (hlo:match lo with | some y=>ρ y=.int .i64 (l:Nat) | none=>l=0) (hhi:match hi with | some y=>ρ y=.int .i64 (h:Nat) | none=>h=n) (h1:l≤h) (h2:h≤c) :
 (execOp ρ ⟨d,.slice t x lo hi none,ty,ps,af,g⟩).run P X=.ok (.value (.slice (oF A c l sz) (h-l) (c-l))) X:=by
 unfold oF
 cases hq:P.info? e with
 | none=>rw[hq] at hs;cases hs
 | some q=>
  rw[hq] at hs
  have hqs:q.size=sz:=by simpa using hs
  cases lo<;>cases hi<;>simp only at hlo hhi
  · subst hlo hhi;simp[execOp,hx,Instr.sliceAt,Instr.slice,run_underlying ht,Instr.sliceBounds,sizeOf,typeInfo,hq,hqs]
  · subst hlo;simp[execOp,hx,hhi,Instr.sliceAt,Instr.slice,run_underlying ht,Instr.sliceBounds,Instr.sliceBound,asIntOf,h2,sizeOf,typeInfo,hq,hqs]
  · subst hhi;simp[execOp,hx,hlo,Instr.sliceAt,Instr.slice,run_underlying ht,Instr.sliceBounds,Instr.sliceBound,asIntOf,h1,sizeOf,typeInfo,hq,hqs]
  · simp[execOp,hx,hlo,hhi,Instr.sliceAt,Instr.slice,run_underlying ht,Instr.sliceBounds,Instr.sliceBound,asIntOf,h1,h2,sizeOf,typeInfo,hq,hqs]
end
theorem Rd.offA' {w:World} {B c k sz:Nat} {A:Option Addr} {xs:List Value} (h:Rd w B A xs) (hc:xs.length≤c*sz):Rd w B (oF A c k sz) (xs.drop (k*sz)):=fun j u hj=>by
 rw[List.getElem?_drop] at hj;obtain⟨b,o,rfl,h1,h2⟩:=h _ u hj;have hlt:=(List.getElem?_eq_some_iff.1 hj).1;unfold oF;rw[if_neg (fun e=>by subst e;omega)];exact⟨b,o+k*sz,by rw[Option.map_some,dF],h1,by rw[Nat.add_assoc];exact h2⟩
theorem jx {α:Type} {f:α→List Value} {n:Nat} (hf:∀x,(f x).length=n) (l:List α) {k q:Nat} (hk:k<l.length) (hq:q<n) (y:α) (v:Value) (hy:f y=(f l[k]).take q ++ [v] ++ (f l[k]).drop (q+1)) :
 (l.set k y).flatMap f=(l.flatMap f).take (k*n+q) ++ [v] ++ (l.flatMap f).drop (k*n+q+1):=by
 have hT:∀l:List α,(l.flatMap f).length=l.length*n:=by
  intro l
  induction l with
  | nil=>simp
  | cons x l ih=>rw[List.flatMap_cons,List.length_append,hf,ih,List.length_cons,Nat.add_mul];omega
 have e0:l=l.take k ++ l[k]::l.drop (k+1):=by rw[←List.drop_eq_getElem_cons hk,List.take_append_drop]
 have e1:l.set k y=l.take k ++ y::l.drop (k+1):=List.set_eq_take_append_cons_drop.trans (if_pos hk)
 have hl:((l.take k).flatMap f).length=k*n:=by rw[hT,List.length_take];congr 1;omega
 have eF:l.flatMap f=(l.take k).flatMap f ++ (f l[k] ++ (l.drop (k+1)).flatMap f):=by
  conv=>lhs;rw[e0]
  rw[List.flatMap_append,List.flatMap_cons]
 rw[e1,List.flatMap_append,List.flatMap_cons,hy,eF,List.take_append,List.drop_append,hl,List.take_of_length_le (l:=(l.take k).flatMap f) (by omega),List.drop_of_length_le (l:=(l.take k).flatMap f) (by omega),show k*n+q-k*n=q by omega,show k*n+q+1-k*n=q+1 by omega,
  List.take_append_of_le_length (by rw[hf];omega),List.drop_append_of_le_length (by rw[hf];omega)]
 simp only[List.append_assoc,List.nil_append]
end Go.Proofs.YtcfdpfmchchkaaaGreatDoor
