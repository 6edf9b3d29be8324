/- Plain words -/
import Derived.Lib.Repeat
import Derived.Test.YtcfdpfmchchkaaaGreatDoorSplA
import Derived.Lib.ConvBytes
import Derived.Laws.MakeOwn
import Derived.Laws.IdiomStrings
import Derived.Laws.StructEq
namespace Go.Proofs.YtcfdpfmchchkaaaGreatDoor
set_option linter.unusedVariables false
set_option linter.unusedSimpArgs false
open Go.RowKit
def vB (s:ByteArray) (a:Nat) (b:ByteArray):ByteArray:=s.extract 0 a ++ b ++ s.extract (a+b.size) s.size
theorem yn (s:ByteArray) (a:Nat) (b:ByteArray):bl (vB s a b)=(bl s).take a ++ bl b ++ (bl s).drop (a+b.size):=by
 unfold vB;rw[cH,cH,bL,bL]
 congr 1
 rw[←aP s,List.take_length]
def cu (n:Nat):List UInt8:=List.replicate n 0
theorem uB (n:Nat):Lib.repeatL [0] n=cu n:=by
 induction n with
 | zero=>rfl
 | succ n ih=>simp[Lib.repeatL,ih,cu,List.replicate_succ]
open Go.RowKit Go.Sort
variable {ds:List Deferred}
section
variable {M:List Nat} {w X X':World} {L:List Ent}
theorem St.toRow {i b n sz:Nat} {T:TypeId} {cs:Array Value} (h:St M w X L) (e:L[i]? = some (.box b cs T)) (f:cs.toList.length=n*sz) (hm:n≤maxLen):St M w X (L.set i (.row (.slice (some ⟨b,0,none⟩) n n) n T sz cs.toList)):=
 h.turn e rfl rfl rfl (Nat.le_refl _) (fun _ _ _=>rfl) ⟨f,.inr ⟨b,n,cs,rfl,Nat.zero_le _,h.at_ e,Nat.le_refl _,hm,ar f,List.take_of_length_le ab⟩⟩
  (fun k j=>by
   have c:some b=some k:=j;injection c with c;subst c
   exact⟨.inl rfl,Box.lt (h.at_ e)⟩)
theorem St.nilRow (h:St M w X L) (T:TypeId) (sz:Nat):St M w X (.row (.slice none 0 0) 0 T sz []::L):=
 h.add (Below.refl _ _) (World.ownsRow_nil _ _ _ _) (fun b c=>by cases c)
theorem St.rowEq {i n b sz:Nat} {T:TypeId} {v v':Value} {xs xs':List Value} (h:St M w X L) (j:L[i]? = some (.row v n T sz xs)) (f:v'.ownBlock=v.ownBlock) (e:X.ownsRow 0 T sz v' b xs'):St M w X (L.set i (.row v' b T sz xs')):=
 h.turn j rfl rfl rfl (Nat.le_refl _) (fun _ _ _=>rfl) e (fun k c=>⟨.inl (by show v.ownBlock=some k;rw[←f];exact c),(e.lt k c).2⟩)
theorem St.boxRd {i b:Nat} {cs:Array Value} {T:TypeId} (h:St M w X L) (c:L[i]? = some (.box b cs T)):Rd X X.heap.size (some ⟨b,0,none⟩) cs.toList:=fun j u e=>
 ⟨b,0,rfl,Box.lt (h.at_ c),h.cell c (by rw[Nat.zero_add];exact e)⟩
end
theorem kR {P:Program} (g:Nat) (t:TypeId) (fr:Nat × Nat):∀(vs:List Value) (j i:Nat) (cur:Array Value) (w:World),w.heap[g]? = some (.cells cur t fr)→j+i+vs.length≤cur.size→(∀k,j+i≤k→k<j+i+vs.length→¬(fr.1≤k∧k<fr.2))→(∀v∈vs,v.oneCell'=true) →
 (storeCells ⟨g,j,none⟩ vs i).run P w=.ok () (w.setRow g (cur.toList.take (j+i) ++ vs ++ cur.toList.drop (j+i+vs.length)).toArray)
 | [],j,i,cur,w,hg,hl,_,_=>by
  have e:(cur.toList.take (j+i) ++ [] ++ cur.toList.drop (j+i+([]:List Value).length))=cur.toList:=by simp
  rw[e];have h:w.heap[g]? = _:=hg;simp only[storeCells];show Result.ok () w=_
  congr 1
  unfold World.setRow
  cases w with
  | mk heap tape drawn os output=>
   congr 1
   apply Array.ext
   · simp
   · intro k f s
     simp only[Array.getElem_modify]
     split
     · rename_i q;subst q
       rw[Array.getElem?_eq_getElem f] at h;injection h with h;simp[h]
     · rfl
 | v::rest,j,i,cur,w,hg,hl,hfr,f=>by
  have m:j+i<cur.size:=by simp at hl;omega
  have b:w.cell? ⟨g,j+i,none⟩=some cur[j+i]:=by simp[World.cell?,hg,m]
  have c:w.frozen? ⟨g,j+i,none⟩=false:=by
   have:=hfr (j+i) (Nat.le_refl _) bm;unfold World.frozen?;rw[show w.heap[g]? = _ from hg];simp only[Bool.and_eq_false_iff,decide_eq_false_iff_not];omega
  have hst:(store ((⟨g,j,none⟩:Addr).add i) v).run P w=.ok () (w.setRow g (cur.setIfInBounds (j+i) v)):=by
   rw[el,run_store P w _ v _ (f v bm),b];simp[c,setCell_eq_setRow w g (j+i) cur t fr v hg]
  have n:=kR (P:=P) g t fr rest j (i+1) (cur.setIfInBounds (j+i) v) (w.setRow g (cur.setIfInBounds (j+i) v)) (setRow_heap w g cur _ t _ hg) (by simp at hl ⊢;omega) (fun k r p=>hfr k ab (by simp only[List.length_cons];omega)) (fun x hx=>f x (by simp[hx]));simp only[storeCells,Sem.run_bind,hst,Result.andThen_ok,n,setRow_setRow]
  congr 3
  simp only[Array.toList_setIfInBounds,List.length_cons];rw[show j+(i+1)=j+i+1 by omega,List.take_succ_eq_append_getElem (ar m),List.take_set_of_le (Nat.le_refl _),List.drop_set_of_lt ab];simp[show j+i+1+rest.length=j+i+(rest.length+1) by omega]
theorem gI {X:World} {b:Nat} {cs cs':Array Value} {T:TypeId} {fr:Nat × Nat} (i:X.heap[b]? = some (.cells cs T fr)) (j:cs'.size=cs.size):Grw (fun k _=>k=b) X (X.setRow b cs'):=
 ⟨rfl,rfl,rfl,by simp[World.setRow],fun k c h=>setRow_other X b k _ h,fun k f n m c=>by
  by_cases e:k=b
  · rw[e,i] at c
    injection c with c;injection c with e1 e2 e3;subst e1 e2 e3;exact⟨_,j,by rw[e];exact setRow_heap X b _ _ _ _ i⟩
  · exact⟨f,rfl,(setRow_other X b k _ e).trans c⟩⟩
section
variable {P:Program} {ops:Array Oper} {rest:List Oper} {o:Oper} {a:Act} {Q:Exit→Act→World→Prop} {X:World} {N d:Nat} {l:List (Nat × Value)} {M:List Nat} {w:World} {E:List Ent}
theorem lO {i:Option TypeInfo} {z:Value} {size bytes:Nat} (h:i.map (fun i=>(i.zero,i.size,i.bytes))=some (some z,size,bytes)):∃q,i=some q∧q.zero=some z∧q.size=size∧q.bytes=bytes:=by
 cases i with
 | none=>cases h
 | some q=>injection h with h;injection h with h1 h2;injection h2 with h2 h3;exact⟨q,rfl,h1,h2,h3⟩
theorem bP {s x:Operand} {t e:TypeId} {z v:Value} {n m c i sz bytes:Nat} {A:Option Addr} {xs news:List Value} (Z:Has ds a N l) (V:Region.wanted o (yielded ops a.tmps)=true) (S:o.op=.call { callee:=.builtin .append,args:=#[s,x],argTypes:=#[t,t] }∧o.dst=some d) (Y:Nat.blt d N=true)
 (ht:P.underlying t=some (.slice e)) (b:(P.info? e).map (fun i=>(i.zero,i.size,i.bytes))=some (some z,sz,bytes)) (hz:z.cells.size=sz) (B:Nat.blt 0 sz=true) (U:a.eval s=v) (hx:a.eval x=.slice A m c) (R:St M w X E) (J:E[i]? = some (.row v n e sz xs))
 (hr:Rd X X.heap.size A news) (W:news.length=m*sz) (h1:∀u∈news,u.oneCell'=true) (T:n+m≤1000000∧bytes≤1000000)
 (k:∀h r y X',Has ds y N ((d,.slice h (n+m) r)::l)→St M w X' (E.set i (.row (.slice h (n+m) r) (n+m) e sz (xs ++ news)))→wpList P ops Q rest y X'):wpList P ops Q (o::rest) a X:=by
 obtain⟨q,hq,C,F,G⟩:=lO b;have f:X.ownsRow 0 e sz v n xs:=R.at_ J;have I:(n+m)*bytes≤1000000*1000000:=Nat.mul_le_mul T.1 T.2;obtain⟨v',K,j,O,h3,p⟩:=q7 (P:=P) X 0 t o.type e q z sz bytes ht hq C F G hz (Nat.lt_of_lt_of_le (Nat.lt_succ_self 0) (Nat.le_of_ble_eq_true B)) v n xs f X.heap.size A m c news W hr h1 (by unfold maxLen;omega) ab (Nat.zero_le _);obtain⟨h,r,rfl,_⟩:=ownsRow_form O;refine aT (X':=K) (v:=.slice h (n+m) r) Z V ?_ S.2 Y (fun y H=>k h r y K H (R.grown J O h3 ?_))
 · unfold execOp
   simp only[S.1,resolve,invoke,builtin,Sem.run_bind,Sem.run_pure,Result.andThen_ok,List.map_toArray,List.map_cons,List.map_nil,U,hx,j]
 · rcases p with p | p
   · exact .inl p
   · exact .inr fun g D=>by rw[p] at D;injection D with D;omega
theorem mY {ty:TypeId} {x y:Operand} {g j i n c sz:Nat} {v:Value} {vs:List Value} {T:TypeId} {xs:List Value} (W:Has ds a N l) (K:Region.wanted o (yielded ops a.tmps)=true) (I:o.op=.store ty x y∧o.dst=none) (hx:a.eval x=.pointer (some ⟨g,j,none⟩)) (J:a.eval y=v) (r:v.cells.toList=vs)
 (t:(P.info? ty).map (·.size)=some vs.length) (G:St M w X E) (H:E[i]? = some (.row (.slice (some ⟨g,0,none⟩) n c) n T sz xs)) (S:vs.all (·.oneCell')=true) (O:j+vs.length≤n*sz)
 (k:∀X',St M w X' (E.set i (.row (.slice (some ⟨g,0,none⟩) n c) n T sz (xs.take j ++ vs ++ xs.drop (j+vs.length))))→wpList P ops Q rest a X'):wpList P ops Q (o::rest) a X:=by
 have h:X.ownsRow 0 T sz (.slice (some ⟨g,0,none⟩) n c) n xs:=G.at_ H;obtain⟨U,s⟩:=h;rcases s with ⟨R,_⟩ | ⟨g',cap,cur,e1,_,hg,hcap,hm,hcs,htk⟩
 · cases R
 injection e1 with e1 e2 e3;injection e1 with e1;injection e1 with e1 _;subst e1 e3
 have A:j+vs.length≤cur.size:=by rw[hcs];exact Nat.le_trans O (Nat.mul_le_mul_right _ hcap)
 have hst:=dC (P:=P) g T vs j 0 cur X hg (ar A) (fun u V=>List.all_eq_true.1 S u V);simp only[Nat.add_zero] at hst
 have F:n*sz≤cur.size:=by rw[hcs];exact Nat.mul_le_mul_right _ hcap
 refine lP (X':=X.setRow g (cur.toList.take j ++ vs ++ cur.toList.drop (j+vs.length)).toArray) K ?_ I.2 (k _ ?_)
 · cases hq:P.info? ty with
   | none=>rw[hq] at t;cases t
   | some q=>
    rw[hq] at t;have B:q.size=vs.length:=ar t
    have p:v.cells.size=vs.length:=by rw[←r];simp
    unfold execOp;simp only[I.1,hx,J,Instr.storeAt,Instr.sureAddr,Sem.run_bind,Sem.run_pure,Result.andThen_ok];simp[storeVar,sizeOf,typeInfo,hq,B,p,r,hst]
 · have m:=gI (cs':=(cur.toList.take j ++ vs ++ cur.toList.drop (j+vs.length)).toArray) hg (by simp;omega)
   refine G.turn H m.os m.tape m.output m.size (fun b z D=>m.block b z (fun e=>D (by rw[e];rfl))) ⟨by simp only[List.length_append,List.length_take,List.length_drop];omega,.inr ⟨g,c,_,rfl,Nat.zero_le _,setRow_heap X g _ _ _ _ hg,hcap,hm,by simp;omega,?_⟩⟩ (fun b z=>⟨.inl z,?_⟩)
   · show(cur.toList.take j ++ vs ++ cur.toList.drop (j+vs.length)).take (n*sz)=_
     rw[←htk,List.take_append,List.take_append,List.take_of_length_le (l:=vs) (by simp;omega),List.take_take,List.take_take,List.take_drop,List.drop_take]
     have C:(cur.toList.take j ++ vs).length=j+vs.length:=by simp;omega
     rw[C,Nat.min_eq_right ab,Nat.min_eq_left ab,show j+vs.length+(n*sz-(j+vs.length))=n*sz by omega,List.drop_take]
   · have f:some g=some b:=z
     injection f with f;subst f;exact(Array.getElem?_eq_some_iff.1 (setRow_heap X g _ (cur.toList.take j ++ vs ++ cur.toList.drop (j+vs.length)).toArray _ _ hg)).1
theorem dw {ρ:Operand→Value} {t e:TypeId} {n sz:Nat} {c:Array (Nat × Operand)} {zc:List Value} {us:List Value} {s:List Nat} {cs:List Value} (ho:o.op=.buildSlice t n c)
 (ht:P.underlying t=some (.slice e)) (y:((P.info? e).bind (·.zero)).map (·.cells.toList)=some zc) (K:(P.info? e).map (·.size)=some sz) (u:zc.length=sz) (R:Nat.blt 0 sz=true) (hn:Nat.blt (n*sz) 16777216=true) (Y:c.toList.map (fun p=>ρ p.2)=us) (hi:c.toList.map (·.1)=s)
 (hf:qD ((List.range n).map fun i=>(i*sz,sz)) (List.replicate n zc).flatten (s.zip us)=some cs) (T:s.all (fun i=>Nat.blt i n)=true) :
 (execOp ρ o).run P X=.ok (.value (.slice (some ⟨X.heap.size,0,none⟩) n n)) (X.alloc (.cells cs.toArray e)):=by
 have C:c.toList.map (fun x=>(x.1,ρ x.2))=s.zip us:=by
  have y:∀l:List (Nat × Operand),l.map (fun x=>(x.1,ρ x.2))=(l.map (·.1)).zip (l.map fun p=>ρ p.2):=by
   intro l
   induction l with
   | nil=>rfl
   | cons p l ih=>simp[ih]
  rw[←Y,←hi,←y c.toList]
 have f:0<sz:=Nat.lt_of_lt_of_le (Nat.lt_succ_self 0) (Nat.le_of_ble_eq_true R);have V:n*sz<16777216:=Nat.le_of_ble_eq_true hn
 cases B:P.info? e with
 | none=>rw[B] at K;cases K
 | some q=>
  rw[B] at K y;have H:q.size=sz:=ar K
  cases hqz:q.zero with
  | none=>rw[Option.bind_some,hqz] at y;cases y
  | some z=>
   rw[Option.bind_some,hqz] at y;have I:z.cells.toList=zc:=ar y
   have G:z.cells.size=sz:=by rw[←u,←I];simp
   have j:(Array.range (n*sz)).map (z.cells[· % z.cells.size]!)=(List.replicate n zc).flatten.toArray:=by
    apply Array.ext';rw[Array.toList_map,Array.toList_range];apply List.ext_getElem
    · simp[u]
    · intro k h1 h2
      simp only[List.length_map,List.length_range] at h1;rw[List.getElem_map,List.getElem_range,G]
      have D:k % sz<z.cells.size:=by rw[G];exact Nat.mod_lt _ f
      have J:∀(m k:Nat) (h:k<((List.replicate m zc).flatten).length),((List.replicate m zc).flatten)[k]'h=zc[k % sz]'(by rw[u];exact Nat.mod_lt _ f):=by
       intro m
       induction m with
       | zero=>intro k h;simp at h
       | succ m ih=>
        intro k h;simp only[List.replicate_succ,List.flatten_cons];by_cases W:k<zc.length
        · rw[List.getElem_append_left W]
          congr 1
          rw[Nat.mod_eq_of_lt ab]
        · rw[List.getElem_append_right ab,ih]
          congr 1
          rw[u,←Nat.mod_eq_sub_mod ab]
      simp only[List.toList_toArray];rw[J];rw[getElem!_pos z.cells (k % sz) D];simp[←I]
   have r:=xn _ _ _ _ hf
   have A:∀(ps:List (Nat × Value)) (cells:Array Value),(∀p∈ps,p.1<n)→Instr.fill (((List.range n).map fun i=>(i*sz,sz)).toArray[·]?) cells ps=Instr.fill (fun i=>some (i*sz,sz)) cells ps:=by
    intro ps
    induction ps with
    | nil=>intro cells _;rfl
    | cons p ps ih=>
     intro cells O;obtain⟨i,v⟩:=p;unfold Instr.fill
     have Z:((List.range n).map fun i=>(i*sz,sz)).toArray[i]? = some (i*sz,sz):=by
      have:=O (i,v) bm;simp at this;simp[this]
     rw[Z];simp only
     split
     · rfl
     · exact ih _ (fun q B=>O q (by simp[B]))
   rw[A _ _ (fun p O=>by
    have:=List.all_eq_true.1 T p.1 (by
     have:=(List.of_mem_zip (a:=p.1) (b:=p.2) (ar O)).1
     exact this)
    exact Nat.le_of_ble_eq_true this)] at r
   unfold execOp;simp only[ho]
   have Za:¬(16777216<n*sz):=by omega
   by_cases F:n=0
   · subst F
     have S:Array.range 0=#[]:=rfl;simp only[Nat.zero_mul,List.replicate_zero,List.flatten_nil] at r ⊢;simp[S,Instr.buildSlice,run_underlying ht,sizeOf,typeInfo,B,H,C,r,newRow]
   · have U:n*sz≠0:=by have:=Nat.mul_pos (Nat.pos_of_ne_zero F) f;omega
     simp[Instr.buildSlice,run_underlying ht,sizeOf,typeInfo,B,H,zeroValue,hqz,C,j,r,newRow,Za,U]
theorem cX {t e:TypeId} {n sz:Nat} {c:Array (Nat × Operand)} {zc:List Value} {us:List Value} {h:List Nat} {cs:List Value} (D:Has ds a N l) (v:Region.wanted o (yielded ops a.tmps)=true) (s:o.op=.buildSlice t n c∧o.dst=some d) (B:Nat.blt d N=true)
 (ht:P.underlying t=some (.slice e)) (x:((P.info? e).bind (·.zero)).map (·.cells.toList)=some zc) (u:(P.info? e).map (·.size)=some sz) (m:zc.length=sz) (j:Nat.blt 0 sz=true) (C:Nat.blt (n*sz) 16777216=true) (A:c.toList.map (fun p=>a.eval p.2)=us) (y:c.toList.map (·.1)=h)
 (hf:qD ((List.range n).map fun i=>(i*sz,sz)) (List.replicate n zc).flatten (h.zip us)=some cs) (q:h.all (fun i=>Nat.blt i n)=true) (z:St M w X E)
 (k:∀b r X',w.heap.size≤b→Has ds r N ((d,.slice (some ⟨b,0,none⟩) n n)::l)→St M w X' (.box b cs.toArray e::E)→wpList P ops Q rest r X'):wpList P ops Q (o::rest) a X:=
 bV (f:=fun b=>.slice (some ⟨b,0,none⟩) n n) (cs:=cs.toArray) (T:=e) D v (dw s.1 ht x u m j C A y hf q) s.2 B z k
end
section
variable {P:Program} {ρ:Operand→Value} {X:World} {d:Option Tmp} {ty:TypeId} {ps:String} {af:Array Edge} {g:Option (Nat × Bool)}
theorem ga {x:Operand} {t e:TypeId} {b o' n c l h sz j:Nat} {u s:Option Operand} (ht:P.underlying t=some (.slice e)) (r:(P.info? e).map (·.size)=some sz) (hx:ρ x=.slice (some ⟨b,o',none⟩) n c) (k:match u with | some y=>ρ y=ae (l:Nat) | none=>l=0) (i:match s with | some y=>ρ y=ae (h:Nat) | none=>h=n) (z:l≤h) (v:h≤c) (p:c≠l∨l=0) (A:o'+l*sz=j) :
 (execOp ρ ⟨d,.slice t x u s none,ty,ps,af,g⟩).run P X=.ok (.value (.slice (some ⟨b,j,none⟩) (h-l) (c-l))) X:=by
 subst A
 have f:(if c=l then (some ⟨b,o',none⟩:Option Addr) else some ((⟨b,o',none⟩:Addr).add (l*sz)))=some ⟨b,o'+l*sz,none⟩:=by
  split
  · rcases p with p | p
    · contradiction
    · subst p;simp
  · rw[el]
 cases hq:P.info? e with
 | none=>rw[hq] at r;cases r
 | some q=>
  rw[hq] at r;have m:q.size=sz:=ar r
  cases u<;>cases s<;>simp only at k i
  · subst k i;simp[execOp,hx,Instr.sliceAt,Instr.slice,run_underlying ht,Instr.sliceBounds,sizeOf,typeInfo,hq,m];simpa using f
  · subst k;simp[execOp,hx,i,Instr.sliceAt,Instr.slice,run_underlying ht,Instr.sliceBounds,Instr.sliceBound,asIntOf,v,sizeOf,typeInfo,hq,m];simpa using f
  · subst i;simp[execOp,hx,k,Instr.sliceAt,Instr.slice,run_underlying ht,Instr.sliceBounds,Instr.sliceBound,asIntOf,z,sizeOf,typeInfo,hq,m];simpa using f
  · simp[execOp,hx,k,i,Instr.sliceAt,Instr.slice,run_underlying ht,Instr.sliceBounds,Instr.sliceBound,asIntOf,z,v,sizeOf,typeInfo,hq,m];simpa using f
def gX (o' c l sz:Nat):Nat:=if c=l then o' else o'+l*sz
theorem ny {x:Operand} {t e:TypeId} {b o' n c l h sz:Nat} {r p:Option Operand} (ht:P.underlying t=some (.slice e)) (m:(P.info? e).map (·.size)=some sz) (hx:ρ x=.slice (some ⟨b,o',none⟩) n c) (j:match r with | some y=>ρ y=ae (l:Nat) | none=>l=0) (i:match p with | some y=>ρ y=ae (h:Nat) | none=>h=n) (u:l≤h) (s:h≤c) :
 (execOp ρ ⟨d,.slice t x r p none,ty,ps,af,g⟩).run P X=.ok (.value (.slice (some ⟨b,gX o' c l sz,none⟩) (h-l) (c-l))) X:=by
 have f:(if c=l then (some ⟨b,o',none⟩:Option Addr) else some ((⟨b,o',none⟩:Addr).add (l*sz)))=some ⟨b,gX o' c l sz,none⟩:=by
  unfold gX
  split
  · rfl
  · rw[el]
 cases hq:P.info? e with
 | none=>rw[hq] at m;cases m
 | some q=>
  rw[hq] at m;have k:q.size=sz:=ar m
  cases r<;>cases p<;>simp only at j i
  · subst j i;simp[execOp,hx,Instr.sliceAt,Instr.slice,run_underlying ht,Instr.sliceBounds,sizeOf,typeInfo,hq,k];simpa using f
  · subst j;simp[execOp,hx,i,Instr.sliceAt,Instr.slice,run_underlying ht,Instr.sliceBounds,Instr.sliceBound,asIntOf,s,sizeOf,typeInfo,hq,k];simpa using f
  · subst i;simp[execOp,hx,j,Instr.sliceAt,Instr.slice,run_underlying ht,Instr.sliceBounds,Instr.sliceBound,asIntOf,u,sizeOf,typeInfo,hq,k];simpa using f
  · simp[execOp,hx,j,i,Instr.sliceAt,Instr.slice,run_underlying ht,Instr.sliceBounds,Instr.sliceBound,asIntOf,u,s,sizeOf,typeInfo,hq,k];simpa using f
end
theorem uY {X:World} {b j:Nat} {l:List UInt8} (h:nC X b l) (c:j<l.length):X.cell? ⟨b,j,none⟩=some (bB (l.getD j 0)):=by
 obtain⟨cs,T,fr,i,f,_⟩:=h
 have e:(cs.toList.take l.length)[j]? = some (bB (l.getD j 0)):=by
  rw[f,List.getElem?_map,List.getD_eq_getElem?_getD,List.getElem?_eq_getElem c];rfl
 rw[List.getElem?_take,if_pos c] at e;unfold World.cell?;rw[i]
 simpa using e
theorem CZ {X:World} {b:Nat} {l:List UInt8} (h:nC X b l):∃cs T fr,X.heap[b]? = some (.cells cs T fr)∧cs.toList.take l.length=l.map bB∧(∀j,j<cs.size→¬(fr.1≤j∧j<fr.2))∧l.length≤cs.size:=by
 obtain⟨cs,T,fr,e,c,h3⟩:=h;have:=congrArg List.length c;rw[List.length_take,List.length_map] at this;exact⟨cs,T,fr,e,c,h3,by simp at this;omega⟩
theorem zF (l:List UInt8):∀v∈l.map bB,v.oneCell'=true:=fun v c=>by
 obtain⟨b,_,rfl⟩:=List.mem_map.1 c;rfl
theorem EK {P:Program} {X:World} {b j:Nat} {l us:List UInt8} (h:nC X b l) (q:j+us.length≤l.length) :
 ∃X',(storeCells ⟨b,j,none⟩ (us.map bB) 0).run P X=.ok () X'∧Grw (fun k _=>k=b) X X'∧nC X' b (l.take j ++ us ++ l.drop (j+us.length)):=by
 obtain⟨cs,T,fr,e,m,h3,r⟩:=CZ h;have hst:=kR (P:=P) b T fr (us.map bB) j 0 cs X e (by simp;omega) (fun k p i=>h3 k (by simp at i;omega)) (zF us);refine⟨_,hst,gI e (by simp;omega),_,T,fr,setRow_heap X b _ _ _ _ e,?_,fun k n=>h3 k (by simp at n;omega)⟩
 have c:(l.take j ++ us ++ l.drop (j+us.length)).length=l.length:=by simp only[List.length_append,List.length_take,List.length_drop];omega
 rw[c,List.map_append,List.map_append,List.map_take,List.map_drop,←m];simp only[Nat.add_zero,List.toList_toArray,List.length_map];rw[List.take_append,List.take_append,List.take_of_length_le (l:=us.map bB) (by simp;omega),List.take_take,List.take_take,List.take_drop,List.drop_take]
 have f:(cs.toList.take j ++ us.map bB).length=j+us.length:=by simp;omega
 rw[f,Nat.min_eq_right ab,Nat.min_eq_left ab,show j+us.length+(l.length-(j+us.length))=l.length by omega,List.drop_take]
section
variable {P:Program} {ops:Array Oper} {rest:List Oper} {o:Oper} {a:Act} {Q:Exit→Act→World→Prop} {X:World} {N d:Nat} {l:List (Nat × Value)} {M:List Nat} {w:World} {E:List Ent}
theorem St.byted {X':World} {i b:Nat} {p j:List UInt8} (h:St M w X E) (q:E[i]? = some (.byt b p)) (c:Grw (fun k _=>k=b) X X') (m:nC X' b j):St M w X' (E.set i (.byt b j)):=
 h.turn q c.os c.tape c.output c.size (fun k e f=>c.block k e f) m (fun k e=>⟨.inl e,by
  cases e
  obtain⟨cs,T,fr,n,_⟩:=m
  exact(Array.getElem?_eq_some_iff.1 n).1⟩)
theorem uS {x:Operand} {src dst e:TypeId} {u:TypeDesc} {s:ByteArray} (A:Has ds a N l) (t:Region.wanted o (yielded ops a.tmps)=true) (q:o.op=.convert src dst x∧o.dst=some d) (z:Nat.blt d N=true) (r:P.underlying src=some u) (B:P.underlying dst=some (.slice e)) (y:P.underlying e=some (.int .u8))
 (hx:a.eval x=.string s) (p:St M w X E) (k:∀b c h X',w.heap.size≤b→s.size≤c→Has ds h N ((d,.slice (some ⟨b,0,none⟩) s.size c)::l)→St M w X' (.byt b (bl s)::E)→wpList P ops Q rest h X'):wpList P ops Q (o::rest) a X:=by
 have f:=Lib.run_convert_string_bytes (P:=P) X src dst e s r B y;have C:Below X.heap.size X (Lib.bytesWorld X e s):=⟨rfl,rfl,rfl,by rw[Lib.bytesWorld_size];omega,fun j n=>Lib.bytesWorld_at_old X e s j n⟩;refine aT (X':=Lib.bytesWorld X e s) (v:=.slice (some ⟨X.heap.size,0,none⟩) s.size (grownCap X s.size 0 e)) A t ?_ q.2 z (fun h m=>k X.heap.size _ h _ p.size ?_ m (p.add C (e:=.byt X.heap.size (bl s)) ?_ ?_))
 · unfold execOp
   simp only[q.1,hx,Sem.run_bind,f,Result.andThen_ok,Sem.run_pure]
 · unfold grownCap Question.cut;simp
 · refine⟨_,_,_,Lib.bytesWorld_at_new X e s,?_,fun j n=>by simp only;omega⟩
   unfold Lib.bytesCells;rw[Array.toList_append,List.take_append_of_le_length (by simp[aP]),List.take_of_length_le (by simp[aP])];simp[bB]
 · intro b i
   cases i
   exact⟨Nat.le_refl _,by rw[Lib.bytesWorld_size];omega⟩
end
open Go.RowKit Go.Sort
variable {ds:List Deferred}
inductive Kd where
 | i (k:IntKind)
 | b
 | s
def mN (b:TypeId→Option (List Kd)):List Field→Nat→Option (List Kd)
 | [],_=>some []
 | f::fs,off=>match b f.type with
  | none=>none
  | some ks=>if f.name != "_" && f.offset==off&&decide (0<ks.length) then (mN b fs (off+ks.length)).map (ks ++ ·) else none
def kinds (P:Program):Nat→TypeId→Option (List Kd)
 | 0,_=>none
 | n+1,t=>match P.underlying t with
  | some (.int k)=>some [.i k]
  | some .bool=>some [.b]
  | some .string=>some [.s]
  | some (.struct fs)=>if P.stoodInHeld t then none else match mN (kinds P n) fs.toList 0 with
   | none=>none
   | some ks=>if (P.info? t).map (·.size)==some ks.length then some ks else none
  | _=>none
def Fx:Kd→Value→Bool
 | .i k,.int k' _=>decide (k=k')
 | .b,.bool _=>true
 | .s,.string _=>true
 | _,_=>false
def gl:List Kd→List Value→Bool
 | [],[]=>true
 | k::ks,v::vs=>Fx k v&&gl ks vs
 | _,_=>false
def s7:Value→Value→Bool
 | .int _ a,.int _ b=>a==b
 | .bool a,.bool b=>a==b
 | .string a,.string b=>decide (a=b)
 | _,_=>false
def jO:List Value→List Value→Bool
 | [],[]=>true
 | x::xs,y::ys=>s7 x y&&jO xs ys
 | _,_=>false
theorem dr:∀{ks:List Kd} {vs:List Value},gl ks vs=true→vs.length=ks.length
 | [],[],_=>rfl
 | k::ks,v::vs,h=>by
  unfold gl at h;rw[Bool.and_eq_true] at h;simp[dr h.2]
 | [],_::_,h=>by cases h
 | _::_,[],h=>by cases h
theorem kn:∀{ks b:List Kd} {vs:List Value},gl (ks ++ b) vs=true→gl ks (vs.take ks.length)=true∧gl b (vs.drop ks.length)=true
 | [],b,vs,h=>⟨by simp[gl],ar h⟩
 | k::ks,b,[],h=>by cases h
 | k::ks,b,v::vs,h=>by
  rw[List.cons_append] at h;unfold gl at h;rw[Bool.and_eq_true] at h;obtain⟨e,c⟩:=kn h.2;refine⟨?_,?_⟩
  · show(Fx k v&&gl ks (vs.take ks.length))=true
    rw[h.1,e];rfl
  · exact c
theorem pK:∀{n:Nat} {xs ys:List Value},xs.length=ys.length→jO xs ys=(jO (xs.take n) (ys.take n)&&jO (xs.drop n) (ys.drop n))
 | 0,xs,ys,_=>by simp[jO]
 | n+1,[],[],_=>by simp[jO]
 | n+1,x::xs,y::ys,h=>by
  simp only[List.take_succ_cons,List.drop_succ_cons,jO];rw[pK (n:=n) (ar h),Bool.and_assoc]
 | n+1,[],_::_,h=>by cases h
 | n+1,_::_,[],h=>by cases h
section
variable {P:Program} {X:World}
def lJ (P:Program) (t:TypeId) (vs:List Value):Value:=match P.underlying t with
 | some (.struct _)=>.agg vs.toArray
 | _=>vs.headD undef
theorem vI {t:TypeId} {n:Nat} {ks:List Kd} (b:kinds P n t=some ks) (cs:List Value) (off:Nat) (h:off+ks.length≤cs.length):(part t cs.toArray off).run P X=.ok (lJ P t ((cs.drop off).take ks.length)) X:=by
 cases n with
 | zero=>cases b
 | succ n=>
  unfold kinds at b
  cases hu:P.underlying t with
  | none=>rw[hu] at b;cases b
  | some td=>
   rw[hu] at b
   cases td<;>simp only[reduceCtorEq] at b
   case bool=>
    injection b with b;subst b
    have c:off<cs.length:=by simp at h;omega
    have f:cs.toArray[off]? = some cs[off]:=by simp[c]
    have e2:(cs.drop off).take 1=[cs[off]]:=by rw[List.drop_eq_getElem_cons c];rfl
    simp only[part,isAgg,Sem.run_bind,run_underlying hu,Result.andThen_ok,Sem.run_pure,f,lJ,hu,List.length_cons,List.length_nil,Nat.zero_add,e2,Bool.false_eq_true,if_false]
    rfl
   case int k=>
    injection b with b;subst b
    have c:off<cs.length:=by simp at h;omega
    have f:cs.toArray[off]? = some cs[off]:=by simp[c]
    have e2:(cs.drop off).take 1=[cs[off]]:=by rw[List.drop_eq_getElem_cons c];rfl
    simp only[part,isAgg,Sem.run_bind,run_underlying hu,Result.andThen_ok,Sem.run_pure,f,lJ,hu,List.length_cons,List.length_nil,Nat.zero_add,e2,Bool.false_eq_true,if_false]
    rfl
   case string=>
    injection b with b;subst b
    have c:off<cs.length:=by simp at h;omega
    have f:cs.toArray[off]? = some cs[off]:=by simp[c]
    have e2:(cs.drop off).take 1=[cs[off]]:=by rw[List.drop_eq_getElem_cons c];rfl
    simp only[part,isAgg,Sem.run_bind,run_underlying hu,Result.andThen_ok,Sem.run_pure,f,lJ,hu,List.length_cons,List.length_nil,Nat.zero_add,e2,Bool.false_eq_true,if_false]
    rfl
   case struct fs=>
    split at b
    · cases b
    · cases hkf:mN (kinds P n) fs.toList 0 with
      | none=>rw[hkf] at b;cases b
      | some ks'=>
       rw[hkf] at b;simp only at b
       split at b
       · rename_i e
         injection b with b;subst b;rw[beq_iff_eq] at e
         cases hq:P.info? t with
         | none=>rw[hq] at e;cases e
         | some q=>
          rw[hq] at e;have i:q.size=ks'.length:=ar e;simp[part,isAgg,run_underlying hu,lJ,hu,sizeOf,typeInfo,hq,i]
          try rw[List.drop_take,Nat.add_sub_cancel_left]
       · cases b
theorem nM:∀(n d:Nat) (t:TypeId) (ks:List Kd),n≤d→kinds P n t=some ks→∀xs ys:List Value,gl ks xs=true→gl ks ys=true→(Op.equalIn d t (lJ P t xs) (lJ P t ys)).run P X=.ok (jO xs ys) X
 | 0,_,_,_,_,hk,_,_,_,_=>by cases hk
 | n+1,0,_,_,hnd,_,_,_,_,_=>by omega
 | n+1,d+1,t,ks,hnd,hk,xs,ys,hx,hy=>by
  unfold kinds at hk
  cases hu:P.underlying t with
  | none=>rw[hu] at hk;cases hk
  | some td=>
   rw[hu] at hk;have e:=dr hx;have c:=dr hy
   cases td<;>simp only[reduceCtorEq] at hk
   case bool=>
    injection hk with hk;subst hk
    match xs,ys,e,c with
    | [x],[y],_,_=>
     cases x<;>simp[gl,Fx] at hx
     cases y<;>simp[gl,Fx] at hy
     simp[lJ,hu,Op.equalIn,run_underlying hu,jO,s7]
   case int k=>
    injection hk with hk;subst hk
    match xs,ys,e,c with
    | [x],[y],_,_=>
     cases x<;>simp[gl,Fx] at hx
     cases y<;>simp[gl,Fx] at hy
     subst hx;subst hy;simp[lJ,hu,Op.equalIn,run_underlying hu,jO,s7]
   case string=>
    injection hk with hk;subst hk
    match xs,ys,e,c with
    | [x],[y],_,_=>
     cases x<;>simp[gl,Fx] at hx
     cases y<;>simp[gl,Fx] at hy
     simp[lJ,hu,Op.equalIn,run_underlying hu,jO,s7];rw[beq_toListBytes,xv]
   case struct fs=>
    split at hk
    · cases hk
    · rename_i hst
      cases hkf:mN (kinds P n) fs.toList 0 with
      | none=>rw[hkf] at hk;cases hk
      | some ks'=>
       rw[hkf] at hk;simp only at hk
       split at hk
       · injection hk with hk;subst hk
         have j:P.fieldsOf t=fs:=by unfold Program.fieldsOf;rw[hu]
         have ev:∀zs:List Value,lJ P t zs=.agg zs.toArray:=fun zs=>by unfold lJ;rw[hu]
         rw[ev,ev,run_equalIn_struct X d t _ _ (by rw[j];exact hu) (ar hst),j]
         have key:∀(fl:List Field) (off:Nat) (i:List Kd),mN (kinds P n) fl off=some i→gl i (xs.drop off)=true→gl i (ys.drop off)=true→(Op.eqFields d xs.toArray ys.toArray fl).run P X=.ok (jO (xs.drop off) (ys.drop off)) X:=by
          intro fl
          induction fl with
          | nil=>
           intro off i b m h3;injection b with b;subst b;have G:=dr m;have e2:=dr h3;have H:xs.drop off=[]:=List.eq_nil_of_length_eq_zero G;have D:ys.drop off=[]:=List.eq_nil_of_length_eq_zero e2;rw[H,D];simp[Op.eqFields,jO]
          | cons f fl ih=>
           intro off i b m h3;unfold mN at b
           cases hkd:kinds P n f.type with
           | none=>rw[hkd] at b;cases b
           | some k1=>
            rw[hkd] at b;simp only at b
            split at b
            · rename_i z
              rw[Bool.and_eq_true,Bool.and_eq_true,bne_iff_ne,beq_iff_eq,decide_eq_true_eq] at z;obtain⟨⟨q,r⟩,v⟩:=z;rw[Option.map_eq_some_iff] at b;obtain⟨I,p,rfl⟩:=b;obtain⟨s,a2⟩:=kn m;obtain⟨b1,u⟩:=kn h3;have A:=dr s;have J:=dr b1;rw[List.length_take,List.length_drop] at A J;have B:=vI (X:=X) hkd xs off ab;have C:=vI (X:=X) hkd ys off ab;have heq:=nM n d f.type k1 ab hkd _ _ s b1;rw[List.drop_drop] at a2 u;have h:=ih (off+k1.length) I p a2 u;have e0:=dr m;have F:=dr h3;rw[pK (n:=k1.length) (xs:=xs.drop off) (ys:=ys.drop off) ab,List.drop_drop,List.drop_drop];unfold Op.eqFields;rw[if_pos q,r];simp only[Sem.run_bind,B,C,Result.andThen_ok,heq]
              cases jO ((xs.drop off).take k1.length) ((ys.drop off).take k1.length) with
              | true=>simp only[Bool.not_true,Bool.false_eq_true,if_false,Bool.true_and];exact h
              | false=>simp
            · cases b
         exact key fs.toList 0 ks' hkf (ar hx) (ar hy)
       · cases hk
end
section
variable {P:Program} {ρ:Operand→Value} {X:World} {d:Option Tmp} {ty:TypeId} {ps:String} {af:Array Edge} {g:Option (Nat × Bool)}
theorem vo {t:TypeId} {ks:List Kd} {e:Array Field} {xs ys:List Value} (b:kinds P 8 t=some ks) (c:P.underlying t=some (.struct e)) (hx:gl ks xs=true) (f:gl ks ys=true):(Op.equal t (.agg xs.toArray) (.agg ys.toArray)).run P X=.ok (jO xs ys) X:=by
 have:=nM (P:=P) (X:=X) 8 Op.maxDepth t ks au b xs ys hx f
 have ev:∀zs:List Value,lJ P t zs=.agg zs.toArray:=fun zs=>by unfold lJ;rw[c]
 rw[ev,ev] at this;exact this
theorem yz {x y:Operand} {t f:TypeId} {ks:List Kd} {j:Array Field} {xs ys:List Value} (h:kinds P 8 t=some ks) (i:P.underlying t=some (.struct j)) (k:P.eqGuardType P.depth t=false) (hx:ρ x=.agg xs.toArray) (e:ρ y=.agg ys.toArray) (c:gl ks xs=true) (b:gl ks ys=true) :
 (execOp ρ ⟨d,.binOp .eql t x y f,ty,ps,af,g⟩).run P X=.ok (.value (.bool (jO xs ys))) X:=by
 simp[execOp,hx,e,eqGuard,k,binOp,vo h i c b]
theorem h7 {x y:Operand} {t f:TypeId} {ks:List Kd} {j:Array Field} {xs ys:List Value} (h:kinds P 8 t=some ks) (i:P.underlying t=some (.struct j)) (k:P.eqGuardType P.depth t=false) (hx:ρ x=.agg xs.toArray) (e:ρ y=.agg ys.toArray) (c:gl ks xs=true) (b:gl ks ys=true) :
 (execOp ρ ⟨d,.binOp .neq t x y f,ty,ps,af,g⟩).run P X=.ok (.value (.bool (!jO xs ys))) X:=by
 simp[execOp,hx,e,eqGuard,k,binOp,vo h i c b]
theorem qp {x y:Operand} {t f:TypeId} {k i:IntKind} {m:Int} {n:Nat} (hx:ρ x=.int k m) (j:ρ y=.int i (n:Nat)) (h:Nat.ble n k.bits=true) (p:0≤m):(execOp ρ ⟨d,.binOp .shr t x y f,ty,ps,af,g⟩).run P X=.ok (.value (.int k (m / 2 ^ n))) X:=by
 have c:n≤k.bits:=Nat.le_of_ble_eq_true h
 have e:¬((n:Int)<0):=by omega
 have b:min n k.bits=n:=Nat.min_eq_left c;simp[execOp,hx,j,eqGuard,binOp,Op.shift,e,b];exact Int.fdiv_eq_ediv_of_nonneg _ (Int.le_of_lt (Int.pow_pos au))
theorem xB {x y:Operand} {t f:TypeId} {k i:IntKind} {m r:Int} {n:Nat} (hx:ρ x=.int k m) (j:ρ y=.int i (n:Nat)) (h:Nat.ble n k.bits=true) (hr:k.wrap (m*2 ^ n)=r):(execOp ρ ⟨d,.binOp .shl t x y f,ty,ps,af,g⟩).run P X=.ok (.value (.int k r)) X:=by
 have c:n≤k.bits:=Nat.le_of_ble_eq_true h
 have e:¬((n:Int)<0):=by omega
 have b:min n k.bits=n:=Nat.min_eq_left c;simp[execOp,hx,j,eqGuard,binOp,Op.shift,e,b,hr]
theorem mj {x y:Operand} {t b:TypeId} {op:BinOp} {k:IntKind} {m n r:Int} (c:(match op with | .and | .or | .xor | .andNot=>true | _=>false)=true) (hx:ρ x=.int k m) (e:ρ y=.int k n) (hr:bits op k m n=r):(execOp ρ ⟨d,.binOp op t x y b,ty,ps,af,g⟩).run P X=.ok (.value (.int k r)) X:=by
 subst hr
 cases op<;>simp at c<;>simp[execOp,hx,e,eqGuard,binOp,Op.intBits,bits]
theorem yv {x:Operand} {src dst e:TypeId} {b o' n c:Nat} {us:List UInt8} (i:P.underlying src=some (.slice e)) (m:P.underlying e=some (.int .u8)) (k:P.underlying dst=some .string) (hx:ρ x=.slice (some ⟨b,o',none⟩) n c) (p:us.length=n)
 (h:∀j (f:j<us.length),X.cell? ⟨b,o'+j,none⟩=some (bB us[j])):(execOp ρ ⟨d,.convert src dst x,ty,ps,af,g⟩).run P X=.ok (.value (.string (bs us))) X:=by
 subst p;have:=run_convert_bytes_back (P:=P) X src dst e ⟨b,o',none⟩ c us i m k (fun j f=>by rw[el];exact h j f);simp[execOp,hx,this]
 rfl
theorem St.bytStr {M:List Nat} {w:World} {L:List Ent} {i b o' n:Nat} {l:List UInt8} (h:St M w X L) (e:L[i]? = some (.byt b l)) (k:o'+n≤l.length):((l.drop o').take n).length=n∧∀j (c:j<((l.drop o').take n).length),X.cell? ⟨b,o'+j,none⟩=some (bB ((l.drop o').take n)[j]):=by
 have f:((l.drop o').take n).length=n:=by rw[List.length_take,List.length_drop];omega
 refine⟨f,fun j c=>?_⟩;rw[uY (h.at_ e) ab]
 congr 2
 rw[List.getElem_take,List.getElem_drop,List.getD_eq_getElem?_getD,List.getElem?_eq_getElem ab]
 rfl
end
section
variable {P:Program} {ops:Array Oper} {rest:List Oper} {o:Oper} {a:Act} {Q:Exit→Act→World→Prop} {X:World} {N d:Nat} {l:List (Nat × Value)} {M:List Nat} {w:World} {E:List Ent}
theorem yM {ty:TypeId} {x y:Operand} {b j i:Nat} {v:Value} {u:UInt8} {e:List UInt8} (C:Has ds a N l) (z:Region.wanted o (yielded ops a.tmps)=true) (r:o.op=.store ty x y∧o.dst=none) (c:(P.info? ty).map (·.size)=some 1) (hx:a.eval x=.pointer (some ⟨b,j,none⟩)) (A:a.eval y=v) (B:v=bB u)
 (n:St M w X E) (p:E[i]? = some (.byt b e)) (s:j<e.length) (k:∀X',St M w X' (E.set i (.byt b (e.take j ++ [u] ++ e.drop (j+1))))→wpList P ops Q rest a X'):wpList P ops Q (o::rest) a X:=by
 subst B;obtain⟨X',m,t,h3⟩:=EK (P:=P) (us:=[u]) (j:=j) (n.at_ p) s;refine lP z ?_ r.2 (k _ (n.byted p t h3))
 cases hq:P.info? ty with
 | none=>rw[hq] at c;cases c
 | some q=>
  rw[hq] at c;have h:q.size=1:=ar c;have f:(bB u).cells=#[bB u]:=rfl;unfold execOp;simp only[r.1,hx,A,Instr.storeAt,Instr.sureAddr,Sem.run_bind,Sem.run_pure,Result.andThen_ok];simp only[List.map_cons,List.map_nil] at m;simp[storeVar,sizeOf,typeInfo,hq,h,f,m]
end
theorem eb {P:Program} {Q:Exit→Act→World→Prop} {a:Act} {X:World} {N:Nat} {l:List (Nat × Value)} {c:Code} {M:List Nat} {w:World} {L:List Ent} (i:Has ds a N l) (j:St M w X L) (J:List (Nat × Value)) (ks:List Nat)
 (f:c.wp P (Exit.then (fun b X'=>Has ds b N (J ++ jE l ks)∧St M w X' L) Q) a X) (e:∀b X',Has ds b N (J ++ jE l ks)→St M w X' L→Q .normal b X'):c.wp P Q a X:=
 th _ f fun b X' h=>e b X' h.1 h.2
theorem Ep {X:World} {b:Nat} {cs:Array Value} {T:TypeId} (h:Box X b cs T):∀k u,cs.toList[k]? = some u→X.cell? ⟨b,0+k,none⟩=some u:=fun k u c=>by
 rw[Nat.zero_add,Box.cells h k]
 simpa using c
theorem qn {X:World} {b j:Nat} {cs:Array Value} {T:TypeId} {v:Value} (h:Box X b cs T) (c:cs.toList[j]? = some v):X.cell? ⟨b,j,none⟩=some v:=(Box.cells h j).trans (by rw[←c];simp)
end Go.Proofs.YtcfdpfmchchkaaaGreatDoor
