/-
  Plain words: patches, padding, values of fields. No program in sight.
  A walk by steps: rows that grow and are written, bytes.
  A walk by steps: structs compared, more of bytes, bits.
-/
import Derived.Lib.Repeat
import Derived.Test.YtcfdpfmchchkaaaGreatDoorSplA
import Derived.Lib.ConvBytes
import Derived.Laws.MakeOwn
import Derived.Laws.IdiomStrings
import Derived.Laws.StructEq
namespace Go.Proofs.YtcfdpfmchchkaaaGreatDoor
set_option linter.unusedVariables false
set_option linter.unusedSimpArgs false
open Go.RowKit
def qN (s:ByteArray) (a:Nat) (b:ByteArray):ByteArray:=s.extract 0 a ++ b ++ s.extract (a+b.size) s.size
theorem uN (s:ByteArray) (a:Nat) (b:ByteArray):bl (qN s a b)=(bl s).take a ++ bl b ++ (bl s).drop (a+b.size):=by
 unfold qN;rw[dR,dR,bq,bq]
 congr 1
 rw[←aO s,List.take_length]
def bK (n:Nat):List UInt8:=List.replicate n 0
theorem sB (n:Nat):Lib.repeatL [0] n=bK n:=by
 induction n with
 | zero=>rfl
 | succ n ih=>simp[Lib.repeatL,ih,bK,List.replicate_succ]
open Go.RowKit Go.Sort
variable {ds:List Deferred}
section
variable {M:List Nat} {w X X':World} {L:List Ent}
theorem St.toRow {i b n sz:Nat} {T:TypeId} {cs:Array Value} (h:St M w X L) (hi:L[i]? = some (.box b cs T)) (hn:cs.toList.length=n*sz) (hm:n≤maxLen):St M w X (L.set i (.row (.slice (some ⟨b,0,none⟩) n n) n T sz cs.toList)):=
 h.turn hi rfl rfl rfl (Nat.le_refl _) (fun _ _ _=>rfl) ⟨hn,.inr ⟨b,n,cs,rfl,Nat.zero_le _,h.at_ hi,Nat.le_refl _,hm,by simpa using hn,List.take_of_length_le ab⟩⟩
  (fun k hk=>by
   have hk':some b=some k:=hk;injection hk' with hk';subst hk'
   exact⟨.inl rfl,Box.lt (h.at_ hi)⟩)
theorem St.nilRow (h:St M w X L) (T:TypeId) (sz:Nat):St M w X (.row (.slice none 0 0) 0 T sz []::L):=
 h.add (Below.refl _ _) (World.ownsRow_nil _ _ _ _) (fun b hb=>by cases hb)
theorem St.boxRd {i b:Nat} {cs:Array Value} {T:TypeId} (h:St M w X L) (hi:L[i]? = some (.box b cs T)):Rd X X.heap.size (some ⟨b,0,none⟩) cs.toList:=fun j u hj=>
 ⟨b,0,rfl,Box.lt (h.at_ hi),h.cell hi (by rw[Nat.zero_add];exact hj)⟩
end
theorem jg {P:Program} (g:Nat) (t:TypeId) (fr:Nat × Nat):∀(vs:List Value) (j i:Nat) (cur:Array Value) (w:World),w.heap[g]? = some (.cells cur t fr)→j+i+vs.length≤cur.size→(∀k,j+i≤k→k<j+i+vs.length→¬(fr.1≤k∧k<fr.2))→(∀v∈vs,v.oneCell'=true) →
 (storeCells ⟨g,j,none⟩ vs i).run P w=.ok () (w.setRow g (cur.toList.take (j+i) ++ vs ++ cur.toList.drop (j+i+vs.length)).toArray)
 | [],j,i,cur,w,hg,hl,_,_=>by
  have e:(cur.toList.take (j+i) ++ [] ++ cur.toList.drop (j+i+([]:List Value).length))=cur.toList:=by simp
  rw[e];have hv:w.heap[g]? = _:=hg;simp only[storeCells];show Result.ok () w=_
  congr 1
  unfold World.setRow
  cases w with
  | mk heap tape drawn os output=>
   congr 1
   apply Array.ext
   · simp
   · intro k h1 h2
     simp only[Array.getElem_modify]
     split
     · rename_i hk;subst hk
       rw[Array.getElem?_eq_getElem h1] at hv;injection hv with hv;simp[hv]
     · rfl
 | v::rest,j,i,cur,w,hg,hl,hfr,h1=>by
  have hi:j+i<cur.size:=by simp at hl;omega
  have hcell:w.cell? ⟨g,j+i,none⟩=some cur[j+i]:=by simp[World.cell?,hg,hi]
  have hfro:w.frozen? ⟨g,j+i,none⟩=false:=by
   have:=hfr (j+i) (Nat.le_refl _) a7;unfold World.frozen?;rw[show w.heap[g]? = _ from hg];simp only[Bool.and_eq_false_iff,decide_eq_false_iff_not];omega
  have hst:(store ((⟨g,j,none⟩:Addr).add i) v).run P w=.ok () (w.setRow g (cur.setIfInBounds (j+i) v)):=by
   rw[dp,run_store P w _ v _ (h1 v a7),hcell];simp[hfro,setCell_eq_setRow w g (j+i) cur t fr v hg]
  have ih:=jg (P:=P) g t fr rest j (i+1) (cur.setIfInBounds (j+i) v) (w.setRow g (cur.setIfInBounds (j+i) v)) (setRow_heap w g cur _ t _ hg) (by simp at hl ⊢;omega) (fun k hk1 hk2=>hfr k ab (by simp only[List.length_cons];omega)) (fun x hx=>h1 x (by simp[hx]));simp only[storeCells,Sem.run_bind,hst,Result.andThen_ok,ih,setRow_setRow]
  congr 3
  simp only[Array.toList_setIfInBounds,List.length_cons];rw[show j+(i+1)=j+i+1 by omega,List.take_succ_eq_append_getElem (by simpa using hi),List.take_set_of_le (Nat.le_refl _),List.drop_set_of_lt ab];simp[show j+i+1+rest.length=j+i+(rest.length+1) by omega]
theorem gU {X:World} {b:Nat} {cs cs':Array Value} {T:TypeId} {fr:Nat × Nat} (hb:X.heap[b]? = some (.cells cs T fr)) (hs:cs'.size=cs.size):Grw (fun k _=>k=b) X (X.setRow b cs'):=
 ⟨rfl,rfl,rfl,by simp[World.setRow],fun k hk hne=>setRow_other X b k _ hne,fun k cs1 T' fr' hk=>by
  by_cases e:k=b
  · rw[e,hb] at hk
    injection hk with hk;injection hk with e1 e2 e3;subst e1 e2 e3;exact⟨_,hs,by rw[e];exact setRow_heap X b _ _ _ _ hb⟩
  · exact⟨cs1,rfl,(setRow_other X b k _ e).trans hk⟩⟩
section
variable {P:Program} {ops:Array Oper} {rest:List Oper} {o:Oper} {a:Act} {Q:Exit→Act→World→Prop} {X:World} {N d:Nat} {l:List (Nat × Value)} {M:List Nat} {w:World} {E:List Ent}
theorem rV {i:Option TypeInfo} {z:Value} {size bytes:Nat} (h:i.map (fun i=>(i.zero,i.size,i.bytes))=some (some z,size,bytes)):∃q,i=some q∧q.zero=some z∧q.size=size∧q.bytes=bytes:=by
 cases i with
 | none=>cases h
 | some q=>injection h with h;injection h with h1 h2;injection h2 with h2 h3;exact⟨q,rfl,h1,h2,h3⟩
theorem bG {s x:Operand} {t e:TypeId} {z v:Value} {n m c i sz bytes:Nat} {A:Option Addr} {xs news:List Value} (ha:Has ds a N l) (hw:Region.wanted o (yielded ops a.tmps)=true) (ho:o.op=.call { callee:=.builtin .append,args:=#[s,x],argTypes:=#[t,t] }∧o.dst=some d) (hN:Nat.blt d N=true)
 (ht:P.underlying t=some (.slice e)) (hinfo:(P.info? e).map (fun i=>(i.zero,i.size,i.bytes))=some (some z,sz,bytes)) (hz:z.cells.size=sz) (hsz:Nat.blt 0 sz=true) (hs:a.eval s=v) (hx:a.eval x=.slice A m c) (hS:St M w X E) (hi:E[i]? = some (.row v n e sz xs))
 (hr:Rd X X.heap.size A news) (hl:news.length=m*sz) (h1:∀u∈news,u.oneCell'=true) (hb:n+m≤1000000∧bytes≤1000000)
 (k:∀A' c' a' X',Has ds a' N ((d,.slice A' (n+m) c')::l)→St M w X' (E.set i (.row (.slice A' (n+m) c') (n+m) e sz (xs ++ news)))→wpList P ops Q rest a' X'):wpList P ops Q (o::rest) a X:=by
 obtain⟨q,hq,hz1,hz2,hz3⟩:=rV hinfo;have hown:X.ownsRow 0 e sz v n xs:=hS.at_ hi;have hmul:(n+m)*bytes≤1000000*1000000:=Nat.mul_le_mul hb.1 hb.2;obtain⟨v',w',hrun,h2,h3,h5⟩:=n0 (P:=P) X 0 t o.type e q z sz bytes ht hq hz1 hz2 hz3 hz (Nat.lt_of_lt_of_le (Nat.lt_succ_self 0) (Nat.le_of_ble_eq_true hsz)) v n xs hown X.heap.size A m c news hl hr h1 (by unfold maxLen;omega) ab (Nat.zero_le _);obtain⟨A',c',rfl,_⟩:=ownsRow_form h2;refine aI (X':=w') (v:=.slice A' (n+m) c') ha hw ?_ ho.2 hN (fun a' ha'=>k A' c' a' w' ha' (hS.grown hi h2 h3 ?_))
 · unfold execOp
   simp only[ho.1,resolve,invoke,builtin,Sem.run_bind,Sem.run_pure,Result.andThen_ok,List.map_toArray,List.map_cons,List.map_nil,hs,hx,hrun]
 · rcases h5 with h5 | h5
   · exact .inl h5
   · exact .inr fun g hg=>by rw[h5] at hg;injection hg with hg;omega
theorem o3 {ty:TypeId} {x y:Operand} {g j i n c sz:Nat} {v:Value} {vs:List Value} {T:TypeId} {xs:List Value} (ha:Has ds a N l) (hw:Region.wanted o (yielded ops a.tmps)=true) (ho:o.op=.store ty x y∧o.dst=none) (hx:a.eval x=.pointer (some ⟨g,j,none⟩)) (hy:a.eval y=v) (hvs:v.cells.toList=vs)
 (hs:(P.info? ty).map (·.size)=some vs.length) (hS:St M w X E) (hi:E[i]? = some (.row (.slice (some ⟨g,0,none⟩) n c) n T sz xs)) (h1:vs.all (·.oneCell')=true) (hj:j+vs.length≤n*sz)
 (k:∀X',St M w X' (E.set i (.row (.slice (some ⟨g,0,none⟩) n c) n T sz (xs.take j ++ vs ++ xs.drop (j+vs.length))))→wpList P ops Q rest a X'):wpList P ops Q (o::rest) a X:=by
 have hown:X.ownsRow 0 T sz (.slice (some ⟨g,0,none⟩) n c) n xs:=hS.at_ hi;obtain⟨hxl,hrow⟩:=hown;rcases hrow with ⟨h0,_⟩ | ⟨g',cap,cur,e1,_,hg,hcap,hm,hcs,htk⟩
 · cases h0
 injection e1 with e1 e2 e3;injection e1 with e1;injection e1 with e1 _;subst e1 e3
 have hle:j+vs.length≤cur.size:=by rw[hcs];exact Nat.le_trans hj (Nat.mul_le_mul_right _ hcap)
 have hst:=dq (P:=P) g T vs j 0 cur X hg (by simpa using hle) (fun u hu=>List.all_eq_true.1 h1 u hu);simp only[Nat.add_zero] at hst
 have hnsz:n*sz≤cur.size:=by rw[hcs];exact Nat.mul_le_mul_right _ hcap
 refine kb (X':=X.setRow g (cur.toList.take j ++ vs ++ cur.toList.drop (j+vs.length)).toArray) hw ?_ ho.2 (k _ ?_)
 · cases hq:P.info? ty with
   | none=>rw[hq] at hs;cases hs
   | some q=>
    rw[hq] at hs
    have hsz:q.size=vs.length:=by simpa using hs
    have hcsz:v.cells.size=vs.length:=by rw[←hvs];simp
    unfold execOp;simp only[ho.1,hx,hy,Instr.storeAt,Instr.sureAddr,Sem.run_bind,Sem.run_pure,Result.andThen_ok];simp[storeVar,sizeOf,typeInfo,hq,hsz,hcsz,hvs,hst]
 · have hG:=gU (cs':=(cur.toList.take j ++ vs ++ cur.toList.drop (j+vs.length)).toArray) hg (by simp;omega)
   refine hS.turn hi hG.os hG.tape hG.output hG.size (fun b hb hne=>hG.block b hb (fun e=>hne (by rw[e];rfl))) ⟨by simp only[List.length_append,List.length_take,List.length_drop];omega,.inr ⟨g,c,_,rfl,Nat.zero_le _,setRow_heap X g _ _ _ _ hg,hcap,hm,by simp;omega,?_⟩⟩ (fun b hb=>⟨.inl hb,?_⟩)
   · show(cur.toList.take j ++ vs ++ cur.toList.drop (j+vs.length)).take (n*sz)=_
     rw[←htk,List.take_append,List.take_append,List.take_of_length_le (l:=vs) (by simp;omega),List.take_take,List.take_take,List.take_drop,List.drop_take]
     have hl1:(cur.toList.take j ++ vs).length=j+vs.length:=by simp;omega
     rw[hl1,Nat.min_eq_right ab,Nat.min_eq_left ab,show j+vs.length+(n*sz-(j+vs.length))=n*sz by omega,List.drop_take]
   · have hb':some g=some b:=hb
     injection hb' with hb';subst hb';exact(Array.getElem?_eq_some_iff.1 (setRow_heap X g _ (cur.toList.take j ++ vs ++ cur.toList.drop (j+vs.length)).toArray _ _ hg)).1
theorem eC {ρ:Operand→Value} {t e:TypeId} {n sz:Nat} {parts:Array (Nat × Operand)} {zc:List Value} {us:List Value} {ixs:List Nat} {cs:List Value} (ho:o.op=.buildSlice t n parts)
 (ht:P.underlying t=some (.slice e)) (hz:((P.info? e).bind (·.zero)).map (·.cells.toList)=some zc) (hs:(P.info? e).map (·.size)=some sz) (hzc:zc.length=sz) (hsz:Nat.blt 0 sz=true) (hn:Nat.blt (n*sz) 16777216=true) (hv:parts.toList.map (fun p=>ρ p.2)=us) (hi:parts.toList.map (·.1)=ixs)
 (hf:mj ((List.range n).map fun i=>(i*sz,sz)) (List.replicate n zc).flatten (ixs.zip us)=some cs) (hin:ixs.all (fun i=>Nat.blt i n)=true) :
 (execOp ρ o).run P X=.ok (.value (.slice (some ⟨X.heap.size,0,none⟩) n n)) (X.alloc (.cells cs.toArray e)):=by
 have hps:parts.toList.map (fun x=>(x.1,ρ x.2))=ixs.zip us:=by
  have hz:∀l:List (Nat × Operand),l.map (fun x=>(x.1,ρ x.2))=(l.map (·.1)).zip (l.map fun p=>ρ p.2):=by
   intro l
   induction l with
   | nil=>rfl
   | cons p l ih=>simp[ih]
  rw[←hv,←hi,←hz parts.toList]
 have hsz':0<sz:=Nat.lt_of_lt_of_le (Nat.lt_succ_self 0) (Nat.le_of_ble_eq_true hsz);have hn':n*sz<16777216:=Nat.le_of_ble_eq_true hn
 cases hq:P.info? e with
 | none=>rw[hq] at hs;cases hs
 | some q=>
  rw[hq] at hs hz
  have hqs:q.size=sz:=by simpa using hs
  cases hqz:q.zero with
  | none=>rw[Option.bind_some,hqz] at hz;cases hz
  | some z=>
   rw[Option.bind_some,hqz] at hz
   have hzz:z.cells.toList=zc:=by simpa using hz
   have hzs:z.cells.size=sz:=by rw[←hzc,←hzz];simp
   have hcells:(Array.range (n*sz)).map (z.cells[· % z.cells.size]!)=(List.replicate n zc).flatten.toArray:=by
    apply Array.ext';rw[Array.toList_map,Array.toList_range];apply List.ext_getElem
    · simp[hzc]
    · intro k h1 h2
      simp only[List.length_map,List.length_range] at h1;rw[List.getElem_map,List.getElem_range,hzs]
      have hmod:k % sz<z.cells.size:=by rw[hzs];exact Nat.mod_lt _ hsz'
      have hget:∀(m k:Nat) (h:k<((List.replicate m zc).flatten).length),((List.replicate m zc).flatten)[k]'h=zc[k % sz]'(by rw[hzc];exact Nat.mod_lt _ hsz'):=by
       intro m
       induction m with
       | zero=>intro k h;simp at h
       | succ m ih=>
        intro k h;simp only[List.replicate_succ,List.flatten_cons];by_cases hk:k<zc.length
        · rw[List.getElem_append_left hk]
          congr 1
          rw[Nat.mod_eq_of_lt ab]
        · rw[List.getElem_append_right ab,ih]
          congr 1
          rw[hzc,←Nat.mod_eq_sub_mod ab]
      simp only[List.toList_toArray];rw[hget];rw[getElem!_pos z.cells (k % sz) hmod];simp[←hzz]
   have hfs:=sR _ _ _ _ hf
   have hfill:∀(ps:List (Nat × Value)) (cells:Array Value),(∀p∈ps,p.1<n)→Instr.fill (((List.range n).map fun i=>(i*sz,sz)).toArray[·]?) cells ps=Instr.fill (fun i=>some (i*sz,sz)) cells ps:=by
    intro ps
    induction ps with
    | nil=>intro cells _;rfl
    | cons p ps ih=>
     intro cells hp;obtain⟨i,v⟩:=p;unfold Instr.fill
     have e1:((List.range n).map fun i=>(i*sz,sz)).toArray[i]? = some (i*sz,sz):=by
      have:=hp (i,v) a7;simp at this;simp[this]
     rw[e1];simp only
     split
     · rfl
     · exact ih _ (fun q hq=>hp q (by simp[hq]))
   rw[hfill _ _ (fun p hp=>by
    have:=List.all_eq_true.1 hin p.1 (by
     have:=(List.of_mem_zip (a:=p.1) (b:=p.2) (by simpa using hp)).1
     exact this)
    exact Nat.le_of_ble_eq_true this)] at hfs
   unfold execOp;simp only[ho]
   have Za:¬(16777216<n*sz):=by omega
   by_cases hn0:n=0
   · subst hn0
     have hr0:Array.range 0=#[]:=rfl;simp only[Nat.zero_mul,List.replicate_zero,List.flatten_nil] at hfs ⊢;simp[hr0,Instr.buildSlice,run_underlying ht,sizeOf,typeInfo,hq,hqs,hps,hfs,newRow]
   · have hne:n*sz≠0:=by have:=Nat.mul_pos (Nat.pos_of_ne_zero hn0) hsz';omega
     simp[Instr.buildSlice,run_underlying ht,sizeOf,typeInfo,hq,hqs,zeroValue,hqz,hps,hcells,hfs,newRow,Za,hne]
theorem dd {t e:TypeId} {n sz:Nat} {parts:Array (Nat × Operand)} {zc:List Value} {us:List Value} {ixs:List Nat} {cs:List Value} (ha:Has ds a N l) (hw:Region.wanted o (yielded ops a.tmps)=true) (ho:o.op=.buildSlice t n parts∧o.dst=some d) (hN:Nat.blt d N=true)
 (ht:P.underlying t=some (.slice e)) (hz:((P.info? e).bind (·.zero)).map (·.cells.toList)=some zc) (hs:(P.info? e).map (·.size)=some sz) (hzc:zc.length=sz) (hsz:Nat.blt 0 sz=true) (hn:Nat.blt (n*sz) 16777216=true) (hv:parts.toList.map (fun p=>a.eval p.2)=us) (hi:parts.toList.map (·.1)=ixs)
 (hf:mj ((List.range n).map fun i=>(i*sz,sz)) (List.replicate n zc).flatten (ixs.zip us)=some cs) (hin:ixs.all (fun i=>Nat.blt i n)=true) (hS:St M w X E)
 (k:∀b a' X',w.heap.size≤b→Has ds a' N ((d,.slice (some ⟨b,0,none⟩) n n)::l)→St M w X' (.box b cs.toArray e::E)→wpList P ops Q rest a' X'):wpList P ops Q (o::rest) a X:=
 bw (f:=fun b=>.slice (some ⟨b,0,none⟩) n n) (cs:=cs.toArray) (T:=e) ha hw (eC ho.1 ht hz hs hzc hsz hn hv hi hf hin) ho.2 hN hS k
end
section
variable {P:Program} {ρ:Operand→Value} {X:World} {d:Option Tmp} {ty:TypeId} {ps:String} {af:Array Edge} {g:Option (Nat × Bool)}
theorem gx {x:Operand} {t e:TypeId} {b o' n c l h sz j:Nat} {lo hi:Option Operand} (ht:P.underlying t=some (.slice e)) (hs:(P.info? e).map (·.size)=some sz) (hx:ρ x=.slice (some ⟨b,o',none⟩) n c) (hlo:match lo with | some y=>ρ y=.int .i64 (l:Nat) | none=>l=0) (hhi:match hi with | some y=>ρ y=.int .i64 (h:Nat) | none=>h=n) (h1:l≤h) (h2:h≤c) (hc:c≠l∨l=0) (hj:o'+l*sz=j) :
 (execOp ρ ⟨d,.slice t x lo hi none,ty,ps,af,g⟩).run P X=.ok (.value (.slice (some ⟨b,j,none⟩) (h-l) (c-l))) X:=by
 subst hj
 have hadd:(if c=l then (some ⟨b,o',none⟩:Option Addr) else some ((⟨b,o',none⟩:Addr).add (l*sz)))=some ⟨b,o'+l*sz,none⟩:=by
  split
  · rcases hc with hc | hc
    · contradiction
    · subst hc;simp
  · rw[dp]
 cases hq:P.info? e with
 | none=>rw[hq] at hs;cases hs
 | some q=>
  rw[hq] at hs
  have hqs:q.size=sz:=by simpa using hs
  cases lo<;>cases hi<;>simp only at hlo hhi
  · subst hlo hhi;simp[execOp,hx,Instr.sliceAt,Instr.slice,run_underlying ht,Instr.sliceBounds,sizeOf,typeInfo,hq,hqs];simpa using hadd
  · subst hlo;simp[execOp,hx,hhi,Instr.sliceAt,Instr.slice,run_underlying ht,Instr.sliceBounds,Instr.sliceBound,asIntOf,h2,sizeOf,typeInfo,hq,hqs];simpa using hadd
  · subst hhi;simp[execOp,hx,hlo,Instr.sliceAt,Instr.slice,run_underlying ht,Instr.sliceBounds,Instr.sliceBound,asIntOf,h1,sizeOf,typeInfo,hq,hqs];simpa using hadd
  · simp[execOp,hx,hlo,hhi,Instr.sliceAt,Instr.slice,run_underlying ht,Instr.sliceBounds,Instr.sliceBound,asIntOf,h1,h2,sizeOf,typeInfo,hq,hqs];simpa using hadd
def fD (o' c l sz:Nat):Nat:=if c=l then o' else o'+l*sz
theorem lp {x:Operand} {t e:TypeId} {b o' n c l h sz:Nat} {lo hi:Option Operand} (ht:P.underlying t=some (.slice e)) (hs:(P.info? e).map (·.size)=some sz) (hx:ρ x=.slice (some ⟨b,o',none⟩) n c) (hlo:match lo with | some y=>ρ y=.int .i64 (l:Nat) | none=>l=0) (hhi:match hi with | some y=>ρ y=.int .i64 (h:Nat) | none=>h=n) (h1:l≤h) (h2:h≤c) :
 (execOp ρ ⟨d,.slice t x lo hi none,ty,ps,af,g⟩).run P X=.ok (.value (.slice (some ⟨b,fD o' c l sz,none⟩) (h-l) (c-l))) X:=by
 have hadd:(if c=l then (some ⟨b,o',none⟩:Option Addr) else some ((⟨b,o',none⟩:Addr).add (l*sz)))=some ⟨b,fD o' c l sz,none⟩:=by
  unfold fD
  split
  · rfl
  · rw[dp]
 cases hq:P.info? e with
 | none=>rw[hq] at hs;cases hs
 | some q=>
  rw[hq] at hs
  have hqs:q.size=sz:=by simpa using hs
  cases lo<;>cases hi<;>simp only at hlo hhi
  · subst hlo hhi;simp[execOp,hx,Instr.sliceAt,Instr.slice,run_underlying ht,Instr.sliceBounds,sizeOf,typeInfo,hq,hqs];simpa using hadd
  · subst hlo;simp[execOp,hx,hhi,Instr.sliceAt,Instr.slice,run_underlying ht,Instr.sliceBounds,Instr.sliceBound,asIntOf,h2,sizeOf,typeInfo,hq,hqs];simpa using hadd
  · subst hhi;simp[execOp,hx,hlo,Instr.sliceAt,Instr.slice,run_underlying ht,Instr.sliceBounds,Instr.sliceBound,asIntOf,h1,sizeOf,typeInfo,hq,hqs];simpa using hadd
  · simp[execOp,hx,hlo,hhi,Instr.sliceAt,Instr.slice,run_underlying ht,Instr.sliceBounds,Instr.sliceBound,asIntOf,h1,h2,sizeOf,typeInfo,hq,hqs];simpa using hadd
end
theorem rJ {X:World} {b j:Nat} {l:List UInt8} (h:kC X b l) (hj:j<l.length):X.cell? ⟨b,j,none⟩=some (bb (l.getD j 0)):=by
 obtain⟨cs,T,fr,h1,h2,_⟩:=h
 have hg:(cs.toList.take l.length)[j]? = some (bb (l.getD j 0)):=by
  rw[h2,List.getElem?_map,List.getD_eq_getElem?_getD,List.getElem?_eq_getElem hj];rfl
 rw[List.getElem?_take,if_pos hj] at hg;unfold World.cell?;rw[h1]
 simpa using hg
theorem yG {X:World} {b:Nat} {l:List UInt8} (h:kC X b l):∃cs T fr,X.heap[b]? = some (.cells cs T fr)∧cs.toList.take l.length=l.map bb∧(∀j,j<cs.size→¬(fr.1≤j∧j<fr.2))∧l.length≤cs.size:=by
 obtain⟨cs,T,fr,h1,h2,h3⟩:=h;have:=congrArg List.length h2;rw[List.length_take,List.length_map] at this;exact⟨cs,T,fr,h1,h2,h3,by simp at this;omega⟩
theorem vQ (l:List UInt8):∀v∈l.map bb,v.oneCell'=true:=fun v hv=>by
 obtain⟨b,_,rfl⟩:=List.mem_map.1 hv;rfl
theorem AB {P:Program} {X:World} {b j:Nat} {l us:List UInt8} (h:kC X b l) (hj:j+us.length≤l.length) :
 ∃X',(storeCells ⟨b,j,none⟩ (us.map bb) 0).run P X=.ok () X'∧Grw (fun k _=>k=b) X X'∧kC X' b (l.take j ++ us ++ l.drop (j+us.length)):=by
 obtain⟨cs,T,fr,h1,h2,h3,h4⟩:=yG h;have hst:=jg (P:=P) b T fr (us.map bb) j 0 cs X h1 (by simp;omega) (fun k hk1 hk2=>h3 k (by simp at hk2;omega)) (vQ us);refine⟨_,hst,gU h1 (by simp;omega),_,T,fr,setRow_heap X b _ _ _ _ h1,?_,fun k hk=>h3 k (by simp at hk;omega)⟩
 have hlen:(l.take j ++ us ++ l.drop (j+us.length)).length=l.length:=by simp only[List.length_append,List.length_take,List.length_drop];omega
 rw[hlen,List.map_append,List.map_append,List.map_take,List.map_drop,←h2];simp only[Nat.add_zero,List.toList_toArray,List.length_map];rw[List.take_append,List.take_append,List.take_of_length_le (l:=us.map bb) (by simp;omega),List.take_take,List.take_take,List.take_drop,List.drop_take]
 have hl1:(cs.toList.take j ++ us.map bb).length=j+us.length:=by simp;omega
 rw[hl1,Nat.min_eq_right ab,Nat.min_eq_left ab,show j+us.length+(l.length-(j+us.length))=l.length by omega,List.drop_take]
section
variable {P:Program} {ops:Array Oper} {rest:List Oper} {o:Oper} {a:Act} {Q:Exit→Act→World→Prop} {X:World} {N d:Nat} {l:List (Nat × Value)} {M:List Nat} {w:World} {E:List Ent}
theorem St.byted {X':World} {i b:Nat} {l1 l2:List UInt8} (h:St M w X E) (hi:E[i]? = some (.byt b l1)) (hX:Grw (fun k _=>k=b) X X') (hb:kC X' b l2):St M w X' (E.set i (.byt b l2)):=
 h.turn hi hX.os hX.tape hX.output hX.size (fun k hk hne=>hX.block k hk hne) hb (fun k hk=>⟨.inl hk,by
  cases hk
  obtain⟨cs,T,fr,h1,_⟩:=hb
  exact(Array.getElem?_eq_some_iff.1 h1).1⟩)
theorem rq {x:Operand} {src dst e:TypeId} {u:TypeDesc} {s:ByteArray} (ha:Has ds a N l) (hw:Region.wanted o (yielded ops a.tmps)=true) (ho:o.op=.convert src dst x∧o.dst=some d) (hN:Nat.blt d N=true) (hs:P.underlying src=some u) (hd:P.underlying dst=some (.slice e)) (he:P.underlying e=some (.int .u8))
 (hx:a.eval x=.string s) (hS:St M w X E) (k:∀b c a' X',w.heap.size≤b→s.size≤c→Has ds a' N ((d,.slice (some ⟨b,0,none⟩) s.size c)::l)→St M w X' (.byt b (bl s)::E)→wpList P ops Q rest a' X'):wpList P ops Q (o::rest) a X:=by
 have hrun:=Lib.run_convert_string_bytes (P:=P) X src dst e s hs hd he;have hb:Below X.heap.size X (Lib.bytesWorld X e s):=⟨rfl,rfl,rfl,by rw[Lib.bytesWorld_size];omega,fun j hj=>Lib.bytesWorld_at_old X e s j hj⟩;refine aI (X':=Lib.bytesWorld X e s) (v:=.slice (some ⟨X.heap.size,0,none⟩) s.size (grownCap X s.size 0 e)) ha hw ?_ ho.2 hN (fun a' ha'=>k X.heap.size _ a' _ hS.size ?_ ha' (hS.add hb (e:=.byt X.heap.size (bl s)) ?_ ?_))
 · unfold execOp
   simp only[ho.1,hx,Sem.run_bind,hrun,Result.andThen_ok,Sem.run_pure]
 · unfold grownCap Question.cut;simp
 · refine⟨_,_,_,Lib.bytesWorld_at_new X e s,?_,fun j hj=>by simp only;omega⟩
   unfold Lib.bytesCells;rw[Array.toList_append,List.take_append_of_le_length (by simp[aO]),List.take_of_length_le (by simp[aO])];simp[bb]
 · intro b hb'
   cases hb'
   exact⟨Nat.le_refl _,by rw[Lib.bytesWorld_size];omega⟩
end
open Go.RowKit Go.Sort
variable {ds:List Deferred}
inductive Kd where
 | i (k:IntKind)
 | b
 | s
def la (kd:TypeId→Option (List Kd)):List Field→Nat→Option (List Kd)
 | [],_=>some []
 | f::fs,off=>match kd f.type with
  | none=>none
  | some ks=>if f.name != "_" && f.offset==off&&decide (0<ks.length) then (la kd fs (off+ks.length)).map (ks ++ ·) else none
def kinds (P:Program):Nat→TypeId→Option (List Kd)
 | 0,_=>none
 | n+1,t=>match P.underlying t with
  | some (.int k)=>some [.i k]
  | some .bool=>some [.b]
  | some .string=>some [.s]
  | some (.struct fs)=>if P.stoodInHeld t then none else match la (kinds P n) fs.toList 0 with
   | none=>none
   | some ks=>if (P.info? t).map (·.size)==some ks.length then some ks else none
  | _=>none
def By:Kd→Value→Bool
 | .i k,.int k' _=>decide (k=k')
 | .b,.bool _=>true
 | .s,.string _=>true
 | _,_=>false
def eX:List Kd→List Value→Bool
 | [],[]=>true
 | k::ks,v::vs=>By k v&&eX ks vs
 | _,_=>false
def sJ:Value→Value→Bool
 | .int _ a,.int _ b=>a==b
 | .bool a,.bool b=>a==b
 | .string a,.string b=>decide (a=b)
 | _,_=>false
def kO:List Value→List Value→Bool
 | [],[]=>true
 | x::xs,y::ys=>sJ x y&&kO xs ys
 | _,_=>false
theorem cI:∀{ks:List Kd} {vs:List Value},eX ks vs=true→vs.length=ks.length
 | [],[],_=>rfl
 | k::ks,v::vs,h=>by
  unfold eX at h;rw[Bool.and_eq_true] at h;simp[cI h.2]
 | [],_::_,h=>by cases h
 | _::_,[],h=>by cases h
theorem iJ:∀{ks ks':List Kd} {vs:List Value},eX (ks ++ ks') vs=true→eX ks (vs.take ks.length)=true∧eX ks' (vs.drop ks.length)=true
 | [],ks',vs,h=>⟨by simp[eX],by simpa using h⟩
 | k::ks,ks',[],h=>by cases h
 | k::ks,ks',v::vs,h=>by
  rw[List.cons_append] at h;unfold eX at h;rw[Bool.and_eq_true] at h;obtain⟨h1,h2⟩:=iJ h.2;refine⟨?_,?_⟩
  · show(By k v&&eX ks (vs.take ks.length))=true
    rw[h.1,h1];rfl
  · exact h2
theorem nq:∀{n:Nat} {xs ys:List Value},xs.length=ys.length→kO xs ys=(kO (xs.take n) (ys.take n)&&kO (xs.drop n) (ys.drop n))
 | 0,xs,ys,_=>by simp[kO]
 | n+1,[],[],_=>by simp[kO]
 | n+1,x::xs,y::ys,h=>by
  simp only[List.take_succ_cons,List.drop_succ_cons,kO];rw[nq (n:=n) (by simpa using h),Bool.and_assoc]
 | n+1,[],_::_,h=>by cases h
 | n+1,_::_,[],h=>by cases h
section
variable {P:Program} {X:World}
def jZ (P:Program) (t:TypeId) (vs:List Value):Value:=match P.underlying t with
 | some (.struct _)=>.agg vs.toArray
 | _=>vs.headD undef
theorem qt {t:TypeId} {n:Nat} {ks:List Kd} (hk:kinds P n t=some ks) (cs:List Value) (off:Nat) (hl:off+ks.length≤cs.length):(part t cs.toArray off).run P X=.ok (jZ P t ((cs.drop off).take ks.length)) X:=by
 cases n with
 | zero=>cases hk
 | succ n=>
  unfold kinds at hk
  cases hu:P.underlying t with
  | none=>rw[hu] at hk;cases hk
  | some td=>
   rw[hu] at hk
   cases td<;>simp only[reduceCtorEq] at hk
   case bool=>
    injection hk with hk;subst hk
    have hlt:off<cs.length:=by simp at hl;omega
    have e1:cs.toArray[off]? = some cs[off]:=by simp[hlt]
    have e2:(cs.drop off).take 1=[cs[off]]:=by rw[List.drop_eq_getElem_cons hlt];rfl
    simp only[part,isAgg,Sem.run_bind,run_underlying hu,Result.andThen_ok,Sem.run_pure,e1,jZ,hu,List.length_cons,List.length_nil,Nat.zero_add,e2,Bool.false_eq_true,if_false]
    rfl
   case int k=>
    injection hk with hk;subst hk
    have hlt:off<cs.length:=by simp at hl;omega
    have e1:cs.toArray[off]? = some cs[off]:=by simp[hlt]
    have e2:(cs.drop off).take 1=[cs[off]]:=by rw[List.drop_eq_getElem_cons hlt];rfl
    simp only[part,isAgg,Sem.run_bind,run_underlying hu,Result.andThen_ok,Sem.run_pure,e1,jZ,hu,List.length_cons,List.length_nil,Nat.zero_add,e2,Bool.false_eq_true,if_false]
    rfl
   case string=>
    injection hk with hk;subst hk
    have hlt:off<cs.length:=by simp at hl;omega
    have e1:cs.toArray[off]? = some cs[off]:=by simp[hlt]
    have e2:(cs.drop off).take 1=[cs[off]]:=by rw[List.drop_eq_getElem_cons hlt];rfl
    simp only[part,isAgg,Sem.run_bind,run_underlying hu,Result.andThen_ok,Sem.run_pure,e1,jZ,hu,List.length_cons,List.length_nil,Nat.zero_add,e2,Bool.false_eq_true,if_false]
    rfl
   case struct fs=>
    split at hk
    · cases hk
    · cases hkf:la (kinds P n) fs.toList 0 with
      | none=>rw[hkf] at hk;cases hk
      | some ks'=>
       rw[hkf] at hk;simp only at hk
       split at hk
       · rename_i hs
         injection hk with hk;subst hk;rw[beq_iff_eq] at hs
         cases hq:P.info? t with
         | none=>rw[hq] at hs;cases hs
         | some q=>
          rw[hq] at hs
          have hqs:q.size=ks'.length:=by simpa using hs
          simp[part,isAgg,run_underlying hu,jZ,hu,sizeOf,typeInfo,hq,hqs]
          try rw[List.drop_take,Nat.add_sub_cancel_left]
       · cases hk
theorem lL:∀(n d:Nat) (t:TypeId) (ks:List Kd),n≤d→kinds P n t=some ks→∀xs ys:List Value,eX ks xs=true→eX ks ys=true→(Op.equalIn d t (jZ P t xs) (jZ P t ys)).run P X=.ok (kO xs ys) X
 | 0,_,_,_,_,hk,_,_,_,_=>by cases hk
 | n+1,0,_,_,hnd,_,_,_,_,_=>by omega
 | n+1,d+1,t,ks,hnd,hk,xs,ys,hx,hy=>by
  unfold kinds at hk
  cases hu:P.underlying t with
  | none=>rw[hu] at hk;cases hk
  | some td=>
   rw[hu] at hk;have hlx:=cI hx;have hly:=cI hy
   cases td<;>simp only[reduceCtorEq] at hk
   case bool=>
    injection hk with hk;subst hk
    match xs,ys,hlx,hly with
    | [x],[y],_,_=>
     cases x<;>simp[eX,By] at hx
     cases y<;>simp[eX,By] at hy
     simp[jZ,hu,Op.equalIn,run_underlying hu,kO,sJ]
   case int k=>
    injection hk with hk;subst hk
    match xs,ys,hlx,hly with
    | [x],[y],_,_=>
     cases x<;>simp[eX,By] at hx
     cases y<;>simp[eX,By] at hy
     subst hx;subst hy;simp[jZ,hu,Op.equalIn,run_underlying hu,kO,sJ]
   case string=>
    injection hk with hk;subst hk
    match xs,ys,hlx,hly with
    | [x],[y],_,_=>
     cases x<;>simp[eX,By] at hx
     cases y<;>simp[eX,By] at hy
     simp[jZ,hu,Op.equalIn,run_underlying hu,kO,sJ];rw[beq_toListBytes,tW]
   case struct fs=>
    split at hk
    · cases hk
    · rename_i hst
      cases hkf:la (kinds P n) fs.toList 0 with
      | none=>rw[hkf] at hk;cases hk
      | some ks'=>
       rw[hkf] at hk;simp only at hk
       split at hk
       · injection hk with hk;subst hk
         have hfo:P.fieldsOf t=fs:=by unfold Program.fieldsOf;rw[hu]
         have ev:∀zs:List Value,jZ P t zs=.agg zs.toArray:=fun zs=>by unfold jZ;rw[hu]
         rw[ev,ev,run_equalIn_struct X d t _ _ (by rw[hfo];exact hu) (by simpa using hst),hfo]
         have key:∀(fl:List Field) (off:Nat) (kl:List Kd),la (kinds P n) fl off=some kl→eX kl (xs.drop off)=true→eX kl (ys.drop off)=true→(Op.eqFields d xs.toArray ys.toArray fl).run P X=.ok (kO (xs.drop off) (ys.drop off)) X:=by
          intro fl
          induction fl with
          | nil=>
           intro off kl h1 h2 h3;injection h1 with h1;subst h1;have e1:=cI h2;have e2:=cI h3;have z1:xs.drop off=[]:=List.eq_nil_of_length_eq_zero e1;have z2:ys.drop off=[]:=List.eq_nil_of_length_eq_zero e2;rw[z1,z2];simp[Op.eqFields,kO]
          | cons f fl ih=>
           intro off kl h1 h2 h3;unfold la at h1
           cases hkd:kinds P n f.type with
           | none=>rw[hkd] at h1;cases h1
           | some k1=>
            rw[hkd] at h1;simp only at h1
            split at h1
            · rename_i hc
              rw[Bool.and_eq_true,Bool.and_eq_true,bne_iff_ne,beq_iff_eq,decide_eq_true_eq] at hc;obtain⟨⟨hnm,hof⟩,hpos⟩:=hc;rw[Option.map_eq_some_iff] at h1;obtain⟨k2,hk2,rfl⟩:=h1;obtain⟨a1,a2⟩:=iJ h2;obtain⟨b1,b2⟩:=iJ h3;have l1:=cI a1;have l2:=cI b1;rw[List.length_take,List.length_drop] at l1 l2;have p1:=qt (X:=X) hkd xs off ab;have p2:=qt (X:=X) hkd ys off ab;have heq:=lL n d f.type k1 ab hkd _ _ a1 b1;rw[List.drop_drop] at a2 b2;have hrest:=ih (off+k1.length) k2 hk2 a2 b2;have e0:=cI h2;have e0':=cI h3;rw[nq (n:=k1.length) (xs:=xs.drop off) (ys:=ys.drop off) ab,List.drop_drop,List.drop_drop];unfold Op.eqFields;rw[if_pos hnm,hof];simp only[Sem.run_bind,p1,p2,Result.andThen_ok,heq]
              cases kO ((xs.drop off).take k1.length) ((ys.drop off).take k1.length) with
              | true=>simp only[Bool.not_true,Bool.false_eq_true,if_false,Bool.true_and];exact hrest
              | false=>simp
            · cases h1
         exact key fs.toList 0 ks' hkf (by simpa using hx) (by simpa using hy)
       · cases hk
end
section
variable {P:Program} {ρ:Operand→Value} {X:World} {d:Option Tmp} {ty:TypeId} {ps:String} {af:Array Edge} {g:Option (Nat × Bool)}
theorem qW {t:TypeId} {ks:List Kd} {fs:Array Field} {xs ys:List Value} (hk:kinds P 8 t=some ks) (hu:P.underlying t=some (.struct fs)) (hx:eX ks xs=true) (hy:eX ks ys=true):(Op.equal t (.agg xs.toArray) (.agg ys.toArray)).run P X=.ok (kO xs ys) X:=by
 have:=lL (P:=P) (X:=X) 8 Op.maxDepth t ks aq hk xs ys hx hy
 have ev:∀zs:List Value,jZ P t zs=.agg zs.toArray:=fun zs=>by unfold jZ;rw[hu]
 rw[ev,ev] at this;exact this
theorem ub {x y:Operand} {t t':TypeId} {ks:List Kd} {fs:Array Field} {xs ys:List Value} (hk:kinds P 8 t=some ks) (hu:P.underlying t=some (.struct fs)) (hg:P.eqGuardType P.depth t=false) (hx:ρ x=.agg xs.toArray) (hy:ρ y=.agg ys.toArray) (hxk:eX ks xs=true) (hyk:eX ks ys=true) :
 (execOp ρ ⟨d,.binOp .eql t x y t',ty,ps,af,g⟩).run P X=.ok (.value (.bool (kO xs ys))) X:=by
 simp[execOp,hx,hy,eqGuard,hg,binOp,qW hk hu hxk hyk]
theorem l4 {x y:Operand} {t t':TypeId} {ks:List Kd} {fs:Array Field} {xs ys:List Value} (hk:kinds P 8 t=some ks) (hu:P.underlying t=some (.struct fs)) (hg:P.eqGuardType P.depth t=false) (hx:ρ x=.agg xs.toArray) (hy:ρ y=.agg ys.toArray) (hxk:eX ks xs=true) (hyk:eX ks ys=true) :
 (execOp ρ ⟨d,.binOp .neq t x y t',ty,ps,af,g⟩).run P X=.ok (.value (.bool (!kO xs ys))) X:=by
 simp[execOp,hx,hy,eqGuard,hg,binOp,qW hk hu hxk hyk]
theorem mX {x y:Operand} {t t':TypeId} {k k':IntKind} {m:Int} {n:Nat} (hx:ρ x=.int k m) (hy:ρ y=.int k' (n:Nat)) (h:Nat.ble n k.bits=true) (h0:0≤m):(execOp ρ ⟨d,.binOp .shr t x y t',ty,ps,af,g⟩).run P X=.ok (.value (.int k (m / 2 ^ n))) X:=by
 have hn:n≤k.bits:=Nat.le_of_ble_eq_true h
 have h1:¬((n:Int)<0):=by omega
 have h2:min n k.bits=n:=Nat.min_eq_left hn;simp[execOp,hx,hy,eqGuard,binOp,Op.shift,h1,h2];exact Int.fdiv_eq_ediv_of_nonneg _ (Int.le_of_lt (Int.pow_pos aq))
theorem tx {x y:Operand} {t t':TypeId} {k k':IntKind} {m r:Int} {n:Nat} (hx:ρ x=.int k m) (hy:ρ y=.int k' (n:Nat)) (h:Nat.ble n k.bits=true) (hr:k.wrap (m*2 ^ n)=r):(execOp ρ ⟨d,.binOp .shl t x y t',ty,ps,af,g⟩).run P X=.ok (.value (.int k r)) X:=by
 have hn:n≤k.bits:=Nat.le_of_ble_eq_true h
 have h1:¬((n:Int)<0):=by omega
 have h2:min n k.bits=n:=Nat.min_eq_left hn;simp[execOp,hx,hy,eqGuard,binOp,Op.shift,h1,h2,hr]
theorem ki {x y:Operand} {t t':TypeId} {op:BinOp} {k:IntKind} {m n r:Int} (ho:(match op with | .and | .or | .xor | .andNot=>true | _=>false)=true) (hx:ρ x=.int k m) (hy:ρ y=.int k n) (hr:bits op k m n=r):(execOp ρ ⟨d,.binOp op t x y t',ty,ps,af,g⟩).run P X=.ok (.value (.int k r)) X:=by
 subst hr
 cases op<;>simp at ho<;>simp[execOp,hx,hy,eqGuard,binOp,Op.intBits,bits]
theorem uG {x:Operand} {src dst e:TypeId} {b o' n c:Nat} {us:List UInt8} (hs:P.underlying src=some (.slice e)) (he:P.underlying e=some (.int .u8)) (hd:P.underlying dst=some .string) (hx:ρ x=.slice (some ⟨b,o',none⟩) n c) (hn:us.length=n)
 (hc:∀j (hj:j<us.length),X.cell? ⟨b,o'+j,none⟩=some (bb us[j])):(execOp ρ ⟨d,.convert src dst x,ty,ps,af,g⟩).run P X=.ok (.value (.string (bs us))) X:=by
 subst hn;have:=run_convert_bytes_back (P:=P) X src dst e ⟨b,o',none⟩ c us hs he hd (fun j hj=>by rw[dp];exact hc j hj);simp[execOp,hx,this]
 rfl
theorem St.bytStr {M:List Nat} {w:World} {L:List Ent} {i b o' n:Nat} {l:List UInt8} (h:St M w X L) (hi:L[i]? = some (.byt b l)) (hn:o'+n≤l.length):((l.drop o').take n).length=n∧∀j (hj:j<((l.drop o').take n).length),X.cell? ⟨b,o'+j,none⟩=some (bb ((l.drop o').take n)[j]):=by
 have hl:((l.drop o').take n).length=n:=by rw[List.length_take,List.length_drop];omega
 refine⟨hl,fun j hj=>?_⟩;rw[rJ (h.at_ hi) ab]
 congr 2
 rw[List.getElem_take,List.getElem_drop,List.getD_eq_getElem?_getD,List.getElem?_eq_getElem ab]
 rfl
end
section
variable {P:Program} {ops:Array Oper} {rest:List Oper} {o:Oper} {a:Act} {Q:Exit→Act→World→Prop} {X:World} {N d:Nat} {l:List (Nat × Value)} {M:List Nat} {w:World} {E:List Ent}
theorem uk {ty:TypeId} {x y:Operand} {b j i:Nat} {v:Value} {u:UInt8} {l1:List UInt8} (ha:Has ds a N l) (hw:Region.wanted o (yielded ops a.tmps)=true) (ho:o.op=.store ty x y∧o.dst=none) (hs:(P.info? ty).map (·.size)=some 1) (hx:a.eval x=.pointer (some ⟨b,j,none⟩)) (hy:a.eval y=v) (hv:v=bb u)
 (hS:St M w X E) (hi:E[i]? = some (.byt b l1)) (hj:j<l1.length) (k:∀X',St M w X' (E.set i (.byt b (l1.take j ++ [u] ++ l1.drop (j+1))))→wpList P ops Q rest a X'):wpList P ops Q (o::rest) a X:=by
 subst hv;obtain⟨X',h1,h2,h3⟩:=AB (P:=P) (us:=[u]) (j:=j) (hS.at_ hi) hj;refine kb hw ?_ ho.2 (k _ (hS.byted hi h2 h3))
 cases hq:P.info? ty with
 | none=>rw[hq] at hs;cases hs
 | some q=>
  rw[hq] at hs
  have hqs:q.size=1:=by simpa using hs
  have hvc:(bb u).cells=#[bb u]:=rfl;unfold execOp;simp only[ho.1,hx,hy,Instr.storeAt,Instr.sureAddr,Sem.run_bind,Sem.run_pure,Result.andThen_ok];simp only[List.map_cons,List.map_nil] at h1;simp[storeVar,sizeOf,typeInfo,hq,hqs,hvc,h1]
end
theorem dJ {P:Program} {Q:Exit→Act→World→Prop} {a:Act} {X:World} {N:Nat} {l:List (Nat × Value)} {c:Code} {M:List Nat} {w:World} {L:List Ent} (ha:Has ds a N l) (hS:St M w X L) (J:List (Nat × Value)) (ks:List Nat)
 (h1:c.wp P (Exit.then (fun a' X'=>Has ds a' N (J ++ ic l ks)∧St M w X' L) Q) a X) (h2:∀a' X',Has ds a' N (J ++ ic l ks)→St M w X' L→Q .normal a' X'):c.wp P Q a X:=
 qo _ h1 fun a' X' h=>h2 a' X' h.1 h.2
theorem AY {X:World} {b:Nat} {cs:Array Value} {T:TypeId} (h:Box X b cs T):∀k u,cs.toList[k]? = some u→X.cell? ⟨b,0+k,none⟩=some u:=fun k u hk=>by
 rw[Nat.zero_add,Box.cells h k]
 simpa using hk
theorem rO {X:World} {b j:Nat} {cs:Array Value} {T:TypeId} {v:Value} (h:Box X b cs T) (hj:cs.toList[j]? = some v):X.cell? ⟨b,j,none⟩=some v:=(Box.cells h j).trans (by rw[←hj];simp)
end Go.Proofs.YtcfdpfmchchkaaaGreatDoor
