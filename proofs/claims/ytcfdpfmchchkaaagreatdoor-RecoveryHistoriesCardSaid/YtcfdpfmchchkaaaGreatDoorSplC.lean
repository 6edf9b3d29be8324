/-
  SPL, part 6: append of zeros that are made, clear, copies between bytes. No program in sight.
  Regions that draw their order, one operation of which writes into blocks whose first cells it keeps ('append' onto a row): the law of Flow once more, what is written told more closely; and 'append' in such a region.
-/
import Derived.Test.YtcfdpfmchchkaaaGreatDoorSplB
import Derived.Lib.AppendZerosOnto
import Derived.Lib.AppendStr
namespace Go.Proofs.YtcfdpfmchchkaaaGreatDoor
set_option linter.unusedVariables false
set_option linter.unusedSimpArgs false
open Go.RowKit Go.Sort
variable {ds:List Deferred}
section
variable {P:Program}
end
section
variable {P:Program} {ops:Array Oper} {rest:List Oper} {o:Oper} {a:Act} {Q:Exit→Act→World→Prop} {X:World} {N d:Nat} {l:List (Nat × Value)} {M:List Nat} {w:World} {E:List Ent}
theorem St.initO {w:World} {B n sz:Nat} {T:TypeId} {v:Value} {xs:List Value} (h:w.ownsRow B T sz v n xs):St v.ownBlock.toList w w [.row v n T sz xs]:=
 ⟨rfl,rfl,rfl,Nat.le_refl _,fun _ _ _=>rfl,fun e he=>by rw[List.mem_singleton.1 he];exact bW h (Nat.zero_le _),fun e he b hb=>by
  rw[List.mem_singleton.1 he] at hb;have e1:v.ownBlock=some b:=hb
  exact⟨.inr (by rw[e1];simp),(h.lt b e1).2⟩,.cons (fun _ h=>by cases h) .nil⟩
theorem St.calledM {w X X':World} {M M':List Nat} {L:List Ent} {i:Nat} {e e':Ent} (h:St M w X L) (hi:L[i]? = some e) (hU:St M' X X' [e']) (hM:∀b∈M',e.dom b):St M w X' (L.set i e'):=
 h.turn hi hU.os hU.tape hU.output hU.size (fun b hb hne=>hU.block b hb (fun hm=>hne (hM b hm))) (hU.ok e' (List.mem_singleton.2 rfl))
  (fun b hb=>by
   obtain⟨h1,h2⟩:=hU.new e' (List.mem_singleton.2 rfl) b hb;refine⟨?_,h2⟩;rcases h1 with h1 | h1
   · exact .inr h1
   · exact .inl (hM b h1))
theorem iR {f:FuncId} {args:Array Value} {i n n' sz:Nat} {v:Value} {T:TypeId} {xs xs':List Value} (ha:Has ds a N l) (hw:Region.wanted o (yielded ops a.tmps)=true) (hx:(execOp a.eval o).run P X=.ok (.enter f args) X) (hd:o.dst=some d) (hN:Nat.blt d N=true) (hS:St M w X E) (hi:E[i]? = some (.row v n T sz xs))
 (hc:Calls P f args X fun r X'=>∃A c,r=.returned (.slice A n' c)∧St v.ownBlock.toList X X' [.row (.slice A n' c) n' T sz xs']) (k:∀A' c' a' X',Has ds a' N ((d,.slice A' n' c')::l)→St M w X' (E.set i (.row (.slice A' n' c') n' T sz xs'))→wpList P ops Q rest a' X'):wpList P ops Q (o::rest) a X:=
 fP hw fun K hK=>by
  unfold Oper.wp;rw[hx];refine hc.mono fun r X' ⟨A,c,hr,hU⟩=>?_;subst hr;refine hK _ _ ?_;rw[hd];exact k A c _ X' (ha.put hN _) (hS.calledM hi hU (fun b hb=>by show v.ownBlock=some b;simpa using hb))
end
section
variable {P:Program} {ρ:Operand→Value} {X:World} {d:Option Tmp} {ty:TypeId} {ps:String} {af:Array Edge} {g:Option (Nat × Bool)}
theorem zL {x:Operand} {src dst e T:TypeId} {v:Value} {n:Nat} {us:List UInt8} (hs:P.underlying src=some (.slice e)) (he:P.underlying e=some (.int .u8)) (hd:P.underlying dst=some .string) (hx:ρ x=v) (ho:X.ownsRow 0 T 1 v n (us.map bb)):(execOp ρ ⟨d,.convert src dst x,ty,ps,af,g⟩).run P X=.ok (.value (.string (bs us))) X:=by
 have hl:us.length=n:=by simpa using ho.1
 obtain⟨A,c,rfl,_⟩:=ownsRow_form ho
 cases A with
 | some A=>
  have hx2:=hx;rcases ho.2 with ⟨h0,_⟩ | ⟨g',cap,cur,e1,_,hg,hcap,hm,hcs,htk⟩
  · cases h0
  injection e1 with e1 e2 e3;injection e1 with e1;subst e1;refine uG (us:=us) (c:=c) (o':=0) hs he hd (by rw[hx]) hl (fun j hj=>?_);have hc:=ho.cells (g:=g') rfl j (bb us[j]) (by rw[List.getElem?_map,List.getElem?_eq_getElem hj];rfl);rw[dp] at hc;exact hc
 | none=>
  have:n=0:=by
   rcases ho.2 with ⟨h0,_⟩ | ⟨g',cap,cur,e1,_⟩
   · injection h0
   · cases e1
  subst this;have:us=[]:=List.eq_nil_of_length_eq_zero hl;subst this;unfold execOp;simp only[hx,Sem.run_bind,run_convert_bytes_string X src dst e none 0 c hs he hd];simp[Conv.bytesToString]
  rfl
end
open Go.RowKit Go.Sort
variable {ds:List Deferred}
abbrev wU:=Nat × (Nat→Option Obj→Prop) × (World→World→Prop)
section
variable {P:Program} {ops:Array Oper} {w:World}
def wo (sts:List wU) (k:Nat) (X X':World):Prop:=Below X.heap.size X X'∨∃p∈sts,p.1=k∧Grw p.2.1 X X'∧p.2.2 X X'
def eN (P:Program) (sts:List wU) (k:Nat) (R:Value→World→Prop) (X:World):Result Next→Prop
 | .ok (.value u) X'=>wo sts k X X'∧R u X'
 | .ok .skip X'=>wo sts k X X'∧R undef X'
 | .ok (.enter f args) X'=>X'=X∧Calls P f args X (fun e X''=>∃v,e=.returned v∧wo sts k X X''∧R v X'')
 | _=>False
def jJ (sts:List wU) (b:Nat) (o:Option Obj):Prop:=∃p∈sts,p.2.1 b o
def uo (sts:List wU) (k:Nat) (b:Nat) (o:Option Obj):Prop:=∃p∈sts,p.1≠k∧p.2.1 b o
def iy (ops:Array Oper) (fl:List Bool) (n N:Nat) (ks:List (Nat × List Nat)):Bool:=
 Region.noSelect ops&&(n==ops.size||(decide (n<ops.size)&&Region.sinkB .any ops n&&Region.chainB .any ops n))&&Region.seqB .any ops (ops.size-n) n (dG ops.size n) &&
 x8 ops fl n N&&decide (fl.length=n)&&((List.range n).all fun i=>!ca fl i||(ks.map (·.1)).contains i)&&zr ops fl n [] ks&&ks.all (fun p=>p.2.all fun j=>decide (j<n))
theorem sd {ops:Array Oper} {n:Nat} (h:(n==ops.size||(decide (n<ops.size)&&Region.sinkB .any ops n&&Region.chainB .any ops n))=true):n=ops.size∨(n<ops.size∧Region.sinkB .any ops n=true∧Region.chainB .any ops n=true):=by
 rw[Bool.or_eq_true,beq_iff_eq,Bool.and_eq_true,Bool.and_eq_true,decide_eq_true_eq] at h;rcases h with h | ⟨⟨h1,h2⟩,h3⟩
 · exact .inl h
 · exact .inr ⟨h1,h2,h3⟩
def fX (P:Program) (ops:Array Oper) (sts:List wU) (w:World) (Q:Exit→Act→World→Prop) (tail:List Oper):List NdB→Act→List (Nat × (World→Prop))→Prop
 | [],g,Φ=>∀X,Grw (jJ sts) w X→dB Φ X→wpList P ops Q tail g X
 | d::rest,g,Φ=>((∀v X X',d.R g v X→Below X.heap.size X X'→d.R g v X')∧(∀p∈sts,p.1≠d.k→p.1∉d.deps→∀v X X',d.R g v X→Grw p.2.1 X X'∧p.2.2 X X'→d.R g v X') ∧
  (∀g' v X,(∀j∈d.deps,∀t,aC ops j=some t→g'.tmps[t]? = g.tmps[t]?)→d.R g v X→d.R g' v X)) ∧
  (∀o,ops[d.k]? = some o→∀X,Grw (uo sts d.k) w X→((∀p∈sts,iu ops 4 p.1 d.k=true)→Grw (fun _ _=>False) w X)→told d.deps Φ X→eN P sts d.k (d.R g) X ((execOp g.eval o).run P X)) ∧
  ∀v,fX P ops sts w Q tail rest (g.put (aC ops d.k) v) ((d.k,d.R g v)::Φ)
theorem fN {sts:List wU} {Q:Exit→Act→World→Prop} {tail:List Oper}:∀(nds:List NdB) (g:Act) (Φ:List (Nat × (World→Prop))),fX P ops sts w Q tail nds g Φ→∀vals:Nat→Value,
 (∀pre d suf,nds=pre ++ d::suf→((∀v X X',d.R (aF ops vals pre g) v X→Below X.heap.size X X'→d.R (aF ops vals pre g) v X')∧(∀p∈sts,p.1≠d.k→p.1∉d.deps→∀v X X',d.R (aF ops vals pre g) v X→Grw p.2.1 X X'∧p.2.2 X X'→d.R (aF ops vals pre g) v X') ∧
  (∀g' v X,(∀j∈d.deps,∀t,aC ops j=some t→g'.tmps[t]? = (aF ops vals pre g).tmps[t]?)→d.R (aF ops vals pre g) v X→d.R g' v X)) ∧
  ∀o,ops[d.k]? = some o→∀X,Grw (uo sts d.k) w X→((∀p∈sts,iu ops 4 p.1 d.k=true)→Grw (fun _ _=>False) w X)→told d.deps Φ X→(∀p2 e s2,pre=p2 ++ e::s2→e.k∈d.deps→e.R (aF ops vals p2 g) (vals e.k) X) →
  eN P sts d.k (d.R (aF ops vals pre g)) X ((execOp (aF ops vals pre g).eval o).run P X)) ∧
 (∀X,Grw (jJ sts) w X→dB Φ X→(∀p2 e s2,nds=p2 ++ e::s2→e.R (aF ops vals p2 g) (vals e.k) X)→wpList P ops Q tail (aF ops vals nds g) X)
 | [],g,Φ,h,vals=>⟨fun pre d suf e=>by simp at e,fun X hX hΦ _=>h X hX hΦ⟩
 | d::rest,g,Φ,⟨h1,h2,h3⟩,vals=>by
  obtain⟨i1,i2⟩:=fN rest _ _ (h3 (vals d.k)) vals;refine⟨fun pre d' suf e=>?_,fun X hX hΦ hR=>i2 X hX ⟨hR [] d rest rfl,hΦ⟩ (fun p2 e s2 he=>hR (d::p2) e s2 (by rw[he];rfl))⟩
  cases pre with
  | nil=>
   simp only[List.nil_append,List.cons.injEq] at e;obtain⟨rfl,rfl⟩:=e;exact⟨h1,fun o ho X hX hE hf _=>h2 o ho X hX hE hf⟩
  | cons p pre=>
   simp only[List.cons_append,List.cons.injEq] at e;obtain⟨rfl,e⟩:=e;obtain⟨j1,j2⟩:=i1 pre d' suf e;refine⟨j1,fun o ho X hX hE hf hR=>j2 o ho X hX hE ?_ (fun p2 x s2 hx hd=>hR (d::p2) x s2 (by rw[hx];rfl) hd)⟩;unfold told
   split
   · rename_i hc
     exact⟨hR [] d pre rfl (List.contains_iff_mem.1 hc),hf⟩
   · exact hf
section
variable {n N:Nat} {fl:List Bool} {nds:List NdB} {a afin:Act} {Q:Exit→Act→World→Prop} {tail:List Oper} {C:World→Prop} {sts:List wU}
structure FlowInvK (ops:Array Oper) (sts:List wU) (w:World) (fl:List Bool) (n:Nat) (nds:List NdB) (a afin:Act) (listed:Array Bool) (b:Act) (X:World) (vals:Nat→Value):Prop where
 below:Grw (jJ sts) w X
 head:HeadInv .any ops n listed
 size:b.tmps.size=a.tmps.size
 defers:b.defers=a.defers
 done:∀i d,i<n→aC ops i=some d→listed.getD i false=true→b.tmps[d]? = if ca fl i=true then some (vals i) else afin.tmps[d]?
 rest:∀t,(∀i,i<n→aC ops i=some t→listed.getD i true=false)→b.tmps[t]? = a.tmps[t]?
 facts:∀pre d suf,nds=pre ++ d::suf→listed.getD d.k false=true→d.R (aF ops vals pre afin) (vals d.k) X
 calm:∀k,listed.getD k false=false→Grw (uo sts k) w X
 calm0:(∀p∈sts,listed.getD p.1 false=false)→Grw (fun _ _=>False) w X
theorem FlowInvK.step {listed:Array Bool} {b:Act} {X:World} {vals:Nat→Value} (h:FlowInvK ops sts w fl n nds a afin listed b X vals) {i:Nat} {o:Oper} {v:Value} {X':World}
 (hi:i∈Region.ready .any ops listed) (hin:i<n) (ho:ops[i]? = some o) (hdst:∀d,o.dst=some d→d<a.tmps.size∧∀j,j<n→j≠i→aC ops j≠some d)
 (hX:wo sts i X X') (hst:∀pre e suf,nds=pre ++ e::suf→e.k≠i→listed.getD e.k false=true→∀vals v,e.R (aF ops vals pre afin) v X→e.R (aF ops vals pre afin) v X')
 (hdep:∀pre e suf,nds=pre ++ e::suf→(∀vals vals' v X,(∀x∈pre,x.k∈e.deps→vals x.k=vals' x.k)→e.R (aF ops vals pre afin) v X→e.R (aF ops vals' pre afin) v X)∧(listed.getD e.k false=true→∀x∈pre,x.k∈e.deps→listed.getD x.k false=true))
 (hv:∀d,o.dst=some d→ca fl i=false→afin.tmps[d]? = some v) (hR:∀pre e suf,nds=pre ++ e::suf→e.k=i→e.R (aF ops vals pre afin) v X') (hpre:∀pre e suf,nds=pre ++ e::suf→e.k=i→∀x∈pre,x.k≠i) :
 FlowInvK ops sts w fl n nds a afin (listed.setIfInBounds i true) (b.put o.dst v) X' (fun j=>if j=i then v else vals j):=by
 have hdi:aC ops i=o.dst:=by unfold aC;rw[ho];rfl
 have his:i<listed.size:=by rw[h.head.size];exact(Array.getElem?_eq_some_iff.1 ho).1
 have hXa:Grw (jJ sts) X X':=by
  rcases hX with h | ⟨p,hp,_,h⟩
  · exact Grw.of_below h
  · exact h.1.weaken (fun x o ho=>⟨p,hp,ho⟩)
 refine⟨h.below.trans hXa,h.head.set hi hin,by rw[du];exact h.size,by rw[put_defers];exact h.defers,?_,?_,?_,?_,?_⟩
 · intro j e hj he hl
   by_cases hji:j=i
   · subst hji
     rw[hdi] at he;rw[he,put_eq (by rw[h.size];exact(hdst e he).1) v]
     cases hnd:ca fl j with
     | true=>simp
     | false=>rw[if_neg aq];exact(hv e he hnd).symm
   · rw[getD_set_ne false (Ne.symm hji)] at hl
     have hne:o.dst≠some e:=fun e2=>(hdst e e2).2 j hj hji he;rw[fk hne v,h.done j e hj he hl,if_neg (c:=j=i) hji]
 · intro t ht
   have hne:o.dst≠some t:=fun e=>by
    have:=ht i hin (by rw[hdi,e]);rw[dK his] at this
    cases this
   rw[fk hne v];refine h.rest t fun j hj hjt=>?_;have:=ht j hj hjt;by_cases hji:i=j
   · subst hji;rw[hdi] at hjt;exact absurd hjt hne
   · rw[getD_set_ne true hji] at this;exact this
 · intro pre e suf he hl
   by_cases hek:e.k=i
   · show e.R _ (if e.k=i then v else vals e.k) X'
     rw[if_pos hek,←gF vals (fun j=>if j=i then v else vals j) pre afin (fun x hx=>(if_neg (hpre pre e suf he hek x hx)).symm)];exact hR pre e suf he hek
   · show e.R _ (if e.k=i then v else vals e.k) X'
     rw[if_neg hek];rw[getD_set_ne false (Ne.symm hek)] at hl;have Y:=hst pre e suf he hek hl vals _ (h.facts pre e suf he hl);obtain⟨hf1,hf2⟩:=hdep pre e suf he;refine hf1 vals _ _ _ (fun x hx hxd=>?_) Y;have Y:=hf2 hl x hx hxd
     have hne:x.k≠i:=fun e=>by
      rw[e] at Y;have:=(mem_ready.1 hi).1;rw[getD_both this] at Y;cases Y
     exact(if_neg hne).symm
 · intro k hk
   have hki:k≠i:=fun e=>by rw[e,dK his] at hk;cases hk
   rw[getD_set_ne false (Ne.symm hki)] at hk;refine(h.calm k hk).trans ?_;rcases hX with h | ⟨p,hp,hpi,h⟩
   · exact Grw.of_below h
   · exact h.1.weaken (fun x o ho=>⟨p,hp,by rw[hpi];exact Ne.symm hki,ho⟩)
 · intro Y
   have hne:∀p∈sts,p.1≠i:=fun p hp e=>by
    have:=Y p hp;rw[e,dK his] at this;cases this
   refine(h.calm0 fun p hp=>?_).trans ?_
   · have:=Y p hp
     rwa [getD_set_ne false (Ne.symm (hne p hp))] at this
   · rcases hX with h | ⟨p,hp,hpi,_⟩
     · exact Grw.of_below h
     · exact absurd hpi (hne p hp)
theorem vX (hB:iy ops fl n N (nds.map fun d=>(d.k,d.deps))=true) (hN:N=a.tmps.size) (htl:∀j,tail[j]? = ops[n+j]?) (htn:tail.length=ops.size-n)
 (hrest:afin.tmps.size=a.tmps.size∧afin.defers=a.defers) (hslot:∀t,(∀j,j<n→ca fl j=false→aC ops j≠some t)→afin.tmps[t]? = a.tmps[t]?)
 (hdet:∀j o,j<n→ca fl j=false→ops[j]? = some o→AQ P ops (Grw (jJ sts) w) (fun t=>if (∃j,j<n∧ca fl j=false∧aC ops j=some t) then afin.tmps[t]? else a.tmps[t]?) afin o)
 (hnd:fX P ops sts w Q tail nds afin []) :
 ∀(f:Nat) (listed:Array Bool) (b:Act) (X:World) (vals:Nat→Value),((List.range n).filter fun j=>!listed.getD j true).length=f→FlowInvK ops sts w fl n nds a afin listed b X vals→wpAny P .any ops Q (f+(ops.size-n)) listed b X:=by
 unfold iy at hB;rw[Bool.and_eq_true,Bool.and_eq_true,Bool.and_eq_true,Bool.and_eq_true,Bool.and_eq_true,Bool.and_eq_true,Bool.and_eq_true,decide_eq_true_eq] at hB;obtain⟨⟨⟨⟨⟨⟨⟨hsel,hnsc⟩,hseq⟩,hh⟩,hfl⟩,hks⟩,hndB⟩,hdB0⟩:=hB;have hnn:=sd hnsc
 have hdB:∀e∈nds,∀j∈e.deps,j<n:=fun e he j hj=>by
  have:=List.all_eq_true.1 (List.all_eq_true.1 hdB0 (e.k,e.deps) (List.mem_map.2 ⟨e,he,rfl⟩)) j hj
  simpa using this
 have hspec:=kQ nds [] hndB
 have hstab:∀pre e suf,nds=pre ++ e::suf→∀vals,((∀v X X',e.R (aF ops vals pre afin) v X→Below X.heap.size X X'→e.R (aF ops vals pre afin) v X')∧(∀p∈sts,p.1≠e.k→p.1∉e.deps→∀v X X',e.R (aF ops vals pre afin) v X→Grw p.2.1 X X'∧p.2.2 X X'→e.R (aF ops vals pre afin) v X')∧(∀g' v X,(∀j∈e.deps,∀t,aC ops j=some t→g'.tmps[t]? = (aF ops vals pre afin).tmps[t]?)→e.R (aF ops vals pre afin) v X→e.R g' v X)):=fun pre e suf hps vals=>
  ((fN nds afin _ hnd vals).1 pre e suf hps).1
 have hlt:∀e∈nds,e.k<n:=fun e he=>by
  obtain⟨pre,suf,hps⟩:=List.append_of_mem he;exact(hspec pre e suf hps).1
 have hchk:∀i,i<n→∃o,ops[i]? = some o∧(∀d,o.dst=some d→d<a.tmps.size∧(∀j,j<n→j≠i→aC ops j≠some d))∧(∀e∈o.after,Region.binds .any e=true→e.on<i) ∧
  (∀t∈o.looksAt ops,∀j,j<n→aC ops j=some t→j<i∧Region.waitsFor .any ops i j=true∧(ca fl i=false→ca fl j=false))∧(ca fl i=true→o.guard=none):=fun i hi=>by
  have h1:=List.all_eq_true.1 hh i (List.mem_range.2 hi)
  cases ho:ops[i]? with
  | none=>rw[ho] at h1;cases h1
  | some o=>
   rw[ho] at h1;simp only[Bool.and_eq_true] at h1;obtain⟨⟨⟨c1,c2⟩,c3⟩,c4⟩:=h1
   · refine⟨o,rfl,fun d hd=>?_,fun e he hb=>?_,fun t ht j hj hjt=>?_,fun hnd=>?_⟩
     · rw[hd] at c1
       simp only[Bool.and_eq_true,decide_eq_true_eq] at c1;refine⟨by rw[←hN];exact c1.1,fun j hj hne e=>?_⟩;have:=List.all_eq_true.1 c1.2 j (List.mem_range.2 hj);simp[hne,e] at this
     · have:=Array.all_eq_true_iff_forall_mem.1 c2 e he
       simpa [hb] using this
     · have:=List.all_eq_true.1 (List.all_eq_true.1 c3 t ht) j (List.mem_range.2 hj)
       simp only[hjt,bne_self_eq_false,Bool.false_or,Bool.and_eq_true,decide_eq_true_eq,Bool.or_eq_true,Bool.not_eq_true'] at this;exact⟨this.1.1,this.1.2,fun hni=>this.2.resolve_left (by rw[hni];decide)⟩
     · rw[hnd] at c4
       simpa using c4
 intro f
 induction f with
 | zero=>
  intro listed b X vals hcnt inv
  have hall:∀i,i<n→listed.getD i true=true:=fun i hi=>by
   cases hl:listed.getD i true with
   | true=>rfl
   | false=>
    have:i∈(List.range n).filter fun j=>!listed.getD j true:=List.mem_filter.2 ⟨List.mem_range.2 hi,by rw[hl];rfl⟩;rw[List.length_eq_zero_iff.1 hcnt] at this
    cases this
  have hall':∀i,i<n→listed.getD i false=true:=fun i hi=>j4 (by rw[inv.head.size];omega) (by rw[hall i hi];decide)
  have hli:listed=dG ops.size n:=by
   apply Array.ext
   · rw[inv.head.size];simp[dG]
   · intro i h1 h2
     have e2:(dG ops.size n)[i]=decide (i<n):=by simp[dG]
     rw[e2];by_cases hi:i<n
     · have:=hall i hi
       simp[h1] at this;rw[this];simp[hi]
     · have:=inv.head.tail i ab (by rw[←inv.head.size];exact h1)
       simp[h1] at this;rw[this];simp[hi]
  have hb:b=aF ops vals nds afin:=by
   obtain⟨s1,s2⟩:=iz (ops:=ops) vals nds afin
   have ht:b.tmps=(aF ops vals nds afin).tmps:=by
    apply Array.ext_getElem?;intro t;by_cases hex:∃j,j<n∧aC ops j=some t
    · obtain⟨j,hj,hjt⟩:=hex
      obtain⟨o,ho,hdst,_⟩:=hchk j hj
      have hdj:o.dst=some t:=by
       have:aC ops j=o.dst:=by unfold aC;rw[ho];rfl
       rw[←this];exact hjt
      obtain⟨hdN,huniq⟩:=hdst t hdj;obtain⟨d,rfl⟩:∃d,d=t:=⟨t,rfl⟩;rw[inv.done j d hj hjt (hall' j hj)]
      have hu:∀e∈nds,aC ops e.k=some d→e.k=j:=fun e he hed=>by
       rcases Nat.decEq e.k j with hne | heq
       · exact absurd hed (huniq e.k (hlt e he) hne)
       · exact heq
      cases hndj:ca fl j with
      | true=>
       rw[if_pos rfl];have hmem:=List.all_eq_true.1 hks j (List.mem_range.2 hj);rw[hndj] at hmem;simp only[Bool.not_true,Bool.false_or,List.contains_iff_mem,List.map_map] at hmem;obtain⟨e,he,hek⟩:=List.mem_map.1 hmem;rw[gr vals d j nds afin (by rw[hrest.1];exact hdN) ⟨e,he,hek⟩ hjt hu]
      | false=>
       rw[if_neg aq,dc vals d nds afin (fun e he hed=>by
        have:=hu e he hed;obtain⟨pre,suf,hps⟩:=List.append_of_mem he;have Y:=(hspec pre e suf hps).2.1
        rw[this,hndj] at Y;cases Y)]
    · rw[inv.rest t (fun j hj hjt=>absurd ⟨j,hj,hjt⟩ hex),dc vals t nds afin (fun e he hed=>hex ⟨e.k,hlt e he,hed⟩),hslot t (fun j hj _ hjt=>hex ⟨j,hj,hjt⟩)]
   have hdf:b.defers=(aF ops vals nds afin).defers:=by rw[inv.defers,s2,hrest.2]
   cases b with
   | mk bt bd=>cases hp:aF ops vals nds afin with
    | mk pt pd=>rw[hp] at ht hdf;simp at ht hdf;rw[ht,hdf]
  rw[hli,hb,Nat.zero_add,←htn];refine wpAny_of_seq tail n _ _ X htl (by rw[htn];exact hseq) ?_;exact(fN nds afin _ hnd vals).2 X inv.below trivial (fun p2 e s2 he=>inv.facts p2 e s2 he (hall' e.k (hlt e (by rw[he];simp))))
 | succ f ih=>
  intro listed b X vals hcnt inv
  have hex:∃i,i<n∧listed.getD i true=false:=by
   cases hl:(List.range n).filter fun j=>!listed.getD j true with
   | nil=>rw[hl] at hcnt;simp at hcnt
   | cons i _=>
    have:i∈(List.range n).filter fun j=>!listed.getD j true:=by rw[hl];simp
    obtain⟨h1,h2⟩:=List.mem_filter.1 this;exact⟨i,List.mem_range.1 h1,by simpa using h2⟩
  have hready:∃i,i∈Region.ready .any ops listed:=by
   obtain⟨i,hin,hun⟩:=hex
   have aux:∀m,m<n→listed.getD m true=false→∃i,i∈Region.ready .any ops listed:=by
    intro m
    induction m using Nat.strongRecOn with
    | _ m ihm=>
     intro hm hun;obtain⟨o,ho,_,haf,_⟩:=hchk m hm;by_cases hall:∀e∈o.after,Region.binds .any e=true→listed.getD e.on false=true
     · exact⟨m,mem_ready.2 ⟨hun,o,ho,hall⟩⟩
     · obtain⟨e,he⟩:=Classical.not_forall.1 hall
       obtain⟨he1,he2⟩:=Classical.not_imp.1 he;obtain⟨hb,he3⟩:=Classical.not_imp.1 he2;have hlt:=haf e he1 hb;refine ihm e.on hlt ab (getD_in (by rw[inv.head.size];omega) (by simpa using he3))
   exact aux i hin hun
  obtain⟨i0,hi0n,hi0u⟩:=hex;rw[Nat.succ_add];refine⟨fun h0=>(by obtain⟨i,hi⟩:=hready;rw[h0] at hi;cases hi),fun i hi=>?_⟩
  have hin:i<n:=by
   rcases hnn with hnn | ⟨hn,hs,hc⟩
   · obtain⟨_,oi,hoi,_⟩:=mem_ready.1 hi
     rw[hnn];exact(Array.getElem?_eq_some_iff.1 hoi).1
   · exact Nat.lt_of_not_le fun h=>tail_waits hs hc hn inv.head _ i0 rfl hi0n hi0u i h hi
  obtain⟨o,ho,hdst,haf,hlook,hgd⟩:=hchk i hin;obtain⟨hun,o',ho',hallr⟩:=mem_ready.1 hi;obtain rfl:o'=o:=Option.some.inj (ho'.symm.trans ho)
  have hcnt':((List.range n).filter fun j=>!(listed.setIfInBounds i true).getD j true).length=f:=by
   have:=count_set n i listed hun n;rw[if_pos hin,hcnt] at this;omega
  have hwaits:∀j,Region.waitsFor .any ops i j=true→listed.getD j false=true:=fun j hj=>by
   obtain⟨o2,ho2,e,he,hb,hon⟩:=Region.waitsFor_spec hj;obtain rfl:o2=o':=Option.some.inj (ho2.symm.trans ho);rw[←hon];exact hallr e he hb
  have hdep:∀pre e suf,nds=pre ++ e::suf→(∀vals vals' v X,(∀x∈pre,x.k∈e.deps→vals x.k=vals' x.k)→e.R (aF ops vals pre afin) v X→e.R (aF ops vals' pre afin) v X)∧(listed.getD e.k false=true→∀x∈pre,x.k∈e.deps→listed.getD x.k false=true):=fun pre e suf hps=>by
   refine⟨fun vals vals' v X hv hR=>(hstab pre e suf hps vals).2.2 _ v X (fun j hj t ht=>?_) hR,fun hl x hx hxd=>?_⟩
   · refine(kR vals vals' t pre afin afin rfl rfl (fun x hx hxt=>?_)).symm
     have hxn:=hlt x (by rw[hps];simp[hx]);obtain⟨ox,hox,hdx,_⟩:=hchk x.k hxn;by_cases hjx:x.k=j
     · exact hv x hx (by rw[hjx];exact hj)
     · have hjn:j<n:=by
        rcases Nat.lt_or_ge j n with h | h
        · exact h
        · exfalso
          have hdx2:ox.dst=some t:=by
           have:aC ops x.k=ox.dst:=by unfold aC;rw[hox];rfl
           rw[←this];exact hxt
          have Y:=hdB e (by rw[hps];simp) j hj;omega
       have hdx2:ox.dst=some t:=by
        have:aC ops x.k=ox.dst:=by unfold aC;rw[hox];rfl
        rw[←this];exact hxt
       exact absurd ht ((hdx t hdx2).2 j hjn (fun e=>hjx e.symm))
   · obtain⟨hk,_,hp,_⟩:=hspec pre e suf hps
     obtain⟨oe,hoe,_⟩:=hchk e.k hk;exact da inv.head 4 e.k x.k oe hoe (fun e2 he2 hb2=>inv.head.closed e.k oe hoe hl e2 he2 hb2) ((hp x.k (by simp;exact⟨x,hx,rfl⟩)).2 hxd)
  have hpreK:∀pre e suf,nds=pre ++ e::suf→e.k=i→∀x∈pre,x.k≠i:=fun pre e suf hps hek x hx=>by
   have:=((hspec pre e suf hps).2.2.1 x.k (by simp;exact⟨x,hx,rfl⟩)).1;omega
  unfold wpOp;simp only[ho]
  cases hndi:ca fl i with
  | false=>
   obtain⟨g,d,v,hg,hd,hfin,hy⟩:=hdet i o' hin hndi ho
   have hsame:∀t∈o'.looksAt ops,b.tmps[t]? = g.tmps[t]?:=fun t ht=>by
    rw[hg t ht];by_cases hex:∃j,j<n∧aC ops j=some t
    · obtain⟨j,hj,hjt⟩:=hex
      obtain⟨_,hw,hnj⟩:=hlook t ht j hj hjt;have hnj':=hnj hndi;show _=if _ then _ else _;rw[if_pos ⟨j,hj,hnj',hjt⟩,inv.done j t hj hjt (hwaits j hw),hnj']
      rfl
    · show _=if _ then _ else _
      rw[if_neg (fun ⟨j,hj,_,hjt⟩=>hex ⟨j,hj,hjt⟩)];exact inv.rest t (fun j hj hjt=>absurd ⟨j,hj,hjt⟩ hex)
   have hy':YieldsC P ops (Grw (jJ sts) w) o' v b:=hy.of_same (ja (Region.noSelect_spec hsel i o' · · ho) hsame) (lJ hsame)
   have hgo:∀X',Below X.heap.size X X'→wpAny P .any ops Q (f+(ops.size-n)) (listed.setIfInBounds i true) (b.put o'.dst v) X':=fun X' hX'=>
    ih _ _ _ _ hcnt' (inv.step hi hin ho hdst (.inl hX') (fun pre e suf hps _ _ vals v hR=>(hstab pre e suf hps vals).1 v _ _ hR hX') hdep (fun d2 hd2 _=>by rw[hd] at hd2;rw[←Option.some.inj hd2];exact hfin) (fun pre e suf hps hek=>by
     have Y:=(hspec pre e suf hps).2.1
     rw[hek,hndi] at Y;cases Y) hpreK)
   rcases hy' with ⟨hw,hv⟩ | ⟨hw,rfl⟩
   · rw[if_pos hw]
     refine .inl ?_;unfold Oper.wp;have Y:=hv X inv.below;generalize (execOp b.eval o').run P X=r at *
     cases r with
     | ok nx w'=>
      cases nx<;>simp only[Oper.quietUpon] at Y<;>simp only[Oper.upon]
      case value u=>
       obtain⟨e1,e2⟩:=Y;rw[e1,e2];exact hgo _ (Below.refl _ _)
      case skip=>
       obtain⟨e1,e2⟩:=Y;rw[e1,←e2];exact hgo _ (Below.refl _ _)
      case enter f args=>
       obtain⟨e1,hcl⟩:=Y;rw[e1]
       exact hcl.mono fun e w'' ⟨he,hw''⟩=>by subst he;exact hgo _ hw''
     | halt x w'=>simp only[Oper.quietUpon] at Y
   · rw[hw,if_neg aq]
     exact hgo X (Below.refl _ _)
  | true=>
   have hmem:=List.all_eq_true.1 hks i (List.mem_range.2 hin);rw[hndi] at hmem;simp only[Bool.not_true,Bool.false_or,List.contains_iff_mem,List.map_map] at hmem;obtain⟨e,he,hek⟩:=List.mem_map.1 hmem;replace hek:e.k=i:=hek;obtain⟨pre,suf,hps⟩:=List.append_of_mem he;obtain⟨_,_,hpre,_⟩:=hspec pre e suf hps
   have hobl:=((fN nds afin _ hnd vals).1 pre e suf hps).2 o' (by rw[hek];exact ho) X (by rw[hek];exact inv.calm i (getD_both hun)) (fun hw=>inv.calm0 fun p hp=>by
    cases hpl:listed.getD p.1 false with
    | false=>rfl
    | true=>
     exfalso
     have hps2:p.1<listed.size:=by
      rcases Nat.lt_or_ge p.1 listed.size with h' | h'
      · exact h'
      · simp[Array.getElem?_eq_none h'] at hpl
     have hop:ops[p.1]? = some (ops[p.1]'(by rw[←inv.head.size];exact hps2)):=Array.getElem?_eq_getElem _;have:=da inv.head 4 p.1 e.k _ hop (fun e2 he2 hb2=>inv.head.closed p.1 _ hop hpl e2 he2 hb2) (hw p hp);rw[hek,getD_both hun] at this
     cases this) trivial (fun p2 x s2 hx hxd=>by
    have hx2:=(hpre x.k (by rw[hx];simp)).2 hxd;rw[hek] at hx2
    exact inv.facts p2 x (s2 ++ e::suf) (by rw[hps,hx];simp) (da inv.head 4 i x.k o' ho hallr hx2))
   have hprelt:∀x∈pre,x.k<i:=fun x hx=>by
    have:=(hpre x.k (by simp;exact⟨x,hx,rfl⟩)).1;rw[hek] at this;exact this
   have hsame:∀t∈o'.looksAt ops,b.tmps[t]? = (aF ops vals pre afin).tmps[t]?:=fun t ht=>by
    by_cases hex:∃j,j<n∧aC ops j=some t
    · obtain⟨j,hj,hjt⟩:=hex
      obtain⟨hji,hw,_⟩:=hlook t ht j hj hjt;obtain⟨oj,hoj,hdstj,_⟩:=hchk j hj
      have hdj:oj.dst=some t:=by
       have:aC ops j=oj.dst:=by unfold aC;rw[hoj];rfl
       rw[←this];exact hjt
      obtain⟨hdjN,huj⟩:=hdstj t hdj;obtain⟨dj,rfl⟩:∃d,d=t:=⟨t,rfl⟩
      have hu:∀x∈pre,aC ops x.k=some dj→x.k=j:=fun x hx hxd=>by
       rcases Nat.decEq x.k j with hne | heq
       · exact absurd hxd (huj x.k (hlt x (by rw[hps];simp[hx])) hne)
       · exact heq
      rw[inv.done j dj hj hjt (hwaits j hw)]
      cases hndj:ca fl j with
      | true=>
       rw[if_pos rfl];have hmem:=List.all_eq_true.1 hks j (List.mem_range.2 hj);rw[hndj] at hmem;simp only[Bool.not_true,Bool.false_or,List.contains_iff_mem,List.map_map] at hmem;obtain⟨x,hx,hxk⟩:=List.mem_map.1 hmem;replace hxk:x.k=j:=hxk
       have hxpre:x∈pre:=by
        rw[hps] at hx;rcases List.mem_append.1 hx with hx | hx
        · exact hx
        · rcases List.mem_cons.1 hx with rfl | hx
          · omega
          · obtain⟨p2,s2,hp2⟩:=List.append_of_mem hx
            have:=((hspec (pre ++ e::p2) x s2 (by rw[hps,hp2];simp)).2.2.1 e.k a7).1;omega
       rw[gr vals dj j pre afin (by rw[hrest.1];exact hdjN) ⟨x,hxpre,hxk⟩ hjt hu]
      | false=>
       rw[if_neg aq,dc vals dj pre afin (fun x hx hxd=>by
        have h6:=hu x hx hxd;obtain⟨p2,s2,hp2⟩:=List.append_of_mem hx;have Y:=(hspec p2 x (s2 ++ e::suf) (by rw[hps,hp2];simp)).2.1
        rw[h6,hndj] at Y;cases Y)]
    · rw[inv.rest t (fun j hj hjt=>absurd ⟨j,hj,hjt⟩ hex),dc vals t pre afin (fun x hx hxd=>hex ⟨x.k,hlt x (by rw[hps];simp[hx]),hxd⟩),hslot t (fun j hj _ hjt=>hex ⟨j,hj,hjt⟩)]
   rw[←ja (Region.noSelect_spec hsel i o' · · ho) hsame] at hobl
   have hwant:Region.wanted o' (yielded ops b.tmps)=true:=by unfold Region.wanted;rw[hgd hndi]
   have huk:∀x∈nds,x.k=i→x=e∨x.k=i:=fun x _ h=>.inr h
   have hone:∀x∈nds,x.k=i→x=e:=fun x hx hxi=>by
    rw[hps] at hx;rcases List.mem_append.1 hx with hx | hx
    · have:=hprelt x hx;omega
    · rcases List.mem_cons.1 hx with rfl | hx
      · rfl
      · obtain⟨p2,s2,hp2⟩:=List.append_of_mem hx
        have:=((hspec (pre ++ e::p2) x s2 (by rw[hps,hp2];simp)).2.2.1 e.k a7).1;omega
   have huniqp:∀p2 x s2,nds=p2 ++ x::s2→x.k=i→p2=pre∧x=e:=fun p2 x s2 hx hxi=>by
    have hxe:x=e:=hone x (by rw[hx];simp) hxi;subst hxe;refine⟨?_,rfl⟩
    have hnot:∀(l1 l2 s1 s2:List NdB),l1 ++ x::s1=l2 ++ x::s2→(∀y∈l1,y.k≠i)→(∀y∈l2,y.k≠i)→l1=l2:=by
     intro l1
     induction l1 with
     | nil=>
      intro l2 s1 s2 h _ h2
      cases l2 with
      | nil=>rfl
      | cons y l2=>
       simp only[List.nil_append,List.cons_append,List.cons.injEq] at h;exact absurd (h.1▸hxi) (h2 y a7)
     | cons y l1 ih=>
      intro l2 s1 s2 h h1 h2
      cases l2 with
      | nil=>
       simp only[List.nil_append,List.cons_append,List.cons.injEq] at h;exact absurd (h.1.symm▸hxi) (h1 y a7)
      | cons z l2=>
       simp only[List.cons_append,List.cons.injEq] at h;rw[h.1,ih l2 s1 s2 h.2 (fun y hy=>h1 y (by simp[hy])) (fun y hy=>h2 y (by simp[hy]))]
    exact hnot p2 pre s2 suf (hx.symm.trans hps) (fun y hy=>hpreK p2 x s2 hx hxi y hy) (fun y hy=>hpreK pre x suf hps hek y hy)
   have hgo:∀v X',wo sts i X X'→e.R (aF ops vals pre afin) v X'→wpAny P .any ops Q (f+(ops.size-n)) (listed.setIfInBounds i true) (b.put o'.dst v) X':=fun v X' hX' hR=>
    ih _ _ _ _ hcnt' (inv.step hi hin ho hdst hX' (fun p2 x s2 hx hxi hxl vals v hR=>by
     rcases hX' with h | ⟨p,hp,hpi,h⟩
     · exact(hstab p2 x s2 hx vals).1 v _ _ hR h
     · exact(hstab p2 x s2 hx vals).2.1 p hp (by rw[hpi];exact Ne.symm hxi) (fun hin=>by
        rw[hpi] at hin;have Y:=(hspec p2 x s2 hx).2.2.2 i hin;rw[List.nil_append] at Y;obtain⟨y,hy,hyi⟩:=List.mem_map.1 Y;have Y:=(hdep p2 x s2 hx).2 hxl y hy (by rw[hyi];exact hin);rw[hyi,getD_both hun] at Y
        cases Y) v _ _ hR h) hdep (fun _ _ h=>by rw[hndi] at h;cases h) (fun p2 x s2 hx hxk=>by obtain⟨rfl,rfl⟩:=huniqp p2 x s2 hx hxk;exact hR) hpreK)
   rw[if_pos hwant];refine .inl ?_;unfold Oper.wp;generalize (execOp b.eval o').run P X=r at *;rw[hek] at hobl
   cases r with
   | ok nx w'=>
    cases nx<;>simp only[eN] at hobl<;>simp only[Oper.upon]
    case value u=>exact hgo _ _ hobl.1 hobl.2
    case skip=>exact hgo _ _ hobl.1 hobl.2
    case enter f args=>
     obtain⟨e1,hcl⟩:=hobl;rw[e1]
     exact hcl.mono fun e w'' ⟨v,he,hw'',hR⟩=>by subst he;exact hgo _ _ hw'' hR
   | halt x w'=>simp only[eN] at hobl
end
end
def sC (K:Nat) (X X':World):Prop:=∀(b:Nat) (cs:Array Value) (T:TypeId) (fr:Nat × Nat),X.heap[b]? = some (.cells cs T fr)→∃cs',X'.heap[b]? = some (.cells cs' T fr)∧cs'.size=cs.size∧cs'.toList.take K=cs.toList.take K
def Kp (O:Nat→Prop) (K:Nat) (X X':World):Prop:=Grw (fun b _=>O b) X X'∧sC K X X'
theorem Kp.refl (O:Nat→Prop) (K:Nat) (X:World):Kp O K X X:=⟨Grw.refl _ _,fun b cs T fr h=>⟨cs,h,rfl,rfl⟩⟩
theorem Kp.of_below {O:Nat→Prop} {K:Nat} {X X':World} (h:Below X.heap.size X X'):Kp O K X X':=
 ⟨Grw.of_below h,fun b cs T fr hb=>⟨cs,(h.block b (Array.getElem?_eq_some_iff.1 hb).1).trans hb,rfl,rfl⟩⟩
theorem Kp.weaken {O O':Nat→Prop} {K:Nat} {X X':World} (h:Kp O K X X') (hO:∀b,O b→O' b):Kp O' K X X':=⟨h.1.weaken (fun b _ hb=>hO b hb),h.2⟩
section
variable {P:Program}
theorem nJ (w:World) (t ty e:TypeId) (i:TypeInfo) (z:Value) (size bytes:Nat) (ht:P.underlying t=some (.slice e)) (hi:P.info? e=some i) (hz:i.zero=some z)
 (hsize:i.size=size) (hby:i.bytes=bytes) (hzs:z.cells.size=size) (hsz:0<size)
 (v:Value) (n:Nat) (xs:List Value) (hown:w.ownsRow 0 e size v n xs)
 (A:Option Addr) (m c:Nat) (news:List Value) (hl:news.length=m*size) (hr:Rd w w.heap.size A news) (h1:∀u∈news,u.oneCell'=true)
 (Za:n+m≤maxLen) (hbytes:(n+m)*bytes≤140737488355328) (K:Nat) (hK:K≤n*size∨∃B,v=.slice B n n) :
 ∃v' w',(Builtin.append_ #[t,t] ty #[v,.slice A m c]).run P w=.ok v' w'∧w'.ownsRow 0 e size v' (n+m) (xs ++ news)∧Kp (fun b=>v.ownBlock=some b) K w w' ∧
  (v'.ownBlock=v.ownBlock∨v'.ownBlock=some w.heap.size):=by
 rcases A with _ | ad
 · have hm:news=[]:=by
    rcases news with _ | ⟨u,l⟩
    · rfl
    · obtain⟨b,o,h,_⟩:=hr 0 u rfl
      cases h
   subst hm
   have hm0:m=0:=by
    rcases Nat.eq_zero_or_pos m with h | h
    · exact h
    · have:=Nat.mul_pos h hsz
      simp at hl;omega
   subst hm0;refine⟨v,w,?_,by simpa using hown,Kp.refl _ _ w,.inl rfl⟩;rcases hown.2 with ⟨rfl,rfl⟩ | ⟨g,cap,cur,rfl,_,_,hnc,_⟩
   · simp[Builtin.append_,run_underlying ht,sizeOf,typeInfo,hi,Builtin.lenOf,Builtin.firstCells]
   · simp[Builtin.append_,run_underlying ht,sizeOf,typeInfo,hi,Builtin.lenOf,Builtin.firstCells,hnc,storeCells]
 have hnews:∀j u,news[j]? = some u→w.cell? (ad.add j)=some u:=fun j u hj=>by
  obtain⟨b,o,h,_,hc⟩:=hr j u hj;injection h with h;subst h;rw[dp];exact hc
 subst hsize
 subst hby
 have hsmall:n+m≤9223372036854775807:=by simp only[maxLen] at Za;omega
 have hlen:(xs ++ news).length=(n+m)*i.size:=by rw[List.length_append,hown.1,hl,Nat.add_mul]
 have grown:∀(old:Nat),old<n+m →
  (w.drew.alloc (.cells (xs.toArray ++ news.toArray ++ Builtin.zeroCells z.cells (grownCap w (n+m) old e-(n+m))) e)).ownsRow 0 e i.size
   (.slice (some ⟨w.heap.size,0,none⟩) (n+m) (grownCap w (n+m) old e)) (n+m) (xs ++ news):=by
  intro old ho;have hge:=grownCap_ge w (n+m) old e;have hcm:grownCap w (n+m) old e≤maxLen:=grownCap_le_maxLen w (n+m) old e Za;refine⟨hlen,.inr ⟨w.heap.size,_,_,rfl,Nat.zero_le _,heap_alloc_new w.drew _,hge,hcm,?_,?_⟩⟩
  · simp only[Array.size_append,List.size_toArray,size_zeroCells,hzs,hown.1,hl,←Nat.add_mul]
    congr 1
    omega
  · simp only[Array.toList_append,List.append_assoc]
    rw[←List.append_assoc,←hlen];exact List.take_left
 have hbel:∀ob:Obj,Below w.heap.size w (w.drew.alloc ob):=fun ob=>⟨rfl,rfl,rfl,by simp,fun k hk=>heap_alloc_old w.drew _ hk⟩;rcases hown.2 with ⟨rfl,rfl⟩ | ⟨g,cap,cur,rfl,hbg,hg,hnc,hcm,hcs,htake⟩
 · have hx:xs=[]:=List.eq_nil_of_length_eq_zero (by simpa using hown.1)
   subst hx;by_cases hm:m=0
   · subst hm
     have hn:news=[]:=List.eq_nil_of_length_eq_zero (by simpa using hl);subst hn;refine⟨.slice none 0 0,w,?_,World.ownsRow_nil w 0 e i.size,Kp.refl _ _ w,Or.inl rfl⟩;simp[Builtin.append_,run_underlying ht,sizeOf,typeInfo,hi,Builtin.lenOf,Builtin.firstCells,loadCells,loadCellsFrom]
   · have hr:=run_append_nil (P:=P) w t ty e i z ht hi hz ad m c news hl hnews ab ab (by have hb:=hbytes;simp only[Nat.zero_add] at hb;omega)
     have hgr:=grown 0 ab;simp only[Nat.zero_add,List.nil_append,Array.empty_append] at hgr ⊢;exact⟨_,_,hr,hgr,Kp.of_below (hbel _),Or.inr rfl⟩
 · by_cases hroom:n+m≤cap
   · have hfit:n*i.size+news.length≤cur.size:=by rw[hl,hcs,←Nat.add_mul];exact Nat.mul_le_mul_right _ hroom
     have hr:=run_append_room (P:=P) w t ty e i ht hi g n cap cur hg ad m c news hl hnews h1 hroom hfit
     have hsz2:(cur.toList.take (n*i.size) ++ news ++ cur.toList.drop (n*i.size+news.length)).length=cur.size:=by
      simp only[List.length_append,List.length_take,List.length_drop,Array.length_toList];omega
     refine⟨_,_,hr,⟨hlen,.inr ⟨g,cap,_,rfl,hbg,setRow_heap w g cur _ e _ hg,hroom,hcm,?_,?_⟩⟩,⟨(gU hg (by simpa using hsz2)).weaken (fun b _ hb=>by rw[hb];rfl),?_⟩,Or.inl rfl⟩
     · simp only[List.size_toArray,List.length_append,List.length_take,List.length_drop,Array.length_toList]
       omega
     · rw[htake,←hlen]
       exact List.take_left
     · intro b cs T fr hb
       by_cases hbg':b=g
       · subst hbg'
         rw[hg] at hb;injection hb with hb;injection hb with e1 e2 e3;subst e1 e2 e3;refine⟨_,setRow_heap w b cur _ e _ hg,by simpa using hsz2,?_⟩;rcases hK with hK | ⟨B,hB⟩
         · simp only[List.toList_toArray]
           rw[List.take_append_of_le_length (by simp only[List.length_append,List.length_take,Array.length_toList];omega),List.take_append_of_le_length (by simp only[List.length_take,Array.length_toList];omega),List.take_take,Nat.min_eq_left hK]
         · injection hB with _ _ hB
           have:m=0:=by omega
           subst this;have hn:news=[]:=List.eq_nil_of_length_eq_zero (by simpa using hl);subst hn;simp
       · exact⟨cs,(setRow_other w g b _ hbg').trans hb,rfl,rfl⟩
   · have holds:∀j u,xs[j]? = some u→w.cell? ((⟨g,0,none⟩:Addr).add j)=some u:=hown.cells (g:=g) rfl
     have hr:=run_append_grow (P:=P) w t ty e i z ht hi hz ⟨g,0,none⟩ n cap xs hown.1 holds ad m c news hl hnews ab ab (growslice_fits ab hbytes);have hgr:=grown cap ab;exact⟨_,_,hr,hgr,Kp.of_below (hbel _),Or.inr rfl⟩
end
def fO (P:Program) (O:Nat→Prop) (K:Nat) (R:Value→World→Prop) (X:World):Result Next→Prop
 | .ok (.value u) X'=>Kp O K X X'∧R u X'
 | .ok .skip X'=>Kp O K X X'∧R undef X'
 | .ok (.enter f args) X'=>X'=X∧Calls P f args X (fun e X''=>∃v,e=.returned v∧Kp O K X X''∧R v X'')
 | _=>False
section
variable {P:Program} {ops:Array Oper} {Q:Exit→Act→World→Prop}
def rK (P:Program) (ops:Array Oper) (O:Nat→Prop) (K:Nat) (w:World) (Q:Exit→Act→World→Prop) (tail:List Oper):List Nd→Act→List (Nat × (World→Prop))→Prop
 | [],g,Φ=>∀X,Grw (fun b _=>O b) w X→dB Φ X→wpList P ops Q tail g X
 | d::rest,g,Φ=>((∀v X X',d.R v X→Below X.heap.size X X'→d.R v X')∧(d.st=false→∀v X X',d.R v X→Kp O K X X'→d.R v X')) ∧
  (∀o,ops[d.k]? = some o→∀X,Grw (fun b _=>O b) w X→(d.st=true→Below w.heap.size w X)→told d.deps Φ X→(d.st=false→cn P d.R X ((execOp g.eval o).run P X))∧(d.st=true→fO P O K d.R X ((execOp g.eval o).run P X))) ∧
  ∀v,rK P ops O K w Q tail rest (g.put (aC ops d.k) v) ((d.k,d.R v)::Φ)
theorem nh {O:Nat→Prop} {K m:Nat} {w:World} {tail:List Oper}:∀(nds:List Nd) (g:Act) (Φ:List (Nat × (World→Prop))),(∀d∈nds,d.st=Nat.beq d.k m)→rK P ops O K w Q tail nds g Φ→fX P ops [(m,(fun b _=>O b),sC K)] w Q tail ((nds.map Nd.lift).map NdA.lift) g Φ
 | [],g,Φ,_,h=>fun X hX hΦ=>h X (hX.weaken (fun x o ⟨p,hp,hpo⟩=>by rw[List.mem_singleton.1 hp] at hpo;exact hpo)) hΦ
 | d::rest,g,Φ,hm,⟨⟨h1,h1b⟩,h2,h3⟩=>by
  have hd:=hm d a7;refine⟨⟨fun v X X'=>h1 v X X',fun p hp hne _ v X X' hR hX=>?_,fun _ _ _ _ h=>h⟩,fun o ho X hX hE hΦ=>?_,fun v=>nh rest _ _ (fun x hx=>hm x (by simp[hx])) (h3 v)⟩
  · have hp':=List.mem_singleton.1 hp
    subst hp';refine h1b ?_ v X X' hR hX;rw[hd,Bool.eq_false_iff];exact fun e=>hne (Nat.eq_of_beq_eq_true e).symm
  · have hgx:Grw (fun b _=>O b) w X:=hX.weaken (fun x o ⟨p,hp,_,hpo⟩=>by rw[List.mem_singleton.1 hp] at hpo;exact hpo)
    obtain⟨k1,k2⟩:=h2 o ho X hgx (fun hds=>(hX.weaken (O':=fun _ _=>False) (fun x o ⟨p,hp,hne,hpo⟩=>by
     rw[List.mem_singleton.1 hp] at hne;rw[hd] at hds
     exact hne (Nat.eq_of_beq_eq_true hds).symm)).below) hΦ
    show eN P _ d.k d.R X ((execOp g.eval o).run P X)
    cases hds:d.st with
    | false=>
     have h:=k1 hds;generalize (execOp g.eval o).run P X=r at *
     cases r with
     | ok nx w'=>
      cases nx<;>simp only[cn] at h<;>simp only[eN]
      case value u=>exact⟨.inl h.1,h.2⟩
      case enter f args=>exact⟨h.1,h.2.mono fun e X'' ⟨v,h1,h2,h3⟩=>⟨v,h1,.inl h2,h3⟩⟩
     | halt x w'=>simp only[cn] at h
    | true=>
     have h:=k2 hds;have hk:m=d.k:=(Nat.eq_of_beq_eq_true (hd.symm.trans hds)).symm;generalize (execOp g.eval o).run P X=r at *
     cases r with
     | ok nx w'=>
      cases nx<;>simp only[fO] at h<;>simp only[eN]
      case value u=>exact⟨.inr ⟨_,List.mem_singleton.2 rfl,hk,h.1⟩,h.2⟩
      case skip=>exact⟨.inr ⟨_,List.mem_singleton.2 rfl,hk,h.1⟩,h.2⟩
      case enter f args=>exact⟨h.1,h.2.mono fun e X'' ⟨v,h1,h2,h3⟩=>⟨v,h1,.inr ⟨_,List.mem_singleton.2 rfl,hk,h2⟩,h3⟩⟩
     | halt x w'=>simp only[fO] at h
theorem oU {a:Act} {w:World} {l:List Oper} (sts:List wU) (fl:List Bool) (nds:List NdB)
 (hB:iy l.toArray fl fl.length a.tmps.size (nds.map fun d=>(d.k,d.deps))=true)
 (h:∃afin:Act,cV P l.toArray (Grw (jJ sts) w) (fun a'=>a'=afin) (pick fl l) a∧fX P l.toArray sts w Q (l.drop fl.length) nds afin []) :
 nk P l Q a w:=by
 obtain⟨afin,hwg,hnd⟩:=h;have hB':=hB;unfold iy at hB';rw[Bool.and_eq_true,Bool.and_eq_true,Bool.and_eq_true,Bool.and_eq_true,Bool.and_eq_true,Bool.and_eq_true,Bool.and_eq_true,decide_eq_true_eq] at hB';obtain⟨⟨⟨⟨⟨⟨⟨hsel,hnsc⟩,hseq⟩,hh⟩,_⟩,hks⟩,hndB⟩,_⟩:=hB'
 have hnle:fl.length≤l.toArray.size:=by
  rcases sd hnsc with h | h
  · exact Nat.le_of_eq h
  · exact Nat.le_of_lt h.1
 have hsz:l.toArray.size=l.length:=by simp
 have hrest:=iq _ _ hwg
 have hslot:∀t,(∀j,j<fl.length→ca fl j=false→aC l.toArray j≠some t)→afin.tmps[t]? = a.tmps[t]?:=fun t ht=>by
  refine(gq _ _ ?_ hwg).1.symm
  have aux:∀(fs:List Bool) (l':List Oper) (i:Nat),i+fs.length=fl.length→(∀j,fs[j]? = fl[i+j]?)→(∀j,l'[j]? = l.toArray[i+j]?)→∀o∈pick fs l',o.dst≠some t:=by
   intro fs
   induction fs with
   | nil=>intro l' i _ _ _ o ho;cases l'<;>simp[pick] at ho
   | cons b fs ih=>
    intro l' i hlen hfs hl' o ho
    cases l' with
    | nil=>cases b<;>simp[pick] at ho
    | cons x l'=>
     have hx:l.toArray[i]? = some x:=by have:=hl' 0;rw[Nat.add_zero] at this;rw[←this];rfl
     have hb:ca fl i=b:=by have:=hfs 0;rw[Nat.add_zero] at this;unfold ca;rw[←this];rfl
     have hfs':∀j,fs[j]? = fl[i+1+j]?:=fun j=>by have:=hfs (j+1);rw[show i+1+j=i+(j+1) by omega,←this];rfl
     have hl'':∀j,l'[j]? = l.toArray[i+1+j]?:=fun j=>by have:=hl' (j+1);rw[show i+1+j=i+(j+1) by omega,←this];rfl
     cases b with
     | true=>exact ih l' (i+1) (by simp at hlen;omega) hfs' hl'' o ho
     | false=>
      rcases List.mem_cons.1 ho with rfl | ho
      · intro e
        exact ht i (by simp at hlen;omega) hb (by unfold aC;rw[hx];exact e)
      · exact ih l' (i+1) (by simp at hlen;omega) hfs' hl'' o ho
  exact aux fl l 0 ab (fun j=>by rw[Nat.zero_add]) (fun j=>by rw[Nat.zero_add];simp)
 have hdet:=iW (P:=P) (C:=Grw (jJ sts) w) (afin:=afin) hh rfl rfl hnle (fun t=>if (∃j,j<fl.length∧ca fl j=false∧aC l.toArray j=some t) then afin.tmps[t]? else a.tmps[t]?)
  (fun j t hj hnj hjt=>if_pos ⟨j,hj,hnj,hjt⟩) (fun t ht=>if_neg (fun ⟨j,hj,hnj,hjt⟩=>ht j hj hnj hjt))
  fl l 0 a ab (fun j=>by rw[Nat.zero_add]) (fun j=>by rw[Nat.zero_add];simp) rfl (fun t ⟨j,hj,_⟩=>absurd hj (Nat.not_lt_zero _)) (fun t _=>rfl) hwg
 have:=vX (P:=P) (w:=w) (Q:=Q) (tail:=l.drop fl.length) (a:=a) (afin:=afin) (sts:=sts) hB rfl (fun j=>by rw[List.getElem?_drop,List.getElem?_toArray]) (by rw[List.length_drop,hsz]) hrest hslot
  (fun j o hj hnj ho=>hdet j o (Nat.zero_le _) hj hnj ho) hnd fl.length (Array.replicate l.toArray.size false) a { w with drawn:=w.drawn+1 } (fun _=>undef)
  (by
   rw[List.filter_eq_self.2 (fun j hj=>by
    have hj':j<l.toArray.size:=by have:=List.mem_range.1 hj;omega
    rw[getD_in (by rw[Array.size_replicate];exact hj') (getD_replicate_false _ _)];rfl)]
   simp)
  ⟨(Grw.refl _ w).drew,⟨by simp,fun j oj _ hl=>(by rw[getD_replicate_false] at hl;cases hl),fun t _ ht=>getD_in (by simpa using ht) (getD_replicate_false _ _)⟩,rfl,rfl,
   fun i d _ _ hl=>(by rw[getD_replicate_false] at hl;cases hl),fun t _=>rfl,fun pre d suf _ hl=>(by rw[getD_replicate_false] at hl;cases hl),fun k _=>(Grw.refl _ w).drew,fun _=>(Grw.refl _ w).drew⟩
 rw[show fl.length+(l.toArray.size-fl.length)=l.toArray.size by omega] at this;exact this
theorem zt {N m:Nat} {a:Act} {w:World} {l:List Oper} {sl:List (Nat × Value)} (ha:Has ds a N sl) (O:Nat→Prop) (K:Nat) (fl:List Bool) (nds:List Nd)
 (h:cV P l.toArray (Grw (fun b _=>O b) w) (fun g=>rK P l.toArray O K w Q (l.drop fl.length) nds g []) (pick fl l) a)
 (hB:iy l.toArray fl fl.length N (nds.map fun d=>(d.k,d.deps))=true) (hst:nds.all (fun d=>d.st==Nat.beq d.k m)=true) :
 nk P l Q a w:=by
 obtain⟨afin,h1,h2⟩:=iI _ _ h;have hne:=nh (m:=m) nds afin [] (fun d hd=>by simpa using List.all_eq_true.1 hst d hd) h2;refine oU [(m,(fun b _=>O b),sC K)] fl ((nds.map Nd.lift).map NdA.lift) (by rw[ha.size,List.map_map,List.map_map];exact hB) ⟨afin,?_,hne⟩;exact iC (fun X hX=>hX.weaken (fun x o ⟨p,hp,hpo⟩=>by rw[List.mem_singleton.1 hp] at hpo;exact hpo)) _ _ h1
theorem mY {id N m:Nat} {a:Act} {w:World} {l:List Oper} {sl:List (Nat × Value)} (ha:Has ds a N sl) (O:Nat→Prop) (K:Nat) (fl:List Bool) (nds:List Nd) (hm:P.follows .mixedOrders=true)
 (h:cV P l.toArray (Grw (fun b _=>O b) w) (fun g=>rK P l.toArray O K w Q (l.drop fl.length) nds g []) (pick fl l) a)
 (hB:iy l.toArray fl fl.length N (nds.map fun d=>(d.k,d.deps))=true) (hst:nds.all (fun d=>d.st==Nat.beq d.k m)=true) :
 (Code.region id l.toArray true).wp P Q a w:=wp_region_any hm (zt ha O K fl nds h hB hst)
variable {w:World} {tail:List Oper} {l:List (Nat × Value)} {o:Oper} {a:Act} {N d:Nat} {O:Nat→Prop} {K:Nat}
theorem mR {nds:List Nd} {k:Nat} {deps:List Nat} {R:Value→World→Prop} {Φ:List (Nat × (World→Prop))} (ha:Has ds a N l) (ho:ops[k]? = some o) (hd:o.dst=none)
 (hst:∀v X X',R v X→Below X.heap.size X X'→R v X') (hx:∀X,Below w.heap.size w X→told deps Φ X→fO P O K R X ((execOp a.eval o).run P X))
 (k':∀v,rK P ops O K w Q tail nds a ((k,R v)::Φ)):rK P ops O K w Q tail (⟨k,deps,R,true⟩::nds) a Φ:=by
 refine⟨⟨hst,fun h=>by cases h⟩,fun o' ho' X hX hb hΦ=>⟨fun h=>(by cases h),fun _=>?_⟩,fun v=>?_⟩
 · rw[ho] at ho';cases ho'
   exact hx X (hb rfl) hΦ
 · have e:aC ops k=none:=by unfold aC;rw[ho];exact hd
   show rK P ops O K w Q tail nds (a.put (aC ops k) v) _;rw[e];exact k' v
theorem tw {Φ:List (Nat × (World→Prop))} (h:∀X,Grw (fun b _=>O b) w X→dB Φ X→wpList P ops Q tail a X):rK P ops O K w Q tail [] a Φ:=h
end
end Go.Proofs.YtcfdpfmchchkaaaGreatDoor
