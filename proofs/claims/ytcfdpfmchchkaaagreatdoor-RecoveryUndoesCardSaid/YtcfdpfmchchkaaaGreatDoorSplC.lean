/- SPL, part 6 -/
import Derived.Test.YtcfdpfmchchkaaaGreatDoorSplB
import Derived.Lib.AppendZerosOnto
import Derived.Lib.AppendStr
namespace Go.Proofs.YtcfdpfmchchkaaaGreatDoor
set_option linter.unusedVariables false
set_option linter.unusedSimpArgs false
open Go.RowKit Go.Sort
variable {ds:List Deferred}
section
variable {P:Program}
end
section
variable {P:Program} {ops:Array Oper} {rest:List Oper} {o:Oper} {a:Act} {Q:Exit→Act→World→Prop} {X:World} {N d:Nat} {l:List (Nat × Value)} {M:List Nat} {w:World} {E:List Ent}
theorem St.initO {w:World} {B n sz:Nat} {T:TypeId} {v:Value} {xs:List Value} (h:w.ownsRow B T sz v n xs):St v.ownBlock.toList w w [.row v n T sz xs]:=
 ⟨rfl,rfl,rfl,Nat.le_refl _,fun _ _ _=>rfl,fun e c=>by rw[List.mem_singleton.1 c];exact aZ h (Nat.zero_le _),fun e c b f=>by
  rw[List.mem_singleton.1 c] at f;have i:v.ownBlock=some b:=f
  exact⟨.inr (by rw[i];simp),(h.lt b i).2⟩,.cons (fun _ h=>by cases h) .nil⟩
theorem St.calledM {w X X':World} {M p:List Nat} {L:List Ent} {i:Nat} {e j:Ent} (h:St M w X L) (q:L[i]? = some e) (c:St p X X' [j]) (m:∀b∈p,e.dom b):St M w X' (L.set i j):=
 h.turn q c.os c.tape c.output c.size (fun b k hne=>c.block b k (fun hm=>hne (m b hm))) (c.ok j (List.mem_singleton.2 rfl))
  (fun b k=>by
   obtain⟨f,r⟩:=c.new j (List.mem_singleton.2 rfl) b k;refine⟨?_,r⟩;rcases f with f | f
   · exact .inr f
   · exact .inl (m b f))
theorem DZ {zc:List Value} {sz:Nat} (b:zc.length=sz) (c:0<sz):∀(m k:Nat) (h:k<((List.replicate m zc).flatten).length),((List.replicate m zc).flatten)[k]'h=zc[k % sz]'(by rw[b];exact Nat.mod_lt _ c):=by
 intro m
 induction m with
 | zero=>intro k h;simp at h
 | succ m ih=>
  intro k h;simp only[List.replicate_succ,List.flatten_cons];by_cases e:k<zc.length
  · rw[List.getElem_append_left e]
    congr 1
    rw[Nat.mod_eq_of_lt ab]
  · rw[List.getElem_append_right ab,ih]
    congr 1
    rw[b,←Nat.mod_eq_sub_mod ab]
theorem la {f:FuncId} {args:Array Value} {i n e sz:Nat} {v:Value} {T:TypeId} {xs h:List Value} (u:Has ds a N l) (B:Region.wanted o (yielded ops a.tmps)=true) (hx:(execOp a.eval o).run P X=.ok (.enter f args) X) (x:o.dst=some d) (m:Nat.blt d N=true) (p:St M w X E) (q:E[i]? = some (.row v n T sz xs))
 (t:Calls P f args X fun r X'=>∃A c,r=.returned (.slice A e c)∧St v.ownBlock.toList X X' [.row (.slice A e c) e T sz h]) (k:∀j c' a' X',Has ds a' N ((d,.slice j e c')::l)→St M w X' (E.set i (.row (.slice j e c') e T sz h))→wpList P ops Q rest a' X'):wpList P ops Q (o::rest) a X:=
 iS B fun K z=>by
  unfold Oper.wp;rw[hx];refine t.mono fun r X' ⟨A,c,hr,s⟩=>?_;subst hr;refine z _ _ ?_;rw[x];exact k A c _ X' (u.put m _) (p.calledM q s (fun b y=>by show v.ownBlock=some b;simpa using y))
end
section
variable {P:Program} {ρ:Operand→Value} {X:World} {d:Option Tmp} {ty:TypeId} {ps:String} {af:Array Edge} {g:Option (Nat × Bool)}
theorem EH {x:Operand} {src dst e T:TypeId} {v:Value} {n:Nat} {us:List UInt8} (p:P.underlying src=some (.slice e)) (h:P.underlying e=some (.int .u8)) (m:P.underlying dst=some .string) (hx:ρ x=v) (b:X.ownsRow 0 T 1 v n (us.map bA)):(execOp ρ ⟨d,.convert src dst x,ty,ps,af,g⟩).run P X=.ok (.value (.string (bs us))) X:=by
 have i:us.length=n:=al b.1;obtain⟨A,c,rfl,_⟩:=ownsRow_form b
 cases A with
 | some A=>
  have q:=hx;rcases b.2 with ⟨f,_⟩ | ⟨g',cap,cur,e1,_,hg,hcap,hm,hcs,htk⟩
  · cases f
  injection e1 with e1 e2 e3;injection e1 with e1;subst e1;refine yL (us:=us) (c:=c) (o':=0) p h m (by rw[hx]) i (fun j r=>?_);have k:=b.cells (g:=g') rfl j (bA us[j]) (by rw[List.getElem?_map,List.getElem?_eq_getElem r];rfl);rw[eH] at k;exact k
 | none=>
  have:n=0:=by
   rcases b.2 with ⟨f,_⟩ | ⟨g',cap,cur,e1,_⟩
   · injection f
   · cases e1
  subst this;have:us=[]:=List.eq_nil_of_length_eq_zero i;subst this;unfold execOp;simp only[hx,Sem.run_bind,run_convert_bytes_string X src dst e none 0 c p h m];simp[Conv.bytesToString]
  rfl
end
open Go.RowKit Go.Sort
variable {ds:List Deferred}
abbrev yD:=Nat × (Nat→Option Obj→Prop) × (World→World→Prop)
section
variable {P:Program} {ops:Array Oper} {w:World}
def xX (sts:List yD) (k:Nat) (X X':World):Prop:=Below X.heap.size X X'∨∃p∈sts,p.1=k∧Grw p.2.1 X X'∧p.2.2 X X'
def fi (P:Program) (sts:List yD) (k:Nat) (R:Value→World→Prop) (X:World):Result Next→Prop
 | .ok (.value u) X'=>xX sts k X X'∧R u X'
 | .ok .skip X'=>xX sts k X X'∧R undef X'
 | .ok (.enter f args) X'=>X'=X∧Calls P f args X (fun e b=>∃v,e=.returned v∧xX sts k X b∧R v b)
 | _=>False
def gJ (sts:List yD) (b:Nat) (o:Option Obj):Prop:=∃p∈sts,p.2.1 b o
def w8 (sts:List yD) (k:Nat) (b:Nat) (o:Option Obj):Prop:=∃p∈sts,p.1≠k∧p.2.1 b o
def kT (ops:Array Oper) (fl:List Bool) (n N:Nat) (ks:List (Nat × List Nat)):Bool:=
 Region.noSelect ops&&(n==ops.size||(decide (n<ops.size)&&Region.sinkB .any ops n&&Region.chainB .any ops n))&&Region.seqB .any ops (ops.size-n) n (dw ops.size n) &&
 vF ops fl n N&&decide (fl.length=n)&&((List.range n).all fun i=>!bL fl i||(ks.map (·.1)).contains i)&&BZ ops fl n [] ks&&ks.all (fun p=>p.2.all fun j=>decide (j<n))
theorem ml {ops:Array Oper} {n:Nat} (h:(n==ops.size||(decide (n<ops.size)&&Region.sinkB .any ops n&&Region.chainB .any ops n))=true):n=ops.size∨(n<ops.size∧Region.sinkB .any ops n=true∧Region.chainB .any ops n=true):=by
 rw[Bool.or_eq_true,beq_iff_eq,Bool.and_eq_true,Bool.and_eq_true,decide_eq_true_eq] at h;rcases h with h | ⟨⟨h1,h2⟩,h3⟩
 · exact .inl h
 · exact .inr ⟨h1,h2,h3⟩
def gd (P:Program) (ops:Array Oper) (sts:List yD) (w:World) (Q:Exit→Act→World→Prop) (tail:List Oper):List NdB→Act→List (Nat × (World→Prop))→Prop
 | [],g,Φ=>∀X,Grw (gJ sts) w X→eN Φ X→wpList P ops Q tail g X
 | d::rest,g,Φ=>((∀v X X',d.R g v X→Below X.heap.size X X'→d.R g v X')∧(∀p∈sts,p.1≠d.k→p.1∉d.deps→∀v X X',d.R g v X→Grw p.2.1 X X'∧p.2.2 X X'→d.R g v X') ∧
  (∀b v X,(∀j∈d.deps,∀t,ay ops j=some t→b.tmps[t]? = g.tmps[t]?)→d.R g v X→d.R b v X)) ∧
  (∀o,ops[d.k]? = some o→∀X,Grw (w8 sts d.k) w X→((∀p∈sts,iE ops 4 p.1 d.k=true)→Grw (fun _ _=>False) w X)→told d.deps Φ X→fi P sts d.k (d.R g) X ((execOp g.eval o).run P X)) ∧
  ∀v,gd P ops sts w Q tail rest (g.put (ay ops d.k) v) ((d.k,d.R g v)::Φ)
theorem iV {sts:List yD} {Q:Exit→Act→World→Prop} {tail:List Oper}:∀(nds:List NdB) (g:Act) (Φ:List (Nat × (World→Prop))),gd P ops sts w Q tail nds g Φ→∀vals:Nat→Value,
 (∀pre d suf,nds=pre ++ d::suf→((∀v X X',d.R (aR ops vals pre g) v X→Below X.heap.size X X'→d.R (aR ops vals pre g) v X')∧(∀p∈sts,p.1≠d.k→p.1∉d.deps→∀v X X',d.R (aR ops vals pre g) v X→Grw p.2.1 X X'∧p.2.2 X X'→d.R (aR ops vals pre g) v X') ∧
  (∀s v X,(∀j∈d.deps,∀t,ay ops j=some t→s.tmps[t]? = (aR ops vals pre g).tmps[t]?)→d.R (aR ops vals pre g) v X→d.R s v X)) ∧
  ∀o,ops[d.k]? = some o→∀X,Grw (w8 sts d.k) w X→((∀p∈sts,iE ops 4 p.1 d.k=true)→Grw (fun _ _=>False) w X)→told d.deps Φ X→(∀b e c,pre=b ++ e::c→e.k∈d.deps→e.R (aR ops vals b g) (vals e.k) X) →
  fi P sts d.k (d.R (aR ops vals pre g)) X ((execOp (aR ops vals pre g).eval o).run P X)) ∧
 (∀X,Grw (gJ sts) w X→eN Φ X→(∀b e c,nds=b ++ e::c→e.R (aR ops vals b g) (vals e.k) X)→wpList P ops Q tail (aR ops vals nds g) X)
 | [],g,Φ,h,vals=>⟨fun pre d suf e=>by simp at e,fun X f m _=>h X f m⟩
 | d::rest,g,Φ,⟨h1,h2,h3⟩,vals=>by
  obtain⟨A,F⟩:=iV rest _ _ (h3 (vals d.k)) vals;refine⟨fun pre d' suf e=>?_,fun X f m i=>F X f ⟨i [] d rest rfl,m⟩ (fun b e c u=>i (d::b) e c (by rw[u];rfl))⟩
  cases pre with
  | nil=>
   simp only[List.nil_append,List.cons.injEq] at e;obtain⟨rfl,rfl⟩:=e;exact⟨h1,fun o q X f r hf _=>h2 o q X f r hf⟩
  | cons p pre=>
   simp only[List.cons_append,List.cons.injEq] at e;obtain⟨rfl,e⟩:=e;obtain⟨z,y⟩:=A pre d' suf e;refine⟨z,fun o q X f r hf i=>y o q X f r ?_ (fun b x c hx D=>i (d::b) x c (by rw[hx];rfl) D)⟩;unfold told
   split
   · rename_i B
     exact⟨i [] d pre rfl (List.contains_iff_mem.1 B),hf⟩
   · exact hf
section
variable {n N:Nat} {fl:List Bool} {nds:List NdB} {a afin:Act} {Q:Exit→Act→World→Prop} {tail:List Oper} {C:World→Prop} {sts:List yD}
structure FlowInvK (ops:Array Oper) (sts:List yD) (w:World) (fl:List Bool) (n:Nat) (nds:List NdB) (a afin:Act) (listed:Array Bool) (b:Act) (X:World) (vals:Nat→Value):Prop where
 below:Grw (gJ sts) w X
 head:HeadInv .any ops n listed
 size:b.tmps.size=a.tmps.size
 defers:b.defers=a.defers
 done:∀i d,i<n→ay ops i=some d→listed.getD i false=true→b.tmps[d]? = if bL fl i=true then some (vals i) else afin.tmps[d]?
 rest:∀t,(∀i,i<n→ay ops i=some t→listed.getD i true=false)→b.tmps[t]? = a.tmps[t]?
 facts:∀pre d suf,nds=pre ++ d::suf→listed.getD d.k false=true→d.R (aR ops vals pre afin) (vals d.k) X
 calm:∀k,listed.getD k false=false→Grw (w8 sts k) w X
 calm0:(∀p∈sts,listed.getD p.1 false=false)→Grw (fun _ _=>False) w X
theorem FlowInvK.step {listed:Array Bool} {b:Act} {X:World} {vals:Nat→Value} (h:FlowInvK ops sts w fl n nds a afin listed b X vals) {i:Nat} {o:Oper} {v:Value} {X':World}
 (Z:i∈Region.ready .any ops listed) (I:i<n) (D:ops[i]? = some o) (u:∀d,o.dst=some d→d<a.tmps.size∧∀j,j<n→j≠i→ay ops j≠some d)
 (T:xX sts i X X') (hst:∀pre e suf,nds=pre ++ e::suf→e.k≠i→listed.getD e.k false=true→∀vals v,e.R (aR ops vals pre afin) v X→e.R (aR ops vals pre afin) v X')
 (F:∀pre e suf,nds=pre ++ e::suf→(∀vals r v X,(∀x∈pre,x.k∈e.deps→vals x.k=r x.k)→e.R (aR ops vals pre afin) v X→e.R (aR ops r pre afin) v X)∧(listed.getD e.k false=true→∀x∈pre,x.k∈e.deps→listed.getD x.k false=true))
 (hv:∀d,o.dst=some d→bL fl i=false→afin.tmps[d]? = some v) (hR:∀pre e suf,nds=pre ++ e::suf→e.k=i→e.R (aR ops vals pre afin) v X') (H:∀pre e suf,nds=pre ++ e::suf→e.k=i→∀x∈pre,x.k≠i) :
 FlowInvK ops sts w fl n nds a afin (listed.setIfInBounds i true) (b.put o.dst v) X' (fun j=>if j=i then v else vals j):=by
 have z:ay ops i=o.dst:=by unfold ay;rw[D];rfl
 have B:i<listed.size:=by rw[h.head.size];exact(Array.getElem?_eq_some_iff.1 D).1
 have U:Grw (gJ sts) X X':=by
  rcases T with h | ⟨p,s,_,h⟩
  · exact Grw.of_below h
  · exact h.1.weaken (fun x o D=>⟨p,s,D⟩)
 refine⟨h.below.trans U,h.head.set Z I,by rw[dR];exact h.size,by rw[put_defers];exact h.defers,?_,?_,?_,?_,?_⟩
 · intro j e L q y
   by_cases f:j=i
   · subst f
     rw[z] at q;rw[q,put_eq (by rw[h.size];exact(u e q).1) v]
     cases hnd:bL fl j with
     | true=>simp
     | false=>rw[if_neg au];exact(hv e q hnd).symm
   · rw[getD_set_ne false (Ne.symm f)] at y
     have hne:o.dst≠some e:=fun e2=>(u e e2).2 j L f q;rw[fu hne v,h.done j e L q y,if_neg (c:=j=i) f]
 · intro t ht
   have hne:o.dst≠some t:=fun e=>by
    have:=ht i I (by rw[z,e]);rw[di B] at this
    cases this
   rw[fu hne v];refine h.rest t fun j L A=>?_;have:=ht j L A;by_cases f:i=j
   · subst f;rw[z] at A;exact absurd A hne
   · rw[getD_set_ne true f] at this;exact this
 · intro pre e suf q y
   by_cases m:e.k=i
   · show e.R _ (if e.k=i then v else vals e.k) X'
     rw[if_pos m,←ka vals (fun j=>if j=i then v else vals j) pre afin (fun x hx=>(if_neg (H pre e suf q m x hx)).symm)];exact hR pre e suf q m
   · show e.R _ (if e.k=i then v else vals e.k) X'
     rw[if_neg m];rw[getD_set_ne false (Ne.symm m)] at y;have Y:=hst pre e suf q m y vals _ (h.facts pre e suf q y);obtain⟨S,V⟩:=F pre e suf q;refine S vals _ _ _ (fun x hx W=>?_) Y;have Y:=V y x hx W
     have hne:x.k≠i:=fun e=>by
      rw[e] at Y;have:=(mem_ready.1 Z).1;rw[getD_both this] at Y;cases Y
     exact(if_neg hne).symm
 · intro k J
   have G:k≠i:=fun e=>by rw[e,di B] at J;cases J
   rw[getD_set_ne false (Ne.symm G)] at J;refine(h.calm k J).trans ?_;rcases T with h | ⟨p,s,hpi,h⟩
   · exact Grw.of_below h
   · exact h.1.weaken (fun x o D=>⟨p,s,by rw[hpi];exact Ne.symm G,D⟩)
 · intro Y
   have hne:∀p∈sts,p.1≠i:=fun p s e=>by
    have:=Y p s;rw[e,di B] at this;cases this
   refine(h.calm0 fun p s=>?_).trans ?_
   · have:=Y p s
     rwa [getD_set_ne false (Ne.symm (hne p s))] at this
   · rcases T with h | ⟨p,s,hpi,_⟩
     · exact Grw.of_below h
     · exact absurd hpi (hne p s)
theorem zJ (hB:kT ops fl n N (nds.map fun d=>(d.k,d.deps))=true) (hN:N=a.tmps.size) (Ym:∀j,tail[j]? = ops[n+j]?) (Ya:tail.length=ops.size-n)
 (Va:afin.tmps.size=a.tmps.size∧afin.defers=a.defers) (Ve:∀t,(∀j,j<n→bL fl j=false→ay ops j≠some t)→afin.tmps[t]? = a.tmps[t]?)
 (Wn:∀j o,j<n→bL fl j=false→ops[j]? = some o→wT P ops (Grw (gJ sts) w) (fun t=>if (∃j,j<n∧bL fl j=false∧ay ops j=some t) then afin.tmps[t]? else a.tmps[t]?) afin o)
 (Vj:gd P ops sts w Q tail nds afin []) :
 ∀(f:Nat) (listed:Array Bool) (b:Act) (X:World) (vals:Nat→Value),((List.range n).filter fun j=>!listed.getD j true).length=f→FlowInvK ops sts w fl n nds a afin listed b X vals→wpAny P .any ops Q (f+(ops.size-n)) listed b X:=by
 unfold kT at hB;rw[Bool.and_eq_true,Bool.and_eq_true,Bool.and_eq_true,Bool.and_eq_true,Bool.and_eq_true,Bool.and_eq_true,Bool.and_eq_true,decide_eq_true_eq] at hB;obtain⟨⟨⟨⟨⟨⟨⟨Vv,Wj⟩,Wp⟩,hh⟩,Ke⟩,Wc⟩,Ww⟩,Wi⟩:=hB;have Wd:=ml Wj
 have Yo:∀e∈nds,∀j∈e.deps,j<n:=fun e I j A=>by
  have:=List.all_eq_true.1 (List.all_eq_true.1 Wi (e.k,e.deps) (List.mem_map.2 ⟨e,I,rfl⟩)) j A
  simpa using this
 have s:=oq nds [] Ww
 have V:∀pre e suf,nds=pre ++ e::suf→∀vals,((∀v X X',e.R (aR ops vals pre afin) v X→Below X.heap.size X X'→e.R (aR ops vals pre afin) v X')∧(∀p∈sts,p.1≠e.k→p.1∉e.deps→∀v X X',e.R (aR ops vals pre afin) v X→Grw p.2.1 X X'∧p.2.2 X X'→e.R (aR ops vals pre afin) v X')∧(∀g' v X,(∀j∈e.deps,∀t,ay ops j=some t→g'.tmps[t]? = (aR ops vals pre afin).tmps[t]?)→e.R (aR ops vals pre afin) v X→e.R g' v X)):=fun pre e suf c vals=>
  ((iV nds afin _ Vj vals).1 pre e suf c).1
 have Jv:∀e∈nds,e.k<n:=fun e I=>by
  obtain⟨pre,suf,c⟩:=List.append_of_mem I;exact(s pre e suf c).1
 have S:∀i,i<n→∃o,ops[i]? = some o∧(∀d,o.dst=some d→d<a.tmps.size∧(∀j,j<n→j≠i→ay ops j≠some d))∧(∀e∈o.after,Region.binds .any e=true→e.on<i) ∧
  (∀t∈o.looksAt ops,∀j,j<n→ay ops j=some t→j<i∧Region.waitsFor .any ops i j=true∧(bL fl i=false→bL fl j=false))∧(bL fl i=true→o.guard=none):=fun i hi=>by
  have h1:=List.all_eq_true.1 hh i (List.mem_range.2 hi)
  cases ho:ops[i]? with
  | none=>rw[ho] at h1;cases h1
  | some o=>
   rw[ho] at h1;simp only[Bool.and_eq_true] at h1;obtain⟨⟨⟨c1,c2⟩,c3⟩,c4⟩:=h1
   · refine⟨o,rfl,fun d hd=>?_,fun e I hb=>?_,fun t ht j A q=>?_,fun Vj=>?_⟩
     · rw[hd] at c1
       simp only[Bool.and_eq_true,decide_eq_true_eq] at c1;refine⟨by rw[←hN];exact c1.1,fun j A hne e=>?_⟩;have:=List.all_eq_true.1 c1.2 j (List.mem_range.2 A);simp[hne,e] at this
     · have:=Array.all_eq_true_iff_forall_mem.1 c2 e I
       simpa [hb] using this
     · have:=List.all_eq_true.1 (List.all_eq_true.1 c3 t ht) j (List.mem_range.2 A)
       simp only[q,bne_self_eq_false,Bool.false_or,Bool.and_eq_true,decide_eq_true_eq,Bool.or_eq_true,Bool.not_eq_true'] at this;exact⟨this.1.1,this.1.2,fun Yp=>this.2.resolve_left (by rw[Yp];decide)⟩
     · rw[Vj] at c4
       simpa using c4
 intro f
 induction f with
 | zero=>
  intro listed b X vals Jw inv
  have Jy:∀i,i<n→listed.getD i true=true:=fun i hi=>by
   cases hl:listed.getD i true with
   | true=>rfl
   | false=>
    have:i∈(List.range n).filter fun j=>!listed.getD j true:=List.mem_filter.2 ⟨List.mem_range.2 hi,by rw[hl];rfl⟩;rw[List.length_eq_zero_iff.1 Jw] at this
    cases this
  have Vm:∀i,i<n→listed.getD i false=true:=fun i hi=>gX (by rw[inv.head.size];omega) (by rw[Jy i hi];decide)
  have Yl:listed=dw ops.size n:=by
   apply Array.ext
   · rw[inv.head.size];simp[dw]
   · intro i h1 h2
     have e2:(dw ops.size n)[i]=decide (i<n):=by simp[dw]
     rw[e2];by_cases hi:i<n
     · have:=Jy i hi
       simp[h1] at this;rw[this];simp[hi]
     · have:=inv.head.tail i ab (by rw[←inv.head.size];exact h1)
       simp[h1] at this;rw[this];simp[hi]
  have hb:b=aR ops vals nds afin:=by
   obtain⟨s1,H⟩:=kL (ops:=ops) vals nds afin
   have ht:b.tmps=(aR ops vals nds afin).tmps:=by
    apply Array.ext_getElem?;intro t;by_cases D:∃j,j<n∧ay ops j=some t
    · obtain⟨j,A,q⟩:=D
      obtain⟨o,ho,Vd,_⟩:=S j A
      have Wh:o.dst=some t:=by
       have:ay ops j=o.dst:=by unfold ay;rw[ho];rfl
       rw[←this];exact q
      obtain⟨Yf,Vz⟩:=Vd t Wh;obtain⟨d,rfl⟩:∃d,d=t:=⟨t,rfl⟩;rw[inv.done j d A q (Vm j A)]
      have hu:∀e∈nds,ay ops e.k=some d→e.k=j:=fun e I Vo=>by
       rcases Nat.decEq e.k j with hne | heq
       · exact absurd Vo (Vz e.k (Jv e I) hne)
       · exact heq
      cases hndj:bL fl j with
      | true=>
       rw[if_pos rfl];have B:=List.all_eq_true.1 Wc j (List.mem_range.2 A);rw[hndj] at B;simp only[Bool.not_true,Bool.false_or,List.contains_iff_mem,List.map_map] at B;obtain⟨e,I,G⟩:=List.mem_map.1 B;rw[jQ vals d j nds afin (by rw[Va.1];exact Yf) ⟨e,I,G⟩ q hu]
      | false=>
       rw[if_neg au,eo vals d nds afin (fun e I Vo=>by
        have:=hu e I Vo;obtain⟨pre,suf,c⟩:=List.append_of_mem I;have Y:=(s pre e suf c).2.1
        rw[this,hndj] at Y;cases Y)]
    · rw[inv.rest t (fun j A q=>absurd ⟨j,A,q⟩ D),eo vals t nds afin (fun e I Vo=>D ⟨e.k,Jv e I,Vo⟩),Ve t (fun j A _ q=>D ⟨j,A,q⟩)]
   have We:b.defers=(aR ops vals nds afin).defers:=by rw[inv.defers,H,Va.2]
   cases b with
   | mk bt bd=>cases hp:aR ops vals nds afin with
    | mk pt pd=>rw[hp] at ht We;simp at ht We;rw[ht,We]
  rw[Yl,hb,Nat.zero_add,←Ya];refine wpAny_of_seq tail n _ _ X Ym (by rw[Ya];exact Wp) ?_;exact(iV nds afin _ Vj vals).2 X inv.below trivial (fun L e H I=>inv.facts L e H I (Vm e.k (Jv e (by rw[I];simp))))
 | succ f ih=>
  intro listed b X vals Jw inv
  have D:∃i,i<n∧listed.getD i true=false:=by
   cases hl:(List.range n).filter fun j=>!listed.getD j true with
   | nil=>rw[hl] at Jw;simp at Jw
   | cons i _=>
    have:i∈(List.range n).filter fun j=>!listed.getD j true:=by rw[hl];simp
    obtain⟨h1,h2⟩:=List.mem_filter.1 this;exact⟨i,List.mem_range.1 h1,al h2⟩
  have Vr:∃i,i∈Region.ready .any ops listed:=by
   obtain⟨i,J,Jz⟩:=D
   have Yz:∀m,m<n→listed.getD m true=false→∃i,i∈Region.ready .any ops listed:=by
    intro m
    induction m using Nat.strongRecOn with
    | _ m ihm=>
     intro hm Jz;obtain⟨o,ho,_,Ws,_⟩:=S m hm;by_cases Jy:∀e∈o.after,Region.binds .any e=true→listed.getD e.on false=true
     · exact⟨m,mem_ready.2 ⟨Jz,o,ho,Jy⟩⟩
     · obtain⟨e,I⟩:=Classical.not_forall.1 Jy
       obtain⟨Yk,Vq⟩:=Classical.not_imp.1 I;obtain⟨hb,Yx⟩:=Classical.not_imp.1 Vq;have Jv:=Ws e Yk hb;refine ihm e.on Jv ab (getD_in (by rw[inv.head.size];omega) (al Yx))
   exact Yz i J Jz
  obtain⟨i0,Wy,Wz⟩:=D;rw[Nat.succ_add];refine⟨fun h0=>(by obtain⟨i,hi⟩:=Vr;rw[h0] at hi;cases hi),fun i hi=>?_⟩
  have J:i<n:=by
   rcases Wd with Wd | ⟨hn,hs,hc⟩
   · obtain⟨_,oi,Yj,_⟩:=mem_ready.1 hi
     rw[Wd];exact(Array.getElem?_eq_some_iff.1 Yj).1
   · exact Nat.lt_of_not_le fun h=>tail_waits hs hc hn inv.head _ i0 rfl Wy Wz i h hi
  obtain⟨o,ho,Vd,Ws,Vg,Ye⟩:=S i J;obtain⟨Jz,o',Yw,Vn⟩:=mem_ready.1 hi;obtain rfl:o'=o:=Option.some.inj (Yw.symm.trans ho)
  have Vf:((List.range n).filter fun j=>!(listed.setIfInBounds i true).getD j true).length=f:=by
   have:=count_set n i listed Jz n;rw[if_pos J,Jw] at this;omega
  have Vc:∀j,Region.waitsFor .any ops i j=true→listed.getD j false=true:=fun j A=>by
   obtain⟨o2,Yi,e,I,hb,Yh⟩:=Region.waitsFor_spec A;obtain rfl:o2=o':=Option.some.inj (Yi.symm.trans ho);rw[←Yh];exact Vn e I hb
  have Vh:∀pre e suf,nds=pre ++ e::suf→(∀vals U v X,(∀x∈pre,x.k∈e.deps→vals x.k=U x.k)→e.R (aR ops vals pre afin) v X→e.R (aR ops U pre afin) v X)∧(listed.getD e.k false=true→∀x∈pre,x.k∈e.deps→listed.getD x.k false=true):=fun pre e suf c=>by
   refine⟨fun vals U v X hv hR=>(V pre e suf c vals).2.2 _ v X (fun j A t ht=>?_) hR,fun hl x hx Z=>?_⟩
   · refine(nX vals U t pre afin afin rfl rfl (fun x hx Wt=>?_)).symm
     have Yr:=Jv x (by rw[c];simp[hx]);obtain⟨ox,Wl,Yv,_⟩:=S x.k Yr;by_cases Yd:x.k=j
     · exact hv x hx (by rw[Yd];exact A)
     · have Yq:j<n:=by
        rcases Nat.lt_or_ge j n with h | h
        · exact h
        · exfalso
          have Vu:ox.dst=some t:=by
           have:ay ops x.k=ox.dst:=by unfold ay;rw[Wl];rfl
           rw[←this];exact Wt
          have Y:=Yo e (by rw[c];simp) j A;omega
       have Vu:ox.dst=some t:=by
        have:ay ops x.k=ox.dst:=by unfold ay;rw[Wl];rfl
        rw[←this];exact Wt
       exact absurd ht ((Yv t Vu).2 j Yq (fun e=>Yd e.symm))
   · obtain⟨hk,_,hp,_⟩:=s pre e suf c
     obtain⟨oe,Yc,_⟩:=S e.k hk;exact dh inv.head 4 e.k x.k oe Yc (fun e2 Vq Wf=>inv.head.closed e.k oe Yc hl e2 Vq Wf) ((hp x.k (by simp;exact⟨x,hx,rfl⟩)).2 Z)
  have T:∀pre e suf,nds=pre ++ e::suf→e.k=i→∀x∈pre,x.k≠i:=fun pre e suf c G x hx=>by
   have:=((s pre e suf c).2.2.1 x.k (by simp;exact⟨x,hx,rfl⟩)).1;omega
  unfold wpOp;simp only[ho]
  cases hndi:bL fl i with
  | false=>
   obtain⟨g,d,v,hg,hd,Wv,hy⟩:=Wn i o' J hndi ho
   have W:∀t∈o'.looksAt ops,b.tmps[t]? = g.tmps[t]?:=fun t ht=>by
    rw[hg t ht];by_cases D:∃j,j<n∧ay ops j=some t
    · obtain⟨j,A,q⟩:=D
      obtain⟨_,hw,Yu⟩:=Vg t ht j A q;have Vx:=Yu hndi;show _=if _ then _ else _;rw[if_pos ⟨j,A,Vx,q⟩,inv.done j t A q (Vc j hw),Vx]
      rfl
    · show _=if _ then _ else _
      rw[if_neg (fun ⟨j,A,_,q⟩=>D ⟨j,A,q⟩)];exact inv.rest t (fun j A q=>absurd ⟨j,A,q⟩ D)
   have Yy:YieldsC P ops (Grw (gJ sts) w) o' v b:=hy.of_same (gk (Region.noSelect_spec Vv i o' · · ho) W) (gM W)
   have Jx:∀X',Below X.heap.size X X'→wpAny P .any ops Q (f+(ops.size-n)) (listed.setIfInBounds i true) (b.put o'.dst v) X':=fun X' Vp=>
    ih _ _ _ _ Vf (inv.step hi J ho Vd (.inl Vp) (fun pre e suf c _ _ vals v hR=>(V pre e suf c vals).1 v _ _ hR Vp) Vh (fun d2 Yb _=>by rw[hd] at Yb;rw[←Option.some.inj Yb];exact Wv) (fun pre e suf c G=>by
     have Y:=(s pre e suf c).2.1
     rw[G,hndi] at Y;cases Y) T)
   rcases Yy with ⟨hw,hv⟩ | ⟨hw,rfl⟩
   · rw[if_pos hw]
     refine .inl ?_;unfold Oper.wp;have Y:=hv X inv.below;generalize (execOp b.eval o').run P X=r at *
     cases r with
     | ok nx w'=>
      cases nx<;>simp only[Oper.quietUpon] at Y<;>simp only[Oper.upon]
      case value u=>
       obtain⟨e1,e2⟩:=Y;rw[e1,e2];exact Jx _ (Below.refl _ _)
      case skip=>
       obtain⟨e1,e2⟩:=Y;rw[e1,←e2];exact Jx _ (Below.refl _ _)
      case enter f args=>
       obtain⟨e1,Wb⟩:=Y;rw[e1]
       exact Wb.mono fun e Yg ⟨I,Vi⟩=>by subst I;exact Jx _ Vi
     | halt x w'=>simp only[Oper.quietUpon] at Y
   · rw[hw,if_neg au]
     exact Jx X (Below.refl _ _)
  | true=>
   have B:=List.all_eq_true.1 Wc i (List.mem_range.2 J);rw[hndi] at B;simp only[Bool.not_true,Bool.false_or,List.contains_iff_mem,List.map_map] at B;obtain⟨e,I,G⟩:=List.mem_map.1 B;replace G:e.k=i:=G;obtain⟨pre,suf,c⟩:=List.append_of_mem I;obtain⟨_,_,Vw,_⟩:=s pre e suf c
   have F:=((iV nds afin _ Vj vals).1 pre e suf c).2 o' (by rw[G];exact ho) X (by rw[G];exact inv.calm i (getD_both Jz)) (fun hw=>inv.calm0 fun p hp=>by
    cases hpl:listed.getD p.1 false with
    | false=>rfl
    | true=>
     exfalso
     have Wr:p.1<listed.size:=by
      rcases Nat.lt_or_ge p.1 listed.size with h' | h'
      · exact h'
      · simp[Array.getElem?_eq_none h'] at hpl
     have Wo:ops[p.1]? = some (ops[p.1]'(by rw[←inv.head.size];exact Wr)):=Array.getElem?_eq_getElem _;have:=dh inv.head 4 p.1 e.k _ Wo (fun e2 Vq Wf=>inv.head.closed p.1 _ Wo hpl e2 Vq Wf) (hw p hp);rw[G,getD_both Jz] at this
     cases this) trivial (fun L x H hx Z=>by
    have Wx:=(Vw x.k (by rw[hx];simp)).2 Z;rw[G] at Wx
    exact inv.facts L x (H ++ e::suf) (by rw[c,hx];simp) (dh inv.head 4 i x.k o' ho Vn Wx))
   have Vs:∀x∈pre,x.k<i:=fun x hx=>by
    have:=(Vw x.k (by simp;exact⟨x,hx,rfl⟩)).1;rw[G] at this;exact this
   have W:∀t∈o'.looksAt ops,b.tmps[t]? = (aR ops vals pre afin).tmps[t]?:=fun t ht=>by
    by_cases D:∃j,j<n∧ay ops j=some t
    · obtain⟨j,A,q⟩:=D
      obtain⟨Kc,hw,_⟩:=Vg t ht j A q;obtain⟨oj,Ka,Wa,_⟩:=S j A
      have Wh:oj.dst=some t:=by
       have:ay ops j=oj.dst:=by unfold ay;rw[Ka];rfl
       rw[←this];exact q
      obtain⟨Wm,Ys⟩:=Wa t Wh;obtain⟨dj,rfl⟩:∃d,d=t:=⟨t,rfl⟩
      have hu:∀x∈pre,ay ops x.k=some dj→x.k=j:=fun x hx Z=>by
       rcases Nat.decEq x.k j with hne | heq
       · exact absurd Z (Ys x.k (Jv x (by rw[c];simp[hx])) hne)
       · exact heq
      rw[inv.done j dj A q (Vc j hw)]
      cases hndj:bL fl j with
      | true=>
       rw[if_pos rfl];have B:=List.all_eq_true.1 Wc j (List.mem_range.2 A);rw[hndj] at B;simp only[Bool.not_true,Bool.false_or,List.contains_iff_mem,List.map_map] at B;obtain⟨x,hx,Vl⟩:=List.mem_map.1 B;replace Vl:x.k=j:=Vl
       have Vy:x∈pre:=by
        rw[c] at hx;rcases List.mem_append.1 hx with hx | hx
        · exact hx
        · rcases List.mem_cons.1 hx with rfl | hx
          · omega
          · obtain⟨L,H,Vk⟩:=List.append_of_mem hx
            have:=((s (pre ++ e::L) x H (by rw[c,Vk];simp)).2.2.1 e.k bw).1;omega
       rw[jQ vals dj j pre afin (by rw[Va.1];exact Wm) ⟨x,Vy,Vl⟩ q hu]
      | false=>
       rw[if_neg au,eo vals dj pre afin (fun x hx Z=>by
        have h6:=hu x hx Z;obtain⟨L,H,Vk⟩:=List.append_of_mem hx;have Y:=(s L x (H ++ e::suf) (by rw[c,Vk];simp)).2.1
        rw[h6,hndj] at Y;cases Y)]
    · rw[inv.rest t (fun j A q=>absurd ⟨j,A,q⟩ D),eo vals t pre afin (fun x hx Z=>D ⟨x.k,Jv x (by rw[c];simp[hx]),Z⟩),Ve t (fun j A _ q=>D ⟨j,A,q⟩)]
   rw[←gk (Region.noSelect_spec Vv i o' · · ho) W] at F
   have Wg:Region.wanted o' (yielded ops b.tmps)=true:=by unfold Region.wanted;rw[Ye hndi]
   have Kb:∀x∈nds,x.k=i→x=e∨x.k=i:=fun x _ h=>.inr h
   have Wk:∀x∈nds,x.k=i→x=e:=fun x hx Vb=>by
    rw[c] at hx;rcases List.mem_append.1 hx with hx | hx
    · have:=Vs x hx;omega
    · rcases List.mem_cons.1 hx with rfl | hx
      · rfl
      · obtain⟨L,H,Vk⟩:=List.append_of_mem hx
        have:=((s (pre ++ e::L) x H (by rw[c,Vk];simp)).2.2.1 e.k bw).1;omega
   have Vt:∀L x H,nds=L ++ x::H→x.k=i→L=pre∧x=e:=fun L x H hx Vb=>by
    have Yn:x=e:=Wk x (by rw[hx];simp) Vb;subst Yn;refine⟨?_,rfl⟩
    have Wu:∀(l1 l2 s1 H:List NdB),l1 ++ x::s1=l2 ++ x::H→(∀y∈l1,y.k≠i)→(∀y∈l2,y.k≠i)→l1=l2:=by
     intro l1
     induction l1 with
     | nil=>
      intro l2 s1 H h _ h2
      cases l2 with
      | nil=>rfl
      | cons y l2=>
       simp only[List.nil_append,List.cons_append,List.cons.injEq] at h;exact absurd (h.1▸Vb) (h2 y bw)
     | cons y l1 ih=>
      intro l2 s1 H h h1 h2
      cases l2 with
      | nil=>
       simp only[List.nil_append,List.cons_append,List.cons.injEq] at h;exact absurd (h.1.symm▸Vb) (h1 y bw)
      | cons z l2=>
       simp only[List.cons_append,List.cons.injEq] at h;rw[h.1,ih l2 s1 H h.2 (fun y hy=>h1 y (by simp[hy])) (fun y hy=>h2 y (by simp[hy]))]
    exact Wu L pre H suf (hx.symm.trans c) (fun y hy=>T L x H hx Vb y hy) (fun y hy=>T pre x suf c G y hy)
   have Jx:∀v X',xX sts i X X'→e.R (aR ops vals pre afin) v X'→wpAny P .any ops Q (f+(ops.size-n)) (listed.setIfInBounds i true) (b.put o'.dst v) X':=fun v X' Vp hR=>
    ih _ _ _ _ Vf (inv.step hi J ho Vd Vp (fun L x H hx Vb Yt vals v hR=>by
     rcases Vp with h | ⟨p,hp,hpi,h⟩
     · exact(V L x H hx vals).1 v _ _ hR h
     · exact(V L x H hx vals).2.1 p hp (by rw[hpi];exact Ne.symm Vb) (fun J=>by
        rw[hpi] at J;have Y:=(s L x H hx).2.2.2 i J;rw[List.nil_append] at Y;obtain⟨y,hy,Wq⟩:=List.mem_map.1 Y;have Y:=(Vh L x H hx).2 Yt y hy (by rw[Wq];exact J);rw[Wq,getD_both Jz] at Y
        cases Y) v _ _ hR h) Vh (fun _ _ h=>by rw[hndi] at h;cases h) (fun L x H hx Vl=>by obtain⟨rfl,rfl⟩:=Vt L x H hx Vl;exact hR) T)
   rw[if_pos Wg];refine .inl ?_;unfold Oper.wp;generalize (execOp b.eval o').run P X=r at *;rw[G] at F
   cases r with
   | ok nx w'=>
    cases nx<;>simp only[fi] at F<;>simp only[Oper.upon]
    case value u=>exact Jx _ _ F.1 F.2
    case skip=>exact Jx _ _ F.1 F.2
    case enter f args=>
     obtain⟨e1,Wb⟩:=F;rw[e1]
     exact Wb.mono fun e Yg ⟨v,I,Vi,hR⟩=>by subst I;exact Jx _ _ Vi hR
   | halt x w'=>simp only[fi] at F
end
end
def tp (K:Nat) (X X':World):Prop:=∀(b:Nat) (cs:Array Value) (T:TypeId) (fr:Nat × Nat),X.heap[b]? = some (.cells cs T fr)→∃cs',X'.heap[b]? = some (.cells cs' T fr)∧cs'.size=cs.size∧cs'.toList.take K=cs.toList.take K
def Kp (O:Nat→Prop) (K:Nat) (X X':World):Prop:=Grw (fun b _=>O b) X X'∧tp K X X'
theorem Kp.refl (O:Nat→Prop) (K:Nat) (X:World):Kp O K X X:=⟨Grw.refl _ _,fun b cs T fr h=>⟨cs,h,rfl,rfl⟩⟩
theorem Kp.of_below {O:Nat→Prop} {K:Nat} {X X':World} (h:Below X.heap.size X X'):Kp O K X X':=
 ⟨Grw.of_below h,fun b cs T fr c=>⟨cs,(h.block b (Array.getElem?_eq_some_iff.1 c).1).trans c,rfl,rfl⟩⟩
theorem Kp.weaken {O O':Nat→Prop} {K:Nat} {X X':World} (h:Kp O K X X') (e:∀b,O b→O' b):Kp O' K X X':=⟨h.1.weaken (fun b _ c=>e b c),h.2⟩
section
variable {P:Program}
theorem jq (w:World) (t ty e:TypeId) (i:TypeInfo) (z:Value) (size bytes:Nat) (ht:P.underlying t=some (.slice e)) (L:P.info? e=some i) (hz:i.zero=some z)
 (I:i.size=size) (Jv:i.bytes=bytes) (Y:z.cells.size=size) (W:0<size)
 (v:Value) (n:Nat) (xs:List Value) (f:w.ownsRow 0 e size v n xs)
 (A:Option Addr) (m c:Nat) (news:List Value) (x:news.length=m*size) (hr:Rd w w.heap.size A news) (h1:∀u∈news,u.oneCell'=true)
 (Za:n+m≤maxLen) (s:(n+m)*bytes≤140737488355328) (K:Nat) (Z:K≤n*size∨∃B,v=.slice B n n) :
 ∃v' V,(Builtin.append_ #[t,t] ty #[v,.slice A m c]).run P w=.ok v' V∧V.ownsRow 0 e size v' (n+m) (xs ++ news)∧Kp (fun b=>v.ownBlock=some b) K w V ∧
  (v'.ownBlock=v.ownBlock∨v'.ownBlock=some w.heap.size):=by
 rcases A with _ | ad
 · have hm:news=[]:=by
    rcases news with _ | ⟨u,l⟩
    · rfl
    · obtain⟨b,o,h,_⟩:=hr 0 u rfl
      cases h
   subst hm
   have Jw:m=0:=by
    rcases Nat.eq_zero_or_pos m with h | h
    · exact h
    · have:=Nat.mul_pos h W
      simp at x;omega
   subst Jw;refine⟨v,w,?_,al f,Kp.refl _ _ w,.inl rfl⟩;rcases f.2 with ⟨rfl,rfl⟩ | ⟨g,cap,cur,rfl,_,_,hnc,_⟩
   · simp[Builtin.append_,run_underlying ht,sizeOf,typeInfo,L,Builtin.lenOf,Builtin.firstCells]
   · simp[Builtin.append_,run_underlying ht,sizeOf,typeInfo,L,Builtin.lenOf,Builtin.firstCells,hnc,storeCells]
 have p:∀j u,news[j]? = some u→w.cell? (ad.add j)=some u:=fun j u hj=>by
  obtain⟨b,o,h,_,hc⟩:=hr j u hj;injection h with h;subst h;rw[eH];exact hc
 subst I
 subst Jv
 have S:n+m≤9223372036854775807:=by simp only[maxLen] at Za;omega
 have r:(xs ++ news).length=(n+m)*i.size:=by rw[List.length_append,f.1,x,Nat.add_mul]
 have grown:∀(old:Nat),old<n+m →
  (w.drew.alloc (.cells (xs.toArray ++ news.toArray ++ Builtin.zeroCells z.cells (grownCap w (n+m) old e-(n+m))) e)).ownsRow 0 e i.size
   (.slice (some ⟨w.heap.size,0,none⟩) (n+m) (grownCap w (n+m) old e)) (n+m) (xs ++ news):=by
  intro old ho;have U:=grownCap_ge w (n+m) old e;have J:grownCap w (n+m) old e≤maxLen:=grownCap_le_maxLen w (n+m) old e Za;refine⟨r,.inr ⟨w.heap.size,_,_,rfl,Nat.zero_le _,heap_alloc_new w.drew _,U,J,?_,?_⟩⟩
  · simp only[Array.size_append,List.size_toArray,size_zeroCells,Y,f.1,x,←Nat.add_mul]
    congr 1
    omega
  · simp only[Array.toList_append,List.append_assoc]
    rw[←List.append_assoc,←r];exact List.take_left
 have H:∀ob:Obj,Below w.heap.size w (w.drew.alloc ob):=fun ob=>⟨rfl,rfl,rfl,by simp,fun k hk=>heap_alloc_old w.drew _ hk⟩;rcases f.2 with ⟨rfl,rfl⟩ | ⟨g,cap,cur,rfl,hbg,hg,hnc,J,hcs,htake⟩
 · have hx:xs=[]:=List.eq_nil_of_length_eq_zero (al f.1)
   subst hx;by_cases hm:m=0
   · subst hm
     have hn:news=[]:=List.eq_nil_of_length_eq_zero (al x);subst hn;refine⟨.slice none 0 0,w,?_,World.ownsRow_nil w 0 e i.size,Kp.refl _ _ w,Or.inl rfl⟩;simp[Builtin.append_,run_underlying ht,sizeOf,typeInfo,L,Builtin.lenOf,Builtin.firstCells,loadCells,loadCellsFrom]
   · have hr:=run_append_nil (P:=P) w t ty e i z ht L hz ad m c news x p ab ab (by have D:=s;simp only[Nat.zero_add] at D;omega)
     have y:=grown 0 ab;simp only[Nat.zero_add,List.nil_append,Array.empty_append] at y ⊢;exact⟨_,_,hr,y,Kp.of_below (H _),Or.inr rfl⟩
 · by_cases q:n+m≤cap
   · have R:n*i.size+news.length≤cur.size:=by rw[x,hcs,←Nat.add_mul];exact Nat.mul_le_mul_right _ q
     have hr:=run_append_room (P:=P) w t ty e i ht L g n cap cur hg ad m c news x p h1 q R
     have G:(cur.toList.take (n*i.size) ++ news ++ cur.toList.drop (n*i.size+news.length)).length=cur.size:=by
      simp only[List.length_append,List.length_take,List.length_drop,Array.length_toList];omega
     refine⟨_,_,hr,⟨r,.inr ⟨g,cap,_,rfl,hbg,setRow_heap w g cur _ e _ hg,q,J,?_,?_⟩⟩,⟨(iu hg (al G)).weaken (fun b _ D=>by rw[D];rfl),?_⟩,Or.inl rfl⟩
     · simp only[List.size_toArray,List.length_append,List.length_take,List.length_drop,Array.length_toList]
       omega
     · rw[htake,←r]
       exact List.take_left
     · intro b cs T fr D
       by_cases F:b=g
       · subst F
         rw[hg] at D;injection D with D;injection D with e1 e2 e3;subst e1 e2 e3;refine⟨_,setRow_heap w b cur _ e _ hg,al G,?_⟩;rcases Z with Z | ⟨B,hB⟩
         · simp only[List.toList_toArray]
           rw[List.take_append_of_le_length (by simp only[List.length_append,List.length_take,Array.length_toList];omega),List.take_append_of_le_length (by simp only[List.length_take,Array.length_toList];omega),List.take_take,Nat.min_eq_left Z]
         · injection hB with _ _ hB
           have:m=0:=by omega
           subst this;have hn:news=[]:=List.eq_nil_of_length_eq_zero (al x);subst hn;simp
       · exact⟨cs,(setRow_other w g b _ F).trans D,rfl,rfl⟩
   · have holds:∀j u,xs[j]? = some u→w.cell? ((⟨g,0,none⟩:Addr).add j)=some u:=f.cells (g:=g) rfl
     have hr:=run_append_grow (P:=P) w t ty e i z ht L hz ⟨g,0,none⟩ n cap xs f.1 holds ad m c news x p ab ab (growslice_fits ab s);have y:=grown cap ab;exact⟨_,_,hr,y,Kp.of_below (H _),Or.inr rfl⟩
end
def dE (P:Program) (O:Nat→Prop) (K:Nat) (R:Value→World→Prop) (X:World):Result Next→Prop
 | .ok (.value u) X'=>Kp O K X X'∧R u X'
 | .ok .skip X'=>Kp O K X X'∧R undef X'
 | .ok (.enter f args) X'=>X'=X∧Calls P f args X (fun e b=>∃v,e=.returned v∧Kp O K X b∧R v b)
 | _=>False
section
variable {P:Program} {ops:Array Oper} {Q:Exit→Act→World→Prop}
def nD (P:Program) (ops:Array Oper) (O:Nat→Prop) (K:Nat) (w:World) (Q:Exit→Act→World→Prop) (tail:List Oper):List Nd→Act→List (Nat × (World→Prop))→Prop
 | [],g,Φ=>∀X,Grw (fun b _=>O b) w X→eN Φ X→wpList P ops Q tail g X
 | d::rest,g,Φ=>((∀v X X',d.R v X→Below X.heap.size X X'→d.R v X')∧(d.st=false→∀v X X',d.R v X→Kp O K X X'→d.R v X')) ∧
  (∀o,ops[d.k]? = some o→∀X,Grw (fun b _=>O b) w X→(d.st=true→Below w.heap.size w X)→told d.deps Φ X→(d.st=false→cj P d.R X ((execOp g.eval o).run P X))∧(d.st=true→dE P O K d.R X ((execOp g.eval o).run P X))) ∧
  ∀v,nD P ops O K w Q tail rest (g.put (ay ops d.k) v) ((d.k,d.R v)::Φ)
theorem rk {O:Nat→Prop} {K m:Nat} {w:World} {tail:List Oper}:∀(nds:List Nd) (g:Act) (Φ:List (Nat × (World→Prop))),(∀d∈nds,d.st=Nat.beq d.k m)→nD P ops O K w Q tail nds g Φ→gd P ops [(m,(fun b _=>O b),tp K)] w Q tail ((nds.map Nd.lift).map NdA.lift) g Φ
 | [],g,Φ,_,h=>fun X q y=>h X (q.weaken (fun x o ⟨p,j,i⟩=>by rw[List.mem_singleton.1 j] at i;exact i)) y
 | d::rest,g,Φ,hm,⟨⟨s,h1b⟩,t,h3⟩=>by
  have z:=hm d bw;refine⟨⟨fun v X X'=>s v X X',fun p j hne _ v X X' J q=>?_,fun _ _ _ _ h=>h⟩,fun o I X q L y=>?_,fun v=>rk rest _ _ (fun x hx=>hm x (by simp[hx])) (h3 v)⟩
  · have F:=List.mem_singleton.1 j
    subst F;refine h1b ?_ v X X' J q;rw[z,Bool.eq_false_iff];exact fun e=>hne (Nat.eq_of_beq_eq_true e).symm
  · have A:Grw (fun b _=>O b) w X:=q.weaken (fun x o ⟨p,j,_,i⟩=>by rw[List.mem_singleton.1 j] at i;exact i)
    obtain⟨G,H⟩:=t o I X A (fun c=>(q.weaken (O':=fun _ _=>False) (fun x o ⟨p,j,hne,i⟩=>by
     rw[List.mem_singleton.1 j] at hne;rw[z] at c
     exact hne (Nat.eq_of_beq_eq_true c).symm)).below) y
    show fi P _ d.k d.R X ((execOp g.eval o).run P X)
    cases c:d.st with
    | false=>
     have h:=G c;generalize (execOp g.eval o).run P X=r at *
     cases r with
     | ok nx w'=>
      cases nx<;>simp only[cj] at h<;>simp only[fi]
      case value u=>exact⟨.inl h.1,h.2⟩
      case enter f args=>exact⟨h.1,h.2.mono fun e B ⟨v,s,t,h3⟩=>⟨v,s,.inl t,h3⟩⟩
     | halt x w'=>simp only[cj] at h
    | true=>
     have h:=H c;have D:m=d.k:=(Nat.eq_of_beq_eq_true (z.symm.trans c)).symm;generalize (execOp g.eval o).run P X=r at *
     cases r with
     | ok nx w'=>
      cases nx<;>simp only[dE] at h<;>simp only[fi]
      case value u=>exact⟨.inr ⟨_,List.mem_singleton.2 rfl,D,h.1⟩,h.2⟩
      case skip=>exact⟨.inr ⟨_,List.mem_singleton.2 rfl,D,h.1⟩,h.2⟩
      case enter f args=>exact⟨h.1,h.2.mono fun e B ⟨v,s,t,h3⟩=>⟨v,s,.inr ⟨_,List.mem_singleton.2 rfl,D,t⟩,h3⟩⟩
     | halt x w'=>simp only[dE] at h
theorem tg {a:Act} {w:World} {l:List Oper} (sts:List yD) (fl:List Bool) (nds:List NdB)
 (hB:kT l.toArray fl fl.length a.tmps.size (nds.map fun d=>(d.k,d.deps))=true)
 (h:∃afin:Act,dN P l.toArray (Grw (gJ sts) w) (fun a'=>a'=afin) (pick fl l) a∧gd P l.toArray sts w Q (l.drop fl.length) nds afin []) :
 sQ P l Q a w:=by
 obtain⟨afin,B,R⟩:=h;have v:=hB;unfold kT at v;rw[Bool.and_eq_true,Bool.and_eq_true,Bool.and_eq_true,Bool.and_eq_true,Bool.and_eq_true,Bool.and_eq_true,Bool.and_eq_true,decide_eq_true_eq] at v;obtain⟨⟨⟨⟨⟨⟨⟨V,F⟩,U⟩,Z⟩,_⟩,Y⟩,W⟩,_⟩:=v
 have H:fl.length≤l.toArray.size:=by
  rcases ml F with h | h
  · exact Nat.le_of_eq h
  · exact Nat.le_of_lt h.1
 have T:l.toArray.size=l.length:=by simp
 have z:=gG _ _ B
 have y:∀t,(∀j,j<fl.length→bL fl j=false→ay l.toArray j≠some t)→afin.tmps[t]? = a.tmps[t]?:=fun t ht=>by
  refine(fa _ _ ?_ B).1.symm
  have S:∀(D:List Bool) (m:List Oper) (i:Nat),i+D.length=fl.length→(∀j,D[j]? = fl[i+j]?)→(∀j,m[j]? = l.toArray[i+j]?)→∀o∈pick D m,o.dst≠some t:=by
   intro D
   induction D with
   | nil=>intro m i _ _ _ o p;cases m<;>simp[pick] at p
   | cons b D ih=>
    intro m i c J G o p
    cases m with
    | nil=>cases b<;>simp[pick] at p
    | cons x m=>
     have hx:l.toArray[i]? = some x:=by have:=G 0;rw[Nat.add_zero] at this;rw[←this];rfl
     have hb:bL fl i=b:=by have:=J 0;rw[Nat.add_zero] at this;unfold bL;rw[←this];rfl
     have u:∀j,D[j]? = fl[i+1+j]?:=fun j=>by have:=J (j+1);rw[show i+1+j=i+(j+1) by omega,←this];rfl
     have s:∀j,m[j]? = l.toArray[i+1+j]?:=fun j=>by have:=G (j+1);rw[show i+1+j=i+(j+1) by omega,←this];rfl
     cases b with
     | true=>exact ih m (i+1) (by simp at c;omega) u s o p
     | false=>
      rcases List.mem_cons.1 p with rfl | p
      · intro e
        exact ht i (by simp at c;omega) hb (by unfold ay;rw[hx];exact e)
      · exact ih m (i+1) (by simp at c;omega) u s o p
  exact S fl l 0 ab (fun j=>by rw[Nat.zero_add]) (fun j=>by rw[Nat.zero_add];simp)
 have I:=iX (P:=P) (C:=Grw (gJ sts) w) (afin:=afin) Z rfl rfl H (fun t=>if (∃j,j<fl.length∧bL fl j=false∧ay l.toArray j=some t) then afin.tmps[t]? else a.tmps[t]?)
  (fun j t q f A=>if_pos ⟨j,q,f,A⟩) (fun t ht=>if_neg (fun ⟨j,q,f,A⟩=>ht j q f A))
  fl l 0 a ab (fun j=>by rw[Nat.zero_add]) (fun j=>by rw[Nat.zero_add];simp) rfl (fun t ⟨j,q,_⟩=>absurd q (Nat.not_lt_zero _)) (fun t _=>rfl) B
 have:=zJ (P:=P) (w:=w) (Q:=Q) (tail:=l.drop fl.length) (a:=a) (afin:=afin) (sts:=sts) hB rfl (fun j=>by rw[List.getElem?_drop,List.getElem?_toArray]) (by rw[List.length_drop,T]) z y
  (fun j o q f p=>I j o (Nat.zero_le _) q f p) R fl.length (Array.replicate l.toArray.size false) a { w with drawn:=w.drawn+1 } (fun _=>undef)
  (by
   rw[List.filter_eq_self.2 (fun j q=>by
    have L:j<l.toArray.size:=by have:=List.mem_range.1 q;omega
    rw[getD_in (by rw[Array.size_replicate];exact L) (getD_replicate_false _ _)];rfl)]
   simp)
  ⟨(Grw.refl _ w).drew,⟨by simp,fun j oj _ r=>(by rw[getD_replicate_false] at r;cases r),fun t _ ht=>getD_in (al ht) (getD_replicate_false _ _)⟩,rfl,rfl,
   fun i d _ _ r=>(by rw[getD_replicate_false] at r;cases r),fun t _=>rfl,fun pre d suf _ r=>(by rw[getD_replicate_false] at r;cases r),fun k _=>(Grw.refl _ w).drew,fun _=>(Grw.refl _ w).drew⟩
 rw[show fl.length+(l.toArray.size-fl.length)=l.toArray.size by omega] at this;exact this
theorem Di {N m:Nat} {a:Act} {w:World} {l:List Oper} {r:List (Nat × Value)} (s:Has ds a N r) (O:Nat→Prop) (K:Nat) (fl:List Bool) (nds:List Nd)
 (h:dN P l.toArray (Grw (fun b _=>O b) w) (fun g=>nD P l.toArray O K w Q (l.drop fl.length) nds g []) (pick fl l) a)
 (hB:kT l.toArray fl fl.length N (nds.map fun d=>(d.k,d.deps))=true) (hst:nds.all (fun d=>d.st==Nat.beq d.k m)=true) :
 sQ P l Q a w:=by
 obtain⟨afin,e,i⟩:=gD _ _ h;have hne:=rk (m:=m) nds afin [] (fun d f=>by simpa using List.all_eq_true.1 hst d f) i;refine tg [(m,(fun b _=>O b),tp K)] fl ((nds.map Nd.lift).map NdA.lift) (by rw[s.size,List.map_map,List.map_map];exact hB) ⟨afin,?_,hne⟩;exact iF (fun X j=>j.weaken (fun x o ⟨p,q,c⟩=>by rw[List.mem_singleton.1 q] at c;exact c)) _ _ e
theorem gB {id N m:Nat} {a:Act} {w:World} {l:List Oper} {c:List (Nat × Value)} (e:Has ds a N c) (O:Nat→Prop) (K:Nat) (fl:List Bool) (nds:List Nd) (hm:P.follows .mixedOrders=true)
 (h:dN P l.toArray (Grw (fun b _=>O b) w) (fun g=>nD P l.toArray O K w Q (l.drop fl.length) nds g []) (pick fl l) a)
 (hB:kT l.toArray fl fl.length N (nds.map fun d=>(d.k,d.deps))=true) (hst:nds.all (fun d=>d.st==Nat.beq d.k m)=true) :
 (Code.region id l.toArray true).wp P Q a w:=wp_region_any hm (Di e O K fl nds h hB hst)
variable {w:World} {tail:List Oper} {l:List (Nat × Value)} {o:Oper} {a:Act} {N d:Nat} {O:Nat→Prop} {K:Nat}
theorem zp {nds:List Nd} {k:Nat} {deps:List Nat} {R:Value→World→Prop} {Φ:List (Nat × (World→Prop))} (r:Has ds a N l) (f:ops[k]? = some o) (m:o.dst=some d) (j:Nat.blt d N=true)
 (hst:∀v X X',R v X→Below X.heap.size X X'→R v X') (hst2:∀v X X',R v X→Kp O K X X'→R v X') (hx:∀X,Grw (fun b _=>O b) w X→told deps Φ X→cj P R X ((execOp a.eval o).run P X))
 (q:∀v a',Has ds a' N ((d,v)::l)→nD P ops O K w Q tail nds a' ((k,R v)::Φ)):nD P ops O K w Q tail (⟨k,deps,R,false⟩::nds) a Φ:=by
 refine⟨⟨hst,fun _=>hst2⟩,fun o' c X p _ i=>⟨fun _=>?_,fun h=>by cases h⟩,fun v=>?_⟩
 · rw[f] at c;cases c
   exact hx X p i
 · have e:ay ops k=some d:=by unfold ay;rw[f];exact m
   show nD P ops O K w Q tail nds (a.put (ay ops k) v) _;rw[e];exact q v _ (r.put j v)
theorem GX {nds:List Nd} {k:Nat} {deps:List Nat} {R:Value→World→Prop} {Φ:List (Nat × (World→Prop))} (q:Has ds a N l) (c:ops[k]? = some o) (j:o.dst=some d) (i:Nat.blt d N=true)
 (hst:∀v X X',R v X→Below X.heap.size X X'→R v X') (hx:∀X,Below w.heap.size w X→told deps Φ X→dE P O K R X ((execOp a.eval o).run P X))
 (p:∀v a',Has ds a' N ((d,v)::l)→nD P ops O K w Q tail nds a' ((k,R v)::Φ)):nD P ops O K w Q tail (⟨k,deps,R,true⟩::nds) a Φ:=by
 refine⟨⟨hst,fun h=>by cases h⟩,fun o' b X r m f=>⟨fun h=>(by cases h),fun _=>?_⟩,fun v=>?_⟩
 · rw[c] at b;cases b
   exact hx X (m rfl) f
 · have e:ay ops k=some d:=by unfold ay;rw[c];exact j
   show nD P ops O K w Q tail nds (a.put (ay ops k) v) _;rw[e];exact p v _ (q.put i v)
theorem iw {nds:List Nd} {k:Nat} {deps:List Nat} {R:Value→World→Prop} {Φ:List (Nat × (World→Prop))} (q:Has ds a N l) (c:ops[k]? = some o) (m:o.dst=none)
 (hst:∀v X X',R v X→Below X.heap.size X X'→R v X') (hx:∀X,Below w.heap.size w X→told deps Φ X→dE P O K R X ((execOp a.eval o).run P X))
 (j:∀v,nD P ops O K w Q tail nds a ((k,R v)::Φ)):nD P ops O K w Q tail (⟨k,deps,R,true⟩::nds) a Φ:=by
 refine⟨⟨hst,fun h=>by cases h⟩,fun o' b X p f i=>⟨fun h=>(by cases h),fun _=>?_⟩,fun v=>?_⟩
 · rw[c] at b;cases b
   exact hx X (f rfl) i
 · have e:ay ops k=none:=by unfold ay;rw[c];exact m
   show nD P ops O K w Q tail nds (a.put (ay ops k) v) _;rw[e];exact j v
theorem k5 {Φ:List (Nat × (World→Prop))} (h:∀X,Grw (fun b _=>O b) w X→eN Φ X→wpList P ops Q tail a X):nD P ops O K w Q tail [] a Φ:=h
end
end Go.Proofs.YtcfdpfmchchkaaaGreatDoor
