/- SPL, part 6 -/
import Derived.Test.YtcfdpfmchchkaaaGreatDoorSplB
import Derived.Lib.AppendZerosOnto
import Derived.Lib.AppendStr
namespace Go.Proofs.YtcfdpfmchchkaaaGreatDoor
set_option linter.unusedVariables false
set_option linter.unusedSimpArgs false
open Go.RowKit Go.Sort
variable {ds:List Deferred}
section
variable {P:Program}
end
section
variable {P:Program} {ops:Array Oper} {rest:List Oper} {o:Oper} {a:Act} {Q:Exit→Act→World→Prop} {X:World} {N d:Nat} {l:List (Nat × Value)} {M:List Nat} {w:World} {E:List Ent}
theorem St.initO {w:World} {B n sz:Nat} {T:TypeId} {v:Value} {xs:List Value} (h:w.ownsRow B T sz v n xs):St v.ownBlock.toList w w [.row v n T sz xs]:=
 ⟨rfl,rfl,rfl,Nat.le_refl _,fun _ _ _=>rfl,fun e c=>by rw[List.mem_singleton.1 c];exact a6 h (Nat.zero_le _),fun e c b f=>by
  rw[List.mem_singleton.1 c] at f;have i:v.ownBlock=some b:=f
  exact⟨.inr (by rw[i];simp),(h.lt b i).2⟩,.cons (fun _ h=>by cases h) .nil⟩
theorem St.calledM {w X X':World} {M p:List Nat} {L:List Ent} {i:Nat} {e j:Ent} (h:St M w X L) (q:L[i]? = some e) (c:St p X X' [j]) (n:∀b∈p,e.dom b):St M w X' (L.set i j):=
 h.turn q c.os c.tape c.output c.size (fun b k m=>c.block b k (fun hm=>m (n b hm))) (c.ok j (List.mem_singleton.2 rfl))
  (fun b k=>by
   obtain⟨f,r⟩:=c.new j (List.mem_singleton.2 rfl) b k;refine⟨?_,r⟩;rcases f with f | f
   · exact .inr f
   · exact .inl (n b f))
theorem D3 {v:Value} {X':World} (b:Region.wanted o (yielded ops a.tmps)=true) (hx:(execOp a.eval o).run P X=.ok (.value v) X') (c:o.dst=none) (k:wpList P ops Q rest a X'):wpList P ops Q (o::rest) a X:=
 gy b fun K e=>by
  unfold Oper.wp;rw[hx];exact e _ _ (by rw[c];exact k)
theorem CQ {zc:List Value} {sz:Nat} (b:zc.length=sz) (c:0<sz):∀(m k:Nat) (h:k<((List.replicate m zc).flatten).length),((List.replicate m zc).flatten)[k]'h=zc[k % sz]'(by rw[b];exact Nat.mod_lt _ c):=by
 intro m
 induction m with
 | zero=>intro k h;simp at h
 | succ m ih=>
  intro k h;simp only[List.replicate_succ,List.flatten_cons];by_cases e:k<zc.length
  · rw[List.getElem_append_left e]
    congr 1
    rw[Nat.mod_eq_of_lt ab]
  · rw[List.getElem_append_right ab,ih]
    congr 1
    rw[b,←Nat.mod_eq_sub_mod ab]
theorem pM {z:Value} {zc:List Value} {sz:Nat} (j:z.cells.toList=zc) (b:zc.length=sz) (m:Nat):(Builtin.zeroCells z.cells m).toList=(List.replicate m zc).flatten:=by
 have i:z.cells.size=sz:=by rw[←b,←j];simp
 unfold Builtin.zeroCells;rw[Array.toList_map,Array.toList_range,i];apply List.ext_getElem
 · simp[b]
 · intro k f n
   simp only[List.length_map,List.length_range] at f
   have c:0<sz:=Nat.pos_of_ne_zero fun h=>by rw[h] at f;simp at f
   rw[List.getElem_map,List.getElem_range,CQ b c]
   have e:k % sz<z.cells.size:=by rw[i];exact Nat.mod_lt _ c
   rw[getElem!_pos z.cells (k % sz) e];simp[←j]
theorem zt {x:Operand} {t e:TypeId} {g j n c m Y i sz:Nat} {zc:List Value} {xs:List Value} (ha:Has ds a N l) (Z:Region.wanted o (yielded ops a.tmps)=true) (L:o.op=.call ⟨.builtin .clear,#[x],#[t]⟩∧o.dst=none) (ht:P.underlying t=some (.slice e)) (p:((P.info? e).bind (·.zero)).map (·.cells.toList)=some zc)
 (A:zc.length=sz) (G:zc.all (·.oneCell')=true) (hx:a.eval x=.slice (some ⟨g,j,none⟩) m Y) (U:St M w X E) (V:E[i]? = some (.row (.slice (some ⟨g,0,none⟩) n c) n e sz xs)) (W:j+m*sz≤n*sz)
 (k:∀X',St M w X' (E.set i (.row (.slice (some ⟨g,0,none⟩) n c) n e sz (xs.take j ++ (List.replicate m zc).flatten ++ xs.drop (j+m*sz))))→wpList P ops Q rest a X'):wpList P ops Q (o::rest) a X:=by
 have s:X.ownsRow 0 e sz (.slice (some ⟨g,0,none⟩) n c) n xs:=U.at_ V;obtain⟨Jv,B⟩:=s;rcases B with ⟨h0,_⟩ | ⟨g',cap,cur,e1,_,hg,hcap,hm,hcs,htk⟩
 · cases h0
 injection e1 with e1 e2 e3;injection e1 with e1;injection e1 with e1 _;subst e1 e3;generalize h:(List.replicate m zc).flatten=vs at k
 have H:vs.length=m*sz:=by rw[←h];simp[A]
 rw[←H] at W k
 have h1:∀u∈vs,u.oneCell'=true:=fun u D=>by
  rw[←h] at D;obtain⟨q,C,D⟩:=List.mem_flatten.1 D;rw[List.eq_of_mem_replicate C] at D;exact List.all_eq_true.1 G u D
 have I:j+vs.length≤cur.size:=by rw[hcs];exact Nat.le_trans W (Nat.mul_le_mul_right _ hcap)
 have hst:=dC (P:=P) g e vs j 0 cur X hg (ar I) h1;simp only[Nat.add_zero] at hst
 have T:n*sz≤cur.size:=by rw[hcs];exact Nat.mul_le_mul_right _ hcap
 refine D3 (v:=.tuple #[]) (X':=X.setRow g (cur.toList.take j ++ vs ++ cur.toList.drop (j+vs.length)).toArray) Z ?_ L.2 (k _ ?_)
 · cases C:P.info? e with
   | none=>rw[C] at p;cases p
   | some q=>
    rw[C] at p
    cases hqz:q.zero with
    | none=>rw[Option.bind_some,hqz] at p;cases p
    | some z=>
     rw[Option.bind_some,hqz] at p;have R:z.cells.toList=zc:=ar p;have f:=pM R A m;rw[h] at f
     cases m with
     | zero=>
      have:vs=[]:=by rw[←h];simp
      subst this;simp[storeCells] at hst ⊢;unfold execOp;simp[L.1,resolve,invoke,builtin,hx,Builtin.clear_,run_underlying ht];exact hst
     | succ m=>
      unfold execOp;simp[L.1,resolve,invoke,builtin,hx,Builtin.clear_,run_underlying ht,zeroValue,typeInfo,C,hqz,f,hst]
 · have y:=gI (cs':=(cur.toList.take j ++ vs ++ cur.toList.drop (j+vs.length)).toArray) hg (by simp;omega)
   refine U.turn V y.os y.tape y.output y.size (fun b F S=>y.block b F (fun e=>S (by rw[e];rfl))) ⟨by simp only[List.length_append,List.length_take,List.length_drop];omega,.inr ⟨g,c,_,rfl,Nat.zero_le _,setRow_heap X g _ _ _ _ hg,hcap,hm,by simp;omega,?_⟩⟩ (fun b F=>⟨.inl F,?_⟩)
   · show(cur.toList.take j ++ vs ++ cur.toList.drop (j+vs.length)).take (n*sz)=_
     rw[←htk,List.take_append,List.take_append,List.take_of_length_le (l:=vs) (by simp;omega),List.take_take,List.take_take,List.take_drop,List.drop_take]
     have J:(cur.toList.take j ++ vs).length=j+vs.length:=by simp;omega
     rw[J,Nat.min_eq_right ab,Nat.min_eq_left ab,show j+vs.length+(n*sz-(j+vs.length))=n*sz by omega,List.drop_take]
   · have r:some g=some b:=F
     injection r with r;subst r;exact(Array.getElem?_eq_some_iff.1 (setRow_heap X g _ (cur.toList.take j ++ vs ++ cur.toList.drop (j+vs.length)).toArray _ _ hg)).1
theorem kp {f:FuncId} {args:Array Value} {i n e sz:Nat} {v:Value} {T:TypeId} {xs xs':List Value} (t:Has ds a N l) (p:Region.wanted o (yielded ops a.tmps)=true) (hx:(execOp a.eval o).run P X=.ok (.enter f args) X) (z:o.dst=some d) (s:Nat.blt d N=true) (x:St M w X E) (q:E[i]? = some (.row v n T sz xs))
 (u:Calls P f args X fun r X'=>∃A c,r=.returned (.slice A e c)∧St v.ownBlock.toList X X' [.row (.slice A e c) e T sz xs']) (k:∀h m j X',Has ds j N ((d,.slice h e m)::l)→St M w X' (E.set i (.row (.slice h e m) e T sz xs'))→wpList P ops Q rest j X'):wpList P ops Q (o::rest) a X:=
 gy p fun K B=>by
  unfold Oper.wp;rw[hx];refine u.mono fun r X' ⟨A,c,hr,y⟩=>?_;subst hr;refine B _ _ ?_;rw[z];exact k A c _ X' (t.put s _) (x.calledM q y (fun b C=>by show v.ownBlock=some b;simpa using C))
end
section
variable {P:Program} {ρ:Operand→Value} {X:World} {d:Option Tmp} {ty:TypeId} {ps:String} {af:Array Edge} {g:Option (Nat × Bool)}
theorem EA {x:Operand} {src dst e T:TypeId} {v:Value} {n:Nat} {us:List UInt8} (h:P.underlying src=some (.slice e)) (i:P.underlying e=some (.int .u8)) (p:P.underlying dst=some .string) (hx:ρ x=v) (b:X.ownsRow 0 T 1 v n (us.map bB)):(execOp ρ ⟨d,.convert src dst x,ty,ps,af,g⟩).run P X=.ok (.value (.string (bs us))) X:=by
 have k:us.length=n:=ar b.1;obtain⟨A,c,rfl,_⟩:=ownsRow_form b
 cases A with
 | some A=>
  have q:=hx;rcases b.2 with ⟨f,_⟩ | ⟨g',cap,cur,e1,_,hg,hcap,hm,hcs,htk⟩
  · cases f
  injection e1 with e1 e2 e3;injection e1 with e1;subst e1;refine yv (us:=us) (c:=c) (o':=0) h i p (by rw[hx]) k (fun j r=>?_);have m:=b.cells (g:=g') rfl j (bB us[j]) (by rw[List.getElem?_map,List.getElem?_eq_getElem r];rfl);rw[el] at m;exact m
 | none=>
  have:n=0:=by
   rcases b.2 with ⟨f,_⟩ | ⟨g',cap,cur,e1,_⟩
   · injection f
   · cases e1
  subst this;have:us=[]:=List.eq_nil_of_length_eq_zero k;subst this;unfold execOp;simp only[hx,Sem.run_bind,run_convert_bytes_string X src dst e none 0 c h i p];simp[Conv.bytesToString]
  rfl
end
open Go.RowKit Go.Sort
variable {ds:List Deferred}
def va (K:Nat) (X X':World):Prop:=∀(b:Nat) (cs:Array Value) (T:TypeId) (fr:Nat × Nat),X.heap[b]? = some (.cells cs T fr)→∃cs',X'.heap[b]? = some (.cells cs' T fr)∧cs'.size=cs.size∧cs'.toList.take K=cs.toList.take K
def Kp (O:Nat→Prop) (K:Nat) (X X':World):Prop:=Grw (fun b _=>O b) X X'∧va K X X'
theorem Kp.refl (O:Nat→Prop) (K:Nat) (X:World):Kp O K X X:=⟨Grw.refl _ _,fun b cs T fr h=>⟨cs,h,rfl,rfl⟩⟩
theorem Kp.of_below {O:Nat→Prop} {K:Nat} {X X':World} (h:Below X.heap.size X X'):Kp O K X X':=
 ⟨Grw.of_below h,fun b cs T fr c=>⟨cs,(h.block b (Array.getElem?_eq_some_iff.1 c).1).trans c,rfl,rfl⟩⟩
theorem Kp.weaken {O O':Nat→Prop} {K:Nat} {X X':World} (h:Kp O K X X') (c:∀b,O b→O' b):Kp O' K X X':=⟨h.1.weaken (fun b _ e=>c b e),h.2⟩
section
variable {P:Program}
theorem iA (w:World) (t ty e:TypeId) (i:TypeInfo) (z:Value) (size bytes:Nat) (ht:P.underlying t=some (.slice e)) (J:P.info? e=some i) (hz:i.zero=some z)
 (I:i.size=size) (Jv:i.bytes=bytes) (Y:z.cells.size=size) (V:0<size)
 (v:Value) (n:Nat) (xs:List Value) (f:w.ownsRow 0 e size v n xs)
 (A:Option Addr) (m c:Nat) (news:List Value) (C:news.length=m*size) (hr:Rd w w.heap.size A news) (h1:∀u∈news,u.oneCell'=true)
 (Za:n+m≤maxLen) (s:(n+m)*bytes≤140737488355328) (K:Nat) (U:K≤n*size∨∃B,v=.slice B n n) :
 ∃v' Z,(Builtin.append_ #[t,t] ty #[v,.slice A m c]).run P w=.ok v' Z∧Z.ownsRow 0 e size v' (n+m) (xs ++ news)∧Kp (fun b=>v.ownBlock=some b) K w Z ∧
  (v'.ownBlock=v.ownBlock∨v'.ownBlock=some w.heap.size):=by
 rcases A with _ | ad
 · have hm:news=[]:=by
    rcases news with _ | ⟨u,l⟩
    · rfl
    · obtain⟨b,o,h,_⟩:=hr 0 u rfl
      cases h
   subst hm
   have W:m=0:=by
    rcases Nat.eq_zero_or_pos m with h | h
    · exact h
    · have:=Nat.mul_pos h V
      simp at C;omega
   subst W;refine⟨v,w,?_,ar f,Kp.refl _ _ w,.inl rfl⟩;rcases f.2 with ⟨rfl,rfl⟩ | ⟨g,cap,cur,rfl,_,_,hnc,_⟩
   · simp[Builtin.append_,run_underlying ht,sizeOf,typeInfo,J,Builtin.lenOf,Builtin.firstCells]
   · simp[Builtin.append_,run_underlying ht,sizeOf,typeInfo,J,Builtin.lenOf,Builtin.firstCells,hnc,storeCells]
 have p:∀j u,news[j]? = some u→w.cell? (ad.add j)=some u:=fun j u hj=>by
  obtain⟨b,o,h,_,hc⟩:=hr j u hj;injection h with h;subst h;rw[el];exact hc
 subst I
 subst Jv
 have R:n+m≤9223372036854775807:=by simp only[maxLen] at Za;omega
 have r:(xs ++ news).length=(n+m)*i.size:=by rw[List.length_append,f.1,C,Nat.add_mul]
 have grown:∀(old:Nat),old<n+m →
  (w.drew.alloc (.cells (xs.toArray ++ news.toArray ++ Builtin.zeroCells z.cells (grownCap w (n+m) old e-(n+m))) e)).ownsRow 0 e i.size
   (.slice (some ⟨w.heap.size,0,none⟩) (n+m) (grownCap w (n+m) old e)) (n+m) (xs ++ news):=by
  intro old ho;have S:=grownCap_ge w (n+m) old e;have H:grownCap w (n+m) old e≤maxLen:=grownCap_le_maxLen w (n+m) old e Za;refine⟨r,.inr ⟨w.heap.size,_,_,rfl,Nat.zero_le _,heap_alloc_new w.drew _,S,H,?_,?_⟩⟩
  · simp only[Array.size_append,List.size_toArray,size_zeroCells,Y,f.1,C,←Nat.add_mul]
    congr 1
    omega
  · simp only[Array.toList_append,List.append_assoc]
    rw[←List.append_assoc,←r];exact List.take_left
 have F:∀ob:Obj,Below w.heap.size w (w.drew.alloc ob):=fun ob=>⟨rfl,rfl,rfl,by simp,fun k hk=>heap_alloc_old w.drew _ hk⟩;rcases f.2 with ⟨rfl,rfl⟩ | ⟨g,cap,cur,rfl,hbg,hg,hnc,H,hcs,htake⟩
 · have hx:xs=[]:=List.eq_nil_of_length_eq_zero (ar f.1)
   subst hx;by_cases hm:m=0
   · subst hm
     have hn:news=[]:=List.eq_nil_of_length_eq_zero (ar C);subst hn;refine⟨.slice none 0 0,w,?_,World.ownsRow_nil w 0 e i.size,Kp.refl _ _ w,Or.inl rfl⟩;simp[Builtin.append_,run_underlying ht,sizeOf,typeInfo,J,Builtin.lenOf,Builtin.firstCells,loadCells,loadCellsFrom]
   · have hr:=run_append_nil (P:=P) w t ty e i z ht J hz ad m c news C p ab ab (by have y:=s;simp only[Nat.zero_add] at y;omega)
     have x:=grown 0 ab;simp only[Nat.zero_add,List.nil_append,Array.empty_append] at x ⊢;exact⟨_,_,hr,x,Kp.of_below (F _),Or.inr rfl⟩
 · by_cases q:n+m≤cap
   · have L:n*i.size+news.length≤cur.size:=by rw[C,hcs,←Nat.add_mul];exact Nat.mul_le_mul_right _ q
     have hr:=run_append_room (P:=P) w t ty e i ht J g n cap cur hg ad m c news C p h1 q L
     have G:(cur.toList.take (n*i.size) ++ news ++ cur.toList.drop (n*i.size+news.length)).length=cur.size:=by
      simp only[List.length_append,List.length_take,List.length_drop,Array.length_toList];omega
     refine⟨_,_,hr,⟨r,.inr ⟨g,cap,_,rfl,hbg,setRow_heap w g cur _ e _ hg,q,H,?_,?_⟩⟩,⟨(gI hg (ar G)).weaken (fun b _ y=>by rw[y];rfl),?_⟩,Or.inl rfl⟩
     · simp only[List.size_toArray,List.length_append,List.length_take,List.length_drop,Array.length_toList]
       omega
     · rw[htake,←r]
       exact List.take_left
     · intro b cs T fr y
       by_cases D:b=g
       · subst D
         rw[hg] at y;injection y with y;injection y with e1 e2 e3;subst e1 e2 e3;refine⟨_,setRow_heap w b cur _ e _ hg,ar G,?_⟩;rcases U with U | ⟨B,hB⟩
         · simp only[List.toList_toArray]
           rw[List.take_append_of_le_length (by simp only[List.length_append,List.length_take,Array.length_toList];omega),List.take_append_of_le_length (by simp only[List.length_take,Array.length_toList];omega),List.take_take,Nat.min_eq_left U]
         · injection hB with _ _ hB
           have:m=0:=by omega
           subst this;have hn:news=[]:=List.eq_nil_of_length_eq_zero (ar C);subst hn;simp
       · exact⟨cs,(setRow_other w g b _ D).trans y,rfl,rfl⟩
   · have holds:∀j u,xs[j]? = some u→w.cell? ((⟨g,0,none⟩:Addr).add j)=some u:=f.cells (g:=g) rfl
     have hr:=run_append_grow (P:=P) w t ty e i z ht J hz ⟨g,0,none⟩ n cap xs f.1 holds ad m c news C p ab ab (growslice_fits ab s);have x:=grown cap ab;exact⟨_,_,hr,x,Kp.of_below (F _),Or.inr rfl⟩
end
def fU (P:Program) (O:Nat→Prop) (K:Nat) (R:Value→World→Prop) (X:World):Result Next→Prop
 | .ok (.value u) X'=>Kp O K X X'∧R u X'
 | .ok .skip X'=>Kp O K X X'∧R undef X'
 | .ok (.enter f args) X'=>X'=X∧Calls P f args X (fun e b=>∃v,e=.returned v∧Kp O K X b∧R v b)
 | _=>False
section
variable {P:Program} {ops:Array Oper} {Q:Exit→Act→World→Prop}
def mK (P:Program) (ops:Array Oper) (O:Nat→Prop) (K:Nat) (w:World) (Q:Exit→Act→World→Prop) (tail:List Oper):List Nd→Act→List (Nat × (World→Prop))→Prop
 | [],g,Φ=>∀X,Grw (fun b _=>O b) w X→eG Φ X→wpList P ops Q tail g X
 | d::rest,g,Φ=>((∀v X X',d.R v X→Below X.heap.size X X'→d.R v X')∧(d.st=false→∀v X X',d.R v X→Kp O K X X'→d.R v X')) ∧
  (∀o,ops[d.k]? = some o→∀X,Grw (fun b _=>O b) w X→(d.st=true→Below w.heap.size w X)→told d.deps Φ X→(d.st=false→cz P d.R X ((execOp g.eval o).run P X))∧(d.st=true→fU P O K d.R X ((execOp g.eval o).run P X))) ∧
  ∀v,mK P ops O K w Q tail rest (g.put (aU ops d.k) v) ((d.k,d.R v)::Φ)
theorem pP {O:Nat→Prop} {K m:Nat} {w:World} {tail:List Oper}:∀(nds:List Nd) (g:Act) (Φ:List (Nat × (World→Prop))),(∀d∈nds,d.st=Nat.beq d.k m)→mK P ops O K w Q tail nds g Φ→gU P ops [(m,(fun b _=>O b),va K)] w Q tail ((nds.map Nd.lift).map NdA.lift) g Φ
 | [],g,Φ,_,h=>fun X q _ y=>h X (q.weaken (fun x o ⟨p,n,c⟩=>by rw[List.mem_singleton.1 n] at c;exact c)) y
 | d::rest,g,Φ,hm,⟨⟨t,h1b⟩,s,h3⟩=>by
  have D:=hm d bm;refine⟨⟨fun v X X'=>t v X X',fun p n j _ v X X' H q=>?_,fun _ _ _ _ h=>h⟩,fun o I X q J y=>?_,fun v=>pP rest _ _ (fun x hx=>hm x (by simp[hx])) (h3 v)⟩
  · have A:=List.mem_singleton.1 n
    subst A;refine h1b ?_ v X X' H q;rw[D,Bool.eq_false_iff];exact fun e=>j (Nat.eq_of_beq_eq_true e).symm
  · have z:Grw (fun b _=>O b) w X:=q.weaken (fun x o ⟨p,n,_,c⟩=>by rw[List.mem_singleton.1 n] at c;exact c)
    obtain⟨F,G⟩:=s o I X z (fun i=>(q.weaken (O':=fun _ _=>False) (fun x o ⟨p,n,j,c⟩=>by
     rw[List.mem_singleton.1 n] at j;rw[D] at i
     exact j (Nat.eq_of_beq_eq_true i).symm)).below) y
    show fk P _ d.k d.R X ((execOp g.eval o).run P X)
    cases i:d.st with
    | false=>
     have h:=F i;generalize (execOp g.eval o).run P X=r at *
     cases r with
     | ok nx w'=>
      cases nx<;>simp only[cz] at h<;>simp only[fk]
      case value u=>exact⟨.inl h.1,h.2⟩
      case enter f args=>exact⟨h.1,h.2.mono fun e C ⟨v,t,s,h3⟩=>⟨v,t,.inl s,h3⟩⟩
     | halt x w'=>simp only[cz] at h
    | true=>
     have h:=G i;have B:m=d.k:=(Nat.eq_of_beq_eq_true (D.symm.trans i)).symm;generalize (execOp g.eval o).run P X=r at *
     cases r with
     | ok nx w'=>
      cases nx<;>simp only[fU] at h<;>simp only[fk]
      case value u=>exact⟨.inr ⟨_,List.mem_singleton.2 rfl,B,h.1⟩,h.2⟩
      case skip=>exact⟨.inr ⟨_,List.mem_singleton.2 rfl,B,h.1⟩,h.2⟩
      case enter f args=>exact⟨h.1,h.2.mono fun e C ⟨v,t,s,h3⟩=>⟨v,t,.inr ⟨_,List.mem_singleton.2 rfl,B,s⟩,h3⟩⟩
     | halt x w'=>simp only[fU] at h
theorem Cj {N m:Nat} {a:Act} {w:World} {l:List Oper} {f:List (Nat × Value)} (j:Has ds a N f) (O:Nat→Prop) (K:Nat) (fl:List Bool) (nds:List Nd)
 (h:dK P l.toArray (Grw (fun b _=>O b) w) (fun g=>mK P l.toArray O K w Q (l.drop fl.length) nds g []) (pick fl l) a)
 (hB:iq l.toArray fl fl.length N (nds.map fun d=>(d.k,d.deps))=true) (hst:nds.all (fun d=>d.st==Nat.beq d.k m)=true) :
 o9 P l Q a w:=by
 obtain⟨afin,q,n⟩:=kc _ _ h;have e:=pP (m:=m) nds afin [] (fun d r=>by simpa using List.all_eq_true.1 hst d r) n;refine nf [(m,(fun b _=>O b),va K)] fl ((nds.map Nd.lift).map NdA.lift) (by rw[j.size,List.map_map,List.map_map];exact hB) ⟨afin,?_,e⟩;exact iJ (fun X s=>s.weaken (fun x o ⟨p,i,c⟩=>by rw[List.mem_singleton.1 i] at c;exact c)) _ _ q
theorem iS {id N m:Nat} {a:Act} {w:World} {l:List Oper} {c:List (Nat × Value)} (e:Has ds a N c) (O:Nat→Prop) (K:Nat) (fl:List Bool) (nds:List Nd) (hm:P.follows .mixedOrders=true)
 (h:dK P l.toArray (Grw (fun b _=>O b) w) (fun g=>mK P l.toArray O K w Q (l.drop fl.length) nds g []) (pick fl l) a)
 (hB:iq l.toArray fl fl.length N (nds.map fun d=>(d.k,d.deps))=true) (hst:nds.all (fun d=>d.st==Nat.beq d.k m)=true) :
 (Code.region id l.toArray true).wp P Q a w:=wp_region_any hm (Cj e O K fl nds h hB hst)
variable {w:World} {tail:List Oper} {l:List (Nat × Value)} {o:Oper} {a:Act} {N d:Nat} {O:Nat→Prop} {K:Nat}
theorem yG {nds:List Nd} {k:Nat} {deps:List Nat} {R:Value→World→Prop} {Φ:List (Nat × (World→Prop))} (p:Has ds a N l) (i:ops[k]? = some o) (q:o.dst=some d) (n:Nat.blt d N=true)
 (hst:∀v X X',R v X→Below X.heap.size X X'→R v X') (hst2:∀v X X',R v X→Kp O K X X'→R v X') (hx:∀X,Grw (fun b _=>O b) w X→told deps Φ X→cz P R X ((execOp a.eval o).run P X))
 (m:∀v f,Has ds f N ((d,v)::l)→mK P ops O K w Q tail nds f ((k,R v)::Φ)):mK P ops O K w Q tail (⟨k,deps,R,false⟩::nds) a Φ:=by
 refine⟨⟨hst,fun _=>hst2⟩,fun o' c X r _ j=>⟨fun _=>?_,fun h=>by cases h⟩,fun v=>?_⟩
 · rw[i] at c;cases c
   exact hx X r j
 · have e:aU ops k=some d:=by unfold aU;rw[i];exact q
   show mK P ops O K w Q tail nds (a.put (aU ops k) v) _;rw[e];exact m v _ (p.put n v)
theorem Gh {nds:List Nd} {k:Nat} {deps:List Nat} {R:Value→World→Prop} {Φ:List (Nat × (World→Prop))} (n:Has ds a N l) (f:ops[k]? = some o) (p:o.dst=some d) (m:Nat.blt d N=true)
 (hst:∀v X X',R v X→Below X.heap.size X X'→R v X') (hx:∀X,Below w.heap.size w X→told deps Φ X→fU P O K R X ((execOp a.eval o).run P X))
 (j:∀v c,Has ds c N ((d,v)::l)→mK P ops O K w Q tail nds c ((k,R v)::Φ)):mK P ops O K w Q tail (⟨k,deps,R,true⟩::nds) a Φ:=by
 refine⟨⟨hst,fun h=>by cases h⟩,fun o' b X r q i=>⟨fun h=>(by cases h),fun _=>?_⟩,fun v=>?_⟩
 · rw[f] at b;cases b
   exact hx X (q rfl) i
 · have e:aU ops k=some d:=by unfold aU;rw[f];exact p
   show mK P ops O K w Q tail nds (a.put (aU ops k) v) _;rw[e];exact j v _ (n.put m v)
theorem jY {nds:List Nd} {k:Nat} {deps:List Nat} {R:Value→World→Prop} {Φ:List (Nat × (World→Prop))} (p:Has ds a N l) (c:ops[k]? = some o) (i:o.dst=none)
 (hst:∀v X X',R v X→Below X.heap.size X X'→R v X') (hx:∀X,Below w.heap.size w X→told deps Φ X→fU P O K R X ((execOp a.eval o).run P X))
 (j:∀v,mK P ops O K w Q tail nds a ((k,R v)::Φ)):mK P ops O K w Q tail (⟨k,deps,R,true⟩::nds) a Φ:=by
 refine⟨⟨hst,fun h=>by cases h⟩,fun o' b X n m f=>⟨fun h=>(by cases h),fun _=>?_⟩,fun v=>?_⟩
 · rw[c] at b;cases b
   exact hx X (m rfl) f
 · have e:aU ops k=none:=by unfold aU;rw[c];exact i
   show mK P ops O K w Q tail nds (a.put (aU ops k) v) _;rw[e];exact j v
theorem nh {Φ:List (Nat × (World→Prop))} (h:∀X,Grw (fun b _=>O b) w X→eG Φ X→wpList P ops Q tail a X):mK P ops O K w Q tail [] a Φ:=h
end
end Go.Proofs.YtcfdpfmchchkaaaGreatDoor
