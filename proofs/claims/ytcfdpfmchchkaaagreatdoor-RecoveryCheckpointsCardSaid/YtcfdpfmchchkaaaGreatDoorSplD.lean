/- SPL, part 7 -/
import Derived.Test.YtcfdpfmchchkaaaGreatDoorSplC
import Derived.Lib.SliceRun
import Derived.MapKept
namespace Go.Proofs.YtcfdpfmchchkaaaGreatDoor
set_option linter.unusedVariables false
set_option linter.unusedSimpArgs false
open Go.RowKit Go.Sort
variable {ds:List Deferred}
theorem kf {w X:World} (h:Grw (fun b _=>w.heap.size≤b) w X):Below w.heap.size w X:=⟨h.os,h.tape,h.output,h.size,fun b c=>h.block b c (fun h=>by omega)⟩
theorem FO {X X':World} {b K:Nat} {cs:Array Value} {T:TypeId} {O:Nat→Prop} (h:Box X b cs T) (c:cs.size≤K) (i:Kp O K X X'):Box X' b cs T:=by
 obtain⟨cs',f,e,h3⟩:=i.2 b cs T (0,0) h
 have j:cs'=cs:=by
  apply Array.ext';rw[List.take_of_length_le (by simpa [e] using c),List.take_of_length_le (ar c)] at h3;exact h3
 subst j;exact f
theorem NewB.kpK {B K:Nat} {f:Nat→Value} {cs:Array Value} {T:TypeId} {O:Nat→Prop} (j:cs.size≤K) (v:Value) (X X':World) (h:NewB B f cs T v X) (i:Kp O K X X'):NewB B f cs T v X':=by
 obtain⟨b,e,c,h3⟩:=h;exact⟨b,e,c,FO h3 j i⟩
theorem FN {X X':World} {B n sz K:Nat} {v:Value} {xs:List Value} {T:TypeId} {O:Nat→Prop} (h:X.ownsRow B T sz v n xs) (k:n*sz≤K) (j:Kp O K X X'):X'.ownsRow B T sz v n xs:=by
 obtain⟨e,b⟩:=h;refine⟨e,?_⟩;rcases b with b | ⟨g,cap,cur,e1,e2,e3,e4,e5,e6,e7⟩
 · exact .inl b
 · obtain⟨cs',i,c,f⟩:=j.2 g cur T (0,0) e3
   refine .inr ⟨g,cap,cs',e1,e2,i,e4,e5,c.trans e6,?_⟩;have:=congrArg (List.take (n*sz)) f;rw[List.take_take,List.take_take,Nat.min_eq_left k] at this;rw[this];exact e7
def OwnC (B:Nat) (T:TypeId) (sz n:Nat) (xs:List Value) (v:Value) (X:World):Prop:=OwnB B T sz n xs v X∧(n=0→∃A,v=.slice A n n)
theorem OwnC.stable {B:Nat} {T:TypeId} {sz n:Nat} {xs:List Value} (v:Value) (X X':World) (h:OwnC B T sz n xs v X) (b:Below X.heap.size X X'):OwnC B T sz n xs v X':=⟨OwnB.stable v X X' h.1 b,h.2⟩
theorem OwnB.kpK {B K:Nat} {T:TypeId} {sz n:Nat} {xs:List Value} {O:Nat→Prop} (i:n*sz≤K) (v:Value) (X X':World) (h:OwnB B T sz n xs v X) (f:Kp O K X X'):OwnB B T sz n xs v X':=by
 obtain⟨A,c,e,b⟩:=h;exact⟨A,c,e,FN b i f⟩
theorem OwnC.kpK {B K:Nat} {T:TypeId} {sz n:Nat} {xs:List Value} {O:Nat→Prop} (c:n*sz≤K) (v:Value) (X X':World) (h:OwnC B T sz n xs v X) (b:Kp O K X X'):OwnC B T sz n xs v X':=⟨OwnB.kpK c v X X' h.1 b,h.2⟩
theorem NewB.rd {B m:Nat} {cs:Array Value} {T:TypeId} {v:Value} {X:World} (h:NewB B (fun b=>.slice (some ⟨b,0,none⟩) m m) cs T v X):∃A c,v=.slice A m c∧Rd X X.heap.size A cs.toList:=by
 obtain⟨b,f,_,h3⟩:=h;exact⟨_,_,f,fun j u e=>⟨b,0,rfl,h3.lt,by rw[Nat.zero_add];exact qn h3 e⟩⟩
def AppB (B:Nat) (b:Value) (T:TypeId) (sz n:Nat) (xs:List Value) (v:Value) (X:World):Prop:=∃A c,v=.slice A n c∧X.ownsRow 0 T sz (.slice A n c) n xs∧(v.ownBlock=b.ownBlock∨∀g,v.ownBlock=some g→B≤g)
theorem jd {X X':World} {B n sz:Nat} {v:Value} {xs:List Value} {T:TypeId} (h:X.ownsRow B T sz v n xs) (e:Below X.heap.size X X'):X'.ownsRow B T sz v n xs:=by
 obtain⟨c,b⟩:=h;refine⟨c,?_⟩;rcases b with b | ⟨g,cap,cur,e1,e2,e3,e4⟩
 · exact .inl b
 · exact .inr ⟨g,cap,cur,e1,e2,(e.block g (Array.getElem?_eq_some_iff.1 e3).1).trans e3,e4⟩
theorem AppB.stable {B:Nat} {b:Value} {T:TypeId} {sz n:Nat} {xs:List Value} (v:Value) (X X':World) (h:AppB B b T sz n xs v X) (i:Below X.heap.size X X'):AppB B b T sz n xs v X':=by
 obtain⟨A,c,f,e,h3⟩:=h;exact⟨A,c,f,jd e i,h3⟩
theorem qI {X:World} {B n sz:Nat} {v:Value} {xs:List Value} {T:TypeId} (h:X.ownsRow 0 T sz v n xs) (hB:∀g,v.ownBlock=some g→B≤g):X.ownsRow B T sz v n xs:=by
 obtain⟨c,b⟩:=h;refine⟨c,?_⟩;rcases b with b | ⟨g,cap,cur,e1,e2,e3,e4⟩
 · exact .inl b
 · exact .inr ⟨g,cap,cur,e1,hB g (by rw[e1];rfl),e3,e4⟩
def IsBox (b:Nat) (T:TypeId) (cs:Array Value) (_:Value) (X:World):Prop:=Box X b cs T
theorem IsBox.stable {b:Nat} {T:TypeId} {cs:Array Value} (v:Value) (X X':World) (h:IsBox b T cs v X) (c:Below X.heap.size X X'):IsBox b T cs v X':=Box.below h c
section
variable {P:Program} {ρ:Operand→Value} {X:World}
theorem Gn {o:Oper} {s x:Operand} {t e:TypeId} {z I U:Value} {n m sz bytes B K:Nat} {xs news:List Value} (ho:o.op=.call { callee:=.builtin .append,args:=#[s,x],argTypes:=#[t,t] })
 (ht:P.underlying t=some (.slice e)) (h:(P.info? e).map (fun i=>(i.zero,i.size,i.bytes))=some (some z,sz,bytes)) (Z:z.cells.size=sz) (D:Nat.blt 0 sz=true) (Y:ρ s=I) (hx:ρ x=U)
 (hO:OwnC B e sz n xs I X) (h2:∃A c,U=.slice A m c∧Rd X X.heap.size A news) (hl:news.length=m*sz) (h1:∀u∈news,u.oneCell'=true) (J:n+m≤1000000∧bytes≤1000000) (hB:B≤X.heap.size) (hK:n≠0→K≤n*sz) :
 fU P (fun b=>B≤b) K (OwnB B e sz (n+m) (xs ++ news)) X ((execOp ρ o).run P X):=by
 obtain⟨q,hq,v,C,G⟩:=lO h;obtain⟨⟨A1,c1,rfl,f⟩,hc⟩:=hO;obtain⟨A,c,rfl,hr⟩:=h2;have H:(n+m)*bytes≤1000000*1000000:=Nat.mul_le_mul J.1 J.2
 obtain⟨v',w',p,S,k3,r⟩:=iA (P:=P) X t o.type e q z sz bytes ht hq v C G Z (Nat.lt_of_lt_of_le (Nat.lt_succ_self 0) (Nat.le_of_ble_eq_true D)) _ n xs (a6 f (Nat.zero_le _)) A m c news hl hr h1 (by unfold maxLen;omega) ab K (by
  by_cases T:n=0
  · exact .inr (hc T)
  · exact .inl (hK T))
 have y:(execOp ρ o).run P X=.ok (.value v') w':=by
  unfold execOp;simp only[ho,resolve,invoke,builtin,Sem.run_bind,Sem.run_pure,Result.andThen_ok,List.map_toArray,List.map_cons,List.map_nil,Y,hx,p]
 rw[y];have k:∀g,(Value.slice A1 n c1).ownBlock=some g→B≤g:=fun g j=>(f.lt g j).1;refine⟨k3.weaken k,?_⟩;obtain⟨W,c',rfl,_⟩:=ownsRow_form S;refine⟨W,c',rfl,qI S fun g j=>?_⟩;rcases r with r | r
 · exact k g (r▸j)
 · rw[r] at j;injection j with j;omega
theorem mw {o:Oper} {ty T:TypeId} {s y:Operand} {b j:Nat} {v:Value} {vs:List Value} {cs:Array Value} (C:o.op=.store ty s y) (hx:ρ s=.pointer (some ⟨b,j,none⟩)) (D:ρ y=v) (c:v.cells.toList=vs)
 (e:(P.info? ty).map (·.size)=some vs.length) (p:Box X b cs T) (z:vs.all (·.oneCell')=true) (t:Nat.ble (j+vs.length) cs.toList.length=true) :
 fU P (fun k=>k=b) 0 (IsBox b T (cs.toList.take j ++ vs ++ cs.toList.drop (j+vs.length)).toArray) X ((execOp ρ o).run P X):=by
 have n:j+vs.length≤cs.size:=by have:=Nat.le_of_ble_eq_true t;simpa using this
 have hst:=dC (P:=P) b T vs j 0 cs X p (ar n) (fun u I=>List.all_eq_true.1 z u I);simp only[Nat.add_zero] at hst;have r:Grw (fun k _=>k=b) X (X.setRow b (cs.toList.take j ++ vs ++ cs.toList.drop (j+vs.length)).toArray):=gI (cs:=cs) (T:=T) (fr:=(0,0)) p (by simp;omega)
 have m:(execOp ρ o).run P X=.ok .skip (X.setRow b (cs.toList.take j ++ vs ++ cs.toList.drop (j+vs.length)).toArray):=by
  cases hq:P.info? ty with
  | none=>rw[hq] at e;cases e
  | some q=>
   rw[hq] at e;have f:q.size=vs.length:=ar e
   have i:v.cells.size=vs.length:=by rw[←c];simp
   unfold execOp;simp only[C,hx,D,Instr.storeAt,Instr.sureAddr,Sem.run_bind,Sem.run_pure,Result.andThen_ok];simp[storeVar,sizeOf,typeInfo,hq,f,i,c,hst]
 rw[m];refine⟨⟨r,fun k cs' G fr H=>?_⟩,setRow_heap X b cs _ T (0,0) p⟩;obtain⟨h,x,h3⟩:=r.shape k cs' G fr H;exact⟨h,h3,x,by simp⟩
theorem nn {o:Oper} {ty T:TypeId} {f y:Operand} {b:Nat} {v:Value} {vs:List Value} {cs:Array Value} (p:o.op=.store ty f y) (hx:ρ f=.pointer (some ⟨b,0,none⟩)) (q:ρ y=v) (c:v.cells.toList=vs)
 (i:(P.info? ty).map (·.size)=some vs.length) (r:Box X b cs T) (n:vs.all (·.oneCell')=true) (m:Nat.beq vs.length cs.toList.length=true) :
 fU P (fun k=>k=b) 0 (IsBox b T vs.toArray) X ((execOp ρ o).run P X):=by
 have e:vs.length=cs.toList.length:=Nat.eq_of_beq_eq_true m;have h:=mw p hx q c i r n (j:=0) (Nat.ble_eq_true_of_le ab);rw[Nat.zero_add,e,List.drop_length,List.take_zero,List.append_nil,List.nil_append] at h;exact h
theorem yf {f:FuncId} {args:Array Value} {B b n sz:Nat} {T:TypeId} {xs:List Value} {r:Result Next} (hx:r=.ok (.enter f args) X) (j:Calls P f args X fun e X'=>∃A c,e=.returned (.slice A n c)∧(n=0→c=0)∧X'.ownsRow b T sz (.slice A n c) n xs∧Below X.heap.size X X') (hB:B≤b):cz P (OwnC B T sz n xs) X r:=by
 subst hx;exact⟨rfl,j.mono fun e X' ⟨A,c,i,k,m,p⟩=>⟨_,i,p,⟨A,c,rfl,a6 m hB⟩,fun h=>⟨A,by rw[k h,h]⟩⟩⟩
end
section
variable {M:List Nat} {w0 w X:World} {L:List Ent}
def F3:Ent:=.rd 0 0 none []
abbrev St.domAt {i:Nat} {e:Ent} (_:St M w0 w L) (_:L[i]? = some e):Nat→Prop:=e.dom
theorem St.growO {i:Nat} {e:Ent} (h:St M w0 w L) (n:L[i]? = some e) (c:Grw (fun b _=>e.dom b) w X):St M w0 X (L.set i F3):=
 h.turn n c.os c.tape c.output c.size (fun b f k=>c.block b f k) (fun j u m=>by simp at m) (fun b f=>by have p:0≤b∧b<0:=f;omega)
theorem St.growBox {i b:Nat} {v:Value} {cs cs':Array Value} {T:TypeId} (h:St M w0 w L) (f:L[i]? = some (.box b cs T)) (e:Grw (fun k _=>k=b) w X) (c:IsBox b T cs' v X):St M w0 X (L.set i (.box b cs' T)):=h.wrote f e c
theorem St.ownB {i n sz:Nat} {v:Value} {T:TypeId} {xs:List Value} (h:St [] w X L) (b:L[i]? = some (.row v n T sz xs)):X.ownsRow w.heap.size T sz v n xs:=
 qI (h.at_ b) fun g c=>((h.new _ (List.mem_of_getElem? b) g c).1).resolve_right bm
end
section
variable {P:Program} {ρ:Operand→Value} {X:World} {d:Option Tmp} {ty:TypeId} {ps:String} {af:Array Edge} {g:Option (Nat × Bool)}
theorem oI {x y:Operand} {t i e:TypeId} {A:Option Addr} {n c:Nat} (ht:P.underlying t=some (.slice e)) (b:P.eqGuardType P.depth t=false) (hx:ρ x=.slice A n c) (f:ρ y=.slice none 0 0):(execOp ρ ⟨d,.binOp .eql t x y i,ty,ps,af,g⟩).run P X=.ok (.value (.bool A.isNone)) X:=by
 have h:=Lib.run_eql_slice_nil (P:=P) X t e A n c 0 0 ht;simp[execOp,hx,f,eqGuard,b,h]
end
section
variable {P:Program} {ops:Array Oper} {rest:List Oper} {o:Oper} {a:Act} {Q:Exit→Act→World→Prop} {X:World} {N d:Nat} {l:List (Nat × Value)} {M:List Nat} {w:World} {E:List Ent}
theorem k5 {s x:Operand} {t e:TypeId} {sz b c:Nat} {A:Option Addr} (p:Has ds a N l) (j:Region.wanted o (yielded ops a.tmps)=true) (i:o.op=.call { callee:=.builtin .append,args:=#[s,x],argTypes:=#[t,t] }∧o.dst=some d) (n:Nat.blt d N=true)
 (ht:P.underlying t=some (.slice e)) (f:(P.info? e).map (·.size)=some sz) (m:a.eval s=.slice (some ⟨b,0,none⟩) 0 0) (hx:a.eval x=.slice A 0 c) (k:∀h,Has ds h N ((d,.slice (some ⟨b,0,none⟩) 0 0)::l)→wpList P ops Q rest h X):wpList P ops Q (o::rest) a X:=by
 refine aT (X':=X) (v:=.slice (some ⟨b,0,none⟩) 0 0) p j ?_ i.2 n k
 cases hq:P.info? e with
 | none=>rw[hq] at f;cases f
 | some q=>
  unfold execOp;simp[i.1,resolve,invoke,builtin,m,hx,Builtin.append_,run_underlying ht,sizeOf,typeInfo,hq,Builtin.lenOf,Builtin.firstCells,storeCells]
  cases A<;>simp[loadCells,loadCellsFrom,storeCells]
end
section
variable {P:Program} {ops:Array Oper} {rest:List Oper} {o:Oper} {a:Act} {Q:Exit→Act→World→Prop} {X:World} {N d:Nat} {l:List (Nat × Value)} {M:List Nat} {w:World} {E:List Ent}
theorem jg {f:FuncId} {args:Array Value} {B n sz:Nat} {T:TypeId} {xs:List Value} {V:Option Addr→Nat→Value} (p:Has ds a N l) (j:Region.wanted o (yielded ops a.tmps)=true) (hx:(execOp a.eval o).run P X=.ok (.enter f args) X) (t:o.dst=some d) (m:Nat.blt d N=true) (s:St M w X E)
 (q:Calls P f args X fun e X'=>∃A c,e=.returned (V A c)∧X'.ownsRow B T sz (.slice A n c) n xs∧Below X.heap.size X X') (hB:X.heap.size≤B)
 (k:∀A c h X',Has ds h N ((d,V A c)::l)→St M w X' (.row (.slice A n c) n T sz xs::E)→wpList P ops Q rest h X'):wpList P ops Q (o::rest) a X:=
 gy j fun K u=>by
  unfold Oper.wp;rw[hx];refine q.mono fun r X' ⟨A,c,hr,b,v⟩=>?_;subst hr;refine u _ _ ?_;rw[t];exact k A c _ X' (p.put m _) (s.add v (e:=.row _ _ _ _ _) (a6 b (Nat.zero_le _)) (fun g i=>⟨Nat.le_trans hB (b.lt g i).1,(b.lt g i).2⟩))
theorem gD {ι:Type} {f:FuncId} {args:Array Value} {i:Nat} {e:Ent} {c:List Nat} {V:ι→Value} {F:ι→Prop} {h:ι→Ent} (t:Has ds a N l) (n:Region.wanted o (yielded ops a.tmps)=true) (hx:(execOp a.eval o).run P X=.ok (.enter f args) X) (y:o.dst=some d) (s:Nat.blt d N=true) (v:St M w X E) (q:E[i]? = some e) (m:∀b∈c,e.dom b)
 (u:Calls P f args X fun r X'=>∃p,r=.returned (V p)∧F p∧St c X X' [h p]) (k:∀p j X',Has ds j N ((d,V p)::l)→F p→St M w X' (E.set i (h p))→wpList P ops Q rest j X'):wpList P ops Q (o::rest) a X:=
 gy n fun K z=>by
  unfold Oper.wp;rw[hx];refine u.mono fun r X' ⟨p,hr,hF,x⟩=>?_;subst hr;refine z _ _ ?_;rw[y];exact k p _ X' (t.put s _) hF (v.calledM q x m)
end
theorem wj {X:World} {B n k c sz:Nat} {A:Option Addr} {xs:List Value} {T:TypeId} (h:X.ownsRow B T sz (.slice A n c) n xs) (e:k≤n) (m:k=n∨A≠none):X.ownsRow B T sz (.slice A k c) k (xs.take (k*sz)):=by
 obtain⟨j,i⟩:=h;have b:k*sz≤n*sz:=Nat.mul_le_mul_right _ e;rcases i with ⟨e0,f⟩ | ⟨g,cap,cur,f,e2,e3,e4,e5,e6,e7⟩
 · injection e0 with a1 a2 a3
   subst a1 a2 a3
   have:k=0:=by omega
   subst this;exact⟨by simp,.inl ⟨rfl,rfl⟩⟩
 · injection f with a1 a2 a3
   subst a1 a3;refine⟨by rw[List.length_take];omega,.inr ⟨g,c,cur,rfl,e2,e3,Nat.le_trans e e4,e5,e6,?_⟩⟩;rw[←e7,List.take_take,Nat.min_eq_left b]
theorem oQ {v:Value} {n sz:Nat} {T:TypeId} {xs:List Value}:∀b∈v.ownBlock.toList,(Ent.row v n T sz xs).dom b:=fun b c=>by show v.ownBlock=some b;simpa using c
theorem AK {a b:Nat} (e:a<256) (c:b<256):bits .or .u16 (a:Int) ((b:Int)*256)=a+256*b:=by
 have h:(b:Int)*256=((256*b:Nat):Int):=by omega
 rw[h];show IntKind.u16.wrap ((BitVec.ofInt 16 (a:Int) ||| BitVec.ofInt 16 ((256*b:Nat):Int)).toNat:Int)=_;rw[BitVec.ofInt_natCast,BitVec.ofInt_natCast,BitVec.toNat_or,BitVec.toNat_ofNat,BitVec.toNat_ofNat,Nat.mod_eq_of_lt ab,Nat.mod_eq_of_lt ab,Nat.or_comm];have:=Nat.two_pow_add_eq_or_of_lt (i:=8) (b:=a) ab b;simp only[Nat.reducePow] at this;rw[←this,wrap_u16 ab];omega
theorem AM {a b:Nat} (e:a<65536) (c:b<65536):bits .or .u32 (a:Int) ((b:Int)*65536)=a+65536*b:=by
 have h:(b:Int)*65536=((65536*b:Nat):Int):=by omega
 rw[h];show IntKind.u32.wrap ((BitVec.ofInt 32 (a:Int) ||| BitVec.ofInt 32 ((65536*b:Nat):Int)).toNat:Int)=_;rw[BitVec.ofInt_natCast,BitVec.ofInt_natCast,BitVec.toNat_or,BitVec.toNat_ofNat,BitVec.toNat_ofNat,Nat.mod_eq_of_lt ab,Nat.mod_eq_of_lt ab,Nat.or_comm];have:=Nat.two_pow_add_eq_or_of_lt (i:=16) (b:=a) ab b;simp only[Nat.reducePow] at this;rw[←this,wrap_u32 ab];omega
theorem nB (m:Int):Value.int .u8 (IntKind.u8.wrap m)=bB (UInt8.ofNat (m % 256).toNat):=by
 unfold bB
 congr 1
 have Y:IntKind.u8.wrap m=m % 256:=by
  have:=wrap_u8 (n:=m % 256) ab;rw[←this];simp[IntKind.wrap,IntKind.bits,IntKind.signed]
 rw[Y]
 have Y:(m % 256).toNat<256:=by omega
 rw[UInt8.toNat_ofNat',Nat.mod_eq_of_lt Y];omega
theorem aA {r:Result Next} {v v':Value} {X:World} (b:v=v') (h:r=.ok (.value v) X):r=.ok (.value v') X:=by rw[←b];exact h
theorem iT {w X:World} {b:Nat} {l:List UInt8} (h:nC w b l) (f:Below w.heap.size w X):nC X b l:=by
 obtain⟨cs,T,fr,c,e⟩:=h;exact⟨cs,T,fr,(f.block b (Array.getElem?_eq_some_iff.1 c).1).trans c,e⟩
theorem mx {X:World} {b o i:Nat} {l:List UInt8} (h:nC X b l) (e:o+i<l.length):∀(j:Nat) (u:Value),[bB (l.getD (o+i) 0)][j]? = some u→X.cell? ⟨b,o+i*1+j,none⟩=some u:=fun j u c=>by
 have f:j<1:=(List.getElem?_eq_some_iff.1 c).1
 obtain rfl:j=0:=by omega
 injection c with c;rw[←c,Nat.mul_one,Nat.add_zero];exact uY h e
open Go.RowKit
variable {ds:List Deferred}
section
variable {P:Program} {ops:Array Oper} {rest:List Oper} {o:Oper} {a:Act} {Q:Exit→Act→World→Prop} {X:World} {N d:Nat} {l:List (Nat × Value)} {M:List Nat} {w:World} {E:List Ent}
theorem FL {ι:Type} {f:FuncId} {args:Array Value} {V:ι→Value} {F:ι→Prop} (i:Has ds a N l) (c:Region.wanted o (yielded ops a.tmps)=true) (hx:(execOp a.eval o).run P X=.ok (.enter f args) X) (n:o.dst=some d) (h:Nat.blt d N=true) (m:St M w X E)
 (j:Calls P f args X fun e X'=>∃p,e=.returned (V p)∧F p∧Below X.heap.size X X')
 (k:∀p b X',Has ds b N ((d,V p)::l)→F p→St M w X' E→wpList P ops Q rest b X'):wpList P ops Q (o::rest) a X:=
 gy c fun K q=>by
  unfold Oper.wp;rw[hx];refine j.mono fun r X' ⟨p,hr,hF,s⟩=>?_;subst hr;refine q _ _ ?_;rw[n];exact k p _ X' (i.put h _) hF (m.grow s)
end
section
variable {P:Program} {fn:Func} {R:Ending→World→Prop} {a:Act} {X:World} {N:Nat} {l:List (Nat × Value)}
end
open Go.RowKit Go.Sort
variable {ds:List Deferred}
section
variable {P:Program} {ops:Array Oper} {rest:List Oper} {o:Oper} {a:Act} {Q:Exit→Act→World→Prop} {X:World} {N d:Nat} {l:List (Nat × Value)} {M:List Nat} {w:World} {E:List Ent}
def CopB (b:Value) (T:TypeId) (sz n:Nat) (xs:List Value) (u v:Value) (X:World):Prop:=v=u∧X.ownsRow 0 T sz b n xs
theorem CopB.stable {b u:Value} {T:TypeId} {sz n:Nat} {xs:List Value} (v:Value) (X X':World) (h:CopB b T sz n xs u v X) (c:Below X.heap.size X X'):CopB b T sz n xs u v X':=⟨h.1,jd h.2 c⟩
end
theorem St.xsEq {M:List Nat} {w X:World} {L:List Ent} {i n sz:Nat} {v:Value} {T:TypeId} {xs xs':List Value} (h:St M w X L) (b:L[i]? = some (.row v n T sz xs)) (e:xs=xs'):St M w X (L.set i (.row v n T sz xs')):=by
 subst e;exact h.rowEq b rfl (h.at_ b)
theorem wrap_u64 {n:Int} (h:0≤n∧n<18446744073709551616):IntKind.u64.wrap n=n:=by
 have:IntKind.u64.wrap n=n % 18446744073709551616:=by simp[IntKind.wrap,IntKind.bits,IntKind.signed]
 rw[this];omega
def NewY (B n:Nat) (l:List UInt8) (v:Value) (X:World):Prop:=∃b,v=.slice (some ⟨b,0,none⟩) n n∧B≤b∧nC X b l
theorem NewY.stable {B n:Nat} {l:List UInt8} (v:Value) (X X':World) (h:NewY B n l v X) (f:Below X.heap.size X X'):NewY B n l v X':=by
 obtain⟨b,e,c,h3⟩:=h;exact⟨b,e,c,iT h3 f⟩
open Go.RowKit Go.Sort
section
variable {P:Program} {ρ:Operand→Value} {X:World} {d:Option Tmp} {ty:TypeId} {ps:String} {af:Array Edge} {g:Option (Nat × Bool)}
theorem ep {c:TypeId} (e:P.underlying c=some (.int .i64)) (b:Bool) (k:Int):(Instr.checkKey b 10000 c (ae k)).run P X=.ok () X:=by
 rw[show(10000:Nat)=9999+1 from rfl];unfold Instr.checkKey;simp[run_underlying e]
end
section
variable {M:List Nat} {w X X':World} {L:List Ent}
theorem St.initInv {M:List Nat} {w:World} {D:Nat→Prop} {φ:World→Prop} {st:∀X X':World,φ X→(∀b,D b→X'.heap[b]? = X.heap[b]?)→φ X'} (h:φ w) (i:∀b,D b→b∈M∧b<w.heap.size):St M w w [.inv D φ st]:=
 ⟨rfl,rfl,rfl,Nat.le_refl _,fun _ _ _=>rfl,fun e c=>by rw[List.mem_singleton.1 c];exact h,fun e c b f=>by
  rw[List.mem_singleton.1 c] at f
  exact⟨.inr (i b f).1,(i b f).2⟩,.cons (fun _ h=>by cases h) .nil⟩
end
section
variable {P:Program} {ρ:Operand→Value} {X:World} {d:Option Tmp} {ty:TypeId} {ps:String} {af:Array Edge} {g:Option (Nat × Bool)}
theorem px {x:Operand} {A:Addr} (hx:ρ x=.pointer (some A)):(execOp ρ ⟨d,.nilCheck x,ty,ps,af,g⟩).run P X=.ok (.value (.pointer (some A))) X:=by
 simp[execOp,hx]
end
section
variable {P:Program} {ops:Array Oper} {rest:List Oper} {o:Oper} {a:Act} {Q:Exit→Act→World→Prop} {X:World}
end
open Go.RowKit Go.Sort
variable {ds:List Deferred}
section
variable {M:List Nat} {w X X':World} {L:List Ent}
end
section
variable {M:List Nat} {w X X':World} {L:List Ent}
end
section
variable {P:Program} {ops:Array Oper} {rest:List Oper} {o:Oper} {a:Act} {Q:Exit→Act→World→Prop} {X:World} {N d:Nat} {l:List (Nat × Value)} {M:List Nat} {w:World} {L:List Ent}
end
section
variable {ι:Type} {V:ι→Value} {F:ι→Prop} {A B:ι→Value} {O:Nat→Prop} {K:Nat}
def PairU (V:ι→Value) (F:ι→Prop) (v:Value) (_:World):Prop:=∃p,v=V p∧F p
theorem PairU.stable (v:Value) (X X':World) (h:PairU V F v X) (_:Below X.heap.size X X'):PairU V F v X':=h
def ExtU0 (V:ι→Value) (F:ι→Prop) (v:Value) (_:World):Prop:=∃p,F p∧∃b,V p=.tuple #[v,b]
theorem ExtU0.stable (v:Value) (X X':World) (h:ExtU0 V F v X) (_:Below X.heap.size X X'):ExtU0 V F v X':=h
def ExtU1 (V:ι→Value) (F:ι→Prop) (v:Value) (_:World):Prop:=∃p,F p∧∃a,V p=.tuple #[a,v]
theorem ExtU1.stable (v:Value) (X X':World) (h:ExtU1 V F v X) (_:Below X.heap.size X X'):ExtU1 V F v X':=h
variable {P:Program} {ρ:Operand→Value} {X:World} {d:Option Tmp} {ty:TypeId} {ps:String} {af:Array Edge} {g:Option (Nat × Bool)}
end
end Go.Proofs.YtcfdpfmchchkaaaGreatDoor
