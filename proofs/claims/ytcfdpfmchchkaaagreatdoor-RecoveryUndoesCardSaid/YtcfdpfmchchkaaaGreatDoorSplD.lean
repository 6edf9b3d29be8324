/- SPL, part 7 -/
import Derived.Test.YtcfdpfmchchkaaaGreatDoorSplC
import Derived.Lib.SliceRun
import Derived.MapKept
namespace Go.Proofs.YtcfdpfmchchkaaaGreatDoor
set_option linter.unusedVariables false
set_option linter.unusedSimpArgs false
open Go.RowKit Go.Sort
variable {ds:List Deferred}
theorem jw {w X:World} (h:Grw (fun b _=>w.heap.size≤b) w X):Below w.heap.size w X:=⟨h.os,h.tape,h.output,h.size,fun b c=>h.block b c (fun h=>by omega)⟩
theorem IsVal.kp {u:Value} {O:Nat→Prop} {K:Nat} (v:Value) (X X':World) (h:IsVal u v X) (_:Kp O K X X'):IsVal u v X':=h
theorem GB {X X':World} {b K:Nat} {cs:Array Value} {T:TypeId} {O:Nat→Prop} (h:Box X b cs T) (c:cs.size≤K) (e:Kp O K X X'):Box X' b cs T:=by
 obtain⟨cs',f,j,h3⟩:=e.2 b cs T (0,0) h
 have i:cs'=cs:=by
  apply Array.ext';rw[List.take_of_length_le (by simpa [j] using c),List.take_of_length_le (al c)] at h3;exact h3
 subst i;exact f
theorem NewB.kpK {B K:Nat} {f:Nat→Value} {cs:Array Value} {T:TypeId} {O:Nat→Prop} (j:cs.size≤K) (v:Value) (X X':World) (h:NewB B f cs T v X) (c:Kp O K X X'):NewB B f cs T v X':=by
 obtain⟨b,e,i,h3⟩:=h;exact⟨b,e,i,GB h3 j c⟩
theorem GJ {X X':World} {B n sz K:Nat} {v:Value} {xs:List Value} {T:TypeId} {O:Nat→Prop} (h:X.ownsRow B T sz v n xs) (j:n*sz≤K) (i:Kp O K X X'):X'.ownsRow B T sz v n xs:=by
 obtain⟨e,b⟩:=h;refine⟨e,?_⟩;rcases b with b | ⟨g,cap,cur,e1,e2,e3,e4,e5,e6,e7⟩
 · exact .inl b
 · obtain⟨cs',c,f,k⟩:=i.2 g cur T (0,0) e3
   refine .inr ⟨g,cap,cs',e1,e2,c,e4,e5,f.trans e6,?_⟩;have:=congrArg (List.take (n*sz)) k;rw[List.take_take,List.take_take,Nat.min_eq_left j] at this;rw[this];exact e7
def OwnC (B:Nat) (T:TypeId) (sz n:Nat) (xs:List Value) (v:Value) (X:World):Prop:=OwnB B T sz n xs v X∧(n=0→∃A,v=.slice A n n)
theorem OwnC.stable {B:Nat} {T:TypeId} {sz n:Nat} {xs:List Value} (v:Value) (X X':World) (h:OwnC B T sz n xs v X) (b:Below X.heap.size X X'):OwnC B T sz n xs v X':=⟨OwnB.stable v X X' h.1 b,h.2⟩
theorem OwnB.kpK {B K:Nat} {T:TypeId} {sz n:Nat} {xs:List Value} {O:Nat→Prop} (i:n*sz≤K) (v:Value) (X X':World) (h:OwnB B T sz n xs v X) (b:Kp O K X X'):OwnB B T sz n xs v X':=by
 obtain⟨A,c,e,f⟩:=h;exact⟨A,c,e,GJ f i b⟩
theorem OwnC.kpK {B K:Nat} {T:TypeId} {sz n:Nat} {xs:List Value} {O:Nat→Prop} (c:n*sz≤K) (v:Value) (X X':World) (h:OwnC B T sz n xs v X) (b:Kp O K X X'):OwnC B T sz n xs v X':=⟨OwnB.kpK c v X X' h.1 b,h.2⟩
theorem NewB.rd {B m:Nat} {cs:Array Value} {T:TypeId} {v:Value} {X:World} (h:NewB B (fun b=>.slice (some ⟨b,0,none⟩) m m) cs T v X):∃A c,v=.slice A m c∧Rd X X.heap.size A cs.toList:=by
 obtain⟨b,e,_,h3⟩:=h;exact⟨_,_,e,fun j u f=>⟨b,0,rfl,h3.lt,by rw[Nat.zero_add];exact vH h3 f⟩⟩
def AppB (B:Nat) (b:Value) (T:TypeId) (sz n:Nat) (xs:List Value) (v:Value) (X:World):Prop:=∃A c,v=.slice A n c∧X.ownsRow 0 T sz (.slice A n c) n xs∧(v.ownBlock=b.ownBlock∨∀g,v.ownBlock=some g→B≤g)
theorem kb {X X':World} {B n sz:Nat} {v:Value} {xs:List Value} {T:TypeId} (h:X.ownsRow B T sz v n xs) (c:Below X.heap.size X X'):X'.ownsRow B T sz v n xs:=by
 obtain⟨e,b⟩:=h;refine⟨e,?_⟩;rcases b with b | ⟨g,cap,cur,e1,e2,e3,e4⟩
 · exact .inl b
 · exact .inr ⟨g,cap,cur,e1,e2,(c.block g (Array.getElem?_eq_some_iff.1 e3).1).trans e3,e4⟩
theorem AppB.stable {B:Nat} {b:Value} {T:TypeId} {sz n:Nat} {xs:List Value} (v:Value) (X X':World) (h:AppB B b T sz n xs v X) (e:Below X.heap.size X X'):AppB B b T sz n xs v X':=by
 obtain⟨A,c,f,i,h3⟩:=h;exact⟨A,c,f,kb i e,h3⟩
theorem rB {X:World} {B n sz:Nat} {v:Value} {xs:List Value} {T:TypeId} (h:X.ownsRow 0 T sz v n xs) (hB:∀g,v.ownBlock=some g→B≤g):X.ownsRow B T sz v n xs:=by
 obtain⟨c,b⟩:=h;refine⟨c,?_⟩;rcases b with b | ⟨g,cap,cur,e1,e2,e3,e4⟩
 · exact .inl b
 · exact .inr ⟨g,cap,cur,e1,hB g (by rw[e1];rfl),e3,e4⟩
def IsBox (b:Nat) (T:TypeId) (cs:Array Value) (_:Value) (X:World):Prop:=Box X b cs T
theorem IsBox.stable {b:Nat} {T:TypeId} {cs:Array Value} (v:Value) (X X':World) (h:IsBox b T cs v X) (c:Below X.heap.size X X'):IsBox b T cs v X':=Box.below h c
section
variable {P:Program} {ρ:Operand→Value} {X:World}
theorem Hj {o:Oper} {s x:Operand} {t e:TypeId} {z H J:Value} {n m sz bytes B K:Nat} {xs news:List Value} (ho:o.op=.call { callee:=.builtin .append,args:=#[s,x],argTypes:=#[t,t] })
 (ht:P.underlying t=some (.slice e)) (h:(P.info? e).map (fun i=>(i.zero,i.size,i.bytes))=some (some z,sz,bytes)) (Z:z.cells.size=sz) (C:Nat.blt 0 sz=true) (hs:ρ s=H) (hx:ρ x=J)
 (hO:OwnC B e sz n xs H X) (h2:∃A c,J=.slice A m c∧Rd X X.heap.size A news) (W:news.length=m*sz) (h1:∀u∈news,u.oneCell'=true) (T:n+m≤1000000∧bytes≤1000000) (hB:B≤X.heap.size) (hK:n≠0→K≤n*sz) :
 dE P (fun b=>B≤b) K (OwnB B e sz (n+m) (xs ++ news)) X ((execOp ρ o).run P X):=by
 obtain⟨q,hq,v,y,D⟩:=kF h;obtain⟨⟨A1,c1,rfl,f⟩,Y⟩:=hO;obtain⟨A,c,rfl,hr⟩:=h2;have U:(n+m)*bytes≤1000000*1000000:=Nat.mul_le_mul T.1 T.2
 obtain⟨v',w',p,S,k3,r⟩:=jq (P:=P) X t o.type e q z sz bytes ht hq v y D Z (Nat.lt_of_lt_of_le (Nat.lt_succ_self 0) (Nat.le_of_ble_eq_true C)) _ n xs (aZ f (Nat.zero_le _)) A m c news W hr h1 (by unfold maxLen;omega) ab K (by
  by_cases I:n=0
  · exact .inr (Y I)
  · exact .inl (hK I))
 have G:(execOp ρ o).run P X=.ok (.value v') w':=by
  unfold execOp;simp only[ho,resolve,invoke,builtin,Sem.run_bind,Sem.run_pure,Result.andThen_ok,List.map_toArray,List.map_cons,List.map_nil,hs,hx,p]
 rw[G];have k:∀g,(Value.slice A1 n c1).ownBlock=some g→B≤g:=fun g j=>(f.lt g j).1;refine⟨k3.weaken k,?_⟩;obtain⟨A',c',rfl,_⟩:=ownsRow_form S;refine⟨A',c',rfl,rB S fun g j=>?_⟩;rcases r with r | r
 · exact k g (r▸j)
 · rw[r] at j;injection j with j;omega
theorem nr {o:Oper} {ty T:TypeId} {s y:Operand} {b j:Nat} {v:Value} {vs:List Value} {cs:Array Value} (H:o.op=.store ty s y) (hx:ρ s=.pointer (some ⟨b,j,none⟩)) (C:ρ y=v) (c:v.cells.toList=vs)
 (e:(P.info? ty).map (·.size)=some vs.length) (f:Box X b cs T) (t:vs.all (·.oneCell')=true) (I:Nat.ble (j+vs.length) cs.toList.length=true) :
 dE P (fun k=>k=b) 0 (IsBox b T (cs.toList.take j ++ vs ++ cs.toList.drop (j+vs.length)).toArray) X ((execOp ρ o).run P X):=by
 have m:j+vs.length≤cs.size:=by have:=Nat.le_of_ble_eq_true I;simpa using this
 have hst:=dX (P:=P) b T vs j 0 cs X f (al m) (fun u G=>List.all_eq_true.1 t u G);simp only[Nat.add_zero] at hst;have r:Grw (fun k _=>k=b) X (X.setRow b (cs.toList.take j ++ vs ++ cs.toList.drop (j+vs.length)).toArray):=iu (cs:=cs) (T:=T) (fr:=(0,0)) f (by simp;omega)
 have p:(execOp ρ o).run P X=.ok .skip (X.setRow b (cs.toList.take j ++ vs ++ cs.toList.drop (j+vs.length)).toArray):=by
  cases hq:P.info? ty with
  | none=>rw[hq] at e;cases e
  | some q=>
   rw[hq] at e;have i:q.size=vs.length:=al e
   have h:v.cells.size=vs.length:=by rw[←c];simp
   unfold execOp;simp only[H,hx,C,Instr.storeAt,Instr.sureAddr,Sem.run_bind,Sem.run_pure,Result.andThen_ok];simp[storeVar,sizeOf,typeInfo,hq,i,h,c,hst]
 rw[p];refine⟨⟨r,fun k cs' z fr x=>?_⟩,setRow_heap X b cs _ T (0,0) f⟩;obtain⟨n,D,h3⟩:=r.shape k cs' z fr x;exact⟨n,h3,D,by simp⟩
theorem ij {o:Oper} {ty T:TypeId} {f y:Operand} {b:Nat} {v:Value} {vs:List Value} {cs:Array Value} (p:o.op=.store ty f y) (hx:ρ f=.pointer (some ⟨b,0,none⟩)) (m:ρ y=v) (c:v.cells.toList=vs)
 (r:(P.info? ty).map (·.size)=some vs.length) (n:Box X b cs T) (i:vs.all (·.oneCell')=true) (q:Nat.beq vs.length cs.toList.length=true) :
 dE P (fun k=>k=b) 0 (IsBox b T vs.toArray) X ((execOp ρ o).run P X):=by
 have e:vs.length=cs.toList.length:=Nat.eq_of_beq_eq_true q;have h:=nr p hx m c r n i (j:=0) (Nat.ble_eq_true_of_le ab);rw[Nat.zero_add,e,List.drop_length,List.take_zero,List.append_nil,List.nil_append] at h;exact h
theorem F3 {f:FuncId} {args:Array Value} {B b n sz:Nat} {T:TypeId} {xs:List Value} {r:Result Next} (hx:r=.ok (.enter f args) X) (j:Calls P f args X fun e X'=>∃A c,e=.returned (.slice A n c)∧(n=0→c=0)∧X'.ownsRow b T sz (.slice A n c) n xs∧Below X.heap.size X X') (hB:B≤b):cj P (OwnC B T sz n xs) X r:=by
 subst hx;exact⟨rfl,j.mono fun e X' ⟨A,c,i,p,m,k⟩=>⟨_,i,k,⟨A,c,rfl,aZ m hB⟩,fun h=>⟨A,by rw[p h,h]⟩⟩⟩
end
section
variable {M:List Nat} {w0 w X:World} {L:List Ent}
def GI:Ent:=.rd 0 0 none []
abbrev St.domAt {i:Nat} {e:Ent} (_:St M w0 w L) (_:L[i]? = some e):Nat→Prop:=e.dom
theorem St.growO {i:Nat} {e:Ent} (h:St M w0 w L) (n:L[i]? = some e) (c:Grw (fun b _=>e.dom b) w X):St M w0 X (L.set i GI):=
 h.turn n c.os c.tape c.output c.size (fun b f hne=>c.block b f hne) (fun j u k=>by simp at k) (fun b f=>by have m:0≤b∧b<0:=f;omega)
theorem St.growBox {i b:Nat} {v:Value} {cs cs':Array Value} {T:TypeId} (h:St M w0 w L) (e:L[i]? = some (.box b cs T)) (c:Grw (fun k _=>k=b) w X) (f:IsBox b T cs' v X):St M w0 X (L.set i (.box b cs' T)):=h.wrote e c f
theorem St.ownB {i n sz:Nat} {v:Value} {T:TypeId} {xs:List Value} (h:St [] w X L) (b:L[i]? = some (.row v n T sz xs)):X.ownsRow w.heap.size T sz v n xs:=
 rB (h.at_ b) fun g c=>((h.new _ (List.mem_of_getElem? b) g c).1).resolve_right bw
end
section
variable {P:Program} {ρ:Operand→Value} {X:World} {d:Option Tmp} {ty:TypeId} {ps:String} {af:Array Edge} {g:Option (Nat × Bool)}
theorem pN {x y:Operand} {t f e:TypeId} {A:Option Addr} {n c:Nat} (ht:P.underlying t=some (.slice e)) (b:P.eqGuardType P.depth t=false) (hx:ρ x=.slice A n c) (i:ρ y=.slice none 0 0):(execOp ρ ⟨d,.binOp .eql t x y f,ty,ps,af,g⟩).run P X=.ok (.value (.bool A.isNone)) X:=by
 have h:=Lib.run_eql_slice_nil (P:=P) X t e A n c 0 0 ht;simp[execOp,hx,i,eqGuard,b,h]
end
section
variable {P:Program} {ops:Array Oper} {rest:List Oper} {o:Oper} {a:Act} {Q:Exit→Act→World→Prop} {X:World} {N d:Nat} {l:List (Nat × Value)} {M:List Nat} {w:World} {E:List Ent}
theorem lT {s x:Operand} {t e:TypeId} {sz b c:Nat} {A:Option Addr} (j:Has ds a N l) (m:Region.wanted o (yielded ops a.tmps)=true) (f:o.op=.call { callee:=.builtin .append,args:=#[s,x],argTypes:=#[t,t] }∧o.dst=some d) (i:Nat.blt d N=true)
 (ht:P.underlying t=some (.slice e)) (h:(P.info? e).map (·.size)=some sz) (n:a.eval s=.slice (some ⟨b,0,none⟩) 0 0) (hx:a.eval x=.slice A 0 c) (k:∀a',Has ds a' N ((d,.slice (some ⟨b,0,none⟩) 0 0)::l)→wpList P ops Q rest a' X):wpList P ops Q (o::rest) a X:=by
 refine aU (X':=X) (v:=.slice (some ⟨b,0,none⟩) 0 0) j m ?_ f.2 i k
 cases hq:P.info? e with
 | none=>rw[hq] at h;cases h
 | some q=>
  unfold execOp;simp[f.1,resolve,invoke,builtin,n,hx,Builtin.append_,run_underlying ht,sizeOf,typeInfo,hq,Builtin.lenOf,Builtin.firstCells,storeCells]
  cases A<;>simp[loadCells,loadCellsFrom,storeCells]
end
section
variable {P:Program} {ops:Array Oper} {rest:List Oper} {o:Oper} {a:Act} {Q:Exit→Act→World→Prop} {X:World} {N d:Nat} {l:List (Nat × Value)} {M:List Nat} {w:World} {E:List Ent}
theorem u6 {f:FuncId} {args:Array Value} {B n sz:Nat} {T:TypeId} {xs:List Value} {V:Option Addr→Nat→Value} (p:Has ds a N l) (u:Region.wanted o (yielded ops a.tmps)=true) (hx:(execOp a.eval o).run P X=.ok (.enter f args) X) (q:o.dst=some d) (i:Nat.blt d N=true) (j:St M w X E)
 (m:Calls P f args X fun e X'=>∃A c,e=.returned (V A c)∧X'.ownsRow B T sz (.slice A n c) n xs∧Below X.heap.size X X') (hB:X.heap.size≤B)
 (k:∀A c a' X',Has ds a' N ((d,V A c)::l)→St M w X' (.row (.slice A n c) n T sz xs::E)→wpList P ops Q rest a' X'):wpList P ops Q (o::rest) a X:=
 iS u fun K t=>by
  unfold Oper.wp;rw[hx];refine m.mono fun r X' ⟨A,c,hr,b,s⟩=>?_;subst hr;refine t _ _ ?_;rw[q];exact k A c _ X' (p.put i _) (j.add s (e:=.row _ _ _ _ _) (aZ b (Nat.zero_le _)) (fun g h=>⟨Nat.le_trans hB (b.lt g h).1,(b.lt g h).2⟩))
theorem jd {ι:Type} {f:FuncId} {args:Array Value} {i:Nat} {e:Ent} {h:List Nat} {V:ι→Value} {F:ι→Prop} {c:ι→Ent} (y:Has ds a N l) (x:Region.wanted o (yielded ops a.tmps)=true) (hx:(execOp a.eval o).run P X=.ok (.enter f args) X) (u:o.dst=some d) (j:Nat.blt d N=true) (n:St M w X E) (q:E[i]? = some e) (m:∀b∈h,e.dom b)
 (t:Calls P f args X fun r X'=>∃p,r=.returned (V p)∧F p∧St h X X' [c p]) (k:∀p a' X',Has ds a' N ((d,V p)::l)→F p→St M w X' (E.set i (c p))→wpList P ops Q rest a' X'):wpList P ops Q (o::rest) a X:=
 iS x fun K v=>by
  unfold Oper.wp;rw[hx];refine t.mono fun r X' ⟨p,hr,hF,s⟩=>?_;subst hr;refine v _ _ ?_;rw[u];exact k p _ X' (y.put j _) hF (n.calledM q s m)
end
theorem uS {v:Value} {n sz:Nat} {T:TypeId} {xs:List Value}:∀b∈v.ownBlock.toList,(Ent.row v n T sz xs).dom b:=fun b c=>by show v.ownBlock=some b;simpa using c
theorem AM {a b:Nat} (e:a<256) (c:b<256):bits .or .u16 (a:Int) ((b:Int)*256)=a+256*b:=by
 have h:(b:Int)*256=((256*b:Nat):Int):=by omega
 rw[h];show IntKind.u16.wrap ((BitVec.ofInt 16 (a:Int) ||| BitVec.ofInt 16 ((256*b:Nat):Int)).toNat:Int)=_;rw[BitVec.ofInt_natCast,BitVec.ofInt_natCast,BitVec.toNat_or,BitVec.toNat_ofNat,BitVec.toNat_ofNat,Nat.mod_eq_of_lt ab,Nat.mod_eq_of_lt ab,Nat.or_comm];have:=Nat.two_pow_add_eq_or_of_lt (i:=8) (b:=a) ab b;simp only[Nat.reducePow] at this;rw[←this,wrap_u16 ab];omega
theorem Aa {a b:Nat} (e:a<65536) (c:b<65536):bits .or .u32 (a:Int) ((b:Int)*65536)=a+65536*b:=by
 have h:(b:Int)*65536=((65536*b:Nat):Int):=by omega
 rw[h];show IntKind.u32.wrap ((BitVec.ofInt 32 (a:Int) ||| BitVec.ofInt 32 ((65536*b:Nat):Int)).toNat:Int)=_;rw[BitVec.ofInt_natCast,BitVec.ofInt_natCast,BitVec.toNat_or,BitVec.toNat_ofNat,BitVec.toNat_ofNat,Nat.mod_eq_of_lt ab,Nat.mod_eq_of_lt ab,Nat.or_comm];have:=Nat.two_pow_add_eq_or_of_lt (i:=16) (b:=a) ab b;simp only[Nat.reducePow] at this;rw[←this,wrap_u32 ab];omega
theorem ou (m:Int):Value.int .u8 (IntKind.u8.wrap m)=bA (UInt8.ofNat (m % 256).toNat):=by
 unfold bA
 congr 1
 have Y:IntKind.u8.wrap m=m % 256:=by
  have:=wrap_u8 (n:=m % 256) ab;rw[←this];simp[IntKind.wrap,IntKind.bits,IntKind.signed]
 rw[Y]
 have Y:(m % 256).toNat<256:=by omega
 rw[UInt8.toNat_ofNat',Nat.mod_eq_of_lt Y];omega
theorem aA {r:Result Next} {v v':Value} {X:World} (b:v=v') (h:r=.ok (.value v) X):r=.ok (.value v') X:=by rw[←b];exact h
theorem jF {w X:World} {b:Nat} {l:List UInt8} (h:nN w b l) (e:Below w.heap.size w X):nN X b l:=by
 obtain⟨cs,T,fr,c,f⟩:=h;exact⟨cs,T,fr,(e.block b (Array.getElem?_eq_some_iff.1 c).1).trans c,f⟩
theorem mH {X:World} {b o i:Nat} {l:List UInt8} (h:nN X b l) (e:o+i<l.length):∀(j:Nat) (u:Value),[bA (l.getD (o+i) 0)][j]? = some u→X.cell? ⟨b,o+i*1+j,none⟩=some u:=fun j u c=>by
 have f:j<1:=(List.getElem?_eq_some_iff.1 c).1
 obtain rfl:j=0:=by omega
 injection c with c;rw[←c,Nat.mul_one,Nat.add_zero];exact vC h e
open Go.RowKit
variable {ds:List Deferred}
section
variable {P:Program} {ops:Array Oper} {rest:List Oper} {o:Oper} {a:Act} {Q:Exit→Act→World→Prop} {X:World} {N d:Nat} {l:List (Nat × Value)} {M:List Nat} {w:World} {E:List Ent}
theorem Hm {ι:Type} {f:FuncId} {args:Array Value} {V:ι→Value} {F:ι→Prop} (q:Has ds a N l) (n:Region.wanted o (yielded ops a.tmps)=true) (hx:(execOp a.eval o).run P X=.ok (.enter f args) X) (i:o.dst=some d) (b:Nat.blt d N=true) (c:St M w X E)
 (h:Calls P f args X fun e X'=>∃p,e=.returned (V p)∧F p∧Below X.heap.size X X')
 (k:∀p a' X',Has ds a' N ((d,V p)::l)→F p→St M w X' E→wpList P ops Q rest a' X'):wpList P ops Q (o::rest) a X:=
 iS n fun K m=>by
  unfold Oper.wp;rw[hx];refine h.mono fun r X' ⟨p,hr,hF,j⟩=>?_;subst hr;refine m _ _ ?_;rw[i];exact k p _ X' (q.put b _) hF (c.grow j)
end
section
variable {P:Program} {fn:Func} {R:Ending→World→Prop} {a:Act} {X:World} {N:Nat} {l:List (Nat × Value)}
end
open Go.RowKit Go.Sort
variable {ds:List Deferred}
section
variable {P:Program} {ops:Array Oper} {rest:List Oper} {o:Oper} {a:Act} {Q:Exit→Act→World→Prop} {X:World} {N d:Nat} {l:List (Nat × Value)} {M:List Nat} {w:World} {E:List Ent}
theorem DY {t e:TypeId} {x y:Operand} {n sz bytes:Nat} {z:Value} {zc:List Value} (ha:Has ds a N l) (hw:Region.wanted o (yielded ops a.tmps)=true) (Z:o.op=.makeSlice t x y∧o.dst=some d) (hN:Nat.blt d N=true) (ht:P.underlying t=some (.slice e)) (p:(P.info? e).map (fun i=>(i.zero,i.size,i.bytes))=some (some z,sz,bytes))
 (U:z.cells.toList=zc) (c:zc.length=sz) (hx:a.eval x=ae n) (hy:a.eval y=ae n) (hn:n*sz≤16777216∧n*bytes≤281474976710656∧n≤1000000) (Y:St M w X E)
 (k:∀b a' X',w.heap.size≤b→Has ds a' N ((d,.slice (some ⟨b,0,none⟩) n n)::l)→St M w X' (.row (.slice (some ⟨b,0,none⟩) n n) n e sz (List.replicate n zc).flatten::E)→wpList P ops Q rest a' X'):wpList P ops Q (o::rest) a X:=by
 obtain⟨q,hq,G,r,H⟩:=kF p;have j:=run_makeSlice (P:=P) (w:=X) t e q z ht hq G .i64 .i64 (n:Int) (n:Int) ab (Int.le_refl _) (by rw[r];simpa using hn.1) (by rw[H];have S:(n:Int)*(bytes:Int)≤281474976710656:=(by have:=Int.ofNat_le.2 hn.2.1;simpa using this);rw[Int.mul_comm] at S;simpa using S) ab;simp only[Int.toNat_natCast,r] at j
 have D:(madeCells z.cells (n*sz)).toList=(List.replicate n zc).flatten:=by
  have W:z.cells.size=sz:=by rw[←c,←U];simp
  unfold madeCells;rw[Array.toList_map,Array.toList_range,W];apply List.ext_getElem
  · simp[c]
  · intro k I S
    simp only[List.length_map,List.length_range] at I
    have s:0<sz:=Nat.pos_of_ne_zero fun h=>by rw[h] at I;simp at I
    rw[List.getElem_map,List.getElem_range,DZ c s]
    have u:k % sz<z.cells.size:=by rw[W];exact Nat.mod_lt _ s
    rw[getElem!_pos z.cells (k % sz) u];simp[←U]
 have f:(List.replicate n zc).flatten.length=n*sz:=by simp[c]
 have C:(madeCells z.cells (n*sz)).size=n*sz:=by rw[←Array.length_toList,D,f]
 refine aU (X':=X.alloc (.cells (madeCells z.cells (n*sz)) e)) (v:=.slice (some ⟨X.heap.size,0,none⟩) n n) ha hw ?_ Z.2 hN (fun a' J=>k X.heap.size a' _ Y.size J (Y.add (eu (Below.refl _ _) _) (e:=.row _ _ _ _ _) ?_ ?_))
 · unfold execOp
   simp only[Z.1,hx,hy,Sem.run_bind,j,Result.andThen_ok,Sem.run_pure]
 · exact⟨f,.inr ⟨X.heap.size,n,_,rfl,Nat.zero_le _,heap_alloc_new X _,Nat.le_refl _,by unfold maxLen;omega,C,by rw[D,List.take_of_length_le ab]⟩⟩
 · intro b T
   have m:some X.heap.size=some b:=T;injection m with m;subst m;simp
def CopB (b:Value) (T:TypeId) (sz n:Nat) (xs:List Value) (u v:Value) (X:World):Prop:=v=u∧X.ownsRow 0 T sz b n xs
theorem CopB.stable {b u:Value} {T:TypeId} {sz n:Nat} {xs:List Value} (v:Value) (X X':World) (h:CopB b T sz n xs u v X) (c:Below X.heap.size X X'):CopB b T sz n xs u v X':=⟨h.1,kb h.2 c⟩
end
theorem wrap_u64 {n:Int} (h:0≤n∧n<18446744073709551616):IntKind.u64.wrap n=n:=by
 have:IntKind.u64.wrap n=n % 18446744073709551616:=by simp[IntKind.wrap,IntKind.bits,IntKind.signed]
 rw[this];omega
def NewY (B n:Nat) (l:List UInt8) (v:Value) (X:World):Prop:=∃b,v=.slice (some ⟨b,0,none⟩) n n∧B≤b∧nN X b l
theorem NewY.stable {B n:Nat} {l:List UInt8} (v:Value) (X X':World) (h:NewY B n l v X) (c:Below X.heap.size X X'):NewY B n l v X':=by
 obtain⟨b,e,f,h3⟩:=h;exact⟨b,e,f,jF h3 c⟩
open Go.RowKit Go.Sort
section
variable {P:Program} {ρ:Operand→Value} {X:World} {d:Option Tmp} {ty:TypeId} {ps:String} {af:Array Edge} {g:Option (Nat × Bool)}
theorem eP {c:TypeId} (e:P.underlying c=some (.int .i64)) (b:Bool) (k:Int):(Instr.checkKey b 10000 c (ae k)).run P X=.ok () X:=by
 rw[show(10000:Nat)=9999+1 from rfl];unfold Instr.checkKey;simp[run_underlying e]
end
section
variable {M:List Nat} {w X X':World} {L:List Ent}
theorem St.initInv {M:List Nat} {w:World} {D:Nat→Prop} {φ:World→Prop} {st:∀X X':World,φ X→(∀b,D b→X'.heap[b]? = X.heap[b]?)→φ X'} (h:φ w) (i:∀b,D b→b∈M∧b<w.heap.size):St M w w [.inv D φ st]:=
 ⟨rfl,rfl,rfl,Nat.le_refl _,fun _ _ _=>rfl,fun e f=>by rw[List.mem_singleton.1 f];exact h,fun e f b c=>by
  rw[List.mem_singleton.1 f] at c
  exact⟨.inr (i b c).1,(i b c).2⟩,.cons (fun _ h=>by cases h) .nil⟩
end
section
variable {P:Program} {ρ:Operand→Value} {X:World} {d:Option Tmp} {ty:TypeId} {ps:String} {af:Array Edge} {g:Option (Nat × Bool)}
theorem qN {x:Operand} {A:Addr} (hx:ρ x=.pointer (some A)):(execOp ρ ⟨d,.nilCheck x,ty,ps,af,g⟩).run P X=.ok (.value (.pointer (some A))) X:=by
 simp[execOp,hx]
end
section
variable {P:Program} {ops:Array Oper} {rest:List Oper} {o:Oper} {a:Act} {Q:Exit→Act→World→Prop} {X:World}
end
open Go.RowKit Go.Sort
variable {ds:List Deferred}
section
variable {M:List Nat} {w X X':World} {L:List Ent}
end
section
variable {M:List Nat} {w X X':World} {L:List Ent}
end
section
variable {P:Program} {ops:Array Oper} {rest:List Oper} {o:Oper} {a:Act} {Q:Exit→Act→World→Prop} {X:World} {N d:Nat} {l:List (Nat × Value)} {M:List Nat} {w:World} {L:List Ent}
end
section
variable {ι:Type} {V:ι→Value} {F:ι→Prop} {A B:ι→Value} {O:Nat→Prop} {K:Nat}
def PairU (V:ι→Value) (F:ι→Prop) (v:Value) (_:World):Prop:=∃p,v=V p∧F p
theorem PairU.stable (v:Value) (X X':World) (h:PairU V F v X) (_:Below X.heap.size X X'):PairU V F v X':=h
theorem PairU.kp (v:Value) (X X':World) (h:PairU V F v X) (_:Kp O K X X'):PairU V F v X':=h
def ExtU0 (V:ι→Value) (F:ι→Prop) (v:Value) (_:World):Prop:=∃p,F p∧∃b,V p=.tuple #[v,b]
theorem ExtU0.stable (v:Value) (X X':World) (h:ExtU0 V F v X) (_:Below X.heap.size X X'):ExtU0 V F v X':=h
theorem ExtU0.kp (v:Value) (X X':World) (h:ExtU0 V F v X) (_:Kp O K X X'):ExtU0 V F v X':=h
def ExtU1 (V:ι→Value) (F:ι→Prop) (v:Value) (_:World):Prop:=∃p,F p∧∃a,V p=.tuple #[a,v]
theorem ExtU1.stable (v:Value) (X X':World) (h:ExtU1 V F v X) (_:Below X.heap.size X X'):ExtU1 V F v X':=h
theorem ExtU1.kp (v:Value) (X X':World) (h:ExtU1 V F v X) (_:Kp O K X X'):ExtU1 V F v X':=h
variable {P:Program} {ρ:Operand→Value} {X:World} {d:Option Tmp} {ty:TypeId} {ps:String} {af:Array Edge} {g:Option (Nat × Bool)}
end
end Go.Proofs.YtcfdpfmchchkaaaGreatDoor
