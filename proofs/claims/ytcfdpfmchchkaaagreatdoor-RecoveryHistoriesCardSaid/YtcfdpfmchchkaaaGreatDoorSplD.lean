/-
  SPL, part 7: 'append' in regions that draw their order. No program in sight.
  Walks by steps: calls that hand back a value with facts and a row; four results.
  SPL, part 8: 'make' of rows, copies between rows. No program in sight.
  SPL, part 9: maps with numbers as keys. No program in sight.
  SPL, part 10: two entries as one, one as two. No program in sight.
-/
import Derived.Test.YtcfdpfmchchkaaaGreatDoorSplC
import Derived.Lib.SliceRun
import Derived.MapKept
namespace Go.Proofs.YtcfdpfmchchkaaaGreatDoor
set_option linter.unusedVariables false
set_option linter.unusedSimpArgs false
open Go.RowKit Go.Sort
variable {ds:List Deferred}
def OwnC (B:Nat) (T:TypeId) (sz n:Nat) (xs:List Value) (v:Value) (X:World):Prop:=OwnB B T sz n xs v X∧(n=0→∃A,v=.slice A n n)
theorem OwnC.stable {B:Nat} {T:TypeId} {sz n:Nat} {xs:List Value} (v:Value) (X X':World) (h:OwnC B T sz n xs v X) (hb:Below X.heap.size X X'):OwnC B T sz n xs v X':=⟨OwnB.stable v X X' h.1 hb,h.2⟩
theorem NewB.rd {B m:Nat} {cs:Array Value} {T:TypeId} {v:Value} {X:World} (h:NewB B (fun b=>.slice (some ⟨b,0,none⟩) m m) cs T v X):∃A c,v=.slice A m c∧Rd X X.heap.size A cs.toList:=by
 obtain⟨b,h1,_,h3⟩:=h;exact⟨_,_,h1,fun j u hj=>⟨b,0,rfl,h3.lt,by rw[Nat.zero_add];exact rO h3 hj⟩⟩
def AppB (B:Nat) (v0:Value) (T:TypeId) (sz n:Nat) (xs:List Value) (v:Value) (X:World):Prop:=∃A c,v=.slice A n c∧X.ownsRow 0 T sz (.slice A n c) n xs∧(v.ownBlock=v0.ownBlock∨∀g,v.ownBlock=some g→B≤g)
theorem gH {X X':World} {B n sz:Nat} {v:Value} {xs:List Value} {T:TypeId} (h:X.ownsRow B T sz v n xs) (hX:Below X.heap.size X X'):X'.ownsRow B T sz v n xs:=by
 obtain⟨h1,h2⟩:=h;refine⟨h1,?_⟩;rcases h2 with h2 | ⟨g,cap,cur,e1,e2,e3,e4⟩
 · exact .inl h2
 · exact .inr ⟨g,cap,cur,e1,e2,(hX.block g (Array.getElem?_eq_some_iff.1 e3).1).trans e3,e4⟩
theorem AppB.stable {B:Nat} {v0:Value} {T:TypeId} {sz n:Nat} {xs:List Value} (v:Value) (X X':World) (h:AppB B v0 T sz n xs v X) (hb:Below X.heap.size X X'):AppB B v0 T sz n xs v X':=by
 obtain⟨A,c,h1,h2,h3⟩:=h;exact⟨A,c,h1,gH h2 hb,h3⟩
theorem zy {X:World} {B n sz:Nat} {v:Value} {xs:List Value} {T:TypeId} (h:X.ownsRow 0 T sz v n xs) (hB:∀g,v.ownBlock=some g→B≤g):X.ownsRow B T sz v n xs:=by
 obtain⟨h1,h2⟩:=h;refine⟨h1,?_⟩;rcases h2 with h2 | ⟨g,cap,cur,e1,e2,e3,e4⟩
 · exact .inl h2
 · exact .inr ⟨g,cap,cur,e1,hB g (by rw[e1];rfl),e3,e4⟩
def IsBox (b:Nat) (T:TypeId) (cs:Array Value) (_:Value) (X:World):Prop:=Box X b cs T
theorem IsBox.stable {b:Nat} {T:TypeId} {cs:Array Value} (v:Value) (X X':World) (h:IsBox b T cs v X) (hb:Below X.heap.size X X'):IsBox b T cs v X':=Box.below h hb
section
variable {P:Program} {ρ:Operand→Value} {X:World}
theorem ke {o:Oper} {ty T:TypeId} {x' y:Operand} {b j:Nat} {v:Value} {vs:List Value} {cs:Array Value} (ho:o.op=.store ty x' y) (hx:ρ x'=.pointer (some ⟨b,j,none⟩)) (hy:ρ y=v) (hvs:v.cells.toList=vs)
 (hs:(P.info? ty).map (·.size)=some vs.length) (hb:Box X b cs T) (h1:vs.all (·.oneCell')=true) (hj:Nat.ble (j+vs.length) cs.toList.length=true) :
 fO P (fun k=>k=b) 0 (IsBox b T (cs.toList.take j ++ vs ++ cs.toList.drop (j+vs.length)).toArray) X ((execOp ρ o).run P X):=by
 have hle:j+vs.length≤cs.size:=by have:=Nat.le_of_ble_eq_true hj;simpa using this
 have hst:=dq (P:=P) b T vs j 0 cs X hb (by simpa using hle) (fun u hu=>List.all_eq_true.1 h1 u hu);simp only[Nat.add_zero] at hst;have hG:Grw (fun k _=>k=b) X (X.setRow b (cs.toList.take j ++ vs ++ cs.toList.drop (j+vs.length)).toArray):=gU (cs:=cs) (T:=T) (fr:=(0,0)) hb (by simp;omega)
 have hex:(execOp ρ o).run P X=.ok .skip (X.setRow b (cs.toList.take j ++ vs ++ cs.toList.drop (j+vs.length)).toArray):=by
  cases hq:P.info? ty with
  | none=>rw[hq] at hs;cases hs
  | some q=>
   rw[hq] at hs
   have hsz:q.size=vs.length:=by simpa using hs
   have hcs:v.cells.size=vs.length:=by rw[←hvs];simp
   unfold execOp;simp only[ho,hx,hy,Instr.storeAt,Instr.sureAddr,Sem.run_bind,Sem.run_pure,Result.andThen_ok];simp[storeVar,sizeOf,typeInfo,hq,hsz,hcs,hvs,hst]
 rw[hex];refine⟨⟨hG,fun k cs' T' fr hk=>?_⟩,setRow_heap X b cs _ T (0,0) hb⟩;obtain⟨cs2,h2,h3⟩:=hG.shape k cs' T' fr hk;exact⟨cs2,h3,h2,by simp⟩
theorem u4 {o:Oper} {ty T:TypeId} {x' y:Operand} {b:Nat} {v:Value} {vs:List Value} {cs:Array Value} (ho:o.op=.store ty x' y) (hx:ρ x'=.pointer (some ⟨b,0,none⟩)) (hy:ρ y=v) (hvs:v.cells.toList=vs)
 (hs:(P.info? ty).map (·.size)=some vs.length) (hb:Box X b cs T) (h1:vs.all (·.oneCell')=true) (hj:Nat.beq vs.length cs.toList.length=true) :
 fO P (fun k=>k=b) 0 (IsBox b T vs.toArray) X ((execOp ρ o).run P X):=by
 have e:vs.length=cs.toList.length:=Nat.eq_of_beq_eq_true hj;have h:=ke ho hx hy hvs hs hb h1 (j:=0) (Nat.ble_eq_true_of_le ab);rw[Nat.zero_add,e,List.drop_length,List.take_zero,List.append_nil,List.nil_append] at h;exact h
end
section
variable {M:List Nat} {w0 w X:World} {L:List Ent}
def C6:Ent:=.rd 0 0 none []
abbrev St.domAt {i:Nat} {e:Ent} (_:St M w0 w L) (_:L[i]? = some e):Nat→Prop:=e.dom
theorem St.growO {i:Nat} {e:Ent} (h:St M w0 w L) (hi:L[i]? = some e) (hX:Grw (fun b _=>e.dom b) w X):St M w0 X (L.set i C6):=
 h.turn hi hX.os hX.tape hX.output hX.size (fun b hb hne=>hX.block b hb hne) (fun j u hj=>by simp at hj) (fun b hb=>by have hb':0≤b∧b<0:=hb;omega)
theorem St.growBox {i b:Nat} {v:Value} {cs cs':Array Value} {T:TypeId} (h:St M w0 w L) (hi:L[i]? = some (.box b cs T)) (hX:Grw (fun k _=>k=b) w X) (hq:IsBox b T cs' v X):St M w0 X (L.set i (.box b cs' T)):=h.wrote hi hX hq
theorem St.ownB {i n sz:Nat} {v:Value} {T:TypeId} {xs:List Value} (h:St [] w X L) (hi:L[i]? = some (.row v n T sz xs)):X.ownsRow w.heap.size T sz v n xs:=
 zy (h.at_ hi) fun g hg=>((h.new _ (List.mem_of_getElem? hi) g hg).1).resolve_right a7
end
section
variable {P:Program} {ρ:Operand→Value} {X:World} {d:Option Tmp} {ty:TypeId} {ps:String} {af:Array Edge} {g:Option (Nat × Bool)}
theorem uQ {x y:Operand} {t t' e:TypeId} {A:Option Addr} {n c:Nat} (ht:P.underlying t=some (.slice e)) (hgd:P.eqGuardType P.depth t=false) (hx:ρ x=.slice A n c) (hy:ρ y=.slice none 0 0):(execOp ρ ⟨d,.binOp .eql t x y t',ty,ps,af,g⟩).run P X=.ok (.value (.bool A.isNone)) X:=by
 have h:=Lib.run_eql_slice_nil (P:=P) X t e A n c 0 0 ht;simp[execOp,hx,hy,eqGuard,hgd,h]
end
section
variable {P:Program} {ops:Array Oper} {rest:List Oper} {o:Oper} {a:Act} {Q:Exit→Act→World→Prop} {X:World} {N d:Nat} {l:List (Nat × Value)} {M:List Nat} {w:World} {E:List Ent}
theorem mo {s x:Operand} {t e:TypeId} {sz b c:Nat} {A:Option Addr} (ha:Has ds a N l) (hw:Region.wanted o (yielded ops a.tmps)=true) (ho:o.op=.call { callee:=.builtin .append,args:=#[s,x],argTypes:=#[t,t] }∧o.dst=some d) (hN:Nat.blt d N=true)
 (ht:P.underlying t=some (.slice e)) (hs:(P.info? e).map (·.size)=some sz) (hv:a.eval s=.slice (some ⟨b,0,none⟩) 0 0) (hx:a.eval x=.slice A 0 c) (k:∀a',Has ds a' N ((d,.slice (some ⟨b,0,none⟩) 0 0)::l)→wpList P ops Q rest a' X):wpList P ops Q (o::rest) a X:=by
 refine aI (X':=X) (v:=.slice (some ⟨b,0,none⟩) 0 0) ha hw ?_ ho.2 hN k
 cases hq:P.info? e with
 | none=>rw[hq] at hs;cases hs
 | some q=>
  unfold execOp;simp[ho.1,resolve,invoke,builtin,hv,hx,Builtin.append_,run_underlying ht,sizeOf,typeInfo,hq,Builtin.lenOf,Builtin.firstCells,storeCells]
  cases A<;>simp[loadCells,loadCellsFrom,storeCells]
end
section
variable {P:Program} {ops:Array Oper} {rest:List Oper} {o:Oper} {a:Act} {Q:Exit→Act→World→Prop} {X:World} {N d:Nat} {l:List (Nat × Value)} {M:List Nat} {w:World} {E:List Ent}
theorem uc {f:FuncId} {args:Array Value} {B n sz:Nat} {T:TypeId} {xs:List Value} {V:Option Addr→Nat→Value} (ha:Has ds a N l) (hw:Region.wanted o (yielded ops a.tmps)=true) (hx:(execOp a.eval o).run P X=.ok (.enter f args) X) (hd:o.dst=some d) (hN:Nat.blt d N=true) (hS:St M w X E)
 (hc:Calls P f args X fun e X'=>∃A c,e=.returned (V A c)∧X'.ownsRow B T sz (.slice A n c) n xs∧Below X.heap.size X X') (hB:X.heap.size≤B)
 (k:∀A c a' X',Has ds a' N ((d,V A c)::l)→St M w X' (.row (.slice A n c) n T sz xs::E)→wpList P ops Q rest a' X'):wpList P ops Q (o::rest) a X:=
 fP hw fun K hK=>by
  unfold Oper.wp;rw[hx];refine hc.mono fun r X' ⟨A,c,hr,ho,hb⟩=>?_;subst hr;refine hK _ _ ?_;rw[hd];exact k A c _ X' (ha.put hN _) (hS.add hb (e:=.row _ _ _ _ _) (bW ho (Nat.zero_le _)) (fun g hg=>⟨Nat.le_trans hB (ho.lt g hg).1,(ho.lt g hg).2⟩))
theorem fM {ι:Type} {f:FuncId} {args:Array Value} {i:Nat} {e:Ent} {M':List Nat} {V:ι→Value} {F:ι→Prop} {e':ι→Ent} (ha:Has ds a N l) (hw:Region.wanted o (yielded ops a.tmps)=true) (hx:(execOp a.eval o).run P X=.ok (.enter f args) X) (hd:o.dst=some d) (hN:Nat.blt d N=true) (hS:St M w X E) (hi:E[i]? = some e) (hM:∀b∈M',e.dom b)
 (hc:Calls P f args X fun r X'=>∃p,r=.returned (V p)∧F p∧St M' X X' [e' p]) (k:∀p a' X',Has ds a' N ((d,V p)::l)→F p→St M w X' (E.set i (e' p))→wpList P ops Q rest a' X'):wpList P ops Q (o::rest) a X:=
 fP hw fun K hK=>by
  unfold Oper.wp;rw[hx];refine hc.mono fun r X' ⟨p,hr,hF,hU⟩=>?_;subst hr;refine hK _ _ ?_;rw[hd];exact k p _ X' (ha.put hN _) hF (hS.calledM hi hU hM)
end
theorem qh {v:Value} {n sz:Nat} {T:TypeId} {xs:List Value}:∀b∈v.ownBlock.toList,(Ent.row v n T sz xs).dom b:=fun b hb=>by show v.ownBlock=some b;simpa using hb
theorem vY {a b:Nat} (ha:a<256) (hb:b<256):bits .or .u16 (a:Int) ((b:Int)*256)=a+256*b:=by
 have h:(b:Int)*256=((256*b:Nat):Int):=by omega
 rw[h];show IntKind.u16.wrap ((BitVec.ofInt 16 (a:Int) ||| BitVec.ofInt 16 ((256*b:Nat):Int)).toNat:Int)=_;rw[BitVec.ofInt_natCast,BitVec.ofInt_natCast,BitVec.toNat_or,BitVec.toNat_ofNat,BitVec.toNat_ofNat,Nat.mod_eq_of_lt ab,Nat.mod_eq_of_lt ab,Nat.or_comm];have:=Nat.two_pow_add_eq_or_of_lt (i:=8) (b:=a) ab b;simp only[Nat.reducePow] at this;rw[←this,wrap_u16 ab];omega
theorem wy {a b:Nat} (ha:a<65536) (hb:b<65536):bits .or .u32 (a:Int) ((b:Int)*65536)=a+65536*b:=by
 have h:(b:Int)*65536=((65536*b:Nat):Int):=by omega
 rw[h];show IntKind.u32.wrap ((BitVec.ofInt 32 (a:Int) ||| BitVec.ofInt 32 ((65536*b:Nat):Int)).toNat:Int)=_;rw[BitVec.ofInt_natCast,BitVec.ofInt_natCast,BitVec.toNat_or,BitVec.toNat_ofNat,BitVec.toNat_ofNat,Nat.mod_eq_of_lt ab,Nat.mod_eq_of_lt ab,Nat.or_comm];have:=Nat.two_pow_add_eq_or_of_lt (i:=16) (b:=a) ab b;simp only[Nat.reducePow] at this;rw[←this,wrap_u32 ab];omega
theorem k9 (m:Int):Value.int .u8 (IntKind.u8.wrap m)=bb (UInt8.ofNat (m % 256).toNat):=by
 unfold bb
 congr 1
 have Y:IntKind.u8.wrap m=m % 256:=by
  have:=wrap_u8 (n:=m % 256) ab;rw[←this];simp[IntKind.wrap,IntKind.bits,IntKind.signed]
 rw[Y]
 have Y:(m % 256).toNat<256:=by omega
 rw[UInt8.toNat_ofNat',Nat.mod_eq_of_lt Y];omega
theorem aw {r:Result Next} {v v':Value} {X:World} (hv:v=v') (h:r=.ok (.value v) X):r=.ok (.value v') X:=by rw[←hv];exact h
theorem gl {w X:World} {b:Nat} {l:List UInt8} (h:kC w b l) (hX:Below w.heap.size w X):kC X b l:=by
 obtain⟨cs,T,fr,h1,h2⟩:=h;exact⟨cs,T,fr,(hX.block b (Array.getElem?_eq_some_iff.1 h1).1).trans h1,h2⟩
theorem jQ {X:World} {b o i:Nat} {l:List UInt8} (h:kC X b l) (hi:o+i<l.length):∀(j:Nat) (u:Value),[bb (l.getD (o+i) 0)][j]? = some u→X.cell? ⟨b,o+i*1+j,none⟩=some u:=fun j u hu=>by
 have hj:j<1:=(List.getElem?_eq_some_iff.1 hu).1
 obtain rfl:j=0:=by omega
 injection hu with hu;rw[←hu,Nat.mul_one,Nat.add_zero];exact rJ h hi
open Go.RowKit
variable {ds:List Deferred}
section
variable {P:Program} {ops:Array Oper} {rest:List Oper} {o:Oper} {a:Act} {Q:Exit→Act→World→Prop} {X:World} {N d:Nat} {l:List (Nat × Value)} {M:List Nat} {w:World} {E:List Ent}
theorem B2 {ι:Type} {f:FuncId} {args:Array Value} {V:ι→Value} {F:ι→Prop} (ha:Has ds a N l) (hw:Region.wanted o (yielded ops a.tmps)=true) (hx:(execOp a.eval o).run P X=.ok (.enter f args) X) (hd:o.dst=some d) (hN:Nat.blt d N=true) (hS:St M w X E)
 (hc:Calls P f args X fun e X'=>∃p,e=.returned (V p)∧F p∧Below X.heap.size X X')
 (k:∀p a' X',Has ds a' N ((d,V p)::l)→F p→St M w X' E→wpList P ops Q rest a' X'):wpList P ops Q (o::rest) a X:=
 fP hw fun K hK=>by
  unfold Oper.wp;rw[hx];refine hc.mono fun r X' ⟨p,hr,hF,hb⟩=>?_;subst hr;refine hK _ _ ?_;rw[hd];exact k p _ X' (ha.put hN _) hF (hS.grow hb)
end
section
variable {P:Program} {fn:Func} {R:Ending→World→Prop} {a:Act} {X:World} {N:Nat} {l:List (Nat × Value)}
end
open Go.RowKit Go.Sort
variable {ds:List Deferred}
section
variable {P:Program} {ops:Array Oper} {rest:List Oper} {o:Oper} {a:Act} {Q:Exit→Act→World→Prop} {X:World} {N d:Nat} {l:List (Nat × Value)} {M:List Nat} {w:World} {E:List Ent}
def CopB (v0:Value) (T:TypeId) (sz n:Nat) (xs:List Value) (u v:Value) (X:World):Prop:=v=u∧X.ownsRow 0 T sz v0 n xs
theorem CopB.stable {v0 u:Value} {T:TypeId} {sz n:Nat} {xs:List Value} (v:Value) (X X':World) (h:CopB v0 T sz n xs u v X) (hb:Below X.heap.size X X'):CopB v0 T sz n xs u v X':=⟨h.1,gH h.2 hb⟩
end
theorem wrap_u64 {n:Int} (h:0≤n∧n<18446744073709551616):IntKind.u64.wrap n=n:=by
 have:IntKind.u64.wrap n=n % 18446744073709551616:=by simp[IntKind.wrap,IntKind.bits,IntKind.signed]
 rw[this];omega
def NewY (B n:Nat) (l:List UInt8) (v:Value) (X:World):Prop:=∃b,v=.slice (some ⟨b,0,none⟩) n n∧B≤b∧kC X b l
theorem NewY.stable {B n:Nat} {l:List UInt8} (v:Value) (X X':World) (h:NewY B n l v X) (hb:Below X.heap.size X X'):NewY B n l v X':=by
 obtain⟨b,h1,h2,h3⟩:=h;exact⟨b,h1,h2,gl h3 hb⟩
open Go.RowKit Go.Sort
section
variable {P:Program} {ρ:Operand→Value} {X:World} {d:Option Tmp} {ty:TypeId} {ps:String} {af:Array Edge} {g:Option (Nat × Bool)}
theorem dA {kt:TypeId} (hk:P.underlying kt=some (.int .i64)) (b:Bool) (k:Int):(Instr.checkKey b 10000 kt (.int .i64 k)).run P X=.ok () X:=by
 rw[show(10000:Nat)=9999+1 from rfl];unfold Instr.checkKey;simp[run_underlying hk]
end
section
variable {M:List Nat} {w X X':World} {L:List Ent}
theorem St.initInv {M:List Nat} {w:World} {D:Nat→Prop} {φ:World→Prop} {st:∀X X':World,φ X→(∀b,D b→X'.heap[b]? = X.heap[b]?)→φ X'} (h:φ w) (hD:∀b,D b→b∈M∧b<w.heap.size):St M w w [.inv D φ st]:=
 ⟨rfl,rfl,rfl,Nat.le_refl _,fun _ _ _=>rfl,fun e he=>by rw[List.mem_singleton.1 he];exact h,fun e he b hb=>by
  rw[List.mem_singleton.1 he] at hb
  exact⟨.inr (hD b hb).1,(hD b hb).2⟩,.cons (fun _ h=>by cases h) .nil⟩
end
section
variable {P:Program} {ρ:Operand→Value} {X:World} {d:Option Tmp} {ty:TypeId} {ps:String} {af:Array Edge} {g:Option (Nat × Bool)}
theorem mJ {x:Operand} {A:Addr} (hx:ρ x=.pointer (some A)):(execOp ρ ⟨d,.nilCheck x,ty,ps,af,g⟩).run P X=.ok (.value (.pointer (some A))) X:=by
 simp[execOp,hx]
end
section
variable {P:Program} {ops:Array Oper} {rest:List Oper} {o:Oper} {a:Act} {Q:Exit→Act→World→Prop} {X:World}
end
open Go.RowKit Go.Sort
variable {ds:List Deferred}
section
variable {M:List Nat} {w X X':World} {L:List Ent}
end
section
variable {M:List Nat} {w X X':World} {L:List Ent}
end
section
variable {P:Program} {ops:Array Oper} {rest:List Oper} {o:Oper} {a:Act} {Q:Exit→Act→World→Prop} {X:World} {N d:Nat} {l:List (Nat × Value)} {M:List Nat} {w:World} {L:List Ent}
end
section
variable {ι:Type} {V:ι→Value} {F:ι→Prop} {A B:ι→Value} {O:Nat→Prop} {K:Nat}
def PairU (V:ι→Value) (F:ι→Prop) (v:Value) (_:World):Prop:=∃p,v=V p∧F p
theorem PairU.stable (v:Value) (X X':World) (h:PairU V F v X) (_:Below X.heap.size X X'):PairU V F v X':=h
def ExtU0 (V:ι→Value) (F:ι→Prop) (v:Value) (_:World):Prop:=∃p,F p∧∃b,V p=.tuple #[v,b]
theorem ExtU0.stable (v:Value) (X X':World) (h:ExtU0 V F v X) (_:Below X.heap.size X X'):ExtU0 V F v X':=h
def ExtU1 (V:ι→Value) (F:ι→Prop) (v:Value) (_:World):Prop:=∃p,F p∧∃a,V p=.tuple #[a,v]
theorem ExtU1.stable (v:Value) (X X':World) (h:ExtU1 V F v X) (_:Below X.heap.size X X'):ExtU1 V F v X':=h
variable {P:Program} {ρ:Operand→Value} {X:World} {d:Option Tmp} {ty:TypeId} {ps:String} {af:Array Edge} {g:Option (Nat × Bool)}
end
end Go.Proofs.YtcfdpfmchchkaaaGreatDoor
