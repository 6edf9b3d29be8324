/-
  Chapter 22: transactions that are undone.
  Chapter 22: a store into one of the boxes of losers.
  Chapter 22: the one with the most to undo.
  Chapter 22: a callee that turns some entries of its caller's.
  Chapter 22, plain: undoing over a function that takes.
  Chapter 22: undo, over a taker.
-/
import Derived.Test.YtcfdpfmchchkaaaGreatDoorRcI
namespace Go.Proofs.YtcfdpfmchchkaaaGreatDoor
set_option maxHeartbeats 1000000
set_option maxRecDepth 4000
set_option linter.unusedVariables false
set_option linter.unusedSimpArgs false
open Go.RowKit Go.Sort Go.Shelf
structure Lsr where
 i:Int
 l:Int
 u:Int
def fc (x:Lsr):Array Value:=#[.int .i64 x.i,.int .i64 x.l,.int .i64 x.u]
def ez (x:Nat × Lsr):Value:=.pointer (some ⟨x.1,0,none⟩)
def eG (xs:List (Nat × Lsr)):Ent:=
 .inv (fun b=>∃x∈xs,x.1=b) (fun X=>(∀x∈xs,Box X x.1 (fc x.2) 273)∧(xs.map Prod.fst).Nodup)
  (fun X X' h hb=>⟨fun x hx=>(hb x.1 ⟨x,hx,rfl⟩).trans (h.1 x hx),h.2⟩)
theorem St.perm {M:List Nat} {w X:World} {L L':List Ent} (h:St M w X L) (hp:L'.Perm L):St M w X L':=
 ⟨h.os,h.tape,h.output,h.size,h.block,fun e he=>h.ok e (hp.mem_iff.1 he),fun e he=>h.new e (hp.mem_iff.1 he),(hp.pairwise_iff (fun {x y} hxy b hb hb'=>hxy b hb' hb)).2 h.sep⟩
def jD (l:List Trn):List Lsr:=(l.filter fun x=>!x.c).map fun x=>⟨x.i,x.l,x.u⟩
theorem vr (l:List Trn) {j:Nat} (hj:j<l.length):jD (l.take (j+1))=if l[j].c=true then jD (l.take j) else jD (l.take j) ++ [⟨l[j].i,l[j].l,l[j].u⟩]:=by
 unfold jD;rw[List.take_succ_eq_append_getElem hj,List.filter_append,List.filter_cons]
 cases h:l[j].c with
 | true=>simp
 | false=>simp
theorem St.swap2 {M:List Nat} {w X:World} {a b c:Ent} {L:List Ent} (h:St M w X (a::b::c::L)):St M w X (a::c::b::L):=h.perm (List.Perm.cons _ (List.Perm.swap _ _ _))
structure LosS where
 j:Nat
 n:Nat
 xs:List (Nat × Lsr)
 A:Option Addr
 c:Nat
theorem AH {M:List Nat} {w X:World} {b:Nat} {x:Lsr} {xs:List (Nat × Lsr)} {L:List Ent} (h:St M w X (.box b (fc x) 273::eG xs::L)):St M w X (eG (xs ++ [(b,x)])::L):=by
 have k1:=h.at_ (i:=0) rfl;have k2:=h.at_ (i:=1) rfl;refine h.fuse2 (fun b' hb'=>?_) ⟨fun y hy=>?_,?_⟩
 · obtain⟨y,hy,rfl⟩:=hb'
   rcases List.mem_append.1 hy with hy | hy
   · exact .inr ⟨y,hy,rfl⟩
   · rw[List.mem_singleton.1 hy];exact .inl rfl
 · rcases List.mem_append.1 hy with hy | hy
   · exact k2.1 y hy
   · rw[List.mem_singleton.1 hy];exact k1
 · rw[List.map_append,List.nodup_append]
   refine⟨k2.2,by simp,fun a ha b' hb' e=>?_⟩
   have hb2:b'=b:=by simpa using hb'
   obtain⟨y,hy,hya⟩:=List.mem_map.1 ha;exact(List.pairwise_cons.1 h.sep).1 (eG xs) (List.mem_cons_self) b rfl ⟨y,hy,by rw[hya,e,hb2]⟩
theorem tu (t:Tbl) (A:Option Addr) (c:Nat) (B:Option Addr) (d:Nat) (w:World) (hr:Rd w w.heap.size A (t.ts.flatMap cd)) (hl:t.ts.length≤1000) :
 Calls Tryz.prog 123 #[cv t A c B d] w fun e w'=>∃i:List (Nat × Lsr) × Option Addr × Nat,e=.returned (.slice i.2.1 i.1.length i.2.2)∧i.1.map Prod.snd=jD t.ts∧St [] w w' [.row (.slice i.2.1 i.1.length i.2.2) i.1.length 233 1 (i.1.map ez),eG i.1]:=by
 refine al (N:=29) Tryz.func123 rfl rfl rfl (fun _ Y=>?_);have Z:=St.init w;refine ah (ao ?_);refine nb Y rfl rfl Z fun b1 _ X1 Zj Y Z=>?_;refine GO 6 ?_;intro _ Y;have Z:=Z.nilRow 233 1;have Z:St [] w X1 [.row (.slice none 0 0) 0 233 1 [],eG [],.box b1 (cv t A c B d).cells 25]:=St.perm (L:=[eG [],.row (.slice none 0 0) 0 233 1 [],.box b1 (cv t A c B d).cells 25]) (Z.add (Below.refl _ _) (e:=eG []) ⟨fun x hx=>(by cases hx),List.nodup_nil⟩ (fun b hb=>by obtain⟨x,hx,_⟩:=hb;cases hx)) (List.Perm.swap _ _ _);replace Z:=Z;refine GO 12 ?_;intro _ Y;refine aY Y Z [8,7,2] (fun (q:LosS)=>[(9,.int .i64 (q.j:Nat)),(3,.slice q.A q.n q.c)]) (fun (q:LosS)=>q.j≤t.ts.length∧q.xs.map Prod.snd=jD (t.ts.take q.j)∧q.xs.length=q.n∧q.n≤q.j) (fun q _=>[.row (.slice q.A q.n q.c) q.n 233 1 (q.xs.map ez),eG q.xs,.box b1 (cv t A c B d).cells 25]) (fun (q:LosS)=>t.ts.length-q.j) (⟨0,0,[],none,0⟩) (⟨Nat.zero_le _,rfl,rfl,Nat.le_refl _⟩) bz (Z) ?_;intro q _ _ Ze Y Z;refine GO 6 ?_;intro _ Y;refine ak (Y.ev rfl) (fun Zc=>?_) (fun Zc=>?_)
 ·
  have hlt:q.j<t.ts.length:=by have:=of_decide_eq_true Zc;omega
  obtain⟨b,o,rfl,hB,_⟩:=hr.opened (aK cy aq ab);have htk:=vr t.ts hlt;obtain⟨Zf,Za,Zb,Zg⟩:=Ze;refine wp_skip (ag (ah (wp_block (ah (ao ?_)))));refine sv Y (au (i:=q.j) (sz:=4) Tryz.underlying22 aa (Y.ev rfl) (Y.ev rfl) ab ab rfl) fun _ Y=>?_;refine sv (v:=eV t.ts[q.j]) Y (ai aa aa (Y.ev rfl) (aW cy (Z.rd0 hr) hlt)) fun _ Y=>?_;refine na (.agg #[.int .i64 0,.int .i64 0,.int .i64 0,.bool false]) Y rfl Z fun b5 _ _ Zk Y Z=>?_;refine sw Y Z 0 fun _ Z=>?_;refine GO 9 ?_;intro _ Y;refine ak (Y.ev rfl) (fun Zd=>?_) (fun Zd=>?_)
  ·
   have hcf:t.ts[q.j].c=false:=by simpa using Zd
   rw[if_neg (by rw[hcf];decide)] at htk;refine GO 8 ?_;intro _ Y;refine sv Y (ay (zs:=[.int .i64 0,.int .i64 0,.int .i64 0]) (pl:=[(0,1),(1,1),(2,1)]) aa aa (Y.evs2 rfl) rfl rfl) fun _ Y=>?_;refine nb Y rfl rfl Z fun b24 _ _ Zh Y Z=>?_;refine bw Y (wn rfl) (f:=fun b=>.slice (some ⟨b,0,none⟩) 1 1) (aX Tryz.underlying209 aa aa (Y.evs2 rfl) rfl rfl rfl aq aq) rfl rfl Z fun b25 _ _ Zi Y Z=>?_;refine bG (z:=.pointer none) (sz:=1) (bytes:=8) Y (wn rfl) ⟨rfl,rfl⟩ rfl Tryz.underlying209 aa rfl rfl (Y.ev rfl) (Y.ev rfl) Z (i:=3) rfl (Z.boxRd (i:=0) rfl) rfl (List.all_eq_true.1 rfl) ⟨ab,by decide⟩ fun A26 c26 _ _ Y Z=>?_;refine GO 9 ?_;intro _ Y;exact⟨⟨q.j+1,q.n+1,q.xs ++ [(b24,⟨t.ts[q.j].i,t.ts[q.j].l,t.ts[q.j].u⟩)],A26,c26⟩,(by show t.ts.length-(q.j+1)<t.ts.length-q.j;omega),⟨hlt,by show(q.xs ++ [_]).map Prod.snd=jD (t.ts.take (q.j+1));rw[htk,List.map_append,Za];rfl,by show(q.xs ++ [_]).length=q.n+1;rw[List.length_append,Zb];rfl,by show q.n+1≤q.j+1;omega⟩,Y.re bz,(by have q9:=AH (b:=b24) (x:=⟨t.ts[q.j].i,t.ts[q.j].l,t.ts[q.j].u⟩) (St.swap2 (Z.sub (.cons _ (.cons_cons _ (.cons _ (.cons_cons _ (.cons_cons _ (.cons_cons _ .slnil))))))));show St [] w _ [.row _ _ _ _ ((q.xs ++ [(b24,(⟨t.ts[q.j].i,t.ts[q.j].l,t.ts[q.j].u⟩:Lsr))]).map ez),_,_];rw[List.map_append];exact St.swap q9)⟩
  ·
   have hcf:t.ts[q.j].c=true:=by simpa using Zd
   rw[if_pos hcf] at htk;refine GO 8 ?_;intro _ Y;exact⟨⟨q.j+1,q.n,q.xs,q.A,q.c⟩,(by show t.ts.length-(q.j+1)<t.ts.length-q.j;omega),⟨hlt,by show q.xs.map Prod.snd=jD (t.ts.take (q.j+1));rw[htk,Za],Zb,by show q.n≤q.j+1;omega⟩,Y.re bz,Z.sub (.cons _ (.cons_cons _ (.cons_cons _ (.cons_cons _ .slnil))))⟩
 ·
  have hge:t.ts.length≤q.j:=by have:=of_decide_eq_false Zc;omega
  obtain⟨Zf,Za,Zb,Zg⟩:=Ze;rw[List.take_of_length_le hge] at Za;refine GO 12 ?_;intro _ Y;refine aD Y rfl rfl ?_;exact⟨(q.xs,q.A,q.c),by rw[Zb],Za,by rw[Zb];exact(Z.sub (.cons_cons _ (.cons_cons _ (.cons _ .slnil))))⟩
open Go.RowKit Go.Sort Go.Shelf
def sY (x:Lsr):Nat→Int→Lsr
 | 0,v=>⟨v,x.l,x.u⟩
 | 1,v=>⟨x.i,v,x.u⟩
 | _,v=>⟨x.i,x.l,v⟩
def nr (xs:List (Nat × Lsr)) (b j:Nat) (v:Int):List (Nat × Lsr):=xs.map fun x=>if x.1=b then (x.1,sY x.2 j v) else x
theorem qC (xs:List (Nat × Lsr)) (b j:Nat) (v:Int):(nr xs b j v).map Prod.fst=xs.map Prod.fst:=by
 unfold nr;rw[List.map_map];apply List.map_congr_left;intro x _;show(if x.1=b then (x.1,sY x.2 j v) else x).1=x.1
 split<;>rfl
theorem yA (x:Lsr) (v:Int) {j:Nat} (hj:j<3):((fc x).toList.take j ++ [Value.int .i64 v] ++ (fc x).toList.drop (j+1)).toArray=fc (sY x j v):=by
 match j,hj with
 | 0,_=>rfl
 | 1,_=>rfl
 | 2,_=>rfl
theorem xg {x y:Lsr} (h:(fc x).toList=(fc y).toList):x=y:=by
 obtain⟨xi,xl,xu⟩:=x;obtain⟨yi,yl,yu⟩:=y;simp[fc] at h;obtain⟨r1,r2,r3⟩:=h;subst r1 r2 r3;rfl
theorem oO {P:Program} {ops:Array Oper} {Q:Exit→Act→World→Prop} {rest:List Oper} {o:Oper} {a:Act} {X w:World} {M:List Nat} {E:List Ent} {ty:TypeId} {x' y:Operand} {b j i:Nat} {v:Int} {x:Lsr} {xs:List (Nat × Lsr)}
 (hw:Region.wanted o (yielded ops a.tmps)=true) (ho:o.op=.store ty x' y∧o.dst=none) (hx:a.eval x'=.pointer (some ⟨b,j,none⟩)) (hy:a.eval y=.int .i64 v) (hs:(P.info? ty).map (·.size)=some 1) (hS:St M w X E) (hi:E[i]? = some (eG xs)) (hm:(b,x)∈xs) (hj:j<3)
 (k:∀X',St M w X' (E.set i (eG (nr xs b j v)))→wpList P ops Q rest a X'):wpList P ops Q (o::rest) a X:=by
 have hall:=hS.at_ hi;have hb:Box X b (fc x) 273:=hall.1 _ hm;have hst:=dq (P:=P) b 273 [Value.int .i64 v] j 0 (fc x) X hb (by show j+0+1≤3;omega) (fun u hu=>by rw[List.mem_singleton.1 hu];rfl);simp only[Nat.add_zero] at hst;have hset:=yA x v hj;have hbX:=setRow_heap X b (fc x) (fc (sY x j v)) 273 (0,0) hb;refine kb (X':=X.setRow b (fc (sY x j v))) hw ?_ ho.2 (k _ ?_)
 · cases hq:P.info? ty with
   | none=>rw[hq] at hs;cases hs
   | some q=>
    rw[hq] at hs
    have hsz:q.size=1:=by simpa using hs
    unfold execOp;simp only[ho.1,hx,hy,Instr.storeAt,Instr.sureAddr,Sem.run_bind,Sem.run_pure,Result.andThen_ok];have hc:(Value.int .i64 v).cells.toList=[Value.int .i64 v]:=rfl;simp only[List.length_singleton] at hst;rw[hset] at hst;simp[storeVar,sizeOf,typeInfo,hq,hsz,Value.cells,hst]
 · refine hS.turn hi rfl rfl rfl (by simp[World.setRow]) (fun k' hk hne=>setRow_other X b k' _ (fun e=>hne ⟨(b,x),hm,e.symm⟩)) ⟨fun z hz=>?_,by rw[qC];exact hall.2⟩ (fun k' hk=>?_)
   · unfold nr at hz
     obtain⟨z0,hz0,rfl⟩:=List.mem_map.1 hz;have hz1:=hall.1 z0 hz0;by_cases e:z0.1=b
     · rw[if_pos e]
       have hx0:z0.2=x:=by
        have Y:Box X b (fc z0.2) 273:=e▸hz1;have h2:X.heap[b]? = some (Obj.cells (fc z0.2) 273 (0,0)):=Y;have Y:X.heap[b]? = some (Obj.cells (fc x) 273 (0,0)):=hb;rw[h2] at Y;injection Y with Y;injection Y with Y
        have e0:(fc z0.2).toList=(fc x).toList:=by rw[Y]
        exact xg e0
       show Box _ z0.1 (fc (sY z0.2 j v)) _;rw[e,hx0];exact hbX
     · rw[if_neg e]
       exact(setRow_other X b z0.1 _ e).trans hz1
   · obtain⟨z,hz,rfl⟩:=hk
     have hz':z.1∈(nr xs b j v).map Prod.fst:=List.mem_map.2 ⟨z,hz,rfl⟩;rw[qC] at hz';obtain⟨z0,hz0,e0⟩:=List.mem_map.1 hz';refine⟨.inl ⟨z0,hz0,e0⟩,?_⟩;have:=(hS.new _ (List.mem_of_getElem? hi) z.1 ⟨z0,hz0,e0⟩).2
     simpa [World.setRow] using this
theorem te {P:Program} {ops:Array Oper} {Q:Exit→Act→World→Prop} {rest:List Oper} {o:Oper} {a:Act} {X w:World} {N d:Nat} {l:List (Nat × Value)} {M:List Nat} {E:List Ent} {ds:List Deferred} {s x:Operand} {t e:TypeId} {z v:Value} {n m c i sz bytes:Nat} {A:Option Addr} {xs news:List Value} (ha:Has ds a N l) (hw:Region.wanted o (yielded ops a.tmps)=true) (ho:o.op=.call { callee:=.builtin .append,args:=#[s,x],argTypes:=#[t,t] }∧o.dst=some d) (hN:Nat.blt d N=true)
 (ht:P.underlying t=some (.slice e)) (hinfo:(P.info? e).map (fun i=>(i.zero,i.size,i.bytes))=some (some z,sz,bytes)) (hz:z.cells.size=sz) (hsz:Nat.blt 0 sz=true) (hs:a.eval s=v) (hx:a.eval x=.slice A m c) (hS:St M w X E) (hi:E[i]? = some (.row v n e sz xs))
 (hr:Rd X X.heap.size A news) (hl:news.length=m*sz) (h1:∀u∈news,u.oneCell'=true) (hb:n+m≤1000000∧bytes≤1000000)
 (k:∀A' c' a' X',Has ds a' N ((d,.slice A' (n+m) c')::l)→St M w X' E→Rd X' X'.heap.size A' (xs ++ news)→wpList P ops Q rest a' X'):wpList P ops Q (o::rest) a X:=by
 obtain⟨q,hq,hz1,hz2,hz3⟩:=rV hinfo;have hown:X.ownsRow 0 e sz v n xs:=hS.at_ hi;have hmul:(n+m)*bytes≤1000000*1000000:=Nat.mul_le_mul hb.1 hb.2;obtain⟨v',w',hrun,h2,h3,h5⟩:=nJ (P:=P) X t o.type e q z sz bytes ht hq hz1 hz2 hz3 hz (Nat.lt_of_lt_of_le (Nat.lt_succ_self 0) (Nat.le_of_ble_eq_true hsz)) v n xs hown A m c news hl hr h1 (by unfold maxLen;omega) ab (n*sz) (.inl (Nat.le_refl _));obtain⟨A',c',rfl,_⟩:=ownsRow_form h2
 have hown':w'.ownsRow 0 e sz v n xs:=by
  obtain⟨q1,q2⟩:=hown;refine⟨q1,?_⟩;rcases q2 with q2 | ⟨g,cap,cur,e1,e2,e3,e4,e5,e6,e7⟩
  · exact .inl q2
  · obtain⟨cur',r1,r2,r3⟩:=h3.2 g cur e (0,0) e3
    refine .inr ⟨g,cap,cur',e1,e2,r1,e4,e5,by rw[r2];exact e6,?_⟩;rw[r3];exact e7
 have hSt:St M w w' (E.set i (.row v n e sz xs)):=hS.turn hi h3.1.os h3.1.tape h3.1.output h3.1.size (fun b hb hne=>h3.1.block b hb hne) hown' (fun b hb=>⟨.inl hb,(World.ownsRow.lt hown' b hb).2⟩);rw[qX hi] at hSt;refine aI (X':=w') (v:=.slice A' (n+m) c') ha hw ?_ ho.2 hN (fun a' ha'=>k A' c' a' w' ha' hSt (Rd.of_own h2));unfold execOp;simp only[ho.1,resolve,invoke,builtin,Sem.run_bind,Sem.run_pure,Result.andThen_ok,List.map_toArray,List.map_cons,List.map_nil,hs,hx,hrun]
open Go.RowKit Go.Sort Go.Shelf
theorem ze (x y:Nat × Lsr) (w:World) (hx:Box w x.1 (fc x.2) 273) (hy:Box w y.1 (fc y.2) 273) :
 Calls Tryz.prog 207 #[ez x,ez y] w fun e w'=>e=.returned (.int .i64 (Lib.compareInt x.2.u y.2.u))∧Below w.heap.size w w':=by
 refine al (N:=14) Tryz.func207 rfl rfl rfl (fun _ Y=>?_);have Z:=St.init w;refine GO 6 ?_;intro _ Y;apply aH Y (eZ 8) _ aa
 case h=>
  refine GO 2 ?_;intro _ Y;refine qv Y (fun X hX=>fy 2 (Y.ev rfl)) fun _ Y=>?_;refine qv Y (fun X hX=>lx (Y.ev rfl) ((hx.below (Z.grow hX).below).cells 2)) fun _ Y=>?_;refine GO 2 ?_;intro _ Y;refine qv Y (fun X hX=>fy 2 (Y.ev rfl)) fun _ Y=>?_;refine qv Y (fun X hX=>lx (Y.ev rfl) ((hy.below (Z.grow hX).below).cells 2)) fun _ Y=>?_;refine av ?_;refine aP fun _ Za Zb=>?_;have Z:=Z.grow Za;refine cC Y rfl (rR _ _ _) fun _ Y=>?_;refine GO 4 ?_;intro _ Y;refine aD Y rfl rfl ?_;exact⟨rfl,Z.below⟩
 case hB=>kernel_rfl
 case hst=>rfl
def jF (m x:Nat × Lsr):Nat × Lsr:=if m.2.u<x.2.u then x else m
theorem B6 {m x:Nat × Lsr} (h:m.2.u<x.2.u):jF m x=x:=if_pos h
theorem yt {m x:Nat × Lsr} (h:¬m.2.u<x.2.u):jF m x=m:=if_neg h
theorem sV {X:World} {B b o k:Nat} {l:List (Nat × Lsr)} (hr:Rd X B (some ⟨b,o,none⟩) (l.map ez)) (hk:k<l.length):∀(j:Nat) (u:Value),[ez l[k]][j]? = some u→X.cell? ⟨b,o+k*1+j,none⟩=some u
 | 0,u,hu=>by
  obtain⟨b',o',e,_,hc⟩:=hr k u (by rw[List.getElem?_map,List.getElem?_eq_getElem hk];exact hu);injection e with e;injection e with e1 e2;subst e1 e2;rw[Nat.mul_one,Nat.add_zero];exact hc
 | j+1,u,hu=>by simp at hu
theorem cmpI_pos {x y:Int}:Lib.compareInt x y>0↔y<x:=by unfold Lib.compareInt;split<;>(try split)<;>omega
theorem pU:∀(zs:List (Nat × Lsr)) (z:Nat × Lsr),zs.foldl jF z∈z::zs
 | [],z=>List.mem_cons_self
 | x::r,z=>by
  rw[List.foldl_cons];rcases List.mem_cons.1 (pU r (jF z x)) with h | h
  · rw[h]
    unfold jF
    split
    · exact List.mem_cons_of_mem _ (List.mem_cons_self)
    · exact List.mem_cons_self
  · exact List.mem_cons_of_mem _ (List.mem_cons_of_mem _ h)
theorem qx (z:Nat × Lsr) (zs:List (Nat × Lsr)) (A:Option Addr) (c:Nat) (w:World) (hr:Rd w w.heap.size A ((z::zs).map ez)) (hb:∀x∈z::zs,Box w x.1 (fc x.2) 273) (hl:zs.length≤1000) :
 Calls Tryz.prog 206 #[.slice A (z::zs).length c,.func (.func 207) #[] #[]] w fun e w'=>e=.returned (ez (zs.foldl jF z))∧Below w.heap.size w w':=by
 obtain⟨b,o,rfl,hB,_⟩:=hr.opened a7;have hzl:(z::zs).length=zs.length+1:=rfl;refine al (N:=33) Tryz.func206 rfl rfl rfl (fun _ Y=>?_);have Z:=St.init w;refine GO 13 ?_;intro _ Y;refine iY (Y.ev rfl) ((by simp;omega)) ?_;refine GO 5 ?_;intro _ Y;refine sv Y (au (i:=0) (sz:=1) Tryz.underlying209 aa (Y.ev rfl) (Y.ev rfl) ab ab rfl) fun _ Y=>?_;refine sv (v:=ez z) Y (lx (Y.ev rfl) ((sV (Z.rd0 hr) (show 0<(z::zs).length by omega)) 0 _ rfl)) fun _ Y=>?_;refine GO 10 ?_;intro _ Y;refine aY Y Z [4,0,1] (fun (j:Nat)=>[(6,.int .i64 ((j+1:Nat):Int)),(5,ez ((zs.take j).foldl jF z))]) (fun (j:Nat)=>j≤zs.length) (fun (j:Nat) L=>L) (fun (j:Nat)=>zs.length-j) (0) (Nat.zero_le _) bz (Z) ?_;intro j _ _ Zc Y Z;refine GO 9 ?_;intro _ Y;refine ak (Y.ev rfl) (fun Za=>?_) (fun Za=>?_)
 ·
  have hlt:j<zs.length:=by have:=of_decide_eq_true Za;omega
  have hm:=pU (zs.take j) z
  have hm2:(zs.take j).foldl jF z∈z::zs:=by
   rcases List.mem_cons.1 hm with h | h
   · rw[h];exact List.mem_cons_self
   · exact List.mem_cons_of_mem _ (List.mem_of_mem_take h)
  have hx2:zs[j]∈z::zs:=List.mem_cons_of_mem _ (List.getElem_mem hlt)
  have htk:(zs.take (j+1)).foldl jF z=jF ((zs.take j).foldl jF z) zs[j]:=by rw[List.take_succ_eq_append_getElem hlt,List.foldl_append];rfl
  refine GO 9 ?_;intro _ Y;refine sv Y (au (i:=j+1) (sz:=1) Tryz.underlying209 aa (Y.ev rfl) (Y.ev rfl) ab ab rfl) fun _ Y=>?_;refine sv (v:=ez zs[j]) Y (lx (Y.ev rfl) ((sV (Z.rd0 hr) (show j+1<(z::zs).length by omega)) 0 _ rfl)) fun _ Y=>?_;refine GO 1 ?_;intro _ Y;refine dg Y (wn rfl) (cz a8 (Y.ev rfl) (Y.evs rfl) rfl) rfl rfl Z (ze zs[j] ((zs.take j).foldl jF z) _ ((hb _ hx2).below Z.below) ((hb _ hm2).below Z.below)) fun _ _ Y Z=>?_;refine GO 3 ?_;intro _ Y;refine ak (Y.ev rfl) (fun Zb=>?_) (fun Zb=>?_)
  ·
   have hgt:((zs.take j).foldl jF z).2.u<zs[j].2.u:=cmpI_pos.1 (of_decide_eq_true Zb);refine GO 3 ?_;intro _ Y;refine sv Y (au (i:=j+1) (sz:=1) Tryz.underlying209 aa (Y.ev rfl) (Y.ev rfl) ab ab rfl) fun _ Y=>?_;refine sv Y (aw (v':=ez ((zs.take (j+1)).foldl jF z)) (by show ez zs[j]=_;rw[htk,B6 hgt]) (lx (Y.ev rfl) ((sV (Z.rd0 hr) (show j+1<(z::zs).length by omega)) 0 _ rfl))) fun _ Y=>?_;refine GO 10 ?_;intro _ Y;exact⟨j+1,ab,hlt,Y.re bz,Z⟩
  ·
   have hgt:¬((zs.take j).foldl jF z).2.u<zs[j].2.u:=mt cmpI_pos.2 (of_decide_eq_false Zb);rw[show(zs.take j).foldl jF z=(zs.take (j+1)).foldl jF z by rw[htk,yt hgt]] at Y;refine GO 9 ?_;intro _ Y;exact⟨j+1,ab,hlt,Y.re bz,Z⟩
 ·
  have hge:zs.length≤j:=by have:=of_decide_eq_false Za;omega
  rw[List.take_of_length_le hge] at Y;refine GO 12 ?_;intro _ Y;refine aD Y rfl rfl ?_;exact⟨rfl,Z.below⟩
open Go.RowKit Go.Sort Go.Shelf
theorem St.outer2 {M:List Nat} {w X X':World} {L1 L1' L2:List Ent} (h:St M w X (L1 ++ L2)) (h':St (fq X L1) X X' L1'):St M w X' (L1' ++ L2):=by
 have hs:=List.pairwise_append.1 h.sep;have hd:∀b,b∈fq X L1→∃e∈L1,e.dom b:=fun b hb=>(mem_domsL.1 hb).2
 have hL2:∀f∈L2,∀b,f.dom b→b<X.heap.size∧b∉fq X L1:=fun f hf b hb=>⟨(h.new f (List.mem_append.2 (.inr hf)) b hb).2,fun hm=>by
  obtain⟨e,he,heb⟩:=hd b hm
  exact hs.2.2 e he f hf b heb hb⟩
 refine⟨h'.os.trans h.os,h'.tape.trans h.tape,h'.output.trans h.output,Nat.le_trans h.size h'.size,fun b hb hM=>?_,fun e he=>?_,fun e he b hb=>?_,List.pairwise_append.2 ⟨h'.sep,hs.2.1,fun e he f hf b hb hfb=>?_⟩⟩
 · refine(h'.block b (Nat.lt_of_lt_of_le hb h.size) (fun hm=>?_)).trans (h.block b hb hM)
   obtain⟨e,he,heb⟩:=hd b hm;rcases (h.new e (List.mem_append.2 (.inl he)) b heb).1 with h1 | h1
   · omega
   · exact hM h1
 · rcases List.mem_append.1 he with he | he
   · exact h'.ok e he
   · exact Ent.ok_of (h.ok e (List.mem_append.2 (.inr he))) (fun b hb=>h'.block b (hL2 e he b hb).1 (hL2 e he b hb).2)
 · rcases List.mem_append.1 he with he | he
   · refine⟨?_,(h'.new e he b hb).2⟩
     rcases (h'.new e he b hb).1 with h1 | h1
     · exact .inl (Nat.le_trans h.size h1)
     · obtain⟨f,hf,hfb⟩:=hd b h1
       exact(h.new f (List.mem_append.2 (.inl hf)) b hfb).1
   · exact⟨(h.new e (List.mem_append.2 (.inr he)) b hb).1,Nat.lt_of_lt_of_le (h.new e (List.mem_append.2 (.inr he)) b hb).2 h'.size⟩
 · have h2:=hL2 f hf b hfb
   rcases (h'.new e he b hb).1 with h1 | h1
   · omega
   · exact h2.2 h1
open Go.RowKit Go.Sort Go.Shelf
def wg:Lsr:=⟨0,0,0⟩
def Cs:List (Nat × Lsr)→Option (Nat × Lsr)
 | []=>none
 | z::zs=>some (zs.foldl jF z)
abbrev pb (σ:Type):=σ→Lsr→Rcd→σ × Lsr × Int
def gL {σ:Type} (l:List Rcd) (tk:pb σ):Nat→List (Nat × Lsr)→σ→List (Nat × Lsr) × σ × Int
 | 0,ls,s=>(ls,s,26)
 | f+1,ls,s=>match Cs ls with
  | none=>(ls,s,0)
  | some m=>if m.2.u=0 then (ls,s,0) else match dX l m.2.u with
   | none=>(ls,s,6)
   | some r=>if dt r.e=true∧r.e.t=m.2.i then
    (if (tk s ⟨m.2.i,m.2.l,dn r.e⟩ r).2.2≠0 then (ls,s,(tk s ⟨m.2.i,m.2.l,dn r.e⟩ r).2.2)
     else gL l tk f (ls.map fun x=>if x.1=m.1 then (x.1,(tk s ⟨m.2.i,m.2.l,dn r.e⟩ r).2.1) else x) (tk s ⟨m.2.i,m.2.l,dn r.e⟩ r).1) else (ls,s,6)
theorem Bj {z:Nat × Lsr} {zs:List (Nat × Lsr)} (b:Nat) (h:∀x∈z::zs,0≤x.2.u):(zs ++ [(b,wg)]).foldl jF z=zs.foldl jF z:=by
 rw[List.foldl_append];show jF (zs.foldl jF z) (b,wg)=_;exact yt (by have:=h _ (pU zs z);show ¬(zs.foldl jF z).2.u<0;omega)
open Go.RowKit Go.Sort Go.Shelf
def ir (ls:List (Nat × Lsr)) (b:Nat) (x:Lsr):List (Nat × Lsr):=ls.map fun y=>if y.1=b then (y.1,x) else y
theorem gB (ls:List (Nat × Lsr)) (b:Nat) (x:Lsr):(ir ls b x).map Prod.fst=ls.map Prod.fst:=by
 unfold ir;rw[List.map_map];apply List.map_congr_left;intro y _;show(if y.1=b then (y.1,x) else y).1=y.1
 split<;>rfl
theorem zT {ls ls':List (Nat × Lsr)} (h:ls.map Prod.fst=ls'.map Prod.fst):ls.map ez=ls'.map ez:=by
 have e:∀xs:List (Nat × Lsr),xs.map ez=(xs.map Prod.fst).map fun b=>Value.pointer (some ⟨b,0,none⟩):=fun xs=>by rw[List.map_map];rfl
 rw[e,e,h]
theorem zX {ls:List (Nat × Lsr)} {b:Nat} (h:∀x∈ls,0≤x.2.u):∃z zs,ls ++ [(b,wg)]=z::zs∧((Cs ls=none∧zs.foldl jF z=(b,wg))∨(∃m,m∈ls∧Cs ls=some m∧zs.foldl jF z=m)):=by
 cases ls with
 | nil=>exact⟨(b,wg),[],rfl,.inl ⟨rfl,rfl⟩⟩
 | cons z zs=>exact⟨z,zs ++ [(b,wg)],rfl,.inr ⟨zs.foldl jF z,pU zs z,rfl,Bj b h⟩⟩
theorem pC {P:Program} {ops:Array Oper} {Q:Exit→Act→World→Prop} {rest:List Oper} {o:Oper} {a:Act} {X w:World} {N d:Nat} {sl:List (Nat × Value)} {M:List Nat} {L1 L2:List Ent} {ds:List Deferred} {ι:Type} {f:FuncId} {args:Array Value} {V:ι→Value} {F:ι→Prop} {E1:ι→List Ent}
 (ha:Has ds a N sl) (hw:Region.wanted o (yielded ops a.tmps)=true) (hx:(execOp a.eval o).run P X=.ok (.enter f args) X) (hd:o.dst=some d) (hN:Nat.blt d N=true) (hS:St M w X (L1 ++ L2))
 (hc:Calls P f args X fun r X'=>∃p,r=.returned (V p)∧F p∧St (fq X L1) X X' (E1 p)) (k:∀p a' X',Has ds a' N ((d,V p)::sl)→F p→St M w X' (E1 p ++ L2)→wpList P ops Q rest a' X'):wpList P ops Q (o::rest) a X:=
 jP ha hw hx hd hN hc fun r X' ⟨p,hr,hF,hU⟩=>⟨V p,hr,fun a' ha'=>k p a' X' ha' hF (hS.outer2 hU)⟩
theorem St.frontL {M:List Nat} {w X:World} {L1 L2:List Ent} (h:St M w X (L1 ++ L2)):St (fq X L1) X X L1:=(h.sub (List.sublist_append_left L1 L2)).inner
end Go.Proofs.YtcfdpfmchchkaaaGreatDoor
