/-
  Chapter 22: transactions that are undone.
  Chapter 22: a store into one of the boxes of losers.
  Chapter 22: the one with the most to undo.
  Chapter 22: a callee that turns some entries of its caller's.
  Chapter 22, plain: undoing over a function that takes.
  Chapter 22: undo, over a taker.
-/
import Derived.Test.YtcfdpfmchchkaaaGreatDoorRcI
namespace Go.Proofs.YtcfdpfmchchkaaaGreatDoor
set_option linter.unusedVariables false
set_option linter.unusedSimpArgs false
set_option maxRecDepth 4000
open Go.RowKit Go.Sort Go.Shelf
structure Lsr where
 i:Int
 l:Int
 u:Int
def fp (x:Lsr):Array Value:=#[.int .i64 x.i,.int .i64 x.l,.int .i64 x.u]
def eY (x:Nat × Lsr):Value:=.pointer (some ⟨x.1,0,none⟩)
def eX (xs:List (Nat × Lsr)):Ent:=
 .inv (fun b=>∃x∈xs,x.1=b) (fun X=>(∀x∈xs,Box X x.1 (fp x.2) 273)∧(xs.map Prod.fst).Nodup)
  (fun X X' h hb=>⟨fun x hx=>(hb x.1 ⟨x,hx,rfl⟩).trans (h.1 x hx),h.2⟩)
theorem St.perm {M:List Nat} {w X:World} {L L':List Ent} (h:St M w X L) (hp:L'.Perm L):St M w X L':=
 ⟨h.os,h.tape,h.output,h.size,h.block,fun e he=>h.ok e (hp.mem_iff.1 he),fun e he=>h.new e (hp.mem_iff.1 he),(hp.pairwise_iff (fun {x y} hxy b hb hb'=>hxy b hb' hb)).2 h.sep⟩
def jv (l:List Trn):List Lsr:=(l.filter fun x=>!x.c).map fun x=>⟨x.i,x.l,x.u⟩
theorem tS (l:List Trn) {j:Nat} (hj:j<l.length):jv (l.take (j+1))=if l[j].c=true then jv (l.take j) else jv (l.take j) ++ [⟨l[j].i,l[j].l,l[j].u⟩]:=by
 unfold jv;rw[List.take_succ_eq_append_getElem hj,List.filter_append,List.filter_cons]
 cases h:l[j].c with
 | true=>simp
 | false=>simp
theorem St.swap2 {M:List Nat} {w X:World} {a b c:Ent} {L:List Ent} (h:St M w X (a::b::c::L)):St M w X (a::c::b::L):=h.perm (List.Perm.cons _ (List.Perm.swap _ _ _))
structure LosS where
 j:Nat
 n:Nat
 xs:List (Nat × Lsr)
 A:Option Addr
 c:Nat
theorem yM {M:List Nat} {w X:World} {b:Nat} {x:Lsr} {xs:List (Nat × Lsr)} {L:List Ent} (h:St M w X (.box b (fp x) 273::eX xs::L)):St M w X (eX (xs ++ [(b,x)])::L):=by
 have k1:=h.at_ (i:=0) rfl;have k2:=h.at_ (i:=1) rfl;refine h.fuse2 (fun b' hb'=>?_) ⟨fun y hy=>?_,?_⟩
 · obtain⟨y,hy,rfl⟩:=hb'
   rcases List.mem_append.1 hy with hy | hy
   · exact .inr ⟨y,hy,rfl⟩
   · rw[List.mem_singleton.1 hy];exact .inl rfl
 · rcases List.mem_append.1 hy with hy | hy
   · exact k2.1 y hy
   · rw[List.mem_singleton.1 hy];exact k1
 · rw[List.map_append,List.nodup_append]
   refine⟨k2.2,by simp,fun a ha b' hb' e=>?_⟩
   have hb2:b'=b:=by simpa using hb'
   obtain⟨y,hy,hya⟩:=List.mem_map.1 ha;exact(List.pairwise_cons.1 h.sep).1 (eX xs) (List.mem_cons_self) b rfl ⟨y,hy,by rw[hya,e,hb2]⟩
theorem rN (t:Tbl) (A:Option Addr) (c:Nat) (B:Option Addr) (d:Nat) (w:World) (hr:Rd w w.heap.size A (t.ts.flatMap cA)) (hl:t.ts.length≤1000) :
 Calls Tryz.prog 123 #[cR t A c B d] w fun e w'=>∃i:List (Nat × Lsr) × Option Addr × Nat,e=.returned (.slice i.2.1 i.1.length i.2.2)∧i.1.map Prod.snd=jv t.ts∧St [] w w' [.row (.slice i.2.1 i.1.length i.2.2) i.1.length 233 1 (i.1.map eY),eX i.1]:=by
 refine aF (N:=29) Tryz.func123 rfl rfl rfl (fun _ Y=>?_);have Z:=St.init w;refine ab (ah ?_);refine nb Y rfl rfl Z fun b1 _ X1 gb1 Y Z=>?_;refine ma Y rfl rfl fun _ Y=>?_;refine cm ?_;refine ma Y rfl rfl fun _ Y=>?_;have Z:=Z.nilRow 233 1;have Z:St [] w X1 [.row (.slice none 0 0) 0 233 1 [],eX [],.box b1 (cR t A c B d).cells 25]:=St.perm (L:=[eX [],.row (.slice none 0 0) 0 233 1 [],.box b1 (cR t A c B d).cells 25]) (Z.add (Below.refl _ _) (e:=eX []) ⟨fun x hx=>(by cases hx),List.nodup_nil⟩ (fun b hb=>by obtain⟨x,hx,_⟩:=hb;cases hx)) (List.Perm.swap _ _ _);replace Z:=Z;refine ae (aa (ab (ab (ah ?_))));refine vf Y 0 0 rfl rfl rfl fun _ Y=>?_;refine vl Y Z 2 rfl rfl rfl rfl fun _ Y=>?_;refine sv Y (bf Tryz.underlying22 (Y.ev rfl)) fun _ Y=>?_;refine mv Y rfl rfl fun _ Y=>?_;refine ae (aa (wp_block ?_));refine bz Y Z [8,7,2] (fun (q:LosS)=>[(9,.int .i64 (q.j:Nat)),(3,.slice q.A q.n q.c)]) (fun (q:LosS)=>q.j≤t.ts.length∧q.xs.map Prod.snd=jv (t.ts.take q.j)∧q.xs.length=q.n∧q.n≤q.j) (fun q _=>[.row (.slice q.A q.n q.c) q.n 233 1 (q.xs.map eY),eX q.xs,.box b1 (cR t A c B d).cells 25]) (fun (q:LosS)=>t.ts.length-q.j) (⟨0,0,[],none,0⟩) (⟨Nat.zero_le _,rfl,rfl,Nat.le_refl _⟩) ⟨rfl,rfl,rfl,rfl,rfl,trivial⟩ (Z) ?_;intro q _ _ hF0 Y Z;refine ab (ah ?_);refine sv Y (bq (Y.ev rfl) (Y.ev rfl)) fun _ Y=>?_;refine ae (aa (ab ?_));refine aB (Y.ev rfl) (fun hc0=>?_) (fun hc0=>?_)
 ·
  have hlt:q.j<t.ts.length:=by have:=of_decide_eq_true hc0;omega
  obtain⟨b,o,rfl,hB,_⟩:=hr.opened (aR cW (by decide) (by omega));have htk:=tS t.ts hlt;obtain⟨hF1,hF2,hF3,hF4⟩:=hF0;refine wp_skip (aa (ab (wp_block (ab (ah ?_)))));refine sv Y (aC (i:=q.j) (sz:=4) Tryz.underlying22 (by kernel_rfl) (Y.ev rfl) (Y.ev rfl) (by omega) (by omega) rfl) fun _ Y=>?_;refine sv (v:=fg t.ts[q.j]) Y (ay (by kernel_rfl) (by kernel_rfl) (Y.ev rfl) (a7 cW (Z.rd0 hr) hlt)) fun _ Y=>?_;refine na (.agg #[.int .i64 0,.int .i64 0,.int .i64 0,.bool false]) Y rfl Z fun b5 _ _ gb5 Y Z=>?_;refine aG Y (wn rfl) ⟨rfl,rfl⟩ (Y.ev rfl) (Y.ev rfl) rfl (by kernel_rfl) Z (i:=0) rfl rfl rfl fun _ Z=>?_;refine cm ?_;refine vf Y 3 3 rfl rfl rfl fun _ Y=>?_;refine vl Y Z 0 rfl rfl rfl rfl fun _ Y=>?_;refine sv Y (bL (Y.ev rfl)) fun _ Y=>?_;refine ae (aa ?_);refine aB (Y.ev rfl) (fun hc1=>?_) (fun hc1=>?_)
  ·
   have hcf:t.ts[q.j].c=false:=by simpa using hc1
   rw[if_neg (by rw[hcf];decide)] at htk;refine ah ?_;refine mv Y rfl rfl fun _ Y=>?_;refine vf Y 0 0 rfl rfl rfl fun _ Y=>?_;refine vl Y Z 0 rfl rfl rfl rfl fun _ Y=>?_;refine vf Y 1 1 rfl rfl rfl fun _ Y=>?_;refine vl Y Z 0 rfl rfl rfl rfl fun _ Y=>?_;refine vf Y 2 2 rfl rfl rfl fun _ Y=>?_;refine vl Y Z 0 rfl rfl rfl rfl fun _ Y=>?_;refine sv Y (br (zs:=[.int .i64 0,.int .i64 0,.int .i64 0]) (pl:=[(0,1),(1,1),(2,1)]) (by kernel_rfl) (by kernel_rfl) (Y.evs2 rfl) rfl rfl) fun _ Y=>?_;refine nb Y rfl rfl Z fun b24 _ _ gb24 Y Z=>?_;refine dr Y (wn rfl) (f:=fun b=>.slice (some ⟨b,0,none⟩) 1 1) (cj Tryz.underlying209 (by kernel_rfl) (by kernel_rfl) (Y.evs2 rfl) rfl rfl rfl (by decide) (by decide)) rfl rfl Z fun b25 _ _ gb25 Y Z=>?_;refine cv (z:=.pointer none) (sz:=1) (bytes:=8) Y (wn rfl) ⟨rfl,rfl⟩ rfl Tryz.underlying209 (by kernel_rfl) rfl rfl (Y.ev rfl) (Y.ev rfl) Z (i:=3) rfl (Z.boxRd (i:=0) rfl) rfl (List.all_eq_true.1 rfl) ⟨(by omega),by decide⟩ fun A26 c26 _ _ Y Z=>?_;refine ma Y rfl rfl fun _ Y=>?_;refine ae (aO (aa (ah ?_)));refine sv Y (aV (Y.ev rfl) (Y.ev rfl) (by omega)) fun _ Y=>?_;refine mv Y rfl rfl fun _ Y=>?_;refine ae (aa ?_);exact⟨⟨q.j+1,q.n+1,q.xs ++ [(b24,⟨t.ts[q.j].i,t.ts[q.j].l,t.ts[q.j].u⟩)],A26,c26⟩,(by show t.ts.length-(q.j+1)<t.ts.length-q.j;omega),⟨hlt,by show(q.xs ++ [_]).map Prod.snd=jv (t.ts.take (q.j+1));rw[htk,List.map_append,hF2];rfl,by show(q.xs ++ [_]).length=q.n+1;rw[List.length_append,hF3];rfl,by show q.n+1≤q.j+1;omega⟩,Y.re ⟨rfl,rfl,rfl,rfl,rfl,trivial⟩,(by have q9:=yM (b:=b24) (x:=⟨t.ts[q.j].i,t.ts[q.j].l,t.ts[q.j].u⟩) (St.swap2 (Z.sub (.cons _ (.cons_cons _ (.cons _ (.cons_cons _ (.cons_cons _ (.cons_cons _ .slnil))))))));show St [] w _ [.row _ _ _ _ ((q.xs ++ [(b24,(⟨t.ts[q.j].i,t.ts[q.j].l,t.ts[q.j].u⟩:Lsr))]).map eY),_,_];rw[List.map_append];exact St.swap q9)⟩
  ·
   have hcf:t.ts[q.j].c=true:=by simpa using hc1
   rw[if_pos hcf] at htk;refine wp_skip (aO (aa (ah ?_)));refine sv Y (aV (Y.ev rfl) (Y.ev rfl) (by omega)) fun _ Y=>?_;refine mv Y rfl rfl fun _ Y=>?_;refine ae (aa ?_);exact⟨⟨q.j+1,q.n,q.xs,q.A,q.c⟩,(by show t.ts.length-(q.j+1)<t.ts.length-q.j;omega),⟨hlt,by show q.xs.map Prod.snd=jv (t.ts.take (q.j+1));rw[htk,hF2],hF3,by show q.n≤q.j+1;omega⟩,Y.re ⟨rfl,rfl,rfl,rfl,rfl,trivial⟩,Z.sub (.cons _ (.cons_cons _ (.cons_cons _ (.cons_cons _ .slnil))))⟩
 ·
  have hge:t.ts.length≤q.j:=by have:=of_decide_eq_false hc0;omega
  obtain⟨hF1,hF2,hF3,hF4⟩:=hF0;rw[List.take_of_length_le hge] at hF2;refine wp_exit ?_;refine av ?_;refine av ?_;refine bn ?_;refine aa (ab (ah ?_));refine mv Y rfl rfl fun _ Y=>?_;refine ma Y rfl rfl fun _ Y=>?_;refine ae (aa (wp_ret ?_));refine bm Y rfl rfl ?_;exact⟨(q.xs,q.A,q.c),by rw[hF3],hF2,by rw[hF3];exact(Z.sub (.cons_cons _ (.cons_cons _ (.cons _ .slnil))))⟩
set_option maxRecDepth 4000
open Go.RowKit Go.Sort Go.Shelf
def rY (x:Lsr):Nat→Int→Lsr
 | 0,v=>⟨v,x.l,x.u⟩
 | 1,v=>⟨x.i,v,x.u⟩
 | _,v=>⟨x.i,x.l,v⟩
def l4 (xs:List (Nat × Lsr)) (b j:Nat) (v:Int):List (Nat × Lsr):=xs.map fun x=>if x.1=b then (x.1,rY x.2 j v) else x
theorem qF (xs:List (Nat × Lsr)) (b j:Nat) (v:Int):(l4 xs b j v).map Prod.fst=xs.map Prod.fst:=by
 unfold l4;rw[List.map_map];apply List.map_congr_left;intro x _;show(if x.1=b then (x.1,rY x.2 j v) else x).1=x.1
 split<;>rfl
theorem xn (x:Lsr) (v:Int) {j:Nat} (hj:j<3):((fp x).toList.take j ++ [Value.int .i64 v] ++ (fp x).toList.drop (j+1)).toArray=fp (rY x j v):=by
 match j,hj with
 | 0,_=>rfl
 | 1,_=>rfl
 | 2,_=>rfl
theorem ye {x y:Lsr} (h:(fp x).toList=(fp y).toList):x=y:=by
 obtain⟨xi,xl,xu⟩:=x;obtain⟨yi,yl,yu⟩:=y;simp[fp] at h;obtain⟨r1,r2,r3⟩:=h;subst r1 r2 r3;rfl
theorem nG {P:Program} {ops:Array Oper} {Q:Exit→Act→World→Prop} {rest:List Oper} {o:Oper} {a:Act} {X w:World} {M:List Nat} {E:List Ent} {ty:TypeId} {x' y:Operand} {b j i:Nat} {v:Int} {x:Lsr} {xs:List (Nat × Lsr)}
 (hw:Region.wanted o (yielded ops a.tmps)=true) (ho:o.op=.store ty x' y∧o.dst=none) (hx:a.eval x'=.pointer (some ⟨b,j,none⟩)) (hy:a.eval y=.int .i64 v) (hs:(P.info? ty).map (·.size)=some 1) (hS:St M w X E) (hi:E[i]? = some (eX xs)) (hm:(b,x)∈xs) (hj:j<3)
 (k:∀X',St M w X' (E.set i (eX (l4 xs b j v)))→wpList P ops Q rest a X'):wpList P ops Q (o::rest) a X:=by
 have hall:=hS.at_ hi;have hb:Box X b (fp x) 273:=hall.1 _ hm;have hst:=dT (P:=P) b 273 [Value.int .i64 v] j 0 (fp x) X hb (by show j+0+1≤3;omega) (fun u hu=>by rw[List.mem_singleton.1 hu];rfl);simp only[Nat.add_zero] at hst;have hset:=xn x v hj;have hbX:=setRow_heap X b (fp x) (fp (rY x j v)) 273 (0,0) hb;refine lz (X':=X.setRow b (fp (rY x j v))) hw ?_ ho.2 (k _ ?_)
 · cases hq:P.info? ty with
   | none=>rw[hq] at hs;cases hs
   | some q=>
    rw[hq] at hs
    have hsz:q.size=1:=by simpa using hs
    unfold execOp;simp only[ho.1,hx,hy,Instr.storeAt,Instr.sureAddr,Sem.run_bind,Sem.run_pure,Result.andThen_ok];have hc:(Value.int .i64 v).cells.toList=[Value.int .i64 v]:=rfl;simp only[List.length_singleton] at hst;rw[hset] at hst;simp[storeVar,sizeOf,typeInfo,hq,hsz,Value.cells,hst]
 · refine hS.turn hi rfl rfl rfl (by simp[World.setRow]) (fun k' hk hne=>setRow_other X b k' _ (fun e=>hne ⟨(b,x),hm,e.symm⟩)) ⟨fun z hz=>?_,by rw[qF];exact hall.2⟩ (fun k' hk=>?_)
   · unfold l4 at hz
     obtain⟨z0,hz0,rfl⟩:=List.mem_map.1 hz;have hz1:=hall.1 z0 hz0;by_cases e:z0.1=b
     · rw[if_pos e]
       have hx0:z0.2=x:=by
        have h1:Box X b (fp z0.2) 273:=e▸hz1;have h2:X.heap[b]? = some (Obj.cells (fp z0.2) 273 (0,0)):=h1;have h3:X.heap[b]? = some (Obj.cells (fp x) 273 (0,0)):=hb;rw[h2] at h3;injection h3 with h3;injection h3 with h3
        have e0:(fp z0.2).toList=(fp x).toList:=by rw[h3]
        exact ye e0
       show Box _ z0.1 (fp (rY z0.2 j v)) _;rw[e,hx0];exact hbX
     · rw[if_neg e]
       exact(setRow_other X b z0.1 _ e).trans hz1
   · obtain⟨z,hz,rfl⟩:=hk
     have hz':z.1∈(l4 xs b j v).map Prod.fst:=List.mem_map.2 ⟨z,hz,rfl⟩;rw[qF] at hz';obtain⟨z0,hz0,e0⟩:=List.mem_map.1 hz';refine⟨.inl ⟨z0,hz0,e0⟩,?_⟩;have:=(hS.new _ (List.mem_of_getElem? hi) z.1 ⟨z0,hz0,e0⟩).2
     simpa [World.setRow] using this
theorem rW {P:Program} {ops:Array Oper} {Q:Exit→Act→World→Prop} {rest:List Oper} {o:Oper} {a:Act} {X w:World} {N d:Nat} {l:List (Nat × Value)} {M:List Nat} {E:List Ent} {ds:List Deferred} {s x:Operand} {t e:TypeId} {z v:Value} {n m c i sz bytes:Nat} {A:Option Addr} {xs news:List Value} (ha:Has ds a N l) (hw:Region.wanted o (yielded ops a.tmps)=true) (ho:o.op=.call { callee:=.builtin .append,args:=#[s,x],argTypes:=#[t,t] }∧o.dst=some d) (hN:Nat.blt d N=true)
 (ht:P.underlying t=some (.slice e)) (hinfo:(P.info? e).map (fun i=>(i.zero,i.size,i.bytes))=some (some z,sz,bytes)) (hz:z.cells.size=sz) (hsz:Nat.blt 0 sz=true) (hs:a.eval s=v) (hx:a.eval x=.slice A m c) (hS:St M w X E) (hi:E[i]? = some (.row v n e sz xs))
 (hr:Rd X X.heap.size A news) (hl:news.length=m*sz) (h1:∀u∈news,u.oneCell'=true) (hb:n+m≤1000000∧bytes≤1000000)
 (k:∀A' c' a' X',Has ds a' N ((d,.slice A' (n+m) c')::l)→St M w X' E→Rd X' X'.heap.size A' (xs ++ news)→wpList P ops Q rest a' X'):wpList P ops Q (o::rest) a X:=by
 obtain⟨q,hq,hz1,hz2,hz3⟩:=qj hinfo;have hown:X.ownsRow 0 e sz v n xs:=hS.at_ hi;have hmul:(n+m)*bytes≤1000000*1000000:=Nat.mul_le_mul hb.1 hb.2;obtain⟨v',w',hrun,h2,h3,h5⟩:=mO (P:=P) X t o.type e q z sz bytes ht hq hz1 hz2 hz3 hz (Nat.lt_of_lt_of_le (Nat.lt_succ_self 0) (Nat.le_of_ble_eq_true hsz)) v n xs hown A m c news hl hr h1 (by unfold maxLen;omega) (by omega) (n*sz) (.inl (Nat.le_refl _));obtain⟨A',c',rfl,_⟩:=ownsRow_form h2
 have hown':w'.ownsRow 0 e sz v n xs:=by
  obtain⟨q1,q2⟩:=hown;refine⟨q1,?_⟩;rcases q2 with q2 | ⟨g,cap,cur,e1,e2,e3,e4,e5,e6,e7⟩
  · exact .inl q2
  · obtain⟨cur',r1,r2,r3⟩:=h3.2 g cur e (0,0) e3
    refine .inr ⟨g,cap,cur',e1,e2,r1,e4,e5,by rw[r2];exact e6,?_⟩;rw[r3];exact e7
 have hSt:St M w w' (E.set i (.row v n e sz xs)):=hS.turn hi h3.1.os h3.1.tape h3.1.output h3.1.size (fun b hb hne=>h3.1.block b hb hne) hown' (fun b hb=>⟨.inl hb,(World.ownsRow.lt hown' b hb).2⟩);rw[pV hi] at hSt;refine aU (X':=w') (v:=.slice A' (n+m) c') ha hw ?_ ho.2 hN (fun a' ha'=>k A' c' a' w' ha' hSt (Rd.of_own h2));unfold execOp;simp only[ho.1,resolve,invoke,builtin,Sem.run_bind,Sem.run_pure,Result.andThen_ok,List.map_toArray,List.map_cons,List.map_nil,hs,hx,hrun]
set_option maxRecDepth 4000
open Go.RowKit Go.Sort Go.Shelf
theorem wq (x y:Nat × Lsr) (w:World) (hx:Box w x.1 (fp x.2) 273) (hy:Box w y.1 (fp y.2) 273) :
 Calls Tryz.prog 207 #[eY x,eY y] w fun e w'=>e=.returned (.int .i64 (Lib.compareInt x.2.u y.2.u))∧Below w.heap.size w w':=by
 refine aF (N:=14) Tryz.func207 rfl rfl rfl (fun _ Y=>?_);have Z:=St.init w;refine ab (ah ?_);refine ma Y rfl rfl fun _ Y=>?_;refine ae (aa (ab ?_));apply bA Y [false,false,false,false,false,false,false,false] _ (by kernel_rfl)
 case h=>
  refine qv Y (fun X hX=>ak (Y.ev rfl)) fun _ Y=>?_;refine qv Y (fun X hX=>bo (Y.ev rfl)) fun _ Y=>?_;refine qv Y (fun X hX=>aj (off:=2) (by kernel_rfl) (Y.ev rfl) rfl) fun _ Y=>?_;refine qv Y (fun X hX=>aw (by kernel_rfl) (Y.ev rfl) ((hx.below (Z.grow hX).below).cells 2)) fun _ Y=>?_;refine qv Y (fun X hX=>ak (Y.ev rfl)) fun _ Y=>?_;refine qv Y (fun X hX=>bo (Y.ev rfl)) fun _ Y=>?_;refine qv Y (fun X hX=>aj (off:=2) (by kernel_rfl) (Y.ev rfl) rfl) fun _ Y=>?_;refine qv Y (fun X hX=>aw (by kernel_rfl) (Y.ev rfl) ((hy.below (Z.grow hX).below).cells 2)) fun _ Y=>?_;refine aI ?_;refine bF fun _ hX10 hΦ10=>?_;have Z:=Z.grow hX10;refine bD Y (wn rfl) (aq (fun _ _=>by kernel_rfl) (Y.evs rfl) rfl) rfl rfl (rq _ _ _) fun _ Y=>?_;refine ma Y rfl rfl fun _ Y=>?_;refine ae (aa (wp_ret ?_));refine bm Y rfl rfl ?_;exact⟨rfl,Z.below⟩
 case hB=>kernel_rfl
 case hst=>rfl
def jz (m x:Nat × Lsr):Nat × Lsr:=if m.2.u<x.2.u then x else m
theorem AG {m x:Nat × Lsr} (h:m.2.u<x.2.u):jz m x=x:=if_pos h
theorem xk {m x:Nat × Lsr} (h:¬m.2.u<x.2.u):jz m x=m:=if_neg h
theorem sK {X:World} {B b o k:Nat} {l:List (Nat × Lsr)} (hr:Rd X B (some ⟨b,o,none⟩) (l.map eY)) (hk:k<l.length):∀(j:Nat) (u:Value),[eY l[k]][j]? = some u→X.cell? ⟨b,o+k*1+j,none⟩=some u
 | 0,u,hu=>by
  obtain⟨b',o',e,_,hc⟩:=hr k u (by rw[List.getElem?_map,List.getElem?_eq_getElem hk];exact hu);injection e with e;injection e with e1 e2;subst e1 e2;rw[Nat.mul_one,Nat.add_zero];exact hc
 | j+1,u,hu=>by simp at hu
theorem cmpI_pos {x y:Int}:Lib.compareInt x y>0↔y<x:=by unfold Lib.compareInt;split<;>(try split)<;>omega
theorem oP:∀(zs:List (Nat × Lsr)) (z:Nat × Lsr),zs.foldl jz z∈z::zs
 | [],z=>List.mem_cons_self
 | x::r,z=>by
  rw[List.foldl_cons];rcases List.mem_cons.1 (oP r (jz z x)) with h | h
  · rw[h]
    unfold jz
    split
    · exact List.mem_cons_of_mem _ (List.mem_cons_self)
    · exact List.mem_cons_self
  · exact List.mem_cons_of_mem _ (List.mem_cons_of_mem _ h)
theorem ry (z:Nat × Lsr) (zs:List (Nat × Lsr)) (A:Option Addr) (c:Nat) (w:World) (hr:Rd w w.heap.size A ((z::zs).map eY)) (hb:∀x∈z::zs,Box w x.1 (fp x.2) 273) (hl:zs.length≤1000) :
 Calls Tryz.prog 206 #[.slice A (z::zs).length c,.func (.func 207) #[] #[]] w fun e w'=>e=.returned (eY (zs.foldl jz z))∧Below w.heap.size w w':=by
 obtain⟨b,o,rfl,hB,_⟩:=hr.opened (by simp);have hzl:(z::zs).length=zs.length+1:=rfl;refine aF (N:=33) Tryz.func206 rfl rfl rfl (fun _ Y=>?_);have Z:=St.init w;refine ab (ah ?_);refine ma Y rfl rfl fun _ Y=>?_;refine ae (aa (ab (ab (ah ?_))));refine mv Y rfl rfl fun _ Y=>?_;refine sv Y (bf Tryz.underlying209 (Y.ev rfl)) fun _ Y=>?_;refine sv Y (bq (Y.ev rfl) (Y.ev rfl)) fun _ Y=>?_;refine ae (aa ?_);refine iQ (Y.ev rfl) ((by simp;omega)) ?_;refine wp_skip (aa (ab (ah ?_)));refine mv Y rfl rfl fun _ Y=>?_;refine sv Y (aC (i:=0) (sz:=1) Tryz.underlying209 (by kernel_rfl) (Y.ev rfl) (Y.ev rfl) (by omega) (by omega) rfl) fun _ Y=>?_;refine sv (v:=eY z) Y (aw (by kernel_rfl) (Y.ev rfl) ((sK (Z.rd0 hr) (show 0<(z::zs).length by omega)) 0 _ rfl)) fun _ Y=>?_;refine ma Y rfl rfl fun _ Y=>?_;refine ae (aa (ab (ab (ah ?_))));refine ma Y rfl rfl fun _ Y=>?_;refine ae (aa (wp_block ?_));refine bz Y Z [4,0,1] (fun (j:Nat)=>[(6,.int .i64 ((j+1:Nat):Int)),(5,eY ((zs.take j).foldl jz z))]) (fun (j:Nat)=>j≤zs.length) (fun (j:Nat) L=>L) (fun (j:Nat)=>zs.length-j) (0) (Nat.zero_le _) ⟨rfl,rfl,rfl,rfl,rfl,trivial⟩ (Z) ?_;intro j _ _ hF0 Y Z;refine ab (ab (ah ?_));refine mv Y rfl rfl fun _ Y=>?_;refine mv Y rfl rfl fun _ Y=>?_;refine sv Y (bf Tryz.underlying209 (Y.ev rfl)) fun _ Y=>?_;refine sv Y (bq (Y.ev rfl) (Y.ev rfl)) fun _ Y=>?_;refine ae (aa ?_);refine aB (Y.ev rfl) (fun hc1=>?_) (fun hc1=>?_)
 ·
  have hlt:j<zs.length:=by have:=of_decide_eq_true hc1;omega
  have hm:=oP (zs.take j) z
  have hm2:(zs.take j).foldl jz z∈z::zs:=by
   rcases List.mem_cons.1 hm with h | h
   · rw[h];exact List.mem_cons_self
   · exact List.mem_cons_of_mem _ (List.mem_of_mem_take h)
  have hx2:zs[j]∈z::zs:=List.mem_cons_of_mem _ (List.getElem_mem hlt)
  have htk:(zs.take (j+1)).foldl jz z=jz ((zs.take j).foldl jz z) zs[j]:=by rw[List.take_succ_eq_append_getElem hlt,List.foldl_append];rfl
  refine wp_skip (aa (ab (wp_block (ab (ah ?_)))));refine mv Y rfl rfl fun _ Y=>?_;refine mv Y rfl rfl fun _ Y=>?_;refine mv Y rfl rfl fun _ Y=>?_;refine sv Y (aC (i:=j+1) (sz:=1) Tryz.underlying209 (by kernel_rfl) (Y.ev rfl) (Y.ev rfl) (by omega) (by omega) rfl) fun _ Y=>?_;refine sv (v:=eY zs[j]) Y (aw (by kernel_rfl) (Y.ev rfl) ((sK (Z.rd0 hr) (show j+1<(z::zs).length by omega)) 0 _ rfl)) fun _ Y=>?_;refine mv Y rfl rfl fun _ Y=>?_;refine aS Y (wn rfl) (dx (fun _ _=>by kernel_rfl) (Y.ev rfl) (Y.evs rfl) rfl) rfl rfl Z (wq zs[j] ((zs.take j).foldl jz z) _ ((hb _ hx2).below Z.below) ((hb _ hm2).below Z.below)) fun _ _ Y Z=>?_;refine sv Y (cD (Y.ev rfl) (Y.ev rfl)) fun _ Y=>?_;refine ae (aa ?_);refine aB (Y.ev rfl) (fun hc2=>?_) (fun hc2=>?_)
  ·
   have hgt:((zs.take j).foldl jz z).2.u<zs[j].2.u:=cmpI_pos.1 (of_decide_eq_true hc2);refine ah ?_;refine mv Y rfl rfl fun _ Y=>?_;refine mv Y rfl rfl fun _ Y=>?_;refine sv Y (aC (i:=j+1) (sz:=1) Tryz.underlying209 (by kernel_rfl) (Y.ev rfl) (Y.ev rfl) (by omega) (by omega) rfl) fun _ Y=>?_;refine sv Y (bb (v':=eY ((zs.take (j+1)).foldl jz z)) (by show eY zs[j]=_;rw[htk,AG hgt]) (aw (by kernel_rfl) (Y.ev rfl) ((sK (Z.rd0 hr) (show j+1<(z::zs).length by omega)) 0 _ rfl))) fun _ Y=>?_;refine ma Y rfl rfl fun _ Y=>?_;refine ae (aO (aa (ah ?_)));refine mv Y rfl rfl fun _ Y=>?_;refine sv Y (aV (Y.ev rfl) (Y.ev rfl) (by omega)) fun _ Y=>?_;refine ma Y rfl rfl fun _ Y=>?_;refine ae (aa ?_);exact⟨j+1,(by omega),hlt,Y.re ⟨rfl,rfl,rfl,rfl,rfl,trivial⟩,Z⟩
  ·
   have hgt:¬((zs.take j).foldl jz z).2.u<zs[j].2.u:=mt cmpI_pos.2 (of_decide_eq_false hc2);rw[show(zs.take j).foldl jz z=(zs.take (j+1)).foldl jz z by rw[htk,xk hgt]] at Y;refine wp_skip (aO (aa (ah ?_)));refine mv Y rfl rfl fun _ Y=>?_;refine sv Y (aV (Y.ev rfl) (Y.ev rfl) (by omega)) fun _ Y=>?_;refine ma Y rfl rfl fun _ Y=>?_;refine ae (aa ?_);exact⟨j+1,(by omega),hlt,Y.re ⟨rfl,rfl,rfl,rfl,rfl,trivial⟩,Z⟩
 ·
  have hge:zs.length≤j:=by have:=of_decide_eq_false hc1;omega
  rw[List.take_of_length_le hge] at Y;refine wp_exit ?_;refine av ?_;refine av ?_;refine bn ?_;refine aa (ab (ah ?_));refine mv Y rfl rfl fun _ Y=>?_;refine ma Y rfl rfl fun _ Y=>?_;refine ae (aa (wp_ret ?_));refine bm Y rfl rfl ?_;exact⟨rfl,Z.below⟩
set_option maxRecDepth 4000
open Go.RowKit Go.Sort Go.Shelf
theorem St.outer2 {M:List Nat} {w X X':World} {L1 L1' L2:List Ent} (h:St M w X (L1 ++ L2)) (h':St (fP X L1) X X' L1'):St M w X' (L1' ++ L2):=by
 have hs:=List.pairwise_append.1 h.sep;have hd:∀b,b∈fP X L1→∃e∈L1,e.dom b:=fun b hb=>(mem_domsL.1 hb).2
 have hL2:∀f∈L2,∀b,f.dom b→b<X.heap.size∧b∉fP X L1:=fun f hf b hb=>⟨(h.new f (List.mem_append.2 (.inr hf)) b hb).2,fun hm=>by
  obtain⟨e,he,heb⟩:=hd b hm
  exact hs.2.2 e he f hf b heb hb⟩
 refine⟨h'.os.trans h.os,h'.tape.trans h.tape,h'.output.trans h.output,Nat.le_trans h.size h'.size,fun b hb hM=>?_,fun e he=>?_,fun e he b hb=>?_,List.pairwise_append.2 ⟨h'.sep,hs.2.1,fun e he f hf b hb hfb=>?_⟩⟩
 · refine(h'.block b (Nat.lt_of_lt_of_le hb h.size) (fun hm=>?_)).trans (h.block b hb hM)
   obtain⟨e,he,heb⟩:=hd b hm;rcases (h.new e (List.mem_append.2 (.inl he)) b heb).1 with h1 | h1
   · omega
   · exact hM h1
 · rcases List.mem_append.1 he with he | he
   · exact h'.ok e he
   · exact Ent.ok_of (h.ok e (List.mem_append.2 (.inr he))) (fun b hb=>h'.block b (hL2 e he b hb).1 (hL2 e he b hb).2)
 · rcases List.mem_append.1 he with he | he
   · refine⟨?_,(h'.new e he b hb).2⟩
     rcases (h'.new e he b hb).1 with h1 | h1
     · exact .inl (Nat.le_trans h.size h1)
     · obtain⟨f,hf,hfb⟩:=hd b h1
       exact(h.new f (List.mem_append.2 (.inl hf)) b hfb).1
   · exact⟨(h.new e (List.mem_append.2 (.inr he)) b hb).1,Nat.lt_of_lt_of_le (h.new e (List.mem_append.2 (.inr he)) b hb).2 h'.size⟩
 · have h2:=hL2 f hf b hfb
   rcases (h'.new e he b hb).1 with h1 | h1
   · omega
   · exact h2.2 h1
set_option maxRecDepth 4000
open Go.RowKit Go.Sort Go.Shelf
def uN:Lsr:=⟨0,0,0⟩
def A6:List (Nat × Lsr)→Option (Nat × Lsr)
 | []=>none
 | z::zs=>some (zs.foldl jz z)
abbrev ot (σ:Type):=σ→Lsr→Rcd→σ × Lsr × Int
def il {σ:Type} (l:List Rcd) (tk:ot σ):Nat→List (Nat × Lsr)→σ→List (Nat × Lsr) × σ × Int
 | 0,ls,s=>(ls,s,26)
 | f+1,ls,s=>match A6 ls with
  | none=>(ls,s,0)
  | some m=>if m.2.u=0 then (ls,s,0) else match eE l m.2.u with
   | none=>(ls,s,6)
   | some r=>if cd r.e=true∧r.e.t=m.2.i then
    (if (tk s ⟨m.2.i,m.2.l,dM r.e⟩ r).2.2≠0 then (ls,s,(tk s ⟨m.2.i,m.2.l,dM r.e⟩ r).2.2)
     else il l tk f (ls.map fun x=>if x.1=m.1 then (x.1,(tk s ⟨m.2.i,m.2.l,dM r.e⟩ r).2.1) else x) (tk s ⟨m.2.i,m.2.l,dM r.e⟩ r).1) else (ls,s,6)
theorem zd {z:Nat × Lsr} {zs:List (Nat × Lsr)} (b:Nat) (h:∀x∈z::zs,0≤x.2.u):(zs ++ [(b,uN)]).foldl jz z=zs.foldl jz z:=by
 rw[List.foldl_append];show jz (zs.foldl jz z) (b,uN)=_;exact xk (by have:=h _ (oP zs z);show ¬(zs.foldl jz z).2.u<0;omega)
set_option maxRecDepth 4000
open Go.RowKit Go.Sort Go.Shelf
def iD (ls:List (Nat × Lsr)) (b:Nat) (x:Lsr):List (Nat × Lsr):=ls.map fun y=>if y.1=b then (y.1,x) else y
theorem gv (ls:List (Nat × Lsr)) (b:Nat) (x:Lsr):(iD ls b x).map Prod.fst=ls.map Prod.fst:=by
 unfold iD;rw[List.map_map];apply List.map_congr_left;intro y _;show(if y.1=b then (y.1,x) else y).1=y.1
 split<;>rfl
theorem y9 {ls ls':List (Nat × Lsr)} (h:ls.map Prod.fst=ls'.map Prod.fst):ls.map eY=ls'.map eY:=by
 have e:∀xs:List (Nat × Lsr),xs.map eY=(xs.map Prod.fst).map fun b=>Value.pointer (some ⟨b,0,none⟩):=fun xs=>by rw[List.map_map];rfl
 rw[e,e,h]
theorem yQ {ls:List (Nat × Lsr)} {b:Nat} (h:∀x∈ls,0≤x.2.u):∃z zs,ls ++ [(b,uN)]=z::zs∧((A6 ls=none∧zs.foldl jz z=(b,uN))∨(∃m,m∈ls∧A6 ls=some m∧zs.foldl jz z=m)):=by
 cases ls with
 | nil=>exact⟨(b,uN),[],rfl,.inl ⟨rfl,rfl⟩⟩
 | cons z zs=>exact⟨z,zs ++ [(b,uN)],rfl,.inr ⟨zs.foldl jz z,oP zs z,rfl,zd b h⟩⟩
theorem oJ {P:Program} {ops:Array Oper} {Q:Exit→Act→World→Prop} {rest:List Oper} {o:Oper} {a:Act} {X w:World} {N d:Nat} {sl:List (Nat × Value)} {M:List Nat} {L1 L2:List Ent} {ds:List Deferred} {ι:Type} {f:FuncId} {args:Array Value} {V:ι→Value} {F:ι→Prop} {E1:ι→List Ent}
 (ha:Has ds a N sl) (hw:Region.wanted o (yielded ops a.tmps)=true) (hx:(execOp a.eval o).run P X=.ok (.enter f args) X) (hd:o.dst=some d) (hN:Nat.blt d N=true) (hS:St M w X (L1 ++ L2))
 (hc:Calls P f args X fun r X'=>∃p,r=.returned (V p)∧F p∧St (fP X L1) X X' (E1 p)) (k:∀p a' X',Has ds a' N ((d,V p)::sl)→F p→St M w X' (E1 p ++ L2)→wpList P ops Q rest a' X'):wpList P ops Q (o::rest) a X:=
 jO ha hw hx hd hN hc fun r X' ⟨p,hr,hF,hU⟩=>⟨V p,hr,fun a' ha'=>k p a' X' ha' hF (hS.outer2 hU)⟩
theorem St.frontL {M:List Nat} {w X:World} {L1 L2:List Ent} (h:St M w X (L1 ++ L2)):St (fP X L1) X X L1:=(h.sub (List.sublist_append_left L1 L2)).inner
end Go.Proofs.YtcfdpfmchchkaaaGreatDoor
