/- Chapter 22, plain -/
import Derived.Test.YtcfdpfmchchkaaaGreatDoorRcRv
import Derived.Test.YtcfdpfmchchkaaaGreatDoorOpBack
namespace Go.Proofs.YtcfdpfmchchkaaaGreatDoor
set_option maxHeartbeats 2000000
set_option maxRecDepth 4000
set_option linter.unusedVariables false
set_option linter.unusedSimpArgs false
open Go.RowKit Go.Sort Go.Shelf
def gz (l:List Rcd):Nat→Int→Int→Int
 | 0,_,o=>o
 | n+1,i,o=>match dx l i with | none=>o | some x=>gz l n x.e.p (min o i)
def k8 (l:List Rcd):Int→List Trn→Int
 | o,[]=>o
 | o,x::ts=>k8 l (gz l (l.length+1) x.l o) ts
def iy:Int→List Dty→Int
 | o,[]=>o
 | o,x::ds=>iy (min o x.l) ds
def zU (l:List Rcd) (t:Tbl) (c:Int):Int:=k8 l (iy c t.ds) t.ts
theorem sk {ds:List Dty} {k:Nat} (h:k<ds.length) (o:Int):iy o (ds.take (k+1))=min (iy o (ds.take k)) ds[k].l:=by
 have b:∀(a:List Dty) (o:Int) (x:Dty),iy o (a ++ [x])=min (iy o a) x.l:=by
  intro a
  induction a with
  | nil=>intro o x;rfl
  | cons y a ih=>intro o x;exact ih _ x
 rw[List.take_succ_eq_append_getElem h,b]
theorem sF {l:List Rcd} {ts:List Trn} {k:Nat} (h:k<ts.length) (o:Int):k8 l o (ts.take (k+1))=gz l (l.length+1) ts[k].l (k8 l o (ts.take k)):=by
 have b:∀(a:List Trn) (o:Int) (x:Trn),k8 l o (a ++ [x])=gz l (l.length+1) x.l (k8 l o a):=by
  intro a
  induction a with
  | nil=>intro o x;rfl
  | cons y a ih=>intro o x;exact ih _ x
 rw[List.take_succ_eq_append_getElem h,b]
theorem ug {l:List Rcd} {i:Int} (h:∀k (a:k<l.length),l[k].l≠i):dx l i=none:=by
 unfold dx;rw[List.find?_eq_none];intro x hx;obtain⟨k,a,rfl⟩:=List.getElem_of_mem hx
 simpa using h k a
theorem yL {l:List Rcd} (b:VldH l l.length) {i:Int} {x:Rcd} (h:dx l i=some x):∃k,∃a:k<l.length,l[k]=x∧l[k].l=i:=by
 unfold dx at h;obtain⟨k,a,e⟩:=List.getElem_of_mem (List.mem_of_find?_eq_some h);exact⟨k,a,e,by rw[e];simpa using List.find?_some h⟩
theorem prev_lt {l:List Rcd} (c:VldH l l.length) {i k:Nat} (f:i<l.length) (g:k<l.length) (h:l[k].l=l[i].e.p):k<i:=by
 by_cases m:l[i].e.k=5
 · have a:=c.2 i f f
   have s:l[i].e.p=0:=by
    unfold dV at a;by_cases d:eu l i l[i]=0
    · rw[if_neg (fun q=>q d),if_pos m] at a
      unfold Ft at a;by_cases n:l[i].e.t≠0∨l[i].e.p≠0
      · rw[if_pos n] at a;cases a
      · omega
    · rw[if_pos d] at a;exact absurd a d
   have:=(c.e0 g).1;omega
 · rcases yX f (fun j b _=>c.2 j b b) m with ⟨a,_⟩ | ⟨j,a,_,h3⟩
   · have:=c.fst g
     omega
   · obtain⟨r,y,o,_⟩:=fq a
     have b:j<l.length:=by omega
     have e:jK l j=l[j].l:=by unfold jK;rw[List.getElem?_eq_getElem b]
     have:=c.inj g b (h.trans (h3.trans e));omega
theorem rO {l:List Rcd} (b:VldH l l.length):∀(n m:Nat) (i o:Int),(∀k (a:k<l.length),l[k].l=i→k<n)→(∀k (a:k<l.length),l[k].l=i→k<m)→gz l n i o=gz l m i o
 | 0,0,i,o,_,_=>rfl
 | 0,m+1,i,o,h1,_=>by
  rw[gz,gz,ug fun k a e=>absurd (h1 k a e) (Nat.not_lt_zero _)]
 | n+1,0,i,o,_,h2=>by
  rw[gz,gz,ug fun k a e=>absurd (h2 k a e) (Nat.not_lt_zero _)]
 | n+1,m+1,i,o,h1,h2=>by
  rw[gz,gz]
  cases hf:dx l i with
  | none=>rfl
  | some x=>
   obtain⟨k,a,rfl,e⟩:=yL b hf;have d:=h1 k a e;have a2:=h2 k a e;exact rO b n m _ _ (fun j c q=>by have:=prev_lt b a c q;omega) (fun j c q=>by have:=prev_lt b a c q;omega)
theorem xT {l:List Rcd} (b:VldH l l.length) {k:Nat} (c:k<l.length) (o:Int):gz l (l.length+1) l[k].l o=gz l (l.length+1) l[k].e.p (min o l[k].l):=by
 rw[gz]
 have hf:dx l l[k].l=some l[k]:=by
  have:=b.fnd c
  rwa [List.take_length] at this
 rw[hf];exact rO b _ _ _ _ (fun j a _=>a) (fun j a _=>by omega)
theorem yO {l:List Rcd} {i:Int} (h:dx l i=none) (o:Int):gz l (l.length+1) i o=o:=by
 rw[gz,h]
theorem xU {l:List Rcd} (a:VldH l l.length):∀(n:Nat) (i o:Int),0≤o→o≤4294967296→0≤gz l n i o∧gz l n i o≤o
 | 0,i,o,h,_=>⟨h,Int.le_refl _⟩
 | n+1,i,o,h,h'=>by
  rw[gz]
  cases hf:dx l i with
  | none=>exact⟨h,Int.le_refl _⟩
  | some x=>
   obtain⟨k,c,rfl,e⟩:=yL a hf;have:=(a.e0 c).1;obtain⟨b,d⟩:=xU a n l[k].e.p (min o i) ab ab;show 0≤gz l n l[k].e.p (min o i)∧gz l n l[k].e.p (min o i)≤o;exact⟨b,by omega⟩
theorem xR {l:List Rcd} (a:VldH l l.length):∀(ts:List Trn) (o:Int),0≤o→o≤4294967296→0≤k8 l o ts∧k8 l o ts≤o
 | [],o,h,_=>⟨h,Int.le_refl _⟩
 | x::ts,o,h,h'=>by
  obtain⟨d,b⟩:=xU a (l.length+1) x.l o h h';obtain⟨h3,c⟩:=xR a ts _ d ab;exact⟨h3,Int.le_trans c b⟩
theorem yw:∀(ds:List Dty) (o:Int),(∀x∈ds,0≤x.l)→0≤o→0≤iy o ds∧iy o ds≤o
 | [],o,_,h=>⟨h,Int.le_refl _⟩
 | x::ds,o,hx,h=>by
  have:=hx x (List.mem_cons_self ..);obtain⟨b,c⟩:=yw ds (min o x.l) (fun y a=>hx y (List.mem_cons_of_mem _ a)) ab;exact⟨b,by show iy (min o x.l) ds≤o;omega⟩
theorem yC {l:List Rcd} (f:VldH l l.length) {t:Tbl} (ht:TblOk t) {c:Int} (a:0≤c) (g:c≤4294967296):0≤zU l t c∧zU l t c≤c:=by
 obtain⟨b,a2⟩:=yw t.ds c (fun x hx=>by obtain⟨k,d,rfl⟩:=List.getElem_of_mem hx;have:=(ht.ds k d).l.1;omega) a;obtain⟨b1,e⟩:=xR f t.ts (iy c t.ds) b ab;exact⟨b1,Int.le_trans e a2⟩
def gT (t:Tbl):Lge:=⟨5,0,0,0,0,false,Fv,bs (jx t)⟩
theorem sA {t:Tbl} (h:TblOk t):(bs (jx t)).size≤1100:=by
 have hf:∀{α:Type} {f:α→List UInt8} {n:Nat} (hf:∀x,(f x).length=n) (l:List α),(l.flatMap f).length=n*l.length:=fun {α f n} hf l=>by
  induction l with
  | nil=>rfl
  | cons x l ih=>rw[List.flatMap_cons,List.length_append,hf,ih,List.length_cons,Nat.mul_succ];omega
 rw[bq];unfold jx;rw[List.length_append,List.length_append,List.length_append,aB,aB,hf lT,hf l7];have:=h.n;have:=h.m;omega
theorem E0 (t:Tbl) (h:TblOk t):FewE (gT t):=⟨Nat.zero_le _,Nat.zero_le _,Nat.le_trans (sA h) au⟩
def mQ (r:RngP) (t:Tbl):RngP:=dL r (a8 (gT t))
def qL (r:RngP) (t:Tbl):Int:=zU (cO r).1 t (r.nx+1)
def fW (r:RngP) (t:Tbl):Int:=aw [(cO r).2.2,dz t]
def tS (r:RngP) (t:Tbl):Int:=
 if fW r t≠0 then fW r t else if e8 r (gT t)≠0 then e8 r (gT t) else iQ (mQ r t) (r.nx+1) (qL r t)
def iN (r:RngP) (t:Tbl):RngP:=if tS r t=0 then gh (mQ r t) (r.nx+1) (qL r t) else du
theorem oE {r:RngP} {t:Tbl} (h:fW r t=0):OkP r∧TblOk t∧(cO r).2.2=0∧VldH (cO r).1 (cO r).1.length:=by
 unfold fW at h;rw[aS] at h;have a:=h (cO r).2.2 bm;have c:=h (dz t) bm;obtain⟨d,b,h3⟩:=l0 a;refine⟨d,tblE_zero.1 c,a,?_⟩;rw[h3];exact(kF b).2
theorem yR {r:RngP} {x:Lge} (h:cD x≠0):e8 r x=cD x:=by unfold e8;rw[if_pos h]
theorem EH {r:RngP} {x:Lge} (h:cD x=0) (a:OkP r):e8 r x=eN r (a8 x):=by
 unfold e8;rw[if_neg (fun q=>q h),if_neg (fun q=>q (ok_iff.2 a))]
theorem nq {r:RngP} {t:Tbl} (h:fW r t=0) (a:e8 r (gT t)=0):OkP (mQ r t)∧cD (gT t)=0∧wV r (gT t)=mQ r t:=by
 obtain⟨c,d,_⟩:=oE h
 have b:wV r (gT t)=mQ r t:=by unfold wV mQ;rw[if_pos a]
 refine⟨by rw[←b];exact F6 c _,?_,b⟩;by_cases q:cD (gT t)=0
 · exact q
 · rw[yR q] at a;exact absurd a q
theorem FV {r:RngP} {t:Tbl} (h:tS r t=0) (A:(cO (iN r t)).2.2=0):kM (cO (iN r t)).1 (iN r t).r.c=(t,0):=by
 have Y:fW r t=0:=by
  unfold tS at h;by_cases q:fW r t=0
  · exact q
  · rw[if_pos q] at h;exact absurd h q
 have u:e8 r (gT t)=0:=by
  unfold tS at h;rw[if_neg (fun q=>q Y)] at h;by_cases q:e8 r (gT t)=0
  · exact q
  · rw[if_pos q] at h;exact absurd h q
 have f:=(nq Y u).2.1;obtain⟨K,ht,O,M⟩:=oE Y
 have I:iN r t=gh (mQ r t) (r.nx+1) (qL r t):=by unfold iN;rw[if_pos h]
 rw[I] at A ⊢;obtain⟨N,p,E⟩:=l0 A;have C:=K.h.nx;have d:qL r t≤r.nx+1:=(yC M ht ab ab).2;obtain⟨hb1,v⟩:=zj f
 have z:a8 (gT t)=bs (bK (gT t)):=by unfold a8;rw[if_pos f]
 obtain⟨B,hB⟩:∃B,a8 (gT t)=B:=⟨_,rfl⟩
 have i:(gh (mQ r t) (r.nx+1) (qL r t)).rs=(r.rs.filter fun x=>decide (qL r t≤x.l)) ++ [⟨r.nx+1,r.r.s,B⟩]:=by
  show((r.rs ++ [(⟨r.nx+1,r.r.s,a8 (gT t)⟩:RecP)]).filter fun x=>decide (qL r t≤x.l))=_;rw[hB,List.filter_append,List.filter_cons,if_pos (ar d),List.filter_nil]
 obtain⟨L,D⟩:∃L,L=dy (r.rs.filter fun x=>decide (qL r t≤x.l)):=⟨_,rfl⟩
 have g:dy (gh (mQ r t) (r.nx+1) (qL r t)).rs=L ++ [⟨r.nx+1,gT t⟩]:=by
  rw[i,D];unfold dy;rw[List.map_append];show _ ++ [(⟨r.nx+1,dW B⟩:Rcd)]=_;rw[←hB,z,v]
 rw[E];show kM (dy (gh (mQ r t) (r.nx+1) (qL r t)).rs) (r.nx+1)=(t,0);rw[g] at p ⊢;have b:=(kF p).2;unfold kM;rw[if_neg (fun q=>q p)];unfold iI;rw[if_neg ab]
 have a:(L ++ [(⟨r.nx+1,gT t⟩:Rcd)])[L.length]'bm=⟨r.nx+1,gT t⟩:=by simp
 have hf:dx (L ++ [(⟨r.nx+1,gT t⟩:Rcd)]) (r.nx+1)=some ⟨r.nx+1,gT t⟩:=by
  have Y:=b.fnd (k:=L.length) bm;rw[List.take_length] at Y;rw[a] at Y;exact Y
 rw[hf];show(if (5:Int)≠5 then (iu,(6:Int)) else _)=_;rw[if_neg au]
 have m:((L ++ [(⟨r.nx+1,gT t⟩:Rcd)]).filter fun y=>decide (r.nx+1<y.l))=[]:=by
  rw[List.filter_eq_nil_iff];intro y H;obtain⟨k,w,rfl⟩:=List.getElem_of_mem H
  have n:k≤L.length:=by simp at w;omega
  have:(L ++ [(⟨r.nx+1,gT t⟩:Rcd)])[k].l≤r.nx+1:=by
   rcases Nat.eq_or_lt_of_le n with e | e
   · subst e;rw[a];exact Int.le_refl _
   · have:=b.lt (j:=k) (k:=L.length) e bm
     rw[a] at this;exact Int.le_of_lt this
  simpa using this
 rw[m]
 have o:bl (bs (jx t))=jx t:=by rw[jJ]
 show Bp (dg (bl (bs (jx t)))) []=(t,0);rw[o];obtain⟨J,F⟩:=AA (tblE_zero.2 ht)
 have G:dg (jx t)=t:=by unfold dg;rw[if_pos J,F]
 rw[G];show(if dz t≠0 then _ else (t,(0:Int)))=_;rw[if_neg (fun q=>q (tblE_zero.2 ht))]
open Go.RowKit Go.Sort Go.Shelf
theorem wX (l:List Rcd) (A:Option Addr) (c:Nat) (t:Tbl) (TA:Option Addr) (tc:Nat) (TB:Option Addr) (td:Nat) (n:Int) (w:World) (hr:Rd w w.heap.size A (l.flatMap cm)) (ht1:Rd w w.heap.size TA (t.ts.flatMap cc)) (ht2:Rd w w.heap.size TB (t.ds.flatMap cw))
 (hv:VldH l l.length) (hl:l.length≤1000) (htl:t.ts.length≤1000∧t.ds.length≤1000) :
 bz 118 #[.slice A l.length c,bW t TA tc TB td,.int .i64 n] w (.int .i64 (zU l t n)):=by
 have hsl:cC Rcd.l l:=by have:=hv.srt;rwa [List.take_length] at this
 refine aq (N:=50) Tryz.func118 rfl rfl rfl (fun _ Y=>?_);have Z:=St.init w;refine ai (an ?_);refine nb Y rfl rfl Z fun b4 _ _ Zh Y Z=>GO 19 ?_;intro _ Y;refine aY Y Z [17,16,6,4,0] (fun (j:Nat)=>[(7,.int .i64 (iy n (t.ds.take j))),(18,.int .i64 j)]) (fun (j:Nat)=>j≤t.ds.length) (fun (j:Nat) L=>L) (fun (j:Nat)=>t.ds.length-j) (0) (Nat.zero_le _) bN (Z) ?_;intro j _ _ Ze Y Z;refine GO 6 ?_;intro _ Y;refine ak (Y.ev rfl) (fun Za=>?_) (fun Za=>?_)
 ·
  have hlt:j<t.ds.length:=by have:=of_decide_eq_true Za;omega
  obtain⟨b,o,rfl,hB,_⟩:=ht2.opened (aQ bU au ab);refine wp_skip (aj (ai (wp_block (ai (an ?_)))));refine sv Y (av (i:=j) (sz:=3) eP aa (Y.ev rfl) (Y.ev rfl) ab ab rfl) fun _ Y=>?_;refine sv (v:=fV t.ds[j]) Y (ag aa aa (Y.ev rfl) (aZ bU (Z.rd0 ht2) hlt)) fun _ Y=>?_;refine na (.agg ln) Y rfl Z fun b9 _ _ Zi Y Z=>sw Y Z 0 fun _ Z=>?_;refine GO 6 ?_;intro _ Y;refine sv Y (aA (v':=.int .i64 (iy n (t.ds.take (j+1)))) (congrArg _ (sk hlt n).symm) (tE aa (Y.ev rfl) (Y.ev rfl))) fun _ Y=>?_;refine GO 9 ?_;intro _ Y;exact⟨j+1,by omega,hlt,Y.re bN,Z.sub (.cons _ (.cons_cons _ .slnil))⟩
 ·
  have hge:t.ds.length≤j:=by have:=of_decide_eq_false Za;omega
  obtain rfl:j=t.ds.length:=by have:=Ze;omega
  rw[List.take_length] at Y;refine GO 15 ?_;intro _ Y;refine aY Y Z [29,28,6,0] (fun (k:Nat)=>[(7,.int .i64 (k8 l (iy n t.ds) (t.ts.take k))),(30,.int .i64 k)]) (fun (k:Nat)=>k≤t.ts.length) (fun (k:Nat) L=>L) (fun (k:Nat)=>t.ts.length-k) (0) (Nat.zero_le _) bN (Z) ?_;intro k _ _ Zf Y Z;refine GO 6 ?_;intro _ Y;refine ak (Y.ev rfl) (fun Zb=>?_) (fun Zb=>?_)
  ·
   have hlt:k<t.ts.length:=by have:=of_decide_eq_true Zb;omega
   obtain⟨b,o,rfl,hB,_⟩:=ht1.opened (aQ bG au ab);obtain⟨R,hR⟩:∃R,R=k8 l (iy n t.ds) (t.ts.take (k+1)):=⟨_,rfl⟩;have hRd:=hR;rw[sF hlt] at hRd;refine wp_skip (aj (ai (wp_block (ai (an ?_)))));refine sv Y (av (i:=k) (sz:=4) ed aa (Y.ev rfl) (Y.ev rfl) ab ab rfl) fun _ Y=>?_;refine sv (v:=e9 t.ts[k]) Y (ag aa aa (Y.ev rfl) (aZ bG (Z.rd0 ht1) hlt)) fun _ Y=>?_;refine na (.agg lG) Y rfl Z fun b11 _ _ Zg Y Z=>sw Y Z 0 fun _ Z=>?_;refine GO 10 ?_;intro _ Y;refine aY Y Z [35,34,11,33,32,31,30,29,28,6,0] (fun (q:Int × Int × Nat)=>[(12,.int .i64 q.1),(7,.int .i64 q.2.1)]) (fun (q:Int × Int × Nat)=>gz l (l.length+1) q.1 q.2.1=R∧∀i (hi:i<l.length),l[i].l=q.1→i<q.2.2) (fun (q:Int × Int × Nat) L=>L) (fun (q:Int × Int × Nat)=>q.2.2) ((t.ts[k].l,k8 l (iy n t.ds) (t.ts.take k),l.length)) (⟨hRd.symm,fun i hi _=>hi⟩) bN (Z) ?_;intro q _ _ Zc Y Z;refine GO 5 ?_;intro _ Y;refine cN Y rfl Z (kq l hsl A c q.1 _ (Z.rd0 hr) hl) fun _ _ Y Z=>?_;refine GO 7 ?_;intro _ Y;refine sv Y (mi tk aa (Y.ev rfl) (Y.ev rfl)) fun _ Y=>?_;refine ah (aj ?_);refine ak (Y.ev rfl) (fun Zd=>?_) (fun Zd=>?_)
   ·
    have hn:dx l q.1=none:=qa hsl hr Zd
    have hq:q.2.1=R:=by rw[←Zc.1,yO hn]
    rw[hq,hR] at Y;refine wp_exit ?_;refine dt ?_;refine xy rfl ?_;refine GO 9 ?_;intro _ Y;exact⟨k+1,by omega,hlt,Y.re bN,Z.sub (.cons _ (.cons_cons _ .slnil))⟩
   ·
    obtain⟨b',o',rfl,qk,q1,q2,q3⟩:=iK hsl hr Zd;rw[q3] at Y;generalize jN Rcd.l l q.1=m at qk q1 q2 q3 Y;refine GO 6 ?_;intro _ Y;refine sv Y (tE aa (Y.ev rfl) (Y.ev rfl)) fun _ Y=>?_;refine GO 6 ?_;intro _ Y;refine sv Y (fy 2 (Y.ev rfl)) fun _ Y=>?_;refine sv Y (lx (Y.ev rfl) ((ff (Z.rd0 hr) qk) 2 _ rfl)) fun _ Y=>?_;refine GO 4 ?_;intro _ Y;exact⟨(l[m].e.p,min q.2.1 q.1,m),Zc.2 m qk q1,⟨by rw[←Zc.1,←q1,xT hv qk],fun i hi e=>prev_lt hv qk hi e⟩,Y.re bN,Z⟩
  ·
   have hge:t.ts.length≤k:=by have:=of_decide_eq_false Zb;omega
   obtain rfl:k=t.ts.length:=by have:=Zf;omega
   rw[List.take_length] at Y;refine GO 12 ?_;intro _ Y;refine aI Y rfl rfl ?_;exact⟨rfl,Z.below⟩
theorem FW (r:RngP) (t:Tbl) (a:fW r t=0) (b:e8 r (gT t)=0):tS r t=j5 (mQ r t) (r.nx+1) (qL r t):=by
 unfold tS;rw[if_neg (fun q=>q a),if_neg (fun q=>q b),D5,if_pos (ok_iff.2 (nq a b).1)]
theorem Fj {r:RngP} (d:OkP r):r.rs.length≤1000∧(∀x∈r.rs,I6 x.l)∧∀x∈r.rs,x.b.size≤maxLen:=by
 have e:=d.h.len;refine⟨by omega,fun x hx=>?_,fun x hx=>?_⟩
 · obtain⟨k,c,rfl⟩:=List.getElem_of_mem hx
   obtain⟨a,b,_⟩:=d.rcd k c;unfold I6;omega
 · obtain⟨k,c,rfl⟩:=List.getElem_of_mem hx
   exact Nat.le_trans (d.rcd k c).2.2 au
theorem Gb {r:RngP} {t:Tbl} (b:fW r t=0) (d:e8 r (gT t)=0):(mQ r t).rs.length≤1000∧∀x∈(mQ r t).rs,I6 x.l:=by
 obtain⟨c,a,_⟩:=Fj (nq b d).1;exact⟨c,a⟩
theorem FX {r:RngP} {t:Tbl}:(iN r t).rs.length≤1000∧(∀x∈(iN r t).rs,I6 x.l)∧∀x∈(iN r t).rs,x.b.size≤maxLen:=by
 unfold iN
 split
 · rename_i h
   unfold tS at h;by_cases a:fW r t=0
   · rw[if_neg (fun q=>q a)] at h
     by_cases c:e8 r (gT t)=0
     · rw[if_neg (fun q=>q c)] at h
       exact Fj (ok_iff.1 (Gm (nq a c).1 h).2)
     · rw[if_pos c] at h;exact absurd h c
   · rw[if_pos a] at h;exact absurd h a
 · exact⟨by decide,fun x hx=>(by cases hx),fun x hx=>(by cases hx)⟩
theorem nr (r:RngP) (A:Option Addr) (c:Nat) (t:Tbl) (D:Option Addr) (H:Nat) (C:Option Addr) (F:Nat) (w:World)
 (hr:Rd w w.heap.size A (aJ r.rs)) (I:Rd w w.heap.size D (t.ts.flatMap cc)) (E:Rd w w.heap.size C (t.ds.flatMap cw)) (o:r.rs.length≤1000) (K:∀x∈r.rs,I6 x.l) (hb:∀x∈r.rs,x.b.size≤maxLen) (hF:FolT w) :
 Calls Tryz.prog 51 #[a7 r A c,bW t D H C F] w fun e w'=>∃i:Option Addr × Nat,e=.returned (.tuple #[a7 (iN r t) i.1 i.2,ae (tS r t)]) ∧
  St [] w w' [.row (.slice i.1 (iN r t).rs.length i.2) (iN r t).rs.length 177 3 (aJ (iN r t).rs)]:=by
 have Va:=Nat.le_trans (ya r) o;obtain⟨Y,S⟩:∃Y,Y=tS r t:=⟨_,rfl⟩;have a:=S;unfold tS at a;obtain⟨G,hG⟩:∃G,G=iN r t:=⟨_,rfl⟩;have u:=hG;unfold iN at u;rw[←S] at u;rw[←hG,←S];refine aq (N:=59) Tryz.func51 rfl rfl rfl (fun _ Z=>?_);have U:=St.init w;refine ai (an ?_);refine nb Z rfl rfl U fun b2 _ _ Zk Z U=>nb Z rfl rfl U fun b3 _ _ Zl Z U=>na (.agg ef) Z rfl U fun b4 _ _ Zm Z U=>GO 5 ?_;intro _ Z;refine sv (v:=a7 r A c) Z (ag aa aa (Z.ev rfl) (U.cellsAll (i:=2) rfl)) fun _ Z=>?_;refine df Z (wn rfl) (az bc (Z.evs rfl) rfl) rfl rfl U (q6 r A c _ (U.rd0 hr) o K hb (hF.below U.below)) fun J _ _ Z U=>GO 13 ?_;intro _ Z;refine sv (v:=bW t D H C F) Z (ag aa aa (Z.ev rfl) (U.cellsAll (i:=2) rfl)) fun _ Z=>?_;refine cN Z rfl U (da t D H C F _ (U.rd0 I) (U.rd0 E)) fun _ _ Z U=>?_;refine bV Z (wn rfl) (f:=fun b=>.slice (some ⟨b,0,none⟩) 2 2) (bb cT aa aa (Z.evs2 rfl) rfl rfl rfl au au) rfl rfl U fun Vk _ _ Zi Z U=>cU Z rfl (dq (U.at_ (i:=0) rfl)) fun _ Z=>?_;refine GO 9 ?_;intro _ Z;refine ak (Z.ev rfl) (fun Zc=>?_) (fun Zc=>?_)
 ·
  have y:fW r t≠0:=by unfold fW;simpa using Zc
  rw[if_pos y] at a
  have p:G=du:=by rw[u,if_neg (by rw[a];exact y)]
  have j:Y=fW r t:=a;refine ai (an ?_);refine sv Z (ay (zs:=jG) (pl:=jF) aa aa (Z.evs2 rfl) rfl rfl) fun _ Z=>?_;refine GO 1 ?_;intro _ Z;refine sw Z U 2 fun _ U=>?_;refine GO 5 ?_;intro _ Z;refine br Z rfl rfl rfl U (i:=2) rfl aa aa ?_;refine⟨(none,0),by rw[p,j];rfl,?_⟩;rw[p];exact(U.sub (List.nil_sublist _)).nilRow 177 3
 ·
  have q:fW r t=0:=by unfold fW;simpa using Zc
  rw[if_neg (fun h=>h q)] at a;obtain⟨Vi,B,Vl,V⟩:=oE q;have Jw:=tblE_zero.2 B;refine wp_skip (aj (ai (an ?_)));refine sv (v:=bW t D H C F) Z (ag aa aa (Z.ev rfl) (U.cellsAll (i:=3) rfl)) fun _ Z=>?_;refine cN Z rfl U (jU t D H C F _ (U.rd0 I) (U.rd0 E)) fun _ _ Z U=>?_;rw[if_pos Jw] at Z;refine GO 9 ?_;intro _ Z;refine sv (v:=a7 r A c) Z (ag aa aa (Z.ev rfl) (U.cellsAll (i:=4) rfl)) fun _ Z=>?_;refine sv Z (ay (zs:=[ae 0,ae 0,ae 0,ae 0,ae 0,ae 0,ae 0,.slice none 0 0,ae 0,.slice none 0 0,ae 0]) (pl:=[(0,9),(9,1),(10,1)]) aa aa (Z.evs2 rfl) rfl rfl) fun _ Z=>?_;refine nb Z rfl rfl U fun Jz _ _ Zj Z U=>GO 7 ?_;intro _ Z;refine sv (v:=cZ (gT t)) Z (ay (zs:=jT) (pl:=jS) aa aa (Z.evs2 rfl) rfl rfl) fun _ Z=>?_;replace U:=oG (s:=⟨r,false,A,c,[],none,0,0⟩) (St.pull' ((St.addNil U).nilRow 111 3) 2 rfl);refine kr Z (wn rfl) (az bc (Z.evs rfl) rfl) rfl rfl (Gi Jz ⟨r,false,A,c,[],none,0,0⟩ (gT t) w.heap.size (E0 t B) o K (fun _ h=>by cases h) (Nat.le_refl _) (fun _=>hr) U) fun Vg Zf ⟨d,M,g⟩=>⟨_,M,fun _ Zn=>?_⟩;refine GO 5 ?_;intro _ Z;replace g:=uR g;refine GO 9 ?_;intro _ Z;refine ak (Z.ev rfl) (fun Zd=>?_) (fun Zd=>?_)
  ·
   have y:e8 r (gT t)≠0:=ar Zd;rw[if_pos y] at a
   have p:G=du:=by rw[u,if_neg (by rw[a];exact y)]
   have j:Y=e8 r (gT t):=a;refine ai (an ?_);refine sv Z (ay (zs:=jG) (pl:=jF) aa aa (Z.evs2 rfl) rfl rfl) fun _ Z=>?_;refine GO 1 ?_;intro _ Z;refine sw Z g 5 fun _ U=>?_;refine GO 5 ?_;intro _ Z;refine br Z rfl rfl rfl U (i:=5) rfl aa aa ?_;refine⟨(none,0),by rw[p,j];rfl,?_⟩;rw[p];exact(U.sub (List.nil_sublist _)).nilRow 177 3
  ·
   have Q:e8 r (gT t)=0:=ar Zd;rw[if_neg (fun h=>h Q)] at a;obtain⟨Vf,_,Ve⟩:=nq q Q;have P:=Q;obtain⟨Vb,Jv⟩:=Gb q Q
   have e3:qR ⟨r,false,A,c,[],none,0,0⟩ (gT t) d=⟨mQ r t,true,d.1,d.2,[],none,0,0⟩:=by unfold qR;rw[if_pos P];rfl
   have e4:n5 r (gT t)=r.nx+1:=by unfold n5;rw[if_pos P]
   rw[e3] at g;rw[e4] at Z;have Vc:Rd Zf Zf.heap.size d.1 (aJ (mQ r t).rs):=g.rdOf (i:=2) rfl
   have j:Y=j5 (mQ r t) (r.nx+1) (qL r t):=by rw[S,FW r t q Q]
   refine wp_skip (aj (ai ?_));apply dN Z (fun _=>False) [] [] [false,false,false,false,false,false,false,false,false,true,true,true] _ aa bC
   case h=>
    refine GO 3 ?_;intro _ Z;refine qv (v:=a7 (mQ r t) d.1 d.2) Z (fun X z=>ag aa aa (Z.ev rfl) ((g.grow (Grw.below z)).cellsOf (i:=0) rfl 0 9)) fun _ Z=>?_;refine GO 2 ?_;intro _ Z;refine qv (v:=bW t D H C F) Z (fun X z=>ag aa aa (Z.ev rfl) ((g.grow (Grw.below z)).cellsAll (i:=6) rfl)) fun _ Z=>?_;refine GO 1 ?_;intro _ Z;refine jM Z rfl (fun X z=>wX (cO r).1 J.1 J.2 t D H C F (r.nx+1) _ ((g.grow (Grw.below z)).rdOf (i:=4) rfl) ((g.grow (Grw.below z)).rd0 I) ((g.grow (Grw.below z)).rd0 E) V Va ⟨by have:=B.n;omega,by have:=B.m;omega⟩) fun _ Z=>?_;refine ax ?_;apply cJ (O:=(fun _=>False)) (k:=9) (deps:=[]) (R:=RowU _ _ _ _ _ _) Z rfl rfl rfl bC RowU.stable bC bC
    case hx=>exact fun X z T=>oF (az bc (Z.evs rfl) rfl) (qW (mQ r t) d.1 d.2 (r.nx+1) (qL r t) _ ((g.grow (Grw.below z)).rdOf (i:=2) rfl) Vb Jv) z.size
    intro Vd _ Zg;apply fi (k:=10) (deps:=[9]) (kx:=9) (src:=56) (i:=0) Zg rfl rfl rfl rfl ⟨rfl,rfl⟩ rfl
    case hx=>
     intro X T;obtain⟨_,_,e1,_⟩:=(aN (k:=9) T rfl rfl);exact⟨_,_,e1,rfl⟩
    intro Vh _ Zh;apply fi (k:=11) (deps:=[9]) (kx:=9) (src:=56) (i:=1) Zh rfl rfl rfl rfl ⟨rfl,rfl⟩ rfl
    case hx=>
     intro X T;obtain⟨_,_,e1,_⟩:=(aN (k:=9) T rfl rfl);exact⟨_,_,e1,rfl⟩
    intro Vj _ Z;refine gi (O:=(fun _=>False)) bC fun _ Ze W=>?_;obtain⟨Jy,Jx,rfl,L⟩:=aF W (k:=9) rfl;obtain rfl:=ExtS.get Zg rfl rfl (aF W (k:=10) rfl);obtain rfl:=ExtS.get Zh rfl rfl (aF W (k:=11) rfl);have U:=St.addRow g (g.grow (Grw.below Ze)) (fun e he b hb=>(g.new e he b hb).2) L;refine sw Z U 6 fun _ U=>?_;refine GO 4 ?_;intro _ Z;refine br Z rfl rfl rfl U (i:=6) rfl aa aa ?_;rw[j,show G=(if j5 (mQ r t) (r.nx+1) (qL r t)=0 then gh (mQ r t) (r.nx+1) (qL r t) else du) by rw[u,j]];exact⟨(Jy,Jx),rfl,(U.sub (aL 1))⟩
   case hB=>kernel_rfl
theorem lH (r:RngP) (A:Option Addr) (c:Nat) (B:Option Addr) (d:Nat) (t:Tbl) (TA:Option Addr) (tc:Nat) (TB:Option Addr) (td:Nat) (w:World)
 (hr:Rd w w.heap.size A (aJ r.rs)) (S:Rd w w.heap.size B ((cO r).1.flatMap cm)) (M:Rd w w.heap.size TA (t.ts.flatMap cc)) (F:Rd w w.heap.size TB (t.ds.flatMap cw)) (T:r.rs.length≤1000) (K:fW r t=0) :
 Calls Tryz.prog 52 #[a7 r A c,.slice B (cO r).1.length d,bW t TA tc TB td] w fun e w'=>∃i:Option Addr × Nat,e=.returned (.tuple #[a7 (iN r t) i.1 i.2,ae (tS r t)]) ∧
  St [] w w' [.row (.slice i.1 (iN r t).rs.length i.2) (iN r t).rs.length 177 3 (aJ (iN r t).rs)]:=by
 obtain⟨J,u,Wa,D⟩:=oE K;have Vk:=Nat.le_trans (ya r) T;have Vy:=J.h.nx;have Vm:=u.n;have Vn:=u.m;obtain⟨Y,hY⟩:∃Y,Y=tS r t:=⟨_,rfl⟩;have a:=hY;unfold tS at a;rw[if_neg (fun h=>h K)] at a;obtain⟨G,hG⟩:∃G,G=iN r t:=⟨_,rfl⟩;have s:=hG;unfold iN at s;rw[←hY] at s;rw[←hG,←hY];obtain⟨l,hL⟩:∃l,l=(cO r).1:=⟨_,rfl⟩;rw[←hL] at S D Vk ⊢;refine aq (N:=100) Tryz.func52 rfl rfl rfl (fun _ Z=>?_);have U:=St.init w;refine ai (an ?_);refine nb Z rfl rfl U fun b3 _ _ Zs Z U=>nb Z rfl rfl U fun b5 _ _ Zt Z U=>na (.agg ef) Z rfl U fun b6 _ _ Zu h3 U=>GO 5 ?_;intro _ Z;refine sv (v:=a7 du none 0) Z (ay (zs:=jG) (pl:=jF) aa aa (Z.evs2 rfl) rfl rfl) fun _ Z=>?_;refine na (.agg ef) Z rfl U fun b8 _ _ Zv Z U=>sw Z U 0 fun _ U=>?_;refine mM ?_;refine sv (v:=bW t TA tc TB td) Z (ag aa aa (Z.ev rfl) (U.cellsAll (i:=2) rfl)) fun _ Z=>?_;refine cN Z rfl U (oA t TA tc TB td _ u (U.rd0 M) (U.rd0 F)) fun _ _ Z U=>?_;refine sv (v:=cZ (gT t)) Z (ay (zs:=jT) (pl:=jS) aa aa (Z.evs2 rfl) rfl rfl) fun _ Z=>?_;refine na (.agg q8) Z rfl U fun b9 _ _ Zw Z U=>sw Z U 0 fun _ U=>?_;refine ah (aj (ai (ai (an ?_))));refine sv (v:=cZ (gT t)) Z (ag aa aa (Z.ev rfl) (U.cellsAll (i:=0) rfl)) fun _ Z=>?_;refine cN Z rfl U (gd (gT t) _ (Nat.zero_le _) (Nat.zero_le _) (Nat.le_trans (sA u) au)) fun _ _ Z U=>?_;refine GO 9 ?_;intro _ Z;refine ak (Z.ev rfl) (fun Zd=>?_) (fun Zd=>?_)
 ·
  have f:cD (gT t)≠0:=ar Zd;have e0:=yR (r:=r) f;rw[e0,if_pos f] at a
  have b:G=du:=by rw[s,if_neg (by rw[a];exact f)]
  refine ai (an ?_);refine sv Z (ag aa aa (Z.ev rfl) (U.cellsAll (i:=1) rfl)) fun _ Z=>?_;refine GO 1 ?_;intro _ Z;refine sw Z U 2 fun _ U=>?_;refine GO 5 ?_;intro _ Z;refine br Z rfl rfl rfl U (i:=2) rfl aa aa ?_;refine⟨(none,0),by rw[b,a];rfl,?_⟩;rw[b];exact(U.sub (List.nil_sublist _)).nilRow 177 3
 ·
  have E:cD (gT t)=0:=ar Zd;have e0:=EH E J;rw[e0] at a
  have Ve:∀X,bz 120 #[cZ (gT t)] X (.string (a8 (gT t))):=fun X=>by
   have:=lQ (gT t) X E;unfold a8;rw[if_pos E];exact this
  have Vq:=AS E;refine wp_skip (aj (ai ?_));apply dN Z (fun _=>False) [] [(9,73)] [false,false,false,true,true,true,true,true,true,true,true] _ aa bC
  case h=>
   refine qv (v:=a7 r A c) Z (fun X C=>ag aa aa (Z.ev rfl) ((U.grow (Grw.below C)).cellsAll (i:=4) rfl)) fun _ Z=>?_;refine qv (v:=cZ (gT t)) Z (fun X C=>ag aa aa (Z.ev rfl) ((U.grow (Grw.below C)).cellsAll (i:=0) rfl)) fun _ Z=>?_;refine jM Z rfl (fun X C=>Ve _) fun _ Z=>?_;refine ax ?_;apply cJ (O:=(fun _=>False)) (k:=3) (deps:=[]) (R:=RowU _ _ _ _ _ _) Z rfl rfl rfl bC RowU.stable bC ?h3
   case hx=>exact fun X C g=>oF (az bc (Z.evs rfl) rfl) (rj r A c (a8 (gT t)) _ ((U.grow (Grw.below C)).rd0 hr) J ab) C.size
   case h3=>exact kZ (RowU.newT au)
   intro Vt _ Q;apply jw (k:=4) (deps:=[3]) (kx:=3) (src:=32) Q rfl (.inl rfl) rfl rfl ⟨rfl,rfl⟩ rfl;intro Vv _ Ze;apply fi (k:=5) (deps:=[3,4]) (kx:=4) (src:=28) (i:=0) Ze rfl rfl rfl rfl ⟨rfl,rfl⟩ rfl
   case hx=>
    intro X g;obtain⟨_,_,I,_⟩:=(aN (k:=3) g rfl rfl);exact⟨_,_,((MovS.get Q rfl (aN (k:=4) g rfl rfl)).trans I),rfl⟩
   intro Vz _ Zn;apply fi (k:=6) (deps:=[3,4]) (kx:=4) (src:=28) (i:=1) Zn rfl rfl rfl rfl ⟨rfl,rfl⟩ rfl
   case hx=>
    intro X g;obtain⟨_,_,I,_⟩:=(aN (k:=3) g rfl rfl);exact⟨_,_,((MovS.get Q rfl (aN (k:=4) g rfl rfl)).trans I),rfl⟩
   intro Vu _ Zo;apply fi (k:=7) (deps:=[3,4]) (kx:=4) (src:=28) (i:=2) Zo rfl rfl rfl rfl ⟨rfl,rfl⟩ rfl
   case hx=>
    intro X g;obtain⟨_,_,I,_⟩:=(aN (k:=3) g rfl rfl);exact⟨_,_,((MovS.get Q rfl (aN (k:=4) g rfl rfl)).trans I),rfl⟩
   intro Vr _ Z;apply cJ (O:=(fun _=>False)) (k:=8) (deps:=[]) (R:=NewAny _ 9 _) Z rfl rfl rfl bC NewAny.stable bC (kZ NewAny.newT)
   case hx=>exact fun X C g=>jh (dM (z:=.agg ef) aa) C.size rfl
   intro Vx _ V;apply fj (k:=9) (deps:=[3,4,5,8]) (kx:=8) (x:=11) (y:=33) (Y:=sN 33) V rfl ⟨rfl,rfl⟩ rfl bC ⟨rfl,rfl⟩ (V.slot 33 _ rfl) (mS (ky:=5) ⟨rfl,rfl⟩) rfl rfl (n:=9) aa bC
   case hx=>
    intro X C g;obtain⟨_,_,I,_⟩:=(aN (k:=3) g rfl rfl);subst I;obtain rfl:=MovS.get Q rfl (aN (k:=4) g rfl rfl);obtain rfl:=ExtS.get Ze rfl rfl (aN (k:=5) g rfl rfl);exact⟨(aN (k:=8) g rfl rfl),rfl,rfl⟩
   intro Vg;apply jw (k:=10) (deps:=[3,4,6]) (kx:=6) (src:=34) V rfl (.inr rfl) rfl rfl ⟨rfl,rfl⟩ rfl;intro Vp _ Z;refine gi (O:=(fun _=>False)) bC fun Zp Zf P=>?_;obtain⟨H,Jz,rfl,Jy⟩:=aF P (k:=3) rfl;obtain rfl:=MovS.get Q rfl (aF P (k:=4) rfl);obtain rfl:=ExtS.get Ze rfl rfl (aF P (k:=5) rfl);obtain rfl:=ExtS.get Zn rfl rfl (aF P (k:=6) rfl);obtain rfl:=ExtS.get Zo rfl rfl (aF P (k:=7) rfl);obtain⟨Vs,rfl,Zg,Jv⟩:=StoY.slot (v:=Vg) V rfl rfl (aF P (k:=9) rfl);obtain rfl:=MovS.get V rfl (aF P (k:=10) rfl);have U:=U.newBoxRow (Grw.below Zf) Jv Zg Jy au;refine GO 10 ?_;intro _ Z;refine ak (Z.ev rfl) (fun Zh=>?_) (fun Zh=>?_)
   ·
    have f:eN r (a8 (gT t))≠0:=ar Zh;rw[if_pos f] at a
    have b:G=du:=by rw[s,if_neg (by rw[a];exact f)]
    refine ai (an ?_);refine sv Z (ag aa aa (Z.ev rfl) (U.cellsAll (i:=3) rfl)) fun _ Z=>?_;refine GO 1 ?_;intro _ Z;refine sw Z U 4 fun _ U=>?_;refine GO 5 ?_;intro _ Z;refine br Z rfl rfl rfl U (i:=4) rfl aa aa ?_;refine⟨(none,0),by rw[b,a];rfl,?_⟩;rw[b];exact(U.sub (List.nil_sublist _)).nilRow 177 3
   ·
    have ha:eN r (a8 (gT t))=0:=ar Zh;rw[if_neg (fun h=>h ha)] at a;have Vf:=e0.trans ha;obtain⟨Vb,_,Vo⟩:=nq K Vf
    have e3:fM r (a8 (gT t))=mQ r t:=by unfold fM;rw[if_pos ha];rfl
    rw[e3] at U;rw[if_pos ha] at Z;have Vl:Rd Zp Zp.heap.size H (aJ (mQ r t).rs):=U.rdOf (i:=1) rfl;refine GO 15 ?_;intro _ Z;refine aY Z U [13,12,11,8,7,6,5,1] (fun (j:Nat)=>[(14,ae (iy (r.nx+1) (t.ds.take j))),(15,ae j)]) (fun (j:Nat)=>j≤t.ds.length) (fun (j:Nat) L=>L) (fun (j:Nat)=>t.ds.length-j) (0) (Nat.zero_le _) bN (U) ?_;intro j _ _ Zq Z U;refine GO 10 ?_;intro _ Z;refine ak (Z.ev rfl) (fun Zi=>?_) (fun Zi=>?_)
    ·
     have o:j<t.ds.length:=by have:=of_decide_eq_true Zi;omega
     obtain⟨b',o',rfl,Vd,_⟩:=F.opened (aQ bU au ab);refine GO 9 ?_;intro _ Z;refine sv Z (av (i:=j) (sz:=3) eP aa (Z.ev rfl) (Z.ev rfl) ab ab rfl) fun _ Z=>?_;refine sv Z (fy 2 (Z.ev rfl)) fun _ Z=>?_;refine sv Z (lx (Z.ev rfl) ((aZ bU (U.rd0 F) o) 2 _ rfl)) fun _ Z=>?_;refine sv Z (aA (v':=ae (iy (r.nx+1) (t.ds.take (j+1)))) (congrArg _ (sk o _).symm) (tE aa (Z.ev rfl) (Z.ev rfl))) fun _ Z=>?_;refine GO 10 ?_;intro _ Z;exact⟨j+1,by omega,o,Z.re bN,U⟩
    ·
     have Vc:t.ds.length≤j:=by have:=of_decide_eq_false Zi;omega
     obtain rfl:j=t.ds.length:=by have:=Zq;omega
     rw[List.take_length] at Z;refine GO 12 ?_;intro _ Z;refine aY Z U [13,12,11,8,7,6,5,1] (fun (k:Nat)=>[(14,ae (k8 l (iy (r.nx+1) t.ds) (t.ts.take k))),(16,ae k)]) (fun (k:Nat)=>k≤t.ts.length) (fun (k:Nat) L=>L) (fun (k:Nat)=>t.ts.length-k) (0) (Nat.zero_le _) bN (U) ?_;intro k _ _ Zr Z U;refine GO 10 ?_;intro _ Z;refine ak (Z.ev rfl) (fun Zj=>?_) (fun Zj=>?_)
     ·
      have o:k<t.ts.length:=by have:=of_decide_eq_true Zj;omega
      obtain⟨b',o',rfl,Vd,_⟩:=M.opened (aQ bG au ab);obtain⟨R,hR⟩:∃R,R=k8 l (iy (r.nx+1) t.ds) (t.ts.take (k+1)):=⟨_,rfl⟩;have Jw:=hR;rw[sF o] at Jw;refine GO 10 ?_;intro _ Z;refine sv Z (av (i:=k) (sz:=4) ed aa (Z.ev rfl) (Z.ev rfl) ab ab rfl) fun _ Z=>?_;refine sv Z (fy 1 (Z.ev rfl)) fun _ Z=>?_;refine sv Z (lx (Z.ev rfl) ((aZ bG (U.rd0 M) o) 1 _ rfl)) fun _ Z=>?_;refine cN Z rfl U (sR l t.ts[k].l B d _ (U.rd0 S) ab) fun _ _ Z U=>?_;refine GO 4 ?_;intro _ Z;refine aY Z U [70,69,68,67,66,65,64,63,60,59,58,57,56,16,13,12,11,8,7,6,5,1] (fun (q:Int × Int × Nat)=>[(17,ae (ry Rcd.l q.1 l 0)),(14,ae q.2.1)]) (fun (q:Int × Int × Nat)=>gz l (l.length+1) q.1 q.2.1=R∧∀i (hi:i<l.length),l[i].l=q.1→i<q.2.2) (fun (q:Int × Int × Nat) L=>L) (fun (q:Int × Int × Nat)=>q.2.2) ((t.ts[k].l,k8 l (iy (r.nx+1) t.ds) (t.ts.take k),l.length)) (⟨Jw.symm,fun i hi _=>hi⟩) bN (U) ?_;intro q _ _ Zk Z U;refine GO 7 ?_;intro _ Z;refine ak (Z.ev rfl) (fun Zl=>?_) (fun Zl=>?_)
      ·
       obtain⟨m,W,q1,q2,q3⟩:=o8 (κ:=Rcd.l) (l:=l) (n:=q.1) (k:=0) (by have:=of_decide_eq_true Zl;omega);rw[Nat.zero_add] at q1;rw[q1] at Z;obtain⟨b2,o2,rfl,Vw,_⟩:=S.opened (aQ aO au ab);refine GO 8 ?_;intro _ Z;refine sv Z (av (i:=m) (sz:=14) dd aa (Z.ev rfl) (Z.ev rfl) ab ab rfl) fun _ Z=>?_;refine sv Z (fy 0 (Z.ev rfl)) fun _ Z=>?_;refine sv Z (lx (Z.ev rfl) ((aZ aO (U.rd0 S) W) 0 _ rfl)) fun _ Z=>?_;refine sv Z (aA (v':=ae (min q.2.1 q.1)) (congrArg _ (by rw[q2])) (tE aa (Z.ev rfl) (Z.ev rfl))) fun _ Z=>?_;refine GO 8 ?_;intro _ Z;refine sv Z (av (i:=m) (sz:=14) dd aa (Z.ev rfl) (Z.ev rfl) ab ab rfl) fun _ Z=>?_;refine sv Z (fy 1 (Z.ev rfl)) fun _ Z=>?_;refine sv Z (fy 2 (Z.ev rfl)) fun _ Z=>?_;refine sv Z (lx (Z.ev rfl) ((aZ aO (U.rd0 S) W) 3 _ rfl)) fun _ Z=>?_;refine cN Z rfl U (sR l l[m].e.p (some ⟨b2,o2,none⟩) d _ (U.rd0 S) ab) fun _ _ Z U=>?_;refine GO 3 ?_;intro _ Z;exact⟨(l[m].e.p,min q.2.1 q.1,m),Zk.2 m W q2,⟨by rw[←Zk.1,←q2,xT D W],fun i hi e=>prev_lt D W hi e⟩,Z.re bN,U⟩
      ·
       have hn:dx l q.1=none:=p9 (κ:=Rcd.l) (l:=l) (k:=0) (by have:=of_decide_eq_false Zl;omega)
       have Vh:q.2.1=R:=by rw[←Zk.1,yO hn]
       rw[Vh,hR] at Z;refine GO 12 ?_;intro _ Z;exact⟨k+1,by omega,o,Z.re bN,U⟩
     ·
      have Vc:t.ts.length≤k:=by have:=of_decide_eq_false Zj;omega
      obtain rfl:k=t.ts.length:=by have:=Zr;omega
      rw[List.take_length] at Z
      have Jx:k8 l (iy (r.nx+1) t.ds) t.ts=qL r t:=by unfold qL zU;rw[←hL]
      rw[Jx] at Z;have Vj:=yC D u (c:=r.nx+1) ab ab;rw[show zU l t (r.nx+1)=qL r t from Jx] at Vj;refine wp_exit ?_;refine dt ?_;refine dt ?_;refine oP ?_;refine aj (ai (an ?_));refine sv (v:=a7 (mQ r t) H Jz) Z (ag aa aa (Z.ev rfl) (U.cellsAll (i:=0) rfl)) fun _ Z=>?_;refine GO 2 ?_;intro _ Z;refine jg Z (wn rfl) (az bc (Z.evs rfl) rfl) rfl rfl U (pW (mQ r t) H Jz (r.nx+1) (qL r t) _ (U.rdOf (i:=1) rfl) Vb ⟨⟨by omega,by omega⟩,⟨by omega,by omega⟩⟩) (Nat.le_refl _) fun Va Vi _ _ Z U=>GO 3 ?_;intro _ Z;refine sw Z U 1 fun _ U=>?_;refine GO 10 ?_;intro _ Z;refine ak (Z.ev rfl) (fun Zm=>?_) (fun Zm=>?_)
      ·
       have f:iQ (mQ r t) (r.nx+1) (qL r t)≠0:=ar Zm
       have b:G=du:=by rw[s,if_neg (by rw[a];exact f)]
       refine ai (an ?_);refine sv Z (ag aa aa (Z.ev rfl) (U.cellsAll (i:=4) rfl)) fun _ Z=>?_;refine GO 1 ?_;intro _ Z;refine sw Z U 5 fun _ U=>?_;refine GO 5 ?_;intro _ Z;refine br Z rfl rfl rfl U (i:=5) rfl aa aa ?_;refine⟨(none,0),by rw[b,a];rfl,?_⟩;rw[b];exact(U.sub (List.nil_sublist _)).nilRow 177 3
      ·
       have hz:iQ (mQ r t) (r.nx+1) (qL r t)=0:=ar Zm
       have b:G=kK (mQ r t) (r.nx+1) (qL r t):=by rw[s,if_pos (by rw[a];exact hz)];unfold kK;rw[if_pos hz]
       refine wp_skip (aj (ai (an ?_)));refine sv Z (ag aa aa (Z.ev rfl) (U.cellsAll (i:=1) rfl)) fun _ Z=>?_;refine sw Z U 5 fun _ U=>?_;refine GO 4 ?_;intro _ Z;refine br Z rfl rfl rfl U (i:=5) rfl aa aa ?_;refine⟨(Va,Vi),by rw[b,a,hz];rfl,?_⟩;rw[b];exact(U.sub (aL 1))
  case hB=>kernel_rfl
end Go.Proofs.YtcfdpfmchchkaaaGreatDoor
