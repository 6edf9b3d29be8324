/- Chapter 22 -/
import Derived.Test.YtcfdpfmchchkaaaGreatDoorRcK
namespace Go.Proofs.YtcfdpfmchchkaaaGreatDoor
set_option maxHeartbeats 1000000
set_option maxRecDepth 4000
set_option linter.unusedVariables false
set_option linter.unusedSimpArgs false
open Go.RowKit Go.Sort Go.Shelf
def Hl (k a c:Int) (o n:List UInt8):Op:=⟨k,a,0,c,bs o,bs n⟩
def Ib:Lge:=⟨0,1,0,0,3,false,Hl 1 64 0 [0] [97],⟨#[]⟩⟩
def Ic:Lge:=⟨0,2,0,0,9,true,Hl 4 5 1 [] [],⟨#[]⟩⟩
def Ij:Lge:=⟨2,1,1,0,0,false,Fv,⟨#[]⟩⟩
def Ie:Lge:=⟨0,2,41,0,3,false,Hl 1 70 0 [0] [98],⟨#[]⟩⟩
def awH:List Rcd:=[⟨1,Ib⟩,⟨41,Ic⟩,⟨81,Ij⟩,⟨113,Ie⟩]
def awP:List Pgp:=[⟨3,false,bs (cu 512)⟩,⟨9,true,bs (cu 512)⟩]
theorem ic (w:World):Calls Tryz.prog 58 #[] w fun e b=>∃A c,e=.returned (.slice A awH.length c)∧b.ownsRow w.heap.size 145 14 (.slice A awH.length c) awH.length (awH.flatMap cm)∧Below w.heap.size w b:=by
 refine aq (N:=13) Tryz.func58 rfl rfl rfl (fun _ Y=>?_);have Z:=St.init w;refine GO 7 ?_;intro _ Y;refine sv Y (ay (zs:=jj) (pl:=jl) aa aa (Y.evs2 rfl) rfl rfl) fun _ Y=>?_;refine sv Y (ay (zs:=jT) (pl:=jS) aa aa (Y.evs2 rfl) rfl rfl) fun _ Y=>?_;refine sv Y (ay (zs:=kP) (pl:=sK) aa aa (Y.evs2 rfl) rfl rfl) fun _ Y=>?_;refine sv Y (ay (zs:=jj) (pl:=jl) aa aa (Y.evs2 rfl) rfl rfl) fun _ Y=>?_;refine sv Y (ay (zs:=jT) (pl:=jS) aa aa (Y.evs2 rfl) rfl rfl) fun _ Y=>?_;refine sv Y (ay (zs:=kP) (pl:=sK) aa aa (Y.evs2 rfl) rfl rfl) fun _ Y=>?_;refine sv Y (ay (zs:=jT) (pl:=jS) aa aa (Y.evs2 rfl) rfl rfl) fun _ Y=>?_;refine sv Y (ay (zs:=kP) (pl:=sK) aa aa (Y.evs2 rfl) rfl rfl) fun _ Y=>?_;refine sv Y (ay (zs:=jj) (pl:=jl) aa aa (Y.evs2 rfl) rfl rfl) fun _ Y=>?_;refine sv Y (ay (zs:=jT) (pl:=jS) aa aa (Y.evs2 rfl) rfl rfl) fun _ Y=>?_;refine sv Y (ay (zs:=kP) (pl:=sK) aa aa (Y.evs2 rfl) rfl rfl) fun _ Y=>?_;refine cX (zc:=kP) (sz:=14) Y (wn rfl) ⟨rfl,rfl⟩ rfl dd aa aa rfl rfl rfl (Y.evs2 rfl) rfl rfl rfl Z fun a _ _ f Y Z=>GO 4 ?_;intro _ Y;refine aI Y rfl rfl ?_;have d:=Z.toRow (i:=0) (n:=4) (sz:=14) rfl rfl au;exact⟨some ⟨a,0,none⟩,4,rfl,d.ownB (i:=0) rfl,Z.below⟩
theorem sc (w:World):Calls Tryz.prog 59 #[] w fun e a=>∃A c,e=.returned (.slice A awP.length c)∧a.ownsRow w.heap.size 111 3 (.slice A awP.length c) awP.length (awP.flatMap cS)∧Below w.heap.size w a:=by
 refine aq (N:=6) Tryz.func59 rfl rfl rfl (fun _ Y=>?_);have Z:=St.init w;refine GO 7 ?_;intro _ Y;refine cN Y rfl Z (sx 512 _ au) fun _ _ Y Z=>?_;refine sv Y (ay (zs:=vn) (pl:=fE) aa aa (Y.evs2 rfl) rfl rfl) fun _ Y=>?_;refine cN Y rfl Z (sx 512 _ au) fun _ _ Y Z=>?_;refine sv Y (ay (zs:=vn) (pl:=fE) aa aa (Y.evs2 rfl) rfl rfl) fun _ Y=>?_;refine cX (zc:=vn) (sz:=3) Y (wn rfl) ⟨rfl,rfl⟩ rfl ke aa aa rfl rfl rfl (Y.evs2 rfl) rfl rfl rfl Z fun b _ _ f Y Z=>GO 4 ?_;intro _ Y;refine aI Y rfl rfl ?_;have d:=Z.toRow (i:=0) (n:=2) (sz:=3) rfl rfl au;exact⟨some ⟨b,0,none⟩,2,rfl,d.ownB (i:=0) rfl,Z.below⟩
open Go.RowKit Go.Sort Go.Shelf
theorem Fh {X:World} {B b o k:Nat} {l:List Int} (hr:Rd X B (some ⟨b,o,none⟩) (l.map (.int .i64))) (c:k<l.length):∀(j:Nat) (u:Value),[Value.int .i64 l[k]][j]? = some u→X.cell? ⟨b,o+k*1+j,none⟩=some u
 | 0,u,hu=>by
  obtain⟨d,o',e,_,a⟩:=hr k u (by rw[List.getElem?_map,List.getElem?_eq_getElem c];exact hu);injection e with e;injection e with e1 e2;subst e1 e2;rw[Nat.mul_one,Nat.add_zero];exact a
 | j+1,u,hu=>by simp at hu
theorem wU {α:Type} {a b:List α} (c:a.length=b.length) (h:∀k (e:k<a.length) (d:k<b.length),a[k]=b[k]):a=b:=List.ext_getElem c h
theorem zW (xs ys:List Int) (A t:Option Addr) (c y:Nat) (w:World) (hr:Rd w w.heap.size A (xs.map (.int .i64))) (g:Rd w w.heap.size t (ys.map (.int .i64))) (D:xs.length≤100000) :
 bz 33 #[.slice A xs.length c,.slice t ys.length y] w (.bool (decide (xs=ys))):=by
 refine aq (N:=26) Tryz.func33 rfl rfl rfl (fun _ Y=>?_);have Z:=St.init w;refine GO 8 ?_;intro _ f;refine GO 1 ?_;intro _ e;refine GO 6 ?_;intro _ Y;refine ak (Y.ev rfl) (fun n=>?_) (fun n=>?_)
 ·
  have a:xs≠ys:=fun q=>by rw[q] at n;simp at n
  refine GO 7 ?_;intro _ Y;refine aI Y rfl rfl ?_;exact⟨by rw[decide_eq_false a],Z.below⟩
 ·
  have s:xs.length=ys.length:=by have:((xs.length:Int) != ys.length)=false:=n;simp at this;omega
  refine GO 9 ?_;intro _ Y;refine aY Y Z [0,1] (fun (j:Nat)=>[(5,ae (j:Nat))]) (fun (j:Nat)=>j≤xs.length∧∀k (f:k<xs.length) (e:k<ys.length),k<j→xs[k]=ys[k]) (fun (j:Nat) L=>L) (fun (j:Nat)=>xs.length-j) (0) (⟨Nat.zero_le _,fun k _ _ h=>absurd h (Nat.not_lt_zero _)⟩) bN (Z) ?_;intro j _ _ u Y Z;refine GO 9 ?_;intro _ Y;refine ak (Y.ev rfl) (fun p=>?_) (fun p=>?_)
  ·
   have l:j<xs.length:=by have:=of_decide_eq_true p;omega
   have d:j<ys.length:=by omega
   obtain⟨b,o,rfl,hB,_⟩:=hr.opened (by rw[List.length_map];omega);obtain⟨B,o',rfl,z,_⟩:=g.opened (by rw[List.length_map];omega);refine wp_skip (aj (ai (wp_block (ai ?_))));apply aK Y (fA 8) _ aa
   case h=>
    refine GO 2 ?_;intro _ Y;refine qv Y (fun X m=>av (i:=j) (sz:=1) n4 aa (Y.ev rfl) (Y.ev rfl) ab ab rfl) fun _ Y=>?_;refine qv Y (fun X m=>lx (Y.ev rfl) ((Fh ((Z.grow m).rd0 hr) l) 0 _ rfl)) fun _ Y=>?_;refine GO 2 ?_;intro _ Y;refine qv Y (fun X m=>av (i:=j) (sz:=1) n4 aa (Y.ev rfl) (Y.ev rfl) ab ab rfl) fun _ Y=>?_;refine qv Y (fun X m=>lx (Y.ev rfl) ((Fh ((Z.grow m).rd0 g) d) 0 _ rfl)) fun _ Y=>?_;refine ax ?_;refine aV fun _ v C=>?_;have Z:=Z.grow v;refine GO 3 ?_;intro _ Y;refine ak (Y.ev rfl) (fun r=>?_) (fun r=>?_)
    ·
     have a:xs≠ys:=fun q=>by subst q;simp at r
     refine GO 11 ?_;intro _ Y;refine aI Y rfl rfl ?_;exact⟨by rw[decide_eq_false a],Z.below⟩
    ·
     have heq:xs[j]=ys[j]:=ar r;refine GO 9 ?_;intro _ Y;exact⟨j+1,ab,⟨l,fun k f e E=>by rcases Nat.lt_or_eq_of_le (show k≤j by omega) with q | q;exact u.2 k f e q;subst q;exact heq⟩,Y.re bN,Z⟩
   case hB=>kernel_rfl
   case hst=>rfl
  ·
   have x:xs.length≤j:=by have:=of_decide_eq_false p;omega
   have heq:xs=ys:=wU s fun k f e=>u.2 k f e ab;refine GO 11 ?_;intro _ Y;refine aI Y rfl rfl ?_;exact⟨by rw[decide_eq_true heq],Z.below⟩
theorem xz (l:List Rcd) (A:Option Addr) (c:Nat) (w:World) (hr:Rd w w.heap.size A (l.flatMap cm)) (k:l.length≤1000) :
 Calls Tryz.prog 25 #[.slice A l.length c] w fun e f=>∃a d,e=.returned (.slice a l.length d)∧f.ownsRow w.heap.size 145 14 (.slice a l.length d) l.length (l.flatMap cm)∧Below w.heap.size w f:=by
 refine aq (N:=6) Tryz.func25 rfl rfl rfl (fun _ Y=>?_);have Z:=St.init w;refine GO 7 ?_;intro _ Y;refine cX (zc:=kP) (sz:=14) Y (wn rfl) ⟨rfl,rfl⟩ rfl dd aa aa rfl rfl rfl (Y.evs2 rfl) rfl rfl rfl Z fun m _ _ j Y Z=>GO 1 ?_;intro _ Y;have Z:=Z.toRow (i:=0) (n:=0) (sz:=14) rfl rfl au;refine bP (z:=.agg qU) (sz:=14) (bytes:=136) Y (wn rfl) ⟨rfl,rfl⟩ rfl dd aa rfl rfl (Y.ev rfl) (Y.ev rfl) Z (i:=0) rfl (Z.rd0 hr) (by rw[iH aO,Nat.mul_comm]) (fun u h=>by obtain⟨x,_,hx⟩:=List.mem_flatMap.1 h;exact Bh x u hx) ⟨ab,by decide⟩ fun g c5 _ _ Y Z=>?_;refine GO 4 ?_;intro _ Y;refine aI Y rfl rfl ?_;have b:=Z.ownB (i:=0) rfl;rw[Nat.zero_add] at b Y;exact⟨g,c5,by rw[Nat.zero_add],b,Z.below⟩
theorem wK (t:Tbl) (A:Option Addr) (c:Nat) (B:Option Addr) (d:Nat) (w:World) (hr:Rd w w.heap.size A (t.ts.flatMap cc)) (v:Rd w w.heap.size B (t.ds.flatMap cw)) (K:t.ts.length≤1000∧t.ds.length≤1000) :
 Calls Tryz.prog 16 #[bW t A c B d] w fun e C=>∃i:Option Addr × Nat × Option Addr × Nat,e=.returned (bW t i.1 i.2.1 i.2.2.1 i.2.2.2) ∧
  St [] w C [.row (.slice i.1 t.ts.length i.2.1) t.ts.length 116 4 (t.ts.flatMap cc),.row (.slice i.2.2.1 t.ds.length i.2.2.2) t.ds.length 124 3 (t.ds.flatMap cw)]:=by
 refine aq (N:=12) Tryz.func16 rfl rfl rfl (fun _ Y=>?_);have Z:=St.init w;refine ai (an ?_);refine nb Y rfl rfl Z fun b1 _ _ J Y Z=>na (.agg fX) Y rfl Z fun I _ _ L Y j=>ah (aj (ai ?_));apply aK Y [true,false,false,true,true,false,false] _ aa
 case h=>
  refine GO 5 ?_;intro _ Y;apply eF (k:=0) (deps:=[]) (R:=NewB _ (fun b=>.slice (some ⟨b,0,none⟩) 0 0) _ _) Y rfl rfl rfl NewB.stable (fun X a l=>gK (dw (zc:=nV) (sz:=4) rfl ed aa aa rfl rfl rfl (Y.evs2 rfl) rfl rfl rfl) a.size);intro M _ Y;apply eF (k:=3) (deps:=[0]) (R:=OwnB _ _ _ _ _) Y rfl rfl rfl OwnB.stable (fun X a l=>D7 (z:=.agg lG) (sz:=4) (bytes:=32) rfl ed aa rfl rfl (Y.ev rfl) (Y.ev rfl) (aN (k:=0) l rfl rfl) rfl ⟨_,_,rfl,(j.grow a).rd0 hr⟩ (by rw[iH bG,Nat.mul_comm]) (fun u q=>by obtain⟨x,_,hx⟩:=List.mem_flatMap.1 q;exact tX x u hx) ⟨ab,by decide⟩ a.size);intro G _ Y;apply eF (k:=4) (deps:=[]) (R:=NewB _ (fun b=>.slice (some ⟨b,0,none⟩) 0 0) _ _) Y rfl rfl rfl NewB.stable (fun X a l=>gK (dw (zc:=pZ) (sz:=3) rfl eP aa aa rfl rfl rfl (Y.evs2 rfl) rfl rfl rfl) a.size);intro O _ Y;refine aV fun _ s p=>?_;have Z:=j.grow s;have F:=aF p (k:=0) rfl;have g:=aF p (k:=3) rfl;obtain⟨E,D,rfl,g⟩:=g;have Z:=j.add s (e:=.row _ _ _ _ _) (a6 g (Nat.zero_le _)) (fun b r=>g.lt b r);have f:=aF p (k:=4) rfl;obtain⟨H,rfl,y,f⟩:=f;have Z:=St.add2 j Z (e2:=.box _ _ _) f (fun b r=>by cases r;exact⟨y,Box.lt f⟩) (la g f au);have Z:=Z.toRow (i:=0) (n:=0) (sz:=3) rfl rfl au;refine bP (z:=.agg ln) (sz:=3) (bytes:=24) Y (wn rfl) ⟨rfl,rfl⟩ rfl eP aa rfl rfl (Y.ev rfl) (Y.ev rfl) Z (i:=0) rfl (Z.rd0 v) (by rw[iH bU,Nat.mul_comm]) (fun u q=>by obtain⟨x,_,hx⟩:=List.mem_flatMap.1 q;exact vh x u hx) ⟨ab,by decide⟩ fun m o _ _ Y Z=>?_;rw[Nat.zero_add] at Y Z;refine sv Y (ay (zs:=l5) (pl:=kT) aa aa (Y.evs2 rfl) rfl rfl) fun _ Y=>?_;refine sw Y Z 2 fun _ Z=>?_;refine ah (aj (wp_ret ?_))
  refine mz Y rfl rfl Z (i:=2) rfl aa aa ?_;exact⟨(E,D,m,o),rfl,St.swap (Z.sub (aL 3))⟩
 case hB=>kernel_rfl
 case hst=>rfl
open Go.RowKit Go.Sort Go.Shelf
def awT:Tbl:=⟨[⟨1,81,1,true⟩,⟨2,113,113,false⟩],[⟨3,false,1⟩,⟨9,true,41⟩]⟩
theorem F5:kM awH 0=(awT,0):=by decide +kernel
theorem aw_tbl:dz awT=0∧(jx awT).length=38:=by decide +kernel
theorem aw_uo:oz awH awT=[113,41]∧zk awH awT=0:=by decide +kernel
theorem aw_rdo:(j8 awH awT awP).2=(3,0)∧(j8 awH awT awP).1.length=2∧((j8 awH awT awP).1.map fun q=>(q.b.size,((bl q.b).drop 70).take 1)).head? = some (512,[98]):=by decide +kernel
theorem aw_mng:(nc awH awP).2=(1,0)∧((nc awH awP).1.map fun q=>(q.b.size,((bl q.b).drop 64).take 7)).head? = some (512,[97,0,0,0,0,0,0]):=by decide +kernel
open Go.RowKit Go.Sort Go.Shelf
theorem jk {w:World} {a sz n c:Nat} {T:TypeId} {A:Option Addr} {xs:List Value} (h:w.ownsRow a T sz (.slice A n c) n xs):n≤c:=by
 rcases h.2 with ⟨b,d⟩ | ⟨g,cap,cur,b,_,_,d,_⟩
 · omega
 · injection b with _ _ b
   omega
theorem xW:∀x∈awH,FewE x.e∧I6 x.e.g:=by
 intro x hx;simp only[awH,List.mem_cons,List.not_mem_nil,or_false] at hx
 rcases hx with rfl | rfl | rfl | rfl<;>exact⟨⟨by decide +kernel,by decide +kernel,by decide +kernel⟩,by decide,by decide⟩
def awPR:List Pgp:=(j8 awH awT awP).1
def awPM:List Pgp:=(nc awH awP).1
theorem E6 (A:Option Addr) (c:Nat) (w:World) (a:w.ownsRow 0 145 14 (.slice A awH.length c) awH.length (awH.flatMap cm)) (hF:FolT w) :
 Calls Tryz.prog 24 #[.slice A awH.length c,ae 0] w fun e b=>∃i:Option Addr × Nat × Option Addr × Nat,e=.returned (.tuple #[bW awT i.1 i.2.1 i.2.2.1 i.2.2.2,ae 0]) ∧
  St [] w b [.row (.slice i.1 awT.ts.length i.2.1) awT.ts.length 116 4 (awT.ts.flatMap cc),.row (.slice i.2.2.1 awT.ds.length i.2.2.2) awT.ds.length 124 3 (awT.ds.flatMap cw)]:=by
 have h:=l6 awH A c 0 w (Rd.of_own a) au (jk a) hF (fun x hx=>(xW x hx).1);rw[F5] at h;exact h
theorem Ek (A:Option Addr) (c:Nat) (a:Option Addr) (k:Nat) (h:Option Addr) (n:Nat) (g:Option Addr) (l:Nat) (w:World) (o:w.ownsRow 0 145 14 (.slice A awH.length c) awH.length (awH.flatMap cm)) (q:w.ownsRow 0 111 3 (.slice a awP.length k) awP.length (awP.flatMap cS))
 (b:Rd w w.heap.size h (awT.ts.flatMap cc)) (j:Rd w w.heap.size g (awT.ds.flatMap cw)) (hF:FolT w) :
 Calls Tryz.prog 29 #[.slice A awH.length c,bW awT h n g l,.slice a awP.length k] w fun e f=>∃B d,e=.returned (.tuple #[.slice B awPR.length d,ae 3,ae 0])∧f.ownsRow w.heap.size 111 3 (.slice B awPR.length d) awPR.length (awPR.flatMap cS)∧Below w.heap.size w f:=by
 refine(tu awH A c awT h n g l awP a k w (Rd.of_own q) (Rd.of_own o) b j au (jk o) au hF xW).mono fun e f ⟨i,p,m⟩=>⟨i.1,i.2,?_,m.ownB (i:=0) rfl,m.below⟩;rw[p,aw_rdo.1];rfl
theorem DT (A:Option Addr) (c:Nat) (g:Option Addr) (m:Nat) (f:Option Addr) (k:Nat) (w:World) (n:w.ownsRow 0 145 14 (.slice A awH.length c) awH.length (awH.flatMap cm))
 (a:Rd w w.heap.size g (awT.ts.flatMap cc)) (j:Rd w w.heap.size f (awT.ds.flatMap cw)) (hF:FolT w) :
 Calls Tryz.prog 31 #[.slice A awH.length c,bW awT g m f k] w fun e b=>∃B d,e=.returned (.tuple #[.slice B ([113,41]:List Int).length d,ae 0])∧b.ownsRow w.heap.size 3 1 (.slice B ([113,41]:List Int).length d) ([113,41]:List Int).length (([113,41]:List Int).map (.int .i64))∧Below w.heap.size w b:=by
 have h:=qQ awH A c awT g m f k w (Rd.of_own n) a j au (jk n) hF (fun x hx=>(xW x hx).1);rw[aw_uo.1,aw_uo.2] at h;exact h.mono fun e b ⟨i,o,l⟩=>⟨i.1,i.2,o,l.ownB (i:=0) rfl,l.below⟩
theorem Ej (A:Option Addr) (c:Nat) (a:Option Addr) (b:Nat) (w:World) (h:w.ownsRow 0 145 14 (.slice A awH.length c) awH.length (awH.flatMap cm)) (k:w.ownsRow 0 111 3 (.slice a awP.length b) awP.length (awP.flatMap cS)) (hF:FolT w) :
 Calls Tryz.prog 38 #[.slice A awH.length c,.slice a awP.length b] w fun e f=>∃B d,e=.returned (.tuple #[.slice B awPM.length d,ae 1,ae 0])∧f.ownsRow w.heap.size 111 3 (.slice B awPM.length d) awPM.length (awPM.flatMap cS)∧Below w.heap.size w f:=by
 refine(qV awH A c awP a b w (Rd.of_own k) (Rd.of_own h) au (jk h) au hF xW).mono fun e f ⟨i,j,g⟩=>⟨i.1,i.2,?_,g.ownB (i:=0) rfl,g.below⟩;rw[j,aw_mng.1];rfl
theorem uO {α β:Type} {l:List α} {f:α→β} {x:β} (h:(l.map f).head? = some x):∃b:0<l.length,f l[0]=x:=by
 cases l with
 | nil=>cases h
 | cons a r=>
  injection h with h;exact⟨by simp,h⟩
theorem CY {s:ByteArray} {a b:Nat} {l:List UInt8} (c:a≤b) (h:((bl s).drop a).take (b-a)=l):s.extract a b=bs l:=by
 apply dU;rw[bL,jJ,←h,List.drop_take]
theorem BC:awPR.length=2:=aw_rdo.2.1
theorem DX:∃a:0<awPR.length,awPR[0].b.size=512∧awPR[0].b.extract 70 71=⟨#[98]⟩:=by
 obtain⟨a,h⟩:=uO (l:=awPR) aw_rdo.2.2;simp only[Prod.mk.injEq] at h;exact⟨a,h.1,CY au h.2⟩
theorem DC:∃a:0<awPM.length,awPM[0].b.size=512∧awPM[0].b.extract 64 71=⟨#[97,0,0,0,0,0,0]⟩:=by
 obtain⟨a,h⟩:=uO (l:=awPM) aw_mng.2;simp only[Prod.mk.injEq] at h;exact⟨a,h.1,CY au h.2⟩
attribute [local irreducible] awPR awPM
theorem vR (w:World) (hF:FolT w):bz 13 #[] w (.bool true):=by
 obtain⟨u,Vh,o⟩:=DX;obtain⟨r,Jy,m⟩:=DC;have g:awPR.length=2:=BC;refine aq (N:=115) Tryz.func13 rfl rfl rfl (fun _ Y=>?_);have Z:=St.init w;refine GO 7 ?_;intro _ Y;refine oU Y (wn rfl) (az bc (Y.evs rfl) rfl) rfl rfl Z (ic _) (Nat.le_refl _) fun W F _ _ Y Z=>df Y (wn rfl) (az bc (Y.evs rfl) rfl) rfl rfl Z (E6 W F _ (Z.at_ (i:=0) rfl) (hF.below Z.below)) fun a _ _ Y Z=>GO 1 ?_;intro _ Y;refine sv (v:=bW awT a.1 a.2.1 a.2.2.1 a.2.2.2) Y (cb (Y.ev rfl) rfl) fun _ Y=>?_;refine GO 1 ?_;intro _ Y;refine na (.agg fX) Y rfl Z fun b1 _ _ Zp Y Z=>sw Y Z 0 fun _ Z=>?_;refine GO 4 ?_;intro _ Y;apply dN Y (fun _=>False) [] [] [true,false,true,true,true,true,true,true,true,true] _ aa bC
 case h=>
  refine qv (v:=bW awT a.1 a.2.1 a.2.2.1 a.2.2.2) Y (fun X d=>ag aa aa (Y.ev rfl) ((Z.grow (Grw.below d)).cellsAll (i:=0) rfl)) fun _ Y=>?_;refine ax ?_;apply cJ (O:=(fun _=>False)) (k:=0) (deps:=[]) (R:=OwnB _ _ _ _ _) Y rfl rfl rfl bC OwnB.stable bC bC
  case hx=>exact fun X d c=>wi (az bc (Y.evs rfl) rfl) (ic _) d.size
  intro Vd _ Y;apply cJ (O:=(fun _=>False)) (k:=2) (deps:=[]) (R:=OwnB _ _ _ _ _) Y rfl rfl rfl bC OwnB.stable bC bC
  case hx=>exact fun X d c=>wi (az bc (Y.evs rfl) rfl) (sc _) d.size
  intro Jx _ Y;apply cJ (O:=(fun _=>False)) (k:=3) (deps:=[0,2]) (R:=RowU _ _ _ _ _ _) Y rfl rfl rfl bC RowU.stable bC bC
  case hx=>
   intro X d c;obtain⟨P,A,rfl,I⟩:=(aN (k:=0) c rfl rfl);obtain⟨D,M,rfl,S⟩:=(aN (k:=2) c rfl rfl);exact oF (az bc (Y.evs rfl) rfl) (Ek P A D M a.1 a.2.1 a.2.2.1 a.2.2.2 _ (a6 I (Nat.zero_le _)) (a6 S (Nat.zero_le _)) ((Z.grow (Grw.below d)).rdOf (i:=1) rfl) ((Z.grow (Grw.below d)).rdOf (i:=2) rfl) (hF.below (Z.grow (Grw.below d)).below)) d.size
  intro Vj _ q;apply jw (k:=4) (deps:=[0,2,3]) (kx:=3) (src:=22) q rfl (.inl rfl) rfl rfl ⟨rfl,rfl⟩ rfl;intro Va _ Zg;apply fi (k:=5) (deps:=[0,2,3,4]) (kx:=4) (src:=18) (i:=0) Zg rfl rfl rfl rfl ⟨rfl,rfl⟩ rfl
  case hx=>
   intro X c;obtain⟨_,_,j,_⟩:=(aN (k:=3) c rfl rfl);exact⟨_,_,((MovS.get q rfl (aN (k:=4) c rfl rfl)).trans j),rfl⟩
  intro Vc _ Zh;apply fi (k:=6) (deps:=[0,2,3,4]) (kx:=4) (src:=18) (i:=1) Zh rfl rfl rfl rfl ⟨rfl,rfl⟩ rfl
  case hx=>
   intro X c;obtain⟨_,_,j,_⟩:=(aN (k:=3) c rfl rfl);exact⟨_,_,((MovS.get q rfl (aN (k:=4) c rfl rfl)).trans j),rfl⟩
  intro Jz _ Zi;apply fi (k:=7) (deps:=[0,2,3,4]) (kx:=4) (src:=18) (i:=2) Zi rfl rfl rfl rfl ⟨rfl,rfl⟩ rfl
  case hx=>
   intro X c;obtain⟨_,_,j,_⟩:=(aN (k:=3) c rfl rfl);exact⟨_,_,((MovS.get q rfl (aN (k:=4) c rfl rfl)).trans j),rfl⟩
  intro Vb _ Zj;apply jw (k:=8) (deps:=[0,2,3,4,5]) (kx:=5) (src:=23) Zj rfl (.inr rfl) rfl rfl ⟨rfl,rfl⟩ rfl;intro v3 _ Zk;apply jw (k:=9) (deps:=[0,2,3,4,6]) (kx:=6) (src:=24) Zk rfl (.inr rfl) rfl rfl ⟨rfl,rfl⟩ rfl;intro v4 _ Y;refine gi (O:=(fun _=>False)) bC fun _ Ze n=>?_;obtain⟨Jw,E,rfl,t⟩:=aF n (k:=3) rfl;obtain rfl:=MovS.get q rfl (aF n (k:=4) rfl);obtain rfl:=ExtS.get Zg rfl rfl (aF n (k:=5) rfl);obtain rfl:=ExtS.get Zh rfl rfl (aF n (k:=6) rfl);obtain rfl:=ExtS.get Zi rfl rfl (aF n (k:=7) rfl);obtain rfl:=MovS.get Zj rfl (aF n (k:=8) rfl);obtain rfl:=MovS.get Zk rfl (aF n (k:=9) rfl);have Z:=St.addRow Z (Z.grow (Grw.below Ze)) (fun e C b Q=>(Z.new e C b Q).2) t;refine GO 4 ?_;intro _ Y;apply dN Y (fun _=>False) [] [] [true,false,true,true,true,true,true] _ aa bC
  case h=>
   refine qv (v:=bW awT a.1 a.2.1 a.2.2.1 a.2.2.2) Y (fun X d=>ag aa aa (Y.ev rfl) ((Z.grow (Grw.below d)).cellsAll (i:=1) rfl)) fun _ Y=>?_;refine ax ?_;apply cJ (O:=(fun _=>False)) (k:=0) (deps:=[]) (R:=OwnB _ _ _ _ _) Y rfl rfl rfl bC OwnB.stable bC bC
   case hx=>exact fun X d c=>wi (az bc (Y.evs rfl) rfl) (ic _) d.size
   intro Vf _ Y;apply cJ (O:=(fun _=>False)) (k:=2) (deps:=[0]) (R:=RowU _ _ _ _ _ _) Y rfl rfl rfl bC RowU.stable bC bC
   case hx=>
    intro X d c;obtain⟨G,z,rfl,L⟩:=(aN (k:=0) c rfl rfl);exact oF (az bc (Y.evs rfl) rfl) (DT G z a.1 a.2.1 a.2.2.1 a.2.2.2 _ (a6 L (Nat.zero_le _)) ((Z.grow (Grw.below d)).rdOf (i:=2) rfl) ((Z.grow (Grw.below d)).rdOf (i:=3) rfl) (hF.below (Z.grow (Grw.below d)).below)) d.size
   intro Ve _ x;apply jw (k:=3) (deps:=[0,2]) (kx:=2) (src:=29) x rfl (.inl rfl) rfl rfl ⟨rfl,rfl⟩ rfl;intro Vk _ Zl;apply fi (k:=4) (deps:=[0,2,3]) (kx:=3) (src:=26) (i:=0) Zl rfl rfl rfl rfl ⟨rfl,rfl⟩ rfl
   case hx=>
    intro X c;obtain⟨_,_,j,_⟩:=(aN (k:=2) c rfl rfl);exact⟨_,_,((MovS.get x rfl (aN (k:=3) c rfl rfl)).trans j),rfl⟩
   intro Vi _ Zm;apply fi (k:=5) (deps:=[0,2,3]) (kx:=3) (src:=26) (i:=1) Zm rfl rfl rfl rfl ⟨rfl,rfl⟩ rfl
   case hx=>
    intro X c;obtain⟨_,_,j,_⟩:=(aN (k:=2) c rfl rfl);exact⟨_,_,((MovS.get x rfl (aN (k:=3) c rfl rfl)).trans j),rfl⟩
   intro Jv _ Zn;apply jw (k:=6) (deps:=[0,2,3,4]) (kx:=4) (src:=30) Zn rfl (.inr rfl) rfl rfl ⟨rfl,rfl⟩ rfl;intro v6 _ Y;refine gi (O:=(fun _=>False)) bC fun _ Zf p=>?_;obtain⟨B,K,rfl,s⟩:=aF p (k:=2) rfl;obtain rfl:=MovS.get x rfl (aF p (k:=3) rfl);obtain rfl:=ExtS.get Zl rfl rfl (aF p (k:=4) rfl);obtain rfl:=ExtS.get Zm rfl rfl (aF p (k:=5) rfl);obtain rfl:=MovS.get Zn rfl (aF p (k:=6) rfl);have Z:=St.addRow Z (Z.grow (Grw.below Zf)) (fun e C b Q=>(Z.new e C b Q).2) s;refine GO 5 ?_;intro _ Y;refine oU Y (wn rfl) (az bc (Y.evs rfl) rfl) rfl rfl Z (ic _) (Nat.le_refl _) fun y J _ _ Y Z=>oU Y (wn rfl) (az bc (Y.evs rfl) rfl) rfl rfl Z (sc _) (Nat.le_refl _) fun H U _ _ Y Z=>jg Y (wn rfl) (az bc (Y.evs rfl) rfl) rfl rfl Z (Ej y J H U _ (Z.at_ (i:=1) rfl) (Z.at_ (i:=0) rfl) (hF.below Z.below)) (Nat.le_refl _) fun Vg T _ _ Y Z=>GO 11 ?_;intro _ Y;refine sv (v:=bW awT a.1 a.2.1 a.2.2.1 a.2.2.2) Y (ag aa aa (Y.ev rfl) (Z.cellsAll (i:=5) rfl)) fun _ Y=>?_;refine cN Y rfl Z (jU awT a.1 a.2.1 a.2.2.1 a.2.2.2 _ (Z.rdOf (i:=6) rfl) (Z.rdOf (i:=7) rfl)) fun _ _ Y Z=>?_;refine GO 5 ?_;intro _ Y;obtain⟨bT,oT,eT,_,_⟩:=(Z.rdOf (i:=6) rfl).opened au;obtain⟨bR,oR,eR,_,_⟩:=(Z.rdOf (i:=4) rfl).opened (aQ bZ au u);obtain⟨bM,oM,eM,_,_⟩:=(Z.rdOf (i:=0) rfl).opened (aQ bZ au r);have hU:=Z.rdOf (i:=3) rfl;refine GO 7 ?_;intro _ Y;refine aT Y (ao Y _ rfl rfl rfl (rfl)) (fx 0 0 (Y.ev rfl)) rfl rfl fun _ Y=>?_;refine aT Y (ao Y _ rfl rfl rfl (rfl)) (lx (Y.ev rfl) (Z.cell (i:=5) rfl rfl)) rfl rfl fun _ Y=>aT Y (ao Y _ rfl rfl rfl (rfl)) (wo ed (Y.ev rfl)) rfl rfl fun _ Y=>aT Y (ao Y _ rfl rfl rfl (rfl)) (eI (Y.ev rfl) (Y.ev rfl)) rfl rfl fun _ Y=>?_
   refine sv Y (cr (Y.ev rfl) (rfl) (Y.ev rfl)) fun _ Y=>?_;refine GO 1 ?_;intro _ Y;refine aT Y (ao Y _ rfl rfl rfl (rfl)) (fx 0 0 (Y.ev rfl)) rfl rfl fun _ Y=>?_;refine aT Y (ao Y _ rfl rfl rfl (rfl)) (aA (v':=.slice (some ⟨bT,oT,none⟩) 2 a.2.1) (by rw[eT];rfl) (lx (Y.ev rfl) (Z.cell (i:=5) rfl rfl))) rfl rfl fun _ Y=>aT Y (ao Y _ rfl rfl rfl (rfl)) (av (i:=0) (sz:=4) ed aa (Y.ev rfl) (Y.ev rfl) ab ab rfl) rfl rfl fun _ Y=>?_;refine aT (v:=e9 awT.ts[0]) Y (ao Y _ rfl rfl rfl (rfl)) (ag aa aa (Y.ev rfl) (aZ bG (eT▸Z.rdOf (i:=6) rfl) (show 0<awT.ts.length by decide))) rfl rfl fun _ Y=>?_;refine aT Y (ao Y _ rfl rfl rfl (rfl)) (ay (zs:=nV) (pl:=yt) aa aa (Y.evs2 rfl) rfl rfl) rfl rfl fun _ Y=>aT Y (ao Y _ rfl rfl rfl (rfl)) (yz (ks:=[.i .i64,.i .i64,.i .i64,.b]) aa sT aa (Y.ev rfl) (Y.ev rfl) rfl rfl) rfl rfl fun _ Y=>sv Y (cr (Y.ev rfl) (rfl) (Y.ev rfl)) fun _ Y=>?_;refine GO 1 ?_;intro _ Y;refine aT Y (ao Y _ rfl rfl rfl (au)) (bQ (Y.ev rfl)) rfl rfl fun _ Y=>aT Y (ao Y _ rfl rfl rfl (au)) (eI (Y.ev rfl) (Y.ev rfl)) rfl rfl fun _ Y=>sv Y (cr (Y.ev rfl) (au) (Y.ev rfl)) fun _ Y=>?_;refine GO 1 ?_;intro _ Y;refine aT Y (ao Y _ rfl rfl rfl (rfl)) (bQ (Y.ev rfl)) rfl rfl fun _ Y=>aT Y (ao Y _ rfl rfl rfl (rfl)) (eI (Y.ev rfl) (Y.ev rfl)) rfl rfl fun _ Y=>sv Y (cr (Y.ev rfl) (rfl) (Y.ev rfl)) fun _ Y=>?_;refine GO 1 ?_;intro _ Y;refine aT Y (ao Y _ rfl rfl rfl (rfl)) (bQ (Y.ev rfl)) rfl rfl fun _ Y=>aT Y (ao Y _ rfl rfl rfl (rfl)) (wo ke (Y.ev rfl)) rfl rfl fun _ Y=>aT Y (ao Y _ rfl rfl rfl (rfl)) (eI (Y.ev rfl) (Y.ev rfl)) rfl rfl fun _ Y=>sv Y (cr (Y.ev rfl) (rfl) (Y.ev rfl)) fun _ Y=>?_;refine GO 1 ?_;intro _ Y;refine aT Y (ao Y _ rfl rfl rfl ((by rw[g];rfl))) (aA (v':=.slice (some ⟨bR,oR,none⟩) awPR.length E) (by rw[eR];rfl) (bQ (Y.ev rfl))) rfl rfl fun _ Y=>aT Y (ao Y _ rfl rfl rfl ((by rw[g];rfl))) (av (i:=0) (sz:=3) ke aa (Y.ev rfl) (Y.ev rfl) ab ab rfl) rfl rfl fun _ Y=>?_;refine aT Y (ao Y _ rfl rfl rfl ((by rw[g];rfl))) (fy 2 (Y.ev rfl)) rfl rfl fun _ Y=>?_;refine aT Y (ao Y _ rfl rfl rfl ((by rw[g];rfl))) (lx (Y.ev rfl) ((aZ bZ (eR▸Z.rdOf (i:=4) rfl) u) 2 _ rfl)) rfl rfl fun _ Y=>?_;refine aT Y (ao Y _ rfl rfl rfl ((by rw[g];rfl))) (bf (l:=70) (h:=71) dh (Y.ev rfl) (Y.ev rfl) (Y.ev rfl) ab ab) rfl rfl fun _ Y=>?_;refine aT Y (ao Y _ rfl rfl rfl ((by rw[g];rfl))) (ku (Y.ev rfl) (Y.ev rfl)) rfl rfl fun _ Y=>sv Y (cr (Y.ev rfl) ((by rw[g];rfl)) (Y.ev rfl)) fun _ Y=>?_;refine GO 1 ?_;intro _ Y;refine aT Y (ao Y _ rfl rfl rfl ((by rw[o];rfl))) (bQ (Y.ev rfl)) rfl rfl fun _ Y=>aT Y (ao Y _ rfl rfl rfl ((by rw[o];rfl))) (eI (Y.ev rfl) (Y.ev rfl)) rfl rfl fun _ Y=>sv Y (cr (Y.ev rfl) ((by rw[o];rfl)) (Y.ev rfl)) fun _ Y=>?_;refine GO 1 ?_;intro _ Y;refine aT Y (ao Y _ rfl rfl rfl (rfl)) (bQ (Y.ev rfl)) rfl rfl fun _ Y=>bV Y (ao Y _ rfl rfl rfl (rfl)) (f:=fun b=>.slice (some ⟨b,0,none⟩) 2 2) (bb n4 aa aa (Y.evs2 rfl) rfl rfl rfl au au) rfl rfl Z fun V _ _ Zo Y Z=>dk Y (ao Y _ rfl rfl rfl (rfl)) (az bc (Y.evs rfl) rfl) rfl rfl Z (zW [113,41] [113,41] B (some ⟨V,0,none⟩) K 2 _ (Z.rdOf (i:=4) rfl) (Z.boxRd (i:=0) rfl) au) fun _ _ Y Z=>sv Y (cr (Y.ev rfl) (rfl) (Y.ev rfl)) fun _ Y=>?_
   refine GO 1 ?_;intro _ Y;refine aT Y (ao Y _ rfl rfl rfl (au)) (bQ (Y.ev rfl)) rfl rfl fun _ Y=>aT Y (ao Y _ rfl rfl rfl (au)) (eI (Y.ev rfl) (Y.ev rfl)) rfl rfl fun _ Y=>sv Y (cr (Y.ev rfl) (au) (Y.ev rfl)) fun _ Y=>?_;refine GO 1 ?_;intro _ Y;refine aT Y (ao Y _ rfl rfl rfl (rfl)) (bQ (Y.ev rfl)) rfl rfl fun _ Y=>aT Y (ao Y _ rfl rfl rfl (rfl)) (eI (Y.ev rfl) (Y.ev rfl)) rfl rfl fun _ Y=>sv Y (cr (Y.ev rfl) (rfl) (Y.ev rfl)) fun _ Y=>?_;refine GO 1 ?_;intro _ Y;refine aT Y (ao Y _ rfl rfl rfl (rfl)) (aA (v':=.slice (some ⟨bM,oM,none⟩) awPM.length T) (by rw[eM];rfl) (bQ (Y.ev rfl))) rfl rfl fun _ Y=>aT Y (ao Y _ rfl rfl rfl (rfl)) (av (i:=0) (sz:=3) ke aa (Y.ev rfl) (Y.ev rfl) ab ab rfl) rfl rfl fun _ Y=>?_;refine aT Y (ao Y _ rfl rfl rfl (rfl)) (fy 2 (Y.ev rfl)) rfl rfl fun _ Y=>?_;refine aT Y (ao Y _ rfl rfl rfl (rfl)) (lx (Y.ev rfl) ((aZ bZ (eM▸Z.rdOf (i:=1) rfl) r) 2 _ rfl)) rfl rfl fun _ Y=>?_;refine aT Y (ao Y _ rfl rfl rfl (rfl)) (bf (l:=64) (h:=71) dh (Y.ev rfl) (Y.ev rfl) (Y.ev rfl) ab ab) rfl rfl fun _ Y=>?_;refine aT Y (ao Y _ rfl rfl rfl (rfl)) (ku (Y.ev rfl) (Y.ev rfl)) rfl rfl fun _ Y=>sv Y (cr (Y.ev rfl) (rfl) (Y.ev rfl)) fun _ Y=>?_;refine GO 1 ?_;intro _ Y;refine aT Y (ao Y _ rfl rfl rfl ((by rw[m];rfl))) (bQ (Y.ev rfl)) rfl rfl fun _ Y=>aT Y (ao Y _ rfl rfl rfl ((by rw[m];rfl))) (eI (Y.ev rfl) (Y.ev rfl)) rfl rfl fun _ Y=>sv Y (cr (Y.ev rfl) ((by rw[m];rfl)) (Y.ev rfl)) fun _ Y=>?_;refine GO 1 ?_;intro _ Y;refine aT Y (ao Y _ rfl rfl rfl ((by rw[aw_tbl.1];rfl))) (bQ (Y.ev rfl)) rfl rfl fun _ Y=>aT Y (ao Y _ rfl rfl rfl ((by rw[aw_tbl.1];rfl))) (kB dh (Y.ev rfl)) rfl rfl fun _ Y=>aT Y (ao Y _ rfl rfl rfl ((by rw[aw_tbl.1];rfl))) (eI (Y.ev rfl) (Y.ev rfl)) rfl rfl fun _ Y=>sv Y (cr (Y.ev rfl) ((by rw[aw_tbl.1];rfl)) (Y.ev rfl)) fun _ Y=>?_;refine GO 4 ?_;intro _ Y;refine aI Y rfl rfl ?_;exact⟨by rw[if_pos aw_tbl.1,bq,aw_tbl.2];rfl,Z.below⟩
  case hB=>kernel_rfl
 case hB=>kernel_rfl
end Go.Proofs.YtcfdpfmchchkaaaGreatDoor
