/- Chapter 22 -/
import Derived.Test.YtcfdpfmchchkaaaGreatDoorRcK
namespace Go.Proofs.YtcfdpfmchchkaaaGreatDoor
set_option maxHeartbeats 1000000
set_option maxRecDepth 4000
set_option linter.unusedVariables false
set_option linter.unusedSimpArgs false
open Go.RowKit Go.Sort Go.Shelf
def Is (k a c:Int) (o n:List UInt8):Op:=⟨k,a,0,c,bs o,bs n⟩
def IY:Lge:=⟨0,1,0,0,3,false,Is 1 64 0 [0] [97],⟨#[]⟩⟩
def IX:Lge:=⟨0,2,0,0,9,true,Is 4 5 1 [] [],⟨#[]⟩⟩
def IU:Lge:=⟨2,1,1,0,0,false,GW,⟨#[]⟩⟩
def IQ:Lge:=⟨0,2,41,0,3,false,Is 1 70 0 [0] [98],⟨#[]⟩⟩
def awH:List Rcd:=[⟨1,IY⟩,⟨41,IX⟩,⟨81,IU⟩,⟨113,IQ⟩]
def awP:List Pgp:=[⟨3,false,bs (cp 512)⟩,⟨9,true,bs (cp 512)⟩]
theorem jc (w:World):Calls Tryz.prog 58 #[] w fun e b=>∃A c,e=.returned (.slice A awH.length c)∧b.ownsRow w.heap.size 145 14 (.slice A awH.length c) awH.length (awH.flatMap cB)∧Below w.heap.size w b:=by
 refine an (N:=13) Tryz.func58 rfl rfl rfl (fun _ Y=>?_);have Z:=St.init w;refine GO 7 ?_;intro _ Y;refine sv Y (az (zs:=j2) (pl:=kj) aa aa (Y.evs2 rfl) rfl rfl) fun _ Y=>?_;refine sv Y (az (zs:=km) (pl:=j7) aa aa (Y.evs2 rfl) rfl rfl) fun _ Y=>?_;refine sv Y (az (zs:=mE) (pl:=tC) aa aa (Y.evs2 rfl) rfl rfl) fun _ Y=>?_;refine sv Y (az (zs:=j2) (pl:=kj) aa aa (Y.evs2 rfl) rfl rfl) fun _ Y=>?_;refine sv Y (az (zs:=km) (pl:=j7) aa aa (Y.evs2 rfl) rfl rfl) fun _ Y=>?_;refine sv Y (az (zs:=mE) (pl:=tC) aa aa (Y.evs2 rfl) rfl rfl) fun _ Y=>?_;refine sv Y (az (zs:=km) (pl:=j7) aa aa (Y.evs2 rfl) rfl rfl) fun _ Y=>?_;refine sv Y (az (zs:=mE) (pl:=tC) aa aa (Y.evs2 rfl) rfl rfl) fun _ Y=>?_;refine sv Y (az (zs:=j2) (pl:=kj) aa aa (Y.evs2 rfl) rfl rfl) fun _ Y=>?_;refine sv Y (az (zs:=km) (pl:=j7) aa aa (Y.evs2 rfl) rfl rfl) fun _ Y=>?_;refine sv Y (az (zs:=mE) (pl:=tC) aa aa (Y.evs2 rfl) rfl rfl) fun _ Y=>?_;refine dc (zc:=mE) (sz:=14) Y (wn rfl) ⟨rfl,rfl⟩ rfl cO aa aa rfl rfl rfl (Y.evs2 rfl) rfl rfl rfl Z fun a _ _ f Y Z=>GO 4 ?_;intro _ Y;refine aC Y rfl rfl ?_;have d:=Z.toRow (i:=0) (n:=4) (sz:=14) rfl rfl au;exact⟨some ⟨a,0,none⟩,4,rfl,d.ownB (i:=0) rfl,Z.below⟩
theorem tq (w:World):Calls Tryz.prog 59 #[] w fun e a=>∃A c,e=.returned (.slice A awP.length c)∧a.ownsRow w.heap.size 111 3 (.slice A awP.length c) awP.length (awP.flatMap bX)∧Below w.heap.size w a:=by
 refine an (N:=6) Tryz.func59 rfl rfl rfl (fun _ Y=>?_);have Z:=St.init w;refine GO 7 ?_;intro _ Y;refine cQ Y rfl Z (oA 512 _ au) fun _ _ Y Z=>?_;refine sv Y (az (zs:=s8) (pl:=fY) aa aa (Y.evs2 rfl) rfl rfl) fun _ Y=>?_;refine cQ Y rfl Z (oA 512 _ au) fun _ _ Y Z=>?_;refine sv Y (az (zs:=s8) (pl:=fY) aa aa (Y.evs2 rfl) rfl rfl) fun _ Y=>?_;refine dc (zc:=s8) (sz:=3) Y (wn rfl) ⟨rfl,rfl⟩ rfl en aa aa rfl rfl rfl (Y.evs2 rfl) rfl rfl rfl Z fun d _ _ f Y Z=>GO 4 ?_;intro _ Y;refine aC Y rfl rfl ?_;have b:=Z.toRow (i:=0) (n:=2) (sz:=3) rfl rfl au;exact⟨some ⟨d,0,none⟩,2,rfl,b.ownB (i:=0) rfl,Z.below⟩
open Go.RowKit Go.Sort Go.Shelf
theorem wC {X:World} {B b o k:Nat} {l:List Int} (hr:Rd X B (some ⟨b,o,none⟩) (l.map (.int .i64))) (a:k<l.length):∀(j:Nat) (u:Value),[Value.int .i64 l[k]][j]? = some u→X.cell? ⟨b,o+k*1+j,none⟩=some u
 | 0,u,hu=>by
  obtain⟨b',o',e,_,c⟩:=hr k u (by rw[List.getElem?_map,List.getElem?_eq_getElem a];exact hu);injection e with e;injection e with e1 e2;subst e1 e2;rw[Nat.mul_one,Nat.add_zero];exact c
 | j+1,u,hu=>by simp at hu
theorem xQ {α:Type} {a b:List α} (c:a.length=b.length) (h:∀k (d:k<a.length) (e:k<b.length),a[k]=b[k]):a=b:=List.ext_getElem c h
theorem zZ (xs ys:List Int) (A t:Option Addr) (c c':Nat) (w:World) (hr:Rd w w.heap.size A (xs.map (.int .i64))) (e:Rd w w.heap.size t (ys.map (.int .i64))) (z:xs.length≤100000) :
 bu 33 #[.slice A xs.length c,.slice t ys.length c'] w (.bool (decide (xs=ys))):=by
 refine an (N:=26) Tryz.func33 rfl rfl rfl (fun _ Y=>?_);have Z:=St.init w;refine GO 8 ?_;intro _ a;refine GO 1 ?_;intro _ f;refine GO 6 ?_;intro _ Y;refine ak (Y.ev rfl) (fun m=>?_) (fun m=>?_)
 ·
  have hne:xs≠ys:=fun q=>by rw[q] at m;simp at m
  refine GO 7 ?_;intro _ Y;refine aC Y rfl rfl ?_;exact⟨by rw[decide_eq_false hne],Z.below⟩
 ·
  have r:xs.length=ys.length:=by have:((xs.length:Int) != ys.length)=false:=m;simp at this;omega
  refine GO 9 ?_;intro _ Y;refine aV Y Z [0,1] (fun (j:Nat)=>[(5,ae (j:Nat))]) (fun (j:Nat)=>j≤xs.length∧∀k (a:k<xs.length) (f:k<ys.length),k<j→xs[k]=ys[k]) (fun (j:Nat) L=>L) (fun (j:Nat)=>xs.length-j) (0) (⟨Nat.zero_le _,fun k _ _ h=>absurd h (Nat.not_lt_zero _)⟩) bC (Z) ?_;intro j _ _ s Y Z;refine GO 9 ?_;intro _ Y;refine ak (Y.ev rfl) (fun n=>?_) (fun n=>?_)
  ·
   have d:j<xs.length:=by have:=of_decide_eq_true n;omega
   have g:j<ys.length:=by omega
   obtain⟨b,o,rfl,hB,_⟩:=hr.opened (by rw[List.length_map];omega);obtain⟨b',o',rfl,v,_⟩:=e.opened (by rw[List.length_map];omega);refine wp_skip (ai (aj (wp_block (aj ?_))));apply aK Y (fK 8) _ aa
   case h=>
    refine GO 2 ?_;intro _ Y;refine qv Y (fun X l=>ar (i:=j) (sz:=1) iG aa (Y.ev rfl) (Y.ev rfl) ab ab rfl) fun _ Y=>?_;refine qv Y (fun X l=>lx (Y.ev rfl) ((wC ((Z.grow l).rd0 hr) d) 0 _ rfl)) fun _ Y=>?_;refine GO 2 ?_;intro _ Y;refine qv Y (fun X l=>ar (i:=j) (sz:=1) iG aa (Y.ev rfl) (Y.ev rfl) ab ab rfl) fun _ Y=>?_;refine qv Y (fun X l=>lx (Y.ev rfl) ((wC ((Z.grow l).rd0 e) g) 0 _ rfl)) fun _ Y=>?_;refine ax ?_;refine aT fun _ u B=>?_;have Z:=Z.grow u;refine GO 3 ?_;intro _ Y;refine ak (Y.ev rfl) (fun p=>?_) (fun p=>?_)
    ·
     have hne:xs≠ys:=fun q=>by subst q;simp at p
     refine GO 11 ?_;intro _ Y;refine aC Y rfl rfl ?_;exact⟨by rw[decide_eq_false hne],Z.below⟩
    ·
     have heq:xs[j]=ys[j]:=al p;refine GO 9 ?_;intro _ Y;exact⟨j+1,ab,⟨d,fun k a f y=>by rcases Nat.lt_or_eq_of_le (show k≤j by omega) with q | q;exact s.2 k a f q;subst q;exact heq⟩,Y.re bC,Z⟩
   case hB=>kernel_rfl
   case hst=>rfl
  ·
   have x:xs.length≤j:=by have:=of_decide_eq_false n;omega
   have heq:xs=ys:=xQ r fun k a f=>s.2 k a f ab;refine GO 11 ?_;intro _ Y;refine aC Y rfl rfl ?_;exact⟨by rw[decide_eq_true heq],Z.below⟩
theorem rf (l:List Pgp) (A:Option Addr) (c:Nat) (w:World) (hr:Rd w w.heap.size A (l.flatMap bX)) (j:l.length≤1000) :
 Calls Tryz.prog 30 #[.slice A l.length c] w fun e b=>∃d c',e=.returned (.slice d l.length c')∧b.ownsRow w.heap.size 111 3 (.slice d l.length c') l.length (l.flatMap bX)∧Below w.heap.size w b:=by
 refine an (N:=6) Tryz.func30 rfl rfl rfl (fun _ Y=>?_);have Z:=St.init w;refine GO 7 ?_;intro _ Y;refine dc (zc:=s8) (sz:=3) Y (wn rfl) ⟨rfl,rfl⟩ rfl en aa aa rfl rfl rfl (Y.evs2 rfl) rfl rfl rfl Z fun k _ _ h Y Z=>GO 1 ?_;intro _ Y;have Z:=Z.toRow (i:=0) (n:=0) (sz:=3) rfl rfl au;refine bS (z:=.agg GK) (sz:=3) (bytes:=32) Y (wn rfl) ⟨rfl,rfl⟩ rfl en aa rfl rfl (Y.ev rfl) (Y.ev rfl) Z (i:=0) rfl (Z.rd0 hr) (by rw[jS aY,Nat.mul_comm]) (fun u f=>by obtain⟨x,_,hx⟩:=List.mem_flatMap.1 f;exact wJ x u hx) ⟨ab,by decide⟩ fun g c5 _ _ Y Z=>?_;refine GO 4 ?_;intro _ Y;refine aC Y rfl rfl ?_;have a:=Z.ownB (i:=0) rfl;rw[Nat.zero_add] at a Y;exact⟨g,c5,by rw[Nat.zero_add],a,Z.below⟩
theorem qV (t:Tbl) (A:Option Addr) (c:Nat) (B:Option Addr) (d:Nat) (w:World) (hr:Rd w w.heap.size A (t.ts.flatMap bW)) (C:Rd w w.heap.size B (t.ds.flatMap cN)) (F:t.ts.length≤1000∧t.ds.length≤1000) :
 Calls Tryz.prog 16 #[cc t A c B d] w fun e D=>∃i:Option Addr × Nat × Option Addr × Nat,e=.returned (cc t i.1 i.2.1 i.2.2.1 i.2.2.2) ∧
  St [] w D [.row (.slice i.1 t.ts.length i.2.1) t.ts.length 116 4 (t.ts.flatMap bW),.row (.slice i.2.2.1 t.ds.length i.2.2.2) t.ds.length 124 3 (t.ds.flatMap cN)]:=by
 refine an (N:=12) Tryz.func16 rfl rfl rfl (fun _ Y=>?_);have Z:=St.init w;refine aj (aq ?_);refine nb Y rfl rfl Z fun b1 _ _ I Y Z=>na (.agg gV) Y rfl Z fun G _ _ H Y j=>ag (ai (aj ?_));apply aK Y [true,false,false,true,true,false,false] _ aa
 case h=>
  refine GO 5 ?_;intro _ Y;apply eU (k:=0) (deps:=[]) (R:=NewB _ (fun b=>.slice (some ⟨b,0,none⟩) 0 0) _ _) Y rfl rfl rfl NewB.stable (fun X a l=>jm (ec (zc:=oJ) (sz:=4) rfl dT aa aa rfl rfl rfl (Y.evs2 rfl) rfl rfl rfl) a.size);intro L _ Y;apply eU (k:=3) (deps:=[0]) (R:=OwnB _ _ _ _ _) Y rfl rfl rfl OwnB.stable (fun X a l=>FK (z:=.agg lZ) (sz:=4) (bytes:=32) rfl dT aa rfl rfl (Y.ev rfl) (Y.ev rfl) (aM (k:=0) l rfl rfl) rfl ⟨_,_,rfl,(j.grow a).rd0 hr⟩ (by rw[jS bq,Nat.mul_comm]) (fun u q=>by obtain⟨x,_,hx⟩:=List.mem_flatMap.1 q;exact wc x u hx) ⟨ab,by decide⟩ a.size);intro M _ Y;apply eU (k:=4) (deps:=[]) (R:=NewB _ (fun b=>.slice (some ⟨b,0,none⟩) 0 0) _ _) Y rfl rfl rfl NewB.stable (fun X a l=>jm (ec (zc:=ri) (sz:=3) rfl iy aa aa rfl rfl rfl (Y.evs2 rfl) rfl rfl rfl) a.size);intro J _ Y;refine aT fun _ s o=>?_;have Z:=j.grow s;have K:=aD o (k:=0) rfl;have f:=aD o (k:=3) rfl;obtain⟨y,E,rfl,f⟩:=f;have Z:=j.add s (e:=.row _ _ _ _ _) (aZ f (Nat.zero_le _)) (fun b p=>f.lt b p);have g:=aD o (k:=4) rfl;obtain⟨O,rfl,v,g⟩:=g;have Z:=St.add2 j Z (e2:=.box _ _ _) g (fun b p=>by cases p;exact⟨v,Box.lt g⟩) (l7 f g au);have Z:=Z.toRow (i:=0) (n:=0) (sz:=3) rfl rfl au;refine bS (z:=.agg oz) (sz:=3) (bytes:=24) Y (wn rfl) ⟨rfl,rfl⟩ rfl iy aa rfl rfl (Y.ev rfl) (Y.ev rfl) Z (i:=0) rfl (Z.rd0 C) (by rw[jS dF,Nat.mul_comm]) (fun u q=>by obtain⟨x,_,hx⟩:=List.mem_flatMap.1 q;exact vp x u hx) ⟨ab,by decide⟩ fun r m _ _ Y Z=>?_;rw[Nat.zero_add] at Y Z;refine sv Y (az (zs:=mD) (pl:=lM) aa aa (Y.evs2 rfl) rfl rfl) fun _ Y=>?_;refine sw Y Z 2 fun _ Z=>?_;refine ag (ai (wp_ret ?_))
  refine ni Y rfl rfl Z (i:=2) rfl aa aa ?_;exact⟨(y,E,r,m),rfl,St.swap (Z.sub (aB 3))⟩
 case hB=>kernel_rfl
 case hst=>rfl
open Go.RowKit Go.Sort Go.Shelf
def awT:Tbl:=⟨[⟨1,81,1,true⟩,⟨2,113,113,false⟩],[⟨3,false,1⟩,⟨9,true,41⟩]⟩
theorem Gt:n0 awH 0=(awT,0):=by decide +kernel
theorem aw_tbl:cZ awT=0∧(Ey awT).length=38:=by decide +kernel
theorem aw_uo:pB awH awT=[113,41]∧zM awH awT=0:=by decide +kernel
theorem aw_rdo:(kO awH awT awP).2=(3,0)∧(kO awH awT awP).1.length=2∧((kO awH awT awP).1.map fun q=>(q.b.size,((bl q.b).drop 70).take 1)).head? = some (512,[98]):=by decide +kernel
theorem aw_mng:(nV awH awP).2=(1,0)∧((nV awH awP).1.map fun q=>(q.b.size,((bl q.b).drop 64).take 7)).head? = some (512,[97,0,0,0,0,0,0]):=by decide +kernel
open Go.RowKit Go.Sort Go.Shelf
theorem lp {w:World} {a sz n c:Nat} {T:TypeId} {A:Option Addr} {xs:List Value} (h:w.ownsRow a T sz (.slice A n c) n xs):n≤c:=by
 rcases h.2 with ⟨b,d⟩ | ⟨g,cap,cur,b,_,_,d,_⟩
 · omega
 · injection b with _ _ b
   omega
theorem yS:∀x∈awH,FewE x.e∧I6 x.e.g:=by
 intro x hx;simp only[awH,List.mem_cons,List.not_mem_nil,or_false] at hx
 rcases hx with rfl | rfl | rfl | rfl<;>exact⟨⟨by decide +kernel,by decide +kernel,by decide +kernel⟩,by decide,by decide⟩
def awPR:List Pgp:=(kO awH awT awP).1
def awPM:List Pgp:=(nV awH awP).1
theorem EL (A:Option Addr) (c:Nat) (w:World) (a:w.ownsRow 0 145 14 (.slice A awH.length c) awH.length (awH.flatMap cB)) (hF:FolT w) :
 Calls Tryz.prog 24 #[.slice A awH.length c,ae 0] w fun e b=>∃i:Option Addr × Nat × Option Addr × Nat,e=.returned (.tuple #[cc awT i.1 i.2.1 i.2.2.1 i.2.2.2,ae 0]) ∧
  St [] w b [.row (.slice i.1 awT.ts.length i.2.1) awT.ts.length 116 4 (awT.ts.flatMap bW),.row (.slice i.2.2.1 awT.ds.length i.2.2.2) awT.ds.length 124 3 (awT.ds.flatMap cN)]:=by
 have h:=uu awH A c 0 w (Rd.of_own a) au (lp a) hF (fun x hx=>(yS x hx).1);rw[Gt] at h;exact h
theorem Ex (A:Option Addr) (c:Nat) (j:Option Addr) (c':Nat) (f:Option Addr) (k:Nat) (b:Option Addr) (l:Nat) (w:World) (n:w.ownsRow 0 145 14 (.slice A awH.length c) awH.length (awH.flatMap cB)) (p:w.ownsRow 0 111 3 (.slice j awP.length c') awP.length (awP.flatMap bX))
 (a:Rd w w.heap.size f (awT.ts.flatMap bW)) (h:Rd w w.heap.size b (awT.ds.flatMap cN)) (hF:FolT w) :
 Calls Tryz.prog 29 #[.slice A awH.length c,cc awT f k b l,.slice j awP.length c'] w fun e g=>∃B d,e=.returned (.tuple #[.slice B awPR.length d,ae 3,ae 0])∧g.ownsRow w.heap.size 111 3 (.slice B awPR.length d) awPR.length (awPR.flatMap bX)∧Below w.heap.size w g:=by
 refine(tT awH A c awT f k b l awP j c' w (Rd.of_own p) (Rd.of_own n) a h au (lp n) au hF yS).mono fun e g ⟨i,o,m⟩=>⟨i.1,i.2,?_,m.ownB (i:=0) rfl,m.below⟩;rw[o,aw_rdo.1];rfl
theorem Fh (A:Option Addr) (c:Nat) (f:Option Addr) (k:Nat) (b:Option Addr) (l:Nat) (w:World) (n:w.ownsRow 0 145 14 (.slice A awH.length c) awH.length (awH.flatMap cB))
 (a:Rd w w.heap.size f (awT.ts.flatMap bW)) (j:Rd w w.heap.size b (awT.ds.flatMap cN)) (hF:FolT w) :
 Calls Tryz.prog 31 #[.slice A awH.length c,cc awT f k b l] w fun e g=>∃B d,e=.returned (.tuple #[.slice B ([113,41]:List Int).length d,ae 0])∧g.ownsRow w.heap.size 3 1 (.slice B ([113,41]:List Int).length d) ([113,41]:List Int).length (([113,41]:List Int).map (.int .i64))∧Below w.heap.size w g:=by
 have h:=sn awH A c awT f k b l w (Rd.of_own n) a j au (lp n) hF (fun x hx=>(yS x hx).1);rw[aw_uo.1,aw_uo.2] at h;exact h.mono fun e g ⟨i,o,m⟩=>⟨i.1,i.2,o,m.ownB (i:=0) rfl,m.below⟩
theorem F4 (A:Option Addr) (c:Nat) (b:Option Addr) (c':Nat) (w:World) (f:w.ownsRow 0 145 14 (.slice A awH.length c) awH.length (awH.flatMap cB)) (j:w.ownsRow 0 111 3 (.slice b awP.length c') awP.length (awP.flatMap bX)) (hF:FolT w) :
 Calls Tryz.prog 38 #[.slice A awH.length c,.slice b awP.length c'] w fun e a=>∃B d,e=.returned (.tuple #[.slice B awPM.length d,ae 1,ae 0])∧a.ownsRow w.heap.size 111 3 (.slice B awPM.length d) awPM.length (awPM.flatMap bX)∧Below w.heap.size w a:=by
 refine(rX awH A c awP b c' w (Rd.of_own j) (Rd.of_own f) au (lp f) au hF yS).mono fun e a ⟨i,h,g⟩=>⟨i.1,i.2,?_,g.ownB (i:=0) rfl,g.below⟩;rw[h,aw_mng.1];rfl
theorem wv {α β:Type} {l:List α} {f:α→β} {x:β} (h:(l.map f).head? = some x):∃b:0<l.length,f l[0]=x:=by
 cases l with
 | nil=>cases h
 | cons a r=>
  injection h with h;exact⟨by simp,h⟩
theorem BB {s:ByteArray} {a b:Nat} {l:List UInt8} (c:a≤b) (h:((bl s).drop a).take (b-a)=l):s.extract a b=bs l:=by
 apply gb;rw[ca,qu,←h,List.drop_take]
theorem CP:awPR.length=2:=aw_rdo.2.1
theorem Ew:∃a:0<awPR.length,awPR[0].b.size=512∧awPR[0].b.extract 70 71=⟨#[98]⟩:=by
 obtain⟨a,h⟩:=wv (l:=awPR) aw_rdo.2.2;simp only[Prod.mk.injEq] at h;exact⟨a,h.1,BB au h.2⟩
theorem FD:∃a:0<awPM.length,awPM[0].b.size=512∧awPM[0].b.extract 64 71=⟨#[97,0,0,0,0,0,0]⟩:=by
 obtain⟨a,h⟩:=wv (l:=awPM) aw_mng.2;simp only[Prod.mk.injEq] at h;exact⟨a,h.1,BB au h.2⟩
attribute [local irreducible] awPR awPM
theorem vV (w:World) (hF:FolT w):bu 13 #[] w (.bool true):=by
 obtain⟨r,Vf,o⟩:=Ew;obtain⟨p,Va,n⟩:=FD;have g:awPR.length=2:=CP;refine an (N:=115) Tryz.func13 rfl rfl rfl (fun _ Y=>?_);have Z:=St.init w;refine GO 7 ?_;intro _ Y;refine nP Y (wn rfl) (aw a6 (Y.evs rfl) rfl) rfl rfl Z (jc _) (Nat.le_refl _) fun A z _ _ Y Z=>cT Y (wn rfl) (aw a6 (Y.evs rfl) rfl) rfl rfl Z (EL A z _ (Z.at_ (i:=0) rfl) (hF.below Z.below)) fun a _ _ Y Z=>GO 1 ?_;intro _ Y;refine sv (v:=cc awT a.1 a.2.1 a.2.2.1 a.2.2.2) Y (bN (Y.ev rfl) rfl) fun _ Y=>?_;refine GO 1 ?_;intro _ Y;refine na (.agg gV) Y rfl Z fun b1 _ _ Zp Y Z=>sw Y Z 0 fun _ Z=>?_;refine GO 4 ?_;intro _ Y;apply eG Y (fun _=>False) [] [] [true,false,true,true,true,true,true,true,true,true] _ aa bG
 case h=>
  refine qv (v:=cc awT a.1 a.2.1 a.2.2.1 a.2.2.2) Y (fun X d=>ah aa aa (Y.ev rfl) ((Z.grow (Grw.below d)).cellsAll (i:=0) rfl)) fun _ Y=>?_;refine ax ?_;apply cE (O:=(fun _=>False)) (k:=0) (deps:=[]) (R:=OwnB _ _ _ _ _) Y rfl rfl rfl bG OwnB.stable bG bG
  case hx=>exact fun X d c=>pW (aw a6 (Y.evs rfl) rfl) (jc _) d.size
  intro Vh _ Y;apply cE (O:=(fun _=>False)) (k:=2) (deps:=[]) (R:=OwnB _ _ _ _ _) Y rfl rfl rfl bG OwnB.stable bG bG
  case hx=>exact fun X d c=>pW (aw a6 (Y.evs rfl) rfl) (tq _) d.size
  intro Jz _ Y;apply cE (O:=(fun _=>False)) (k:=3) (deps:=[0,2]) (R:=RowU _ _ _ _ _ _) Y rfl rfl rfl bG RowU.stable bG bG
  case hx=>
   intro X d c;obtain⟨F,C,rfl,W⟩:=(aM (k:=0) c rfl rfl);obtain⟨B,M,rfl,Q⟩:=(aM (k:=2) c rfl rfl);exact uc (aw a6 (Y.evs rfl) rfl) (Ex F C B M a.1 a.2.1 a.2.2.1 a.2.2.2 _ (aZ W (Nat.zero_le _)) (aZ Q (Nat.zero_le _)) ((Z.grow (Grw.below d)).rdOf (i:=1) rfl) ((Z.grow (Grw.below d)).rdOf (i:=2) rfl) (hF.below (Z.grow (Grw.below d)).below)) d.size
  intro Vj _ q;apply jh (k:=4) (deps:=[0,2,3]) (kx:=3) (src:=22) q rfl (.inl rfl) rfl rfl ⟨rfl,rfl⟩ rfl;intro Vc _ Zg;apply gP (k:=5) (deps:=[0,2,3,4]) (kx:=4) (src:=18) (i:=0) Zg rfl rfl rfl rfl ⟨rfl,rfl⟩ rfl
  case hx=>
   intro X c;obtain⟨_,_,j,_⟩:=(aM (k:=3) c rfl rfl);exact⟨_,_,((MovS.get q rfl (aM (k:=4) c rfl rfl)).trans j),rfl⟩
  intro Vb _ Zh;apply gP (k:=6) (deps:=[0,2,3,4]) (kx:=4) (src:=18) (i:=1) Zh rfl rfl rfl rfl ⟨rfl,rfl⟩ rfl
  case hx=>
   intro X c;obtain⟨_,_,j,_⟩:=(aM (k:=3) c rfl rfl);exact⟨_,_,((MovS.get q rfl (aM (k:=4) c rfl rfl)).trans j),rfl⟩
  intro Vk _ Zi;apply gP (k:=7) (deps:=[0,2,3,4]) (kx:=4) (src:=18) (i:=2) Zi rfl rfl rfl rfl ⟨rfl,rfl⟩ rfl
  case hx=>
   intro X c;obtain⟨_,_,j,_⟩:=(aM (k:=3) c rfl rfl);exact⟨_,_,((MovS.get q rfl (aM (k:=4) c rfl rfl)).trans j),rfl⟩
  intro Jx _ Zj;apply jh (k:=8) (deps:=[0,2,3,4,5]) (kx:=5) (src:=23) Zj rfl (.inr rfl) rfl rfl ⟨rfl,rfl⟩ rfl;intro v3 _ Zk;apply jh (k:=9) (deps:=[0,2,3,4,6]) (kx:=6) (src:=24) Zk rfl (.inr rfl) rfl rfl ⟨rfl,rfl⟩ rfl;intro v4 _ Y;refine iA (O:=(fun _=>False)) bG fun _ Ze m=>?_;obtain⟨Jy,J,rfl,t⟩:=aD m (k:=3) rfl;obtain rfl:=MovS.get q rfl (aD m (k:=4) rfl);obtain rfl:=ExtS.get Zg rfl rfl (aD m (k:=5) rfl);obtain rfl:=ExtS.get Zh rfl rfl (aD m (k:=6) rfl);obtain rfl:=ExtS.get Zi rfl rfl (aD m (k:=7) rfl);obtain rfl:=MovS.get Zj rfl (aD m (k:=8) rfl);obtain rfl:=MovS.get Zk rfl (aD m (k:=9) rfl);have Z:=St.addRow Z (Z.grow (Grw.below Ze)) (fun e E b S=>(Z.new e E b S).2) t;refine GO 4 ?_;intro _ Y;apply eG Y (fun _=>False) [] [] [true,false,true,true,true,true,true] _ aa bG
  case h=>
   refine qv (v:=cc awT a.1 a.2.1 a.2.2.1 a.2.2.2) Y (fun X d=>ah aa aa (Y.ev rfl) ((Z.grow (Grw.below d)).cellsAll (i:=1) rfl)) fun _ Y=>?_;refine ax ?_;apply cE (O:=(fun _=>False)) (k:=0) (deps:=[]) (R:=OwnB _ _ _ _ _) Y rfl rfl rfl bG OwnB.stable bG bG
   case hx=>exact fun X d c=>pW (aw a6 (Y.evs rfl) rfl) (jc _) d.size
   intro Vg _ Y;apply cE (O:=(fun _=>False)) (k:=2) (deps:=[0]) (R:=RowU _ _ _ _ _ _) Y rfl rfl rfl bG RowU.stable bG bG
   case hx=>
    intro X d c;obtain⟨T,y,rfl,K⟩:=(aM (k:=0) c rfl rfl);exact uc (aw a6 (Y.evs rfl) rfl) (Fh T y a.1 a.2.1 a.2.2.1 a.2.2.2 _ (aZ K (Nat.zero_le _)) ((Z.grow (Grw.below d)).rdOf (i:=2) rfl) ((Z.grow (Grw.below d)).rdOf (i:=3) rfl) (hF.below (Z.grow (Grw.below d)).below)) d.size
   intro Jv _ x;apply jh (k:=3) (deps:=[0,2]) (kx:=2) (src:=29) x rfl (.inl rfl) rfl rfl ⟨rfl,rfl⟩ rfl;intro Vd _ Zl;apply gP (k:=4) (deps:=[0,2,3]) (kx:=3) (src:=26) (i:=0) Zl rfl rfl rfl rfl ⟨rfl,rfl⟩ rfl
   case hx=>
    intro X c;obtain⟨_,_,j,_⟩:=(aM (k:=2) c rfl rfl);exact⟨_,_,((MovS.get x rfl (aM (k:=3) c rfl rfl)).trans j),rfl⟩
   intro Vi _ Zm;apply gP (k:=5) (deps:=[0,2,3]) (kx:=3) (src:=26) (i:=1) Zm rfl rfl rfl rfl ⟨rfl,rfl⟩ rfl
   case hx=>
    intro X c;obtain⟨_,_,j,_⟩:=(aM (k:=2) c rfl rfl);exact⟨_,_,((MovS.get x rfl (aM (k:=3) c rfl rfl)).trans j),rfl⟩
   intro Ve _ Zn;apply jh (k:=6) (deps:=[0,2,3,4]) (kx:=4) (src:=30) Zn rfl (.inr rfl) rfl rfl ⟨rfl,rfl⟩ rfl;intro v6 _ Y;refine iA (O:=(fun _=>False)) bG fun _ Zf s=>?_;obtain⟨I,V,rfl,u⟩:=aD s (k:=2) rfl;obtain rfl:=MovS.get x rfl (aD s (k:=3) rfl);obtain rfl:=ExtS.get Zl rfl rfl (aD s (k:=4) rfl);obtain rfl:=ExtS.get Zm rfl rfl (aD s (k:=5) rfl);obtain rfl:=MovS.get Zn rfl (aD s (k:=6) rfl);have Z:=St.addRow Z (Z.grow (Grw.below Zf)) (fun e E b S=>(Z.new e E b S).2) u;refine GO 5 ?_;intro _ Y;refine nP Y (wn rfl) (aw a6 (Y.evs rfl) rfl) rfl rfl Z (jc _) (Nat.le_refl _) fun G P _ _ Y Z=>nP Y (wn rfl) (aw a6 (Y.evs rfl) rfl) rfl rfl Z (tq _) (Nat.le_refl _) fun U D _ _ Y Z=>u6 Y (wn rfl) (aw a6 (Y.evs rfl) rfl) rfl rfl Z (F4 G P U D _ (Z.at_ (i:=1) rfl) (Z.at_ (i:=0) rfl) (hF.below Z.below)) (Nat.le_refl _) fun Jw H _ _ Y Z=>GO 11 ?_;intro _ Y;refine sv (v:=cc awT a.1 a.2.1 a.2.2.1 a.2.2.2) Y (ah aa aa (Y.ev rfl) (Z.cellsAll (i:=5) rfl)) fun _ Y=>?_;refine cQ Y rfl Z (rC awT a.1 a.2.1 a.2.2.1 a.2.2.2 _ (Z.rdOf (i:=6) rfl) (Z.rdOf (i:=7) rfl)) fun _ _ Y Z=>?_;refine GO 5 ?_;intro _ Y;obtain⟨bT,oT,eT,_,_⟩:=(Z.rdOf (i:=6) rfl).opened au;obtain⟨bR,oR,eR,_,_⟩:=(Z.rdOf (i:=4) rfl).opened (aF aY au r);obtain⟨bM,oM,eM,_,_⟩:=(Z.rdOf (i:=0) rfl).opened (aF aY au p);have hU:=Z.rdOf (i:=3) rfl;refine GO 7 ?_;intro _ Y;refine aU Y (ao Y _ rfl rfl rfl (rfl)) (fx 0 0 (Y.ev rfl)) rfl rfl fun _ Y=>?_;refine aU Y (ao Y _ rfl rfl rfl (rfl)) (lx (Y.ev rfl) (Z.cell (i:=5) rfl rfl)) rfl rfl fun _ Y=>aU Y (ao Y _ rfl rfl rfl (rfl)) (yv dT (Y.ev rfl)) rfl rfl fun _ Y=>aU Y (ao Y _ rfl rfl rfl (rfl)) (eV (Y.ev rfl) (Y.ev rfl)) rfl rfl fun _ Y=>?_
   refine sv Y (cJ (Y.ev rfl) (rfl) (Y.ev rfl)) fun _ Y=>?_;refine GO 1 ?_;intro _ Y;refine aU Y (ao Y _ rfl rfl rfl (rfl)) (fx 0 0 (Y.ev rfl)) rfl rfl fun _ Y=>?_;refine aU Y (ao Y _ rfl rfl rfl (rfl)) (aA (v':=.slice (some ⟨bT,oT,none⟩) 2 a.2.1) (by rw[eT];rfl) (lx (Y.ev rfl) (Z.cell (i:=5) rfl rfl))) rfl rfl fun _ Y=>aU Y (ao Y _ rfl rfl rfl (rfl)) (ar (i:=0) (sz:=4) dT aa (Y.ev rfl) (Y.ev rfl) ab ab rfl) rfl rfl fun _ Y=>?_;refine aU (v:=eX awT.ts[0]) Y (ao Y _ rfl rfl rfl (rfl)) (ah aa aa (Y.ev rfl) (aL bq (eT▸Z.rdOf (i:=6) rfl) (show 0<awT.ts.length by decide))) rfl rfl fun _ Y=>?_;refine aU Y (ao Y _ rfl rfl rfl (rfl)) (az (zs:=oJ) (pl:=yH) aa aa (Y.evs2 rfl) rfl rfl) rfl rfl fun _ Y=>aU Y (ao Y _ rfl rfl rfl (rfl)) (zi (ks:=[.i .i64,.i .i64,.i .i64,.b]) aa Tryz.underlying116 aa (Y.ev rfl) (Y.ev rfl) rfl rfl) rfl rfl fun _ Y=>sv Y (cJ (Y.ev rfl) (rfl) (Y.ev rfl)) fun _ Y=>?_;refine GO 1 ?_;intro _ Y;refine aU Y (ao Y _ rfl rfl rfl (au)) (bD (Y.ev rfl)) rfl rfl fun _ Y=>aU Y (ao Y _ rfl rfl rfl (au)) (eV (Y.ev rfl) (Y.ev rfl)) rfl rfl fun _ Y=>sv Y (cJ (Y.ev rfl) (au) (Y.ev rfl)) fun _ Y=>?_;refine GO 1 ?_;intro _ Y;refine aU Y (ao Y _ rfl rfl rfl (rfl)) (bD (Y.ev rfl)) rfl rfl fun _ Y=>aU Y (ao Y _ rfl rfl rfl (rfl)) (eV (Y.ev rfl) (Y.ev rfl)) rfl rfl fun _ Y=>sv Y (cJ (Y.ev rfl) (rfl) (Y.ev rfl)) fun _ Y=>?_;refine GO 1 ?_;intro _ Y;refine aU Y (ao Y _ rfl rfl rfl (rfl)) (bD (Y.ev rfl)) rfl rfl fun _ Y=>aU Y (ao Y _ rfl rfl rfl (rfl)) (yv en (Y.ev rfl)) rfl rfl fun _ Y=>aU Y (ao Y _ rfl rfl rfl (rfl)) (eV (Y.ev rfl) (Y.ev rfl)) rfl rfl fun _ Y=>sv Y (cJ (Y.ev rfl) (rfl) (Y.ev rfl)) fun _ Y=>?_;refine GO 1 ?_;intro _ Y;refine aU Y (ao Y _ rfl rfl rfl ((by rw[g];rfl))) (aA (v':=.slice (some ⟨bR,oR,none⟩) awPR.length J) (by rw[eR];rfl) (bD (Y.ev rfl))) rfl rfl fun _ Y=>aU Y (ao Y _ rfl rfl rfl ((by rw[g];rfl))) (ar (i:=0) (sz:=3) en aa (Y.ev rfl) (Y.ev rfl) ab ab rfl) rfl rfl fun _ Y=>?_;refine aU Y (ao Y _ rfl rfl rfl ((by rw[g];rfl))) (fy 2 (Y.ev rfl)) rfl rfl fun _ Y=>?_;refine aU Y (ao Y _ rfl rfl rfl ((by rw[g];rfl))) (lx (Y.ev rfl) ((aL aY (eR▸Z.rdOf (i:=4) rfl) r) 2 _ rfl)) rfl rfl fun _ Y=>?_;refine aU Y (ao Y _ rfl rfl rfl ((by rw[g];rfl))) (bb (l:=70) (h:=71) dr (Y.ev rfl) (Y.ev rfl) (Y.ev rfl) ab ab) rfl rfl fun _ Y=>?_;refine aU Y (ao Y _ rfl rfl rfl ((by rw[g];rfl))) (k8 (Y.ev rfl) (Y.ev rfl)) rfl rfl fun _ Y=>sv Y (cJ (Y.ev rfl) ((by rw[g];rfl)) (Y.ev rfl)) fun _ Y=>?_;refine GO 1 ?_;intro _ Y;refine aU Y (ao Y _ rfl rfl rfl ((by rw[o];rfl))) (bD (Y.ev rfl)) rfl rfl fun _ Y=>aU Y (ao Y _ rfl rfl rfl ((by rw[o];rfl))) (eV (Y.ev rfl) (Y.ev rfl)) rfl rfl fun _ Y=>sv Y (cJ (Y.ev rfl) ((by rw[o];rfl)) (Y.ev rfl)) fun _ Y=>?_;refine GO 1 ?_;intro _ Y;refine aU Y (ao Y _ rfl rfl rfl (rfl)) (bD (Y.ev rfl)) rfl rfl fun _ Y=>bV Y (ao Y _ rfl rfl rfl (rfl)) (f:=fun b=>.slice (some ⟨b,0,none⟩) 2 2) (ba iG aa aa (Y.evs2 rfl) rfl rfl rfl au au) rfl rfl Z fun L _ _ Zo Y Z=>dO Y (ao Y _ rfl rfl rfl (rfl)) (aw a6 (Y.evs rfl) rfl) rfl rfl Z (zZ [113,41] [113,41] I (some ⟨L,0,none⟩) V 2 _ (Z.rdOf (i:=4) rfl) (Z.boxRd (i:=0) rfl) au) fun _ _ Y Z=>sv Y (cJ (Y.ev rfl) (rfl) (Y.ev rfl)) fun _ Y=>?_
   refine GO 1 ?_;intro _ Y;refine aU Y (ao Y _ rfl rfl rfl (au)) (bD (Y.ev rfl)) rfl rfl fun _ Y=>aU Y (ao Y _ rfl rfl rfl (au)) (eV (Y.ev rfl) (Y.ev rfl)) rfl rfl fun _ Y=>sv Y (cJ (Y.ev rfl) (au) (Y.ev rfl)) fun _ Y=>?_;refine GO 1 ?_;intro _ Y;refine aU Y (ao Y _ rfl rfl rfl (rfl)) (bD (Y.ev rfl)) rfl rfl fun _ Y=>aU Y (ao Y _ rfl rfl rfl (rfl)) (eV (Y.ev rfl) (Y.ev rfl)) rfl rfl fun _ Y=>sv Y (cJ (Y.ev rfl) (rfl) (Y.ev rfl)) fun _ Y=>?_;refine GO 1 ?_;intro _ Y;refine aU Y (ao Y _ rfl rfl rfl (rfl)) (aA (v':=.slice (some ⟨bM,oM,none⟩) awPM.length H) (by rw[eM];rfl) (bD (Y.ev rfl))) rfl rfl fun _ Y=>aU Y (ao Y _ rfl rfl rfl (rfl)) (ar (i:=0) (sz:=3) en aa (Y.ev rfl) (Y.ev rfl) ab ab rfl) rfl rfl fun _ Y=>?_;refine aU Y (ao Y _ rfl rfl rfl (rfl)) (fy 2 (Y.ev rfl)) rfl rfl fun _ Y=>?_;refine aU Y (ao Y _ rfl rfl rfl (rfl)) (lx (Y.ev rfl) ((aL aY (eM▸Z.rdOf (i:=1) rfl) p) 2 _ rfl)) rfl rfl fun _ Y=>?_;refine aU Y (ao Y _ rfl rfl rfl (rfl)) (bb (l:=64) (h:=71) dr (Y.ev rfl) (Y.ev rfl) (Y.ev rfl) ab ab) rfl rfl fun _ Y=>?_;refine aU Y (ao Y _ rfl rfl rfl (rfl)) (k8 (Y.ev rfl) (Y.ev rfl)) rfl rfl fun _ Y=>sv Y (cJ (Y.ev rfl) (rfl) (Y.ev rfl)) fun _ Y=>?_;refine GO 1 ?_;intro _ Y;refine aU Y (ao Y _ rfl rfl rfl ((by rw[n];rfl))) (bD (Y.ev rfl)) rfl rfl fun _ Y=>aU Y (ao Y _ rfl rfl rfl ((by rw[n];rfl))) (eV (Y.ev rfl) (Y.ev rfl)) rfl rfl fun _ Y=>sv Y (cJ (Y.ev rfl) ((by rw[n];rfl)) (Y.ev rfl)) fun _ Y=>?_;refine GO 1 ?_;intro _ Y;refine aU Y (ao Y _ rfl rfl rfl ((by rw[aw_tbl.1];rfl))) (bD (Y.ev rfl)) rfl rfl fun _ Y=>aU Y (ao Y _ rfl rfl rfl ((by rw[aw_tbl.1];rfl))) (lq dr (Y.ev rfl)) rfl rfl fun _ Y=>aU Y (ao Y _ rfl rfl rfl ((by rw[aw_tbl.1];rfl))) (eV (Y.ev rfl) (Y.ev rfl)) rfl rfl fun _ Y=>sv Y (cJ (Y.ev rfl) ((by rw[aw_tbl.1];rfl)) (Y.ev rfl)) fun _ Y=>?_;refine GO 4 ?_;intro _ Y;refine aC Y rfl rfl ?_;exact⟨by rw[if_pos aw_tbl.1,cm,aw_tbl.2];rfl,Z.below⟩
  case hB=>kernel_rfl
 case hB=>kernel_rfl
end Go.Proofs.YtcfdpfmchchkaaaGreatDoor
