/- Chapter 22 -/
import Derived.Test.YtcfdpfmchchkaaaGreatDoorRcC
import Derived.Test.YtcfdpfmchchkaaaGreatDoorOpH
namespace Go.Proofs.YtcfdpfmchchkaaaGreatDoor
set_option maxHeartbeats 2000000
set_option maxRecDepth 4000
set_option linter.unusedVariables false
set_option linter.unusedSimpArgs false
open Go.RowKit Go.Sort
def om (c:Chn):Value:=.agg #[ae c.l,ae c.k,ae c.u]
theorem rE (c:Chn) (n:Int) (x:Lge) (w:World) :
 bz 159 #[om c,ae n,cZ x] w (om (vL c n x)):=by
 refine aq (N:=24) Tryz.func159 rfl rfl rfl (fun _ Y=>?_);have Z:=St.init w;refine ai (an ?_);refine nb Y rfl rfl Z fun s _ _ q Y Z=>nb Y rfl rfl Z fun o _ _ r Y Z=>na (.agg qf) Y rfl Z fun u _ _ t Y Z=>ah (aj (ai ?_));apply iS (m:=4) Y (St.domAt Z (i:=2) rfl) 0 [false,false,false,false,true] _ aa
 case h=>
  refine GO 2 ?_;intro _ Y;refine qv Y (fun X g=>lx (Y.ev rfl) ((Z.growO (i:=2) rfl g).cell (i:=1) rfl rfl)) fun _ Y=>?_;refine GO 2 ?_;intro _ Y;apply jY (k:=4) (deps:=[]) (R:=IsBox _ _ _) Y rfl rfl IsBox.stable (fun X g p=>mw rfl (Y.ev rfl) (Y.ev rfl) rfl aa ((Z.grow g).at_ (i:=2) rfl) rfl rfl);intro f;refine nh fun _ l j=>?_;have Z:=Z.growBox (i:=2) (v:=f) rfl l (aF j (k:=4) rfl);refine GO 1 ?_;intro _ Y;refine aM Y (wn rfl) ⟨rfl,rfl⟩ (Y.ev rfl) (Y.ev rfl) rfl aa Z (i:=2) rfl rfl rfl fun _ Z=>GO 16 ?_;intro _ Y;refine ak (Y.ev rfl) (fun d=>?_) (fun d=>?_)
  ·
   refine GO 3 ?_;intro _ Y;refine aM Y (wn rfl) ⟨rfl,rfl⟩ (Y.ev rfl) (Y.ev rfl) rfl aa Z (i:=2) rfl rfl rfl fun _ Z=>ah (ez (aj (ai (an ?_))));refine sv Y (ag aa aa (Y.ev rfl) (Z.cellsAll (i:=2) rfl)) fun _ Y=>?_;refine sw Y Z 0 fun _ Z=>?_;refine ah (aj (wp_ret ?_));refine mz Y rfl rfl Z (i:=0) rfl aa aa ?_;have b:x.k=0:=ar d;exact⟨by unfold vL;rw[if_pos b];rfl,Z.below⟩
  ·
   refine GO 6 ?_;intro _ Y;refine ak (Y.ev rfl) (fun e=>?_) (fun e=>?_)
   ·
    refine GO 4 ?_;intro _ Y;refine aM Y (wn rfl) ⟨rfl,rfl⟩ (Y.ev rfl) (Y.ev rfl) rfl aa Z (i:=2) rfl rfl rfl fun _ Z=>ah (ez (aj (ai (an ?_))));refine sv Y (ag aa aa (Y.ev rfl) (Z.cellsAll (i:=2) rfl)) fun _ Y=>?_;refine sw Y Z 0 fun _ Z=>?_;refine ah (aj (wp_ret ?_));refine mz Y rfl rfl Z (i:=0) rfl aa aa ?_;have b:x.k≠0:=ar d;have a:x.k=1:=ar e;exact⟨by unfold vL;rw[if_neg b,if_pos a];rfl,Z.below⟩
   ·
    refine wp_skip (ez (aj (ai (an ?_))));refine sv Y (ag aa aa (Y.ev rfl) (Z.cellsAll (i:=2) rfl)) fun _ Y=>?_;refine sw Y Z 0 fun _ Z=>?_;refine ah (aj (wp_ret ?_));refine mz Y rfl rfl Z (i:=0) rfl aa aa ?_;have b:x.k≠0:=ar d;have a:x.k≠1:=ar e;exact⟨by unfold vL;rw[if_neg b,if_neg a];rfl,Z.below⟩
 case hB=>kernel_rfl
 case hst=>rfl
theorem uy {a m:Int} {x:Lge} {b:Bool} (hm:(if b=true then 0 else a-1)=m) (h:x.p>m):il a x b=(⟨0,0,0⟩,14):=by unfold il;rw[if_pos (by rw[hm];exact h)]
theorem Ct {a m:Int} {x:Lge} {b:Bool} (hm:(if b=true then 0 else a-1)=m) (h:¬x.p>m) (c:x.p≠0):il a x b=(⟨x.p,-1,-1⟩,0):=by unfold il;rw[if_neg (by rw[hm];exact h),if_pos c]
theorem Dk {a m:Int} {x:Lge} {b:Bool} (hm:(if b=true then 0 else a-1)=m) (h:¬x.p>m) (c:x.p=0):il a x b=(⟨x.p,0,0⟩,0):=by unfold il;rw[if_neg (by rw[hm];exact h),if_neg (by rw[c];decide)]
theorem zr (l:List Rcd) (A:Option Addr) (c:Nat) (x:Lge) (b:Bool) (w:World) (hr:Rd w w.heap.size A (l.flatMap cm)) (j:0<l.length) (o:1≤dO l∧dO l≤2147483647) :
 bz 156 #[.slice A l.length c,cZ x,.bool b] w (.tuple #[om (il (dO l) x b).1,ae (il (dO l) x b).2]):=by
 have hf:=gP j;rw[hf] at o;obtain⟨q,o',rfl,hB,_⟩:=hr.opened (aQ aO au j);refine aq (N:=30) Tryz.func156 rfl rfl rfl (fun _ Y=>?_);have Z:=St.init w;refine ai (an ?_);refine nb Y rfl rfl Z fun b4 _ _ r a Z=>na (.agg qf) a rfl Z fun t _ _ s d Z=>GO 6 ?_;intro _ Y;refine sv Y (av (i:=0) (sz:=14) gk aa (Y.ev rfl) (Y.ev rfl) ab ab rfl) fun _ Y=>?_;refine sv Y (fy 0 (Y.ev rfl)) fun _ Y=>?_;refine sv Y (lx (Y.ev rfl) ((aZ aO (Z.rd0 hr) j) 0 _ rfl)) fun _ Y=>?_;refine GO 10 ?_;intro _ Y;refine ak (Y.ev rfl) (fun h=>?_) (fun h=>?_)
 ·
  subst h;refine GO 13 ?_;intro _ g;refine ak (g.ev rfl) (fun f=>?_) (fun f=>?_)
  ·
   have a:=of_decide_eq_true f;refine ai (an ?_);refine sv g (ay (zs:=jV) (pl:=fE) aa aa (g.evs2 rfl) rfl rfl) fun _ Y=>?_;refine sw Y Z 0 fun _ Z=>?_;refine GO 5 ?_;intro _ Y;refine br Y rfl rfl rfl Z (i:=0) rfl aa aa ?_;exact⟨by rw[uy (m:=0) rfl a];rfl,Z.below⟩
  ·
   have a:=of_decide_eq_false f;refine GO 6 ?_;intro _ Y;refine sv Y (ay (zs:=jV) (pl:=fE) aa aa (Y.evs2 rfl) rfl rfl) fun _ Y=>?_;refine na (.agg qf) Y rfl Z fun n _ _ k Y Z=>sw Y Z 0 fun _ Z=>?_;refine GO 10 ?_;intro _ Y;refine ak (Y.ev rfl) (fun e=>?_) (fun e=>?_)
   ·
    have d:x.p≠0:=ar e;refine GO 2 ?_;intro _ Y;refine aM Y (wn rfl) ⟨rfl,rfl⟩ (Y.ev rfl) (Y.ev rfl) rfl aa Z (i:=0) rfl rfl rfl fun _ Z=>GO 1 ?_;intro _ Y;refine aM Y (wn rfl) ⟨rfl,rfl⟩ (Y.ev rfl) (Y.ev rfl) rfl aa Z (i:=0) rfl rfl rfl fun _ Z=>mM ?_;refine sv Y (ag aa aa (Y.ev rfl) (Z.cellsAll (i:=0) rfl)) fun _ Y=>?_;refine sw Y Z 1 fun _ Z=>?_;refine GO 4 ?_;intro _ Y;refine br Y rfl rfl rfl Z (i:=1) rfl aa aa ?_;exact⟨by rw[Ct (m:=0) rfl a d];rfl,Z.below⟩
   ·
    have d:x.p=0:=ar e;refine wp_skip (aj (ai (an ?_)));refine sv Y (ag aa aa (Y.ev rfl) (Z.cellsAll (i:=0) rfl)) fun _ Y=>?_;refine sw Y Z 1 fun _ Z=>?_;refine GO 4 ?_;intro _ Y;refine br Y rfl rfl rfl Z (i:=1) rfl aa aa ?_;exact⟨by rw[Dk (m:=0) rfl a d];rfl,Z.below⟩
 ·
  subst h;refine GO 11 ?_;intro _ Y;refine ak (Y.ev rfl) (fun f=>?_) (fun f=>?_)
  ·
   have a:=of_decide_eq_true f;refine ai (an ?_);refine sv Y (ay (zs:=jV) (pl:=fE) aa aa (Y.evs2 rfl) rfl rfl) fun _ Y=>?_;refine sw Y Z 0 fun _ Z=>?_;refine GO 5 ?_;intro _ Y;refine br Y rfl rfl rfl Z (i:=0) rfl aa aa ?_;exact⟨by rw[uy (m:=l[0].l-1) (by rw[hf];rfl) a];rfl,Z.below⟩
  ·
   have a:=of_decide_eq_false f;refine GO 6 ?_;intro _ Y;refine sv Y (ay (zs:=jV) (pl:=fE) aa aa (Y.evs2 rfl) rfl rfl) fun _ Y=>?_;refine na (.agg qf) Y rfl Z fun n _ _ k Y Z=>sw Y Z 0 fun _ Z=>?_;refine GO 10 ?_;intro _ Y;refine ak (Y.ev rfl) (fun e=>?_) (fun e=>?_)
   ·
    have d:x.p≠0:=ar e;refine GO 2 ?_;intro _ Y;refine aM Y (wn rfl) ⟨rfl,rfl⟩ (Y.ev rfl) (Y.ev rfl) rfl aa Z (i:=0) rfl rfl rfl fun _ Z=>GO 1 ?_;intro _ Y;refine aM Y (wn rfl) ⟨rfl,rfl⟩ (Y.ev rfl) (Y.ev rfl) rfl aa Z (i:=0) rfl rfl rfl fun _ Z=>mM ?_;refine sv Y (ag aa aa (Y.ev rfl) (Z.cellsAll (i:=0) rfl)) fun _ Y=>?_;refine sw Y Z 1 fun _ Z=>?_;refine GO 4 ?_;intro _ Y;refine br Y rfl rfl rfl Z (i:=1) rfl aa aa ?_;exact⟨by rw[Ct (m:=l[0].l-1) (by rw[hf];rfl) a d];rfl,Z.below⟩
   ·
    have d:x.p=0:=ar e;refine wp_skip (aj (ai (an ?_)));refine sv Y (ag aa aa (Y.ev rfl) (Z.cellsAll (i:=0) rfl)) fun _ Y=>?_;refine sw Y Z 1 fun _ Z=>?_;refine GO 4 ?_;intro _ Y;refine br Y rfl rfl rfl Z (i:=1) rfl aa aa ?_;exact⟨by rw[Dk (m:=l[0].l-1) (by rw[hf];rfl) a d];rfl,Z.below⟩
theorem mH (x:Lge) (w:World) (f:x.d.size≤100000) :
 bz 155 #[cZ x] w (ae (Ft x)):=by
 refine aq (N:=20) Tryz.func155 rfl rfl rfl (fun _ Y=>?_);have Z:=St.init w;refine ai (an ?_);refine nb Y rfl rfl Z fun b1 _ _ l Y Z=>GO 10 ?_;intro _ Y;apply bI Y Z 8 rfl 4 12
 case hf=>
  intro i;refine GO 4 ?_;intro _ Y;exact ah ⟨Y.midE 3,Z⟩
 case ht=>
  intro i;refine GO 4 ?_;intro _ Y;exact ah ⟨Y.midE 3,Z⟩
 case h=>
  rintro g k ⟨e,c⟩
  refine ah (aj ?_);refine ak (e.ev rfl) (fun b=>?_) (fun b=>?_)
  ·
   refine GO 7 ?_;intro _ Y;refine aI Y rfl rfl ?_;have Y:x.t≠0∨x.p≠0:=ar b;exact⟨by unfold Ft;rw[if_pos Y];(try rfl),c.below⟩
  ·
   refine wp_skip (aj (ai (an ?_)));refine vf e 12 12 fun _ Y=>?_;refine GO 1 ?_;intro _ Y;refine df Y (wn rfl) (az bc (Y.evs rfl) rfl) rfl rfl c (nL (bl x.d) _ f) fun a _ _ Y Z=>GO 1 ?_;intro _ Y;refine sv (v:=bW (dg (bl x.d)) a.1 a.2.1 a.2.2.1 a.2.2.2) Y (cb (Y.ev rfl) rfl) fun _ Y=>?_;refine GO 1 ?_;intro _ Y;refine na (.agg fX) Y rfl Z fun m _ _ j Y Z=>sw Y Z 0 fun _ Z=>?_;refine GO 10 ?_;intro _ Y;refine aI Y rfl rfl ?_;have Y:¬(x.t≠0∨x.p≠0):=ar b;exact⟨by unfold Ft;rw[if_neg Y];(try rfl),Z.below⟩
theorem VldH.srt {l:List Rcd} {i:Nat} (h:VldH l i):cC Rcd.l (l.take i):=by
 refine List.pairwise_iff_getElem.2 fun j k b c a=>?_;have d:=h.1;rw[List.length_take] at b c;rw[List.getElem_take,List.getElem_take];exact h.lt a ab
theorem BP (x y:Op):jO [ae x.k,ae x.a,ae x.e,ae x.c,.string x.o,.string x.n] [ae y.k,ae y.a,ae y.e,ae y.c,.string y.o,.string y.n]=decide (x=y):=by
 obtain⟨k,a,e,c,o,n⟩:=x;obtain⟨h,f,b,g,o',d⟩:=y;rw[Bool.eq_iff_iff,decide_eq_true_eq];simp[jO,s7]
theorem yg {x:Lge} (h:cD x=0):gj x.o=0:=by
 unfold cD at h;rw[aS] at h;exact h _ (.tail _ (.tail _ (.tail _ (.tail _ (.head _)))))
theorem Rd.takeF {α:Type} {f:α→List Value} {n:Nat} (hf:∀x,(f x).length=n) {w:World} {B:Nat} {A:Option Addr} {l:List α} (h:Rd w B A (l.flatMap f)) (k:Nat):Rd w B A ((l.take k).flatMap f):=fun j u a=>by
 rw[←zn hf,List.getElem?_take] at a
 split at a
 · exact h j u a
 · cases a
theorem xH (l:List Rcd) (A:Option Addr) (c:Nat) (i:Nat) (d:Chn) (x:Lge) (w:World) (hr:Rd w w.heap.size A (l.flatMap cm)) (P:i<l.length) (U:l.length≤1000) (V:l.length≤c) (C:VldH l i) (F:1≤dO l∧dO l≤2147483647) :
 bz 158 #[.slice A l.length c,ae i,om d,cZ x] w (ae (lz l i d x)):=by
 have t:=C.srt;have hf:=gP (l:=l) ab
 have r:(l.take i).length=i:=by rw[List.length_take];omega
 have b:Rd w w.heap.size A ((l.take i).flatMap cm):=hr.takeF aO i;obtain⟨y,o',rfl,hB,_⟩:=hr.opened (aQ aO au ab);refine aq (N:=80) Tryz.func158 rfl rfl rfl (fun _ Y=>?_);have Z:=St.init w;refine ai (an ?_);refine nb Y rfl rfl Z fun b6 _ _ Zn Y Z=>nb Y rfl rfl Z fun T _ _ S Y Z=>GO 11 ?_;intro _ Y;refine ak (Y.ev rfl) (fun m=>?_) (fun m=>?_)
 ·
  have g:d.u=0:=ar m;refine GO 7 ?_;intro _ Y;refine aI Y rfl rfl ?_;exact⟨by unfold lz;rw[if_pos g],Z.below⟩
 ·
  have g:d.u≠0:=ar m;refine wp_skip (aj (ai ?_));apply aK Y (fA 5) _ aa
  case h=>
   refine GO 2 ?_;intro _ Y;refine qv Y (fun X a=>ga (l:=0) (h:=i) (sz:=14) gk aa (Y.ev rfl) rfl (Y.ev rfl) ab ab (.inr rfl) rfl) fun _ Y=>?_;refine GO 3 ?_;intro _ Y;refine aV fun _ G W=>?_;have Z:=Z.grow G;refine cN Y rfl Z (r▸kq (l.take i) t _ c d.u _ (Z.rd0 b) ab) fun _ _ Y Z=>?_;refine GO 7 ?_;intro _ Y;refine sv Y (mi tk aa (Y.ev rfl) (Y.ev rfl)) fun _ Y=>?_;refine ah (aj ?_);refine ak (Y.ev rfl) (fun n=>?_) (fun n=>?_)
   ·
    have I:=rR n;refine ai ?_;apply aK Y (fA 6) _ aa
    case h=>
     refine GO 3 ?_;intro _ Y;refine qv Y (fun X a=>av (i:=0) (sz:=14) gk aa (Y.ev rfl) (Y.ev rfl) ab ab rfl) fun _ Y=>?_;refine qv Y (fun X a=>fy 0 (Y.ev rfl)) fun _ Y=>?_;refine qv Y (fun X a=>lx (Y.ev rfl) ((aZ aO ((Z.grow a).rd0 hr) (show 0<l.length by omega)) 0 _ rfl)) fun _ Y=>?_;refine ax ?_;refine aV fun _ E Zl=>?_;have Z:=Z.grow E;refine GO 1 ?_;intro _ Y;refine cU Y rfl (aW _ _ _) fun _ Y=>?_;refine GO 5 ?_;intro _ Y;refine aI Y rfl rfl ?_;exact⟨by unfold lz;rw[if_neg g,I,hf],Z.below⟩
    case hB=>kernel_rfl
    case hst=>rfl
   ·
    obtain⟨f,O,B,z⟩:=rV t n;rw[show nw (some ⟨y,o',none⟩) (l.take i) d.u=some ⟨y,o'+jN Rcd.l (l.take i) d.u*14+1,none⟩ from z] at Y;generalize jN Rcd.l (l.take i) d.u=k at f O B z Y
    have j:k<i:=by omega
    have q:(l.take i)[k]=l[k]'ab:=List.getElem_take ..
    have p:gj (l.take i)[k].e.o=0:=by rw[q];exact yg (C.e0 j).2.2
    refine GO 6 ?_;intro _ Y;refine sv Y (fy 6 (Y.ev rfl)) fun _ Y=>?_;refine sv (v:=gm (l.take i)[k].e.o) Y (ag aa aa (Y.ev rfl) (GK (Z.rd0 b) f)) fun _ Y=>?_;refine cN Y rfl Z (xa (l.take i)[k].e.o _ p) fun _ _ Y Z=>?_;refine GO 3 ?_;intro _ Y;refine na (.agg sU) Y rfl Z fun L _ _ Q Y Z=>sw Y Z 0 fun _ Z=>?_;refine GO 4 ?_;intro _ Y;apply aK Y (fA 38) _ aa
    case h=>
     refine GO 2 ?_;intro _ Y;refine qv Y (fun X a=>fy 0 (Y.ev rfl)) fun _ Y=>?_;refine qv Y (fun X a=>lx (Y.ev rfl) ((ff ((Z.grow a).rd0 b) f) 0 _ rfl)) fun _ Y=>?_;refine GO 2 ?_;intro _ Y;apply j4 Y 45 rfl 8 53
     case ht=>
      intro H;refine GO 4 ?_;intro _ Y;refine qy Y (fun X a=>(fy 2 (Y.ev rfl))) fun _ Y=>?_;refine qy Y (fun X a=>(lx (Y.ev rfl) ((ff ((Z.grow a).rd0 b) f) 2 _ rfl))) fun _ Y=>?_;refine GO 2 ?_;intro _ Y;exact ax (Y.midE 7)
     case hf=>
      intro H;refine GO 8 ?_;intro _ Y;exact ax (Y.midE 7)
     case h=>
      intro _ Y;refine GO 1 ?_;intro _ Y;apply j4 Y 54 rfl 8 62
      case ht=>
       intro J;refine GO 4 ?_;intro _ Y;refine qy Y (fun X a=>(fy 4 (Y.ev rfl))) fun _ Y=>?_;refine qy Y (fun X a=>(lx (Y.ev rfl) ((ff ((Z.grow a).rd0 b) f) 4 _ rfl))) fun _ Y=>?_;refine GO 2 ?_;intro _ Y;exact ax (Y.midE 7)
      case hf=>
       intro J;refine GO 8 ?_;intro _ Y;exact ax (Y.midE 7)
      case h=>
       intro _ Y;refine GO 1 ?_;intro _ Y;apply j4 Y 63 rfl 8 71
       case ht=>
        intro D;refine GO 4 ?_;intro _ Y;refine qy Y (fun X a=>(fy 5 (Y.ev rfl))) fun _ Y=>?_;refine qy Y (fun X a=>(lx (Y.ev rfl) ((ff ((Z.grow a).rd0 b) f) 5 _ rfl))) fun _ Y=>?_;refine qy Y (fun X a=>(yW xx (Y.ev rfl) (Y.ev rfl))) fun _ Y=>?_;refine GO 1 ?_;intro _ Y;exact ax (Y.midE 7)
       case hf=>
        intro D;refine GO 8 ?_;intro _ Y;exact ax (Y.midE 7)
       case h=>
        intro _ Y;refine GO 1 ?_;intro _ Y;apply j4 Y 72 rfl 5 77
        case ht=>
         intro K;refine GO 1 ?_;intro _ Y;refine qy Y (fun X a=>(ag aa aa (Y.ev rfl) ((Z.grow a).cellsOf (i:=1) rfl 6 6))) fun _ Y=>?_;refine qy Y (fun X a=>(ag aa aa (Y.ev rfl) ((Z.grow a).cellsAll (i:=0) rfl))) fun _ Y=>?_;refine qy Y (fun X a=>(yz (ks:=[.i .i64,.i .i64,.i .i64,.i .i64,.s,.s]) aa Tryz.underlying141 aa (Y.ev rfl) (Y.ev rfl) rfl rfl)) fun _ Y=>?_;refine GO 1 ?_;intro _ Y;exact ax (Y.midE 4)
        case hf=>
         intro K;refine GO 5 ?_;intro _ Y;exact ax (Y.midE 4)
        case h=>
         intro _ Y;refine ax ?_;refine aV fun _ M R=>?_;have Z:=Z.grow M;refine GO 6 ?_;intro _ Y;refine cU Y rfl (aW _ _ _) fun _ Y=>?_;refine GO 4 ?_;intro _ Y;refine aI Y rfl rfl ?_;refine⟨?_,Z.below⟩;have e:=BP x.o (fH (l.take i)[k].e.o);unfold lz;rw[if_neg g,B];show _=Ending.returned (ae (bF (_&&_&&_&&_&&decide (x.o=fH (l.take i)[k].e.o)) 13));rw[←e];rfl
    case hB=>kernel_rfl
    case hst=>rfl
  case hB=>kernel_rfl
  case hst=>rfl
open Go.RowKit Go.Sort
def Fc:List Int→Int→Nat→Int
 | [],_,_=>-1
 | x::r,v,k=>if v=x then k else Fc r v (k+1)
theorem yV:∀(l:List Int) (v:Int) (k:Nat),decide (Fc l v k≥0)=l.any fun x=>x==v
 | [],v,k=>rfl
 | x::r,v,k=>by
  unfold Fc;rw[List.any_cons];by_cases h:v=x
  · rw[if_pos h,decide_eq_true ab,show(x==v)=true by rw[h];exact beq_self_eq_true x];rfl
  · rw[if_neg h,yV r v (k+1),show(x==v)=false by rw[beq_eq_false_iff_ne];exact fun e=>h e.symm];rfl
theorem Gj {X:World} {B b o k:Nat} {l:List Int} (hr:Rd X B (some ⟨b,o,none⟩) (l.map (.int .i64))) (c:k<l.length):∀(j:Nat) (u:Value),[Value.int .i64 l[k]][j]? = some u→X.cell? ⟨b,o+k*1+j,none⟩=some u
 | 0,u,hu=>by
  obtain⟨d,o',e,_,a⟩:=hr k u (by rw[List.getElem?_map,List.getElem?_eq_getElem c];exact hu);injection e with e;injection e with e1 e2;subst e1 e2;rw[Nat.mul_one,Nat.add_zero];exact a
 | j+1,u,hu=>by simp at hu
theorem zI (l:List Int) (A:Option Addr) (c:Nat) (v:Int) (w:World) (hr:Rd w w.heap.size A (l.map (.int .i64))) (m:l.length≤1000) :
 bz 218 #[.slice A l.length c,ae v] w (ae (Fc l v 0)):=by
 refine aq (N:=19) Tryz.func218 rfl rfl rfl (fun _ Y=>?_);have Z:=St.init w;refine GO 14 ?_;intro _ Y;refine aY Y Z [7,0,1] (fun (j:Nat)=>[(8,ae j)]) (fun (j:Nat)=>j≤l.length∧Fc l v 0=Fc (l.drop j) v j) (fun (j:Nat) L=>L) (fun (j:Nat)=>l.length-j) (0) (⟨Nat.zero_le _,rfl⟩) bN (Z) ?_;intro j _ _ e Y Z;refine GO 6 ?_;intro _ Y;refine ak (Y.ev rfl) (fun d=>?_) (fun d=>?_)
 ·
  have a:j<l.length:=by have:=of_decide_eq_true d;omega
  obtain⟨b,o,rfl,hB,k⟩:=hr.opened (by rw[List.length_map];omega);have h:l.drop j=l[j]::l.drop (j+1):=List.drop_eq_getElem_cons a;refine GO 15 ?_;intro _ Y;refine sv Y (av (i:=j) (sz:=1) n4 aa (Y.ev rfl) (Y.ev rfl) ab ab rfl) fun _ Y=>?_;refine sv Y (lx (Y.ev rfl) ((Gj (Z.rd0 hr) a) 0 _ rfl)) fun _ Y=>?_;refine GO 3 ?_;intro _ Y;refine ak (Y.ev rfl) (fun f=>?_) (fun f=>?_)
  ·
   refine GO 12 ?_;intro _ Y;refine aI Y rfl rfl ?_;exact⟨by rw[e.2,h,Fc,if_pos (ar f)],Z.below⟩
  ·
   refine GO 8 ?_;intro _ Y;exact⟨j+1,by omega,⟨a,by rw[e.2,h,Fc,if_neg (ar f)]⟩,Y.re bN,Z⟩
 ·
  have g:l.length≤j:=by have:=of_decide_eq_false d;omega
  refine GO 11 ?_;intro _ Y;refine aI Y rfl rfl ?_;exact⟨by rw[e.2,List.drop_of_length_le g];rfl,Z.below⟩
theorem ta (l:List Int) (A:Option Addr) (c:Nat) (v:Int) (w:World) (hr:Rd w w.heap.size A (l.map (.int .i64))) (a:l.length≤1000) :
 bz 157 #[.slice A l.length c,ae v] w (.bool (l.any fun x=>x==v)):=by
 refine aq (N:=9) Tryz.func157 rfl rfl rfl (fun _ Y=>?_);have Z:=St.init w;refine GO 9 ?_;intro _ Y;refine cN Y rfl Z (zI l A c v _ (Z.rd0 hr) a) fun _ _ Y Z=>?_;refine GO 5 ?_;intro _ Y;refine aI Y rfl rfl ?_;exact⟨by rw[←yV l v 0],Z.below⟩
open Go.RowKit Go.Sort
structure FolT (w:World):Prop where
 cells:∀k:Nat,k<6→∃A c,w.cell? ⟨0,k,none⟩=some (.slice A (xI k).length c)∧Rd w w.heap.size A ((xI k).map (.int .i64))
theorem FolT.below {w b:World} (h:FolT w) (d:Below w.heap.size w b):FolT b:=⟨fun k f=>by
 obtain⟨A,c,a,e⟩:=h.cells k f
 exact⟨A,c,(d.cell (p:=⟨0,k,none⟩) (block_lt_of_cell a)).trans a,e.below' d⟩⟩
structure KeptM (m:Nat) (w X:World):Prop where
 size:w.heap.size≤X.heap.size
 block:∀b,b<w.heap.size→b≠m→X.heap[b]? = w.heap[b]?
theorem St.keptM {m:Nat} {w X:World} {L:List Ent} (h:St [m] w X L):KeptM m w X:=⟨h.size,fun b c a=>h.block b c (ar a)⟩
theorem KeptM.cell {m:Nat} {w X:World} (h:KeptM m w X) (hm:∃es d,w.heap[m]? = some (.map es d)) {a:Addr} {v:Value} (b:w.cell? a=some v):X.cell? a=some v:=by
 obtain⟨es,d,hm⟩:=hm;have c:=block_lt_of_cell b;refine(World.cell?_of_block (h.block _ c (fun e=>?_))).trans b;unfold World.cell? at b;rw[e,hm] at b
 cases b
theorem KeptM.rd {m:Nat} {w X:World} (h:KeptM m w X) (hm:∃es e,w.heap[m]? = some (.map es e)) {A:Option Addr} {xs:List Value} (hr:Rd w w.heap.size A xs):Rd X X.heap.size A xs:=fun j u a=>by
 obtain⟨b,o,d,c,h3⟩:=hr j u a;exact⟨b,o,d,Nat.lt_of_lt_of_le c h.size,h.cell hm h3⟩
theorem KeptM.fol {m:Nat} {w X:World} (h:KeptM m w X) (hm:∃es d,w.heap[m]? = some (.map es d)) (hf:FolT w):FolT X:=⟨fun k e=>by
 obtain⟨A,c,b,a⟩:=hf.cells k e
 exact⟨A,c,h.cell hm b,h.rd hm a⟩⟩
structure FewE (x:Lge):Prop where
 o:x.o.o.size≤3100
 n:x.o.n.size≤3100
 d:x.d.size≤100000
def wt (l:List Rcd) (i:Nat):Bool:=match dv l i with
 | none=>true
 | some y=>match l[i]? with | none=>true | some x=>decide (y.l<x.l)
def mF (g:Int→Option Chn):Int→Option Value:=fun t=>(g t).map om
theorem C4 (g:Int→Option Chn) (t:Int) (c:Chn):fB (mF g) t (some (om c))=mF (Ae g t c):=by
 funext s;unfold fB mF Ae;split<;>rfl
def rA:Chn:=⟨0,0,0⟩
theorem C3 {l:List Rcd} {i:Nat} (b:i<l.length):eu l i l[i]=aw [bF (bD l[i].l 1 2147483647) 2,bF ((i:Int)==0||wt l i) 9,cD l[i].e]:=by
 have e:((i:Int)==0||wt l i)=wt l i:=by
  rcases Nat.eq_zero_or_pos i with a | a
  · subst a;rfl
  · rw[show((i:Int)==0)=false by rw[beq_eq_false_iff_ne];omega];rfl
 rw[e];unfold eu wt;rw[List.getElem?_eq_getElem b]
 cases dv l i<;>rfl
theorem FT {l:List Rcd} {i:Nat} (b:VldH l i) (c:i<l.length) (a:eu l i l[i]=0):1≤dO l∧dO l≤2147483647:=by
 rw[gP ab];rcases Nat.eq_zero_or_pos i with h | h
 · subst h
   unfold eu at a;rw[aS] at a;exact inB_true.1 ((aD au).1 (a _ (.head _)))
 · have:=b.e0 h
   exact⟨this.1,this.2.1⟩
theorem BS {a:Int} {g:Int→Option Chn} {x:Lge} (h:((g x.t).isSome&&((g x.t).getD rA).k != 4)=true):ja a g x=((g x.t).getD rA,bF (x.p==((g x.t).getD rA).l) 14):=by
 unfold ja
 cases hg:g x.t with
 | none=>rw[hg] at h;cases h
 | some c=>
  rw[hg] at h;have b:c.k≠4:=ar h;simp only[];rw[if_neg b];rfl
theorem BJ {a:Int} {g:Int→Option Chn} {x:Lge} (h:((g x.t).isSome&&((g x.t).getD rA).k != 4)=false):ja a g x=il a x (g x.t).isSome:=by
 unfold ja
 cases hg:g x.t with
 | none=>rfl
 | some c=>
  rw[hg] at h;have b:c.k=4:=ar h;simp only[];rw[if_pos b];rfl
theorem za {l:List Rcd} {i:Nat} (n:VldH l i) (x:Lge) (d:(ja (dO l) (cn l i) x).2=0) (a:(ja (dO l) (cn l i) x).1.k≠-1):∃k:Nat,k<6∧(ja (dO l) (cn l i) x).1.k=(k:Int):=by
 have f:∀b,(il (dO l) x b).2=0→(il (dO l) x b).1.k≠-1→∃k:Nat,k<6∧(il (dO l) x b).1.k=(k:Int):=fun b r h=>by
  obtain⟨_,p⟩:=ju r;rw[p] at h ⊢;simp only[] at h ⊢
  split at h
  · exact absurd rfl h
  · rename_i s;exact⟨0,by decide,by rw[if_neg s];rfl⟩
 unfold ja at d a ⊢;have g:=mA i (by have:=n.1;omega) n.2 x.t
 cases hg:cn l i x.t with
 | none=>rw[hg] at d a;simp only[] at d a ⊢;exact f _ d a
 | some c=>
  rw[hg] at d a;simp only[] at d a ⊢
  split at d
  · rename_i o;rw[if_pos o] at a ⊢;exact f _ d a
  · rename_i o
    rw[if_neg o] at a ⊢;rw[hg] at g
    cases hb:bO l x.t i with
    | none=>rw[hb] at g;cases g
    | some k=>
     rw[hb] at g;obtain⟨j,y,q,v,ht⟩:=fq hb;have m:k<l.length:=(List.getElem?_eq_some_iff.1 q).1;have u:c=mh l k:=ar g;have e2:=xE (n.e0 j).2.2
     have e3:c.k=l[k].e.k:=by rw[u];exact iP m
     refine⟨c.k.toNat,?_,?_⟩<;>(show _;rw[e3];omega)
def Gz (c:Chn × Int) (x:Lge):Int:=aw [c.2,if c.1.k = -1 then 0 else bF (qP c.1.k x.k) 20]
theorem BE (l:List Rcd) (i:Nat) (c:Chn × Int) (x:Lge):nJ l i c x=if Gz c x=0 then (if x.k=1 then lz l i c.1 x else 0) else Gz c x:=by
 unfold nJ Gz;generalize (if c.1.k = -1 then 0 else bF (qP c.1.k x.k) 20)=b;generalize (if x.k=1 then lz l i c.1 x else 0)=d
 by_cases e:c.2=0<;>by_cases a:b=0<;>simp[aw,e,a]<;>(intro h;exact h.symm)
theorem Cn (k:Int):(xI k).length≤1000:=by
 unfold xI;split<;>(try split)<;>(try split)<;>(try split)<;>decide
theorem Db (b:Int):aw [0,b]=b:=by by_cases h:b=0<;>simp[aw,h]
theorem xj (l:List Rcd) (A:Option Addr) (c:Nat) (i:Nat) (m:Nat) (w:World) (hr:Rd w w.heap.size A (l.flatMap cm)) (D:i<l.length) (hl:l.length≤1000) (hc:l.length≤c) (hv:VldH l i)
 (hm:MapF w m (mF (cn l i))) (hF:FolT w) (hx:∀x∈l,FewE x.e) :
 Calls Tryz.prog 104 #[.slice A l.length c,ae i,.map (some m)] w fun e w'=>∃g,e=.returned (ae (dV l i (cn l i) l[i]))∧(dV l i (cn l i) l[i]=0→g=cn l (i+1))∧St [m] w w' [cV m (mF g)]:=by
 have r:∃es ck,w.heap[m]? = some (.map es ck):=by obtain⟨es,ck,h1,_⟩:=hm;exact⟨es,ck,h1⟩
 have B:=hx _ (List.getElem_mem D);obtain⟨b',o',rfl,hB,_⟩:=hr.opened (aQ aO au ab);obtain⟨q,y⟩:∃q,q=ja (dO l) (cn l i) l[i].e:=⟨_,rfl⟩;have q9:=C3 D;refine aq (N:=118) Tryz.func104 rfl rfl rfl (fun _ Y=>?_);have S0:=(St.initInv hm (fun b hb=>⟨by rw[hb];exact List.mem_singleton.2 rfl,by rw[hb];exact hm.lt⟩):St [m] w w [cV m (mF (cn l i))]);refine GO 6 ?_;intro _ h1;apply aK h1 [false,false,false,false,false,false,false,false,false,false,true,false] _ aa
 case h=>
  refine GO 2 ?_;intro _ Y;refine qv Y (fun X a=>av (i:=i) (sz:=14) gk aa (Y.ev rfl) (Y.ev rfl) ab ab rfl) fun _ Y=>?_;refine qv Y (fun X a=>fy 0 (Y.ev rfl)) fun _ Y=>?_;refine qv Y (fun X a=>lx (Y.ev rfl) ((aZ aO (((S0.grow a).keptM).rd r hr) D) 0 _ rfl)) fun _ Y=>?_;refine GO 2 ?_;intro _ Y;refine qv Y (fun X a=>av (i:=i) (sz:=14) gk aa (Y.ev rfl) (Y.ev rfl) ab ab rfl) fun _ Y=>?_;refine qv Y (fun X a=>fy 1 (Y.ev rfl)) fun _ Y=>?_;refine qv (v:=cZ l[i].e) Y (fun X a=>ag aa aa (Y.ev rfl) (ff (((S0.grow a).keptM).rd r hr) D)) fun _ Y=>?_;refine GO 2 ?_;intro _ Y;apply eF (k:=10) (deps:=[]) (R:=NewB _ (fun b=>.pointer (some ⟨b,0,none⟩)) _ _) Y rfl rfl rfl NewB.stable (fun X a hΦ=>gK (dM (z:=.agg q8) aa) a.size);intro v8 _ Y;refine aV fun _ Zf Zm=>?_;have Z:=S0.grow Zf;have Zk:=aF Zm (k:=10) rfl;obtain⟨b8,rfl,Zz,Zk⟩:=Zk;have Z:=S0.add Zf (e:=.box _ _ _) Zk (fun b hb=>by cases hb;exact⟨Zz,Box.lt Zk⟩);refine sw Y Z 0 fun _ Z=>?_;refine ah (aj (ai ?_));apply aK Y (fA 18) _ aa
  case h=>
   refine GO 1 ?_;intro _ Y;refine gp Y rfl (fun X a=>ca _ _ _ _) fun _ Y=>?_;refine gp Y rfl (fun X a=>aW _ _ _) fun _ Y=>?_;refine GO 3 ?_;intro _ Y;apply fF (x:=wt l i) Y 27 rfl 10 37
   case hf=>
    intro Zg
    have Jw:i≠0:=by simp only[beq_eq_false_iff_ne] at Zg;omega
    have V:i-1<l.length:=by omega
    have Jx:dv l i=some l[i-1]:=by unfold dv;rw[if_neg Jw,List.getElem?_eq_getElem V]
    refine GO 1 ?_;intro _ Zl;refine GO 2 ?_;intro _ Y;refine qy Y (fun X a=>(pB aa (Y.ev rfl) (Y.ev rfl))) fun _ Y=>?_;refine qy Y (fun X a=>(av (i:=i-1) (sz:=14) gk aa (Y.ev rfl) (Y.ev rfl) ab ab rfl)) fun _ Y=>?_;refine qy Y (fun X a=>(fy 0 (Y.ev rfl))) fun _ Y=>?_;refine qy Y (fun X a=>(lx (Y.ev rfl) ((aZ aO (((Z.grow a).keptM).rd r hr) V) 0 _ rfl))) fun _ Y=>?_;refine GO 1 ?_;intro _ Y;refine qy Y (fun X a=>(aA (v':=.bool (wt l i)) (congrArg Value.bool (by unfold wt;rw[Jx,List.getElem?_eq_getElem D])) (mW (Y.ev rfl) (Y.ev rfl)))) fun _ Y=>?_;refine GO 1 ?_;intro _ Y;exact ax (Y.midE 9)
   case ht=>
    intro Zg;refine GO 10 ?_;intro _ Y;exact ax (Y.midE 9)
   case h=>
    intro _ Y;refine gp Y rfl (fun X a=>aW _ _ _) fun _ Y=>?_;refine qv Y (fun X a=>ag aa aa (Y.ev rfl) ((Z.grow a).cellsAll (i:=0) rfl)) fun _ Y=>?_;refine ax ?_;refine aV fun _ Zn Qa=>?_;have Z:=Z.grow Zn;refine cN Y rfl Z (ka l[i].e _ B.o B.n (by have:=B.d;unfold maxLen;omega)) fun _ _ Y Z=>?_;refine bV Y (wn rfl) (f:=fun b=>.slice (some ⟨b,0,none⟩) 3 3) (bb cT aa aa (Y.evs2 rfl) rfl rfl rfl au au) rfl rfl Z fun Vc _ _ Qb Y Z=>cU Y rfl (gn (Z.at_ (i:=0) rfl)) fun _ Y=>?_;refine GO 12 ?_;intro _ Y;refine ak (Y.ev rfl) (fun Zo=>?_) (fun Zo=>?_)
    ·
     have M:eu l i l[i]≠0:=by rw[q9];simpa using Zo
     refine GO 9 ?_;intro _ Y;refine aI Y rfl rfl ?_;exact⟨cn l i,by unfold dV;rw[if_pos M,q9],fun h=>absurd h (by unfold dV;rw[if_pos M];exact M),(Z.sub (aL 4))⟩
    ·
     have M:eu l i l[i]=0:=by rw[q9];simpa using Zo
     have G:¬eu l i l[i]≠0:=fun h=>h M;have H:=FT hv D M;refine GO 8 ?_;intro _ Y;refine ak (Y.ev rfl) (fun Zp=>?_) (fun Zp=>?_)
     ·
      have I:l[i].e.k=5:=ar Zp;refine ai (an ?_);refine sv Y (ag aa aa (Y.ev rfl) (Z.cellsAll (i:=1) rfl)) fun _ Y=>?_;refine cN Y rfl Z (mH l[i].e _ B.d) fun _ _ Y Z=>?_;refine GO 6 ?_;intro _ Y;refine aI Y rfl rfl ?_;exact⟨cn l i,by unfold dV;rw[if_neg G,if_pos I],fun _=>by rw[pD D,if_pos I],(Z.sub (aL 4))⟩
     ·
      have I:l[i].e.k≠5:=ar Zp;refine GO 8 ?_;intro _ Y;refine ak (Y.ev rfl) (fun Zq=>?_) (fun Zq=>?_)
      ·
       have q2:l[i].e.t=0:=ar Zq;refine GO 8 ?_;intro _ Y;refine aI Y rfl rfl ?_;exact⟨cn l i,by unfold dV;rw[if_neg G,if_neg I,if_pos q2];(try rfl),fun h=>absurd h (by unfold dV;rw[if_neg G,if_neg I,if_pos q2];decide),(Z.sub (aL 4))⟩
      ·
       have q2:l[i].e.t≠0:=ar Zq;refine GO 8 ?_;intro _ Y;refine sv Y (aA (v':=.tuple #[om ((cn l i l[i].e.t).getD rA),.bool (cn l i l[i].e.t).isSome]) (by unfold mF;cases cn l i l[i].e.t<;>rfl) (pH (z:=.agg qf) Tryz.underlying178 ew aa (Y.ev rfl) (Y.ev rfl) (Z.at_ (i:=2) rfl))) fun _ Y=>?_;refine GO 3 ?_;intro _ Y;refine na (.agg qf) Y rfl Z fun Jy _ _ Qc Y Z=>sw Y Z 0 fun _ Z=>?_;refine GO 8 ?_;intro _ Y;apply bo (x:=((cn l i l[i].e.t).getD rA).k != 4) Y Z 65 rfl 4 69
       case ht=>
        intro Zr;refine GO 4 ?_;intro _ Y;exact ah ⟨Y.midE 3,Z⟩
       case hf=>
        intro Zr;refine GO 4 ?_;intro _ Y;exact ah ⟨Y.midE 3,Z⟩
       case h=>
        rintro Vd Qf ⟨Zw,O⟩
        refine ah (aj ?_);refine vq (F:=True) Zw O [(9,ae q.2)] [10,8,7,6,0,1,2] (fun L=>L.set 0 (.box Jy (om q.1).cells 250)) ?_ (fun _ _ Y Z E=>?_)
        ·
         refine ak (Zw.ev rfl) (fun Zs=>?_) (fun Zs=>?_)
         ·
          have C:q=((cn l i l[i].e.t).getD rA,bF (l[i].e.p==((cn l i l[i].e.t).getD rA).l) 14):=by rw[y];exact BS Zs
          refine GO 6 ?_;intro _ Y;refine cU Y rfl (aW _ _ _) fun _ Y=>?_;refine GO 3 ?_;intro _ Y;have E:=trivial;rw[show bF (l[i].e.p==((cn l i l[i].e.t).getD rA).l) 14=q.2 by rw[C]] at Y;rw[show(cn l i l[i].e.t).getD rA=q.1 by rw[C]] at O;exact⟨Y.re bN,O,E⟩
         ·
          have C:q=il (dO l) l[i].e (cn l i l[i].e.t).isSome:=by rw[y];exact BJ Zs
          refine GO 2 ?_;intro _ Y;refine sv Y (ag aa aa (Y.ev rfl) (O.cellsAll (i:=2) rfl)) fun _ Y=>?_;refine GO 1 ?_;intro _ Y;refine cN Y rfl O (zr l _ c l[i].e _ _ ((O.keptM).rd r hr) ab H) fun _ _ Y Z=>?_;refine GO 1 ?_;intro _ Y;refine sv (v:=om (il (dO l) l[i].e (cn l i l[i].e.t).isSome).1) Y (cb (Y.ev rfl) rfl) fun _ Y=>?_;refine GO 1 ?_;intro _ Y;refine sw Y Z 0 fun _ Z=>?_;refine GO 3 ?_;intro _ Y;have E:=trivial;rw[←C] at Y Z;exact⟨Y.re bN,Z,E⟩
        ·
         obtain⟨K,J⟩:∃K:Int,K=Gz q l[i].e:=⟨_,rfl⟩;obtain⟨Q,U⟩:∃Q:Int,Q=nJ l i q l[i].e:=⟨_,rfl⟩;have Zl:=BE l i q l[i].e;rw[←J,←U] at Zl;refine GO 7 ?_;intro _ Y;apply bo (x:=q.1.k != -1) Y Z 85 rfl 4 89
         case ht=>
          intro Zt;refine GO 4 ?_;intro _ Y;exact ah ⟨Y.midE 3,Z⟩
         case hf=>
          intro Zt;refine GO 4 ?_;intro _ Y;exact ah ⟨Y.midE 3,Z⟩
         case h=>
          rintro Va Qd ⟨S,Zc⟩
          refine ah (aj ?_);refine eb S Zc [(9,ae K)] [10,8,7,6,0,1,2] ?_ (fun _ _ Y Z=>?_)
          ·
           refine ak (S.ev rfl) (fun Zu=>?_) (fun Zu=>?_)
           ·
            obtain⟨s,u⟩:=Bool.and_eq_true_iff.1 Zu;have s:q.2=0:=ar s;have u:q.1.k≠-1:=ar u
            obtain⟨k,T,W⟩:∃k:Nat,k<6∧q.1.k=(k:Int):=by
             have:=za hv l[i].e;rw[←y] at this;exact this s u
            obtain⟨Af,cf,Jz,Jv⟩:=hF.cells k T;apply aK S (fA 6) _ aa
            case h=>
             refine GO 2 ?_;intro _ Y;refine qv Y (fun X a=>zD (i:=k) (sz:=1) (j:=k) Tryz.underlying255 aa (Y.ev rfl) (Y.ev rfl) W T ab) fun _ Y=>?_;refine qv Y (fun X a=>lx (Y.ev rfl) (((Zc.grow a).keptM).cell r Jz)) fun _ Y=>?_;refine GO 3 ?_;intro _ Y;refine aV fun _ Zh Zx=>?_;have Z:=Zc.grow Zh;refine cN Y rfl Z (ta (xI k) Af cf l[i].e.k _ ((Z.keptM).rd r Jv) (Cn _)) fun _ _ Y Z=>?_;refine cU Y rfl (aW _ _ _) fun _ Y=>?_;refine GO 3 ?_;intro _ Y;rw[show bF ((xI k).any fun x=>x==l[i].e.k) 20=K by rw[J];unfold Gz;rw[s,if_neg u,W,Db];rfl] at Y;exact⟨Y.re bN,Z⟩
            case hB=>kernel_rfl
            case hst=>rfl
           ·
            refine wp_skip (aj ?_)
            rw[show q.2=K by
             rw[J];unfold Gz;rcases Bool.and_eq_false_iff.1 Zu with s | u
             · have s:q.2≠0:=ar s
               simp[aw,s]
             · have u:q.1.k = -1:=ar u
               rw[if_pos u]
               by_cases r2:q.2=0<;>simp[aw,r2]] at S
            exact⟨S.re bN,Zc⟩
          ·
           refine GO 7 ?_;intro _ Y;apply bo (x:=l[i].e.k==1) Y Z 100 rfl 4 104
           case ht=>
            intro Zi;refine GO 4 ?_;intro _ Y;exact ah ⟨Y.midE 3,Z⟩
           case hf=>
            intro Zi;refine GO 4 ?_;intro _ Y;exact ah ⟨Y.midE 3,Z⟩
           case h=>
            rintro Vb Qe ⟨Zd,P⟩
            refine ah (aj ?_);refine eb Zd P [(9,ae Q)] [10,8,7,6,2] ?_ (fun _ _ Y Z=>?_)
            ·
             refine ak (Zd.ev rfl) (fun Zv=>?_) (fun Zv=>?_)
             ·
              refine GO 3 ?_;intro _ Y;refine sv (v:=om q.1) Y (ag aa aa (Y.ev rfl) (P.cellsAll (i:=0) rfl)) fun _ Y=>?_;refine sv (v:=cZ l[i].e) Y (ag aa aa (Y.ev rfl) (P.cellsAll (i:=2) rfl)) fun _ Y=>?_;refine cN Y rfl P (xH l _ c i q.1 l[i].e _ ((P.keptM).rd r hr) D hl hc hv H) fun _ _ Y Z=>?_;refine GO 3 ?_;intro _ Y
              rw[show lz l i q.1 l[i].e=Q by
               obtain⟨s,u⟩:=Bool.and_eq_true_iff.1 Zv
               rw[Zl,if_pos (ar s),if_pos (ar u)]] at Y
              exact⟨Y.re bN,Z⟩
             ·
              refine wp_skip (aj ?_)
              rw[show K=Q by
               rw[Zl];rcases Bool.and_eq_false_iff.1 Zv with s | u
               · rw[if_neg (ar s)]
               · rw[if_neg (show ¬l[i].e.k=1 from ar u)]
                 split
                 · assumption
                 · rfl] at Zd
              exact⟨Zd.re bN,P⟩
            ·
             refine aj (ai ?_);apply aK Y (fA 7) _ aa
             case h=>
              refine GO 3 ?_;intro _ Y;refine qv (v:=om q.1) Y (fun X a=>ag aa aa (Y.ev rfl) ((Z.grow a).cellsAll (i:=0) rfl)) fun _ Y=>?_;refine GO 1 ?_;intro _ Y;refine qv (v:=cZ l[i].e) Y (fun X a=>ag aa aa (Y.ev rfl) ((Z.grow a).cellsAll (i:=2) rfl)) fun _ Y=>?_;refine jM Y rfl (fun X a=>rE q.1 l[i].l l[i].e _) fun _ Y=>?_;refine ax ?_;refine aV fun _ Zj Zy=>?_;have Z:=Z.grow Zj;refine iU (wn rfl) ⟨rfl,rfl⟩ Tryz.underlying178 ew (Y.ev rfl) (Y.ev rfl) (Y.ev rfl) Z (i:=3) rfl fun _ Z=>GO 9 ?_;intro _ Y;refine aI Y rfl rfl ?_;refine⟨Ae (cn l i) l[i].e.t (vL q.1 l[i].l l[i].e),by unfold dV;rw[if_neg G,if_neg I,if_neg q2,←y,←U],fun _=>by rw[pD D,if_neg I,y],?_⟩;rw[←C4];exact(Z.sub (aL 8))
             case hB=>kernel_rfl
             case hst=>rfl
  case hB=>kernel_rfl
  case hst=>rfl
 case hB=>kernel_rfl
 case hst=>rfl
open Go.RowKit Go.Sort
theorem KeptM.box {m:Nat} {w X:World} (h:KeptM m w X) (hm:∃es d,w.heap[m]? = some (.map es d)) {b:Nat} {cs:Array Value} {T:TypeId} (c:Box w b cs T):Box X b cs T:=by
 obtain⟨es,d,hm⟩:=hm;refine(h.block b c.lt (fun e=>?_)).trans c;have a:w.heap[b]? = some (.cells cs T (0,0)):=c;rw[e,hm] at a
 cases a
structure ChkR (l:List Rcd) (A:Option Addr) (c b1 b4 m:Nat) (w:World):Prop where
 hr:Rd w w.heap.size A (l.flatMap cm)
 hb1:Box w b1 #[.slice A l.length c] 41
 hb4:Box w b4 #[.map (some m)] 178
 hF:FolT w
theorem ChkR.kept {l:List Rcd} {A:Option Addr} {c b1 b4 m:Nat} {w X:World} (h:ChkR l A c b1 b4 m w) (hm:∃es b,w.heap[m]? = some (.map es b)) (a:KeptM m w X):ChkR l A c b1 b4 m X:=
 ⟨a.rd hm h.hr,a.box hm h.hb1,a.box hm h.hb4,a.fol hm h.hF⟩
theorem MapF.ex {m:Nat} {w:World} {g:Int→Option Value} (h:MapF w m g):∃es a,w.heap[m]? = some (.map es a):=by obtain⟨es,a,b,_⟩:=h;exact⟨es,a,b⟩
theorem zi (l:List Rcd) (A:Option Addr) (c:Nat) (i:Nat) (b1 b4 m:Nat) (w:World) (d:ChkR l A c b1 b4 m w) (j:i<l.length) (n:l.length≤1000) (o:l.length≤c) (q:VldH l i) (hm:MapF w m (mF (cn l i))) (hx:∀x∈l,FewE x.e) :
 Calls Tryz.prog 103 #[ae i,gV l[i],.pointer (some ⟨b1,0,none⟩),.pointer (some ⟨b4,0,none⟩)] w fun e k=>∃g,e=.returned (ae (dV l i (cn l i) l[i]))∧(dV l i (cn l i) l[i]=0→g=cn l (i+1))∧St [m] w k [cV m (mF g)]:=by
 refine aq (N:=11) Tryz.func103 rfl rfl rfl (fun _ Y=>?_);have Z:=(St.initInv hm (fun b f=>⟨by rw[f];exact List.mem_singleton.2 rfl,by rw[f];exact hm.lt⟩):St [m] w w [cV m (mF (cn l i))]);have a:=hm.ex;refine ai (an ?_);refine nb Y rfl rfl Z fun r _ _ s Y Z=>GO 5 ?_;intro _ Y;refine sv Y (lx (Y.ev rfl) (((Z.keptM).box a d.hb1).cells 0)) fun _ Y=>?_;refine GO 1 ?_;intro _ Y;refine sv Y (lx (Y.ev rfl) (((Z.keptM).box a d.hb4).cells 0)) fun _ Y=>?_;refine gD Y (wn rfl) (az bc (Y.evs rfl) rfl) rfl rfl Z (i:=1) rfl (fun b f=>List.mem_singleton.1 f) (xj l A c i m _ ((Z.keptM).rd a d.hr) j n o q (Z.at_ (i:=1) rfl) ((Z.keptM).fol a d.hF) hx) fun h _ _ Y p Z=>GO 4 ?_;intro _ Y;refine aI Y rfl rfl ?_;exact⟨h,rfl,p,(Z.sub (aL 2))⟩
theorem zN (l:List Rcd) (A:Option Addr) (c:Nat) (b1 b4 m:Nat) (w:World) (u:ChkR l A c b1 b4 m w) (C:l.length≤1000) (E:l.length≤c) (hm:MapF w m (mF (cn l 0))) (hx:∀x∈l,FewE x.e) :
 Calls Tryz.prog 102 #[.slice A l.length c,.func (.func 103) #[] #[.pointer (some ⟨b1,0,none⟩),.pointer (some ⟨b4,0,none⟩)]] w fun e B=>∃g:Int→Option Chn,e=.returned (.tuple #[ae (di (fun i x=>dV l i (cn l i) x) 0 l).1,ae (di (fun i x=>dV l i (cn l i) x) 0 l).2])∧True∧St [m] w B [cV m (mF g)]:=by
 have f:=hm.ex;refine aq (N:=25) Tryz.func102 rfl rfl rfl (fun _ Y=>?_);have Z:=(St.initInv hm (fun b r=>⟨by rw[r];exact List.mem_singleton.2 rfl,by rw[r];exact hm.lt⟩):St [m] w w [cV m (mF (cn l 0))]);refine GO 15 ?_;intro _ Y;refine aY Y Z [10,9,1] (fun (j:Nat)=>[(11,ae j)]) (fun (j:Nat)=>j≤l.length∧∀k (d:k<l.length),k<j→dV l k (cn l k) l[k]=0) (fun j L=>L.set 0 (cV m (mF (cn l j)))) (fun (j:Nat)=>l.length-j) (0) (⟨Nat.zero_le _,fun k _ h=>by omega⟩) bN (Z) ?_;intro j _ _ n Y Z;refine GO 6 ?_;intro _ Y;refine ak (Y.ev rfl) (fun s=>?_) (fun s=>?_)
 ·
  have a:j<l.length:=by have:=of_decide_eq_true s;omega
  obtain⟨b,o,rfl,hB,_⟩:=u.hr.opened (aQ aO au ab);have y:VldH l j:=⟨n.1,n.2⟩;refine GO 7 ?_;intro _ Y;refine sv Y (av (i:=j) (sz:=14) dd aa (Y.ev rfl) (Y.ev rfl) ab ab rfl) fun _ Y=>?_;refine sv (v:=gV l[j]) Y (ag aa aa (Y.ev rfl) (aZ aO ((Z.keptM).rd f u.hr) a)) fun _ Y=>?_;refine na (.agg qU) Y rfl Z fun I _ _ H Y Z=>GO 1 ?_;intro _ Y;refine sw Y Z 0 fun _ Z=>?_;refine GO 6 ?_;intro _ Y;refine sv (v:=gV l[j]) Y (ag aa aa (Y.ev rfl) (Z.cellsAll (i:=0) rfl)) fun _ Y=>?_;refine gD Y (wn rfl) (cQ bc (Y.ev rfl) (Y.evs rfl) rfl) rfl rfl Z (i:=1) rfl (fun b r=>List.mem_singleton.1 r) (zi l _ c j b1 b4 m _ (u.kept f Z.keptM) a C E y (Z.at_ (i:=1) rfl) hx) fun t _ _ Y z Z=>GO 9 ?_;intro _ Y;refine ak (Y.ev rfl) (fun p=>?_) (fun p=>?_)
  ·
   refine GO 14 ?_;intro _ Y;refine cd Y rfl rfl rfl ?_;have F:dV l j (cn l j) l[j]≠0:=ar p;have D:=dB (fun i x=>dV l i (cn l i) x) l 0 j a (fun k d h=>by rw[Nat.zero_add];exact n.2 k d h) (by rw[Nat.zero_add];exact F);exact⟨t,by rw[D];simp only[Nat.zero_add],trivial,(Z.sub (aL 2))⟩
  ·
   refine GO 8 ?_;intro _ Y;exact⟨j+1,by omega,⟨a,fun k d h=>(Nat.lt_or_ge k j).elim (fun q=>n.2 k d q) (fun q=>by(obtain rfl:k=j:=by omega);simpa using p)⟩,Y.re bN,(z (ar p)▸(Z.sub (aL 2)))⟩
 ·
  have G:l.length≤j:=by have:=of_decide_eq_false s;omega
  refine GO 12 ?_;intro _ Y;refine cd Y rfl rfl rfl ?_;exact⟨cn l j,by rw[dc (fun i x=>dV l i (cn l i) x) l 0 (fun k d=>by rw[Nat.zero_add];exact n.2 k d ab)],trivial,(Z.sub (aL 1))⟩
theorem i7 (l:List Rcd) (A:Option Addr) (c:Nat) (w:World) (hr:Rd w w.heap.size A (l.flatMap cm)) (g:l.length≤1000) (j:l.length≤c) (hF:FolT w) (hx:∀x∈l,FewE x.e) :
 bz 42 #[.slice A l.length c] w (.tuple #[ae (eA l).1,ae (eA l).2]):=by
 refine aq (N:=14) Tryz.func42 rfl rfl rfl (fun _ Y=>?_);have Z:=St.init w;refine ai (an ?_);refine nb Y rfl rfl Z fun b1 _ _ p Y Z=>GO 12 ?_;intro _ Y;refine ak (Y.ev rfl) (fun a=>?_) (fun a=>?_)
 ·
  have d:100<l.length:=by have:=of_decide_eq_true a;omega
  refine GO 8 ?_;intro _ Y;refine cd Y rfl rfl rfl ?_;exact⟨by unfold eA;rw[if_pos d];(try rfl),Z.below⟩
 ·
  have d:¬100<l.length:=by have:=of_decide_eq_false a;omega
  refine wp_skip (aj (ai (an ?_)));refine nu Y (wn rfl) rfl rfl rfl Z fun h _ _ m Y Z=>na (.map none) Y rfl Z fun b4 _ _ o Y Z=>sw Y Z 0 fun _ Z=>?_;refine GO 5 ?_;intro _ Y;refine sv Y (fo (Y.evs rfl) (Y.evs rfl)) fun _ Y=>?_;refine gD Y (wn rfl) (az bc (Y.evs rfl) rfl) rfl rfl Z (i:=1) rfl (fun b k=>List.mem_singleton.1 k) (zN l A c b1 b4 h _ ⟨Z.rd0 hr,Z.at_ (i:=2) rfl,Z.at_ (i:=0) rfl,hF.below Z.below⟩ g j (Z.at_ (i:=1) rfl) hx) fun f _ _ Y n Z=>?_;refine GO 7 ?_;intro _ Y;refine cd Y rfl rfl rfl ?_;exact⟨by unfold eA;rw[if_neg d];(try rfl),Z.below⟩
theorem fb (l:List Rcd) (A:Option Addr) (c:Nat) (w:World) (hr:Rd w w.heap.size A (l.flatMap cm)) (b:l.length≤1000) (a:l.length≤c) (hF:FolT w) (hx:∀x∈l,FewE x.e) :
 bz 77 #[.slice A l.length c] w (ae (eA l).2):=by
 refine aq (N:=11) Tryz.func77 rfl rfl rfl (fun _ Y=>?_);have Z:=St.init w;refine GO 8 ?_;intro _ Y;refine cN Y rfl Z (i7 l A c _ (Z.rd0 hr) b a (hF.below Z.below) hx) fun _ _ Y Z=>?_;refine GO 14 ?_;intro _ Y;refine aI Y rfl rfl ?_;exact⟨rfl,Z.below⟩
open Go.RowKit Go.Sort
theorem sf {α:Type} {κ:α→Int} {l:List α} {x:α} (h:cC κ (l ++ [x])) (i:Int):cF κ (l ++ [x]) i=if i=κ x then some x else cF κ l i:=by
 unfold cF;rw[List.find?_append];unfold cC at h;rw[List.pairwise_append] at h;by_cases b:i=κ x
 · rw[if_pos b]
   have c:l.find? (fun y=>κ y==i)=none:=by
    rw[List.find?_eq_none];intro y a;have:=h.2.2 y a x (List.mem_singleton.2 rfl);simp;omega
   rw[c,b];simp
 · rw[if_neg b]
   have hx:[x].find? (fun y=>κ y==i)=none:=by
    rw[List.find?_eq_none];intro y a;rw[List.mem_singleton.1 a];simp;omega
   rw[hx]
   cases l.find? (fun y=>κ y==i)<;>rfl
def qK (g:Int→Option Trn):Int→Option Value:=fun i=>(g i).map e9
def ru (g:Int→Option Dty):Int→Option Value:=fun i=>(g i).map fV
theorem Ey {l:List Trn} {x:Trn} (h:cC Trn.i (l ++ [x])):fB (qK (eK l)) x.i (some (e9 x))=qK (eK (l ++ [x])):=by
 funext i
 unfold fB qK eK;rw[sf h]
 split<;>rfl
theorem Eh {l:List Dty} {x:Dty} (h:cC Dty.g (l ++ [x])):fB (ru (dS l)) x.g (some (fV x))=ru (dS (l ++ [x])):=by
 funext i
 unfold fB ru dS;rw[sf h]
 split<;>rfl
theorem vY {α:Type} {κ:α→Int} {l:List α} (h:cC κ l) (k:Nat):cC κ (l.take k):=List.Pairwise.sublist (List.take_sublist _ _) h
theorem n0 (t:Tbl) (A:Option Addr) (c:Nat) (B:Option Addr) (d:Nat) (w:World) (hr:Rd w w.heap.size A (t.ts.flatMap cc)) (x:Rd w w.heap.size B (t.ds.flatMap cw)) (u:SrtT t) (O:t.ts.length≤1000∧t.ds.length≤1000) :
 Calls Tryz.prog 128 #[bW t A c B d] w fun e E=>∃i:Nat × Nat × Nat,e=.returned (.pointer (some ⟨i.1,0,none⟩))∧St [] w E [.box i.1 #[.map (some i.2.1),.map (some i.2.2)] 228,cV i.2.2 (ru (dS t.ds)),cV i.2.1 (qK (eK t.ts))]:=by
 refine aq (N:=43) Tryz.func128 rfl rfl rfl (fun _ Y=>?_);have Z:=St.init w;refine ai (an ?_);refine nb Y rfl rfl Z fun b1 _ _ K Y Z=>GO 5 ?_;intro _ Y;refine nu Y (wn rfl) rfl rfl rfl Z fun n _ _ H Y Z=>nu Y (wn rfl) rfl rfl rfl Z fun m _ _ D Y Z=>sv Y (ay (zs:=[.map none,.map none]) (pl:=kT) aa aa (Y.evs2 rfl) rfl rfl) fun _ Y=>?_;refine nb Y rfl rfl Z fun l _ G J Y Z=>GO 1 ?_;intro _ Y;replace Z:St [] w G [.box l #[.map (some n),.map (some m)] 228,cV m (ru (dS (t.ds.take 0))),cV n (qK (eK (t.ts.take 0))),.box b1 (bW t A c B d).cells 25]:=Z;refine GO 12 ?_;intro _ Y;refine aY Y Z [14,13,3,2,1] (fun (j:Nat)=>[(15,ae j)]) (fun (j:Nat)=>j≤t.ts.length) (fun j L=>L.set 2 (cV n (qK (eK (t.ts.take j))))) (fun (j:Nat)=>t.ts.length-j) (0) (Nat.zero_le _) bN (Z) ?_;intro j _ _ F Y Z;refine GO 6 ?_;intro _ Y;refine ak (Y.ev rfl) (fun q=>?_) (fun q=>?_)
 ·
  have a:j<t.ts.length:=by have:=of_decide_eq_true q;omega
  obtain⟨b,o,rfl,hB,_⟩:=hr.opened (aQ bG au ab)
  have f:fB (qK (eK (t.ts.take j))) t.ts[j].i (some (e9 t.ts[j]))=qK (eK (t.ts.take (j+1))):=by
   rw[List.take_succ_eq_append_getElem a];exact Ey (by rw[←List.take_succ_eq_append_getElem a];exact vY u.ts _)
  refine wp_skip (aj (ai (wp_block (ai (an ?_)))));refine sv Y (av (i:=j) (sz:=4) ed aa (Y.ev rfl) (Y.ev rfl) ab ab rfl) fun _ Y=>?_;refine sv (v:=e9 t.ts[j]) Y (ag aa aa (Y.ev rfl) (aZ bG (Z.rd0 hr) a)) fun _ Y=>?_;refine na (.agg lG) Y rfl Z fun I _ _ R Y Z=>sw Y Z 0 fun _ Z=>?_;refine ah (aj ?_);apply aK Y (fA 7) _ aa
  case h=>
   refine GO 6 ?_;intro _ Y;refine qv (v:=e9 t.ts[j]) Y (fun X r=>ag aa aa (Y.ev rfl) ((Z.grow r).cellsAll (i:=0) rfl)) fun _ Y=>?_;refine ax ?_;refine aV fun _ z P=>?_;have Z:=Z.grow z;refine iU (wn rfl) ⟨rfl,rfl⟩ qc ew (Y.ev rfl) (Y.ev rfl) (Y.ev rfl) Z (i:=3) rfl fun _ Z=>GO 8 ?_;intro _ Y;exact⟨j+1,by omega,a,Y.re bN,(f▸(Z.sub (aL 30)))⟩
  case hB=>kernel_rfl
  case hst=>rfl
 ·
  have s:t.ts.length≤j:=by have:=of_decide_eq_false q;omega
  obtain rfl:j=t.ts.length:=by have:=F;omega
  rw[List.take_length] at Z;refine GO 15 ?_;intro _ Y;refine aY Y Z [29,28,3,2] (fun (k:Nat)=>[(30,ae k)]) (fun (k:Nat)=>k≤t.ds.length) (fun k L=>L.set 1 (cV m (ru (dS (t.ds.take k))))) (fun (k:Nat)=>t.ds.length-k) (0) (Nat.zero_le _) bN (Z) ?_;intro k _ _ y Y Z;refine GO 6 ?_;intro _ Y;refine ak (Y.ev rfl) (fun p=>?_) (fun p=>?_)
  ·
   have a:k<t.ds.length:=by have:=of_decide_eq_true p;omega
   obtain⟨b,o,rfl,hB,_⟩:=x.opened (aQ bU au ab)
   have f:fB (ru (dS (t.ds.take k))) t.ds[k].g (some (fV t.ds[k]))=ru (dS (t.ds.take (k+1))):=by
    rw[List.take_succ_eq_append_getElem a];exact Eh (by rw[←List.take_succ_eq_append_getElem a];exact vY u.ds _)
   refine wp_skip (aj (ai (wp_block (ai (an ?_)))));refine sv Y (av (i:=k) (sz:=3) eP aa (Y.ev rfl) (Y.ev rfl) ab ab rfl) fun _ Y=>?_;refine sv (v:=fV t.ds[k]) Y (ag aa aa (Y.ev rfl) (aZ bU (Z.rd0 x) a)) fun _ Y=>?_;refine na (.agg ln) Y rfl Z fun M _ _ S Y Z=>sw Y Z 0 fun _ Z=>?_;refine ah (aj ?_);apply aK Y (fA 7) _ aa
   case h=>
    refine GO 6 ?_;intro _ Y;refine qv (v:=fV t.ds[k]) Y (fun X r=>ag aa aa (Y.ev rfl) ((Z.grow r).cellsAll (i:=0) rfl)) fun _ Y=>?_;refine ax ?_;refine aV fun _ C Q=>?_;have Z:=Z.grow C;refine iU (wn rfl) ⟨rfl,rfl⟩ pq ew (Y.ev rfl) (Y.ev rfl) (Y.ev rfl) Z (i:=2) rfl fun _ Z=>GO 8 ?_;intro _ Y;exact⟨k+1,by omega,a,Y.re bN,(f▸(Z.sub (aL 30)))⟩
   case hB=>kernel_rfl
   case hst=>rfl
  ·
   have s:t.ds.length≤k:=by have:=of_decide_eq_false p;omega
   obtain rfl:k=t.ds.length:=by have:=y;omega
   rw[List.take_length] at Z;refine GO 12 ?_;intro _ Y;refine aI Y rfl rfl ?_;exact⟨(l,n,m),rfl,(Z.sub (aL 7))⟩
def ot (e a c:Nat) (t:Tbl):Ent:=.inv (fun b=>b=e∨b=a∨b=c) (fun X=>Box X e #[.map (some a),.map (some c)] 228∧MapF X a (qK (eK t.ts))∧MapF X c (ru (dS t.ds))∧a≠c)
 (fun X X' ⟨k,⟨es,m,j,f⟩,⟨i,d,h3,g⟩,l⟩ h=>⟨(h e (.inl rfl)).trans k,⟨es,m,(h a (.inr (.inl rfl))).trans j,f⟩,⟨i,d,(h c (.inr (.inr rfl))).trans h3,g⟩,l⟩)
theorem Bt {M:List Nat} {w X:World} {f c d:Nat} {t:Tbl} {L:List Ent} (h:St M w X (.box f #[.map (some c),.map (some d)] 228::cV d (ru (dS t.ds))::cV c (qK (eK t.ts))::L)):St M w X (ot f c d t::L):=by
 have l:=h.at_ (i:=0) rfl;have j:=h.at_ (i:=1) rfl;have k:=h.at_ (i:=2) rfl
 have g:c≠d:=fun e=>by
  have Y:=(List.pairwise_cons.1 (List.pairwise_cons.1 h.sep).2).1 (cV c (qK (eK t.ts))) (List.mem_cons_self) d;exact Y rfl e.symm
 have Y:St M w X (.inv (fun b=>b=f∨b=d) (fun _=>True) (fun _ _ h _=>h)::cV c (qK (eK t.ts))::L):=h.fuse2 (fun b a=>a) trivial
 exact Y.fuse2 (fun b a=>by
  rcases a with a | a | a
  · exact .inl (.inl a)
  · exact .inr a
  · exact .inl (.inr a)) ⟨l,k,j,g⟩
theorem A9 {t:Tbl} {r:Rcd} (a:r.e.k≠5) (b:r.e.k≠4):fB (qK (eK t.ts)) r.e.t (some (e9 (vT t r)))=qK (eK (eY t r).ts):=by
 funext i
 unfold eY;rw[if_neg a];unfold fB qK;show _=(eK (if r.e.k=4 then s9 Trn.i t.ts r.e.t else ly Trn.i t.ts (vT t r)) i).map e9;rw[if_neg b];unfold eK;rw[vj];show(if i=r.e.t then _ else _)=(if i=r.e.t then _ else _:Option Trn).map e9
 split<;>rfl
theorem Dv {t:Tbl} {r:Rcd} (a:r.e.k≠5) (b:r.e.k=4):fB (qK (eK t.ts)) r.e.t none=qK (eK (eY t r).ts):=by
 funext i
 unfold eY;rw[if_neg a];unfold fB qK;show _=(eK (if r.e.k=4 then s9 Trn.i t.ts r.e.t else ly Trn.i t.ts (vT t r)) i).map e9;rw[if_pos b];unfold eK;rw[Bz]
 split<;>rfl
theorem yF {t:Tbl} {r:Rcd} (a:r.e.k≠5):(eY t r).ds=lq t r:=by unfold eY;rw[if_neg a]
theorem BY {t:Tbl} {r:Rcd} (b:eh r.e=true) (a:dS t.ds r.e.g=none):fB (ru (dS t.ds)) r.e.g (some (fV ⟨r.e.g,r.e.f,r.l⟩))=ru (dS (lq t r)):=by
 funext i
 unfold lq;rw[if_pos ⟨b,a⟩];unfold fB ru dS;rw[vj]
 split<;>rfl
theorem Er {t:Tbl} {r:Rcd} (h:¬(eh r.e=true∧dS t.ds r.e.g=none)):lq t r=t.ds:=by unfold lq;rw[if_neg h]
theorem Ef (t:Tbl) (r:Rcd) (W p m:Nat) (w:World) (hB:Box w W #[.map (some p),.map (some m)] 228) (A:MapF w p (qK (eK t.ts))) (D:MapF w m (ru (dS t.ds))) (T:p≠m) :
 Calls Tryz.prog 130 #[.pointer (some ⟨W,0,none⟩),ae r.l,cZ r.e] w fun e w'=>e=.returned (.tuple #[])∧St [p,m] w w' [cV p (qK (eK (eY t r).ts)),cV m (ru (dS (eY t r).ds))]:=by
 have d:l9 w [p,m]:=fun b o=>by
  rcases List.mem_cons.1 o with rfl | o
  · exact A.noCells
  · rw[List.mem_singleton.1 o];exact D.noCells
 refine aq (N:=82) Tryz.func130 rfl rfl rfl (fun _ Z=>?_);have U:=St.initM2 A D T;refine ai (an ?_);refine nb Z rfl rfl U fun b5 _ _ Zv Z U=>GO 10 ?_;intro _ Z;refine ak (Z.ev rfl) (fun Q=>?_) (fun Q=>?_)
 ·
  have s:r.e.k=5:=ar Q
  have M:eY t r=t:=by unfold eY;rw[if_pos s]
  refine wp_ret (fv ?_);refine Fi Z rfl ?_;exact⟨rfl,by rw[M];exact(U.sub (aL 6))⟩
 ·
  have s:r.e.k≠5:=ar Q;refine wp_skip (aj (ai (ai ?_)));apply dN Z (fun _=>False) [] [(11,124)] [false,false,false,false,false,false,false,false,false,false,true,true] _ aa bC
  case h=>
   refine GO 2 ?_;intro _ Z;refine qv Z (fun X a=>fy 1 (Z.ev rfl)) fun _ Z=>?_;refine qv Z (fun X a=>lx (Z.ev rfl) ((((U.grow (Grw.below a)).keptL).box d hB).cells 1)) fun _ Z=>?_;refine GO 1 ?_;intro _ Z;refine qv Z (fun X a=>lx (Z.ev rfl) ((U.grow (Grw.below a)).cell (i:=0) rfl rfl)) fun _ Z=>?_;refine qv Z (fun X a=>aA (v':=.tuple #[fV ((dS t.ds r.e.g).getD ⟨0,false,0⟩),.bool (dS t.ds r.e.g).isSome]) (by unfold ru;cases dS t.ds r.e.g<;>rfl) (pH (z:=.agg ln) pq ew aa (Z.ev rfl) (Z.ev rfl) ((U.grow (Grw.below a)).at_ (i:=2) rfl))) fun _ Z=>?_;refine GO 4 ?_;intro _ Z;apply cJ (O:=(fun _=>False)) (k:=10) (deps:=[]) (R:=NewAny _ 3 _) Z rfl rfl rfl bC NewAny.stable bC (kZ NewAny.newT)
   case hx=>exact fun X a K=>jh (dM (z:=.agg ln) aa) a.size rfl
   intro v6 _ Z;apply fj (k:=11) (deps:=[10]) (kx:=10) (x:=6) (y:=21) (Y:=tn _) Z rfl ⟨rfl,rfl⟩ rfl bC ⟨rfl,rfl⟩ rfl iC rfl rfl (n:=3) aa bC
   case hx=>
    intro X a K;exact⟨(aN (k:=10) K rfl rfl),rfl,rfl⟩
   intro E;refine gi (O:=(fun _=>False)) bC fun _ Zh Zi=>?_;obtain⟨b6,rfl,Zq,C⟩:=StoY.val (v:=E) Z rfl (aF Zi (k:=11) rfl);have U:=U.add (Grw.below Zh) (e:=.box _ _ _) C (fun b o=>by cases o;exact⟨Zq,Box.lt C⟩);refine GO 5 ?_;intro _ Z;refine sv (v:=cZ r.e) Z (ag aa aa (Z.ev rfl) (U.cellsAll (i:=1) rfl)) fun _ Z=>?_;refine cN Z rfl U (ki _ _) fun _ _ Z U=>?_;refine GO 1 ?_;intro _ Z;apply bo (x:=!(dS t.ds r.e.g).isSome) Z U 25 rfl 3 28
   case ht=>
    intro Zj;refine GO 3 ?_;intro _ Z;exact ah ⟨Z.midE 2,U⟩
   case hf=>
    intro Zj;refine GO 3 ?_;intro _ Z;exact ah ⟨Z.midE 2,U⟩
   case h=>
    rintro Jv Zw ⟨H,B⟩
    refine ah (aj ?_);refine vq (F:=True) H B [] [5,0,1] (fun L=>L.set 3 (cV m (ru (dS (lq t r))))) ?_ (fun _ _ Z q j=>?_)
    ·
     refine ak (H.ev rfl) (fun G=>?_) (fun G=>?_)
     ·
      apply aK H (fA 12) _ aa
      case h=>
       refine GO 2 ?_;intro _ Z;refine qv Z (fun X a=>fy 1 (Z.ev rfl)) fun _ Z=>?_;refine qv Z (fun X a=>lx (Z.ev rfl) ((((B.grow a).keptL).box d hB).cells 1)) fun _ Z=>?_;refine GO 7 ?_;intro _ Z;refine qv (v:=fV ⟨r.e.g,r.e.f,r.l⟩) Z (fun X a=>ay (zs:=pZ) (pl:=fE) aa aa (Z.evs2 rfl) rfl rfl) fun _ Z=>?_;refine ax ?_;refine aV fun _ Zk Zr=>?_;have U:=B.grow Zk;refine iU (wn rfl) ⟨rfl,rfl⟩ pq ew (Z.ev rfl) (Z.ev rfl) (Z.ev rfl) U (i:=3) rfl fun _ U=>ah (aj ?_);have j:=trivial;obtain⟨u1,I⟩:=Bool.and_eq_true_iff.1 G;rw[BY u1 (by cases hq:dS t.ds r.e.g with | none=>rfl | some y=>rw[hq] at I;cases I)] at U;exact⟨Z.re bN,U,j⟩
      case hB=>kernel_rfl
      case hst=>rfl
     ·
      refine wp_skip (aj ?_);have j:=trivial;have u0:lq t r=t.ds:=Er (fun ⟨u1,I⟩=>by rw[u1,I] at G;cases G)
      have u1:cV m (ru (dS t.ds))=cV m (ru (dS (lq t r))):=by rw[u0]
      rw[u1] at B;exact⟨H.re bN,B,j⟩
    ·
     refine GO 9 ?_;intro _ Z;refine ak (Z.ev rfl) (fun S=>?_) (fun S=>?_)
     ·
      have P:r.e.k=4:=ar S;refine ai ?_;apply aK Z (fA 6) _ aa
      case h=>
       refine GO 2 ?_;intro _ Z;refine qv Z (fun X a=>fy 0 (Z.ev rfl)) fun _ Z=>?_;refine qv Z (fun X a=>lx (Z.ev rfl) ((((q.grow a).keptL).box d hB).cells 0)) fun _ Z=>?_;refine GO 3 ?_;intro _ Z;refine aV fun _ Zm Zs=>?_;have U:=q.grow Zm;refine zQ (wn rfl) ⟨rfl,rfl⟩ qc ew (Z.ev rfl) (Z.ev rfl) U (i:=2) rfl fun _ U=>ah (aj (wp_ret (fv ?_)));refine Fi Z rfl ?_;exact⟨rfl,by rw[←Dv s P,yF s];exact(U.sub (aL 12))⟩
      case hB=>kernel_rfl
      case hst=>rfl
     ·
      have P:r.e.k≠4:=ar S;refine wp_skip (aj (ai ?_));apply aK Z [false,false,false,false,false,false,false,true] _ aa
      case h=>
       refine GO 2 ?_;intro _ Z;refine qv Z (fun X a=>fy 0 (Z.ev rfl)) fun _ Z=>?_;refine qv Z (fun X a=>lx (Z.ev rfl) ((((q.grow a).keptL).box d hB).cells 0)) fun _ Z=>?_;refine GO 2 ?_;intro _ Z;refine qv Z (fun X a=>aA (v':=e9 ((eK t.ts r.e.t).getD qA)) (by unfold qK;cases eK t.ts r.e.t<;>rfl) (BD (z:=.agg lG) qc ew aa (Z.ev rfl) (Z.ev rfl) ((q.grow a).at_ (i:=2) rfl))) fun _ Z=>?_;refine ax ?_;apply eF (k:=7) (deps:=[]) (R:=NewB _ (fun b=>.pointer (some ⟨b,0,none⟩)) _ _) Z rfl rfl rfl NewB.stable (fun X a K=>gK (dM (z:=.agg lG) aa) a.size);intro v8 _ Z;refine aV fun _ V Zn=>?_;have U:=q.grow V;have J:=aF Zn (k:=7) rfl;obtain⟨b8,rfl,Zt,J⟩:=J;have U:=q.add V (e:=.box _ _ _) J (fun b o=>by cases o;exact⟨Zt,Box.lt J⟩);refine sw Z U 0 fun _ U=>?_;refine GO 6 ?_;intro _ Z;refine sv (v:=om ⟨0,0,((eK t.ts r.e.t).getD qA).u⟩) Z (ay (zs:=jV) (pl:=fE) aa aa (Z.evs2 rfl) rfl rfl) fun _ Z=>?_;refine GO 1 ?_;intro _ Z;refine sv (v:=cZ r.e) Z (ag aa aa (Z.ev rfl) (U.cellsAll (i:=2) rfl)) fun _ Z=>?_;refine cN Z rfl U (rE ⟨0,0,((eK t.ts r.e.t).getD qA).u⟩ r.l r.e _) fun _ _ Z U=>?_;refine na (.agg qf) Z rfl U fun b9 _ _ Zx Z U=>sw Z U 0 fun _ U=>?_;refine ah (aj ?_);apply aK Z (fA 19) _ aa
       case h=>
        refine GO 2 ?_;intro _ Z;refine qv Z (fun X a=>fy 0 (Z.ev rfl)) fun _ Z=>?_;refine qv Z (fun X a=>lx (Z.ev rfl) ((((U.grow a).keptL).box d hB).cells 0)) fun _ Z=>?_;refine GO 11 ?_;intro _ Z;apply fF (x:=((eK t.ts r.e.t).getD qA).c) Z 77 rfl 3 80
        case hf=>
         intro Zo;refine GO 3 ?_;intro _ Z;exact ax (Z.midE 2)
        case ht=>
         intro Zo;refine GO 3 ?_;intro _ Z;exact ax (Z.midE 2)
        case h=>
         intro _ Z;refine qv (v:=e9 (vT t r)) Z (fun X a=>ay (zs:=nV) (pl:=yt) aa aa (Z.evs2 rfl) rfl rfl) fun _ Z=>?_;refine ax ?_;refine aV fun _ Zp Zu=>?_;have U:=U.grow Zp;refine iU (wn rfl) ⟨rfl,rfl⟩ qc ew (Z.ev rfl) (Z.ev rfl) (Z.ev rfl) U (i:=4) rfl fun _ U=>ah ?_;refine Hu Z rfl ?_;exact⟨rfl,by rw[←A9 s P,yF s];exact(U.sub (aL 48))⟩
       case hB=>kernel_rfl
       case hst=>rfl
      case hB=>kernel_rfl
      case hst=>rfl
  case hB=>kernel_rfl
end Go.Proofs.YtcfdpfmchchkaaaGreatDoor
