/- Chapter 22 -/
import Derived.Test.YtcfdpfmchchkaaaGreatDoorRcC
import Derived.Test.YtcfdpfmchchkaaaGreatDoorOpH
namespace Go.Proofs.YtcfdpfmchchkaaaGreatDoor
set_option maxHeartbeats 2000000
set_option maxRecDepth 4000
set_option linter.unusedVariables false
set_option linter.unusedSimpArgs false
open Go.RowKit Go.Sort
def pz (c:Chn):Value:=.agg #[ae c.l,ae c.k,ae c.u]
theorem tH (c:Chn) (n:Int) (x:Lge) (w:World) :
 bu 159 #[pz c,ae n,cy x] w (pz (wK c n x)):=by
 refine an (N:=24) Tryz.func159 rfl rfl rfl (fun _ Y=>?_);have Z:=St.init w;refine aj (aq ?_);refine nb Y rfl rfl Z fun t _ _ q Y Z=>nb Y rfl rfl Z fun s _ _ r Y Z=>na (.agg rN) Y rfl Z fun u _ _ p Y Z=>ag (ai (aj ?_));apply gB (m:=4) Y (St.domAt Z (i:=2) rfl) 0 [false,false,false,false,true] _ aa
 case h=>
  refine GO 2 ?_;intro _ Y;refine qv Y (fun X g=>lx (Y.ev rfl) ((Z.growO (i:=2) rfl g).cell (i:=1) rfl rfl)) fun _ Y=>?_;refine GO 2 ?_;intro _ Y;apply iw (k:=4) (deps:=[]) (R:=IsBox _ _ _) Y rfl rfl IsBox.stable (fun X g o=>nr rfl (Y.ev rfl) (Y.ev rfl) rfl aa ((Z.grow g).at_ (i:=2) rfl) rfl rfl);intro f;refine k5 fun _ j l=>?_;have Z:=Z.growBox (i:=2) (v:=f) rfl j (aD l (k:=4) rfl);refine GO 1 ?_;intro _ Y;refine aS Y (wn rfl) ⟨rfl,rfl⟩ (Y.ev rfl) (Y.ev rfl) rfl aa Z (i:=2) rfl rfl rfl fun _ Z=>GO 16 ?_;intro _ Y;refine ak (Y.ev rfl) (fun d=>?_) (fun d=>?_)
  ·
   refine GO 3 ?_;intro _ Y;refine aS Y (wn rfl) ⟨rfl,rfl⟩ (Y.ev rfl) (Y.ev rfl) rfl aa Z (i:=2) rfl rfl rfl fun _ Z=>ag (eC (ai (aj (aq ?_))));refine sv Y (ah aa aa (Y.ev rfl) (Z.cellsAll (i:=2) rfl)) fun _ Y=>?_;refine sw Y Z 0 fun _ Z=>?_;refine ag (ai (wp_ret ?_));refine ni Y rfl rfl Z (i:=0) rfl aa aa ?_;have b:x.k=0:=al d;exact⟨by unfold wK;rw[if_pos b];rfl,Z.below⟩
  ·
   refine GO 6 ?_;intro _ Y;refine ak (Y.ev rfl) (fun e=>?_) (fun e=>?_)
   ·
    refine GO 4 ?_;intro _ Y;refine aS Y (wn rfl) ⟨rfl,rfl⟩ (Y.ev rfl) (Y.ev rfl) rfl aa Z (i:=2) rfl rfl rfl fun _ Z=>ag (eC (ai (aj (aq ?_))));refine sv Y (ah aa aa (Y.ev rfl) (Z.cellsAll (i:=2) rfl)) fun _ Y=>?_;refine sw Y Z 0 fun _ Z=>?_;refine ag (ai (wp_ret ?_));refine ni Y rfl rfl Z (i:=0) rfl aa aa ?_;have b:x.k≠0:=al d;have a:x.k=1:=al e;exact⟨by unfold wK;rw[if_neg b,if_pos a];rfl,Z.below⟩
   ·
    refine wp_skip (eC (ai (aj (aq ?_))));refine sv Y (ah aa aa (Y.ev rfl) (Z.cellsAll (i:=2) rfl)) fun _ Y=>?_;refine sw Y Z 0 fun _ Z=>?_;refine ag (ai (wp_ret ?_));refine ni Y rfl rfl Z (i:=0) rfl aa aa ?_;have b:x.k≠0:=al d;have a:x.k≠1:=al e;exact⟨by unfold wK;rw[if_neg b,if_neg a];rfl,Z.below⟩
 case hB=>kernel_rfl
 case hst=>rfl
theorem vS {a m:Int} {x:Lge} {b:Bool} (hm:(if b=true then 0 else a-1)=m) (h:x.p>m):ji a x b=(⟨0,0,0⟩,14):=by unfold ji;rw[if_pos (by rw[hm];exact h)]
theorem BM {a m:Int} {x:Lge} {b:Bool} (hm:(if b=true then 0 else a-1)=m) (h:¬x.p>m) (c:x.p≠0):ji a x b=(⟨x.p,-1,-1⟩,0):=by unfold ji;rw[if_neg (by rw[hm];exact h),if_pos c]
theorem DA {a m:Int} {x:Lge} {b:Bool} (hm:(if b=true then 0 else a-1)=m) (h:¬x.p>m) (c:x.p=0):ji a x b=(⟨x.p,0,0⟩,0):=by unfold ji;rw[if_neg (by rw[hm];exact h),if_neg (by rw[c];decide)]
theorem zC (l:List Rcd) (A:Option Addr) (c:Nat) (x:Lge) (b:Bool) (w:World) (hr:Rd w w.heap.size A (l.flatMap cB)) (h:0<l.length) (o:1≤ej l∧ej l≤2147483647) :
 bu 156 #[.slice A l.length c,cy x,.bool b] w (.tuple #[pz (ji (ej l) x b).1,ae (ji (ej l) x b).2]):=by
 have hf:=iH h;rw[hf] at o;obtain⟨b',o',rfl,hB,_⟩:=hr.opened (aF aI au h);refine an (N:=30) Tryz.func156 rfl rfl rfl (fun _ Y=>?_);have Z:=St.init w;refine aj (aq ?_);refine nb Y rfl rfl Z fun b4 _ _ r a Z=>na (.agg rN) a rfl Z fun s _ _ q d Z=>GO 6 ?_;intro _ Y;refine sv Y (ar (i:=0) (sz:=14) gO aa (Y.ev rfl) (Y.ev rfl) ab ab rfl) fun _ Y=>?_;refine sv Y (fy 0 (Y.ev rfl)) fun _ Y=>?_;refine sv Y (lx (Y.ev rfl) ((aL aI (Z.rd0 hr) h) 0 _ rfl)) fun _ Y=>?_;refine GO 10 ?_;intro _ Y;refine ak (Y.ev rfl) (fun g=>?_) (fun g=>?_)
 ·
  subst g;refine GO 13 ?_;intro _ j;refine ak (j.ev rfl) (fun f=>?_) (fun f=>?_)
  ·
   have a:=of_decide_eq_true f;refine aj (aq ?_);refine sv j (az (zs:=lJ) (pl:=fY) aa aa (j.evs2 rfl) rfl rfl) fun _ Y=>?_;refine sw Y Z 0 fun _ Z=>?_;refine GO 5 ?_;intro _ Y;refine bZ Y rfl rfl rfl Z (i:=0) rfl aa aa ?_;exact⟨by rw[vS (m:=0) rfl a];rfl,Z.below⟩
  ·
   have a:=of_decide_eq_false f;refine GO 6 ?_;intro _ Y;refine sv Y (az (zs:=lJ) (pl:=fY) aa aa (Y.evs2 rfl) rfl rfl) fun _ Y=>?_;refine na (.agg rN) Y rfl Z fun k _ _ n Y Z=>sw Y Z 0 fun _ Z=>?_;refine GO 10 ?_;intro _ Y;refine ak (Y.ev rfl) (fun e=>?_) (fun e=>?_)
   ·
    have d:x.p≠0:=al e;refine GO 2 ?_;intro _ Y;refine aS Y (wn rfl) ⟨rfl,rfl⟩ (Y.ev rfl) (Y.ev rfl) rfl aa Z (i:=0) rfl rfl rfl fun _ Z=>GO 1 ?_;intro _ Y;refine aS Y (wn rfl) ⟨rfl,rfl⟩ (Y.ev rfl) (Y.ev rfl) rfl aa Z (i:=0) rfl rfl rfl fun _ Z=>rV ?_;refine sv Y (ah aa aa (Y.ev rfl) (Z.cellsAll (i:=0) rfl)) fun _ Y=>?_;refine sw Y Z 1 fun _ Z=>?_;refine GO 4 ?_;intro _ Y;refine bZ Y rfl rfl rfl Z (i:=1) rfl aa aa ?_;exact⟨by rw[BM (m:=0) rfl a d];rfl,Z.below⟩
   ·
    have d:x.p=0:=al e;refine wp_skip (ai (aj (aq ?_)));refine sv Y (ah aa aa (Y.ev rfl) (Z.cellsAll (i:=0) rfl)) fun _ Y=>?_;refine sw Y Z 1 fun _ Z=>?_;refine GO 4 ?_;intro _ Y;refine bZ Y rfl rfl rfl Z (i:=1) rfl aa aa ?_;exact⟨by rw[DA (m:=0) rfl a d];rfl,Z.below⟩
 ·
  subst g;refine GO 11 ?_;intro _ Y;refine ak (Y.ev rfl) (fun f=>?_) (fun f=>?_)
  ·
   have a:=of_decide_eq_true f;refine aj (aq ?_);refine sv Y (az (zs:=lJ) (pl:=fY) aa aa (Y.evs2 rfl) rfl rfl) fun _ Y=>?_;refine sw Y Z 0 fun _ Z=>?_;refine GO 5 ?_;intro _ Y;refine bZ Y rfl rfl rfl Z (i:=0) rfl aa aa ?_;exact⟨by rw[vS (m:=l[0].l-1) (by rw[hf];rfl) a];rfl,Z.below⟩
  ·
   have a:=of_decide_eq_false f;refine GO 6 ?_;intro _ Y;refine sv Y (az (zs:=lJ) (pl:=fY) aa aa (Y.evs2 rfl) rfl rfl) fun _ Y=>?_;refine na (.agg rN) Y rfl Z fun k _ _ n Y Z=>sw Y Z 0 fun _ Z=>?_;refine GO 10 ?_;intro _ Y;refine ak (Y.ev rfl) (fun e=>?_) (fun e=>?_)
   ·
    have d:x.p≠0:=al e;refine GO 2 ?_;intro _ Y;refine aS Y (wn rfl) ⟨rfl,rfl⟩ (Y.ev rfl) (Y.ev rfl) rfl aa Z (i:=0) rfl rfl rfl fun _ Z=>GO 1 ?_;intro _ Y;refine aS Y (wn rfl) ⟨rfl,rfl⟩ (Y.ev rfl) (Y.ev rfl) rfl aa Z (i:=0) rfl rfl rfl fun _ Z=>rV ?_;refine sv Y (ah aa aa (Y.ev rfl) (Z.cellsAll (i:=0) rfl)) fun _ Y=>?_;refine sw Y Z 1 fun _ Z=>?_;refine GO 4 ?_;intro _ Y;refine bZ Y rfl rfl rfl Z (i:=1) rfl aa aa ?_;exact⟨by rw[BM (m:=l[0].l-1) (by rw[hf];rfl) a d];rfl,Z.below⟩
   ·
    have d:x.p=0:=al e;refine wp_skip (ai (aj (aq ?_)));refine sv Y (ah aa aa (Y.ev rfl) (Z.cellsAll (i:=0) rfl)) fun _ Y=>?_;refine sw Y Z 1 fun _ Z=>?_;refine GO 4 ?_;intro _ Y;refine bZ Y rfl rfl rfl Z (i:=1) rfl aa aa ?_;exact⟨by rw[DA (m:=l[0].l-1) (by rw[hf];rfl) a d];rfl,Z.below⟩
theorem mx (x:Lge) (w:World) (g:x.d.size≤100000) :
 bu 155 #[cy x] w (ae (GA x)):=by
 refine an (N:=20) Tryz.func155 rfl rfl rfl (fun _ Y=>?_);have Z:=St.init w;refine aj (aq ?_);refine nb Y rfl rfl Z fun b1 _ _ m Y Z=>GO 10 ?_;intro _ Y;apply bI Y Z 8 rfl 4 12
 case hf=>
  intro i;refine GO 4 ?_;intro _ Y;exact ag ⟨Y.midE 3,Z⟩
 case ht=>
  intro i;refine GO 4 ?_;intro _ Y;exact ag ⟨Y.midE 3,Z⟩
 case h=>
  rintro f j ⟨c,e⟩
  refine ag (ai ?_);refine ak (c.ev rfl) (fun b=>?_) (fun b=>?_)
  ·
   refine GO 7 ?_;intro _ Y;refine aC Y rfl rfl ?_;have Y:x.t≠0∨x.p≠0:=al b;exact⟨by unfold GA;rw[if_pos Y];(try rfl),e.below⟩
  ·
   refine wp_skip (ai (aj (aq ?_)));refine vf c 12 12 fun _ Y=>?_;refine GO 1 ?_;intro _ Y;refine cT Y (wn rfl) (aw a6 (Y.evs rfl) rfl) rfl rfl e (oV (bl x.d) _ g) fun a _ _ Y Z=>GO 1 ?_;intro _ Y;refine sv (v:=cc (dK (bl x.d)) a.1 a.2.1 a.2.2.1 a.2.2.2) Y (bN (Y.ev rfl) rfl) fun _ Y=>?_;refine GO 1 ?_;intro _ Y;refine na (.agg gV) Y rfl Z fun k _ _ l Y Z=>sw Y Z 0 fun _ Z=>?_;refine GO 10 ?_;intro _ Y;refine aC Y rfl rfl ?_;have Y:¬(x.t≠0∨x.p≠0):=al b;exact⟨by unfold GA;rw[if_neg Y];(try rfl),Z.below⟩
theorem VldH.srt {l:List Rcd} {i:Nat} (h:VldH l i):cH Rcd.l (l.take i):=by
 refine List.pairwise_iff_getElem.2 fun j k c b a=>?_;have d:=h.1;rw[List.length_take] at c b;rw[List.getElem_take,List.getElem_take];exact h.lt a ab
theorem Cm (x y:Op):kP [ae x.k,ae x.a,ae x.e,ae x.c,.string x.o,.string x.n] [ae y.k,ae y.a,ae y.e,ae y.c,.string y.o,.string y.n]=decide (x=y):=by
 obtain⟨k,a,e,c,o,n⟩:=x;obtain⟨d,a',b,c',o',f⟩:=y;rw[Bool.eq_iff_iff,decide_eq_true_eq];simp[kP,vY]
theorem mM {x:Lge} (h:cA x=0):gy x.o=0:=by
 unfold cA at h;rw[aN] at h;exact h _ (.tail _ (.tail _ (.tail _ (.tail _ (.head _)))))
theorem Rd.takeF {α:Type} {f:α→List Value} {n:Nat} (hf:∀x,(f x).length=n) {w:World} {B:Nat} {A:Option Addr} {l:List α} (h:Rd w B A (l.flatMap f)) (k:Nat):Rd w B A ((l.take k).flatMap f):=fun j u a=>by
 rw[←Aw hf,List.getElem?_take] at a
 split at a
 · exact h j u a
 · cases a
theorem xM (l:List Rcd) (A:Option Addr) (c:Nat) (i:Nat) (d:Chn) (x:Lge) (w:World) (hr:Rd w w.heap.size A (l.flatMap cB)) (Q:i<l.length) (P:l.length≤1000) (R:l.length≤c) (B:VldH l i) (K:1≤ej l∧ej l≤2147483647) :
 bu 158 #[.slice A l.length c,ae i,pz d,cy x] w (ae (mf l i d x)):=by
 have y:=B.srt;have hf:=iH (l:=l) ab
 have m:(l.take i).length=i:=by rw[List.length_take];omega
 have b:Rd w w.heap.size A ((l.take i).flatMap cB):=hr.takeF aI i;obtain⟨b',o',rfl,hB,_⟩:=hr.opened (aF aI au ab);refine an (N:=80) Tryz.func158 rfl rfl rfl (fun _ Y=>?_);have Z:=St.init w;refine aj (aq ?_);refine nb Y rfl rfl Z fun b6 _ _ V Y Z=>nb Y rfl rfl Z fun b7 _ _ T Y Z=>GO 11 ?_;intro _ Y;refine ak (Y.ev rfl) (fun q=>?_) (fun q=>?_)
 ·
  have g:d.u=0:=al q;refine GO 7 ?_;intro _ Y;refine aC Y rfl rfl ?_;exact⟨by unfold mf;rw[if_pos g],Z.below⟩
 ·
  have g:d.u≠0:=al q;refine wp_skip (ai (aj ?_));apply aK Y (fK 5) _ aa
  case h=>
   refine GO 2 ?_;intro _ Y;refine qv Y (fun X a=>jN (l:=0) (h:=i) (sz:=14) gO aa (Y.ev rfl) rfl (Y.ev rfl) ab ab (.inr rfl) rfl) fun _ Y=>?_;refine GO 3 ?_;intro _ Y;refine aT fun _ C W=>?_;have Z:=Z.grow C;refine cQ Y rfl Z (m▸lu (l.take i) y _ c d.u _ (Z.rd0 b) ab) fun _ _ Y Z=>?_;refine GO 7 ?_;intro _ Y;refine sv Y (mZ ub aa (Y.ev rfl) (Y.ev rfl)) fun _ Y=>?_;refine ag (ai ?_);refine ak (Y.ev rfl) (fun r=>?_) (fun r=>?_)
   ·
    have L:=tI r;refine aj ?_;apply aK Y (fK 6) _ aa
    case h=>
     refine GO 3 ?_;intro _ Y;refine qv Y (fun X a=>ar (i:=0) (sz:=14) gO aa (Y.ev rfl) (Y.ev rfl) ab ab rfl) fun _ Y=>?_;refine qv Y (fun X a=>fy 0 (Y.ev rfl)) fun _ Y=>?_;refine qv Y (fun X a=>lx (Y.ev rfl) ((aL aI ((Z.grow a).rd0 hr) (show 0<l.length by omega)) 0 _ rfl)) fun _ Y=>?_;refine ax ?_;refine aT fun _ E S=>?_;have Z:=Z.grow E;refine GO 1 ?_;intro _ Y;refine dn Y rfl (aX _ _ _) fun _ Y=>?_;refine GO 5 ?_;intro _ Y;refine aC Y rfl rfl ?_;exact⟨by unfold mf;rw[if_neg g,L,hf],Z.below⟩
    case hB=>kernel_rfl
    case hst=>rfl
   ·
    obtain⟨f,M,z,t⟩:=tw y r;rw[show mj (some ⟨b',o',none⟩) (l.take i) d.u=some ⟨b',o'+jU Rcd.l (l.take i) d.u*14+1,none⟩ from t] at Y;generalize jU Rcd.l (l.take i) d.u=k at f M z t Y
    have p:k<i:=by omega
    have j:(l.take i)[k]=l[k]'ab:=List.getElem_take ..
    have n:gy (l.take i)[k].e.o=0:=by rw[j];exact mM (B.e0 p).2.2
    refine GO 6 ?_;intro _ Y;refine sv Y (fy 6 (Y.ev rfl)) fun _ Y=>?_;refine sv (v:=fj (l.take i)[k].e.o) Y (ah aa aa (Y.ev rfl) (Ih (Z.rd0 b) f)) fun _ Y=>?_;refine cQ Y rfl Z (qG (l.take i)[k].e.o _ n) fun _ _ Y Z=>?_;refine GO 3 ?_;intro _ Y;refine na (.agg qo) Y rfl Z fun G _ _ O Y Z=>sw Y Z 0 fun _ Z=>?_;refine GO 4 ?_;intro _ Y;apply aK Y (fK 38) _ aa
    case h=>
     refine GO 2 ?_;intro _ Y;refine qv Y (fun X a=>fy 0 (Y.ev rfl)) fun _ Y=>?_;refine qv Y (fun X a=>lx (Y.ev rfl) ((dQ ((Z.grow a).rd0 b) f) 0 _ rfl)) fun _ Y=>?_;refine GO 2 ?_;intro _ Y;apply kV Y 45 rfl 8 53
     case ht=>
      intro H;refine GO 4 ?_;intro _ Y;refine qy Y (fun X a=>(fy 2 (Y.ev rfl))) fun _ Y=>?_;refine qy Y (fun X a=>(lx (Y.ev rfl) ((dQ ((Z.grow a).rd0 b) f) 2 _ rfl))) fun _ Y=>?_;refine GO 2 ?_;intro _ Y;exact ax (Y.midE 7)
     case hf=>
      intro H;refine GO 8 ?_;intro _ Y;exact ax (Y.midE 7)
     case h=>
      intro _ Y;refine GO 1 ?_;intro _ Y;apply kV Y 54 rfl 8 62
      case ht=>
       intro F;refine GO 4 ?_;intro _ Y;refine qy Y (fun X a=>(fy 4 (Y.ev rfl))) fun _ Y=>?_;refine qy Y (fun X a=>(lx (Y.ev rfl) ((dQ ((Z.grow a).rd0 b) f) 4 _ rfl))) fun _ Y=>?_;refine GO 2 ?_;intro _ Y;exact ax (Y.midE 7)
      case hf=>
       intro F;refine GO 8 ?_;intro _ Y;exact ax (Y.midE 7)
      case h=>
       intro _ Y;refine GO 1 ?_;intro _ Y;apply kV Y 63 rfl 8 71
       case ht=>
        intro J;refine GO 4 ?_;intro _ Y;refine qy Y (fun X a=>(fy 5 (Y.ev rfl))) fun _ Y=>?_;refine qy Y (fun X a=>(lx (Y.ev rfl) ((dQ ((Z.grow a).rd0 b) f) 5 _ rfl))) fun _ Y=>?_;refine qy Y (fun X a=>(y6 tX (Y.ev rfl) (Y.ev rfl))) fun _ Y=>?_;refine GO 1 ?_;intro _ Y;exact ax (Y.midE 7)
       case hf=>
        intro J;refine GO 8 ?_;intro _ Y;exact ax (Y.midE 7)
       case h=>
        intro _ Y;refine GO 1 ?_;intro _ Y;apply kV Y 72 rfl 5 77
        case ht=>
         intro D;refine GO 1 ?_;intro _ Y;refine qy Y (fun X a=>(ah aa aa (Y.ev rfl) ((Z.grow a).cellsOf (i:=1) rfl 6 6))) fun _ Y=>?_;refine qy Y (fun X a=>(ah aa aa (Y.ev rfl) ((Z.grow a).cellsAll (i:=0) rfl))) fun _ Y=>?_;refine qy Y (fun X a=>(zi (ks:=[.i .i64,.i .i64,.i .i64,.i .i64,.s,.s]) aa Tryz.underlying141 aa (Y.ev rfl) (Y.ev rfl) rfl rfl)) fun _ Y=>?_;refine GO 1 ?_;intro _ Y;exact ax (Y.midE 4)
        case hf=>
         intro D;refine GO 5 ?_;intro _ Y;exact ax (Y.midE 4)
        case h=>
         intro _ Y;refine ax ?_;refine aT fun _ I U=>?_;have Z:=Z.grow I;refine GO 6 ?_;intro _ Y;refine dn Y rfl (aX _ _ _) fun _ Y=>?_;refine GO 4 ?_;intro _ Y;refine aC Y rfl rfl ?_;refine⟨?_,Z.below⟩;have e:=Cm x.o (bO (l.take i)[k].e.o);unfold mf;rw[if_neg g,z];show _=Ending.returned (ae (bQ (_&&_&&_&&_&&decide (x.o=bO (l.take i)[k].e.o)) 13));rw[←e];rfl
    case hB=>kernel_rfl
    case hst=>rfl
  case hB=>kernel_rfl
  case hst=>rfl
open Go.RowKit Go.Sort
def Gm:List Int→Int→Nat→Int
 | [],_,_=>-1
 | x::r,v,k=>if v=x then k else Gm r v (k+1)
theorem zj:∀(l:List Int) (v:Int) (k:Nat),decide (Gm l v k≥0)=l.any fun x=>x==v
 | [],v,k=>rfl
 | x::r,v,k=>by
  unfold Gm;rw[List.any_cons];by_cases h:v=x
  · rw[if_pos h,decide_eq_true ab,show(x==v)=true by rw[h];exact beq_self_eq_true x];rfl
  · rw[if_neg h,zj r v (k+1),show(x==v)=false by rw[beq_eq_false_iff_ne];exact fun e=>h e.symm];rfl
theorem Hf {X:World} {B b o k:Nat} {l:List Int} (hr:Rd X B (some ⟨b,o,none⟩) (l.map (.int .i64))) (a:k<l.length):∀(j:Nat) (u:Value),[Value.int .i64 l[k]][j]? = some u→X.cell? ⟨b,o+k*1+j,none⟩=some u
 | 0,u,hu=>by
  obtain⟨b',o',e,_,c⟩:=hr k u (by rw[List.getElem?_map,List.getElem?_eq_getElem a];exact hu);injection e with e;injection e with e1 e2;subst e1 e2;rw[Nat.mul_one,Nat.add_zero];exact c
 | j+1,u,hu=>by simp at hu
theorem zA (l:List Int) (A:Option Addr) (c:Nat) (v:Int) (w:World) (hr:Rd w w.heap.size A (l.map (.int .i64))) (m:l.length≤1000) :
 bu 218 #[.slice A l.length c,ae v] w (ae (Gm l v 0)):=by
 refine an (N:=19) Tryz.func218 rfl rfl rfl (fun _ Y=>?_);have Z:=St.init w;refine GO 14 ?_;intro _ Y;refine aV Y Z [7,0,1] (fun (j:Nat)=>[(8,ae j)]) (fun (j:Nat)=>j≤l.length∧Gm l v 0=Gm (l.drop j) v j) (fun (j:Nat) L=>L) (fun (j:Nat)=>l.length-j) (0) (⟨Nat.zero_le _,rfl⟩) bC (Z) ?_;intro j _ _ d Y Z;refine GO 6 ?_;intro _ Y;refine ak (Y.ev rfl) (fun g=>?_) (fun g=>?_)
 ·
  have a:j<l.length:=by have:=of_decide_eq_true g;omega
  obtain⟨b,o,rfl,hB,k⟩:=hr.opened (by rw[List.length_map];omega);have h:l.drop j=l[j]::l.drop (j+1):=List.drop_eq_getElem_cons a;refine GO 15 ?_;intro _ Y;refine sv Y (ar (i:=j) (sz:=1) iG aa (Y.ev rfl) (Y.ev rfl) ab ab rfl) fun _ Y=>?_;refine sv Y (lx (Y.ev rfl) ((Hf (Z.rd0 hr) a) 0 _ rfl)) fun _ Y=>?_;refine GO 3 ?_;intro _ Y;refine ak (Y.ev rfl) (fun f=>?_) (fun f=>?_)
  ·
   refine GO 12 ?_;intro _ Y;refine aC Y rfl rfl ?_;exact⟨by rw[d.2,h,Gm,if_pos (al f)],Z.below⟩
  ·
   refine GO 8 ?_;intro _ Y;exact⟨j+1,by omega,⟨a,by rw[d.2,h,Gm,if_neg (al f)]⟩,Y.re bC,Z⟩
 ·
  have e:l.length≤j:=by have:=of_decide_eq_false g;omega
  refine GO 11 ?_;intro _ Y;refine aC Y rfl rfl ?_;exact⟨by rw[d.2,List.drop_of_length_le e];rfl,Z.below⟩
theorem uZ (l:List Int) (A:Option Addr) (c:Nat) (v:Int) (w:World) (hr:Rd w w.heap.size A (l.map (.int .i64))) (a:l.length≤1000) :
 bu 157 #[.slice A l.length c,ae v] w (.bool (l.any fun x=>x==v)):=by
 refine an (N:=9) Tryz.func157 rfl rfl rfl (fun _ Y=>?_);have Z:=St.init w;refine GO 9 ?_;intro _ Y;refine cQ Y rfl Z (zA l A c v _ (Z.rd0 hr) a) fun _ _ Y Z=>?_;refine GO 5 ?_;intro _ Y;refine aC Y rfl rfl ?_;exact⟨by rw[←zj l v 0],Z.below⟩
open Go.RowKit Go.Sort
structure FolT (w:World):Prop where
 cells:∀k:Nat,k<6→∃A c,w.cell? ⟨0,k,none⟩=some (.slice A (yC k).length c)∧Rd w w.heap.size A ((yC k).map (.int .i64))
theorem FolT.below {w d:World} (h:FolT w) (a:Below w.heap.size w d):FolT d:=⟨fun k e=>by
 obtain⟨A,c,b,f⟩:=h.cells k e
 exact⟨A,c,(a.cell (p:=⟨0,k,none⟩) (block_lt_of_cell b)).trans b,f.below' a⟩⟩
structure KeptM (m:Nat) (w X:World):Prop where
 size:w.heap.size≤X.heap.size
 block:∀b,b<w.heap.size→b≠m→X.heap[b]? = w.heap[b]?
theorem St.keptM {m:Nat} {w X:World} {L:List Ent} (h:St [m] w X L):KeptM m w X:=⟨h.size,fun b a hne=>h.block b a (al hne)⟩
theorem KeptM.cell {m:Nat} {w X:World} (h:KeptM m w X) (hm:∃es d,w.heap[m]? = some (.map es d)) {a:Addr} {v:Value} (b:w.cell? a=some v):X.cell? a=some v:=by
 obtain⟨es,d,hm⟩:=hm;have c:=block_lt_of_cell b;refine(World.cell?_of_block (h.block _ c (fun e=>?_))).trans b;unfold World.cell? at b;rw[e,hm] at b
 cases b
theorem KeptM.rd {m:Nat} {w X:World} (h:KeptM m w X) (hm:∃es e,w.heap[m]? = some (.map es e)) {A:Option Addr} {xs:List Value} (hr:Rd w w.heap.size A xs):Rd X X.heap.size A xs:=fun j u c=>by
 obtain⟨b,o,a,d,h3⟩:=hr j u c;exact⟨b,o,a,Nat.lt_of_lt_of_le d h.size,h.cell hm h3⟩
theorem KeptM.fol {m:Nat} {w X:World} (h:KeptM m w X) (hm:∃es e,w.heap[m]? = some (.map es e)) (hf:FolT w):FolT X:=⟨fun k b=>by
 obtain⟨A,c,a,d⟩:=hf.cells k b
 exact⟨A,c,h.cell hm a,h.rd hm d⟩⟩
structure FewE (x:Lge):Prop where
 o:x.o.o.size≤3100
 n:x.o.n.size≤3100
 d:x.d.size≤100000
def yp (l:List Rcd) (i:Nat):Bool:=match da l i with
 | none=>true
 | some y=>match l[i]? with | none=>true | some x=>decide (y.l<x.l)
def nE (g:Int→Option Chn):Int→Option Value:=fun t=>(g t).map pz
theorem DX (g:Int→Option Chn) (t:Int) (c:Chn):fU (nE g) t (some (pz c))=nE (AB g t c):=by
 funext s;unfold fU nE AB;split<;>rfl
def rZ:Chn:=⟨0,0,0⟩
theorem DL {l:List Rcd} {i:Nat} (b:i<l.length):fc l i l[i]=av [bQ (bB l[i].l 1 2147483647) 2,bQ ((i:Int)==0||yp l i) 9,cA l[i].e]:=by
 have e:((i:Int)==0||yp l i)=yp l i:=by
  rcases Nat.eq_zero_or_pos i with a | a
  · subst a;rfl
  · rw[show((i:Int)==0)=false by rw[beq_eq_false_iff_ne];omega];rfl
 rw[e];unfold fc yp;rw[List.getElem?_eq_getElem b]
 cases da l i<;>rfl
theorem GC {l:List Rcd} {i:Nat} (b:VldH l i) (c:i<l.length) (a:fc l i l[i]=0):1≤ej l∧ej l≤2147483647:=by
 rw[iH ab];rcases Nat.eq_zero_or_pos i with h | h
 · subst h
   unfold fc at a;rw[aN] at a;exact inB_true.1 ((aH au).1 (a _ (.head _)))
 · have:=b.e0 h
   exact⟨this.1,this.2.1⟩
theorem B9 {b:Int} {g:Int→Option Chn} {x:Lge} (h:((g x.t).isSome&&((g x.t).getD rZ).k != 4)=true):ju b g x=((g x.t).getD rZ,bQ (x.p==((g x.t).getD rZ).l) 14):=by
 unfold ju
 cases hg:g x.t with
 | none=>rw[hg] at h;cases h
 | some c=>
  rw[hg] at h;have a:c.k≠4:=al h;simp only[];rw[if_neg a];rfl
theorem DW {a:Int} {g:Int→Option Chn} {x:Lge} (h:((g x.t).isSome&&((g x.t).getD rZ).k != 4)=false):ju a g x=ji a x (g x.t).isSome:=by
 unfold ju
 cases hg:g x.t with
 | none=>rfl
 | some c=>
  rw[hg] at h;have b:c.k=4:=al h;simp only[];rw[if_pos b];rfl
theorem zQ {l:List Rcd} {i:Nat} (o:VldH l i) (x:Lge) (f:(ju (ej l) (ct l i) x).2=0) (a:(ju (ej l) (ct l i) x).1.k≠-1):∃k:Nat,k<6∧(ju (ej l) (ct l i) x).1.k=(k:Int):=by
 have d:∀b,(ji (ej l) x b).2=0→(ji (ej l) x b).1.k≠-1→∃k:Nat,k<6∧(ji (ej l) x b).1.k=(k:Int):=fun b q h=>by
  obtain⟨_,p⟩:=j6 q;rw[p] at h ⊢;simp only[] at h ⊢
  split at h
  · exact absurd rfl h
  · rename_i r;exact⟨0,by decide,by rw[if_neg r];rfl⟩
 unfold ju at f a ⊢;have g:=mB i (by have:=o.1;omega) o.2 x.t
 cases hg:ct l i x.t with
 | none=>rw[hg] at f a;simp only[] at f a ⊢;exact d _ f a
 | some c=>
  rw[hg] at f a;simp only[] at f a ⊢
  split at f
  · rename_i j;rw[if_pos j] at a ⊢;exact d _ f a
  · rename_i j
    rw[if_neg j] at a ⊢;rw[hg] at g
    cases hb:bP l x.t i with
    | none=>rw[hb] at g;cases g
    | some k=>
     rw[hb] at g;obtain⟨n,y,u,v,ht⟩:=gz hb;have m:k<l.length:=(List.getElem?_eq_some_iff.1 u).1;have s:c=nI l k:=al g;have e2:=xO (o.e0 n).2.2
     have e3:c.k=l[k].e.k:=by rw[s];exact jO m
     refine⟨c.k.toNat,?_,?_⟩<;>(show _;rw[e3];omega)
def Hr (c:Chn × Int) (x:Lge):Int:=av [c.2,if c.1.k = -1 then 0 else bQ (rW c.1.k x.k) 20]
theorem Ep (l:List Rcd) (i:Nat) (c:Chn × Int) (x:Lge):ph l i c x=if Hr c x=0 then (if x.k=1 then mf l i c.1 x else 0) else Hr c x:=by
 unfold ph Hr;generalize (if c.1.k = -1 then 0 else bQ (rW c.1.k x.k) 20)=b;generalize (if x.k=1 then mf l i c.1 x else 0)=d
 by_cases a:c.2=0<;>by_cases e:b=0<;>simp[av,a,e]<;>(intro h;exact h.symm)
theorem B2 (k:Int):(yC k).length≤1000:=by
 unfold yC;split<;>(try split)<;>(try split)<;>(try split)<;>decide
theorem Cl (b:Int):av [0,b]=b:=by by_cases h:b=0<;>simp[av,h]
theorem x7 (l:List Rcd) (A:Option Addr) (c:Nat) (i:Nat) (m:Nat) (w:World) (hr:Rd w w.heap.size A (l.flatMap cB)) (E:i<l.length) (hl:l.length≤1000) (hc:l.length≤c) (hv:VldH l i)
 (hm:MapF w m (nE (ct l i))) (hF:FolT w) (hx:∀x∈l,FewE x.e) :
 Calls Tryz.prog 104 #[.slice A l.length c,ae i,.map (some m)] w fun e w'=>∃g,e=.returned (ae (ez l i (ct l i) l[i]))∧(ez l i (ct l i) l[i]=0→g=ct l (i+1))∧St [m] w w' [dg m (nE g)]:=by
 have r:∃es ck,w.heap[m]? = some (.map es ck):=by obtain⟨es,ck,h1,_⟩:=hm;exact⟨es,ck,h1⟩
 have D:=hx _ (List.getElem_mem E);obtain⟨b',o',rfl,hB,_⟩:=hr.opened (aF aI au ab);obtain⟨q,y⟩:∃q,q=ju (ej l) (ct l i) l[i].e:=⟨_,rfl⟩;have q9:=DL E;refine an (N:=118) Tryz.func104 rfl rfl rfl (fun _ Y=>?_);have S0:=(St.initInv hm (fun b hb=>⟨by rw[hb];exact List.mem_singleton.2 rfl,by rw[hb];exact hm.lt⟩):St [m] w w [dg m (nE (ct l i))]);refine GO 6 ?_;intro _ h1;apply aK h1 [false,false,false,false,false,false,false,false,false,false,true,false] _ aa
 case h=>
  refine GO 2 ?_;intro _ Y;refine qv Y (fun X a=>ar (i:=i) (sz:=14) gO aa (Y.ev rfl) (Y.ev rfl) ab ab rfl) fun _ Y=>?_;refine qv Y (fun X a=>fy 0 (Y.ev rfl)) fun _ Y=>?_;refine qv Y (fun X a=>lx (Y.ev rfl) ((aL aI (((S0.grow a).keptM).rd r hr) E) 0 _ rfl)) fun _ Y=>?_;refine GO 2 ?_;intro _ Y;refine qv Y (fun X a=>ar (i:=i) (sz:=14) gO aa (Y.ev rfl) (Y.ev rfl) ab ab rfl) fun _ Y=>?_;refine qv Y (fun X a=>fy 1 (Y.ev rfl)) fun _ Y=>?_;refine qv (v:=cy l[i].e) Y (fun X a=>ah aa aa (Y.ev rfl) (dQ (((S0.grow a).keptM).rd r hr) E)) fun _ Y=>?_;refine GO 2 ?_;intro _ Y;apply eU (k:=10) (deps:=[]) (R:=NewB _ (fun b=>.pointer (some ⟨b,0,none⟩)) _ _) Y rfl rfl rfl NewB.stable (fun X a hΦ=>jm (dV (z:=.agg sc) aa) a.size);intro v8 _ Y;refine aT fun _ Zf Zm=>?_;have Z:=S0.grow Zf;have Zk:=aD Zm (k:=10) rfl;obtain⟨b8,rfl,Zz,Zk⟩:=Zk;have Z:=S0.add Zf (e:=.box _ _ _) Zk (fun b hb=>by cases hb;exact⟨Zz,Box.lt Zk⟩);refine sw Y Z 0 fun _ Z=>?_;refine ag (ai (aj ?_));apply aK Y (fK 18) _ aa
  case h=>
   refine GO 1 ?_;intro _ Y;refine iW Y rfl (fun X a=>cg _ _ _ _) fun _ Y=>?_;refine iW Y rfl (fun X a=>aX _ _ _) fun _ Y=>?_;refine GO 3 ?_;intro _ Y;apply fZ (x:=yp l i) Y 27 rfl 10 37
   case hf=>
    intro Zg
    have Jy:i≠0:=by simp only[beq_eq_false_iff_ne] at Zg;omega
    have Q:i-1<l.length:=by omega
    have Jx:da l i=some l[i-1]:=by unfold da;rw[if_neg Jy,List.getElem?_eq_getElem Q]
    refine GO 1 ?_;intro _ Zl;refine GO 2 ?_;intro _ Y;refine qy Y (fun X a=>(rn aa (Y.ev rfl) (Y.ev rfl))) fun _ Y=>?_;refine qy Y (fun X a=>(ar (i:=i-1) (sz:=14) gO aa (Y.ev rfl) (Y.ev rfl) ab ab rfl)) fun _ Y=>?_;refine qy Y (fun X a=>(fy 0 (Y.ev rfl))) fun _ Y=>?_;refine qy Y (fun X a=>(lx (Y.ev rfl) ((aL aI (((Z.grow a).keptM).rd r hr) Q) 0 _ rfl))) fun _ Y=>?_;refine GO 1 ?_;intro _ Y;refine qy Y (fun X a=>(aA (v':=.bool (yp l i)) (congrArg Value.bool (by unfold yp;rw[Jx,List.getElem?_eq_getElem E])) (nY (Y.ev rfl) (Y.ev rfl)))) fun _ Y=>?_;refine GO 1 ?_;intro _ Y;exact ax (Y.midE 9)
   case ht=>
    intro Zg;refine GO 10 ?_;intro _ Y;exact ax (Y.midE 9)
   case h=>
    intro _ Y;refine iW Y rfl (fun X a=>aX _ _ _) fun _ Y=>?_;refine qv Y (fun X a=>ah aa aa (Y.ev rfl) ((Z.grow a).cellsAll (i:=0) rfl)) fun _ Y=>?_;refine ax ?_;refine aT fun _ Zn Qa=>?_;have Z:=Z.grow Zn;refine cQ Y rfl Z (kW l[i].e _ D.o D.n (by have:=D.d;unfold maxLen;omega)) fun _ _ Y Z=>?_;refine bV Y (wn rfl) (f:=fun b=>.slice (some ⟨b,0,none⟩) 3 3) (ba dt aa aa (Y.evs2 rfl) rfl rfl rfl au au) rfl rfl Z fun Vc _ _ Qb Y Z=>dn Y rfl (fk (Z.at_ (i:=0) rfl)) fun _ Y=>?_;refine GO 12 ?_;intro _ Y;refine ak (Y.ev rfl) (fun Zo=>?_) (fun Zo=>?_)
    ·
     have O:fc l i l[i]≠0:=by rw[q9];simpa using Zo
     refine GO 9 ?_;intro _ Y;refine aC Y rfl rfl ?_;exact⟨ct l i,by unfold ez;rw[if_pos O,q9],fun h=>absurd h (by unfold ez;rw[if_pos O];exact O),(Z.sub (aB 4))⟩
    ·
     have O:fc l i l[i]=0:=by rw[q9];simpa using Zo
     have C:¬fc l i l[i]≠0:=fun h=>h O;have H:=GC hv E O;refine GO 8 ?_;intro _ Y;refine ak (Y.ev rfl) (fun Zp=>?_) (fun Zp=>?_)
     ·
      have I:l[i].e.k=5:=al Zp;refine aj (aq ?_);refine sv Y (ah aa aa (Y.ev rfl) (Z.cellsAll (i:=1) rfl)) fun _ Y=>?_;refine cQ Y rfl Z (mx l[i].e _ D.d) fun _ _ Y Z=>?_;refine GO 6 ?_;intro _ Y;refine aC Y rfl rfl ?_;exact⟨ct l i,by unfold ez;rw[if_neg C,if_pos I],fun _=>by rw[rv E,if_pos I],(Z.sub (aB 4))⟩
     ·
      have I:l[i].e.k≠5:=al Zp;refine GO 8 ?_;intro _ Y;refine ak (Y.ev rfl) (fun Zq=>?_) (fun Zq=>?_)
      ·
       have q2:l[i].e.t=0:=al Zq;refine GO 8 ?_;intro _ Y;refine aC Y rfl rfl ?_;exact⟨ct l i,by unfold ez;rw[if_neg C,if_neg I,if_pos q2];(try rfl),fun h=>absurd h (by unfold ez;rw[if_neg C,if_neg I,if_pos q2];decide),(Z.sub (aB 4))⟩
      ·
       have q2:l[i].e.t≠0:=al Zq;refine GO 8 ?_;intro _ Y;refine sv Y (aA (v':=.tuple #[pz ((ct l i l[i].e.t).getD rZ),.bool (ct l i l[i].e.t).isSome]) (by unfold nE;cases ct l i l[i].e.t<;>rfl) (rm (z:=.agg rN) Tryz.underlying178 eO aa (Y.ev rfl) (Y.ev rfl) (Z.at_ (i:=2) rfl))) fun _ Y=>?_;refine GO 3 ?_;intro _ Y;refine na (.agg rN) Y rfl Z fun Jz _ _ Qc Y Z=>sw Y Z 0 fun _ Z=>?_;refine GO 8 ?_;intro _ Y;apply a8 (x:=((ct l i l[i].e.t).getD rZ).k != 4) Y Z 65 rfl 4 69
       case ht=>
        intro Zr;refine GO 4 ?_;intro _ Y;exact ag ⟨Y.midE 3,Z⟩
       case hf=>
        intro Zr;refine GO 4 ?_;intro _ Y;exact ag ⟨Y.midE 3,Z⟩
       case h=>
        rintro Vd Qf ⟨Zw,P⟩
        refine ag (ai ?_);refine ng (F:=True) Zw P [(9,ae q.2)] [10,8,7,6,0,1,2] (fun L=>L.set 0 (.box Jz (pz q.1).cells 250)) ?_ (fun _ _ Y Z G=>?_)
        ·
         refine ak (Zw.ev rfl) (fun Zs=>?_) (fun Zs=>?_)
         ·
          have B:q=((ct l i l[i].e.t).getD rZ,bQ (l[i].e.p==((ct l i l[i].e.t).getD rZ).l) 14):=by rw[y];exact B9 Zs
          refine GO 6 ?_;intro _ Y;refine dn Y rfl (aX _ _ _) fun _ Y=>?_;refine GO 3 ?_;intro _ Y;have G:=trivial;rw[show bQ (l[i].e.p==((ct l i l[i].e.t).getD rZ).l) 14=q.2 by rw[B]] at Y;rw[show(ct l i l[i].e.t).getD rZ=q.1 by rw[B]] at P;exact⟨Y.re bC,P,G⟩
         ·
          have B:q=ji (ej l) l[i].e (ct l i l[i].e.t).isSome:=by rw[y];exact DW Zs
          refine GO 2 ?_;intro _ Y;refine sv Y (ah aa aa (Y.ev rfl) (P.cellsAll (i:=2) rfl)) fun _ Y=>?_;refine GO 1 ?_;intro _ Y;refine cQ Y rfl P (zC l _ c l[i].e _ _ ((P.keptM).rd r hr) ab H) fun _ _ Y Z=>?_;refine GO 1 ?_;intro _ Y;refine sv (v:=pz (ji (ej l) l[i].e (ct l i l[i].e.t).isSome).1) Y (bN (Y.ev rfl) rfl) fun _ Y=>?_;refine GO 1 ?_;intro _ Y;refine sw Y Z 0 fun _ Z=>?_;refine GO 3 ?_;intro _ Y;have G:=trivial;rw[←B] at Y Z;exact⟨Y.re bC,Z,G⟩
        ·
         obtain⟨K,J⟩:∃K:Int,K=Hr q l[i].e:=⟨_,rfl⟩;obtain⟨T,W⟩:∃T:Int,T=ph l i q l[i].e:=⟨_,rfl⟩;have Zl:=Ep l i q l[i].e;rw[←J,←W] at Zl;refine GO 7 ?_;intro _ Y;apply a8 (x:=q.1.k != -1) Y Z 85 rfl 4 89
         case ht=>
          intro Zt;refine GO 4 ?_;intro _ Y;exact ag ⟨Y.midE 3,Z⟩
         case hf=>
          intro Zt;refine GO 4 ?_;intro _ Y;exact ag ⟨Y.midE 3,Z⟩
         case h=>
          rintro Vb Qd ⟨U,Zc⟩
          refine ag (ai ?_);refine dY U Zc [(9,ae K)] [10,8,7,6,0,1,2] ?_ (fun _ _ Y Z=>?_)
          ·
           refine ak (U.ev rfl) (fun Zu=>?_) (fun Zu=>?_)
           ·
            obtain⟨s,u⟩:=Bool.and_eq_true_iff.1 Zu;have s:q.2=0:=al s;have u:q.1.k≠-1:=al u
            obtain⟨k,V,S⟩:∃k:Nat,k<6∧q.1.k=(k:Int):=by
             have:=zQ hv l[i].e;rw[←y] at this;exact this s u
            obtain⟨Af,cf,Jv,Jw⟩:=hF.cells k V;apply aK U (fK 6) _ aa
            case h=>
             refine GO 2 ?_;intro _ Y;refine qv Y (fun X a=>AD (i:=k) (sz:=1) (j:=k) Tryz.underlying255 aa (Y.ev rfl) (Y.ev rfl) S V ab) fun _ Y=>?_;refine qv Y (fun X a=>lx (Y.ev rfl) (((Zc.grow a).keptM).cell r Jv)) fun _ Y=>?_;refine GO 3 ?_;intro _ Y;refine aT fun _ Zh Zx=>?_;have Z:=Zc.grow Zh;refine cQ Y rfl Z (uZ (yC k) Af cf l[i].e.k _ ((Z.keptM).rd r Jw) (B2 _)) fun _ _ Y Z=>?_;refine dn Y rfl (aX _ _ _) fun _ Y=>?_;refine GO 3 ?_;intro _ Y;rw[show bQ ((yC k).any fun x=>x==l[i].e.k) 20=K by rw[J];unfold Hr;rw[s,if_neg u,S,Cl];rfl] at Y;exact⟨Y.re bC,Z⟩
            case hB=>kernel_rfl
            case hst=>rfl
           ·
            refine wp_skip (ai ?_)
            rw[show q.2=K by
             rw[J];unfold Hr;rcases Bool.and_eq_false_iff.1 Zu with s | u
             · have s:q.2≠0:=al s
               simp[av,s]
             · have u:q.1.k = -1:=al u
               rw[if_pos u]
               by_cases r2:q.2=0<;>simp[av,r2]] at U
            exact⟨U.re bC,Zc⟩
          ·
           refine GO 7 ?_;intro _ Y;apply a8 (x:=l[i].e.k==1) Y Z 100 rfl 4 104
           case ht=>
            intro Zi;refine GO 4 ?_;intro _ Y;exact ag ⟨Y.midE 3,Z⟩
           case hf=>
            intro Zi;refine GO 4 ?_;intro _ Y;exact ag ⟨Y.midE 3,Z⟩
           case h=>
            rintro Va Qe ⟨Zd,M⟩
            refine ag (ai ?_);refine dY Zd M [(9,ae T)] [10,8,7,6,2] ?_ (fun _ _ Y Z=>?_)
            ·
             refine ak (Zd.ev rfl) (fun Zv=>?_) (fun Zv=>?_)
             ·
              refine GO 3 ?_;intro _ Y;refine sv (v:=pz q.1) Y (ah aa aa (Y.ev rfl) (M.cellsAll (i:=0) rfl)) fun _ Y=>?_;refine sv (v:=cy l[i].e) Y (ah aa aa (Y.ev rfl) (M.cellsAll (i:=2) rfl)) fun _ Y=>?_;refine cQ Y rfl M (xM l _ c i q.1 l[i].e _ ((M.keptM).rd r hr) E hl hc hv H) fun _ _ Y Z=>?_;refine GO 3 ?_;intro _ Y
              rw[show mf l i q.1 l[i].e=T by
               obtain⟨s,u⟩:=Bool.and_eq_true_iff.1 Zv
               rw[Zl,if_pos (al s),if_pos (al u)]] at Y
              exact⟨Y.re bC,Z⟩
             ·
              refine wp_skip (ai ?_)
              rw[show K=T by
               rw[Zl];rcases Bool.and_eq_false_iff.1 Zv with s | u
               · rw[if_neg (al s)]
               · rw[if_neg (show ¬l[i].e.k=1 from al u)]
                 split
                 · assumption
                 · rfl] at Zd
              exact⟨Zd.re bC,M⟩
            ·
             refine ai (aj ?_);apply aK Y (fK 7) _ aa
             case h=>
              refine GO 3 ?_;intro _ Y;refine qv (v:=pz q.1) Y (fun X a=>ah aa aa (Y.ev rfl) ((Z.grow a).cellsAll (i:=0) rfl)) fun _ Y=>?_;refine GO 1 ?_;intro _ Y;refine qv (v:=cy l[i].e) Y (fun X a=>ah aa aa (Y.ev rfl) ((Z.grow a).cellsAll (i:=2) rfl)) fun _ Y=>?_;refine nH Y rfl (fun X a=>tH q.1 l[i].l l[i].e _) fun _ Y=>?_;refine ax ?_;refine aT fun _ Zj Zy=>?_;have Z:=Z.grow Zj;refine jD (wn rfl) ⟨rfl,rfl⟩ Tryz.underlying178 eO (Y.ev rfl) (Y.ev rfl) (Y.ev rfl) Z (i:=3) rfl fun _ Z=>GO 9 ?_;intro _ Y;refine aC Y rfl rfl ?_;refine⟨AB (ct l i) l[i].e.t (wK q.1 l[i].l l[i].e),by unfold ez;rw[if_neg C,if_neg I,if_neg q2,←y,←W],fun _=>by rw[rv E,if_neg I,y],?_⟩;rw[←DX];exact(Z.sub (aB 8))
             case hB=>kernel_rfl
             case hst=>rfl
  case hB=>kernel_rfl
  case hst=>rfl
 case hB=>kernel_rfl
 case hst=>rfl
open Go.RowKit Go.Sort
theorem KeptM.box {m:Nat} {w X:World} (h:KeptM m w X) (hm:∃es d,w.heap[m]? = some (.map es d)) {b:Nat} {cs:Array Value} {T:TypeId} (c:Box w b cs T):Box X b cs T:=by
 obtain⟨es,d,hm⟩:=hm;refine(h.block b c.lt (fun e=>?_)).trans c;have a:w.heap[b]? = some (.cells cs T (0,0)):=c;rw[e,hm] at a
 cases a
structure ChkR (l:List Rcd) (A:Option Addr) (c b1 b4 m:Nat) (w:World):Prop where
 hr:Rd w w.heap.size A (l.flatMap cB)
 hb1:Box w b1 #[.slice A l.length c] 41
 hb4:Box w b4 #[.map (some m)] 178
 hF:FolT w
theorem ChkR.kept {l:List Rcd} {A:Option Addr} {c b1 b4 m:Nat} {w X:World} (h:ChkR l A c b1 b4 m w) (hm:∃es b,w.heap[m]? = some (.map es b)) (a:KeptM m w X):ChkR l A c b1 b4 m X:=
 ⟨a.rd hm h.hr,a.box hm h.hb1,a.box hm h.hb4,a.fol hm h.hF⟩
theorem MapF.ex {m:Nat} {w:World} {g:Int→Option Value} (h:MapF w m g):∃es a,w.heap[m]? = some (.map es a):=by obtain⟨es,a,b,_⟩:=h;exact⟨es,a,b⟩
theorem AS (l:List Rcd) (A:Option Addr) (c:Nat) (i:Nat) (b1 b4 m:Nat) (w:World) (f:ChkR l A c b1 b4 m w) (k:i<l.length) (j:l.length≤1000) (n:l.length≤c) (q:VldH l i) (hm:MapF w m (nE (ct l i))) (hx:∀x∈l,FewE x.e) :
 Calls Tryz.prog 103 #[ae i,iR l[i],.pointer (some ⟨b1,0,none⟩),.pointer (some ⟨b4,0,none⟩)] w fun e p=>∃g,e=.returned (ae (ez l i (ct l i) l[i]))∧(ez l i (ct l i) l[i]=0→g=ct l (i+1))∧St [m] w p [dg m (nE g)]:=by
 refine an (N:=11) Tryz.func103 rfl rfl rfl (fun _ Y=>?_);have Z:=(St.initInv hm (fun b d=>⟨by rw[d];exact List.mem_singleton.2 rfl,by rw[d];exact hm.lt⟩):St [m] w w [dg m (nE (ct l i))]);have a:=hm.ex;refine aj (aq ?_);refine nb Y rfl rfl Z fun s _ _ r Y Z=>GO 5 ?_;intro _ Y;refine sv Y (lx (Y.ev rfl) (((Z.keptM).box a f.hb1).cells 0)) fun _ Y=>?_;refine GO 1 ?_;intro _ Y;refine sv Y (lx (Y.ev rfl) (((Z.keptM).box a f.hb4).cells 0)) fun _ Y=>?_;refine jd Y (wn rfl) (aw a6 (Y.evs rfl) rfl) rfl rfl Z (i:=1) rfl (fun b d=>List.mem_singleton.1 d) (x7 l A c i m _ ((Z.keptM).rd a f.hr) k j n q (Z.at_ (i:=1) rfl) ((Z.keptM).fol a f.hF) hx) fun h _ _ Y o Z=>GO 4 ?_;intro _ Y;refine aC Y rfl rfl ?_;exact⟨h,rfl,o,(Z.sub (aB 2))⟩
theorem AE (l:List Rcd) (A:Option Addr) (c:Nat) (b1 b4 m:Nat) (w:World) (u:ChkR l A c b1 b4 m w) (C:l.length≤1000) (D:l.length≤c) (hm:MapF w m (nE (ct l 0))) (hx:∀x∈l,FewE x.e) :
 Calls Tryz.prog 102 #[.slice A l.length c,.func (.func 103) #[] #[.pointer (some ⟨b1,0,none⟩),.pointer (some ⟨b4,0,none⟩)]] w fun e E=>∃g:Int→Option Chn,e=.returned (.tuple #[ae (df (fun i x=>ez l i (ct l i) x) 0 l).1,ae (df (fun i x=>ez l i (ct l i) x) 0 l).2])∧True∧St [m] w E [dg m (nE g)]:=by
 have n:=hm.ex;refine an (N:=25) Tryz.func102 rfl rfl rfl (fun _ Y=>?_);have Z:=(St.initInv hm (fun b r=>⟨by rw[r];exact List.mem_singleton.2 rfl,by rw[r];exact hm.lt⟩):St [m] w w [dg m (nE (ct l 0))]);refine GO 15 ?_;intro _ Y;refine aV Y Z [10,9,1] (fun (j:Nat)=>[(11,ae j)]) (fun (j:Nat)=>j≤l.length∧∀k (d:k<l.length),k<j→ez l k (ct l k) l[k]=0) (fun j L=>L.set 0 (dg m (nE (ct l j)))) (fun (j:Nat)=>l.length-j) (0) (⟨Nat.zero_le _,fun k _ h=>by omega⟩) bC (Z) ?_;intro j _ _ f Y Z;refine GO 6 ?_;intro _ Y;refine ak (Y.ev rfl) (fun s=>?_) (fun s=>?_)
 ·
  have a:j<l.length:=by have:=of_decide_eq_true s;omega
  obtain⟨b,o,rfl,hB,_⟩:=u.hr.opened (aF aI au ab);have t:VldH l j:=⟨f.1,f.2⟩;refine GO 7 ?_;intro _ Y;refine sv Y (ar (i:=j) (sz:=14) cO aa (Y.ev rfl) (Y.ev rfl) ab ab rfl) fun _ Y=>?_;refine sv (v:=iR l[j]) Y (ah aa aa (Y.ev rfl) (aL aI ((Z.keptM).rd n u.hr) a)) fun _ Y=>?_;refine na (.agg mi) Y rfl Z fun I _ _ H Y Z=>GO 1 ?_;intro _ Y;refine sw Y Z 0 fun _ Z=>?_;refine GO 6 ?_;intro _ Y;refine sv (v:=iR l[j]) Y (ah aa aa (Y.ev rfl) (Z.cellsAll (i:=0) rfl)) fun _ Y=>?_;refine jd Y (wn rfl) (cG a6 (Y.ev rfl) (Y.evs rfl) rfl) rfl rfl Z (i:=1) rfl (fun b r=>List.mem_singleton.1 r) (AS l _ c j b1 b4 m _ (u.kept n Z.keptM) a C D t (Z.at_ (i:=1) rfl) hx) fun y _ _ Y F Z=>GO 9 ?_;intro _ Y;refine ak (Y.ev rfl) (fun p=>?_) (fun p=>?_)
  ·
   refine GO 14 ?_;intro _ Y;refine bU Y rfl rfl rfl ?_;have G:ez l j (ct l j) l[j]≠0:=al p;have z:=dU (fun i x=>ez l i (ct l i) x) l 0 j a (fun k d h=>by rw[Nat.zero_add];exact f.2 k d h) (by rw[Nat.zero_add];exact G);exact⟨y,by rw[z];simp only[Nat.zero_add],trivial,(Z.sub (aB 2))⟩
  ·
   refine GO 8 ?_;intro _ Y;exact⟨j+1,by omega,⟨a,fun k d h=>(Nat.lt_or_ge k j).elim (fun q=>f.2 k d q) (fun q=>by(obtain rfl:k=j:=by omega);simpa using p)⟩,Y.re bC,(F (al p)▸(Z.sub (aB 2)))⟩
 ·
  have B:l.length≤j:=by have:=of_decide_eq_false s;omega
  refine GO 12 ?_;intro _ Y;refine bU Y rfl rfl rfl ?_;exact⟨ct l j,by rw[dx (fun i x=>ez l i (ct l i) x) l 0 (fun k d=>by rw[Nat.zero_add];exact f.2 k d ab)],trivial,(Z.sub (aB 1))⟩
theorem jz (l:List Rcd) (A:Option Addr) (c:Nat) (w:World) (hr:Rd w w.heap.size A (l.flatMap cB)) (g:l.length≤1000) (h:l.length≤c) (hF:FolT w) (hx:∀x∈l,FewE x.e) :
 bu 42 #[.slice A l.length c] w (.tuple #[ae (fh l).1,ae (fh l).2]):=by
 refine an (N:=14) Tryz.func42 rfl rfl rfl (fun _ Y=>?_);have Z:=St.init w;refine aj (aq ?_);refine nb Y rfl rfl Z fun b1 _ _ n Y Z=>GO 12 ?_;intro _ Y;refine ak (Y.ev rfl) (fun d=>?_) (fun d=>?_)
 ·
  have a:100<l.length:=by have:=of_decide_eq_true d;omega
  refine GO 8 ?_;intro _ Y;refine bU Y rfl rfl rfl ?_;exact⟨by unfold fh;rw[if_pos a];(try rfl),Z.below⟩
 ·
  have a:¬100<l.length:=by have:=of_decide_eq_false d;omega
  refine wp_skip (ai (aj (aq ?_)));refine n4 Y (wn rfl) rfl rfl rfl Z fun j _ _ m Y Z=>na (.map none) Y rfl Z fun b4 _ _ p Y Z=>sw Y Z 0 fun _ Z=>?_;refine GO 5 ?_;intro _ Y;refine sv Y (fm (Y.evs rfl) (Y.evs rfl)) fun _ Y=>?_;refine jd Y (wn rfl) (aw a6 (Y.evs rfl) rfl) rfl rfl Z (i:=1) rfl (fun b k=>List.mem_singleton.1 k) (AE l A c b1 b4 j _ ⟨Z.rd0 hr,Z.at_ (i:=2) rfl,Z.at_ (i:=0) rfl,hF.below Z.below⟩ g h (Z.at_ (i:=1) rfl) hx) fun f _ _ Y o Z=>?_;refine GO 7 ?_;intro _ Y;refine bU Y rfl rfl rfl ?_;exact⟨by unfold fh;rw[if_neg a];(try rfl),Z.below⟩
theorem fR (l:List Rcd) (A:Option Addr) (c:Nat) (w:World) (hr:Rd w w.heap.size A (l.flatMap cB)) (b:l.length≤1000) (a:l.length≤c) (hF:FolT w) (hx:∀x∈l,FewE x.e) :
 bu 77 #[.slice A l.length c] w (ae (fh l).2):=by
 refine an (N:=11) Tryz.func77 rfl rfl rfl (fun _ Y=>?_);have Z:=St.init w;refine GO 8 ?_;intro _ Y;refine cQ Y rfl Z (jz l A c _ (Z.rd0 hr) b a (hF.below Z.below) hx) fun _ _ Y Z=>?_;refine GO 14 ?_;intro _ Y;refine aC Y rfl rfl ?_;exact⟨rfl,Z.below⟩
open Go.RowKit Go.Sort
theorem sW {α:Type} {κ:α→Int} {l:List α} {x:α} (h:cH κ (l ++ [x])) (i:Int):cF κ (l ++ [x]) i=if i=κ x then some x else cF κ l i:=by
 unfold cF;rw[List.find?_append];unfold cH at h;rw[List.pairwise_append] at h;by_cases a:i=κ x
 · rw[if_pos a]
   have c:l.find? (fun y=>κ y==i)=none:=by
    rw[List.find?_eq_none];intro y b;have:=h.2.2 y b x (List.mem_singleton.2 rfl);simp;omega
   rw[c,a];simp
 · rw[if_neg a]
   have hx:[x].find? (fun y=>κ y==i)=none:=by
    rw[List.find?_eq_none];intro y b;rw[List.mem_singleton.1 b];simp;omega
   rw[hx]
   cases l.find? (fun y=>κ y==i)<;>rfl
def rT (g:Int→Option Trn):Int→Option Value:=fun i=>(g i).map eX
def sq (g:Int→Option Dty):Int→Option Value:=fun i=>(g i).map iL
theorem E5 {l:List Trn} {x:Trn} (h:cH Trn.i (l ++ [x])):fU (rT (fp l)) x.i (some (eX x))=rT (fp (l ++ [x])):=by
 funext i
 unfold fU rT fp;rw[sW h]
 split<;>rfl
theorem ED {l:List Dty} {x:Dty} (h:cH Dty.g (l ++ [x])):fU (sq (ey l)) x.g (some (iL x))=sq (ey (l ++ [x])):=by
 funext i
 unfold fU sq ey;rw[sW h]
 split<;>rfl
theorem vz {α:Type} {κ:α→Int} {l:List α} (h:cH κ l) (k:Nat):cH κ (l.take k):=List.Pairwise.sublist (List.take_sublist _ _) h
theorem oX (t:Tbl) (A:Option Addr) (c:Nat) (B:Option Addr) (d:Nat) (w:World) (hr:Rd w w.heap.size A (t.ts.flatMap bW)) (x:Rd w w.heap.size B (t.ds.flatMap cN)) (u:SrtT t) (J:t.ts.length≤1000∧t.ds.length≤1000) :
 Calls Tryz.prog 128 #[cc t A c B d] w fun e F=>∃i:Nat × Nat × Nat,e=.returned (.pointer (some ⟨i.1,0,none⟩))∧St [] w F [.box i.1 #[.map (some i.2.1),.map (some i.2.2)] 228,dg i.2.2 (sq (ey t.ds)),dg i.2.1 (rT (fp t.ts))]:=by
 refine an (N:=43) Tryz.func128 rfl rfl rfl (fun _ Y=>?_);have Z:=St.init w;refine aj (aq ?_);refine nb Y rfl rfl Z fun b1 _ _ P Y Z=>GO 5 ?_;intro _ Y;refine n4 Y (wn rfl) rfl rfl rfl Z fun n _ _ H Y Z=>n4 Y (wn rfl) rfl rfl rfl Z fun m _ _ C Y Z=>sv Y (az (zs:=[.map none,.map none]) (pl:=lM) aa aa (Y.evs2 rfl) rfl rfl) fun _ Y=>?_;refine nb Y rfl rfl Z fun l _ y K Y Z=>GO 1 ?_;intro _ Y;replace Z:St [] w y [.box l #[.map (some n),.map (some m)] 228,dg m (sq (ey (t.ds.take 0))),dg n (rT (fp (t.ts.take 0))),.box b1 (cc t A c B d).cells 25]:=Z;refine GO 12 ?_;intro _ Y;refine aV Y Z [14,13,3,2,1] (fun (j:Nat)=>[(15,ae j)]) (fun (j:Nat)=>j≤t.ts.length) (fun j L=>L.set 2 (dg n (rT (fp (t.ts.take j))))) (fun (j:Nat)=>t.ts.length-j) (0) (Nat.zero_le _) bC (Z) ?_;intro j _ _ D Y Z;refine GO 6 ?_;intro _ Y;refine ak (Y.ev rfl) (fun r=>?_) (fun r=>?_)
 ·
  have a:j<t.ts.length:=by have:=of_decide_eq_true r;omega
  obtain⟨b,o,rfl,hB,_⟩:=hr.opened (aF bq au ab)
  have f:fU (rT (fp (t.ts.take j))) t.ts[j].i (some (eX t.ts[j]))=rT (fp (t.ts.take (j+1))):=by
   rw[List.take_succ_eq_append_getElem a];exact E5 (by rw[←List.take_succ_eq_append_getElem a];exact vz u.ts _)
  refine wp_skip (ai (aj (wp_block (aj (aq ?_)))));refine sv Y (ar (i:=j) (sz:=4) dT aa (Y.ev rfl) (Y.ev rfl) ab ab rfl) fun _ Y=>?_;refine sv (v:=eX t.ts[j]) Y (ah aa aa (Y.ev rfl) (aL bq (Z.rd0 hr) a)) fun _ Y=>?_;refine na (.agg lZ) Y rfl Z fun Q _ _ R Y Z=>sw Y Z 0 fun _ Z=>?_;refine ag (ai ?_);apply aK Y (fK 7) _ aa
  case h=>
   refine GO 6 ?_;intro _ Y;refine qv (v:=eX t.ts[j]) Y (fun X s=>ah aa aa (Y.ev rfl) ((Z.grow s).cellsAll (i:=0) rfl)) fun _ Y=>?_;refine ax ?_;refine aT fun _ z M=>?_;have Z:=Z.grow z;refine jD (wn rfl) ⟨rfl,rfl⟩ rG eO (Y.ev rfl) (Y.ev rfl) (Y.ev rfl) Z (i:=3) rfl fun _ Z=>GO 8 ?_;intro _ Y;exact⟨j+1,by omega,a,Y.re bC,(f▸(Z.sub (aB 30)))⟩
  case hB=>kernel_rfl
  case hst=>rfl
 ·
  have p:t.ts.length≤j:=by have:=of_decide_eq_false r;omega
  obtain rfl:j=t.ts.length:=by have:=D;omega
  rw[List.take_length] at Z;refine GO 15 ?_;intro _ Y;refine aV Y Z [29,28,3,2] (fun (k:Nat)=>[(30,ae k)]) (fun (k:Nat)=>k≤t.ds.length) (fun k L=>L.set 1 (dg m (sq (ey (t.ds.take k))))) (fun (k:Nat)=>t.ds.length-k) (0) (Nat.zero_le _) bC (Z) ?_;intro k _ _ E Y Z;refine GO 6 ?_;intro _ Y;refine ak (Y.ev rfl) (fun q=>?_) (fun q=>?_)
  ·
   have a:k<t.ds.length:=by have:=of_decide_eq_true q;omega
   obtain⟨b,o,rfl,hB,_⟩:=x.opened (aF dF au ab)
   have f:fU (sq (ey (t.ds.take k))) t.ds[k].g (some (iL t.ds[k]))=sq (ey (t.ds.take (k+1))):=by
    rw[List.take_succ_eq_append_getElem a];exact ED (by rw[←List.take_succ_eq_append_getElem a];exact vz u.ds _)
   refine wp_skip (ai (aj (wp_block (aj (aq ?_)))));refine sv Y (ar (i:=k) (sz:=3) iy aa (Y.ev rfl) (Y.ev rfl) ab ab rfl) fun _ Y=>?_;refine sv (v:=iL t.ds[k]) Y (ah aa aa (Y.ev rfl) (aL dF (Z.rd0 x) a)) fun _ Y=>?_;refine na (.agg oz) Y rfl Z fun S _ _ O Y Z=>sw Y Z 0 fun _ Z=>?_;refine ag (ai ?_);apply aK Y (fK 7) _ aa
   case h=>
    refine GO 6 ?_;intro _ Y;refine qv (v:=iL t.ds[k]) Y (fun X s=>ah aa aa (Y.ev rfl) ((Z.grow s).cellsAll (i:=0) rfl)) fun _ Y=>?_;refine ax ?_;refine aT fun _ G I=>?_;have Z:=Z.grow G;refine jD (wn rfl) ⟨rfl,rfl⟩ qA eO (Y.ev rfl) (Y.ev rfl) (Y.ev rfl) Z (i:=2) rfl fun _ Z=>GO 8 ?_;intro _ Y;exact⟨k+1,by omega,a,Y.re bC,(f▸(Z.sub (aB 30)))⟩
   case hB=>kernel_rfl
   case hst=>rfl
  ·
   have p:t.ds.length≤k:=by have:=of_decide_eq_false q;omega
   obtain rfl:k=t.ds.length:=by have:=E;omega
   rw[List.take_length] at Z;refine GO 12 ?_;intro _ Y;refine aC Y rfl rfl ?_;exact⟨(l,n,m),rfl,(Z.sub (aB 7))⟩
def pH (f c a:Nat) (t:Tbl):Ent:=.inv (fun b=>b=f∨b=c∨b=a) (fun X=>Box X f #[.map (some c),.map (some a)] 228∧MapF X c (rT (fp t.ts))∧MapF X a (sq (ey t.ds))∧c≠a)
 (fun X X' ⟨j,⟨es,m,l,i⟩,⟨g,e,h3,h⟩,k⟩ d=>⟨(d f (.inl rfl)).trans j,⟨es,m,(d c (.inr (.inl rfl))).trans l,i⟩,⟨g,e,(d a (.inr (.inr rfl))).trans h3,h⟩,k⟩)
theorem D4 {M:List Nat} {w X:World} {f d c:Nat} {t:Tbl} {L:List Ent} (h:St M w X (.box f #[.map (some d),.map (some c)] 228::dg c (sq (ey t.ds))::dg d (rT (fp t.ts))::L)):St M w X (pH f d c t::L):=by
 have g:=h.at_ (i:=0) rfl;have j:=h.at_ (i:=1) rfl;have k:=h.at_ (i:=2) rfl
 have hne:d≠c:=fun e=>by
  have Y:=(List.pairwise_cons.1 (List.pairwise_cons.1 h.sep).2).1 (dg d (rT (fp t.ts))) (List.mem_cons_self) c;exact Y rfl e.symm
 have Y:St M w X (.inv (fun b=>b=f∨b=c) (fun _=>True) (fun _ _ h _=>h)::dg d (rT (fp t.ts))::L):=h.fuse2 (fun b a=>a) trivial
 exact Y.fuse2 (fun b a=>by
  rcases a with a | a | a
  · exact .inl (.inl a)
  · exact .inr a
  · exact .inl (.inr a)) ⟨g,k,j,hne⟩
theorem Dg {t:Tbl} {r:Rcd} (a:r.e.k≠5) (b:r.e.k≠4):fU (rT (fp t.ts)) r.e.t (some (eX (wI t r)))=rT (fp (fH t r).ts):=by
 funext i
 unfold fH;rw[if_neg a];unfold fU rT;show _=(fp (if r.e.k=4 then tV Trn.i t.ts r.e.t else mc Trn.i t.ts (wI t r)) i).map eX;rw[if_neg b];unfold fp;rw[vR];show(if i=r.e.t then _ else _)=(if i=r.e.t then _ else _:Option Trn).map eX
 split<;>rfl
theorem C5 {t:Tbl} {r:Rcd} (a:r.e.k≠5) (b:r.e.k=4):fU (rT (fp t.ts)) r.e.t none=rT (fp (fH t r).ts):=by
 funext i
 unfold fH;rw[if_neg a];unfold fU rT;show _=(fp (if r.e.k=4 then tV Trn.i t.ts r.e.t else mc Trn.i t.ts (wI t r)) i).map eX;rw[if_pos b];unfold fp;rw[BO]
 split<;>rfl
theorem yY {t:Tbl} {r:Rcd} (a:r.e.k≠5):(fH t r).ds=mg t r:=by unfold fH;rw[if_neg a]
theorem D2 {t:Tbl} {r:Rcd} (a:cb r.e=true) (b:ey t.ds r.e.g=none):fU (sq (ey t.ds)) r.e.g (some (iL ⟨r.e.g,r.e.f,r.l⟩))=sq (ey (mg t r)):=by
 funext i
 unfold mg;rw[if_pos ⟨a,b⟩];unfold fU sq ey;rw[vR]
 split<;>rfl
theorem FH {t:Tbl} {r:Rcd} (h:¬(cb r.e=true∧ey t.ds r.e.g=none)):mg t r=t.ds:=by unfold mg;rw[if_neg h]
theorem Ff (t:Tbl) (r:Rcd) (V s m:Nat) (w:World) (hB:Box w V #[.map (some s),.map (some m)] 228) (B:MapF w s (rT (fp t.ts))) (A:MapF w m (sq (ey t.ds))) (hne:s≠m) :
 Calls Tryz.prog 130 #[.pointer (some ⟨V,0,none⟩),ae r.l,cy r.e] w fun e w'=>e=.returned (.tuple #[])∧St [s,m] w w' [dg s (rT (fp (fH t r).ts)),dg m (sq (ey (fH t r).ds))]:=by
 have d:mX w [s,m]:=fun b o=>by
  rcases List.mem_cons.1 o with rfl | o
  · exact B.noCells
  · rw[List.mem_singleton.1 o];exact A.noCells
 refine an (N:=82) Tryz.func130 rfl rfl rfl (fun _ Z=>?_);have U:=St.initM2 B A hne;refine aj (aq ?_);refine nb Z rfl rfl U fun b5 _ _ Zv Z U=>GO 10 ?_;intro _ Z;refine ak (Z.ev rfl) (fun M=>?_) (fun M=>?_)
 ·
  have p:r.e.k=5:=al M
  have S:fH t r=t:=by unfold fH;rw[if_pos p]
  refine wp_ret (eI ?_);refine Gf Z rfl ?_;exact⟨rfl,by rw[S];exact(U.sub (aB 6))⟩
 ·
  have p:r.e.k≠5:=al M;refine wp_skip (ai (aj (aj ?_)));apply eG Z (fun _=>False) [] [(11,124)] [false,false,false,false,false,false,false,false,false,false,true,true] _ aa bG
  case h=>
   refine GO 2 ?_;intro _ Z;refine qv Z (fun X a=>fy 1 (Z.ev rfl)) fun _ Z=>?_;refine qv Z (fun X a=>lx (Z.ev rfl) ((((U.grow (Grw.below a)).keptL).box d hB).cells 1)) fun _ Z=>?_;refine GO 1 ?_;intro _ Z;refine qv Z (fun X a=>lx (Z.ev rfl) ((U.grow (Grw.below a)).cell (i:=0) rfl rfl)) fun _ Z=>?_;refine qv Z (fun X a=>aA (v':=.tuple #[iL ((ey t.ds r.e.g).getD ⟨0,false,0⟩),.bool (ey t.ds r.e.g).isSome]) (by unfold sq;cases ey t.ds r.e.g<;>rfl) (rm (z:=.agg oz) qA eO aa (Z.ev rfl) (Z.ev rfl) ((U.grow (Grw.below a)).at_ (i:=2) rfl))) fun _ Z=>?_;refine GO 4 ?_;intro _ Z;apply cE (O:=(fun _=>False)) (k:=10) (deps:=[]) (R:=NewAny _ 3 _) Z rfl rfl rfl bG NewAny.stable bG (ia NewAny.newT)
   case hx=>exact fun X a K=>kN (dV (z:=.agg oz) aa) a.size rfl
   intro v6 _ Z;apply gF (k:=11) (deps:=[10]) (kx:=10) (x:=6) (y:=21) (Y:=tU _) Z rfl ⟨rfl,rfl⟩ rfl bG ⟨rfl,rfl⟩ rfl jy rfl rfl (n:=3) aa bG
   case hx=>
    intro X a K;exact⟨(aM (k:=10) K rfl rfl),rfl,rfl⟩
   intro C;refine iA (O:=(fun _=>False)) bG fun _ Zh Zi=>?_;obtain⟨b6,rfl,Zq,E⟩:=StoY.val (v:=C) Z rfl (aD Zi (k:=11) rfl);have U:=U.add (Grw.below Zh) (e:=.box _ _ _) E (fun b o=>by cases o;exact⟨Zq,Box.lt E⟩);refine GO 5 ?_;intro _ Z;refine sv (v:=cy r.e) Z (ah aa aa (Z.ev rfl) (U.cellsAll (i:=1) rfl)) fun _ Z=>?_;refine cQ Z rfl U (jR _ _) fun _ _ Z U=>?_;refine GO 1 ?_;intro _ Z;apply a8 (x:=!(ey t.ds r.e.g).isSome) Z U 25 rfl 3 28
   case ht=>
    intro Zj;refine GO 3 ?_;intro _ Z;exact ag ⟨Z.midE 2,U⟩
   case hf=>
    intro Zj;refine GO 3 ?_;intro _ Z;exact ag ⟨Z.midE 2,U⟩
   case h=>
    rintro Jv Zw ⟨J,D⟩
    refine ag (ai ?_);refine ng (F:=True) J D [] [5,0,1] (fun L=>L.set 3 (dg m (sq (ey (mg t r))))) ?_ (fun _ _ Z q j=>?_)
    ·
     refine ak (J.ev rfl) (fun H=>?_) (fun H=>?_)
     ·
      apply aK J (fK 12) _ aa
      case h=>
       refine GO 2 ?_;intro _ Z;refine qv Z (fun X a=>fy 1 (Z.ev rfl)) fun _ Z=>?_;refine qv Z (fun X a=>lx (Z.ev rfl) ((((D.grow a).keptL).box d hB).cells 1)) fun _ Z=>?_;refine GO 7 ?_;intro _ Z;refine qv (v:=iL ⟨r.e.g,r.e.f,r.l⟩) Z (fun X a=>az (zs:=ri) (pl:=fY) aa aa (Z.evs2 rfl) rfl rfl) fun _ Z=>?_;refine ax ?_;refine aT fun _ Zk Zr=>?_;have U:=D.grow Zk;refine jD (wn rfl) ⟨rfl,rfl⟩ qA eO (Z.ev rfl) (Z.ev rfl) (Z.ev rfl) U (i:=3) rfl fun _ U=>ag (ai ?_);have j:=trivial;obtain⟨u1,G⟩:=Bool.and_eq_true_iff.1 H;rw[D2 u1 (by cases hq:ey t.ds r.e.g with | none=>rfl | some y=>rw[hq] at G;cases G)] at U;exact⟨Z.re bC,U,j⟩
      case hB=>kernel_rfl
      case hst=>rfl
     ·
      refine wp_skip (ai ?_);have j:=trivial;have u0:mg t r=t.ds:=FH (fun ⟨u1,G⟩=>by rw[u1,G] at H;cases H)
      have u1:dg m (sq (ey t.ds))=dg m (sq (ey (mg t r))):=by rw[u0]
      rw[u1] at D;exact⟨J.re bC,D,j⟩
    ·
     refine GO 9 ?_;intro _ Z;refine ak (Z.ev rfl) (fun P=>?_) (fun P=>?_)
     ·
      have Q:r.e.k=4:=al P;refine aj ?_;apply aK Z (fK 6) _ aa
      case h=>
       refine GO 2 ?_;intro _ Z;refine qv Z (fun X a=>fy 0 (Z.ev rfl)) fun _ Z=>?_;refine qv Z (fun X a=>lx (Z.ev rfl) ((((q.grow a).keptL).box d hB).cells 0)) fun _ Z=>?_;refine GO 3 ?_;intro _ Z;refine aT fun _ W Zs=>?_;have U:=q.grow W;refine Ar (wn rfl) ⟨rfl,rfl⟩ rG eO (Z.ev rfl) (Z.ev rfl) U (i:=2) rfl fun _ U=>ag (ai (wp_ret (eI ?_)));refine Gf Z rfl ?_;exact⟨rfl,by rw[←C5 p Q,yY p];exact(U.sub (aB 12))⟩
      case hB=>kernel_rfl
      case hst=>rfl
     ·
      have Q:r.e.k≠4:=al P;refine wp_skip (ai (aj ?_));apply aK Z [false,false,false,false,false,false,false,true] _ aa
      case h=>
       refine GO 2 ?_;intro _ Z;refine qv Z (fun X a=>fy 0 (Z.ev rfl)) fun _ Z=>?_;refine qv Z (fun X a=>lx (Z.ev rfl) ((((q.grow a).keptL).box d hB).cells 0)) fun _ Z=>?_;refine GO 2 ?_;intro _ Z;refine qv Z (fun X a=>aA (v':=eX ((fp t.ts r.e.t).getD qD)) (by unfold rT;cases fp t.ts r.e.t<;>rfl) (CU (z:=.agg lZ) rG eO aa (Z.ev rfl) (Z.ev rfl) ((q.grow a).at_ (i:=2) rfl))) fun _ Z=>?_;refine ax ?_;apply eU (k:=7) (deps:=[]) (R:=NewB _ (fun b=>.pointer (some ⟨b,0,none⟩)) _ _) Z rfl rfl rfl NewB.stable (fun X a K=>jm (dV (z:=.agg lZ) aa) a.size);intro v8 _ Z;refine aT fun _ T Zn=>?_;have U:=q.grow T;have I:=aD Zn (k:=7) rfl;obtain⟨b8,rfl,Zt,I⟩:=I;have U:=q.add T (e:=.box _ _ _) I (fun b o=>by cases o;exact⟨Zt,Box.lt I⟩);refine sw Z U 0 fun _ U=>?_;refine GO 6 ?_;intro _ Z;refine sv (v:=pz ⟨0,0,((fp t.ts r.e.t).getD qD).u⟩) Z (az (zs:=lJ) (pl:=fY) aa aa (Z.evs2 rfl) rfl rfl) fun _ Z=>?_;refine GO 1 ?_;intro _ Z;refine sv (v:=cy r.e) Z (ah aa aa (Z.ev rfl) (U.cellsAll (i:=2) rfl)) fun _ Z=>?_;refine cQ Z rfl U (tH ⟨0,0,((fp t.ts r.e.t).getD qD).u⟩ r.l r.e _) fun _ _ Z U=>?_;refine na (.agg rN) Z rfl U fun b9 _ _ Zx Z U=>sw Z U 0 fun _ U=>?_;refine ag (ai ?_);apply aK Z (fK 19) _ aa
       case h=>
        refine GO 2 ?_;intro _ Z;refine qv Z (fun X a=>fy 0 (Z.ev rfl)) fun _ Z=>?_;refine qv Z (fun X a=>lx (Z.ev rfl) ((((U.grow a).keptL).box d hB).cells 0)) fun _ Z=>?_;refine GO 11 ?_;intro _ Z;apply fZ (x:=((fp t.ts r.e.t).getD qD).c) Z 77 rfl 3 80
        case hf=>
         intro Zo;refine GO 3 ?_;intro _ Z;exact ax (Z.midE 2)
        case ht=>
         intro Zo;refine GO 3 ?_;intro _ Z;exact ax (Z.midE 2)
        case h=>
         intro _ Z;refine qv (v:=eX (wI t r)) Z (fun X a=>az (zs:=oJ) (pl:=yH) aa aa (Z.evs2 rfl) rfl rfl) fun _ Z=>?_;refine ax ?_;refine aT fun _ Zp Zu=>?_;have U:=U.grow Zp;refine jD (wn rfl) ⟨rfl,rfl⟩ rG eO (Z.ev rfl) (Z.ev rfl) (Z.ev rfl) U (i:=4) rfl fun _ U=>ag ?_;refine Iw Z rfl ?_;exact⟨rfl,by rw[←Dg p Q,yY p];exact(U.sub (aB 48))⟩
       case hB=>kernel_rfl
       case hst=>rfl
      case hB=>kernel_rfl
      case hst=>rfl
  case hB=>kernel_rfl
end Go.Proofs.YtcfdpfmchchkaaaGreatDoor
