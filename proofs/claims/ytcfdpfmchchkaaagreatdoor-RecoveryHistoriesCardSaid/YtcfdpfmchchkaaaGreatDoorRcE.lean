/-
  Chapter 22: what the error of a record is made of.
  Chapter 22: the error of a record.
  Chapter 22: the error of a record.
  Chapter 22: the error of a history.
  A drawn region whose head writes into blocks that stand (one operation) and into boxes that it makes itself (stores). No program in sight.
  Chapter 22: a table by numbers.
-/
import Derived.Test.YtcfdpfmchchkaaaGreatDoorRcC
import Derived.Test.YtcfdpfmchchkaaaGreatDoorOpEnt3
namespace Go.Proofs.YtcfdpfmchchkaaaGreatDoor
set_option maxHeartbeats 2000000
set_option maxRecDepth 4000
set_option linter.unusedVariables false
set_option linter.unusedSimpArgs false
open Go.RowKit Go.Sort
def l8 (c:Chn):Value:=.agg #[.int .i64 c.l,.int .i64 c.k,.int .i64 c.u]
theorem oK (c:Chn) (n:Int) (x:Lge) (w:World) :
 Calls Tryz.prog 159 #[l8 c,.int .i64 n,dM x] w fun e w'=>e=.returned (l8 (rK c n x))∧Below w.heap.size w w':=by
 refine ao (N:=24) Tryz.func159 rfl rfl rfl (fun _ Y=>?_);have Z:=St.init w;refine ak (av ?_);refine nb Y rfl rfl Z fun b3 _ _ Ze Y Z=>?_;refine nb Y rfl rfl Z fun b5 _ _ Zf Y Z=>?_;refine na (.agg #[.int .i64 0,.int .i64 0,.int .i64 0]) Y rfl Z fun b6 _ _ Zg Y Z=>?_;refine ae (ag (ak ?_));apply zq (m:=4) Y (St.domAt Z (i:=2) rfl) 0 [false,false,false,false,true] _ aa
 case h=>
  refine GO 2 ?_;intro _ Y;refine qv Y (fun X hX=>lx (Y.ev rfl) ((Z.growO (i:=2) rfl hX).cell (i:=1) rfl rfl)) fun _ Y=>?_;refine GO 2 ?_;intro _ Y;apply yP (k:=4) (deps:=[]) (R:=IsBox _ _ _) Y rfl rfl IsBox.stable (fun X hX hΦ=>ru rfl (Y.ev rfl) (Y.ev rfl) rfl aa ((Z.grow hX).at_ (i:=2) rfl) rfl rfl);intro vs4;refine Dc fun _ Zc Zd=>?_;have Z:=Z.growBox (i:=2) (v:=vs4) rfl Zc (bC Zd (k:=4) rfl);refine GO 1 ?_;intro _ Y;refine cq Y (wn rfl) ⟨rfl,rfl⟩ (Y.ev rfl) (Y.ev rfl) rfl aa Z (i:=2) rfl rfl rfl fun _ Z=>?_;refine GO 16 ?_;intro _ Y;refine ar (Y.ev rfl) (fun Za=>?_) (fun Za=>?_)
  ·
   refine GO 3 ?_;intro _ Y;refine cq Y (wn rfl) ⟨rfl,rfl⟩ (Y.ev rfl) (Y.ev rfl) rfl aa Z (i:=2) rfl rfl rfl fun _ Z=>?_;refine ae (eH (ag (ak (av ?_))));refine sv Y (ah aa aa (Y.ev rfl) (Z.cellsAll (i:=2) rfl)) fun _ Y=>?_;refine sw Y Z 0 fun _ Z=>?_;refine ae (ag (wp_ret ?_));refine vR Y rfl rfl Z (i:=0) rfl aa aa ?_
   have hk:x.k=0:=by simpa using Za
   exact⟨by unfold rK;rw[if_pos hk];rfl,Z.below⟩
  ·
   refine GO 6 ?_;intro _ Y;refine ar (Y.ev rfl) (fun Zb=>?_) (fun Zb=>?_)
   ·
    refine GO 4 ?_;intro _ Y;refine cq Y (wn rfl) ⟨rfl,rfl⟩ (Y.ev rfl) (Y.ev rfl) rfl aa Z (i:=2) rfl rfl rfl fun _ Z=>?_;refine ae (eH (ag (ak (av ?_))));refine sv Y (ah aa aa (Y.ev rfl) (Z.cellsAll (i:=2) rfl)) fun _ Y=>?_;refine sw Y Z 0 fun _ Z=>?_;refine ae (ag (wp_ret ?_));refine vR Y rfl rfl Z (i:=0) rfl aa aa ?_
    have hk:x.k≠0:=by simpa using Za
    have hk1:x.k=1:=by simpa using Zb
    exact⟨by unfold rK;rw[if_neg hk,if_pos hk1];rfl,Z.below⟩
   ·
    refine wp_skip (eH (ag (ak (av ?_))));refine sv Y (ah aa aa (Y.ev rfl) (Z.cellsAll (i:=2) rfl)) fun _ Y=>?_;refine sw Y Z 0 fun _ Z=>?_;refine ae (ag (wp_ret ?_));refine vR Y rfl rfl Z (i:=0) rfl aa aa ?_
    have hk:x.k≠0:=by simpa using Za
    have hk1:x.k≠1:=by simpa using Zb
    exact⟨by unfold rK;rw[if_neg hk,if_neg hk1];rfl,Z.below⟩
 case hB=>kernel_rfl
 case hst=>rfl
theorem sg {h0 m:Int} {x:Lge} {b:Bool} (hm:(if b=true then 0 else h0-1)=m) (h:x.p>m):gv h0 x b=(⟨0,0,0⟩,14):=by unfold gv;rw[if_pos (by rw[hm];exact h)]
theorem Ai {h0 m:Int} {x:Lge} {b:Bool} (hm:(if b=true then 0 else h0-1)=m) (h:¬x.p>m) (hp:x.p≠0):gv h0 x b=(⟨x.p,-1,-1⟩,0):=by unfold gv;rw[if_neg (by rw[hm];exact h),if_pos hp]
theorem Al {h0 m:Int} {x:Lge} {b:Bool} (hm:(if b=true then 0 else h0-1)=m) (h:¬x.p>m) (hp:x.p=0):gv h0 x b=(⟨x.p,0,0⟩,0):=by unfold gv;rw[if_neg (by rw[hm];exact h),if_neg (by rw[hp];decide)]
theorem xK (l:List Rcd) (A:Option Addr) (c:Nat) (x:Lge) (b:Bool) (w:World) (hr:Rd w w.heap.size A (l.flatMap bJ)) (hn:0<l.length) (hb:1≤dk l∧dk l≤2147483647) :
 Calls Tryz.prog 156 #[.slice A l.length c,dM x,.bool b] w fun e w'=>e=.returned (.tuple #[l8 (gv (dk l) x b).1,.int .i64 (gv (dk l) x b).2])∧Below w.heap.size w w':=by
 have hf:=fM hn;rw[hf] at hb;obtain⟨b',o',rfl,hB,_⟩:=hr.opened (aO aH aq hn);refine ao (N:=30) Tryz.func156 rfl rfl rfl (fun _ Y=>?_);have Z:=St.init w;refine ak (av ?_);refine nb Y rfl rfl Z fun b4 _ _ Zf h1 Z=>?_;refine na (.agg #[.int .i64 0,.int .i64 0,.int .i64 0]) h1 rfl Z fun b6 _ _ Zg h2 Z=>?_;refine GO 6 ?_;intro _ Y;refine sv Y (aw (i:=0) (sz:=14) Tryz.underlying180 aa (Y.ev rfl) (Y.ev rfl) ab ab rfl) fun _ Y=>?_;refine sv Y (fy 0 (Y.ev rfl)) fun _ Y=>?_;refine sv Y (lx (Y.ev rfl) ((bb aH (Z.rd0 hr) hn) 0 _ rfl)) fun _ Y=>?_;refine GO 10 ?_;intro _ Y;refine ar (Y.ev rfl) (fun Zc=>?_) (fun Zc=>?_)
 ·
  subst Zc;refine GO 13 ?_;intro _ Zd;refine ar (Zd.ev rfl) (fun Za=>?_) (fun Za=>?_)
  ·
   have h1:=of_decide_eq_true Za;refine ak (av ?_);refine sv Zd (aT (zs:=[.int .i64 0,.int .i64 0,.int .i64 0]) (pl:=[(0,1),(1,1),(2,1)]) aa aa (Zd.evs2 rfl) rfl rfl) fun _ Y=>?_;refine sw Y Z 0 fun _ Z=>?_;refine GO 5 ?_;intro _ Y;refine dX Y rfl rfl rfl Z (i:=0) rfl aa aa ?_;exact⟨by rw[sg (m:=0) rfl h1];rfl,Z.below⟩
  ·
   have h1:=of_decide_eq_false Za;refine GO 6 ?_;intro _ Y;refine sv Y (aT (zs:=[.int .i64 0,.int .i64 0,.int .i64 0]) (pl:=[(0,1),(1,1),(2,1)]) aa aa (Y.evs2 rfl) rfl rfl) fun _ Y=>?_;refine na (.agg #[.int .i64 0,.int .i64 0,.int .i64 0]) Y rfl Z fun b9 _ _ Ze Y Z=>?_;refine sw Y Z 0 fun _ Z=>?_;refine GO 10 ?_;intro _ Y;refine ar (Y.ev rfl) (fun Zb=>?_) (fun Zb=>?_)
   ·
    have h2:x.p≠0:=by simpa using Zb
    refine GO 2 ?_;intro _ Y;refine cq Y (wn rfl) ⟨rfl,rfl⟩ (Y.ev rfl) (Y.ev rfl) rfl aa Z (i:=0) rfl rfl rfl fun _ Z=>?_;refine GO 1 ?_;intro _ Y;refine cq Y (wn rfl) ⟨rfl,rfl⟩ (Y.ev rfl) (Y.ev rfl) rfl aa Z (i:=0) rfl rfl rfl fun _ Z=>?_;refine uW ?_;refine sv Y (ah aa aa (Y.ev rfl) (Z.cellsAll (i:=0) rfl)) fun _ Y=>?_;refine sw Y Z 1 fun _ Z=>?_;refine GO 4 ?_;intro _ Y;refine dX Y rfl rfl rfl Z (i:=1) rfl aa aa ?_;exact⟨by rw[Ai (m:=0) rfl h1 h2];rfl,Z.below⟩
   ·
    have h2:x.p=0:=by simpa using Zb
    refine wp_skip (ag (ak (av ?_)));refine sv Y (ah aa aa (Y.ev rfl) (Z.cellsAll (i:=0) rfl)) fun _ Y=>?_;refine sw Y Z 1 fun _ Z=>?_;refine GO 4 ?_;intro _ Y;refine dX Y rfl rfl rfl Z (i:=1) rfl aa aa ?_;exact⟨by rw[Al (m:=0) rfl h1 h2];rfl,Z.below⟩
 ·
  subst Zc;refine GO 11 ?_;intro _ Y;refine ar (Y.ev rfl) (fun Za=>?_) (fun Za=>?_)
  ·
   have h1:=of_decide_eq_true Za;refine ak (av ?_);refine sv Y (aT (zs:=[.int .i64 0,.int .i64 0,.int .i64 0]) (pl:=[(0,1),(1,1),(2,1)]) aa aa (Y.evs2 rfl) rfl rfl) fun _ Y=>?_;refine sw Y Z 0 fun _ Z=>?_;refine GO 5 ?_;intro _ Y;refine dX Y rfl rfl rfl Z (i:=0) rfl aa aa ?_;exact⟨by rw[sg (m:=l[0].l-1) (by rw[hf];rfl) h1];rfl,Z.below⟩
  ·
   have h1:=of_decide_eq_false Za;refine GO 6 ?_;intro _ Y;refine sv Y (aT (zs:=[.int .i64 0,.int .i64 0,.int .i64 0]) (pl:=[(0,1),(1,1),(2,1)]) aa aa (Y.evs2 rfl) rfl rfl) fun _ Y=>?_;refine na (.agg #[.int .i64 0,.int .i64 0,.int .i64 0]) Y rfl Z fun b9 _ _ Ze Y Z=>?_;refine sw Y Z 0 fun _ Z=>?_;refine GO 10 ?_;intro _ Y;refine ar (Y.ev rfl) (fun Zb=>?_) (fun Zb=>?_)
   ·
    have h2:x.p≠0:=by simpa using Zb
    refine GO 2 ?_;intro _ Y;refine cq Y (wn rfl) ⟨rfl,rfl⟩ (Y.ev rfl) (Y.ev rfl) rfl aa Z (i:=0) rfl rfl rfl fun _ Z=>?_;refine GO 1 ?_;intro _ Y;refine cq Y (wn rfl) ⟨rfl,rfl⟩ (Y.ev rfl) (Y.ev rfl) rfl aa Z (i:=0) rfl rfl rfl fun _ Z=>?_;refine uW ?_;refine sv Y (ah aa aa (Y.ev rfl) (Z.cellsAll (i:=0) rfl)) fun _ Y=>?_;refine sw Y Z 1 fun _ Z=>?_;refine GO 4 ?_;intro _ Y;refine dX Y rfl rfl rfl Z (i:=1) rfl aa aa ?_;exact⟨by rw[Ai (m:=l[0].l-1) (by rw[hf];rfl) h1 h2];rfl,Z.below⟩
   ·
    have h2:x.p=0:=by simpa using Zb
    refine wp_skip (ag (ak (av ?_)));refine sv Y (ah aa aa (Y.ev rfl) (Z.cellsAll (i:=0) rfl)) fun _ Y=>?_;refine sw Y Z 1 fun _ Z=>?_;refine GO 4 ?_;intro _ Y;refine dX Y rfl rfl rfl Z (i:=1) rfl aa aa ?_;exact⟨by rw[Al (m:=l[0].l-1) (by rw[hf];rfl) h1 h2];rfl,Z.below⟩
theorem jZ (x:Lge) (w:World) (hd:x.d.size≤100000) :
 Calls Tryz.prog 155 #[dM x] w fun e w'=>e=.returned (.int .i64 (CP x))∧Below w.heap.size w w':=by
 refine ao (N:=20) Tryz.func155 rfl rfl rfl (fun _ Y=>?_);have Z:=St.init w;refine ak (av ?_);refine nb Y rfl rfl Z fun b1 _ _ Ze Y Z=>?_;refine GO 10 ?_;intro _ Y;apply cZ Y Z 8 rfl 4 12
 case hf=>
  intro Zd;refine GO 4 ?_;intro _ Y;exact ae ⟨Y.midE 3,Z⟩
 case ht=>
  intro Zd;refine GO 4 ?_;intro _ Y;exact ae ⟨Y.midE 3,Z⟩
 case h=>
  rintro a15 Zf ⟨Zb,Zc⟩
  refine ae (ag ?_);refine ar (Zb.ev rfl) (fun Za=>?_) (fun Za=>?_)
  ·
   refine GO 7 ?_;intro _ Y;refine aP Y rfl rfl ?_
   have Y:x.t≠0∨x.p≠0:=by simpa using Za
   exact⟨by unfold CP;rw[if_pos Y];(try rfl),Zc.below⟩
  ·
   refine wp_skip (ag (ak (av ?_)));refine vf Zb 12 12 fun _ Y=>?_;refine GO 1 ?_;intro _ Y;refine db Y (wn rfl) (aC br (Y.evs rfl) rfl) rfl rfl Zc (lF (bl x.d) _ hd) fun p16 _ _ Y Z=>?_;refine GO 1 ?_;intro _ Y;refine sv (v:=cH (cX (bl x.d)) p16.1 p16.2.1 p16.2.2.1 p16.2.2.2) Y (bN (Y.ev rfl) rfl) fun _ Y=>?_;refine GO 1 ?_;intro _ Y;refine na (.agg #[.slice none 0 0,.slice none 0 0]) Y rfl Z fun b3 _ _ Zg Y Z=>?_;refine sw Y Z 0 fun _ Z=>?_;refine GO 10 ?_;intro _ Y;refine aP Y rfl rfl ?_
   have Y:¬(x.t≠0∨x.p≠0):=by simpa using Za
   exact⟨by unfold CP;rw[if_neg Y];(try rfl),Z.below⟩
theorem VldH.srt {l:List Rcd} {i:Nat} (h:VldH l i):cj Rcd.l (l.take i):=by
 refine List.pairwise_iff_getElem.2 fun j k hj hk hjk=>?_;have h1:=h.1;rw[List.length_take] at hj hk;rw[List.getElem_take,List.getElem_take];exact h.lt hjk ab
theorem yQ (x y:Op):lh [.int .i64 x.k,.int .i64 x.a,.int .i64 x.e,.int .i64 x.c,.string x.o,.string x.n] [.int .i64 y.k,.int .i64 y.a,.int .i64 y.e,.int .i64 y.c,.string y.o,.string y.n]=decide (x=y):=by
 obtain⟨k,a,e,c,o,n⟩:=x;obtain⟨k',a',e',c',o',n'⟩:=y;rw[Bool.eq_iff_iff,decide_eq_true_eq];simp[lh,tW]
theorem ve {x:Lge} (h:dC x=0):dp x.o=0:=by
 unfold dC at h;rw[aX] at h;exact h _ (.tail _ (.tail _ (.tail _ (.tail _ (.head _)))))
theorem Rd.takeF {α:Type} {f:α→List Value} {n:Nat} (hf:∀x,(f x).length=n) {w:World} {B:Nat} {A:Option Addr} {l:List α} (h:Rd w B A (l.flatMap f)) (k:Nat):Rd w B A ((l.take k).flatMap f):=fun j u hj=>by
 rw[←xH hf,List.getElem?_take] at hj
 split at hj
 · exact h j u hj
 · cases hj
theorem tR (l:List Rcd) (A:Option Addr) (c:Nat) (i:Nat) (ch:Chn) (x:Lge) (w:World) (hr:Rd w w.heap.size A (l.flatMap bJ)) (hi:i<l.length) (hl:l.length≤1000) (hc:l.length≤c) (hv:VldH l i) (hb0:1≤dk l∧dk l≤2147483647) :
 Calls Tryz.prog 158 #[.slice A l.length c,.int .i64 i,l8 ch,dM x] w fun e w'=>e=.returned (.int .i64 (jK l i ch x))∧Below w.heap.size w w':=by
 have hs:=hv.srt;have hf:=fM (l:=l) ab
 have hlt:(l.take i).length=i:=by rw[List.length_take];omega
 have hrt:Rd w w.heap.size A ((l.take i).flatMap bJ):=hr.takeF aH i;obtain⟨b',o',rfl,hB,_⟩:=hr.opened (aO aH aq ab);refine ao (N:=80) Tryz.func158 rfl rfl rfl (fun _ Y=>?_);have Z:=St.init w;refine ak (av ?_);refine nb Y rfl rfl Z fun b6 _ _ Zn Y Z=>?_;refine nb Y rfl rfl Z fun b7 _ _ Zo Y Z=>?_;refine GO 11 ?_;intro _ Y;refine ar (Y.ev rfl) (fun Zb=>?_) (fun Zb=>?_)
 ·
  have hu:ch.u=0:=by simpa using Zb
  refine GO 7 ?_;intro _ Y;refine aP Y rfl rfl ?_;exact⟨by unfold jK;rw[if_pos hu],Z.below⟩
 ·
  have hu:ch.u≠0:=by simpa using Zb
  refine wp_skip (ag (ak ?_));apply aU Y (gB 5) _ aa
  case h=>
   refine GO 2 ?_;intro _ Y;refine qv Y (fun X hX=>gG (l:=0) (h:=i) (sz:=14) Tryz.underlying180 aa (Y.ev rfl) rfl (Y.ev rfl) ab ab (.inr rfl) rfl) fun _ Y=>?_;refine GO 3 ?_;intro _ Y;refine bc fun _ Zc Zk=>?_;have Z:=Z.grow Zc;refine dz Y rfl Z (hlt▸lf (l.take i) hs _ c ch.u _ (Z.rd0 hrt) ab) fun _ _ Y Z=>?_;refine GO 7 ?_;intro _ Y;refine sv Y (mn Tryz.underlying219 aa (Y.ev rfl) (Y.ev rfl)) fun _ Y=>?_;refine ae (ag ?_);refine ar (Y.ev rfl) (fun Zd=>?_) (fun Zd=>?_)
   ·
    have hn:=oV Zd;refine ak ?_;apply aU Y (gB 6) _ aa
    case h=>
     refine GO 3 ?_;intro _ Y;refine qv Y (fun X hX=>aw (i:=0) (sz:=14) Tryz.underlying180 aa (Y.ev rfl) (Y.ev rfl) ab ab rfl) fun _ Y=>?_;refine qv Y (fun X hX=>fy 0 (Y.ev rfl)) fun _ Y=>?_;refine qv Y (fun X hX=>lx (Y.ev rfl) ((bb aH ((Z.grow hX).rd0 hr) (show 0<l.length by omega)) 0 _ rfl)) fun _ Y=>?_;refine aA ?_;refine bc fun _ Ze Zl=>?_;have Z:=Z.grow Ze;refine GO 1 ?_;intro _ Y;refine ey Y rfl (aN _ _ _) fun _ Y=>?_;refine GO 5 ?_;intro _ Y;refine aP Y rfl rfl ?_;exact⟨by unfold jK;rw[if_neg hu,hn,hf],Z.below⟩
    case hB=>kernel_rfl
    case hst=>rfl
   ·
    obtain⟨qk,q1,q2,q3⟩:=oY hs Zd;rw[show k9 (some ⟨b',o',none⟩) (l.take i) ch.u=some ⟨b',o'+iG Rcd.l (l.take i) ch.u*14+1,none⟩ from q3] at Y;generalize iG Rcd.l (l.take i) ch.u=k at qk q1 q2 q3 Y
    have hki:k<i:=by omega
    have hge:(l.take i)[k]=l[k]'ab:=List.getElem_take ..
    have hoE:dp (l.take i)[k].e.o=0:=by rw[hge];exact ve (hv.e0 hki).2.2
    refine GO 6 ?_;intro _ Y;refine sv Y (fy 6 (Y.ev rfl)) fun _ Y=>?_;refine sv (v:=gA (l.take i)[k].e.o) Y (ah aa aa (Y.ev rfl) (Dh (Z.rd0 hrt) qk)) fun _ Y=>?_;refine dz Y rfl Z (th (l.take i)[k].e.o _ hoE) fun _ _ Y Z=>?_;refine GO 3 ?_;intro _ Y;refine na (.agg #[.int .i64 0,.int .i64 0,.int .i64 0,.int .i64 0,.string ⟨#[]⟩,.string ⟨#[]⟩]) Y rfl Z fun b10 _ _ Zm Y Z=>?_;refine sw Y Z 0 fun _ Z=>?_;refine GO 4 ?_;intro _ Y;apply aU Y (gB 38) _ aa
    case h=>
     refine GO 2 ?_;intro _ Y;refine qv Y (fun X hX=>fy 0 (Y.ev rfl)) fun _ Y=>?_;refine qv Y (fun X hX=>lx (Y.ev rfl) ((eF ((Z.grow hX).rd0 hrt) qk) 0 _ rfl)) fun _ Y=>?_;refine GO 2 ?_;intro _ Y;apply jI Y 45 rfl 8 53
     case ht=>
      intro Zf;refine GO 4 ?_;intro _ Y;refine qy Y (fun X hX=>(fy 2 (Y.ev rfl))) fun _ Y=>?_;refine qy Y (fun X hX=>(lx (Y.ev rfl) ((eF ((Z.grow hX).rd0 hrt) qk) 2 _ rfl))) fun _ Y=>?_;refine GO 2 ?_;intro _ Y;exact aA (Y.midE 7)
     case hf=>
      intro Zf;refine GO 8 ?_;intro _ Y;exact aA (Y.midE 7)
     case h=>
      intro _ Y;refine GO 1 ?_;intro _ Y;apply jI Y 54 rfl 8 62
      case ht=>
       intro Zg;refine GO 4 ?_;intro _ Y;refine qy Y (fun X hX=>(fy 4 (Y.ev rfl))) fun _ Y=>?_;refine qy Y (fun X hX=>(lx (Y.ev rfl) ((eF ((Z.grow hX).rd0 hrt) qk) 4 _ rfl))) fun _ Y=>?_;refine GO 2 ?_;intro _ Y;exact aA (Y.midE 7)
      case hf=>
       intro Zg;refine GO 8 ?_;intro _ Y;exact aA (Y.midE 7)
      case h=>
       intro _ Y;refine GO 1 ?_;intro _ Y;apply jI Y 63 rfl 8 71
       case ht=>
        intro Zh;refine GO 4 ?_;intro _ Y;refine qy Y (fun X hX=>(fy 5 (Y.ev rfl))) fun _ Y=>?_;refine qy Y (fun X hX=>(lx (Y.ev rfl) ((eF ((Z.grow hX).rd0 hrt) qk) 5 _ rfl))) fun _ Y=>?_;refine qy Y (fun X hX=>(vh Tryz.underlying4 (Y.ev rfl) (Y.ev rfl))) fun _ Y=>?_;refine GO 1 ?_;intro _ Y;exact aA (Y.midE 7)
       case hf=>
        intro Zh;refine GO 8 ?_;intro _ Y;exact aA (Y.midE 7)
       case h=>
        intro _ Y;refine GO 1 ?_;intro _ Y;apply jI Y 72 rfl 5 77
        case ht=>
         intro Zi;refine GO 1 ?_;intro _ Y;refine qy Y (fun X hX=>(ah aa aa (Y.ev rfl) ((Z.grow hX).cellsOf (i:=1) rfl 6 6))) fun _ Y=>?_;refine qy Y (fun X hX=>(ah aa aa (Y.ev rfl) ((Z.grow hX).cellsAll (i:=0) rfl))) fun _ Y=>?_;refine qy Y (fun X hX=>(uY (ks:=[.i .i64,.i .i64,.i .i64,.i .i64,.s,.s]) aa Tryz.underlying141 aa (Y.ev rfl) (Y.ev rfl) rfl rfl)) fun _ Y=>?_;refine GO 1 ?_;intro _ Y;exact aA (Y.midE 4)
        case hf=>
         intro Zi;refine GO 5 ?_;intro _ Y;exact aA (Y.midE 4)
        case h=>
         intro _ Y;refine aA ?_;refine bc fun _ Za Zj=>?_;have Z:=Z.grow Za;refine GO 6 ?_;intro _ Y;refine ey Y rfl (aN _ _ _) fun _ Y=>?_;refine GO 4 ?_;intro _ Y;refine aP Y rfl rfl ?_;refine⟨?_,Z.below⟩;have e:=yQ x.o (jD (l.take i)[k].e.o);unfold jK;rw[if_neg hu,q2];show _=Ending.returned (.int .i64 (aS (_&&_&&_&&_&&decide (x.o=jD (l.take i)[k].e.o)) 13));rw[←e];rfl
    case hB=>kernel_rfl
    case hst=>rfl
  case hB=>kernel_rfl
  case hst=>rfl
open Go.RowKit Go.Sort
def Cm:List Int→Int→Nat→Int
 | [],_,_=>-1
 | x::r,v,k=>if v=x then k else Cm r v (k+1)
theorem uI:∀(l:List Int) (v:Int) (k:Nat),decide (Cm l v k≥0)=l.any fun x=>x==v
 | [],v,k=>rfl
 | x::r,v,k=>by
  unfold Cm;rw[List.any_cons];by_cases h:v=x
  · rw[if_pos h,decide_eq_true ab,show(x==v)=true by rw[h];exact beq_self_eq_true x];rfl
  · rw[if_neg h,uI r v (k+1),show(x==v)=false by rw[beq_eq_false_iff_ne];exact fun e=>h e.symm];rfl
theorem C1 {X:World} {B b o k:Nat} {l:List Int} (hr:Rd X B (some ⟨b,o,none⟩) (l.map (.int .i64))) (hk:k<l.length):∀(j:Nat) (u:Value),[Value.int .i64 l[k]][j]? = some u→X.cell? ⟨b,o+k*1+j,none⟩=some u
 | 0,u,hu=>by
  obtain⟨b',o',e,_,hc⟩:=hr k u (by rw[List.getElem?_map,List.getElem?_eq_getElem hk];exact hu);injection e with e;injection e with e1 e2;subst e1 e2;rw[Nat.mul_one,Nat.add_zero];exact hc
 | j+1,u,hu=>by simp at hu
theorem wJ (l:List Int) (A:Option Addr) (c:Nat) (v:Int) (w:World) (hr:Rd w w.heap.size A (l.map (.int .i64))) (hl:l.length≤1000) :
 Calls Tryz.prog 218 #[.slice A l.length c,.int .i64 v] w fun e w'=>e=.returned (.int .i64 (Cm l v 0))∧Below w.heap.size w w':=by
 refine ao (N:=19) Tryz.func218 rfl rfl rfl (fun _ Y=>?_);have Z:=St.init w;refine GO 14 ?_;intro _ Y;refine bh Y Z [7,0,1] (fun (j:Nat)=>[(8,.int .i64 j)]) (fun (j:Nat)=>j≤l.length∧Cm l v 0=Cm (l.drop j) v j) (fun (j:Nat) L=>L) (fun (j:Nat)=>l.length-j) (0) (⟨Nat.zero_le _,rfl⟩) bW (Z) ?_;intro j _ _ Za Y Z;refine GO 6 ?_;intro _ Y;refine ar (Y.ev rfl) (fun Zb=>?_) (fun Zb=>?_)
 ·
  have hlt:j<l.length:=by have:=of_decide_eq_true Zb;omega
  obtain⟨b,o,rfl,hB,hcc⟩:=hr.opened (by rw[List.length_map];omega);have hd:l.drop j=l[j]::l.drop (j+1):=List.drop_eq_getElem_cons hlt;refine GO 15 ?_;intro _ Y;refine sv Y (aw (i:=j) (sz:=1) Tryz.underlying53 aa (Y.ev rfl) (Y.ev rfl) ab ab rfl) fun _ Y=>?_;refine sv Y (lx (Y.ev rfl) ((C1 (Z.rd0 hr) hlt) 0 _ rfl)) fun _ Y=>?_;refine GO 3 ?_;intro _ Y;refine ar (Y.ev rfl) (fun Zc=>?_) (fun Zc=>?_)
  ·
   refine GO 12 ?_;intro _ Y;refine aP Y rfl rfl ?_;exact⟨by rw[Za.2,hd,Cm,if_pos (by simpa using Zc)],Z.below⟩
  ·
   refine GO 8 ?_;intro _ Y;exact⟨j+1,by omega,⟨hlt,by rw[Za.2,hd,Cm,if_neg (by simpa using Zc)]⟩,Y.re bW,Z⟩
 ·
  have hge:l.length≤j:=by have:=of_decide_eq_false Zb;omega
  refine GO 11 ?_;intro _ Y;refine aP Y rfl rfl ?_;exact⟨by rw[Za.2,List.drop_of_length_le hge];rfl,Z.below⟩
theorem p3 (l:List Int) (A:Option Addr) (c:Nat) (v:Int) (w:World) (hr:Rd w w.heap.size A (l.map (.int .i64))) (hl:l.length≤1000) :
 Calls Tryz.prog 157 #[.slice A l.length c,.int .i64 v] w fun e w'=>e=.returned (.bool (l.any fun x=>x==v))∧Below w.heap.size w w':=by
 refine ao (N:=9) Tryz.func157 rfl rfl rfl (fun _ Y=>?_);have Z:=St.init w;refine GO 9 ?_;intro _ Y;refine dz Y rfl Z (wJ l A c v _ (Z.rd0 hr) hl) fun _ _ Y Z=>?_;refine GO 5 ?_;intro _ Y;refine aP Y rfl rfl ?_;exact⟨by rw[←uI l v 0],Z.below⟩
open Go.RowKit Go.Sort
structure FolT (w:World):Prop where
 cells:∀k:Nat,k<6→∃A c,w.cell? ⟨0,k,none⟩=some (.slice A (tI k).length c)∧Rd w w.heap.size A ((tI k).map (.int .i64))
theorem FolT.below {w w':World} (h:FolT w) (hb:Below w.heap.size w w'):FolT w':=⟨fun k hk=>by
 obtain⟨A,c,h1,h2⟩:=h.cells k hk
 exact⟨A,c,(hb.cell (p:=⟨0,k,none⟩) (block_lt_of_cell h1)).trans h1,h2.below' hb⟩⟩
structure KeptM (m:Nat) (w X:World):Prop where
 size:w.heap.size≤X.heap.size
 block:∀b,b<w.heap.size→b≠m→X.heap[b]? = w.heap[b]?
theorem St.keptM {m:Nat} {w X:World} {L:List Ent} (h:St [m] w X L):KeptM m w X:=⟨h.size,fun b hb hne=>h.block b hb (by simpa using hne)⟩
theorem KeptM.cell {m:Nat} {w X:World} (h:KeptM m w X) (hm:∃es ck,w.heap[m]? = some (.map es ck)) {a:Addr} {v:Value} (hc:w.cell? a=some v):X.cell? a=some v:=by
 obtain⟨es,ck,hm⟩:=hm;have hlt:=block_lt_of_cell hc;refine(World.cell?_of_block (h.block _ hlt (fun e=>?_))).trans hc;unfold World.cell? at hc;rw[e,hm] at hc
 cases hc
theorem KeptM.rd {m:Nat} {w X:World} (h:KeptM m w X) (hm:∃es ck,w.heap[m]? = some (.map es ck)) {A:Option Addr} {xs:List Value} (hr:Rd w w.heap.size A xs):Rd X X.heap.size A xs:=fun j u hj=>by
 obtain⟨b,o,h1,h2,h3⟩:=hr j u hj;exact⟨b,o,h1,Nat.lt_of_lt_of_le h2 h.size,h.cell hm h3⟩
theorem KeptM.fol {m:Nat} {w X:World} (h:KeptM m w X) (hm:∃es ck,w.heap[m]? = some (.map es ck)) (hf:FolT w):FolT X:=⟨fun k hk=>by
 obtain⟨A,c,h1,h2⟩:=hf.cells k hk
 exact⟨A,c,h.cell hm h1,h.rd hm h2⟩⟩
structure FewE (x:Lge):Prop where
 o:x.o.o.size≤3100
 n:x.o.n.size≤3100
 d:x.d.size≤100000
def tB (l:List Rcd) (i:Nat):Bool:=match cU l i with
 | none=>true
 | some y=>match l[i]? with | none=>true | some x=>decide (y.l<x.l)
def j6 (g:Int→Option Chn):Int→Option Value:=fun t=>(g t).map l8
theorem zA (g:Int→Option Chn) (t:Int) (c:Chn):eI (j6 g) t (some (l8 c))=j6 (xI g t c):=by
 funext s;unfold eI j6 xI;split<;>rfl
def nS:Chn:=⟨0,0,0⟩
theorem Ay {l:List Rcd} {i:Nat} (hi:i<l.length):dY l i l[i]=au [aS (bm l[i].l 1 2147483647) 2,aS ((i:Int)==0||tB l i) 9,dC l[i].e]:=by
 have e:((i:Int)==0||tB l i)=tB l i:=by
  rcases Nat.eq_zero_or_pos i with h0 | h0
  · subst h0;rfl
  · rw[show((i:Int)==0)=false by rw[beq_eq_false_iff_ne];omega];rfl
 rw[e];unfold dY tB;rw[List.getElem?_eq_getElem hi]
 cases cU l i<;>rfl
theorem CQ {l:List Rcd} {i:Nat} (hv:VldH l i) (hi:i<l.length) (h0:dY l i l[i]=0):1≤dk l∧dk l≤2147483647:=by
 rw[fM ab];rcases Nat.eq_zero_or_pos i with h | h
 · subst h
   unfold dY at h0;rw[aX] at h0;exact inB_true.1 ((aQ aq).1 (h0 _ (.head _)))
 · have:=hv.e0 h
   exact⟨this.1,this.2.1⟩
theorem xR {h0:Int} {g:Int→Option Chn} {x:Lge} (h:((g x.t).isSome&&((g x.t).getD nS).k != 4)=true):gL h0 g x=((g x.t).getD nS,aS (x.p==((g x.t).getD nS).l) 14):=by
 unfold gL
 cases hg:g x.t with
 | none=>rw[hg] at h;cases h
 | some c=>
  rw[hg] at h
  have hk:c.k≠4:=by simpa using h
  simp only[];rw[if_neg hk];rfl
theorem zX {h0:Int} {g:Int→Option Chn} {x:Lge} (h:((g x.t).isSome&&((g x.t).getD nS).k != 4)=false):gL h0 g x=gv h0 x (g x.t).isSome:=by
 unfold gL
 cases hg:g x.t with
 | none=>rfl
 | some c=>
  rw[hg] at h
  have hk:c.k=4:=by simpa using h
  simp only[];rw[if_pos hk];rfl
theorem vH {l:List Rcd} {i:Nat} (hv:VldH l i) (x:Lge) (h0:(gL (dk l) (bL l i) x).2=0) (hk:(gL (dk l) (bL l i) x).1.k≠-1):∃k:Nat,k<6∧(gL (dk l) (bL l i) x).1.k=(k:Int):=by
 have hbeg:∀b,(gv (dk l) x b).2=0→(gv (dk l) x b).1.k≠-1→∃k:Nat,k<6∧(gv (dk l) x b).1.k=(k:Int):=fun b q0 qk=>by
  obtain⟨_,h1⟩:=iu q0;rw[h1] at qk ⊢;simp only[] at qk ⊢
  split at qk
  · exact absurd rfl qk
  · rename_i hp;exact⟨0,by decide,by rw[if_neg hp];rfl⟩
 unfold gL at h0 hk ⊢;have hc:=j5 i (by have:=hv.1;omega) hv.2 x.t
 cases hg:bL l i x.t with
 | none=>rw[hg] at h0 hk;simp only[] at h0 hk ⊢;exact hbeg _ h0 hk
 | some c=>
  rw[hg] at h0 hk;simp only[] at h0 hk ⊢
  split at h0
  · rename_i h4;rw[if_pos h4] at hk ⊢;exact hbeg _ h0 hk
  · rename_i h4
    rw[if_neg h4] at hk ⊢;rw[hg] at hc
    cases hb:bw l x.t i with
    | none=>rw[hb] at hc;cases hc
    | some k=>
     rw[hb] at hc;obtain⟨hki,y,hy,h5,ht⟩:=fc hb;have hkl:k<l.length:=(List.getElem?_eq_some_iff.1 hy).1
     have e1:c=kJ l k:=by simpa using hc
     have e2:=tK (hv.e0 hki).2.2
     have e3:c.k=l[k].e.k:=by rw[e1];exact gS hkl
     refine⟨c.k.toNat,?_,?_⟩<;>(show _;rw[e3];omega)
def Dg (c:Chn × Int) (x:Lge):Int:=au [c.2,if c.1.k = -1 then 0 else aS (ov c.1.k x.k) 20]
theorem yT (l:List Rcd) (i:Nat) (c:Chn × Int) (x:Lge):lW l i c x=if Dg c x=0 then (if x.k=1 then jK l i c.1 x else 0) else Dg c x:=by
 unfold lW Dg;generalize (if c.1.k = -1 then 0 else aS (ov c.1.k x.k) 20)=b;generalize (if x.k=1 then jK l i c.1 x else 0)=d
 by_cases h1:c.2=0<;>by_cases h2:b=0<;>simp[au,h1,h2]<;>(intro h;exact h.symm)
theorem zm (k:Int):(tI k).length≤1000:=by
 unfold tI;split<;>(try split)<;>(try split)<;>(try split)<;>decide
theorem zh (b:Int):au [0,b]=b:=by by_cases h:b=0<;>simp[au,h]
theorem uf (l:List Rcd) (A:Option Addr) (c:Nat) (i:Nat) (m:Nat) (w:World) (hr:Rd w w.heap.size A (l.flatMap bJ)) (hi:i<l.length) (hl:l.length≤1000) (hc:l.length≤c) (hv:VldH l i)
 (hm:MapF w m (j6 (bL l i))) (hF:FolT w) (hx:∀x∈l,FewE x.e) :
 Calls Tryz.prog 104 #[.slice A l.length c,.int .i64 i,.map (some m)] w fun e w'=>∃g,e=.returned (.int .i64 (dB l i (bL l i) l[i]))∧(dB l i (bL l i) l[i]=0→g=bL l (i+1))∧St [m] w w' [cF m (j6 g)]:=by
 have hmm:∃es ck,w.heap[m]? = some (.map es ck):=by obtain⟨es,ck,h1,_⟩:=hm;exact⟨es,ck,h1⟩
 have hfe:=hx _ (List.getElem_mem hi);obtain⟨b',o',rfl,hB,_⟩:=hr.opened (aO aH aq ab);obtain⟨RC,hRC⟩:∃RC,RC=gL (dk l) (bL l i) l[i].e:=⟨_,rfl⟩;have q9:=Ay hi;refine ao (N:=118) Tryz.func104 rfl rfl rfl (fun _ Y=>?_);have S0:=(St.initInv hm (fun b hb=>⟨by rw[hb];exact List.mem_singleton.2 rfl,by rw[hb];exact hm.lt⟩):St [m] w w [cF m (j6 (bL l i))]);refine GO 6 ?_;intro _ h1;apply aU h1 [false,false,false,false,false,false,false,false,false,false,true,false] _ aa
 case h=>
  refine GO 2 ?_;intro _ Y;refine qv Y (fun X hX=>aw (i:=i) (sz:=14) Tryz.underlying180 aa (Y.ev rfl) (Y.ev rfl) ab ab rfl) fun _ Y=>?_;refine qv Y (fun X hX=>fy 0 (Y.ev rfl)) fun _ Y=>?_;refine qv Y (fun X hX=>lx (Y.ev rfl) ((bb aH (((S0.grow hX).keptM).rd hmm hr) hi) 0 _ rfl)) fun _ Y=>?_;refine GO 2 ?_;intro _ Y;refine qv Y (fun X hX=>aw (i:=i) (sz:=14) Tryz.underlying180 aa (Y.ev rfl) (Y.ev rfl) ab ab rfl) fun _ Y=>?_;refine qv Y (fun X hX=>fy 1 (Y.ev rfl)) fun _ Y=>?_;refine qv (v:=dM l[i].e) Y (fun X hX=>ah aa aa (Y.ev rfl) (eF (((S0.grow hX).keptM).rd hmm hr) hi)) fun _ Y=>?_;refine GO 2 ?_;intro _ Y;apply ij (k:=10) (deps:=[]) (R:=NewB _ (fun b=>.pointer (some ⟨b,0,none⟩)) _ _) Y rfl rfl rfl NewB.stable (fun X hX hΦ=>jN (iL (z:=.agg #[.int .i64 0,.int .i64 0,.int .i64 0,.int .i64 0,.int .i64 0,.bool false,.int .i64 0,.int .i64 0,.int .i64 0,.int .i64 0,.string ⟨#[]⟩,.string ⟨#[]⟩,.string ⟨#[]⟩]) aa) hX.size);intro v8 _ Y;refine bc fun _ Zf Zm=>?_;have Z:=S0.grow Zf;have Zk:=bC Zm (k:=10) rfl;obtain⟨b8,rfl,Zz,Zk⟩:=Zk;have Z:=S0.add Zf (e:=.box _ _ _) Zk (fun b hb=>by cases hb;exact⟨Zz,Box.lt Zk⟩);refine sw Y Z 0 fun _ Z=>?_;refine ae (ag (ak ?_));apply aU Y (gB 18) _ aa
  case h=>
   refine GO 1 ?_;intro _ Y;refine lT Y rfl (fun X hX=>bH _ _ _ _) fun _ Y=>?_;refine lT Y rfl (fun X hX=>aN _ _ _) fun _ Y=>?_;refine GO 3 ?_;intro _ Y;apply gm (x:=tB l i) Y 27 rfl 10 37
   case hf=>
    intro Zg
    have hi0:i≠0:=by simp only[beq_eq_false_iff_ne] at Zg;omega
    have hi1:i-1<l.length:=by omega
    have hbf:cU l i=some l[i-1]:=by unfold cU;rw[if_neg hi0,List.getElem?_eq_getElem hi1]
    refine GO 1 ?_;intro _ Zl;refine GO 2 ?_;intro _ Y;refine qy Y (fun X hX=>(qD aa (Y.ev rfl) (Y.ev rfl))) fun _ Y=>?_;refine qy Y (fun X hX=>(aw (i:=i-1) (sz:=14) Tryz.underlying180 aa (Y.ev rfl) (Y.ev rfl) ab ab rfl)) fun _ Y=>?_;refine qy Y (fun X hX=>(fy 0 (Y.ev rfl))) fun _ Y=>?_;refine qy Y (fun X hX=>(lx (Y.ev rfl) ((bb aH (((Z.grow hX).keptM).rd hmm hr) hi1) 0 _ rfl))) fun _ Y=>?_;refine GO 1 ?_;intro _ Y;refine qy Y (fun X hX=>(aY (v':=.bool (tB l i)) (congrArg Value.bool (by unfold tB;rw[hbf,List.getElem?_eq_getElem hi])) (lk (Y.ev rfl) (Y.ev rfl)))) fun _ Y=>?_;refine GO 1 ?_;intro _ Y;exact aA (Y.midE 9)
   case ht=>
    intro Zg;refine GO 10 ?_;intro _ Y;exact aA (Y.midE 9)
   case h=>
    intro _ Y;refine lT Y rfl (fun X hX=>aN _ _ _) fun _ Y=>?_;refine qv Y (fun X hX=>ah aa aa (Y.ev rfl) ((Z.grow hX).cellsAll (i:=0) rfl)) fun _ Y=>?_;refine aA ?_;refine bc fun _ Zn Qa=>?_;have Z:=Z.grow Zn;refine dz Y rfl Z (mW l[i].e _ hfe.o hfe.n (by have:=hfe.d;unfold maxLen;omega)) fun _ _ Y Z=>?_;refine cg Y (wn rfl) (f:=fun b=>.slice (some ⟨b,0,none⟩) 3 3) (bo Tryz.underlying214 aa aa (Y.evs2 rfl) rfl rfl rfl aq aq) rfl rfl Z fun b41 _ _ Qb Y Z=>?_;refine ey Y rfl (fp (Z.at_ (i:=0) rfl)) fun _ Y=>?_;refine GO 12 ?_;intro _ Y;refine ar (Y.ev rfl) (fun Zo=>?_) (fun Zo=>?_)
    ·
     have q0:dY l i l[i]≠0:=by rw[q9];simpa using Zo
     refine GO 9 ?_;intro _ Y;refine aP Y rfl rfl ?_;exact⟨bL l i,by unfold dB;rw[if_pos q0,q9],fun h=>absurd h (by unfold dB;rw[if_pos q0];exact q0),(Z.sub (.cons _ (.cons _ (.cons_cons _ .slnil))))⟩
    ·
     have q0:dY l i l[i]=0:=by rw[q9];simpa using Zo
     have q0':¬dY l i l[i]≠0:=fun h=>h q0;have hfst:=CQ hv hi q0;refine GO 8 ?_;intro _ Y;refine ar (Y.ev rfl) (fun Zp=>?_) (fun Zp=>?_)
     ·
      have q1:l[i].e.k=5:=by simpa using Zp
      refine ak (av ?_);refine sv Y (ah aa aa (Y.ev rfl) (Z.cellsAll (i:=1) rfl)) fun _ Y=>?_;refine dz Y rfl Z (jZ l[i].e _ hfe.d) fun _ _ Y Z=>?_;refine GO 6 ?_;intro _ Y;refine aP Y rfl rfl ?_;exact⟨bL l i,by unfold dB;rw[if_neg q0',if_pos q1],fun _=>by rw[ny hi,if_pos q1],(Z.sub (.cons _ (.cons _ (.cons_cons _ .slnil))))⟩
     ·
      have q1:l[i].e.k≠5:=by simpa using Zp
      refine GO 8 ?_;intro _ Y;refine ar (Y.ev rfl) (fun Zq=>?_) (fun Zq=>?_)
      ·
       have q2:l[i].e.t=0:=by simpa using Zq
       refine GO 8 ?_;intro _ Y;refine aP Y rfl rfl ?_;exact⟨bL l i,by unfold dB;rw[if_neg q0',if_neg q1,if_pos q2];(try rfl),fun h=>absurd h (by unfold dB;rw[if_neg q0',if_neg q1,if_pos q2];decide),(Z.sub (.cons _ (.cons _ (.cons_cons _ .slnil))))⟩
      ·
       have q2:l[i].e.t≠0:=by simpa using Zq
       refine GO 8 ?_;intro _ Y;refine sv Y (aY (v':=.tuple #[l8 ((bL l i l[i].e.t).getD nS),.bool (bL l i l[i].e.t).isSome]) (by unfold j6;cases bL l i l[i].e.t<;>rfl) (mS (z:=.agg #[.int .i64 0,.int .i64 0,.int .i64 0]) Tryz.underlying178 Tryz.underlying3 aa (Y.ev rfl) (Y.ev rfl) (Z.at_ (i:=2) rfl))) fun _ Y=>?_;refine GO 3 ?_;intro _ Y;refine na (.agg #[.int .i64 0,.int .i64 0,.int .i64 0]) Y rfl Z fun b10 _ _ Qc Y Z=>?_;refine sw Y Z 0 fun _ Z=>?_;refine GO 8 ?_;intro _ Y;apply bG (x:=((bL l i l[i].e.t).getD nS).k != 4) Y Z 65 rfl 4 69
       case ht=>
        intro Zr;refine GO 4 ?_;intro _ Y;exact ae ⟨Y.midE 3,Z⟩
       case hf=>
        intro Zr;refine GO 4 ?_;intro _ Y;exact ae ⟨Y.midE 3,Z⟩
       case h=>
        rintro a88 Qf ⟨Zw,Ze⟩
        refine ae (ag ?_);refine sd (F:=True) Zw Ze [(9,.int .i64 RC.2)] [10,8,7,6,0,1,2] (fun L=>L.set 0 (.box b10 (l8 RC.1).cells 250)) ?_ (fun _ _ Y Z hjT=>?_)
        ·
         refine ar (Zw.ev rfl) (fun Zs=>?_) (fun Zs=>?_)
         ·
          have eRC:RC=((bL l i l[i].e.t).getD nS,aS (l[i].e.p==((bL l i l[i].e.t).getD nS).l) 14):=by rw[hRC];exact xR Zs
          refine GO 6 ?_;intro _ Y;refine ey Y rfl (aN _ _ _) fun _ Y=>?_;refine GO 3 ?_;intro _ Y;have hjT:=trivial;rw[show aS (l[i].e.p==((bL l i l[i].e.t).getD nS).l) 14=RC.2 by rw[eRC]] at Y;rw[show(bL l i l[i].e.t).getD nS=RC.1 by rw[eRC]] at Ze;exact⟨Y.re bW,Ze,hjT⟩
         ·
          have eRC:RC=gv (dk l) l[i].e (bL l i l[i].e.t).isSome:=by rw[hRC];exact zX Zs
          refine GO 2 ?_;intro _ Y;refine sv Y (ah aa aa (Y.ev rfl) (Ze.cellsAll (i:=2) rfl)) fun _ Y=>?_;refine GO 1 ?_;intro _ Y;refine dz Y rfl Ze (xK l _ c l[i].e _ _ ((Ze.keptM).rd hmm hr) ab hfst) fun _ _ Y Z=>?_;refine GO 1 ?_;intro _ Y;refine sv (v:=l8 (gv (dk l) l[i].e (bL l i l[i].e.t).isSome).1) Y (bN (Y.ev rfl) rfl) fun _ Y=>?_;refine GO 1 ?_;intro _ Y;refine sw Y Z 0 fun _ Z=>?_;refine GO 3 ?_;intro _ Y;have hjT:=trivial;rw[←eRC] at Y Z;exact⟨Y.re bW,Z,hjT⟩
        ·
         obtain⟨E2,hE2⟩:∃E2:Int,E2=Dg RC l[i].e:=⟨_,rfl⟩;obtain⟨E3,hE3⟩:∃E3:Int,E3=lW l i RC l[i].e:=⟨_,rfl⟩;have Zl:=yT l i RC l[i].e;rw[←hE2,←hE3] at Zl;refine GO 7 ?_;intro _ Y;apply bG (x:=RC.1.k != -1) Y Z 85 rfl 4 89
         case ht=>
          intro Zt;refine GO 4 ?_;intro _ Y;exact ae ⟨Y.midE 3,Z⟩
         case hf=>
          intro Zt;refine GO 4 ?_;intro _ Y;exact ae ⟨Y.midE 3,Z⟩
         case h=>
          rintro a117 Qd ⟨Zb,Zc⟩
          refine ae (ag ?_);refine eE Zb Zc [(9,.int .i64 E2)] [10,8,7,6,0,1,2] ?_ (fun _ _ Y Z=>?_)
          ·
           refine ar (Zb.ev rfl) (fun Zu=>?_) (fun Zu=>?_)
           ·
            obtain⟨r0,r1⟩:=Bool.and_eq_true_iff.1 Zu
            have r0:RC.2=0:=by simpa using r0
            have r1:RC.1.k≠-1:=by simpa using r1
            obtain⟨k,hk6,hk1⟩:∃k:Nat,k<6∧RC.1.k=(k:Int):=by
             have:=vH hv l[i].e;rw[←hRC] at this;exact this r0 r1
            obtain⟨Af,cf,hfc,hfr⟩:=hF.cells k hk6;apply aU Zb (gB 6) _ aa
            case h=>
             refine GO 2 ?_;intro _ Y;refine qv Y (fun X hX=>wX (i:=k) (sz:=1) (j:=k) Tryz.underlying255 aa (Y.ev rfl) (Y.ev rfl) hk1 hk6 ab) fun _ Y=>?_;refine qv Y (fun X hX=>lx (Y.ev rfl) (((Zc.grow hX).keptM).cell hmm hfc)) fun _ Y=>?_;refine GO 3 ?_;intro _ Y;refine bc fun _ Zh Zx=>?_;have Z:=Zc.grow Zh;refine dz Y rfl Z (p3 (tI k) Af cf l[i].e.k _ ((Z.keptM).rd hmm hfr) (zm _)) fun _ _ Y Z=>?_;refine ey Y rfl (aN _ _ _) fun _ Y=>?_;refine GO 3 ?_;intro _ Y;rw[show aS ((tI k).any fun x=>x==l[i].e.k) 20=E2 by rw[hE2];unfold Dg;rw[r0,if_neg r1,hk1,zh];rfl] at Y;exact⟨Y.re bW,Z⟩
            case hB=>kernel_rfl
            case hst=>rfl
           ·
            refine wp_skip (ag ?_)
            rw[show RC.2=E2 by
             rw[hE2];unfold Dg;rcases Bool.and_eq_false_iff.1 Zu with r0 | r1
             · have r0:RC.2≠0:=by simpa using r0
               simp[au,r0]
             · have r1:RC.1.k = -1:=by simpa using r1
               rw[if_pos r1]
               by_cases r2:RC.2=0<;>simp[au,r2]] at Zb
            exact⟨Zb.re bW,Zc⟩
          ·
           refine GO 7 ?_;intro _ Y;apply bG (x:=l[i].e.k==1) Y Z 100 rfl 4 104
           case ht=>
            intro Zi;refine GO 4 ?_;intro _ Y;exact ae ⟨Y.midE 3,Z⟩
           case hf=>
            intro Zi;refine GO 4 ?_;intro _ Y;exact ae ⟨Y.midE 3,Z⟩
           case h=>
            rintro a140 Qe ⟨Zd,Za⟩
            refine ae (ag ?_);refine eE Zd Za [(9,.int .i64 E3)] [10,8,7,6,2] ?_ (fun _ _ Y Z=>?_)
            ·
             refine ar (Zd.ev rfl) (fun Zv=>?_) (fun Zv=>?_)
             ·
              refine GO 3 ?_;intro _ Y;refine sv (v:=l8 RC.1) Y (ah aa aa (Y.ev rfl) (Za.cellsAll (i:=0) rfl)) fun _ Y=>?_;refine sv (v:=dM l[i].e) Y (ah aa aa (Y.ev rfl) (Za.cellsAll (i:=2) rfl)) fun _ Y=>?_;refine dz Y rfl Za (tR l _ c i RC.1 l[i].e _ ((Za.keptM).rd hmm hr) hi hl hc hv hfst) fun _ _ Y Z=>?_;refine GO 3 ?_;intro _ Y
              rw[show jK l i RC.1 l[i].e=E3 by
               obtain⟨r0,r1⟩:=Bool.and_eq_true_iff.1 Zv
               rw[Zl,if_pos (by simpa using r0),if_pos (by simpa using r1)]] at Y
              exact⟨Y.re bW,Z⟩
             ·
              refine wp_skip (ag ?_)
              rw[show E2=E3 by
               rw[Zl];rcases Bool.and_eq_false_iff.1 Zv with r0 | r1
               · rw[if_neg (by simpa using r0)]
               · rw[if_neg (show ¬l[i].e.k=1 by simpa using r1)]
                 split
                 · assumption
                 · rfl] at Zd
              exact⟨Zd.re bW,Za⟩
            ·
             refine ag (ak ?_);apply aU Y (gB 7) _ aa
             case h=>
              refine GO 3 ?_;intro _ Y;refine qv (v:=l8 RC.1) Y (fun X hX=>ah aa aa (Y.ev rfl) ((Z.grow hX).cellsAll (i:=0) rfl)) fun _ Y=>?_;refine GO 1 ?_;intro _ Y;refine qv (v:=dM l[i].e) Y (fun X hX=>ah aa aa (Y.ev rfl) ((Z.grow hX).cellsAll (i:=2) rfl)) fun _ Y=>?_;refine uq Y rfl (fun X hX=>oK RC.1 l[i].l l[i].e _) fun _ Y=>?_;refine aA ?_;refine bc fun _ Zj Zy=>?_;have Z:=Z.grow Zj;refine gN (wn rfl) ⟨rfl,rfl⟩ Tryz.underlying178 Tryz.underlying3 (Y.ev rfl) (Y.ev rfl) (Y.ev rfl) Z (i:=3) rfl fun _ Z=>?_;refine GO 9 ?_;intro _ Y;refine aP Y rfl rfl ?_;refine⟨xI (bL l i) l[i].e.t (rK RC.1 l[i].l l[i].e),by unfold dB;rw[if_neg q0',if_neg q1,if_neg q2,←hRC,←hE3],fun _=>by rw[ny hi,if_neg q1,hRC],?_⟩;rw[←zA];exact(Z.sub (.cons _ (.cons _ (.cons _ (.cons_cons _ .slnil)))))
             case hB=>kernel_rfl
             case hst=>rfl
  case hB=>kernel_rfl
  case hst=>rfl
 case hB=>kernel_rfl
 case hst=>rfl
open Go.RowKit Go.Sort
theorem KeptM.box {m:Nat} {w X:World} (h:KeptM m w X) (hm:∃es ck,w.heap[m]? = some (.map es ck)) {b:Nat} {cs:Array Value} {T:TypeId} (hb:Box w b cs T):Box X b cs T:=by
 obtain⟨es,ck,hm⟩:=hm;refine(h.block b hb.lt (fun e=>?_)).trans hb;have hb':w.heap[b]? = some (.cells cs T (0,0)):=hb;rw[e,hm] at hb'
 cases hb'
structure ChkR (l:List Rcd) (A:Option Addr) (c b1 b4 m:Nat) (w:World):Prop where
 hr:Rd w w.heap.size A (l.flatMap bJ)
 hb1:Box w b1 #[.slice A l.length c] 41
 hb4:Box w b4 #[.map (some m)] 178
 hF:FolT w
theorem ChkR.kept {l:List Rcd} {A:Option Addr} {c b1 b4 m:Nat} {w X:World} (h:ChkR l A c b1 b4 m w) (hm:∃es ck,w.heap[m]? = some (.map es ck)) (hk:KeptM m w X):ChkR l A c b1 b4 m X:=
 ⟨hk.rd hm h.hr,hk.box hm h.hb1,hk.box hm h.hb4,hk.fol hm h.hF⟩
theorem MapF.ex {m:Nat} {w:World} {g:Int→Option Value} (h:MapF w m g):∃es ck,w.heap[m]? = some (.map es ck):=by obtain⟨es,ck,h1,_⟩:=h;exact⟨es,ck,h1⟩
theorem vK (l:List Rcd) (A:Option Addr) (c:Nat) (i:Nat) (b1 b4 m:Nat) (w:World) (hR:ChkR l A c b1 b4 m w) (hi:i<l.length) (hl:l.length≤1000) (hc:l.length≤c) (hv:VldH l i) (hm:MapF w m (j6 (bL l i))) (hx:∀x∈l,FewE x.e) :
 Calls Tryz.prog 103 #[.int .i64 i,fu l[i],.pointer (some ⟨b1,0,none⟩),.pointer (some ⟨b4,0,none⟩)] w fun e w'=>∃g,e=.returned (.int .i64 (dB l i (bL l i) l[i]))∧(dB l i (bL l i) l[i]=0→g=bL l (i+1))∧St [m] w w' [cF m (j6 g)]:=by
 refine ao (N:=11) Tryz.func103 rfl rfl rfl (fun _ Y=>?_);have Z:=(St.initInv hm (fun b hb=>⟨by rw[hb];exact List.mem_singleton.2 rfl,by rw[hb];exact hm.lt⟩):St [m] w w [cF m (j6 (bL l i))]);have hmm:=hm.ex;refine ak (av ?_);refine nb Y rfl rfl Z fun b5 _ _ Zb Y Z=>?_;refine GO 5 ?_;intro _ Y;refine sv Y (lx (Y.ev rfl) (((Z.keptM).box hmm hR.hb1).cells 0)) fun _ Y=>?_;refine GO 1 ?_;intro _ Y;refine sv Y (lx (Y.ev rfl) (((Z.keptM).box hmm hR.hb4).cells 0)) fun _ Y=>?_;refine fW Y (wn rfl) (aC br (Y.evs rfl) rfl) rfl rfl Z (i:=1) rfl (fun b hb=>List.mem_singleton.1 hb) (uf l A c i m _ ((Z.keptM).rd hmm hR.hr) hi hl hc hv (Z.at_ (i:=1) rfl) ((Z.keptM).fol hmm hR.hF) hx) fun p10 _ _ Y Za Z=>?_;refine GO 4 ?_;intro _ Y;refine aP Y rfl rfl ?_;exact⟨p10,rfl,Za,(Z.sub (.cons _ (.cons_cons _ .slnil)))⟩
theorem vO (l:List Rcd) (A:Option Addr) (c:Nat) (b1 b4 m:Nat) (w:World) (hR:ChkR l A c b1 b4 m w) (hl:l.length≤1000) (hc:l.length≤c) (hm:MapF w m (j6 (bL l 0))) (hx:∀x∈l,FewE x.e) :
 Calls Tryz.prog 102 #[.slice A l.length c,.func (.func 103) #[] #[.pointer (some ⟨b1,0,none⟩),.pointer (some ⟨b4,0,none⟩)]] w fun e w'=>∃g:Int→Option Chn,e=.returned (.tuple #[.int .i64 (cP (fun i x=>dB l i (bL l i) x) 0 l).1,.int .i64 (cP (fun i x=>dB l i (bL l i) x) 0 l).2])∧True∧St [m] w w' [cF m (j6 g)]:=by
 have hmm:=hm.ex;refine ao (N:=25) Tryz.func102 rfl rfl rfl (fun _ Y=>?_);have Z:=(St.initInv hm (fun b hb=>⟨by rw[hb];exact List.mem_singleton.2 rfl,by rw[hb];exact hm.lt⟩):St [m] w w [cF m (j6 (bL l 0))]);refine GO 15 ?_;intro _ Y;refine bh Y Z [10,9,1] (fun (j:Nat)=>[(11,.int .i64 j)]) (fun (j:Nat)=>j≤l.length∧∀k (hk:k<l.length),k<j→dB l k (bL l k) l[k]=0) (fun j L=>L.set 0 (cF m (j6 (bL l j)))) (fun (j:Nat)=>l.length-j) (0) (⟨Nat.zero_le _,fun k _ h=>by omega⟩) bW (Z) ?_;intro j _ _ Za Y Z;refine GO 6 ?_;intro _ Y;refine ar (Y.ev rfl) (fun Zc=>?_) (fun Zc=>?_)
 ·
  have hlt:j<l.length:=by have:=of_decide_eq_true Zc;omega
  obtain⟨b,o,rfl,hB,_⟩:=hR.hr.opened (aO aH aq ab);have hvj:VldH l j:=⟨Za.1,Za.2⟩;refine GO 7 ?_;intro _ Y;refine sv Y (aw (i:=j) (sz:=14) Tryz.underlying41 aa (Y.ev rfl) (Y.ev rfl) ab ab rfl) fun _ Y=>?_;refine sv (v:=fu l[j]) Y (ah aa aa (Y.ev rfl) (bb aH ((Z.keptM).rd hmm hR.hr) hlt)) fun _ Y=>?_;refine na (.agg #[.int .i64 0,.int .i64 0,.int .i64 0,.int .i64 0,.int .i64 0,.int .i64 0,.bool false,.int .i64 0,.int .i64 0,.int .i64 0,.int .i64 0,.string ⟨#[]⟩,.string ⟨#[]⟩,.string ⟨#[]⟩]) Y rfl Z fun b7 _ _ Ze Y Z=>?_;refine GO 1 ?_;intro _ Y;refine sw Y Z 0 fun _ Z=>?_;refine GO 6 ?_;intro _ Y;refine sv (v:=fu l[j]) Y (ah aa aa (Y.ev rfl) (Z.cellsAll (i:=0) rfl)) fun _ Y=>?_;refine fW Y (wn rfl) (cM br (Y.ev rfl) (Y.evs rfl) rfl) rfl rfl Z (i:=1) rfl (fun b hb=>List.mem_singleton.1 hb) (vK l _ c j b1 b4 m _ (hR.kept hmm Z.keptM) hlt hl hc hvj (Z.at_ (i:=1) rfl) hx) fun p19 _ _ Y Zd Z=>?_;refine GO 9 ?_;intro _ Y;refine ar (Y.ev rfl) (fun Zb=>?_) (fun Zb=>?_)
  ·
   refine GO 14 ?_;intro _ Y;refine ca Y rfl rfl rfl ?_
   have r1:dB l j (bL l j) l[j]≠0:=by simpa using Zb
   have r2:=dd (fun i x=>dB l i (bL l i) x) l 0 j hlt (fun k hk h=>by rw[Nat.zero_add];exact Za.2 k hk h) (by rw[Nat.zero_add];exact r1);exact⟨p19,by rw[r2];simp only[Nat.zero_add],trivial,(Z.sub (.cons _ (.cons_cons _ .slnil)))⟩
  ·
   refine GO 8 ?_;intro _ Y;exact⟨j+1,by omega,⟨hlt,fun k hk h=>(Nat.lt_or_ge k j).elim (fun q=>Za.2 k hk q) (fun q=>by(obtain rfl:k=j:=by omega);simpa using Zb)⟩,Y.re bW,(Zd (by simpa using Zb)▸(Z.sub (.cons _ (.cons_cons _ .slnil))))⟩
 ·
  have hge:l.length≤j:=by have:=of_decide_eq_false Zc;omega
  refine GO 12 ?_;intro _ Y;refine ca Y rfl rfl rfl ?_;exact⟨bL l j,by rw[cY (fun i x=>dB l i (bL l i) x) l 0 (fun k hk=>by rw[Nat.zero_add];exact Za.2 k hk ab)],trivial,(Z.sub (.cons_cons _ .slnil))⟩
theorem eL (l:List Rcd) (A:Option Addr) (c:Nat) (w:World) (hr:Rd w w.heap.size A (l.flatMap bJ)) (hl:l.length≤1000) (hc:l.length≤c) (hF:FolT w) (hx:∀x∈l,FewE x.e) :
 Calls Tryz.prog 42 #[.slice A l.length c] w fun e w'=>e=.returned (.tuple #[.int .i64 (ep l).1,.int .i64 (ep l).2])∧Below w.heap.size w w':=by
 refine ao (N:=14) Tryz.func42 rfl rfl rfl (fun _ Y=>?_);have Z:=St.init w;refine ak (av ?_);refine nb Y rfl rfl Z fun b1 _ _ Zc Y Z=>?_;refine GO 12 ?_;intro _ Y;refine ar (Y.ev rfl) (fun Za=>?_) (fun Za=>?_)
 ·
  have r0:100<l.length:=by have:=of_decide_eq_true Za;omega
  refine GO 8 ?_;intro _ Y;refine ca Y rfl rfl rfl ?_;exact⟨by unfold ep;rw[if_pos r0];(try rfl),Z.below⟩
 ·
  have r0:¬100<l.length:=by have:=of_decide_eq_false Za;omega
  refine wp_skip (ag (ak (av ?_)));refine kP Y (wn rfl) rfl rfl rfl Z fun m8 _ _ hm8 Y Z=>?_;refine na (.map none) Y rfl Z fun b4 _ _ Zd Y Z=>?_;refine sw Y Z 0 fun _ Z=>?_;refine GO 5 ?_;intro _ Y;refine sv Y (e8 (Y.evs rfl) (Y.evs rfl)) fun _ Y=>?_;refine fW Y (wn rfl) (aC br (Y.evs rfl) rfl) rfl rfl Z (i:=1) rfl (fun b hb=>List.mem_singleton.1 hb) (vO l A c b1 b4 m8 _ ⟨Z.rd0 hr,Z.at_ (i:=2) rfl,Z.at_ (i:=0) rfl,hF.below Z.below⟩ hl hc (Z.at_ (i:=1) rfl) hx) fun p11 _ _ Y Zb Z=>?_;refine GO 7 ?_;intro _ Y;refine ca Y rfl rfl rfl ?_;exact⟨by unfold ep;rw[if_neg r0];(try rfl),Z.below⟩
theorem eB (l:List Rcd) (A:Option Addr) (c:Nat) (w:World) (hr:Rd w w.heap.size A (l.flatMap bJ)) (hl:l.length≤1000) (hc:l.length≤c) (hF:FolT w) (hx:∀x∈l,FewE x.e) :
 Calls Tryz.prog 77 #[.slice A l.length c] w fun e w'=>e=.returned (.int .i64 (ep l).2)∧Below w.heap.size w w':=by
 refine ao (N:=11) Tryz.func77 rfl rfl rfl (fun _ Y=>?_);have Z:=St.init w;refine GO 8 ?_;intro _ Y;refine dz Y rfl Z (eL l A c _ (Z.rd0 hr) hl hc (hF.below Z.below) hx) fun _ _ Y Z=>?_;refine GO 14 ?_;intro _ Y;refine aP Y rfl rfl ?_;exact⟨rfl,Z.below⟩
open Go.RowKit Go.Sort
variable {ds:List Deferred}
def mH (B:Nat) (T:TypeId) (b:Nat) (o:Option Obj):Prop:=B≤b∧∃cs fr,o=some (.cells cs T fr)
def fA (B:Nat) (oc:List (Nat × (Nat→Prop))) (news:List (Nat × TypeId)):List xP:=oc.map (fun p=>(p.1,(fun b _=>p.2 b),rQ 0)) ++ news.map (fun p=>(p.1,mH B p.2,fun _ _=>True))
theorem Dp {α:Type} {φ:α→Prop} {a:α} (h:φ a):∀p∈[a],φ p:=fun p hp=>by rw[List.mem_singleton.1 hp];exact h
theorem dZ {α:Type} {φ:α→Prop}:∀p∈([]:List α),φ p:=fun p hp=>by cases hp
theorem j3 {B:Nat} {oc:List (Nat × (Nat→Prop))} {news:List (Nat × TypeId)} {p:xP} (h:p∈fA B oc news):(∃q∈oc,p=(q.1,(fun b _=>q.2 b),rQ 0))∨∃q∈news,p=(q.1,mH B q.2,fun _ _=>True):=by
 unfold fA at h;rcases List.mem_append.1 h with h | h
 · obtain⟨q,h1,h2⟩:=List.mem_map.1 h;exact .inl ⟨q,h1,h2.symm⟩
 · obtain⟨q,h1,h2⟩:=List.mem_map.1 h;exact .inr ⟨q,h1,h2.symm⟩
theorem Grw.conv {O O':Nat→Option Obj→Prop} {w X:World} (h:Grw O w X) (hO:∀b,b<w.heap.size→O b w.heap[b]?→O' b w.heap[b]?):Grw O' w X:=
 ⟨h.os,h.tape,h.output,h.size,fun b hb hne=>h.block b hb (fun ho=>hne (hO b hb ho)),h.shape⟩
section
variable {P:Program} {ops:Array Oper} {Q:Exit→Act→World→Prop} {w:World} {tail:List Oper} {l:List (Nat × Value)} {o:Oper} {a:Act} {N d:Nat} {O:Nat→Prop} {oc:List (Nat × (Nat→Prop))} {news:List (Nat × TypeId)}
theorem tm {B:Nat} (hB:B=w.heap.size) (hO:∀p∈oc,∀b,p.2 b→O b) {X:World} (h:Grw (j7 (fA B oc news)) w X):Grw (fun b _=>O b) w X:=h.conv fun b hb ⟨p,hp,hpo⟩=>by
 rcases j3 hp with ⟨q,h1,rfl⟩ | ⟨q,h1,rfl⟩
 · exact hO q h1 b hpo
 · have h2:B≤b:=hpo.1;omega
theorem C8 {k B:Nat} (hB:B=w.heap.size) (hO:∀p∈oc,∀b,p.2 b→O b) {X:World} (h:Grw (uH (fA B oc news) k) w X):Grw (fun b _=>O b) w X:=
 tm hB hO (news:=news) (h.conv fun b _ ⟨p,hp,_,hpo⟩=>⟨p,hp,hpo⟩)
theorem x8 {N:Nat} {a:Act} {w:World} {l:List Oper} {sl:List (Nat × Value)} (ha:Has ds a N sl) (O:Nat→Prop) (oc:List (Nat × (Nat→Prop))) (news:List (Nat × TypeId)) (fl:List Bool) (nds:List NdB) (hO:∀p∈oc,∀b,p.2 b→O b)
 (h:dg P l.toArray (Grw (fun b _=>O b) w) (fun g=>gx P l.toArray (fA w.heap.size oc news) w Q (l.drop fl.length) nds g []) (pick fl l) a)
 (hB:iH l.toArray fl fl.length N (nds.map fun d=>(d.k,d.deps))=true) :
 nN P l Q a w:=by
 obtain⟨afin,h1,h2⟩:=iJ _ _ h;exact o7 (fA w.heap.size oc news) fl nds (by rw[ha.size];exact hB) ⟨afin,iV (fun X hX=>tm rfl hO hX) _ _ h1,h2⟩
theorem kr {id N:Nat} {a:Act} {w:World} {l:List Oper} {sl:List (Nat × Value)} (ha:Has ds a N sl) (O:Nat→Prop) (oc:List (Nat × (Nat→Prop))) (news:List (Nat × TypeId)) (fl:List Bool) (nds:List NdB) (hm:P.follows .mixedOrders=true) (hO:∀p∈oc,∀b,p.2 b→O b)
 (h:dg P l.toArray (Grw (fun b _=>O b) w) (fun g=>gx P l.toArray (fA w.heap.size oc news) w Q (l.drop fl.length) nds g []) (pick fl l) a)
 (hB:iH l.toArray fl fl.length N (nds.map fun d=>(d.k,d.deps))=true) :
 (Code.region id l.toArray true).wp P Q a w:=wp_region_any hm (x8 ha O oc news fl nds hO h hB)
theorem xy {sts:List xP} {k:Nat} {R:Value→World→Prop} {X:World} {r:Result Next} (h:cE P R X r):fa P sts k R X r:=by
 cases r with
 | ok nx w'=>
  cases nx<;>simp only[cE] at h<;>simp only[fa]
  case value u=>exact⟨.inl h.1,h.2⟩
  case enter f args=>exact⟨h.1,h.2.mono fun e X'' ⟨v,h1,h2,h3⟩=>⟨v,h1,.inl h2,h3⟩⟩
 | halt x w'=>simp only[cE] at h
theorem iv {nds:List NdB} {k:Nat} {deps:List Nat} {R:Value→World→Prop} {Φ:List (Nat × (World→Prop))} (ha:Has ds a N l) (ho:ops[k]? = some o) (hd:o.dst=some d) (hN:Nat.blt d N=true) (hO:∀p∈oc,∀b,p.2 b→O b)
 (hst:∀v X X',R v X→Below X.heap.size X X'→R v X') (hst2:∀p∈oc,∀v X X',R v X→Kp p.2 0 X X'→R v X') (hst3:∀p∈news,∀v X X',R v X→Grw (mH w.heap.size p.2) X X'→R v X') (hx:∀X,Grw (fun b _=>O b) w X→told deps Φ X→cE P R X ((execOp a.eval o).run P X))
 (k':∀v a',Has ds a' N ((d,v)::l)→gx P ops (fA w.heap.size oc news) w Q tail nds a' ((k,R v)::Φ)):gx P ops (fA w.heap.size oc news) w Q tail (⟨k,deps,fun _=>R⟩::nds) a Φ:=by
 refine⟨⟨fun v X X'=>hst v X X',fun p hp _ _ v X X' hR hX=>?_,fun _ _ _ _ h=>h⟩,fun o' ho' X hX hE hΦ=>?_,fun v=>?_⟩
 · rcases j3 hp with ⟨q,h1,rfl⟩ | ⟨q,h1,rfl⟩
   · exact hst2 q h1 v X X' hR hX
   · exact hst3 q h1 v X X' hR hX.1
 · rw[ho] at ho';cases ho'
   exact xy (hx X (C8 rfl hO hX) hΦ)
 · have e:aI ops k=some d:=by unfold aI;rw[ho];exact hd
   show gx P ops (fA w.heap.size oc news) w Q tail nds (a.put (aI ops k) v) _;rw[e];exact k' v _ (ha.put hN v)
def IsRow (v:Value) (T:TypeId) (sz n:Nat) (xs:List Value) (_:Value) (X:World):Prop:=X.ownsRow 0 T sz v n xs
theorem IsRow.stable {v:Value} {T:TypeId} {sz n:Nat} {xs:List Value} (u:Value) (X X':World) (h:IsRow v T sz n xs u X) (hb:Below X.heap.size X X'):IsRow v T sz n xs u X':=gZ h hb
def NewAny (B n:Nat) (T:TypeId) (v:Value) (X:World):Prop:=∃b,v=.pointer (some ⟨b,0,none⟩)∧B≤b∧∃cs,Box X b cs T∧cs.size=n
theorem NewAny.stable {B n:Nat} {T:TypeId} (v:Value) (X X':World) (h:NewAny B n T v X) (hb:Below X.heap.size X X'):NewAny B n T v X':=by
 obtain⟨b,h1,h2,cs,h3,h4⟩:=h;exact⟨b,h1,h2,cs,h3.below hb,h4⟩
theorem NewAny.newT {B n B':Nat} {T T':TypeId} (v:Value) (X X':World) (h:NewAny B n T v X) (hX:Grw (mH B' T') X X'):NewAny B n T v X':=by
 obtain⟨b,h1,h2,cs,h3,h4⟩:=h;obtain⟨cs',h5,h6⟩:=hX.shape b cs T (0,0) h3;exact⟨b,h1,h2,cs',h6,by rw[h5];exact h4⟩
theorem NewB.newT {B B':Nat} {f:Nat→Value} {cs:Array Value} {T T':TypeId} (hT:T≠T') (v:Value) (X X':World) (h:NewB B f cs T v X) (hX:Grw (mH B' T') X X'):NewB B f cs T v X':=by
 obtain⟨b,h1,h2,h3⟩:=h;refine⟨b,h1,h2,(hX.block b h3.lt ?_).trans h3⟩
 rintro ⟨_,cs',fr,e⟩
 rw[show X.heap[b]? = some (.cells cs T (0,0)) from h3] at e;injection e with e;injection e with _ e;exact hT e
theorem yM {X:World} {B n:Nat} {cs:Array Value} {T:TypeId} {r:Result Next} (hx:r=.ok (.value (.pointer (some ⟨X.heap.size,0,none⟩))) (X.alloc (.cells cs T))) (hB:B≤X.heap.size) (hn:cs.size=n):cE P (NewAny B n T) X r:=by
 subst hx;exact⟨aV (Below.refl _ _) _,X.heap.size,rfl,hB,cs,Box.new X cs T,hn⟩
def StoY (B:Nat) (T:TypeId) (x:Nat) (Y:Act→Value→Prop) (g:Act) (_:Value) (X:World):Prop:=∃b,g.tmps[x]? = some (.pointer (some ⟨b,0,none⟩))∧B≤b∧∃v,Y g v∧Box X b v.cells T
def Dl (y:Nat) (g:Act) (v:Value):Prop:=g.tmps[y]? = some v
def yo (u:Value) (_:Act) (v:Value):Prop:=v=u
theorem qT {nds:List NdB} {k kx x y:Nat} {T:TypeId} {Y:Act→Value→Prop} {deps:List Nat} {Φ:List (Nat × (World→Prop))} (ha:Has ds a N l) (ho:ops[k]? = some o) (hop:o.op=.store T (.tmp x) (.tmp y)∧o.dst=none) (hk:news=[(k,T)]) (hO:∀p∈oc,∀b,p.2 b→b<w.heap.size)
 (hdx:deps.contains kx=true∧aI ops kx=some x) {vx vy:Value} (hYa:Y a vy) (hYg:∀g' v,(∀j∈deps,∀t,aI ops j=some t→g'.tmps[t]? = a.tmps[t]?)→Y a v→Y g' v) (hvx:look l x=some vx) (hvy:look l y=some vy) {n:Nat} (hs:(P.info? T).map (·.size)=some n) (hin:∀q∈oc,q.1∉deps)
 (hx:∀X,Grw (fun b _=>∃p∈oc,p.2 b) w X→told deps Φ X→NewAny w.heap.size n T vx X∧vy.cells.size=n∧vy.cells.toList.all (·.oneCell')=true)
 (k':∀v,gx P ops (fA w.heap.size oc news) w Q tail nds a ((k,StoY w.heap.size T x Y a v)::Φ)):gx P ops (fA w.heap.size oc news) w Q tail (⟨k,deps,StoY w.heap.size T x Y⟩::nds) a Φ:=by
 refine⟨⟨fun v X X' ⟨b,h1,h2,u,h3,h4⟩ hb=>⟨b,h1,h2,u,h3,h4.below hb⟩,fun p hp hne _ v X X' ⟨b,h1,h2,u,h3,h4⟩ hX=>?_,fun g' v X hg ⟨b,h1,h2,u,h3,h4⟩=>?_⟩,fun o' ho' X hX hE hΦ=>?_,fun v=>?_⟩
 · rcases j3 hp with ⟨q,q1,rfl⟩ | ⟨q,q1,rfl⟩
   · exact⟨b,h1,h2,u,h3,(hX.1.block b h4.lt (fun h=>by have:=hO q q1 b h;omega)).trans h4⟩
   · rw[hk] at q1;rw[List.mem_singleton.1 q1] at hne;exact absurd rfl hne
 · exact⟨b,(hg kx (List.contains_iff_mem.1 hdx.1) x hdx.2).trans h1,h2,u,hYg g' u hg h3,h4⟩
 · rw[ho] at ho';cases ho'
   obtain⟨⟨b,rfl,h2,cs,h3,h4⟩,h5,h6⟩:=hx X (by
    refine hX.conv fun b hb ⟨p,hp,_,hpo⟩=>?_;rcases j3 hp with ⟨q,q1,rfl⟩ | ⟨q,q1,rfl⟩
    · exact⟨q,q1,hpo⟩
    · have h2:w.heap.size≤b:=hpo.1;omega) hΦ
   have hl:=wu (P:=P) (ρ:=a.eval) (o:=o) (ty:=T) (X:=X) hop.1 (ha.ev (o:=.tmp x) hvx) (ha.ev (o:=.tmp y) hvy) rfl (by rw[hs];simp[h5]) h3 h6 (by rw[show vy.cells.toList.length=cs.toList.length by simp[h4,h5]];exact Nat.beq_refl _)
   have hmem:(k,mH w.heap.size T,fun _ _=>True)∈fA w.heap.size oc news:=by unfold fA;rw[hk];exact List.mem_append_right _ (List.mem_singleton.2 rfl)
   have hcv:∀X',Kp (fun k'=>k'=b) 0 X X'→wv (fA w.heap.size oc news) k X X':=fun X' hK=>.inr ⟨_,hmem,rfl,hK.1.conv fun b' hb' e=>by
    have e':b'=b:=e;subst e'
    exact⟨h2,cs,(0,0),h3⟩,trivial⟩
   have hR:∀u X',IsBox b T vy.cells.toList.toArray u X'→StoY w.heap.size T x Y a u X':=fun u X' hB=>⟨b,ha.slot x _ hvx,h2,vy,hYa,by simpa [IsBox] using hB⟩;generalize (execOp a.eval o).run P X=r at hl
   cases r with
   | halt e X'=>simp only[fV] at hl
   | ok nx X'=>
    cases nx<;>simp only[fV] at hl<;>simp only[fa]
    case value u=>exact⟨hcv _ hl.1,hR _ _ hl.2⟩
    case skip=>exact⟨hcv _ hl.1,hR _ _ hl.2⟩
    case enter f args=>exact⟨hl.1,hl.2.mono fun e X'' ⟨v,g1,g2,g3⟩=>⟨v,g1,hcv _ g2,hR _ _ g3⟩⟩
 · have e:aI ops k=none:=by unfold aI;rw[ho];exact hop.2
   show gx P ops (fA w.heap.size oc news) w Q tail nds (a.put (aI ops k) v) _;rw[e];exact k' v
theorem pU {Φ:List (Nat × (World→Prop))} (hO:∀p∈oc,∀b,p.2 b→O b) (h:∀X,Grw (fun b _=>O b) w X→dN Φ X→wpList P ops Q tail a X):gx P ops (fA w.heap.size oc news) w Q tail [] a Φ:=fun X hX hΦ=>h X (tm rfl hO hX) hΦ
theorem qR {deps:List Nat} {u:Value}:∀g' v,(∀j∈deps,∀t,aI ops j=some t→g'.tmps[t]? = a.tmps[t]?)→yo u a v→yo u g' v:=fun g' v hg h=>h
theorem StoY.slot {B:Nat} {T:TypeId} {x y:Nat} {v vx vy:Value} {X:World} (ha:Has ds a N l) (hx:look l x=some vx) (hy:look l y=some vy) (h:StoY B T x (Dl y) a v X):∃b,vx=.pointer (some ⟨b,0,none⟩)∧B≤b∧Box X b vy.cells T:=by
 obtain⟨b,h1,h2,u,h3,h4⟩:=h;have e1:=(ha.slot x _ hx).symm.trans h1;have e2:=(ha.slot y _ hy).symm.trans h3;injection e1 with e1;injection e2 with e2;exact⟨b,e1,h2,by rw[e2];exact h4⟩
theorem StoY.val {B:Nat} {T:TypeId} {x:Nat} {v vx u:Value} {X:World} (ha:Has ds a N l) (hx:look l x=some vx) (h:StoY B T x (yo u) a v X):∃b,vx=.pointer (some ⟨b,0,none⟩)∧B≤b∧Box X b u.cells T:=by
 obtain⟨b,h1,h2,u',h3,h4⟩:=h;have e1:=(ha.slot x _ hx).symm.trans h1;injection e1 with e1;exact⟨b,e1,h2,by rw[show u'=u from h3] at h4;exact h4⟩
theorem IsVal.newT {u:Value} {B:Nat} {T:TypeId} (v:Value) (X X':World) (h:IsVal u v X) (_:Grw (mH B T) X X'):IsVal u v X':=h
theorem PairU.newT {ι:Type} {V:ι→Value} {F:ι→Prop} {B:Nat} {T:TypeId} (v:Value) (X X':World) (h:PairU V F v X) (_:Grw (mH B T) X X'):PairU V F v X':=h
theorem ExtU0.newT {ι:Type} {V:ι→Value} {F:ι→Prop} {B:Nat} {T:TypeId} (v:Value) (X X':World) (h:ExtU0 V F v X) (_:Grw (mH B T) X X'):ExtU0 V F v X':=h
theorem ExtU1.newT {ι:Type} {V:ι→Value} {F:ι→Prop} {B:Nat} {T:TypeId} (v:Value) (X X':World) (h:ExtU1 V F v X) (_:Grw (mH B T) X X'):ExtU1 V F v X':=h
def MovS (src:Nat) (g:Act) (v:Value) (_:World):Prop:=g.tmps[src]? = some v
def ExtS (src i:Nat) (g:Act) (v:Value) (_:World):Prop:=∃vs,g.tmps[src]? = some (.tuple vs)∧vs[i]? = some v
theorem MovS.get {src:Nat} {u v:Value} {X:World} (ha:Has ds a N l) (hu:look l src=some u) (h:MovS src a v X):v=u:=by
 have:=(ha.slot src _ hu).symm.trans h;injection this with this;exact this.symm
theorem ExtS.get {src i:Nat} {vs:Array Value} {v y:Value} {X:World} (ha:Has ds a N l) (hu:look l src=some (.tuple vs)) (hi:vs[i]? = some y) (h:ExtS src i a v X):v=y:=by
 obtain⟨us,h1,h2⟩:=h;have:=(ha.slot src _ hu).symm.trans h1;injection this with this;injection this with this;rw[←this,hi] at h2;exact(Option.some.inj h2).symm
theorem uJ {nds:List NdB} {k:Nat} {deps:List Nat} {R:Act→Value→World→Prop} {Φ:List (Nat × (World→Prop))} (ha:Has ds a N l) (ho:ops[k]? = some o) (hd:o.dst=some d) (hN:Nat.blt d N=true)
 (hR:∀g v X X',R g v X→R g v X') (hdep:∀g' v X,(∀j∈deps,∀t,aI ops j=some t→g'.tmps[t]? = a.tmps[t]?)→R a v X→R g' v X) (hx:∀X,told deps Φ X→∃v,(execOp a.eval o).run P X=.ok (.value v) X∧R a v X)
 (k':∀v a',Has ds a' N ((d,v)::l)→gx P ops (fA w.heap.size oc news) w Q tail nds a' ((k,R a v)::Φ)):gx P ops (fA w.heap.size oc news) w Q tail (⟨k,deps,R⟩::nds) a Φ:=by
 refine⟨⟨fun v X X' h _=>hR a v X X' h,fun p hp _ _ v X X' h _=>hR a v X X' h,hdep⟩,fun o' ho' X hX hE hΦ=>?_,fun v=>?_⟩
 · rw[ho] at ho';cases ho'
   obtain⟨v,h1,h2⟩:=hx X hΦ;rw[h1];exact⟨.inl (Below.refl _ _),h2⟩
 · have e:aI ops k=some d:=by unfold aI;rw[ho];exact hd
   show gx P ops (fA w.heap.size oc news) w Q tail nds (a.put (aI ops k) v) _;rw[e];exact k' v _ (ha.put hN v)
theorem mA {nds:List NdB} {k kx src:Nat} {deps:List Nat} {Φ:List (Nat × (World→Prop))} (ha:Has ds a N l) (ho:ops[k]? = some o) (hop:o.op=.move (.tmp src)∨o.op=.assign (.tmp src)) (hd:o.dst=some d) (hN:Nat.blt d N=true) (hdx:deps.contains kx=true∧aI ops kx=some src) {u:Value} (hu:look l src=some u)
 (k':∀v a',Has ds a' N ((d,v)::l)→gx P ops (fA w.heap.size oc news) w Q tail nds a' ((k,MovS src a v)::Φ)):gx P ops (fA w.heap.size oc news) w Q tail (⟨k,deps,MovS src⟩::nds) a Φ:=
 uJ ha ho hd hN (fun _ _ _ _ h=>h) (fun g' v X hg h=>(hg kx (List.contains_iff_mem.1 hdx.1) src hdx.2).trans h) (fun X _=>⟨u,by
  have hev:a.eval (.tmp src)=u:=ha.ev (o:=.tmp src) hu;unfold execOp
  rcases hop with h | h<;>simp[h,hev],ha.slot src _ hu⟩) k'
theorem nL {nds:List NdB} {k kx src i:Nat} {deps:List Nat} {Φ:List (Nat × (World→Prop))} (ha:Has ds a N l) (ho:ops[k]? = some o) (hop:o.op=.extract (.tmp src) i) (hd:o.dst=some d) (hN:Nat.blt d N=true) (hdx:deps.contains kx=true∧aI ops kx=some src) {u:Value} (hu:look l src=some u)
 (hx:∀X,told deps Φ X→∃vs y,u=.tuple vs∧vs[i]? = some y)
 (k':∀v a',Has ds a' N ((d,v)::l)→gx P ops (fA w.heap.size oc news) w Q tail nds a' ((k,ExtS src i a v)::Φ)):gx P ops (fA w.heap.size oc news) w Q tail (⟨k,deps,ExtS src i⟩::nds) a Φ:=
 uJ ha ho hd hN (fun _ _ _ _ h=>h) (fun g' v X hg ⟨vs,h,h2⟩=>⟨vs,(hg kx (List.contains_iff_mem.1 hdx.1) src hdx.2).trans h,h2⟩) (fun X hΦ=>by
  obtain⟨vs,y,h1,h2⟩:=hx X hΦ;subst h1;have hev:a.eval (.tmp src)=.tuple vs:=ha.ev (o:=.tmp src) hu;refine⟨y,?_,vs,ha.slot src _ hu,h2⟩;unfold execOp
  simp[hop,hev,Instr.extract,h2]) k'
def BoxY (b:Nat) (T:TypeId) (y:Nat) (g:Act) (_:Value) (X:World):Prop:=∃u,g.tmps[y]? = some u∧Box X b u.cells T
theorem BoxY.get {b:Nat} {T:TypeId} {y:Nat} {v vy:Value} {X:World} (ha:Has ds a N l) (hy:look l y=some vy) (h:BoxY b T y a v X):Box X b vy.cells T:=by
 obtain⟨u,h1,h2⟩:=h;have:=(ha.slot y _ hy).symm.trans h1;injection this with this;rw[this];exact h2
def RowU (V:Option Addr→Nat→Value) (B:Nat) (T:TypeId) (sz n:Nat) (xs:List Value) (v:Value) (X:World):Prop:=∃A c,v=V A c∧X.ownsRow B T sz (.slice A n c) n xs
theorem RowU.stable {V:Option Addr→Nat→Value} {B:Nat} {T:TypeId} {sz n:Nat} {xs:List Value} (v:Value) (X X':World) (h:RowU V B T sz n xs v X) (hb:Below X.heap.size X X'):RowU V B T sz n xs v X':=by
 obtain⟨A,c,h1,h2⟩:=h;exact⟨A,c,h1,gZ h2 hb⟩
theorem RowU.newT {V:Option Addr→Nat→Value} {B B':Nat} {T T':TypeId} {sz n:Nat} {xs:List Value} (hT:T≠T') (v:Value) (X X':World) (h:RowU V B T sz n xs v X) (hX:Grw (mH B' T') X X'):RowU V B T sz n xs v X':=by
 obtain⟨A,c,h1,h2,h3⟩:=h;refine⟨A,c,h1,h2,?_⟩;rcases h3 with h3 | ⟨g,cap,cur,e1,e2,e3,e4⟩
 · exact .inl h3
 · refine .inr ⟨g,cap,cur,e1,e2,(hX.block g (Array.getElem?_eq_some_iff.1 e3).1 ?_).trans e3,e4⟩
   rintro ⟨_,cs,fr,e⟩
   rw[e3] at e;injection e with e;injection e with _ e;exact hT e
theorem uU {V:Option Addr→Nat→Value} {f:FuncId} {args:Array Value} {X:World} {B B' n sz:Nat} {T:TypeId} {xs:List Value} {r:Result Next} (hx:r=.ok (.enter f args) X) (hc:Calls P f args X fun e X'=>∃A c,e=.returned (V A c)∧X'.ownsRow B' T sz (.slice A n c) n xs∧Below X.heap.size X X') (hB:B≤B'):cE P (RowU V B T sz n xs) X r:=by
 subst hx;exact⟨rfl,hc.mono fun e X' ⟨A,c,he,ho,hb⟩=>⟨_,he,hb,A,c,rfl,cm ho hB⟩⟩
end
theorem St.addRow {M:List Nat} {w0 w X:World} {L L':List Ent} {T2:TypeId} {sz n:Nat} {v:Value} {xs:List Value} (h:St M w0 w L) (h':St M w0 X L') (hL:∀e∈L',∀b,e.dom b→b<w.heap.size) (hr:X.ownsRow w.heap.size T2 sz v n xs):St M w0 X (.row v n T2 sz xs::L'):=by
 refine⟨h'.os,h'.tape,h'.output,h'.size,h'.block,fun e he=>?_,fun e he k hk=>?_,List.pairwise_cons.2 ⟨fun e he k hk hek=>?_,h'.sep⟩⟩
 · rcases List.mem_cons.1 he with rfl | he
   · exact cm hr (Nat.zero_le _)
   · exact h'.ok e he
 · rcases List.mem_cons.1 he with rfl | he
   · have:=hr.lt k hk
     exact⟨.inl (Nat.le_trans h.size this.1),this.2⟩
   · exact h'.new e he k hk
 · have h1:=(hr.lt k hk).1
   have h2:=hL e he k hek;omega
open Go.RowKit Go.Sort
theorem oZ {α:Type} {κ:α→Int} {l:List α} {x:α} (h:cj κ (l ++ [x])) (i:Int):cc κ (l ++ [x]) i=if i=κ x then some x else cc κ l i:=by
 unfold cc;rw[List.find?_append];unfold cj at h;rw[List.pairwise_append] at h;by_cases hi:i=κ x
 · rw[if_pos hi]
   have hn:l.find? (fun y=>κ y==i)=none:=by
    rw[List.find?_eq_none];intro y hy;have:=h.2.2 y hy x (List.mem_singleton.2 rfl);simp;omega
   rw[hn,hi];simp
 · rw[if_neg hi]
   have hx:[x].find? (fun y=>κ y==i)=none:=by
    rw[List.find?_eq_none];intro y hy;rw[List.mem_singleton.1 hy];simp;omega
   rw[hx]
   cases l.find? (fun y=>κ y==i)<;>rfl
def nP (g:Int→Option Trn):Int→Option Value:=fun i=>(g i).map fk
def nU (g:Int→Option Dty):Int→Option Value:=fun i=>(g i).map fS
theorem BX {l:List Trn} {x:Trn} (h:cj Trn.i (l ++ [x])):eI (nP (ed l)) x.i (some (fk x))=nP (ed (l ++ [x])):=by
 funext i
 unfold eI nP ed;rw[oZ h]
 split<;>rfl
theorem BN {l:List Dty} {x:Dty} (h:cj Dty.g (l ++ [x])):eI (nU (du l)) x.g (some (fS x))=nU (du (l ++ [x])):=by
 funext i
 unfold eI nU du;rw[oZ h]
 split<;>rfl
theorem rO {α:Type} {κ:α→Int} {l:List α} (h:cj κ l) (k:Nat):cj κ (l.take k):=List.Pairwise.sublist (List.take_sublist _ _) h
theorem lS (t:Tbl) (A:Option Addr) (c:Nat) (B:Option Addr) (d:Nat) (w:World) (hr:Rd w w.heap.size A (t.ts.flatMap cw)) (hq:Rd w w.heap.size B (t.ds.flatMap cV)) (hs:SrtT t) (hl:t.ts.length≤1000∧t.ds.length≤1000) :
 Calls Tryz.prog 128 #[cH t A c B d] w fun e w'=>∃i:Nat × Nat × Nat,e=.returned (.pointer (some ⟨i.1,0,none⟩))∧St [] w w' [.box i.1 #[.map (some i.2.1),.map (some i.2.2)] 228,cF i.2.2 (nU (du t.ds)),cF i.2.1 (nP (ed t.ts))]:=by
 refine ao (N:=43) Tryz.func128 rfl rfl rfl (fun _ Y=>?_);have Z:=St.init w;refine ak (av ?_);refine nb Y rfl rfl Z fun b1 _ _ Zj Y Z=>?_;refine GO 5 ?_;intro _ Y;refine kP Y (wn rfl) rfl rfl rfl Z fun m8 _ _ hm8 Y Z=>?_;refine kP Y (wn rfl) rfl rfl rfl Z fun m9 _ _ hm9 Y Z=>?_;refine sv Y (aT (zs:=[.map none,.map none]) (pl:=[(0,1),(1,1)]) aa aa (Y.evs2 rfl) rfl rfl) fun _ Y=>?_;refine nb Y rfl rfl Z fun b11 _ X6 Ze Y Z=>?_;refine GO 1 ?_;intro _ Y;replace Z:St [] w X6 [.box b11 #[.map (some m8),.map (some m9)] 228,cF m9 (nU (du (t.ds.take 0))),cF m8 (nP (ed (t.ts.take 0))),.box b1 (cH t A c B d).cells 25]:=Z;refine GO 12 ?_;intro _ Y;refine bh Y Z [14,13,3,2,1] (fun (j:Nat)=>[(15,.int .i64 j)]) (fun (j:Nat)=>j≤t.ts.length) (fun j L=>L.set 2 (cF m8 (nP (ed (t.ts.take j))))) (fun (j:Nat)=>t.ts.length-j) (0) (Nat.zero_le _) bW (Z) ?_;intro j _ _ Zf Y Z;refine GO 6 ?_;intro _ Y;refine ar (Y.ev rfl) (fun Za=>?_) (fun Za=>?_)
 ·
  have hlt:j<t.ts.length:=by have:=of_decide_eq_true Za;omega
  obtain⟨b,o,rfl,hB,_⟩:=hr.opened (aO cK aq ab)
  have hput:eI (nP (ed (t.ts.take j))) t.ts[j].i (some (fk t.ts[j]))=nP (ed (t.ts.take (j+1))):=by
   rw[List.take_succ_eq_append_getElem hlt];exact BX (by rw[←List.take_succ_eq_append_getElem hlt];exact rO hs.ts _)
  refine wp_skip (ag (ak (wp_block (ak (av ?_)))));refine sv Y (aw (i:=j) (sz:=4) Tryz.underlying22 aa (Y.ev rfl) (Y.ev rfl) ab ab rfl) fun _ Y=>?_;refine sv (v:=fk t.ts[j]) Y (ah aa aa (Y.ev rfl) (bb cK (Z.rd0 hr) hlt)) fun _ Y=>?_;refine na (.agg #[.int .i64 0,.int .i64 0,.int .i64 0,.bool false]) Y rfl Z fun b5 _ _ Zk Y Z=>?_;refine sw Y Z 0 fun _ Z=>?_;refine ae (ag ?_);apply aU Y (gB 7) _ aa
  case h=>
   refine GO 6 ?_;intro _ Y;refine qv (v:=fk t.ts[j]) Y (fun X hX=>ah aa aa (Y.ev rfl) ((Z.grow hX).cellsAll (i:=0) rfl)) fun _ Y=>?_;refine aA ?_;refine bc fun _ Zb Zg=>?_;have Z:=Z.grow Zb;refine gN (wn rfl) ⟨rfl,rfl⟩ Tryz.underlying225 Tryz.underlying3 (Y.ev rfl) (Y.ev rfl) (Y.ev rfl) Z (i:=3) rfl fun _ Z=>?_;refine GO 8 ?_;intro _ Y;exact⟨j+1,by omega,hlt,Y.re bW,(hput▸(Z.sub (.cons _ (.cons_cons _ (.cons_cons _ (.cons_cons _ (.cons_cons _ .slnil)))))))⟩
  case hB=>kernel_rfl
  case hst=>rfl
 ·
  have hge:t.ts.length≤j:=by have:=of_decide_eq_false Za;omega
  obtain rfl:j=t.ts.length:=by have:=Zf;omega
  rw[List.take_length] at Z;refine GO 15 ?_;intro _ Y;refine bh Y Z [29,28,3,2] (fun (k:Nat)=>[(30,.int .i64 k)]) (fun (k:Nat)=>k≤t.ds.length) (fun k L=>L.set 1 (cF m9 (nU (du (t.ds.take k))))) (fun (k:Nat)=>t.ds.length-k) (0) (Nat.zero_le _) bW (Z) ?_;intro k _ _ Zh Y Z;refine GO 6 ?_;intro _ Y;refine ar (Y.ev rfl) (fun Zc=>?_) (fun Zc=>?_)
  ·
   have hlt:k<t.ds.length:=by have:=of_decide_eq_true Zc;omega
   obtain⟨b,o,rfl,hB,_⟩:=hq.opened (aO dm aq ab)
   have hput:eI (nU (du (t.ds.take k))) t.ds[k].g (some (fS t.ds[k]))=nU (du (t.ds.take (k+1))):=by
    rw[List.take_succ_eq_append_getElem hlt];exact BN (by rw[←List.take_succ_eq_append_getElem hlt];exact rO hs.ds _)
   refine wp_skip (ag (ak (wp_block (ak (av ?_)))));refine sv Y (aw (i:=k) (sz:=3) Tryz.underlying23 aa (Y.ev rfl) (Y.ev rfl) ab ab rfl) fun _ Y=>?_;refine sv (v:=fS t.ds[k]) Y (ah aa aa (Y.ev rfl) (bb dm (Z.rd0 hq) hlt)) fun _ Y=>?_;refine na (.agg #[.int .i64 0,.bool false,.int .i64 0]) Y rfl Z fun b7 _ _ Zl Y Z=>?_;refine sw Y Z 0 fun _ Z=>?_;refine ae (ag ?_);apply aU Y (gB 7) _ aa
   case h=>
    refine GO 6 ?_;intro _ Y;refine qv (v:=fS t.ds[k]) Y (fun X hX=>ah aa aa (Y.ev rfl) ((Z.grow hX).cellsAll (i:=0) rfl)) fun _ Y=>?_;refine aA ?_;refine bc fun _ Zd Zi=>?_;have Z:=Z.grow Zd;refine gN (wn rfl) ⟨rfl,rfl⟩ Tryz.underlying226 Tryz.underlying3 (Y.ev rfl) (Y.ev rfl) (Y.ev rfl) Z (i:=2) rfl fun _ Z=>?_;refine GO 8 ?_;intro _ Y;exact⟨k+1,by omega,hlt,Y.re bW,(hput▸(Z.sub (.cons _ (.cons_cons _ (.cons_cons _ (.cons_cons _ (.cons_cons _ .slnil)))))))⟩
   case hB=>kernel_rfl
   case hst=>rfl
  ·
   have hge:t.ds.length≤k:=by have:=of_decide_eq_false Zc;omega
   obtain rfl:k=t.ds.length:=by have:=Zh;omega
   rw[List.take_length] at Z;refine GO 12 ?_;intro _ Y;refine aP Y rfl rfl ?_;exact⟨(b11,m8,m9),rfl,(Z.sub (.cons_cons _ (.cons_cons _ (.cons_cons _ (.cons _ .slnil)))))⟩
def l5 (bt m1 m2:Nat) (t:Tbl):Ent:=.inv (fun b=>b=bt∨b=m1∨b=m2) (fun X=>Box X bt #[.map (some m1),.map (some m2)] 228∧MapF X m1 (nP (ed t.ts))∧MapF X m2 (nU (du t.ds))∧m1≠m2)
 (fun X X' ⟨h1,⟨es,ck,h2,h2'⟩,⟨es',ck',h3,h3'⟩,h4⟩ hb=>⟨(hb bt (.inl rfl)).trans h1,⟨es,ck,(hb m1 (.inr (.inl rfl))).trans h2,h2'⟩,⟨es',ck',(hb m2 (.inr (.inr rfl))).trans h3,h3'⟩,h4⟩)
theorem yy {M:List Nat} {w X:World} {bt m1 m2:Nat} {t:Tbl} {L:List Ent} (h:St M w X (.box bt #[.map (some m1),.map (some m2)] 228::cF m2 (nU (du t.ds))::cF m1 (nP (ed t.ts))::L)):St M w X (l5 bt m1 m2 t::L):=by
 have k1:=h.at_ (i:=0) rfl;have k2:=h.at_ (i:=1) rfl;have k3:=h.at_ (i:=2) rfl
 have hne:m1≠m2:=fun e=>by
  have Y:=(List.pairwise_cons.1 (List.pairwise_cons.1 h.sep).2).1 (cF m1 (nP (ed t.ts))) (List.mem_cons_self) m2;exact Y rfl e.symm
 have Y:St M w X (.inv (fun b=>b=bt∨b=m2) (fun _=>True) (fun _ _ h _=>h)::cF m1 (nP (ed t.ts))::L):=h.fuse2 (fun b hb=>hb) trivial
 exact Y.fuse2 (fun b hb=>by
  rcases hb with hb | hb | hb
  · exact .inl (.inl hb)
  · exact .inr hb
  · exact .inl (.inr hb)) ⟨k1,k3,k2,hne⟩
theorem Aa {t:Tbl} {r:Rcd} (h5:r.e.k≠5) (h4:r.e.k≠4):eI (nP (ed t.ts)) r.e.t (some (fk (sj t r)))=nP (ed (en t r).ts):=by
 funext i
 unfold en;rw[if_neg h5];unfold eI nP;show _=(ed (if r.e.k=4 then pJ Trn.i t.ts r.e.t else jV Trn.i t.ts (sj t r)) i).map fk;rw[if_neg h4];unfold ed;rw[sN];show(if i=r.e.t then _ else _)=(if i=r.e.t then _ else _:Option Trn).map fk
 split<;>rfl
theorem yU {t:Tbl} {r:Rcd} (h5:r.e.k≠5) (h4:r.e.k=4):eI (nP (ed t.ts)) r.e.t none=nP (ed (en t r).ts):=by
 funext i
 unfold en;rw[if_neg h5];unfold eI nP;show _=(ed (if r.e.k=4 then pJ Trn.i t.ts r.e.t else jV Trn.i t.ts (sj t r)) i).map fk;rw[if_pos h4];unfold ed;rw[Ah]
 split<;>rfl
theorem vg {t:Tbl} {r:Rcd} (h5:r.e.k≠5):(en t r).ds=jU t r:=by unfold en;rw[if_neg h5]
theorem Ac {t:Tbl} {r:Rcd} (h1:dL r.e=true) (h2:du t.ds r.e.g=none):eI (nU (du t.ds)) r.e.g (some (fS ⟨r.e.g,r.e.f,r.l⟩))=nU (du (jU t r)):=by
 funext i
 unfold jU;rw[if_pos ⟨h1,h2⟩];unfold eI nU du;rw[sN]
 split<;>rfl
theorem Cj {t:Tbl} {r:Rcd} (h:¬(dL r.e=true∧du t.ds r.e.g=none)):jU t r=t.ds:=by unfold jU;rw[if_neg h]
theorem Ce (t:Tbl) (r:Rcd) (bt m1 m2:Nat) (w:World) (hB:Box w bt #[.map (some m1),.map (some m2)] 228) (hm1:MapF w m1 (nP (ed t.ts))) (hm2:MapF w m2 (nU (du t.ds))) (hne:m1≠m2) :
 Calls Tryz.prog 130 #[.pointer (some ⟨bt,0,none⟩),.int .i64 r.l,dM r.e] w fun e w'=>e=.returned (.tuple #[])∧St [m1,m2] w w' [cF m1 (nP (ed (en t r).ts)),cF m2 (nU (du (en t r).ds))]:=by
 have hmm:kK w [m1,m2]:=fun b hb=>by
  rcases List.mem_cons.1 hb with rfl | hb
  · exact hm1.noCells
  · rw[List.mem_singleton.1 hb];exact hm2.noCells
 refine ao (N:=82) Tryz.func130 rfl rfl rfl (fun _ Z=>?_);have U:=St.initM2 hm1 hm2 hne;refine ak (av ?_);refine nb Z rfl rfl U fun b5 _ _ Zv Z U=>?_;refine GO 10 ?_;intro _ Z;refine ar (Z.ev rfl) (fun Zg=>?_) (fun Zg=>?_)
 ·
  have r5:r.e.k=5:=by simpa using Zg
  have r5':en t r=t:=by unfold en;rw[if_pos r5]
  refine wp_ret (mu ?_);refine Cl Z rfl ?_;exact⟨rfl,by rw[r5'];exact(U.sub (.cons _ (.cons_cons _ (.cons_cons _ .slnil))))⟩
 ·
  have r5:r.e.k≠5:=by simpa using Zg
  refine wp_skip (ag (ak (ak ?_)));apply kr Z (fun _=>False) [] [(11,124)] [false,false,false,false,false,false,false,false,false,false,true,true] _ aa dZ
  case h=>
   refine GO 2 ?_;intro _ Z;refine qv Z (fun X hX=>fy 1 (Z.ev rfl)) fun _ Z=>?_;refine qv Z (fun X hX=>lx (Z.ev rfl) ((((U.grow (Grw.below hX)).keptL).box hmm hB).cells 1)) fun _ Z=>?_;refine GO 1 ?_;intro _ Z;refine qv Z (fun X hX=>lx (Z.ev rfl) ((U.grow (Grw.below hX)).cell (i:=0) rfl rfl)) fun _ Z=>?_;refine qv Z (fun X hX=>aY (v':=.tuple #[fS ((du t.ds r.e.g).getD ⟨0,false,0⟩),.bool (du t.ds r.e.g).isSome]) (by unfold nU;cases du t.ds r.e.g<;>rfl) (mS (z:=.agg #[.int .i64 0,.bool false,.int .i64 0]) Tryz.underlying226 Tryz.underlying3 aa (Z.ev rfl) (Z.ev rfl) ((U.grow (Grw.below hX)).at_ (i:=2) rfl))) fun _ Z=>?_;refine GO 4 ?_;intro _ Z;apply iv (O:=(fun _=>False)) (k:=10) (deps:=[]) (R:=NewAny _ 3 _) Z rfl rfl rfl dZ NewAny.stable dZ (Dp NewAny.newT)
   case hx=>exact fun X hX hΦ=>yM (iL (z:=.agg #[.int .i64 0,.bool false,.int .i64 0]) aa) hX.size rfl
   intro v6 _ Z;apply qT (k:=11) (deps:=[10]) (kx:=10) (x:=6) (y:=21) (Y:=yo _) Z rfl ⟨rfl,rfl⟩ rfl dZ ⟨rfl,rfl⟩ rfl qR rfl rfl (n:=3) aa dZ
   case hx=>
    intro X hX hΦ;exact⟨(cD (k:=10) hΦ rfl rfl),rfl,rfl⟩
   intro vs11;refine pU (O:=(fun _=>False)) dZ fun _ Zh Zi=>?_;obtain⟨b6,rfl,Zq,qb6⟩:=StoY.val (v:=vs11) Z rfl (bC Zi (k:=11) rfl);have U:=U.add (Grw.below Zh) (e:=.box _ _ _) qb6 (fun b hb=>by cases hb;exact⟨Zq,Box.lt qb6⟩);refine GO 5 ?_;intro _ Z;refine sv (v:=dM r.e) Z (ah aa aa (Z.ev rfl) (U.cellsAll (i:=1) rfl)) fun _ Z=>?_;refine dz Z rfl U (iS _ _) fun _ _ Z U=>?_;refine GO 1 ?_;intro _ Z;apply bG (x:=!(du t.ds r.e.g).isSome) Z U 25 rfl 3 28
   case ht=>
    intro Zj;refine GO 3 ?_;intro _ Z;exact ae ⟨Z.midE 2,U⟩
   case hf=>
    intro Zj;refine GO 3 ?_;intro _ Z;exact ae ⟨Z.midE 2,U⟩
   case h=>
    rintro a27 Zw ⟨Zd,Zb⟩
    refine ae (ag ?_);refine sd (F:=True) Zd Zb [] [5,0,1] (fun L=>L.set 3 (cF m2 (nU (du (jU t r))))) ?_ (fun _ _ Z Za hjT=>?_)
    ·
     refine ar (Zd.ev rfl) (fun Ze=>?_) (fun Ze=>?_)
     ·
      apply aU Zd (gB 12) _ aa
      case h=>
       refine GO 2 ?_;intro _ Z;refine qv Z (fun X hX=>fy 1 (Z.ev rfl)) fun _ Z=>?_;refine qv Z (fun X hX=>lx (Z.ev rfl) ((((Zb.grow hX).keptL).box hmm hB).cells 1)) fun _ Z=>?_;refine GO 7 ?_;intro _ Z;refine qv (v:=fS ⟨r.e.g,r.e.f,r.l⟩) Z (fun X hX=>aT (zs:=[.int .i64 0,.bool false,.int .i64 0]) (pl:=[(0,1),(1,1),(2,1)]) aa aa (Z.evs2 rfl) rfl rfl) fun _ Z=>?_;refine aA ?_;refine bc fun _ Zk Zr=>?_;have U:=Zb.grow Zk;refine gN (wn rfl) ⟨rfl,rfl⟩ Tryz.underlying226 Tryz.underlying3 (Z.ev rfl) (Z.ev rfl) (Z.ev rfl) U (i:=3) rfl fun _ U=>?_;refine ae (ag ?_);have hjT:=trivial;obtain⟨u1,u2⟩:=Bool.and_eq_true_iff.1 Ze;rw[Ac u1 (by cases hq:du t.ds r.e.g with | none=>rfl | some y=>rw[hq] at u2;cases u2)] at U;exact⟨Z.re bW,U,hjT⟩
      case hB=>kernel_rfl
      case hst=>rfl
     ·
      refine wp_skip (ag ?_);have hjT:=trivial;have u0:jU t r=t.ds:=Cj (fun ⟨u1,u2⟩=>by rw[u1,u2] at Ze;cases Ze)
      have u1:cF m2 (nU (du t.ds))=cF m2 (nU (du (jU t r))):=by rw[u0]
      rw[u1] at Zb;exact⟨Zd.re bW,Zb,hjT⟩
    ·
     refine GO 9 ?_;intro _ Z;refine ar (Z.ev rfl) (fun Zl=>?_) (fun Zl=>?_)
     ·
      have r4:r.e.k=4:=by simpa using Zl
      refine ak ?_;apply aU Z (gB 6) _ aa
      case h=>
       refine GO 2 ?_;intro _ Z;refine qv Z (fun X hX=>fy 0 (Z.ev rfl)) fun _ Z=>?_;refine qv Z (fun X hX=>lx (Z.ev rfl) ((((Za.grow hX).keptL).box hmm hB).cells 0)) fun _ Z=>?_;refine GO 3 ?_;intro _ Z;refine bc fun _ Zm Zs=>?_;have U:=Za.grow Zm;refine vN (wn rfl) ⟨rfl,rfl⟩ Tryz.underlying225 Tryz.underlying3 (Z.ev rfl) (Z.ev rfl) U (i:=2) rfl fun _ U=>?_;refine ae (ag (wp_ret (mu ?_)));refine Cl Z rfl ?_;exact⟨rfl,by rw[←yU r5 r4,vg r5];exact(U.sub (.cons _ (.cons _ (.cons_cons _ (.cons_cons _ .slnil)))))⟩
      case hB=>kernel_rfl
      case hst=>rfl
     ·
      have r4:r.e.k≠4:=by simpa using Zl
      refine wp_skip (ag (ak ?_));apply aU Z [false,false,false,false,false,false,false,true] _ aa
      case h=>
       refine GO 2 ?_;intro _ Z;refine qv Z (fun X hX=>fy 0 (Z.ev rfl)) fun _ Z=>?_;refine qv Z (fun X hX=>lx (Z.ev rfl) ((((Za.grow hX).keptL).box hmm hB).cells 0)) fun _ Z=>?_;refine GO 2 ?_;intro _ Z;refine qv Z (fun X hX=>aY (v':=fk ((ed t.ts r.e.t).getD mG)) (by unfold nP;cases ed t.ts r.e.t<;>rfl) (zL (z:=.agg #[.int .i64 0,.int .i64 0,.int .i64 0,.bool false]) Tryz.underlying225 Tryz.underlying3 aa (Z.ev rfl) (Z.ev rfl) ((Za.grow hX).at_ (i:=2) rfl))) fun _ Z=>?_;refine aA ?_;apply ij (k:=7) (deps:=[]) (R:=NewB _ (fun b=>.pointer (some ⟨b,0,none⟩)) _ _) Z rfl rfl rfl NewB.stable (fun X hX hΦ=>jN (iL (z:=.agg #[.int .i64 0,.int .i64 0,.int .i64 0,.bool false]) aa) hX.size);intro v8 _ Z;refine bc fun _ Zc Zn=>?_;have U:=Za.grow Zc;have Zf:=bC Zn (k:=7) rfl;obtain⟨b8,rfl,Zt,Zf⟩:=Zf;have U:=Za.add Zc (e:=.box _ _ _) Zf (fun b hb=>by cases hb;exact⟨Zt,Box.lt Zf⟩);refine sw Z U 0 fun _ U=>?_;refine GO 6 ?_;intro _ Z;refine sv (v:=l8 ⟨0,0,((ed t.ts r.e.t).getD mG).u⟩) Z (aT (zs:=[.int .i64 0,.int .i64 0,.int .i64 0]) (pl:=[(0,1),(1,1),(2,1)]) aa aa (Z.evs2 rfl) rfl rfl) fun _ Z=>?_;refine GO 1 ?_;intro _ Z;refine sv (v:=dM r.e) Z (ah aa aa (Z.ev rfl) (U.cellsAll (i:=2) rfl)) fun _ Z=>?_;refine dz Z rfl U (oK ⟨0,0,((ed t.ts r.e.t).getD mG).u⟩ r.l r.e _) fun _ _ Z U=>?_;refine na (.agg #[.int .i64 0,.int .i64 0,.int .i64 0]) Z rfl U fun b9 _ _ Zx Z U=>?_;refine sw Z U 0 fun _ U=>?_;refine ae (ag ?_);apply aU Z (gB 19) _ aa
       case h=>
        refine GO 2 ?_;intro _ Z;refine qv Z (fun X hX=>fy 0 (Z.ev rfl)) fun _ Z=>?_;refine qv Z (fun X hX=>lx (Z.ev rfl) ((((U.grow hX).keptL).box hmm hB).cells 0)) fun _ Z=>?_;refine GO 11 ?_;intro _ Z;apply gm (x:=((ed t.ts r.e.t).getD mG).c) Z 77 rfl 3 80
        case hf=>
         intro Zo;refine GO 3 ?_;intro _ Z;exact aA (Z.midE 2)
        case ht=>
         intro Zo;refine GO 3 ?_;intro _ Z;exact aA (Z.midE 2)
        case h=>
         intro _ Z;refine qv (v:=fk (sj t r)) Z (fun X hX=>aT (zs:=[.int .i64 0,.int .i64 0,.int .i64 0,.bool false]) (pl:=[(0,1),(1,1),(2,1),(3,1)]) aa aa (Z.evs2 rfl) rfl rfl) fun _ Z=>?_;refine aA ?_;refine bc fun _ Zp Zu=>?_;have U:=U.grow Zp;refine gN (wn rfl) ⟨rfl,rfl⟩ Tryz.underlying225 Tryz.underlying3 (Z.ev rfl) (Z.ev rfl) (Z.ev rfl) U (i:=4) rfl fun _ U=>?_;refine ae ?_;refine DY Z rfl ?_;exact⟨rfl,by rw[←Aa r5 r4,vg r5];exact(U.sub (.cons _ (.cons _ (.cons _ (.cons _ (.cons_cons _ (.cons_cons _ .slnil)))))))⟩
       case hB=>kernel_rfl
       case hst=>rfl
      case hB=>kernel_rfl
      case hst=>rfl
  case hB=>kernel_rfl
end Go.Proofs.YtcfdpfmchchkaaaGreatDoor
