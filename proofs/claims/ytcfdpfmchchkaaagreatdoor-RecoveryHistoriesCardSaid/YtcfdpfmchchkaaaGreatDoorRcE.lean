/-
  Chapter 22: what the error of a record is made of.
  Chapter 22: the error of a record.
  Chapter 22: the error of a record.
  Chapter 22: the error of a history.
  Chapter 22: a table by numbers.
-/
import Derived.Test.YtcfdpfmchchkaaaGreatDoorRcC
import Derived.Test.YtcfdpfmchchkaaaGreatDoorOpEnt3
namespace Go.Proofs.YtcfdpfmchchkaaaGreatDoor
set_option maxHeartbeats 2000000
set_option maxRecDepth 4000
set_option linter.unusedVariables false
set_option linter.unusedSimpArgs false
open Go.RowKit Go.Sort
def lW (c:Chn):Value:=.agg #[.int .i64 c.l,.int .i64 c.k,.int .i64 c.u]
theorem pr (c:Chn) (n:Int) (x:Lge) (w:World) :
 Calls Tryz.prog 159 #[lW c,.int .i64 n,cY x] w fun e w'=>e=.returned (lW (sx c n x))∧Below w.heap.size w w':=by
 refine al (N:=24) Tryz.func159 rfl rfl rfl (fun _ Y=>?_);have Z:=St.init w;refine ah (ao ?_);refine nb Y rfl rfl Z fun b3 _ _ Ze Y Z=>?_;refine nb Y rfl rfl Z fun b5 _ _ Zf Y Z=>?_;refine na (.agg #[.int .i64 0,.int .i64 0,.int .i64 0]) Y rfl Z fun b6 _ _ Zg Y Z=>?_;refine ae (ag (ah ?_));apply mY (m:=4) Y (St.domAt Z (i:=2) rfl) 0 [false,false,false,false,true] _ aa
 case h=>
  refine GO 2 ?_;intro _ Y;refine qv Y (fun X hX=>lx (Y.ev rfl) ((Z.growO (i:=2) rfl hX).cell (i:=1) rfl rfl)) fun _ Y=>?_;refine GO 2 ?_;intro _ Y;apply mR (k:=4) (deps:=[]) (R:=IsBox _ _ _) Y rfl rfl IsBox.stable (fun X hX hΦ=>ke rfl (Y.ev rfl) (Y.ev rfl) rfl aa ((Z.grow hX).at_ (i:=2) rfl) rfl rfl);intro vs4;refine tw fun _ Zc Zd=>?_;have Z:=Z.growBox (i:=2) (v:=vs4) rfl Zc (ba Zd (k:=4) rfl);refine GO 1 ?_;intro _ Y;refine aN Y (wn rfl) ⟨rfl,rfl⟩ (Y.ev rfl) (Y.ev rfl) rfl aa Z (i:=2) rfl rfl rfl fun _ Z=>?_;refine GO 16 ?_;intro _ Y;refine ak (Y.ev rfl) (fun Za=>?_) (fun Za=>?_)
  ·
   refine GO 3 ?_;intro _ Y;refine aN Y (wn rfl) ⟨rfl,rfl⟩ (Y.ev rfl) (Y.ev rfl) rfl aa Z (i:=2) rfl rfl rfl fun _ Z=>?_;refine ae (dL (ag (ah (ao ?_))));refine sv Y (ai aa aa (Y.ev rfl) (Z.cellsAll (i:=2) rfl)) fun _ Y=>?_;refine sw Y Z 0 fun _ Z=>?_;refine ae (ag (wp_ret ?_));refine kN Y rfl rfl Z (i:=0) rfl aa aa ?_
   have hk:x.k=0:=by simpa using Za
   exact⟨by unfold sx;rw[if_pos hk];rfl,Z.below⟩
  ·
   refine GO 6 ?_;intro _ Y;refine ak (Y.ev rfl) (fun Zb=>?_) (fun Zb=>?_)
   ·
    refine GO 4 ?_;intro _ Y;refine aN Y (wn rfl) ⟨rfl,rfl⟩ (Y.ev rfl) (Y.ev rfl) rfl aa Z (i:=2) rfl rfl rfl fun _ Z=>?_;refine ae (dL (ag (ah (ao ?_))));refine sv Y (ai aa aa (Y.ev rfl) (Z.cellsAll (i:=2) rfl)) fun _ Y=>?_;refine sw Y Z 0 fun _ Z=>?_;refine ae (ag (wp_ret ?_));refine kN Y rfl rfl Z (i:=0) rfl aa aa ?_
    have hk:x.k≠0:=by simpa using Za
    have hk1:x.k=1:=by simpa using Zb
    exact⟨by unfold sx;rw[if_neg hk,if_pos hk1];rfl,Z.below⟩
   ·
    refine wp_skip (dL (ag (ah (ao ?_))));refine sv Y (ai aa aa (Y.ev rfl) (Z.cellsAll (i:=2) rfl)) fun _ Y=>?_;refine sw Y Z 0 fun _ Z=>?_;refine ae (ag (wp_ret ?_));refine kN Y rfl rfl Z (i:=0) rfl aa aa ?_
    have hk:x.k≠0:=by simpa using Za
    have hk1:x.k≠1:=by simpa using Zb
    exact⟨by unfold sx;rw[if_neg hk,if_neg hk1];rfl,Z.below⟩
 case hB=>kernel_rfl
 case hst=>rfl
theorem ss {h0 m:Int} {x:Lge} {b:Bool} (hm:(if b=true then 0 else h0-1)=m) (h:x.p>m):fY h0 x b=(⟨0,0,0⟩,14):=by unfold fY;rw[if_pos (by rw[hm];exact h)]
theorem xB {h0 m:Int} {x:Lge} {b:Bool} (hm:(if b=true then 0 else h0-1)=m) (h:¬x.p>m) (hp:x.p≠0):fY h0 x b=(⟨x.p,-1,-1⟩,0):=by unfold fY;rw[if_neg (by rw[hm];exact h),if_pos hp]
theorem xj {h0 m:Int} {x:Lge} {b:Bool} (hm:(if b=true then 0 else h0-1)=m) (h:¬x.p>m) (hp:x.p=0):fY h0 x b=(⟨x.p,0,0⟩,0):=by unfold fY;rw[if_neg (by rw[hm];exact h),if_neg (by rw[hp];decide)]
theorem vR (l:List Rcd) (A:Option Addr) (c:Nat) (x:Lge) (b:Bool) (w:World) (hr:Rd w w.heap.size A (l.flatMap bA)) (hn:0<l.length) (hb:1≤cX l∧cX l≤2147483647) :
 Calls Tryz.prog 156 #[.slice A l.length c,cY x,.bool b] w fun e w'=>e=.returned (.tuple #[lW (fY (cX l) x b).1,.int .i64 (fY (cX l) x b).2])∧Below w.heap.size w w':=by
 have hf:=fm hn;rw[hf] at hb;obtain⟨b',o',rfl,hB,_⟩:=hr.opened (aK aB aq hn);refine al (N:=30) Tryz.func156 rfl rfl rfl (fun _ Y=>?_);have Z:=St.init w;refine ah (ao ?_);refine nb Y rfl rfl Z fun b4 _ _ Zf h1 Z=>?_;refine na (.agg #[.int .i64 0,.int .i64 0,.int .i64 0]) h1 rfl Z fun b6 _ _ Zg h2 Z=>?_;refine GO 6 ?_;intro _ Y;refine sv Y (au (i:=0) (sz:=14) Tryz.underlying180 aa (Y.ev rfl) (Y.ev rfl) ab ab rfl) fun _ Y=>?_;refine sv Y (fy 0 (Y.ev rfl)) fun _ Y=>?_;refine sv Y (lx (Y.ev rfl) ((aW aB (Z.rd0 hr) hn) 0 _ rfl)) fun _ Y=>?_;refine GO 10 ?_;intro _ Y;refine ak (Y.ev rfl) (fun Zc=>?_) (fun Zc=>?_)
 ·
  subst Zc;refine GO 13 ?_;intro _ Zd;refine ak (Zd.ev rfl) (fun Za=>?_) (fun Za=>?_)
  ·
   have h1:=of_decide_eq_true Za;refine ah (ao ?_);refine sv Zd (ay (zs:=[.int .i64 0,.int .i64 0,.int .i64 0]) (pl:=[(0,1),(1,1),(2,1)]) aa aa (Zd.evs2 rfl) rfl rfl) fun _ Y=>?_;refine sw Y Z 0 fun _ Z=>?_;refine GO 5 ?_;intro _ Y;refine bo Y rfl rfl rfl Z (i:=0) rfl aa aa ?_;exact⟨by rw[ss (m:=0) rfl h1];rfl,Z.below⟩
  ·
   have h1:=of_decide_eq_false Za;refine GO 6 ?_;intro _ Y;refine sv Y (ay (zs:=[.int .i64 0,.int .i64 0,.int .i64 0]) (pl:=[(0,1),(1,1),(2,1)]) aa aa (Y.evs2 rfl) rfl rfl) fun _ Y=>?_;refine na (.agg #[.int .i64 0,.int .i64 0,.int .i64 0]) Y rfl Z fun b9 _ _ Ze Y Z=>?_;refine sw Y Z 0 fun _ Z=>?_;refine GO 10 ?_;intro _ Y;refine ak (Y.ev rfl) (fun Zb=>?_) (fun Zb=>?_)
   ·
    have h2:x.p≠0:=by simpa using Zb
    refine GO 2 ?_;intro _ Y;refine aN Y (wn rfl) ⟨rfl,rfl⟩ (Y.ev rfl) (Y.ev rfl) rfl aa Z (i:=0) rfl rfl rfl fun _ Z=>?_;refine GO 1 ?_;intro _ Y;refine aN Y (wn rfl) ⟨rfl,rfl⟩ (Y.ev rfl) (Y.ev rfl) rfl aa Z (i:=0) rfl rfl rfl fun _ Z=>?_;refine pk ?_;refine sv Y (ai aa aa (Y.ev rfl) (Z.cellsAll (i:=0) rfl)) fun _ Y=>?_;refine sw Y Z 1 fun _ Z=>?_;refine GO 4 ?_;intro _ Y;refine bo Y rfl rfl rfl Z (i:=1) rfl aa aa ?_;exact⟨by rw[xB (m:=0) rfl h1 h2];rfl,Z.below⟩
   ·
    have h2:x.p=0:=by simpa using Zb
    refine wp_skip (ag (ah (ao ?_)));refine sv Y (ai aa aa (Y.ev rfl) (Z.cellsAll (i:=0) rfl)) fun _ Y=>?_;refine sw Y Z 1 fun _ Z=>?_;refine GO 4 ?_;intro _ Y;refine bo Y rfl rfl rfl Z (i:=1) rfl aa aa ?_;exact⟨by rw[xj (m:=0) rfl h1 h2];rfl,Z.below⟩
 ·
  subst Zc;refine GO 11 ?_;intro _ Y;refine ak (Y.ev rfl) (fun Za=>?_) (fun Za=>?_)
  ·
   have h1:=of_decide_eq_true Za;refine ah (ao ?_);refine sv Y (ay (zs:=[.int .i64 0,.int .i64 0,.int .i64 0]) (pl:=[(0,1),(1,1),(2,1)]) aa aa (Y.evs2 rfl) rfl rfl) fun _ Y=>?_;refine sw Y Z 0 fun _ Z=>?_;refine GO 5 ?_;intro _ Y;refine bo Y rfl rfl rfl Z (i:=0) rfl aa aa ?_;exact⟨by rw[ss (m:=l[0].l-1) (by rw[hf];rfl) h1];rfl,Z.below⟩
  ·
   have h1:=of_decide_eq_false Za;refine GO 6 ?_;intro _ Y;refine sv Y (ay (zs:=[.int .i64 0,.int .i64 0,.int .i64 0]) (pl:=[(0,1),(1,1),(2,1)]) aa aa (Y.evs2 rfl) rfl rfl) fun _ Y=>?_;refine na (.agg #[.int .i64 0,.int .i64 0,.int .i64 0]) Y rfl Z fun b9 _ _ Ze Y Z=>?_;refine sw Y Z 0 fun _ Z=>?_;refine GO 10 ?_;intro _ Y;refine ak (Y.ev rfl) (fun Zb=>?_) (fun Zb=>?_)
   ·
    have h2:x.p≠0:=by simpa using Zb
    refine GO 2 ?_;intro _ Y;refine aN Y (wn rfl) ⟨rfl,rfl⟩ (Y.ev rfl) (Y.ev rfl) rfl aa Z (i:=0) rfl rfl rfl fun _ Z=>?_;refine GO 1 ?_;intro _ Y;refine aN Y (wn rfl) ⟨rfl,rfl⟩ (Y.ev rfl) (Y.ev rfl) rfl aa Z (i:=0) rfl rfl rfl fun _ Z=>?_;refine pk ?_;refine sv Y (ai aa aa (Y.ev rfl) (Z.cellsAll (i:=0) rfl)) fun _ Y=>?_;refine sw Y Z 1 fun _ Z=>?_;refine GO 4 ?_;intro _ Y;refine bo Y rfl rfl rfl Z (i:=1) rfl aa aa ?_;exact⟨by rw[xB (m:=l[0].l-1) (by rw[hf];rfl) h1 h2];rfl,Z.below⟩
   ·
    have h2:x.p=0:=by simpa using Zb
    refine wp_skip (ag (ah (ao ?_)));refine sv Y (ai aa aa (Y.ev rfl) (Z.cellsAll (i:=0) rfl)) fun _ Y=>?_;refine sw Y Z 1 fun _ Z=>?_;refine GO 4 ?_;intro _ Y;refine bo Y rfl rfl rfl Z (i:=1) rfl aa aa ?_;exact⟨by rw[xj (m:=l[0].l-1) (by rw[hf];rfl) h1 h2];rfl,Z.below⟩
theorem jM (x:Lge) (w:World) (hd:x.d.size≤100000) :
 Calls Tryz.prog 155 #[cY x] w fun e w'=>e=.returned (.int .i64 (Ce x))∧Below w.heap.size w w':=by
 refine al (N:=20) Tryz.func155 rfl rfl rfl (fun _ Y=>?_);have Z:=St.init w;refine ah (ao ?_);refine nb Y rfl rfl Z fun b1 _ _ Ze Y Z=>?_;refine GO 10 ?_;intro _ Y;apply bm Y Z 8 rfl 4 12
 case hf=>
  intro Zd;refine GO 4 ?_;intro _ Y;exact ae ⟨Y.midE 3,Z⟩
 case ht=>
  intro Zd;refine GO 4 ?_;intro _ Y;exact ae ⟨Y.midE 3,Z⟩
 case h=>
  rintro a15 Zf ⟨Zb,Zc⟩
  refine ae (ag ?_);refine ak (Zb.ev rfl) (fun Za=>?_) (fun Za=>?_)
  ·
   refine GO 7 ?_;intro _ Y;refine aD Y rfl rfl ?_
   have Y:x.t≠0∨x.p≠0:=by simpa using Za
   exact⟨by unfold Ce;rw[if_pos Y];(try rfl),Zc.below⟩
  ·
   refine wp_skip (ag (ah (ao ?_)));refine vf Zb 12 12 fun _ Y=>?_;refine GO 1 ?_;intro _ Y;refine cO Y (wn rfl) (ax a8 (Y.evs rfl) rfl) rfl rfl Zc (lM (bl x.d) _ hd) fun p16 _ _ Y Z=>?_;refine GO 1 ?_;intro _ Y;refine sv (v:=cv (cM (bl x.d)) p16.1 p16.2.1 p16.2.2.1 p16.2.2.2) Y (bD (Y.ev rfl) rfl) fun _ Y=>?_;refine GO 1 ?_;intro _ Y;refine na (.agg #[.slice none 0 0,.slice none 0 0]) Y rfl Z fun b3 _ _ Zg Y Z=>?_;refine sw Y Z 0 fun _ Z=>?_;refine GO 10 ?_;intro _ Y;refine aD Y rfl rfl ?_
   have Y:¬(x.t≠0∨x.p≠0):=by simpa using Za
   exact⟨by unfold Ce;rw[if_neg Y];(try rfl),Z.below⟩
theorem VldH.srt {l:List Rcd} {i:Nat} (h:VldH l i):bS Rcd.l (l.take i):=by
 refine List.pairwise_iff_getElem.2 fun j k hj hk hjk=>?_;have h1:=h.1;rw[List.length_take] at hj hk;rw[List.getElem_take,List.getElem_take];exact h.lt hjk ab
theorem zA (x y:Op):kO [.int .i64 x.k,.int .i64 x.a,.int .i64 x.e,.int .i64 x.c,.string x.o,.string x.n] [.int .i64 y.k,.int .i64 y.a,.int .i64 y.e,.int .i64 y.c,.string y.o,.string y.n]=decide (x=y):=by
 obtain⟨k,a,e,c,o,n⟩:=x;obtain⟨k',a',e',c',o',n'⟩:=y;rw[Bool.eq_iff_iff,decide_eq_true_eq];simp[kO,sJ]
theorem ug {x:Lge} (h:dF x=0):e8 x.o=0:=by
 unfold dF at h;rw[aQ] at h;exact h _ (.tail _ (.tail _ (.tail _ (.tail _ (.head _)))))
theorem Rd.takeF {α:Type} {f:α→List Value} {n:Nat} (hf:∀x,(f x).length=n) {w:World} {B:Nat} {A:Option Addr} {l:List α} (h:Rd w B A (l.flatMap f)) (k:Nat):Rd w B A ((l.take k).flatMap f):=fun j u hj=>by
 rw[←vt hf,List.getElem?_take] at hj
 split at hj
 · exact h j u hj
 · cases hj
theorem tR (l:List Rcd) (A:Option Addr) (c:Nat) (i:Nat) (ch:Chn) (x:Lge) (w:World) (hr:Rd w w.heap.size A (l.flatMap bA)) (hi:i<l.length) (hl:l.length≤1000) (hc:l.length≤c) (hv:VldH l i) (hb0:1≤cX l∧cX l≤2147483647) :
 Calls Tryz.prog 158 #[.slice A l.length c,.int .i64 i,lW ch,cY x] w fun e w'=>e=.returned (.int .i64 (jl l i ch x))∧Below w.heap.size w w':=by
 have hs:=hv.srt;have hf:=fm (l:=l) ab
 have hlt:(l.take i).length=i:=by rw[List.length_take];omega
 have hrt:Rd w w.heap.size A ((l.take i).flatMap bA):=hr.takeF aB i;obtain⟨b',o',rfl,hB,_⟩:=hr.opened (aK aB aq ab);refine al (N:=80) Tryz.func158 rfl rfl rfl (fun _ Y=>?_);have Z:=St.init w;refine ah (ao ?_);refine nb Y rfl rfl Z fun b6 _ _ Zn Y Z=>?_;refine nb Y rfl rfl Z fun b7 _ _ Zo Y Z=>?_;refine GO 11 ?_;intro _ Y;refine ak (Y.ev rfl) (fun Zb=>?_) (fun Zb=>?_)
 ·
  have hu:ch.u=0:=by simpa using Zb
  refine GO 7 ?_;intro _ Y;refine aD Y rfl rfl ?_;exact⟨by unfold jl;rw[if_pos hu],Z.below⟩
 ·
  have hu:ch.u≠0:=by simpa using Zb
  refine wp_skip (ag (ah ?_));apply aH Y (eZ 5) _ aa
  case h=>
   refine GO 2 ?_;intro _ Y;refine qv Y (fun X hX=>gx (l:=0) (h:=i) (sz:=14) Tryz.underlying180 aa (Y.ev rfl) rfl (Y.ev rfl) ab ab (.inr rfl) rfl) fun _ Y=>?_;refine GO 3 ?_;intro _ Y;refine aP fun _ Zc Zk=>?_;have Z:=Z.grow Zc;refine cE Y rfl Z (hlt▸kV (l.take i) hs _ c ch.u _ (Z.rd0 hrt) ab) fun _ _ Y Z=>?_;refine GO 7 ?_;intro _ Y;refine sv Y (lY Tryz.underlying219 aa (Y.ev rfl) (Y.ev rfl)) fun _ Y=>?_;refine ae (ag ?_);refine ak (Y.ev rfl) (fun Zd=>?_) (fun Zd=>?_)
   ·
    have hn:=oB Zd;refine ah ?_;apply aH Y (eZ 6) _ aa
    case h=>
     refine GO 3 ?_;intro _ Y;refine qv Y (fun X hX=>au (i:=0) (sz:=14) Tryz.underlying180 aa (Y.ev rfl) (Y.ev rfl) ab ab rfl) fun _ Y=>?_;refine qv Y (fun X hX=>fy 0 (Y.ev rfl)) fun _ Y=>?_;refine qv Y (fun X hX=>lx (Y.ev rfl) ((aW aB ((Z.grow hX).rd0 hr) (show 0<l.length by omega)) 0 _ rfl)) fun _ Y=>?_;refine av ?_;refine aP fun _ Ze Zl=>?_;have Z:=Z.grow Ze;refine GO 1 ?_;intro _ Y;refine cC Y rfl (aJ _ _ _) fun _ Y=>?_;refine GO 5 ?_;intro _ Y;refine aD Y rfl rfl ?_;exact⟨by unfold jl;rw[if_neg hu,hn,hf],Z.below⟩
    case hB=>kernel_rfl
    case hst=>rfl
   ·
    obtain⟨qk,q1,q2,q3⟩:=o8 hs Zd;rw[show ll (some ⟨b',o',none⟩) (l.take i) ch.u=some ⟨b',o'+il Rcd.l (l.take i) ch.u*14+1,none⟩ from q3] at Y;generalize il Rcd.l (l.take i) ch.u=k at qk q1 q2 q3 Y
    have hki:k<i:=by omega
    have hge:(l.take i)[k]=l[k]'ab:=List.getElem_take ..
    have hoE:e8 (l.take i)[k].e.o=0:=by rw[hge];exact ug (hv.e0 hki).2.2
    refine GO 6 ?_;intro _ Y;refine sv Y (fy 6 (Y.ev rfl)) fun _ Y=>?_;refine sv (v:=fC (l.take i)[k].e.o) Y (ai aa aa (Y.ev rfl) (Cw (Z.rd0 hrt) qk)) fun _ Y=>?_;refine cE Y rfl Z (tH (l.take i)[k].e.o _ hoE) fun _ _ Y Z=>?_;refine GO 3 ?_;intro _ Y;refine na (.agg #[.int .i64 0,.int .i64 0,.int .i64 0,.int .i64 0,.string ⟨#[]⟩,.string ⟨#[]⟩]) Y rfl Z fun b10 _ _ Zm Y Z=>?_;refine sw Y Z 0 fun _ Z=>?_;refine GO 4 ?_;intro _ Y;apply aH Y (eZ 38) _ aa
    case h=>
     refine GO 2 ?_;intro _ Y;refine qv Y (fun X hX=>fy 0 (Y.ev rfl)) fun _ Y=>?_;refine qv Y (fun X hX=>lx (Y.ev rfl) ((el ((Z.grow hX).rd0 hrt) qk) 0 _ rfl)) fun _ Y=>?_;refine GO 2 ?_;intro _ Y;apply iF Y 45 rfl 8 53
     case ht=>
      intro Zf;refine GO 4 ?_;intro _ Y;refine qy Y (fun X hX=>(fy 2 (Y.ev rfl))) fun _ Y=>?_;refine qy Y (fun X hX=>(lx (Y.ev rfl) ((el ((Z.grow hX).rd0 hrt) qk) 2 _ rfl))) fun _ Y=>?_;refine GO 2 ?_;intro _ Y;exact av (Y.midE 7)
     case hf=>
      intro Zf;refine GO 8 ?_;intro _ Y;exact av (Y.midE 7)
     case h=>
      intro _ Y;refine GO 1 ?_;intro _ Y;apply iF Y 54 rfl 8 62
      case ht=>
       intro Zg;refine GO 4 ?_;intro _ Y;refine qy Y (fun X hX=>(fy 4 (Y.ev rfl))) fun _ Y=>?_;refine qy Y (fun X hX=>(lx (Y.ev rfl) ((el ((Z.grow hX).rd0 hrt) qk) 4 _ rfl))) fun _ Y=>?_;refine GO 2 ?_;intro _ Y;exact av (Y.midE 7)
      case hf=>
       intro Zg;refine GO 8 ?_;intro _ Y;exact av (Y.midE 7)
      case h=>
       intro _ Y;refine GO 1 ?_;intro _ Y;apply iF Y 63 rfl 8 71
       case ht=>
        intro Zh;refine GO 4 ?_;intro _ Y;refine qy Y (fun X hX=>(fy 5 (Y.ev rfl))) fun _ Y=>?_;refine qy Y (fun X hX=>(lx (Y.ev rfl) ((el ((Z.grow hX).rd0 hrt) qk) 5 _ rfl))) fun _ Y=>?_;refine qy Y (fun X hX=>(uV Tryz.underlying4 (Y.ev rfl) (Y.ev rfl))) fun _ Y=>?_;refine GO 1 ?_;intro _ Y;exact av (Y.midE 7)
       case hf=>
        intro Zh;refine GO 8 ?_;intro _ Y;exact av (Y.midE 7)
       case h=>
        intro _ Y;refine GO 1 ?_;intro _ Y;apply iF Y 72 rfl 5 77
        case ht=>
         intro Zi;refine GO 1 ?_;intro _ Y;refine qy Y (fun X hX=>(ai aa aa (Y.ev rfl) ((Z.grow hX).cellsOf (i:=1) rfl 6 6))) fun _ Y=>?_;refine qy Y (fun X hX=>(ai aa aa (Y.ev rfl) ((Z.grow hX).cellsAll (i:=0) rfl))) fun _ Y=>?_;refine qy Y (fun X hX=>(ub (ks:=[.i .i64,.i .i64,.i .i64,.i .i64,.s,.s]) aa Tryz.underlying141 aa (Y.ev rfl) (Y.ev rfl) rfl rfl)) fun _ Y=>?_;refine GO 1 ?_;intro _ Y;exact av (Y.midE 4)
        case hf=>
         intro Zi;refine GO 5 ?_;intro _ Y;exact av (Y.midE 4)
        case h=>
         intro _ Y;refine av ?_;refine aP fun _ Za Zj=>?_;have Z:=Z.grow Za;refine GO 6 ?_;intro _ Y;refine cC Y rfl (aJ _ _ _) fun _ Y=>?_;refine GO 4 ?_;intro _ Y;refine aD Y rfl rfl ?_;refine⟨?_,Z.below⟩;have e:=zA x.o (fR (l.take i)[k].e.o);unfold jl;rw[if_neg hu,q2];show _=Ending.returned (.int .i64 (bn (_&&_&&_&&_&&decide (x.o=fR (l.take i)[k].e.o)) 13));rw[←e];rfl
    case hB=>kernel_rfl
    case hst=>rfl
  case hB=>kernel_rfl
  case hst=>rfl
open Go.RowKit Go.Sort
def Br:List Int→Int→Nat→Int
 | [],_,_=>-1
 | x::r,v,k=>if v=x then k else Br r v (k+1)
theorem uH:∀(l:List Int) (v:Int) (k:Nat),decide (Br l v k≥0)=l.any fun x=>x==v
 | [],v,k=>rfl
 | x::r,v,k=>by
  unfold Br;rw[List.any_cons];by_cases h:v=x
  · rw[if_pos h,decide_eq_true ab,show(x==v)=true by rw[h];exact beq_self_eq_true x];rfl
  · rw[if_neg h,uH r v (k+1),show(x==v)=false by rw[beq_eq_false_iff_ne];exact fun e=>h e.symm];rfl
theorem BG {X:World} {B b o k:Nat} {l:List Int} (hr:Rd X B (some ⟨b,o,none⟩) (l.map (.int .i64))) (hk:k<l.length):∀(j:Nat) (u:Value),[Value.int .i64 l[k]][j]? = some u→X.cell? ⟨b,o+k*1+j,none⟩=some u
 | 0,u,hu=>by
  obtain⟨b',o',e,_,hc⟩:=hr k u (by rw[List.getElem?_map,List.getElem?_eq_getElem hk];exact hu);injection e with e;injection e with e1 e2;subst e1 e2;rw[Nat.mul_one,Nat.add_zero];exact hc
 | j+1,u,hu=>by simp at hu
theorem wD (l:List Int) (A:Option Addr) (c:Nat) (v:Int) (w:World) (hr:Rd w w.heap.size A (l.map (.int .i64))) (hl:l.length≤1000) :
 Calls Tryz.prog 218 #[.slice A l.length c,.int .i64 v] w fun e w'=>e=.returned (.int .i64 (Br l v 0))∧Below w.heap.size w w':=by
 refine al (N:=19) Tryz.func218 rfl rfl rfl (fun _ Y=>?_);have Z:=St.init w;refine GO 14 ?_;intro _ Y;refine aY Y Z [7,0,1] (fun (j:Nat)=>[(8,.int .i64 j)]) (fun (j:Nat)=>j≤l.length∧Br l v 0=Br (l.drop j) v j) (fun (j:Nat) L=>L) (fun (j:Nat)=>l.length-j) (0) (⟨Nat.zero_le _,rfl⟩) bz (Z) ?_;intro j _ _ Za Y Z;refine GO 6 ?_;intro _ Y;refine ak (Y.ev rfl) (fun Zb=>?_) (fun Zb=>?_)
 ·
  have hlt:j<l.length:=by have:=of_decide_eq_true Zb;omega
  obtain⟨b,o,rfl,hB,hcc⟩:=hr.opened (by rw[List.length_map];omega);have hd:l.drop j=l[j]::l.drop (j+1):=List.drop_eq_getElem_cons hlt;refine GO 15 ?_;intro _ Y;refine sv Y (au (i:=j) (sz:=1) Tryz.underlying53 aa (Y.ev rfl) (Y.ev rfl) ab ab rfl) fun _ Y=>?_;refine sv Y (lx (Y.ev rfl) ((BG (Z.rd0 hr) hlt) 0 _ rfl)) fun _ Y=>?_;refine GO 3 ?_;intro _ Y;refine ak (Y.ev rfl) (fun Zc=>?_) (fun Zc=>?_)
  ·
   refine GO 12 ?_;intro _ Y;refine aD Y rfl rfl ?_;exact⟨by rw[Za.2,hd,Br,if_pos (by simpa using Zc)],Z.below⟩
  ·
   refine GO 8 ?_;intro _ Y;exact⟨j+1,by omega,⟨hlt,by rw[Za.2,hd,Br,if_neg (by simpa using Zc)]⟩,Y.re bz,Z⟩
 ·
  have hge:l.length≤j:=by have:=of_decide_eq_false Zb;omega
  refine GO 11 ?_;intro _ Y;refine aD Y rfl rfl ?_;exact⟨by rw[Za.2,List.drop_of_length_le hge];rfl,Z.below⟩
theorem pT (l:List Int) (A:Option Addr) (c:Nat) (v:Int) (w:World) (hr:Rd w w.heap.size A (l.map (.int .i64))) (hl:l.length≤1000) :
 Calls Tryz.prog 157 #[.slice A l.length c,.int .i64 v] w fun e w'=>e=.returned (.bool (l.any fun x=>x==v))∧Below w.heap.size w w':=by
 refine al (N:=9) Tryz.func157 rfl rfl rfl (fun _ Y=>?_);have Z:=St.init w;refine GO 9 ?_;intro _ Y;refine cE Y rfl Z (wD l A c v _ (Z.rd0 hr) hl) fun _ _ Y Z=>?_;refine GO 5 ?_;intro _ Y;refine aD Y rfl rfl ?_;exact⟨by rw[←uH l v 0],Z.below⟩
open Go.RowKit Go.Sort
structure FolT (w:World):Prop where
 cells:∀k:Nat,k<6→∃A c,w.cell? ⟨0,k,none⟩=some (.slice A (sG k).length c)∧Rd w w.heap.size A ((sG k).map (.int .i64))
theorem FolT.below {w w':World} (h:FolT w) (hb:Below w.heap.size w w'):FolT w':=⟨fun k hk=>by
 obtain⟨A,c,h1,h2⟩:=h.cells k hk
 exact⟨A,c,(hb.cell (p:=⟨0,k,none⟩) (block_lt_of_cell h1)).trans h1,h2.below' hb⟩⟩
structure KeptM (m:Nat) (w X:World):Prop where
 size:w.heap.size≤X.heap.size
 block:∀b,b<w.heap.size→b≠m→X.heap[b]? = w.heap[b]?
theorem St.keptM {m:Nat} {w X:World} {L:List Ent} (h:St [m] w X L):KeptM m w X:=⟨h.size,fun b hb hne=>h.block b hb (by simpa using hne)⟩
theorem KeptM.cell {m:Nat} {w X:World} (h:KeptM m w X) (hm:∃es ck,w.heap[m]? = some (.map es ck)) {a:Addr} {v:Value} (hc:w.cell? a=some v):X.cell? a=some v:=by
 obtain⟨es,ck,hm⟩:=hm;have hlt:=block_lt_of_cell hc;refine(World.cell?_of_block (h.block _ hlt (fun e=>?_))).trans hc;unfold World.cell? at hc;rw[e,hm] at hc
 cases hc
theorem KeptM.rd {m:Nat} {w X:World} (h:KeptM m w X) (hm:∃es ck,w.heap[m]? = some (.map es ck)) {A:Option Addr} {xs:List Value} (hr:Rd w w.heap.size A xs):Rd X X.heap.size A xs:=fun j u hj=>by
 obtain⟨b,o,h1,h2,h3⟩:=hr j u hj;exact⟨b,o,h1,Nat.lt_of_lt_of_le h2 h.size,h.cell hm h3⟩
theorem KeptM.fol {m:Nat} {w X:World} (h:KeptM m w X) (hm:∃es ck,w.heap[m]? = some (.map es ck)) (hf:FolT w):FolT X:=⟨fun k hk=>by
 obtain⟨A,c,h1,h2⟩:=hf.cells k hk
 exact⟨A,c,h.cell hm h1,h.rd hm h2⟩⟩
structure FewE (x:Lge):Prop where
 o:x.o.o.size≤3100
 n:x.o.n.size≤3100
 d:x.d.size≤100000
def sH (l:List Rcd) (i:Nat):Bool:=match cH l i with
 | none=>true
 | some y=>match l[i]? with | none=>true | some x=>decide (y.l<x.l)
def jR (g:Int→Option Chn):Int→Option Value:=fun t=>(g t).map lW
theorem xh (g:Int→Option Chn) (t:Int) (c:Chn):en (jR g) t (some (lW c))=jR (vG g t c):=by
 funext s;unfold en jR vG;split<;>rfl
def od:Chn:=⟨0,0,0⟩
theorem xE {l:List Rcd} {i:Nat} (hi:i<l.length):dI l i l[i]=ar [bn (bf l[i].l 1 2147483647) 2,bn ((i:Int)==0||sH l i) 9,dF l[i].e]:=by
 have e:((i:Int)==0||sH l i)=sH l i:=by
  rcases Nat.eq_zero_or_pos i with h0 | h0
  · subst h0;rfl
  · rw[show((i:Int)==0)=false by rw[beq_eq_false_iff_ne];omega];rfl
 rw[e];unfold dI sH;rw[List.getElem?_eq_getElem hi]
 cases cH l i<;>rfl
theorem Cm {l:List Rcd} {i:Nat} (hv:VldH l i) (hi:i<l.length) (h0:dI l i l[i]=0):1≤cX l∧cX l≤2147483647:=by
 rw[fm ab];rcases Nat.eq_zero_or_pos i with h | h
 · subst h
   unfold dI at h0;rw[aQ] at h0;exact inB_true.1 ((aL aq).1 (h0 _ (.head _)))
 · have:=hv.e0 h
   exact⟨this.1,this.2.1⟩
theorem ym {h0:Int} {g:Int→Option Chn} {x:Lge} (h:((g x.t).isSome&&((g x.t).getD od).k != 4)=true):gu h0 g x=((g x.t).getD od,bn (x.p==((g x.t).getD od).l) 14):=by
 unfold gu
 cases hg:g x.t with
 | none=>rw[hg] at h;cases h
 | some c=>
  rw[hg] at h
  have hk:c.k≠4:=by simpa using h
  simp only[];rw[if_neg hk];rfl
theorem xS {h0:Int} {g:Int→Option Chn} {x:Lge} (h:((g x.t).isSome&&((g x.t).getD od).k != 4)=false):gu h0 g x=fY h0 x (g x.t).isSome:=by
 unfold gu
 cases hg:g x.t with
 | none=>rfl
 | some c=>
  rw[hg] at h
  have hk:c.k=4:=by simpa using h
  simp only[];rw[if_pos hk];rfl
theorem vT {l:List Rcd} {i:Nat} (hv:VldH l i) (x:Lge) (h0:(gu (cX l) (bE l i) x).2=0) (hk:(gu (cX l) (bE l i) x).1.k≠-1):∃k:Nat,k<6∧(gu (cX l) (bE l i) x).1.k=(k:Int):=by
 have hbeg:∀b,(fY (cX l) x b).2=0→(fY (cX l) x b).1.k≠-1→∃k:Nat,k<6∧(fY (cX l) x b).1.k=(k:Int):=fun b q0 qk=>by
  obtain⟨_,h1⟩:=gR q0;rw[h1] at qk ⊢;simp only[] at qk ⊢
  split at qk
  · exact absurd rfl qk
  · rename_i hp;exact⟨0,by decide,by rw[if_neg hp];rfl⟩
 unfold gu at h0 hk ⊢;have hc:=jX i (by have:=hv.1;omega) hv.2 x.t
 cases hg:bE l i x.t with
 | none=>rw[hg] at h0 hk;simp only[] at h0 hk ⊢;exact hbeg _ h0 hk
 | some c=>
  rw[hg] at h0 hk;simp only[] at h0 hk ⊢
  split at h0
  · rename_i h4;rw[if_pos h4] at hk ⊢;exact hbeg _ h0 hk
  · rename_i h4
    rw[if_neg h4] at hk ⊢;rw[hg] at hc
    cases hb:bj l x.t i with
    | none=>rw[hb] at hc;cases hc
    | some k=>
     rw[hb] at hc;obtain⟨hki,y,hy,h5,ht⟩:=eO hb;have hkl:k<l.length:=(List.getElem?_eq_some_iff.1 hy).1
     have e1:c=jT l k:=by simpa using hc
     have e2:=tA (hv.e0 hki).2.2
     have e3:c.k=l[k].e.k:=by rw[e1];exact gi hkl
     refine⟨c.k.toNat,?_,?_⟩<;>(show _;rw[e3];omega)
def Co (c:Chn × Int) (x:Lge):Int:=ar [c.2,if c.1.k = -1 then 0 else bn (nU c.1.k x.k) 20]
theorem xW (l:List Rcd) (i:Nat) (c:Chn × Int) (x:Lge):lK l i c x=if Co c x=0 then (if x.k=1 then jl l i c.1 x else 0) else Co c x:=by
 unfold lK Co;generalize (if c.1.k = -1 then 0 else bn (nU c.1.k x.k) 20)=b;generalize (if x.k=1 then jl l i c.1 x else 0)=d
 by_cases h1:c.2=0<;>by_cases h2:b=0<;>simp[ar,h1,h2]<;>(intro h;exact h.symm)
theorem w3 (k:Int):(sG k).length≤1000:=by
 unfold sG;split<;>(try split)<;>(try split)<;>(try split)<;>decide
theorem y9 (b:Int):ar [0,b]=b:=by by_cases h:b=0<;>simp[ar,h]
theorem s8 (l:List Rcd) (A:Option Addr) (c:Nat) (i:Nat) (m:Nat) (w:World) (hr:Rd w w.heap.size A (l.flatMap bA)) (hi:i<l.length) (hl:l.length≤1000) (hc:l.length≤c) (hv:VldH l i)
 (hm:MapF w m (jR (bE l i))) (hF:FolT w) (hx:∀x∈l,FewE x.e) :
 Calls Tryz.prog 104 #[.slice A l.length c,.int .i64 i,.map (some m)] w fun e w'=>∃g,e=.returned (.int .i64 (dk l i (bE l i) l[i]))∧(dk l i (bE l i) l[i]=0→g=bE l (i+1))∧St [m] w w' [cq m (jR g)]:=by
 have hmm:∃es ck,w.heap[m]? = some (.map es ck):=by obtain⟨es,ck,h1,_⟩:=hm;exact⟨es,ck,h1⟩
 have hfe:=hx _ (List.getElem_mem hi);obtain⟨b',o',rfl,hB,_⟩:=hr.opened (aK aB aq ab);obtain⟨RC,hRC⟩:∃RC,RC=gu (cX l) (bE l i) l[i].e:=⟨_,rfl⟩;have q9:=xE hi;refine al (N:=118) Tryz.func104 rfl rfl rfl (fun _ Y=>?_);have S0:=(St.initInv hm (fun b hb=>⟨by rw[hb];exact List.mem_singleton.2 rfl,by rw[hb];exact hm.lt⟩):St [m] w w [cq m (jR (bE l i))]);refine GO 6 ?_;intro _ h1;apply aH h1 [false,false,false,false,false,false,false,false,false,false,true,false] _ aa
 case h=>
  refine GO 2 ?_;intro _ Y;refine qv Y (fun X hX=>au (i:=i) (sz:=14) Tryz.underlying180 aa (Y.ev rfl) (Y.ev rfl) ab ab rfl) fun _ Y=>?_;refine qv Y (fun X hX=>fy 0 (Y.ev rfl)) fun _ Y=>?_;refine qv Y (fun X hX=>lx (Y.ev rfl) ((aW aB (((S0.grow hX).keptM).rd hmm hr) hi) 0 _ rfl)) fun _ Y=>?_;refine GO 2 ?_;intro _ Y;refine qv Y (fun X hX=>au (i:=i) (sz:=14) Tryz.underlying180 aa (Y.ev rfl) (Y.ev rfl) ab ab rfl) fun _ Y=>?_;refine qv Y (fun X hX=>fy 1 (Y.ev rfl)) fun _ Y=>?_;refine qv (v:=cY l[i].e) Y (fun X hX=>ai aa aa (Y.ev rfl) (el (((S0.grow hX).keptM).rd hmm hr) hi)) fun _ Y=>?_;refine GO 2 ?_;intro _ Y;apply gP (k:=10) (deps:=[]) (R:=NewB _ (fun b=>.pointer (some ⟨b,0,none⟩)) _ _) Y rfl rfl rfl NewB.stable (fun X hX hΦ=>jz (eb (z:=.agg #[.int .i64 0,.int .i64 0,.int .i64 0,.int .i64 0,.int .i64 0,.bool false,.int .i64 0,.int .i64 0,.int .i64 0,.int .i64 0,.string ⟨#[]⟩,.string ⟨#[]⟩,.string ⟨#[]⟩]) aa) hX.size);intro v8 _ Y;refine aP fun _ Zf Zm=>?_;have Z:=S0.grow Zf;have Zk:=ba Zm (k:=10) rfl;obtain⟨b8,rfl,Zz,Zk⟩:=Zk;have Z:=S0.add Zf (e:=.box _ _ _) Zk (fun b hb=>by cases hb;exact⟨Zz,Box.lt Zk⟩);refine sw Y Z 0 fun _ Z=>?_;refine ae (ag (ah ?_));apply aH Y (eZ 18) _ aa
  case h=>
   refine GO 1 ?_;intro _ Y;refine gd Y rfl (fun X hX=>bu _ _ _ _) fun _ Y=>?_;refine gd Y rfl (fun X hX=>aJ _ _ _) fun _ Y=>?_;refine GO 3 ?_;intro _ Y;apply fa (x:=sH l i) Y 27 rfl 10 37
   case hf=>
    intro Zg
    have hi0:i≠0:=by simp only[beq_eq_false_iff_ne] at Zg;omega
    have hi1:i-1<l.length:=by omega
    have hbf:cH l i=some l[i-1]:=by unfold cH;rw[if_neg hi0,List.getElem?_eq_getElem hi1]
    refine GO 1 ?_;intro _ Zl;refine GO 2 ?_;intro _ Y;refine qy Y (fun X hX=>(nf aa (Y.ev rfl) (Y.ev rfl))) fun _ Y=>?_;refine qy Y (fun X hX=>(au (i:=i-1) (sz:=14) Tryz.underlying180 aa (Y.ev rfl) (Y.ev rfl) ab ab rfl)) fun _ Y=>?_;refine qy Y (fun X hX=>(fy 0 (Y.ev rfl))) fun _ Y=>?_;refine qy Y (fun X hX=>(lx (Y.ev rfl) ((aW aB (((Z.grow hX).keptM).rd hmm hr) hi1) 0 _ rfl))) fun _ Y=>?_;refine GO 1 ?_;intro _ Y;refine qy Y (fun X hX=>(aw (v':=.bool (sH l i)) (congrArg Value.bool (by unfold sH;rw[hbf,List.getElem?_eq_getElem hi])) (kU (Y.ev rfl) (Y.ev rfl)))) fun _ Y=>?_;refine GO 1 ?_;intro _ Y;exact av (Y.midE 9)
   case ht=>
    intro Zg;refine GO 10 ?_;intro _ Y;exact av (Y.midE 9)
   case h=>
    intro _ Y;refine gd Y rfl (fun X hX=>aJ _ _ _) fun _ Y=>?_;refine qv Y (fun X hX=>ai aa aa (Y.ev rfl) ((Z.grow hX).cellsAll (i:=0) rfl)) fun _ Y=>?_;refine av ?_;refine aP fun _ Zn Qa=>?_;have Z:=Z.grow Zn;refine cE Y rfl Z (iK l[i].e _ hfe.o hfe.n (by have:=hfe.d;unfold maxLen;omega)) fun _ _ Y Z=>?_;refine bw Y (wn rfl) (f:=fun b=>.slice (some ⟨b,0,none⟩) 3 3) (aX Tryz.underlying214 aa aa (Y.evs2 rfl) rfl rfl rfl aq aq) rfl rfl Z fun b41 _ _ Qb Y Z=>?_;refine cC Y rfl (eY (Z.at_ (i:=0) rfl)) fun _ Y=>?_;refine GO 12 ?_;intro _ Y;refine ak (Y.ev rfl) (fun Zo=>?_) (fun Zo=>?_)
    ·
     have q0:dI l i l[i]≠0:=by rw[q9];simpa using Zo
     refine GO 9 ?_;intro _ Y;refine aD Y rfl rfl ?_;exact⟨bE l i,by unfold dk;rw[if_pos q0,q9],fun h=>absurd h (by unfold dk;rw[if_pos q0];exact q0),(Z.sub (.cons _ (.cons _ (.cons_cons _ .slnil))))⟩
    ·
     have q0:dI l i l[i]=0:=by rw[q9];simpa using Zo
     have q0':¬dI l i l[i]≠0:=fun h=>h q0;have hfst:=Cm hv hi q0;refine GO 8 ?_;intro _ Y;refine ak (Y.ev rfl) (fun Zp=>?_) (fun Zp=>?_)
     ·
      have q1:l[i].e.k=5:=by simpa using Zp
      refine ah (ao ?_);refine sv Y (ai aa aa (Y.ev rfl) (Z.cellsAll (i:=1) rfl)) fun _ Y=>?_;refine cE Y rfl Z (jM l[i].e _ hfe.d) fun _ _ Y Z=>?_;refine GO 6 ?_;intro _ Y;refine aD Y rfl rfl ?_;exact⟨bE l i,by unfold dk;rw[if_neg q0',if_pos q1],fun _=>by rw[mI hi,if_pos q1],(Z.sub (.cons _ (.cons _ (.cons_cons _ .slnil))))⟩
     ·
      have q1:l[i].e.k≠5:=by simpa using Zp
      refine GO 8 ?_;intro _ Y;refine ak (Y.ev rfl) (fun Zq=>?_) (fun Zq=>?_)
      ·
       have q2:l[i].e.t=0:=by simpa using Zq
       refine GO 8 ?_;intro _ Y;refine aD Y rfl rfl ?_;exact⟨bE l i,by unfold dk;rw[if_neg q0',if_neg q1,if_pos q2];(try rfl),fun h=>absurd h (by unfold dk;rw[if_neg q0',if_neg q1,if_pos q2];decide),(Z.sub (.cons _ (.cons _ (.cons_cons _ .slnil))))⟩
      ·
       have q2:l[i].e.t≠0:=by simpa using Zq
       refine GO 8 ?_;intro _ Y;refine sv Y (aw (v':=.tuple #[lW ((bE l i l[i].e.t).getD od),.bool (bE l i l[i].e.t).isSome]) (by unfold jR;cases bE l i l[i].e.t<;>rfl) (mM (z:=.agg #[.int .i64 0,.int .i64 0,.int .i64 0]) Tryz.underlying178 Tryz.underlying3 aa (Y.ev rfl) (Y.ev rfl) (Z.at_ (i:=2) rfl))) fun _ Y=>?_;refine GO 3 ?_;intro _ Y;refine na (.agg #[.int .i64 0,.int .i64 0,.int .i64 0]) Y rfl Z fun b10 _ _ Qc Y Z=>?_;refine sw Y Z 0 fun _ Z=>?_;refine GO 8 ?_;intro _ Y;apply aZ (x:=((bE l i l[i].e.t).getD od).k != 4) Y Z 65 rfl 4 69
       case ht=>
        intro Zr;refine GO 4 ?_;intro _ Y;exact ae ⟨Y.midE 3,Z⟩
       case hf=>
        intro Zr;refine GO 4 ?_;intro _ Y;exact ae ⟨Y.midE 3,Z⟩
       case h=>
        rintro a88 Qf ⟨Zw,Ze⟩
        refine ae (ag ?_);refine qQ (F:=True) Zw Ze [(9,.int .i64 RC.2)] [10,8,7,6,0,1,2] (fun L=>L.set 0 (.box b10 (lW RC.1).cells 250)) ?_ (fun _ _ Y Z hjT=>?_)
        ·
         refine ak (Zw.ev rfl) (fun Zs=>?_) (fun Zs=>?_)
         ·
          have eRC:RC=((bE l i l[i].e.t).getD od,bn (l[i].e.p==((bE l i l[i].e.t).getD od).l) 14):=by rw[hRC];exact ym Zs
          refine GO 6 ?_;intro _ Y;refine cC Y rfl (aJ _ _ _) fun _ Y=>?_;refine GO 3 ?_;intro _ Y;have hjT:=trivial;rw[show bn (l[i].e.p==((bE l i l[i].e.t).getD od).l) 14=RC.2 by rw[eRC]] at Y;rw[show(bE l i l[i].e.t).getD od=RC.1 by rw[eRC]] at Ze;exact⟨Y.re bz,Ze,hjT⟩
         ·
          have eRC:RC=fY (cX l) l[i].e (bE l i l[i].e.t).isSome:=by rw[hRC];exact xS Zs
          refine GO 2 ?_;intro _ Y;refine sv Y (ai aa aa (Y.ev rfl) (Ze.cellsAll (i:=2) rfl)) fun _ Y=>?_;refine GO 1 ?_;intro _ Y;refine cE Y rfl Ze (vR l _ c l[i].e _ _ ((Ze.keptM).rd hmm hr) ab hfst) fun _ _ Y Z=>?_;refine GO 1 ?_;intro _ Y;refine sv (v:=lW (fY (cX l) l[i].e (bE l i l[i].e.t).isSome).1) Y (bD (Y.ev rfl) rfl) fun _ Y=>?_;refine GO 1 ?_;intro _ Y;refine sw Y Z 0 fun _ Z=>?_;refine GO 3 ?_;intro _ Y;have hjT:=trivial;rw[←eRC] at Y Z;exact⟨Y.re bz,Z,hjT⟩
        ·
         obtain⟨E2,hE2⟩:∃E2:Int,E2=Co RC l[i].e:=⟨_,rfl⟩;obtain⟨E3,hE3⟩:∃E3:Int,E3=lK l i RC l[i].e:=⟨_,rfl⟩;have Zl:=xW l i RC l[i].e;rw[←hE2,←hE3] at Zl;refine GO 7 ?_;intro _ Y;apply aZ (x:=RC.1.k != -1) Y Z 85 rfl 4 89
         case ht=>
          intro Zt;refine GO 4 ?_;intro _ Y;exact ae ⟨Y.midE 3,Z⟩
         case hf=>
          intro Zt;refine GO 4 ?_;intro _ Y;exact ae ⟨Y.midE 3,Z⟩
         case h=>
          rintro a117 Qd ⟨Zb,Zc⟩
          refine ae (ag ?_);refine dJ Zb Zc [(9,.int .i64 E2)] [10,8,7,6,0,1,2] ?_ (fun _ _ Y Z=>?_)
          ·
           refine ak (Zb.ev rfl) (fun Zu=>?_) (fun Zu=>?_)
           ·
            obtain⟨r0,r1⟩:=Bool.and_eq_true_iff.1 Zu
            have r0:RC.2=0:=by simpa using r0
            have r1:RC.1.k≠-1:=by simpa using r1
            obtain⟨k,hk6,hk1⟩:∃k:Nat,k<6∧RC.1.k=(k:Int):=by
             have:=vT hv l[i].e;rw[←hRC] at this;exact this r0 r1
            obtain⟨Af,cf,hfc,hfr⟩:=hF.cells k hk6;apply aH Zb (eZ 6) _ aa
            case h=>
             refine GO 2 ?_;intro _ Y;refine qv Y (fun X hX=>vd (i:=k) (sz:=1) (j:=k) Tryz.underlying255 aa (Y.ev rfl) (Y.ev rfl) hk1 hk6 ab) fun _ Y=>?_;refine qv Y (fun X hX=>lx (Y.ev rfl) (((Zc.grow hX).keptM).cell hmm hfc)) fun _ Y=>?_;refine GO 3 ?_;intro _ Y;refine aP fun _ Zh Zx=>?_;have Z:=Zc.grow Zh;refine cE Y rfl Z (pT (sG k) Af cf l[i].e.k _ ((Z.keptM).rd hmm hfr) (w3 _)) fun _ _ Y Z=>?_;refine cC Y rfl (aJ _ _ _) fun _ Y=>?_;refine GO 3 ?_;intro _ Y;rw[show bn ((sG k).any fun x=>x==l[i].e.k) 20=E2 by rw[hE2];unfold Co;rw[r0,if_neg r1,hk1,y9];rfl] at Y;exact⟨Y.re bz,Z⟩
            case hB=>kernel_rfl
            case hst=>rfl
           ·
            refine wp_skip (ag ?_)
            rw[show RC.2=E2 by
             rw[hE2];unfold Co;rcases Bool.and_eq_false_iff.1 Zu with r0 | r1
             · have r0:RC.2≠0:=by simpa using r0
               simp[ar,r0]
             · have r1:RC.1.k = -1:=by simpa using r1
               rw[if_pos r1]
               by_cases r2:RC.2=0<;>simp[ar,r2]] at Zb
            exact⟨Zb.re bz,Zc⟩
          ·
           refine GO 7 ?_;intro _ Y;apply aZ (x:=l[i].e.k==1) Y Z 100 rfl 4 104
           case ht=>
            intro Zi;refine GO 4 ?_;intro _ Y;exact ae ⟨Y.midE 3,Z⟩
           case hf=>
            intro Zi;refine GO 4 ?_;intro _ Y;exact ae ⟨Y.midE 3,Z⟩
           case h=>
            rintro a140 Qe ⟨Zd,Za⟩
            refine ae (ag ?_);refine dJ Zd Za [(9,.int .i64 E3)] [10,8,7,6,2] ?_ (fun _ _ Y Z=>?_)
            ·
             refine ak (Zd.ev rfl) (fun Zv=>?_) (fun Zv=>?_)
             ·
              refine GO 3 ?_;intro _ Y;refine sv (v:=lW RC.1) Y (ai aa aa (Y.ev rfl) (Za.cellsAll (i:=0) rfl)) fun _ Y=>?_;refine sv (v:=cY l[i].e) Y (ai aa aa (Y.ev rfl) (Za.cellsAll (i:=2) rfl)) fun _ Y=>?_;refine cE Y rfl Za (tR l _ c i RC.1 l[i].e _ ((Za.keptM).rd hmm hr) hi hl hc hv hfst) fun _ _ Y Z=>?_;refine GO 3 ?_;intro _ Y
              rw[show jl l i RC.1 l[i].e=E3 by
               obtain⟨r0,r1⟩:=Bool.and_eq_true_iff.1 Zv
               rw[Zl,if_pos (by simpa using r0),if_pos (by simpa using r1)]] at Y
              exact⟨Y.re bz,Z⟩
             ·
              refine wp_skip (ag ?_)
              rw[show E2=E3 by
               rw[Zl];rcases Bool.and_eq_false_iff.1 Zv with r0 | r1
               · rw[if_neg (by simpa using r0)]
               · rw[if_neg (show ¬l[i].e.k=1 by simpa using r1)]
                 split
                 · assumption
                 · rfl] at Zd
              exact⟨Zd.re bz,Za⟩
            ·
             refine ag (ah ?_);apply aH Y (eZ 7) _ aa
             case h=>
              refine GO 3 ?_;intro _ Y;refine qv (v:=lW RC.1) Y (fun X hX=>ai aa aa (Y.ev rfl) ((Z.grow hX).cellsAll (i:=0) rfl)) fun _ Y=>?_;refine GO 1 ?_;intro _ Y;refine qv (v:=cY l[i].e) Y (fun X hX=>ai aa aa (Y.ev rfl) ((Z.grow hX).cellsAll (i:=2) rfl)) fun _ Y=>?_;refine lT Y rfl (fun X hX=>pr RC.1 l[i].l l[i].e _) fun _ Y=>?_;refine av ?_;refine aP fun _ Zj Zy=>?_;have Z:=Z.grow Zj;refine gE (wn rfl) ⟨rfl,rfl⟩ Tryz.underlying178 Tryz.underlying3 (Y.ev rfl) (Y.ev rfl) (Y.ev rfl) Z (i:=3) rfl fun _ Z=>?_;refine GO 9 ?_;intro _ Y;refine aD Y rfl rfl ?_;refine⟨vG (bE l i) l[i].e.t (sx RC.1 l[i].l l[i].e),by unfold dk;rw[if_neg q0',if_neg q1,if_neg q2,←hRC,←hE3],fun _=>by rw[mI hi,if_neg q1,hRC],?_⟩;rw[←xh];exact(Z.sub (.cons _ (.cons _ (.cons _ (.cons_cons _ .slnil)))))
             case hB=>kernel_rfl
             case hst=>rfl
  case hB=>kernel_rfl
  case hst=>rfl
 case hB=>kernel_rfl
 case hst=>rfl
open Go.RowKit Go.Sort
theorem KeptM.box {m:Nat} {w X:World} (h:KeptM m w X) (hm:∃es ck,w.heap[m]? = some (.map es ck)) {b:Nat} {cs:Array Value} {T:TypeId} (hb:Box w b cs T):Box X b cs T:=by
 obtain⟨es,ck,hm⟩:=hm;refine(h.block b hb.lt (fun e=>?_)).trans hb;have hb':w.heap[b]? = some (.cells cs T (0,0)):=hb;rw[e,hm] at hb'
 cases hb'
structure ChkR (l:List Rcd) (A:Option Addr) (c b1 b4 m:Nat) (w:World):Prop where
 hr:Rd w w.heap.size A (l.flatMap bA)
 hb1:Box w b1 #[.slice A l.length c] 41
 hb4:Box w b4 #[.map (some m)] 178
 hF:FolT w
theorem ChkR.kept {l:List Rcd} {A:Option Addr} {c b1 b4 m:Nat} {w X:World} (h:ChkR l A c b1 b4 m w) (hm:∃es ck,w.heap[m]? = some (.map es ck)) (hk:KeptM m w X):ChkR l A c b1 b4 m X:=
 ⟨hk.rd hm h.hr,hk.box hm h.hb1,hk.box hm h.hb4,hk.fol hm h.hF⟩
theorem MapF.ex {m:Nat} {w:World} {g:Int→Option Value} (h:MapF w m g):∃es ck,w.heap[m]? = some (.map es ck):=by obtain⟨es,ck,h1,_⟩:=h;exact⟨es,ck,h1⟩
theorem wL (l:List Rcd) (A:Option Addr) (c:Nat) (i:Nat) (b1 b4 m:Nat) (w:World) (hR:ChkR l A c b1 b4 m w) (hi:i<l.length) (hl:l.length≤1000) (hc:l.length≤c) (hv:VldH l i) (hm:MapF w m (jR (bE l i))) (hx:∀x∈l,FewE x.e) :
 Calls Tryz.prog 103 #[.int .i64 i,ff l[i],.pointer (some ⟨b1,0,none⟩),.pointer (some ⟨b4,0,none⟩)] w fun e w'=>∃g,e=.returned (.int .i64 (dk l i (bE l i) l[i]))∧(dk l i (bE l i) l[i]=0→g=bE l (i+1))∧St [m] w w' [cq m (jR g)]:=by
 refine al (N:=11) Tryz.func103 rfl rfl rfl (fun _ Y=>?_);have Z:=(St.initInv hm (fun b hb=>⟨by rw[hb];exact List.mem_singleton.2 rfl,by rw[hb];exact hm.lt⟩):St [m] w w [cq m (jR (bE l i))]);have hmm:=hm.ex;refine ah (ao ?_);refine nb Y rfl rfl Z fun b5 _ _ Zb Y Z=>?_;refine GO 5 ?_;intro _ Y;refine sv Y (lx (Y.ev rfl) (((Z.keptM).box hmm hR.hb1).cells 0)) fun _ Y=>?_;refine GO 1 ?_;intro _ Y;refine sv Y (lx (Y.ev rfl) (((Z.keptM).box hmm hR.hb4).cells 0)) fun _ Y=>?_;refine fM Y (wn rfl) (ax a8 (Y.evs rfl) rfl) rfl rfl Z (i:=1) rfl (fun b hb=>List.mem_singleton.1 hb) (s8 l A c i m _ ((Z.keptM).rd hmm hR.hr) hi hl hc hv (Z.at_ (i:=1) rfl) ((Z.keptM).fol hmm hR.hF) hx) fun p10 _ _ Y Za Z=>?_;refine GO 4 ?_;intro _ Y;refine aD Y rfl rfl ?_;exact⟨p10,rfl,Za,(Z.sub (.cons _ (.cons_cons _ .slnil)))⟩
theorem wb (l:List Rcd) (A:Option Addr) (c:Nat) (b1 b4 m:Nat) (w:World) (hR:ChkR l A c b1 b4 m w) (hl:l.length≤1000) (hc:l.length≤c) (hm:MapF w m (jR (bE l 0))) (hx:∀x∈l,FewE x.e) :
 Calls Tryz.prog 102 #[.slice A l.length c,.func (.func 103) #[] #[.pointer (some ⟨b1,0,none⟩),.pointer (some ⟨b4,0,none⟩)]] w fun e w'=>∃g:Int→Option Chn,e=.returned (.tuple #[.int .i64 (cB (fun i x=>dk l i (bE l i) x) 0 l).1,.int .i64 (cB (fun i x=>dk l i (bE l i) x) 0 l).2])∧True∧St [m] w w' [cq m (jR g)]:=by
 have hmm:=hm.ex;refine al (N:=25) Tryz.func102 rfl rfl rfl (fun _ Y=>?_);have Z:=(St.initInv hm (fun b hb=>⟨by rw[hb];exact List.mem_singleton.2 rfl,by rw[hb];exact hm.lt⟩):St [m] w w [cq m (jR (bE l 0))]);refine GO 15 ?_;intro _ Y;refine aY Y Z [10,9,1] (fun (j:Nat)=>[(11,.int .i64 j)]) (fun (j:Nat)=>j≤l.length∧∀k (hk:k<l.length),k<j→dk l k (bE l k) l[k]=0) (fun j L=>L.set 0 (cq m (jR (bE l j)))) (fun (j:Nat)=>l.length-j) (0) (⟨Nat.zero_le _,fun k _ h=>by omega⟩) bz (Z) ?_;intro j _ _ Za Y Z;refine GO 6 ?_;intro _ Y;refine ak (Y.ev rfl) (fun Zc=>?_) (fun Zc=>?_)
 ·
  have hlt:j<l.length:=by have:=of_decide_eq_true Zc;omega
  obtain⟨b,o,rfl,hB,_⟩:=hR.hr.opened (aK aB aq ab);have hvj:VldH l j:=⟨Za.1,Za.2⟩;refine GO 7 ?_;intro _ Y;refine sv Y (au (i:=j) (sz:=14) Tryz.underlying41 aa (Y.ev rfl) (Y.ev rfl) ab ab rfl) fun _ Y=>?_;refine sv (v:=ff l[j]) Y (ai aa aa (Y.ev rfl) (aW aB ((Z.keptM).rd hmm hR.hr) hlt)) fun _ Y=>?_;refine na (.agg #[.int .i64 0,.int .i64 0,.int .i64 0,.int .i64 0,.int .i64 0,.int .i64 0,.bool false,.int .i64 0,.int .i64 0,.int .i64 0,.int .i64 0,.string ⟨#[]⟩,.string ⟨#[]⟩,.string ⟨#[]⟩]) Y rfl Z fun b7 _ _ Ze Y Z=>?_;refine GO 1 ?_;intro _ Y;refine sw Y Z 0 fun _ Z=>?_;refine GO 6 ?_;intro _ Y;refine sv (v:=ff l[j]) Y (ai aa aa (Y.ev rfl) (Z.cellsAll (i:=0) rfl)) fun _ Y=>?_;refine fM Y (wn rfl) (cz a8 (Y.ev rfl) (Y.evs rfl) rfl) rfl rfl Z (i:=1) rfl (fun b hb=>List.mem_singleton.1 hb) (wL l _ c j b1 b4 m _ (hR.kept hmm Z.keptM) hlt hl hc hvj (Z.at_ (i:=1) rfl) hx) fun p19 _ _ Y Zd Z=>?_;refine GO 9 ?_;intro _ Y;refine ak (Y.ev rfl) (fun Zb=>?_) (fun Zb=>?_)
  ·
   refine GO 14 ?_;intro _ Y;refine bC Y rfl rfl rfl ?_
   have r1:dk l j (bE l j) l[j]≠0:=by simpa using Zb
   have r2:=cP (fun i x=>dk l i (bE l i) x) l 0 j hlt (fun k hk h=>by rw[Nat.zero_add];exact Za.2 k hk h) (by rw[Nat.zero_add];exact r1);exact⟨p19,by rw[r2];simp only[Nat.zero_add],trivial,(Z.sub (.cons _ (.cons_cons _ .slnil)))⟩
  ·
   refine GO 8 ?_;intro _ Y;exact⟨j+1,by omega,⟨hlt,fun k hk h=>(Nat.lt_or_ge k j).elim (fun q=>Za.2 k hk q) (fun q=>by(obtain rfl:k=j:=by omega);simpa using Zb)⟩,Y.re bz,(Zd (by simpa using Zb)▸(Z.sub (.cons _ (.cons_cons _ .slnil))))⟩
 ·
  have hge:l.length≤j:=by have:=of_decide_eq_false Zc;omega
  refine GO 12 ?_;intro _ Y;refine bC Y rfl rfl rfl ?_;exact⟨bE l j,by rw[cN (fun i x=>dk l i (bE l i) x) l 0 (fun k hk=>by rw[Nat.zero_add];exact Za.2 k hk ab)],trivial,(Z.sub (.cons_cons _ .slnil))⟩
theorem eB (l:List Rcd) (A:Option Addr) (c:Nat) (w:World) (hr:Rd w w.heap.size A (l.flatMap bA)) (hl:l.length≤1000) (hc:l.length≤c) (hF:FolT w) (hx:∀x∈l,FewE x.e) :
 Calls Tryz.prog 42 #[.slice A l.length c] w fun e w'=>e=.returned (.tuple #[.int .i64 (dW l).1,.int .i64 (dW l).2])∧Below w.heap.size w w':=by
 refine al (N:=14) Tryz.func42 rfl rfl rfl (fun _ Y=>?_);have Z:=St.init w;refine ah (ao ?_);refine nb Y rfl rfl Z fun b1 _ _ Zc Y Z=>?_;refine GO 12 ?_;intro _ Y;refine ak (Y.ev rfl) (fun Za=>?_) (fun Za=>?_)
 ·
  have r0:100<l.length:=by have:=of_decide_eq_true Za;omega
  refine GO 8 ?_;intro _ Y;refine bC Y rfl rfl rfl ?_;exact⟨by unfold dW;rw[if_pos r0];(try rfl),Z.below⟩
 ·
  have r0:¬100<l.length:=by have:=of_decide_eq_false Za;omega
  refine wp_skip (ag (ah (ao ?_)));refine k8 Y (wn rfl) rfl rfl rfl Z fun m8 _ _ hm8 Y Z=>?_;refine na (.map none) Y rfl Z fun b4 _ _ Zd Y Z=>?_;refine sw Y Z 0 fun _ Z=>?_;refine GO 5 ?_;intro _ Y;refine sv Y (eL (Y.evs rfl) (Y.evs rfl)) fun _ Y=>?_;refine fM Y (wn rfl) (ax a8 (Y.evs rfl) rfl) rfl rfl Z (i:=1) rfl (fun b hb=>List.mem_singleton.1 hb) (wb l A c b1 b4 m8 _ ⟨Z.rd0 hr,Z.at_ (i:=2) rfl,Z.at_ (i:=0) rfl,hF.below Z.below⟩ hl hc (Z.at_ (i:=1) rfl) hx) fun p11 _ _ Y Zb Z=>?_;refine GO 7 ?_;intro _ Y;refine bC Y rfl rfl rfl ?_;exact⟨by unfold dW;rw[if_neg r0];(try rfl),Z.below⟩
theorem dZ (l:List Rcd) (A:Option Addr) (c:Nat) (w:World) (hr:Rd w w.heap.size A (l.flatMap bA)) (hl:l.length≤1000) (hc:l.length≤c) (hF:FolT w) (hx:∀x∈l,FewE x.e) :
 Calls Tryz.prog 77 #[.slice A l.length c] w fun e w'=>e=.returned (.int .i64 (dW l).2)∧Below w.heap.size w w':=by
 refine al (N:=11) Tryz.func77 rfl rfl rfl (fun _ Y=>?_);have Z:=St.init w;refine GO 8 ?_;intro _ Y;refine cE Y rfl Z (eB l A c _ (Z.rd0 hr) hl hc (hF.below Z.below) hx) fun _ _ Y Z=>?_;refine GO 14 ?_;intro _ Y;refine aD Y rfl rfl ?_;exact⟨rfl,Z.below⟩
open Go.RowKit Go.Sort
theorem oL {α:Type} {κ:α→Int} {l:List α} {x:α} (h:bS κ (l ++ [x])) (i:Int):bP κ (l ++ [x]) i=if i=κ x then some x else bP κ l i:=by
 unfold bP;rw[List.find?_append];unfold bS at h;rw[List.pairwise_append] at h;by_cases hi:i=κ x
 · rw[if_pos hi]
   have hn:l.find? (fun y=>κ y==i)=none:=by
    rw[List.find?_eq_none];intro y hy;have:=h.2.2 y hy x (List.mem_singleton.2 rfl);simp;omega
   rw[hn,hi];simp
 · rw[if_neg hi]
   have hx:[x].find? (fun y=>κ y==i)=none:=by
    rw[List.find?_eq_none];intro y hy;rw[List.mem_singleton.1 hy];simp;omega
   rw[hx]
   cases l.find? (fun y=>κ y==i)<;>rfl
def nD (g:Int→Option Trn):Int→Option Value:=fun i=>(g i).map eV
def nM (g:Int→Option Dty):Int→Option Value:=fun i=>(g i).map fF
theorem Aw {l:List Trn} {x:Trn} (h:bS Trn.i (l ++ [x])):en (nD (dO l)) x.i (some (eV x))=nD (dO (l ++ [x])):=by
 funext i
 unfold en nD dO;rw[oL h]
 split<;>rfl
theorem AJ {l:List Dty} {x:Dty} (h:bS Dty.g (l ++ [x])):en (nM (df l)) x.g (some (fF x))=nM (df (l ++ [x])):=by
 funext i
 unfold en nM df;rw[oL h]
 split<;>rfl
theorem rH {α:Type} {κ:α→Int} {l:List α} (h:bS κ l) (k:Nat):bS κ (l.take k):=List.Pairwise.sublist (List.take_sublist _ _) h
theorem lG (t:Tbl) (A:Option Addr) (c:Nat) (B:Option Addr) (d:Nat) (w:World) (hr:Rd w w.heap.size A (t.ts.flatMap cd)) (hq:Rd w w.heap.size B (t.ds.flatMap cK)) (hs:SrtT t) (hl:t.ts.length≤1000∧t.ds.length≤1000) :
 Calls Tryz.prog 128 #[cv t A c B d] w fun e w'=>∃i:Nat × Nat × Nat,e=.returned (.pointer (some ⟨i.1,0,none⟩))∧St [] w w' [.box i.1 #[.map (some i.2.1),.map (some i.2.2)] 228,cq i.2.2 (nM (df t.ds)),cq i.2.1 (nD (dO t.ts))]:=by
 refine al (N:=43) Tryz.func128 rfl rfl rfl (fun _ Y=>?_);have Z:=St.init w;refine ah (ao ?_);refine nb Y rfl rfl Z fun b1 _ _ Zj Y Z=>?_;refine GO 5 ?_;intro _ Y;refine k8 Y (wn rfl) rfl rfl rfl Z fun m8 _ _ hm8 Y Z=>?_;refine k8 Y (wn rfl) rfl rfl rfl Z fun m9 _ _ hm9 Y Z=>?_;refine sv Y (ay (zs:=[.map none,.map none]) (pl:=[(0,1),(1,1)]) aa aa (Y.evs2 rfl) rfl rfl) fun _ Y=>?_;refine nb Y rfl rfl Z fun b11 _ X6 Ze Y Z=>?_;refine GO 1 ?_;intro _ Y;replace Z:St [] w X6 [.box b11 #[.map (some m8),.map (some m9)] 228,cq m9 (nM (df (t.ds.take 0))),cq m8 (nD (dO (t.ts.take 0))),.box b1 (cv t A c B d).cells 25]:=Z;refine GO 12 ?_;intro _ Y;refine aY Y Z [14,13,3,2,1] (fun (j:Nat)=>[(15,.int .i64 j)]) (fun (j:Nat)=>j≤t.ts.length) (fun j L=>L.set 2 (cq m8 (nD (dO (t.ts.take j))))) (fun (j:Nat)=>t.ts.length-j) (0) (Nat.zero_le _) bz (Z) ?_;intro j _ _ Zf Y Z;refine GO 6 ?_;intro _ Y;refine ak (Y.ev rfl) (fun Za=>?_) (fun Za=>?_)
 ·
  have hlt:j<t.ts.length:=by have:=of_decide_eq_true Za;omega
  obtain⟨b,o,rfl,hB,_⟩:=hr.opened (aK cy aq ab)
  have hput:en (nD (dO (t.ts.take j))) t.ts[j].i (some (eV t.ts[j]))=nD (dO (t.ts.take (j+1))):=by
   rw[List.take_succ_eq_append_getElem hlt];exact Aw (by rw[←List.take_succ_eq_append_getElem hlt];exact rH hs.ts _)
  refine wp_skip (ag (ah (wp_block (ah (ao ?_)))));refine sv Y (au (i:=j) (sz:=4) Tryz.underlying22 aa (Y.ev rfl) (Y.ev rfl) ab ab rfl) fun _ Y=>?_;refine sv (v:=eV t.ts[j]) Y (ai aa aa (Y.ev rfl) (aW cy (Z.rd0 hr) hlt)) fun _ Y=>?_;refine na (.agg #[.int .i64 0,.int .i64 0,.int .i64 0,.bool false]) Y rfl Z fun b5 _ _ Zk Y Z=>?_;refine sw Y Z 0 fun _ Z=>?_;refine ae (ag ?_);apply aH Y (eZ 7) _ aa
  case h=>
   refine GO 6 ?_;intro _ Y;refine qv (v:=eV t.ts[j]) Y (fun X hX=>ai aa aa (Y.ev rfl) ((Z.grow hX).cellsAll (i:=0) rfl)) fun _ Y=>?_;refine av ?_;refine aP fun _ Zb Zg=>?_;have Z:=Z.grow Zb;refine gE (wn rfl) ⟨rfl,rfl⟩ Tryz.underlying225 Tryz.underlying3 (Y.ev rfl) (Y.ev rfl) (Y.ev rfl) Z (i:=3) rfl fun _ Z=>?_;refine GO 8 ?_;intro _ Y;exact⟨j+1,by omega,hlt,Y.re bz,(hput▸(Z.sub (.cons _ (.cons_cons _ (.cons_cons _ (.cons_cons _ (.cons_cons _ .slnil)))))))⟩
  case hB=>kernel_rfl
  case hst=>rfl
 ·
  have hge:t.ts.length≤j:=by have:=of_decide_eq_false Za;omega
  obtain rfl:j=t.ts.length:=by have:=Zf;omega
  rw[List.take_length] at Z;refine GO 15 ?_;intro _ Y;refine aY Y Z [29,28,3,2] (fun (k:Nat)=>[(30,.int .i64 k)]) (fun (k:Nat)=>k≤t.ds.length) (fun k L=>L.set 1 (cq m9 (nM (df (t.ds.take k))))) (fun (k:Nat)=>t.ds.length-k) (0) (Nat.zero_le _) bz (Z) ?_;intro k _ _ Zh Y Z;refine GO 6 ?_;intro _ Y;refine ak (Y.ev rfl) (fun Zc=>?_) (fun Zc=>?_)
  ·
   have hlt:k<t.ds.length:=by have:=of_decide_eq_true Zc;omega
   obtain⟨b,o,rfl,hB,_⟩:=hq.opened (aK cW aq ab)
   have hput:en (nM (df (t.ds.take k))) t.ds[k].g (some (fF t.ds[k]))=nM (df (t.ds.take (k+1))):=by
    rw[List.take_succ_eq_append_getElem hlt];exact AJ (by rw[←List.take_succ_eq_append_getElem hlt];exact rH hs.ds _)
   refine wp_skip (ag (ah (wp_block (ah (ao ?_)))));refine sv Y (au (i:=k) (sz:=3) Tryz.underlying23 aa (Y.ev rfl) (Y.ev rfl) ab ab rfl) fun _ Y=>?_;refine sv (v:=fF t.ds[k]) Y (ai aa aa (Y.ev rfl) (aW cW (Z.rd0 hq) hlt)) fun _ Y=>?_;refine na (.agg #[.int .i64 0,.bool false,.int .i64 0]) Y rfl Z fun b7 _ _ Zl Y Z=>?_;refine sw Y Z 0 fun _ Z=>?_;refine ae (ag ?_);apply aH Y (eZ 7) _ aa
   case h=>
    refine GO 6 ?_;intro _ Y;refine qv (v:=fF t.ds[k]) Y (fun X hX=>ai aa aa (Y.ev rfl) ((Z.grow hX).cellsAll (i:=0) rfl)) fun _ Y=>?_;refine av ?_;refine aP fun _ Zd Zi=>?_;have Z:=Z.grow Zd;refine gE (wn rfl) ⟨rfl,rfl⟩ Tryz.underlying226 Tryz.underlying3 (Y.ev rfl) (Y.ev rfl) (Y.ev rfl) Z (i:=2) rfl fun _ Z=>?_;refine GO 8 ?_;intro _ Y;exact⟨k+1,by omega,hlt,Y.re bz,(hput▸(Z.sub (.cons _ (.cons_cons _ (.cons_cons _ (.cons_cons _ (.cons_cons _ .slnil)))))))⟩
   case hB=>kernel_rfl
   case hst=>rfl
  ·
   have hge:t.ds.length≤k:=by have:=of_decide_eq_false Zc;omega
   obtain rfl:k=t.ds.length:=by have:=Zh;omega
   rw[List.take_length] at Z;refine GO 12 ?_;intro _ Y;refine aD Y rfl rfl ?_;exact⟨(b11,m8,m9),rfl,(Z.sub (.cons_cons _ (.cons_cons _ (.cons_cons _ (.cons _ .slnil)))))⟩
def lO (bt m1 m2:Nat) (t:Tbl):Ent:=.inv (fun b=>b=bt∨b=m1∨b=m2) (fun X=>Box X bt #[.map (some m1),.map (some m2)] 228∧MapF X m1 (nD (dO t.ts))∧MapF X m2 (nM (df t.ds))∧m1≠m2)
 (fun X X' ⟨h1,⟨es,ck,h2,h2'⟩,⟨es',ck',h3,h3'⟩,h4⟩ hb=>⟨(hb bt (.inl rfl)).trans h1,⟨es,ck,(hb m1 (.inr (.inl rfl))).trans h2,h2'⟩,⟨es',ck',(hb m2 (.inr (.inr rfl))).trans h3,h3'⟩,h4⟩)
theorem yZ {M:List Nat} {w X:World} {bt m1 m2:Nat} {t:Tbl} {L:List Ent} (h:St M w X (.box bt #[.map (some m1),.map (some m2)] 228::cq m2 (nM (df t.ds))::cq m1 (nD (dO t.ts))::L)):St M w X (lO bt m1 m2 t::L):=by
 have k1:=h.at_ (i:=0) rfl;have k2:=h.at_ (i:=1) rfl;have k3:=h.at_ (i:=2) rfl
 have hne:m1≠m2:=fun e=>by
  have Y:=(List.pairwise_cons.1 (List.pairwise_cons.1 h.sep).2).1 (cq m1 (nD (dO t.ts))) (List.mem_cons_self) m2;exact Y rfl e.symm
 have Y:St M w X (.inv (fun b=>b=bt∨b=m2) (fun _=>True) (fun _ _ h _=>h)::cq m1 (nD (dO t.ts))::L):=h.fuse2 (fun b hb=>hb) trivial
 exact Y.fuse2 (fun b hb=>by
  rcases hb with hb | hb | hb
  · exact .inl (.inl hb)
  · exact .inr hb
  · exact .inl (.inr hb)) ⟨k1,k3,k2,hne⟩
theorem xK {t:Tbl} {r:Rcd} (h5:r.e.k≠5) (h4:r.e.k≠4):en (nD (dO t.ts)) r.e.t (some (eV (rp t r)))=nD (dO (dV t r).ts):=by
 funext i
 unfold dV;rw[if_neg h5];unfold en nD;show _=(dO (if r.e.k=4 then pM Trn.i t.ts r.e.t else ju Trn.i t.ts (rp t r)) i).map eV;rw[if_neg h4];unfold dO;rw[sh];show(if i=r.e.t then _ else _)=(if i=r.e.t then _ else _:Option Trn).map eV
 split<;>rfl
theorem yj {t:Tbl} {r:Rcd} (h5:r.e.k≠5) (h4:r.e.k=4):en (nD (dO t.ts)) r.e.t none=nD (dO (dV t r).ts):=by
 funext i
 unfold dV;rw[if_neg h5];unfold en nD;show _=(dO (if r.e.k=4 then pM Trn.i t.ts r.e.t else ju Trn.i t.ts (rp t r)) i).map eV;rw[if_pos h4];unfold dO;rw[yN]
 split<;>rfl
theorem uf {t:Tbl} {r:Rcd} (h5:r.e.k≠5):(dV t r).ds=jA t r:=by unfold dV;rw[if_neg h5]
theorem xa {t:Tbl} {r:Rcd} (h1:dt r.e=true) (h2:df t.ds r.e.g=none):en (nM (df t.ds)) r.e.g (some (fF ⟨r.e.g,r.e.f,r.l⟩))=nM (df (jA t r)):=by
 funext i
 unfold jA;rw[if_pos ⟨h1,h2⟩];unfold en nM df;rw[sh]
 split<;>rfl
theorem AG {t:Tbl} {r:Rcd} (h:¬(dt r.e=true∧df t.ds r.e.g=none)):jA t r=t.ds:=by unfold jA;rw[if_neg h]
theorem As (t:Tbl) (r:Rcd) (bt m1 m2:Nat) (w:World) (hB:Box w bt #[.map (some m1),.map (some m2)] 228) (hm1:MapF w m1 (nD (dO t.ts))) (hm2:MapF w m2 (nM (df t.ds))) (hne:m1≠m2) :
 Calls Tryz.prog 130 #[.pointer (some ⟨bt,0,none⟩),.int .i64 r.l,cY r.e] w fun e w'=>e=.returned (.tuple #[])∧St [m1,m2] w w' [cq m1 (nD (dO (dV t r).ts)),cq m2 (nM (df (dV t r).ds))]:=by
 have hmm:kj w [m1,m2]:=fun b hb=>by
  rcases List.mem_cons.1 hb with rfl | hb
  · exact hm1.noCells
  · rw[List.mem_singleton.1 hb];exact hm2.noCells
 refine al (N:=82) Tryz.func130 rfl rfl rfl (fun _ Z=>?_);have U:=St.initM2 hm1 hm2 hne;refine ah (ao ?_);refine nb Z rfl rfl U fun b5 _ _ Zv Z U=>?_;refine GO 10 ?_;intro _ Z;refine ak (Z.ev rfl) (fun Zg=>?_) (fun Zg=>?_)
 ·
  have r5:r.e.k=5:=by simpa using Zg
  have r5':dV t r=t:=by unfold dV;rw[if_pos r5]
  refine wp_ret (eh ?_);refine Bk Z rfl ?_;exact⟨rfl,by rw[r5'];exact(U.sub (.cons _ (.cons_cons _ (.cons_cons _ .slnil))))⟩
 ·
  have r5:r.e.k≠5:=by simpa using Zg
  refine wp_skip (ag (ah (ah ?_)));apply eS Z (fun _=>False) [] [(11,124)] [false,false,false,false,false,false,false,false,false,false,true,true] _ aa bQ
  case h=>
   refine GO 2 ?_;intro _ Z;refine qv Z (fun X hX=>fy 1 (Z.ev rfl)) fun _ Z=>?_;refine qv Z (fun X hX=>lx (Z.ev rfl) ((((U.grow (Grw.below hX)).keptL).box hmm hB).cells 1)) fun _ Z=>?_;refine GO 1 ?_;intro _ Z;refine qv Z (fun X hX=>lx (Z.ev rfl) ((U.grow (Grw.below hX)).cell (i:=0) rfl rfl)) fun _ Z=>?_;refine qv Z (fun X hX=>aw (v':=.tuple #[fF ((df t.ds r.e.g).getD ⟨0,false,0⟩),.bool (df t.ds r.e.g).isSome]) (by unfold nM;cases df t.ds r.e.g<;>rfl) (mM (z:=.agg #[.int .i64 0,.bool false,.int .i64 0]) Tryz.underlying226 Tryz.underlying3 aa (Z.ev rfl) (Z.ev rfl) ((U.grow (Grw.below hX)).at_ (i:=2) rfl))) fun _ Z=>?_;refine GO 4 ?_;intro _ Z;apply ec (O:=(fun _=>False)) (k:=10) (deps:=[]) (R:=NewAny _ 3 _) Z rfl rfl rfl bQ NewAny.stable bQ (wC NewAny.newT)
   case hx=>exact fun X hX hΦ=>kD (eb (z:=.agg #[.int .i64 0,.bool false,.int .i64 0]) aa) hX.size rfl
   intro v6 _ Z;apply gm (k:=11) (deps:=[10]) (kx:=10) (x:=6) (y:=21) (Y:=p3 _) Z rfl ⟨rfl,rfl⟩ rfl bQ ⟨rfl,rfl⟩ rfl gC rfl rfl (n:=3) aa bQ
   case hx=>
    intro X hX hΦ;exact⟨(bF (k:=10) hΦ rfl rfl),rfl,rfl⟩
   intro vs11;refine iw (O:=(fun _=>False)) bQ fun _ Zh Zi=>?_;obtain⟨b6,rfl,Zq,qb6⟩:=StoY.val (v:=vs11) Z rfl (ba Zi (k:=11) rfl);have U:=U.add (Grw.below Zh) (e:=.box _ _ _) qb6 (fun b hb=>by cases hb;exact⟨Zq,Box.lt qb6⟩);refine GO 5 ?_;intro _ Z;refine sv (v:=cY r.e) Z (ai aa aa (Z.ev rfl) (U.cellsAll (i:=1) rfl)) fun _ Z=>?_;refine cE Z rfl U (iN _ _) fun _ _ Z U=>?_;refine GO 1 ?_;intro _ Z;apply aZ (x:=!(df t.ds r.e.g).isSome) Z U 25 rfl 3 28
   case ht=>
    intro Zj;refine GO 3 ?_;intro _ Z;exact ae ⟨Z.midE 2,U⟩
   case hf=>
    intro Zj;refine GO 3 ?_;intro _ Z;exact ae ⟨Z.midE 2,U⟩
   case h=>
    rintro a27 Zw ⟨Zd,Zb⟩
    refine ae (ag ?_);refine qQ (F:=True) Zd Zb [] [5,0,1] (fun L=>L.set 3 (cq m2 (nM (df (jA t r))))) ?_ (fun _ _ Z Za hjT=>?_)
    ·
     refine ak (Zd.ev rfl) (fun Ze=>?_) (fun Ze=>?_)
     ·
      apply aH Zd (eZ 12) _ aa
      case h=>
       refine GO 2 ?_;intro _ Z;refine qv Z (fun X hX=>fy 1 (Z.ev rfl)) fun _ Z=>?_;refine qv Z (fun X hX=>lx (Z.ev rfl) ((((Zb.grow hX).keptL).box hmm hB).cells 1)) fun _ Z=>?_;refine GO 7 ?_;intro _ Z;refine qv (v:=fF ⟨r.e.g,r.e.f,r.l⟩) Z (fun X hX=>ay (zs:=[.int .i64 0,.bool false,.int .i64 0]) (pl:=[(0,1),(1,1),(2,1)]) aa aa (Z.evs2 rfl) rfl rfl) fun _ Z=>?_;refine av ?_;refine aP fun _ Zk Zr=>?_;have U:=Zb.grow Zk;refine gE (wn rfl) ⟨rfl,rfl⟩ Tryz.underlying226 Tryz.underlying3 (Z.ev rfl) (Z.ev rfl) (Z.ev rfl) U (i:=3) rfl fun _ U=>?_;refine ae (ag ?_);have hjT:=trivial;obtain⟨u1,u2⟩:=Bool.and_eq_true_iff.1 Ze;rw[xa u1 (by cases hq:df t.ds r.e.g with | none=>rfl | some y=>rw[hq] at u2;cases u2)] at U;exact⟨Z.re bz,U,hjT⟩
      case hB=>kernel_rfl
      case hst=>rfl
     ·
      refine wp_skip (ag ?_);have hjT:=trivial;have u0:jA t r=t.ds:=AG (fun ⟨u1,u2⟩=>by rw[u1,u2] at Ze;cases Ze)
      have u1:cq m2 (nM (df t.ds))=cq m2 (nM (df (jA t r))):=by rw[u0]
      rw[u1] at Zb;exact⟨Zd.re bz,Zb,hjT⟩
    ·
     refine GO 9 ?_;intro _ Z;refine ak (Z.ev rfl) (fun Zl=>?_) (fun Zl=>?_)
     ·
      have r4:r.e.k=4:=by simpa using Zl
      refine ah ?_;apply aH Z (eZ 6) _ aa
      case h=>
       refine GO 2 ?_;intro _ Z;refine qv Z (fun X hX=>fy 0 (Z.ev rfl)) fun _ Z=>?_;refine qv Z (fun X hX=>lx (Z.ev rfl) ((((Za.grow hX).keptL).box hmm hB).cells 0)) fun _ Z=>?_;refine GO 3 ?_;intro _ Z;refine aP fun _ Zm Zs=>?_;have U:=Za.grow Zm;refine wO (wn rfl) ⟨rfl,rfl⟩ Tryz.underlying225 Tryz.underlying3 (Z.ev rfl) (Z.ev rfl) U (i:=2) rfl fun _ U=>?_;refine ae (ag (wp_ret (eh ?_)));refine Bk Z rfl ?_;exact⟨rfl,by rw[←yj r5 r4,uf r5];exact(U.sub (.cons _ (.cons _ (.cons_cons _ (.cons_cons _ .slnil)))))⟩
      case hB=>kernel_rfl
      case hst=>rfl
     ·
      have r4:r.e.k≠4:=by simpa using Zl
      refine wp_skip (ag (ah ?_));apply aH Z [false,false,false,false,false,false,false,true] _ aa
      case h=>
       refine GO 2 ?_;intro _ Z;refine qv Z (fun X hX=>fy 0 (Z.ev rfl)) fun _ Z=>?_;refine qv Z (fun X hX=>lx (Z.ev rfl) ((((Za.grow hX).keptL).box hmm hB).cells 0)) fun _ Z=>?_;refine GO 2 ?_;intro _ Z;refine qv Z (fun X hX=>aw (v':=eV ((dO t.ts r.e.t).getD mv)) (by unfold nD;cases dO t.ts r.e.t<;>rfl) (yT (z:=.agg #[.int .i64 0,.int .i64 0,.int .i64 0,.bool false]) Tryz.underlying225 Tryz.underlying3 aa (Z.ev rfl) (Z.ev rfl) ((Za.grow hX).at_ (i:=2) rfl))) fun _ Z=>?_;refine av ?_;apply gP (k:=7) (deps:=[]) (R:=NewB _ (fun b=>.pointer (some ⟨b,0,none⟩)) _ _) Z rfl rfl rfl NewB.stable (fun X hX hΦ=>jz (eb (z:=.agg #[.int .i64 0,.int .i64 0,.int .i64 0,.bool false]) aa) hX.size);intro v8 _ Z;refine aP fun _ Zc Zn=>?_;have U:=Za.grow Zc;have Zf:=ba Zn (k:=7) rfl;obtain⟨b8,rfl,Zt,Zf⟩:=Zf;have U:=Za.add Zc (e:=.box _ _ _) Zf (fun b hb=>by cases hb;exact⟨Zt,Box.lt Zf⟩);refine sw Z U 0 fun _ U=>?_;refine GO 6 ?_;intro _ Z;refine sv (v:=lW ⟨0,0,((dO t.ts r.e.t).getD mv).u⟩) Z (ay (zs:=[.int .i64 0,.int .i64 0,.int .i64 0]) (pl:=[(0,1),(1,1),(2,1)]) aa aa (Z.evs2 rfl) rfl rfl) fun _ Z=>?_;refine GO 1 ?_;intro _ Z;refine sv (v:=cY r.e) Z (ai aa aa (Z.ev rfl) (U.cellsAll (i:=2) rfl)) fun _ Z=>?_;refine cE Z rfl U (pr ⟨0,0,((dO t.ts r.e.t).getD mv).u⟩ r.l r.e _) fun _ _ Z U=>?_;refine na (.agg #[.int .i64 0,.int .i64 0,.int .i64 0]) Z rfl U fun b9 _ _ Zx Z U=>?_;refine sw Z U 0 fun _ U=>?_;refine ae (ag ?_);apply aH Z (eZ 19) _ aa
       case h=>
        refine GO 2 ?_;intro _ Z;refine qv Z (fun X hX=>fy 0 (Z.ev rfl)) fun _ Z=>?_;refine qv Z (fun X hX=>lx (Z.ev rfl) ((((U.grow hX).keptL).box hmm hB).cells 0)) fun _ Z=>?_;refine GO 11 ?_;intro _ Z;apply fa (x:=((dO t.ts r.e.t).getD mv).c) Z 77 rfl 3 80
        case hf=>
         intro Zo;refine GO 3 ?_;intro _ Z;exact av (Z.midE 2)
        case ht=>
         intro Zo;refine GO 3 ?_;intro _ Z;exact av (Z.midE 2)
        case h=>
         intro _ Z;refine qv (v:=eV (rp t r)) Z (fun X hX=>ay (zs:=[.int .i64 0,.int .i64 0,.int .i64 0,.bool false]) (pl:=[(0,1),(1,1),(2,1),(3,1)]) aa aa (Z.evs2 rfl) rfl rfl) fun _ Z=>?_;refine av ?_;refine aP fun _ Zp Zu=>?_;have U:=U.grow Zp;refine gE (wn rfl) ⟨rfl,rfl⟩ Tryz.underlying225 Tryz.underlying3 (Z.ev rfl) (Z.ev rfl) (Z.ev rfl) U (i:=4) rfl fun _ U=>?_;refine ae ?_;refine C4 Z rfl ?_;exact⟨rfl,by rw[←xK r5 r4,uf r5];exact(U.sub (.cons _ (.cons _ (.cons _ (.cons _ (.cons_cons _ (.cons_cons _ .slnil)))))))⟩
       case hB=>kernel_rfl
       case hst=>rfl
      case hB=>kernel_rfl
      case hst=>rfl
  case hB=>kernel_rfl
end Go.Proofs.YtcfdpfmchchkaaaGreatDoor
