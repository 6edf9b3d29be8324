/-
  Chapter 22: what the error of a record is made of.
  Chapter 22: the error of a record.
  Chapter 22: the error of a record.
  Chapter 22: the error of a history.
  Chapter 22: a table by numbers.
-/
import Derived.Test.YtcfdpfmchchkaaaGreatDoorRcC
import Derived.Test.YtcfdpfmchchkaaaGreatDoorOpEnt3
namespace Go.Proofs.YtcfdpfmchchkaaaGreatDoor
set_option maxHeartbeats 2000000
set_option maxRecDepth 4000
set_option linter.unusedVariables false
set_option linter.unusedSimpArgs false
open Go.RowKit Go.Sort
def lT (c:Chn):Value:=.agg #[.int .i64 c.l,.int .i64 c.k,.int .i64 c.u]
theorem oC (c:Chn) (n:Int) (x:Lge) (w:World) :
 Calls Tryz.prog 159 #[lT c,.int .i64 n,de x] w fun e w'=>e=.returned (lT (rP c n x))∧Below w.heap.size w w':=by
 refine ao (N:=24) Tryz.func159 rfl rfl rfl (fun _ Y=>?_);have Z:=St.init w;refine ai (aq ?_);refine nb Y rfl rfl Z fun b3 _ _ Ze Y Z=>?_;refine nb Y rfl rfl Z fun b5 _ _ Zf Y Z=>?_;refine na (.agg #[.int .i64 0,.int .i64 0,.int .i64 0]) Y rfl Z fun b6 _ _ Zg Y Z=>?_;refine ae (ag (ai ?_));apply mr (m:=4) Y (St.domAt Z (i:=2) rfl) 0 [false,false,false,false,true] _ aa
 case h=>
  refine GO 2 ?_;intro _ Y;refine qv Y (fun X hX=>lx (Y.ev rfl) ((Z.growO (i:=2) rfl hX).cell (i:=1) rfl rfl)) fun _ Y=>?_;refine GO 2 ?_;intro _ Y;apply mD (k:=4) (deps:=[]) (R:=IsBox _ _ _) Y rfl rfl IsBox.stable (fun X hX hΦ=>j6 rfl (Y.ev rfl) (Y.ev rfl) rfl aa ((Z.grow hX).at_ (i:=2) rfl) rfl rfl);intro vs4;refine tH fun _ Zc Zd=>?_;have Z:=Z.growBox (i:=2) (v:=vs4) rfl Zc (ba Zd (k:=4) rfl);refine GO 1 ?_;intro _ Y;refine aP Y (wn rfl) ⟨rfl,rfl⟩ (Y.ev rfl) (Y.ev rfl) rfl aa Z (i:=2) rfl rfl rfl fun _ Z=>?_;refine GO 16 ?_;intro _ Y;refine ak (Y.ev rfl) (fun Za=>?_) (fun Za=>?_)
  ·
   refine GO 3 ?_;intro _ Y;refine aP Y (wn rfl) ⟨rfl,rfl⟩ (Y.ev rfl) (Y.ev rfl) rfl aa Z (i:=2) rfl rfl rfl fun _ Z=>?_;refine ae (dP (ag (ai (aq ?_))));refine sv Y (ah aa aa (Y.ev rfl) (Z.cellsAll (i:=2) rfl)) fun _ Y=>?_;refine sw Y Z 0 fun _ Z=>?_;refine ae (ag (wp_ret ?_));refine kU Y rfl rfl Z (i:=0) rfl aa aa ?_
   have hk:x.k=0:=by simpa using Za
   exact⟨by unfold rP;rw[if_pos hk];rfl,Z.below⟩
  ·
   refine GO 6 ?_;intro _ Y;refine ak (Y.ev rfl) (fun Zb=>?_) (fun Zb=>?_)
   ·
    refine GO 4 ?_;intro _ Y;refine aP Y (wn rfl) ⟨rfl,rfl⟩ (Y.ev rfl) (Y.ev rfl) rfl aa Z (i:=2) rfl rfl rfl fun _ Z=>?_;refine ae (dP (ag (ai (aq ?_))));refine sv Y (ah aa aa (Y.ev rfl) (Z.cellsAll (i:=2) rfl)) fun _ Y=>?_;refine sw Y Z 0 fun _ Z=>?_;refine ae (ag (wp_ret ?_));refine kU Y rfl rfl Z (i:=0) rfl aa aa ?_
    have hk:x.k≠0:=by simpa using Za
    have hk1:x.k=1:=by simpa using Zb
    exact⟨by unfold rP;rw[if_neg hk,if_pos hk1];rfl,Z.below⟩
   ·
    refine wp_skip (dP (ag (ai (aq ?_))));refine sv Y (ah aa aa (Y.ev rfl) (Z.cellsAll (i:=2) rfl)) fun _ Y=>?_;refine sw Y Z 0 fun _ Z=>?_;refine ae (ag (wp_ret ?_));refine kU Y rfl rfl Z (i:=0) rfl aa aa ?_
    have hk:x.k≠0:=by simpa using Za
    have hk1:x.k≠1:=by simpa using Zb
    exact⟨by unfold rP;rw[if_neg hk,if_neg hk1];rfl,Z.below⟩
 case hB=>kernel_rfl
 case hst=>rfl
theorem rL {h0 m:Int} {x:Lge} {b:Bool} (hm:(if b=true then 0 else h0-1)=m) (h:x.p>m):gk h0 x b=(⟨0,0,0⟩,14):=by unfold gk;rw[if_pos (by rw[hm];exact h)]
theorem xI {h0 m:Int} {x:Lge} {b:Bool} (hm:(if b=true then 0 else h0-1)=m) (h:¬x.p>m) (hp:x.p≠0):gk h0 x b=(⟨x.p,-1,-1⟩,0):=by unfold gk;rw[if_neg (by rw[hm];exact h),if_pos hp]
theorem wV {h0 m:Int} {x:Lge} {b:Bool} (hm:(if b=true then 0 else h0-1)=m) (h:¬x.p>m) (hp:x.p=0):gk h0 x b=(⟨x.p,0,0⟩,0):=by unfold gk;rw[if_neg (by rw[hm];exact h),if_neg (by rw[hp];decide)]
theorem ve (l:List Rcd) (A:Option Addr) (c:Nat) (x:Lge) (b:Bool) (w:World) (hr:Rd w w.heap.size A (l.flatMap bC)) (hn:0<l.length) (hb:1≤df l∧df l≤2147483647) :
 Calls Tryz.prog 156 #[.slice A l.length c,de x,.bool b] w fun e w'=>e=.returned (.tuple #[lT (gk (df l) x b).1,.int .i64 (gk (df l) x b).2])∧Below w.heap.size w w':=by
 have hf:=fu hn;rw[hf] at hb;obtain⟨b',o',rfl,hB,_⟩:=hr.opened (aK aB ar hn);refine ao (N:=30) Tryz.func156 rfl rfl rfl (fun _ Y=>?_);have Z:=St.init w;refine ai (aq ?_);refine nb Y rfl rfl Z fun b4 _ _ Zf h1 Z=>?_;refine na (.agg #[.int .i64 0,.int .i64 0,.int .i64 0]) h1 rfl Z fun b6 _ _ Zg h2 Z=>?_;refine GO 6 ?_;intro _ Y;refine sv Y (av (i:=0) (sz:=14) Tryz.underlying180 aa (Y.ev rfl) (Y.ev rfl) ab ab rfl) fun _ Y=>?_;refine sv Y (fy 0 (Y.ev rfl)) fun _ Y=>?_;refine sv Y (lx (Y.ev rfl) ((aW aB (Z.rd0 hr) hn) 0 _ rfl)) fun _ Y=>?_;refine GO 10 ?_;intro _ Y;refine ak (Y.ev rfl) (fun Zc=>?_) (fun Zc=>?_)
 ·
  subst Zc;refine GO 13 ?_;intro _ Zd;refine ak (Zd.ev rfl) (fun Za=>?_) (fun Za=>?_)
  ·
   have h1:=of_decide_eq_true Za;refine ai (aq ?_);refine sv Zd (ay (zs:=[.int .i64 0,.int .i64 0,.int .i64 0]) (pl:=[(0,1),(1,1),(2,1)]) aa aa (Zd.evs2 rfl) rfl rfl) fun _ Y=>?_;refine sw Y Z 0 fun _ Z=>?_;refine GO 5 ?_;intro _ Y;refine br Y rfl rfl rfl Z (i:=0) rfl aa aa ?_;exact⟨by rw[rL (m:=0) rfl h1];rfl,Z.below⟩
  ·
   have h1:=of_decide_eq_false Za;refine GO 6 ?_;intro _ Y;refine sv Y (ay (zs:=[.int .i64 0,.int .i64 0,.int .i64 0]) (pl:=[(0,1),(1,1),(2,1)]) aa aa (Y.evs2 rfl) rfl rfl) fun _ Y=>?_;refine na (.agg #[.int .i64 0,.int .i64 0,.int .i64 0]) Y rfl Z fun b9 _ _ Ze Y Z=>?_;refine sw Y Z 0 fun _ Z=>?_;refine GO 10 ?_;intro _ Y;refine ak (Y.ev rfl) (fun Zb=>?_) (fun Zb=>?_)
   ·
    have h2:x.p≠0:=by simpa using Zb
    refine GO 2 ?_;intro _ Y;refine aP Y (wn rfl) ⟨rfl,rfl⟩ (Y.ev rfl) (Y.ev rfl) rfl aa Z (i:=0) rfl rfl rfl fun _ Z=>?_;refine GO 1 ?_;intro _ Y;refine aP Y (wn rfl) ⟨rfl,rfl⟩ (Y.ev rfl) (Y.ev rfl) rfl aa Z (i:=0) rfl rfl rfl fun _ Z=>?_;refine pb ?_;refine sv Y (ah aa aa (Y.ev rfl) (Z.cellsAll (i:=0) rfl)) fun _ Y=>?_;refine sw Y Z 1 fun _ Z=>?_;refine GO 4 ?_;intro _ Y;refine br Y rfl rfl rfl Z (i:=1) rfl aa aa ?_;exact⟨by rw[xI (m:=0) rfl h1 h2];rfl,Z.below⟩
   ·
    have h2:x.p=0:=by simpa using Zb
    refine wp_skip (ag (ai (aq ?_)));refine sv Y (ah aa aa (Y.ev rfl) (Z.cellsAll (i:=0) rfl)) fun _ Y=>?_;refine sw Y Z 1 fun _ Z=>?_;refine GO 4 ?_;intro _ Y;refine br Y rfl rfl rfl Z (i:=1) rfl aa aa ?_;exact⟨by rw[wV (m:=0) rfl h1 h2];rfl,Z.below⟩
 ·
  subst Zc;refine GO 11 ?_;intro _ Y;refine ak (Y.ev rfl) (fun Za=>?_) (fun Za=>?_)
  ·
   have h1:=of_decide_eq_true Za;refine ai (aq ?_);refine sv Y (ay (zs:=[.int .i64 0,.int .i64 0,.int .i64 0]) (pl:=[(0,1),(1,1),(2,1)]) aa aa (Y.evs2 rfl) rfl rfl) fun _ Y=>?_;refine sw Y Z 0 fun _ Z=>?_;refine GO 5 ?_;intro _ Y;refine br Y rfl rfl rfl Z (i:=0) rfl aa aa ?_;exact⟨by rw[rL (m:=l[0].l-1) (by rw[hf];rfl) h1];rfl,Z.below⟩
  ·
   have h1:=of_decide_eq_false Za;refine GO 6 ?_;intro _ Y;refine sv Y (ay (zs:=[.int .i64 0,.int .i64 0,.int .i64 0]) (pl:=[(0,1),(1,1),(2,1)]) aa aa (Y.evs2 rfl) rfl rfl) fun _ Y=>?_;refine na (.agg #[.int .i64 0,.int .i64 0,.int .i64 0]) Y rfl Z fun b9 _ _ Ze Y Z=>?_;refine sw Y Z 0 fun _ Z=>?_;refine GO 10 ?_;intro _ Y;refine ak (Y.ev rfl) (fun Zb=>?_) (fun Zb=>?_)
   ·
    have h2:x.p≠0:=by simpa using Zb
    refine GO 2 ?_;intro _ Y;refine aP Y (wn rfl) ⟨rfl,rfl⟩ (Y.ev rfl) (Y.ev rfl) rfl aa Z (i:=0) rfl rfl rfl fun _ Z=>?_;refine GO 1 ?_;intro _ Y;refine aP Y (wn rfl) ⟨rfl,rfl⟩ (Y.ev rfl) (Y.ev rfl) rfl aa Z (i:=0) rfl rfl rfl fun _ Z=>?_;refine pb ?_;refine sv Y (ah aa aa (Y.ev rfl) (Z.cellsAll (i:=0) rfl)) fun _ Y=>?_;refine sw Y Z 1 fun _ Z=>?_;refine GO 4 ?_;intro _ Y;refine br Y rfl rfl rfl Z (i:=1) rfl aa aa ?_;exact⟨by rw[xI (m:=l[0].l-1) (by rw[hf];rfl) h1 h2];rfl,Z.below⟩
   ·
    have h2:x.p=0:=by simpa using Zb
    refine wp_skip (ag (ai (aq ?_)));refine sv Y (ah aa aa (Y.ev rfl) (Z.cellsAll (i:=0) rfl)) fun _ Y=>?_;refine sw Y Z 1 fun _ Z=>?_;refine GO 4 ?_;intro _ Y;refine br Y rfl rfl rfl Z (i:=1) rfl aa aa ?_;exact⟨by rw[wV (m:=l[0].l-1) (by rw[hf];rfl) h1 h2];rfl,Z.below⟩
theorem kc (x:Lge) (w:World) (hd:x.d.size≤100000) :
 Calls Tryz.prog 155 #[de x] w fun e w'=>e=.returned (.int .i64 (Ck x))∧Below w.heap.size w w':=by
 refine ao (N:=20) Tryz.func155 rfl rfl rfl (fun _ Y=>?_);have Z:=St.init w;refine ai (aq ?_);refine nb Y rfl rfl Z fun b1 _ _ Ze Y Z=>?_;refine GO 10 ?_;intro _ Y;apply bn Y Z 8 rfl 4 12
 case hf=>
  intro Zd;refine GO 4 ?_;intro _ Y;exact ae ⟨Y.midE 3,Z⟩
 case ht=>
  intro Zd;refine GO 4 ?_;intro _ Y;exact ae ⟨Y.midE 3,Z⟩
 case h=>
  rintro a15 Zf ⟨Zb,Zc⟩
  refine ae (ag ?_);refine ak (Zb.ev rfl) (fun Za=>?_) (fun Za=>?_)
  ·
   refine GO 7 ?_;intro _ Y;refine aF Y rfl rfl ?_
   have Y:x.t≠0∨x.p≠0:=by simpa using Za
   exact⟨by unfold Ck;rw[if_pos Y];(try rfl),Zc.below⟩
  ·
   refine wp_skip (ag (ai (aq ?_)));refine vf Zb 12 12 fun _ Y=>?_;refine GO 1 ?_;intro _ Y;refine cW Y (wn rfl) (ax a8 (Y.evs rfl) rfl) rfl rfl Zc (lD (bl x.d) _ hd) fun p16 _ _ Y Z=>?_;refine GO 1 ?_;intro _ Y;refine sv (v:=cB (cV (bl x.d)) p16.1 p16.2.1 p16.2.2.1 p16.2.2.2) Y (bH (Y.ev rfl) rfl) fun _ Y=>?_;refine GO 1 ?_;intro _ Y;refine na (.agg #[.slice none 0 0,.slice none 0 0]) Y rfl Z fun b3 _ _ Zg Y Z=>?_;refine sw Y Z 0 fun _ Z=>?_;refine GO 10 ?_;intro _ Y;refine aF Y rfl rfl ?_
   have Y:¬(x.t≠0∨x.p≠0):=by simpa using Za
   exact⟨by unfold Ck;rw[if_neg Y];(try rfl),Z.below⟩
theorem VldH.srt {l:List Rcd} {i:Nat} (h:VldH l i):bZ Rcd.l (l.take i):=by
 refine List.pairwise_iff_getElem.2 fun j k hj hk hjk=>?_;have h1:=h.1;rw[List.length_take] at hj hk;rw[List.getElem_take,List.getElem_take];exact h.lt hjk ab
theorem yv (x y:Op):kZ [.int .i64 x.k,.int .i64 x.a,.int .i64 x.e,.int .i64 x.c,.string x.o,.string x.n] [.int .i64 y.k,.int .i64 y.a,.int .i64 y.e,.int .i64 y.c,.string y.o,.string y.n]=decide (x=y):=by
 obtain⟨k,a,e,c,o,n⟩:=x;obtain⟨k',a',e',c',o',n'⟩:=y;rw[Bool.eq_iff_iff,decide_eq_true_eq];simp[kZ,sT]
theorem ug {x:Lge} (h:dH x=0):fi x.o=0:=by
 unfold dH at h;rw[aQ] at h;exact h _ (.tail _ (.tail _ (.tail _ (.tail _ (.head _)))))
theorem Rd.takeF {α:Type} {f:α→List Value} {n:Nat} (hf:∀x,(f x).length=n) {w:World} {B:Nat} {A:Option Addr} {l:List α} (h:Rd w B A (l.flatMap f)) (k:Nat):Rd w B A ((l.take k).flatMap f):=fun j u hj=>by
 rw[←wj hf,List.getElem?_take] at hj
 split at hj
 · exact h j u hj
 · cases hj
theorem te (l:List Rcd) (A:Option Addr) (c:Nat) (i:Nat) (ch:Chn) (x:Lge) (w:World) (hr:Rd w w.heap.size A (l.flatMap bC)) (hi:i<l.length) (hl:l.length≤1000) (hc:l.length≤c) (hv:VldH l i) (hb0:1≤df l∧df l≤2147483647) :
 Calls Tryz.prog 158 #[.slice A l.length c,.int .i64 i,lT ch,de x] w fun e w'=>e=.returned (.int .i64 (jD l i ch x))∧Below w.heap.size w w':=by
 have hs:=hv.srt;have hf:=fu (l:=l) ab
 have hlt:(l.take i).length=i:=by rw[List.length_take];omega
 have hrt:Rd w w.heap.size A ((l.take i).flatMap bC):=hr.takeF aB i;obtain⟨b',o',rfl,hB,_⟩:=hr.opened (aK aB ar ab);refine ao (N:=80) Tryz.func158 rfl rfl rfl (fun _ Y=>?_);have Z:=St.init w;refine ai (aq ?_);refine nb Y rfl rfl Z fun b6 _ _ Zn Y Z=>?_;refine nb Y rfl rfl Z fun b7 _ _ Zo Y Z=>?_;refine GO 11 ?_;intro _ Y;refine ak (Y.ev rfl) (fun Zb=>?_) (fun Zb=>?_)
 ·
  have hu:ch.u=0:=by simpa using Zb
  refine GO 7 ?_;intro _ Y;refine aF Y rfl rfl ?_;exact⟨by unfold jD;rw[if_pos hu],Z.below⟩
 ·
  have hu:ch.u≠0:=by simpa using Zb
  refine wp_skip (ag (ai ?_));apply aL Y (fA 5) _ aa
  case h=>
   refine GO 2 ?_;intro _ Y;refine qv Y (fun X hX=>gK (l:=0) (h:=i) (sz:=14) Tryz.underlying180 aa (Y.ev rfl) rfl (Y.ev rfl) ab ab (.inr rfl) rfl) fun _ Y=>?_;refine GO 3 ?_;intro _ Y;refine aS fun _ Zc Zk=>?_;have Z:=Z.grow Zc;refine cT Y rfl Z (hlt▸la (l.take i) hs _ c ch.u _ (Z.rd0 hrt) ab) fun _ _ Y Z=>?_;refine GO 7 ?_;intro _ Y;refine sv Y (l7 Tryz.underlying219 aa (Y.ev rfl) (Y.ev rfl)) fun _ Y=>?_;refine ae (ag ?_);refine ak (Y.ev rfl) (fun Zd=>?_) (fun Zd=>?_)
   ·
    have hn:=oH Zd;refine ai ?_;apply aL Y (fA 6) _ aa
    case h=>
     refine GO 3 ?_;intro _ Y;refine qv Y (fun X hX=>av (i:=0) (sz:=14) Tryz.underlying180 aa (Y.ev rfl) (Y.ev rfl) ab ab rfl) fun _ Y=>?_;refine qv Y (fun X hX=>fy 0 (Y.ev rfl)) fun _ Y=>?_;refine qv Y (fun X hX=>lx (Y.ev rfl) ((aW aB ((Z.grow hX).rd0 hr) (show 0<l.length by omega)) 0 _ rfl)) fun _ Y=>?_;refine aw ?_;refine aS fun _ Ze Zl=>?_;have Z:=Z.grow Ze;refine GO 1 ?_;intro _ Y;refine cI Y rfl (aJ _ _ _) fun _ Y=>?_;refine GO 5 ?_;intro _ Y;refine aF Y rfl rfl ?_;exact⟨by unfold jD;rw[if_neg hu,hn,hf],Z.below⟩
    case hB=>kernel_rfl
    case hst=>rfl
   ·
    obtain⟨qk,q1,q2,q3⟩:=oG hs Zd;rw[show kR (some ⟨b',o',none⟩) (l.take i) ch.u=some ⟨b',o'+iv Rcd.l (l.take i) ch.u*14+1,none⟩ from q3] at Y;generalize iv Rcd.l (l.take i) ch.u=k at qk q1 q2 q3 Y
    have hki:k<i:=by omega
    have hge:(l.take i)[k]=l[k]'ab:=List.getElem_take ..
    have hoE:fi (l.take i)[k].e.o=0:=by rw[hge];exact ug (hv.e0 hki).2.2
    refine GO 6 ?_;intro _ Y;refine sv Y (fy 6 (Y.ev rfl)) fun _ Y=>?_;refine sv (v:=fL (l.take i)[k].e.o) Y (ah aa aa (Y.ev rfl) (CS (Z.rd0 hrt) qk)) fun _ Y=>?_;refine cT Y rfl Z (tj (l.take i)[k].e.o _ hoE) fun _ _ Y Z=>?_;refine GO 3 ?_;intro _ Y;refine na (.agg #[.int .i64 0,.int .i64 0,.int .i64 0,.int .i64 0,.string ⟨#[]⟩,.string ⟨#[]⟩]) Y rfl Z fun b10 _ _ Zm Y Z=>?_;refine sw Y Z 0 fun _ Z=>?_;refine GO 4 ?_;intro _ Y;apply aL Y (fA 38) _ aa
    case h=>
     refine GO 2 ?_;intro _ Y;refine qv Y (fun X hX=>fy 0 (Y.ev rfl)) fun _ Y=>?_;refine qv Y (fun X hX=>lx (Y.ev rfl) ((en ((Z.grow hX).rd0 hrt) qk) 0 _ rfl)) fun _ Y=>?_;refine GO 2 ?_;intro _ Y;apply iO Y 45 rfl 8 53
     case ht=>
      intro Zf;refine GO 4 ?_;intro _ Y;refine qy Y (fun X hX=>(fy 2 (Y.ev rfl))) fun _ Y=>?_;refine qy Y (fun X hX=>(lx (Y.ev rfl) ((en ((Z.grow hX).rd0 hrt) qk) 2 _ rfl))) fun _ Y=>?_;refine GO 2 ?_;intro _ Y;exact aw (Y.midE 7)
     case hf=>
      intro Zf;refine GO 8 ?_;intro _ Y;exact aw (Y.midE 7)
     case h=>
      intro _ Y;refine GO 1 ?_;intro _ Y;apply iO Y 54 rfl 8 62
      case ht=>
       intro Zg;refine GO 4 ?_;intro _ Y;refine qy Y (fun X hX=>(fy 4 (Y.ev rfl))) fun _ Y=>?_;refine qy Y (fun X hX=>(lx (Y.ev rfl) ((en ((Z.grow hX).rd0 hrt) qk) 4 _ rfl))) fun _ Y=>?_;refine GO 2 ?_;intro _ Y;exact aw (Y.midE 7)
      case hf=>
       intro Zg;refine GO 8 ?_;intro _ Y;exact aw (Y.midE 7)
      case h=>
       intro _ Y;refine GO 1 ?_;intro _ Y;apply iO Y 63 rfl 8 71
       case ht=>
        intro Zh;refine GO 4 ?_;intro _ Y;refine qy Y (fun X hX=>(fy 5 (Y.ev rfl))) fun _ Y=>?_;refine qy Y (fun X hX=>(lx (Y.ev rfl) ((en ((Z.grow hX).rd0 hrt) qk) 5 _ rfl))) fun _ Y=>?_;refine qy Y (fun X hX=>(uo Tryz.underlying4 (Y.ev rfl) (Y.ev rfl))) fun _ Y=>?_;refine GO 1 ?_;intro _ Y;exact aw (Y.midE 7)
       case hf=>
        intro Zh;refine GO 8 ?_;intro _ Y;exact aw (Y.midE 7)
       case h=>
        intro _ Y;refine GO 1 ?_;intro _ Y;apply iO Y 72 rfl 5 77
        case ht=>
         intro Zi;refine GO 1 ?_;intro _ Y;refine qy Y (fun X hX=>(ah aa aa (Y.ev rfl) ((Z.grow hX).cellsOf (i:=1) rfl 6 6))) fun _ Y=>?_;refine qy Y (fun X hX=>(ah aa aa (Y.ev rfl) ((Z.grow hX).cellsAll (i:=0) rfl))) fun _ Y=>?_;refine qy Y (fun X hX=>(ur (ks:=[.i .i64,.i .i64,.i .i64,.i .i64,.s,.s]) aa Tryz.underlying141 aa (Y.ev rfl) (Y.ev rfl) rfl rfl)) fun _ Y=>?_;refine GO 1 ?_;intro _ Y;exact aw (Y.midE 4)
        case hf=>
         intro Zi;refine GO 5 ?_;intro _ Y;exact aw (Y.midE 4)
        case h=>
         intro _ Y;refine aw ?_;refine aS fun _ Za Zj=>?_;have Z:=Z.grow Za;refine GO 6 ?_;intro _ Y;refine cI Y rfl (aJ _ _ _) fun _ Y=>?_;refine GO 4 ?_;intro _ Y;refine aF Y rfl rfl ?_;refine⟨?_,Z.below⟩;have e:=yv x.o (ga (l.take i)[k].e.o);unfold jD;rw[if_neg hu,q2];show _=Ending.returned (.int .i64 (bo (_&&_&&_&&_&&decide (x.o=ga (l.take i)[k].e.o)) 13));rw[←e];rfl
    case hB=>kernel_rfl
    case hst=>rfl
  case hB=>kernel_rfl
  case hst=>rfl
open Go.RowKit Go.Sort
def Bu:List Int→Int→Nat→Int
 | [],_,_=>-1
 | x::r,v,k=>if v=x then k else Bu r v (k+1)
theorem uC:∀(l:List Int) (v:Int) (k:Nat),decide (Bu l v k≥0)=l.any fun x=>x==v
 | [],v,k=>rfl
 | x::r,v,k=>by
  unfold Bu;rw[List.any_cons];by_cases h:v=x
  · rw[if_pos h,decide_eq_true ab,show(x==v)=true by rw[h];exact beq_self_eq_true x];rfl
  · rw[if_neg h,uC r v (k+1),show(x==v)=false by rw[beq_eq_false_iff_ne];exact fun e=>h e.symm];rfl
theorem Cg {X:World} {B b o k:Nat} {l:List Int} (hr:Rd X B (some ⟨b,o,none⟩) (l.map (.int .i64))) (hk:k<l.length):∀(j:Nat) (u:Value),[Value.int .i64 l[k]][j]? = some u→X.cell? ⟨b,o+k*1+j,none⟩=some u
 | 0,u,hu=>by
  obtain⟨b',o',e,_,hc⟩:=hr k u (by rw[List.getElem?_map,List.getElem?_eq_getElem hk];exact hu);injection e with e;injection e with e1 e2;subst e1 e2;rw[Nat.mul_one,Nat.add_zero];exact hc
 | j+1,u,hu=>by simp at hu
theorem uZ (l:List Int) (A:Option Addr) (c:Nat) (v:Int) (w:World) (hr:Rd w w.heap.size A (l.map (.int .i64))) (hl:l.length≤1000) :
 Calls Tryz.prog 218 #[.slice A l.length c,.int .i64 v] w fun e w'=>e=.returned (.int .i64 (Bu l v 0))∧Below w.heap.size w w':=by
 refine ao (N:=19) Tryz.func218 rfl rfl rfl (fun _ Y=>?_);have Z:=St.init w;refine GO 14 ?_;intro _ Y;refine aY Y Z [7,0,1] (fun (j:Nat)=>[(8,.int .i64 j)]) (fun (j:Nat)=>j≤l.length∧Bu l v 0=Bu (l.drop j) v j) (fun (j:Nat) L=>L) (fun (j:Nat)=>l.length-j) (0) (⟨Nat.zero_le _,rfl⟩) bD (Z) ?_;intro j _ _ Za Y Z;refine GO 6 ?_;intro _ Y;refine ak (Y.ev rfl) (fun Zb=>?_) (fun Zb=>?_)
 ·
  have hlt:j<l.length:=by have:=of_decide_eq_true Zb;omega
  obtain⟨b,o,rfl,hB,hcc⟩:=hr.opened (by rw[List.length_map];omega);have hd:l.drop j=l[j]::l.drop (j+1):=List.drop_eq_getElem_cons hlt;refine GO 15 ?_;intro _ Y;refine sv Y (av (i:=j) (sz:=1) Tryz.underlying53 aa (Y.ev rfl) (Y.ev rfl) ab ab rfl) fun _ Y=>?_;refine sv Y (lx (Y.ev rfl) ((Cg (Z.rd0 hr) hlt) 0 _ rfl)) fun _ Y=>?_;refine GO 3 ?_;intro _ Y;refine ak (Y.ev rfl) (fun Zc=>?_) (fun Zc=>?_)
  ·
   refine GO 12 ?_;intro _ Y;refine aF Y rfl rfl ?_;exact⟨by rw[Za.2,hd,Bu,if_pos (by simpa using Zc)],Z.below⟩
  ·
   refine GO 8 ?_;intro _ Y;exact⟨j+1,by omega,⟨hlt,by rw[Za.2,hd,Bu,if_neg (by simpa using Zc)]⟩,Y.re bD,Z⟩
 ·
  have hge:l.length≤j:=by have:=of_decide_eq_false Zb;omega
  refine GO 11 ?_;intro _ Y;refine aF Y rfl rfl ?_;exact⟨by rw[Za.2,List.drop_of_length_le hge];rfl,Z.below⟩
theorem qa (l:List Int) (A:Option Addr) (c:Nat) (v:Int) (w:World) (hr:Rd w w.heap.size A (l.map (.int .i64))) (hl:l.length≤1000) :
 Calls Tryz.prog 157 #[.slice A l.length c,.int .i64 v] w fun e w'=>e=.returned (.bool (l.any fun x=>x==v))∧Below w.heap.size w w':=by
 refine ao (N:=9) Tryz.func157 rfl rfl rfl (fun _ Y=>?_);have Z:=St.init w;refine GO 9 ?_;intro _ Y;refine cT Y rfl Z (uZ l A c v _ (Z.rd0 hr) hl) fun _ _ Y Z=>?_;refine GO 5 ?_;intro _ Y;refine aF Y rfl rfl ?_;exact⟨by rw[←uC l v 0],Z.below⟩
open Go.RowKit Go.Sort
structure FolT (w:World):Prop where
 cells:∀k:Nat,k<6→∃A c,w.cell? ⟨0,k,none⟩=some (.slice A (tg k).length c)∧Rd w w.heap.size A ((tg k).map (.int .i64))
theorem FolT.below {w w':World} (h:FolT w) (hb:Below w.heap.size w w'):FolT w':=⟨fun k hk=>by
 obtain⟨A,c,h1,h2⟩:=h.cells k hk
 exact⟨A,c,(hb.cell (p:=⟨0,k,none⟩) (block_lt_of_cell h1)).trans h1,h2.below' hb⟩⟩
structure KeptM (m:Nat) (w X:World):Prop where
 size:w.heap.size≤X.heap.size
 block:∀b,b<w.heap.size→b≠m→X.heap[b]? = w.heap[b]?
theorem St.keptM {m:Nat} {w X:World} {L:List Ent} (h:St [m] w X L):KeptM m w X:=⟨h.size,fun b hb hne=>h.block b hb (by simpa using hne)⟩
theorem KeptM.cell {m:Nat} {w X:World} (h:KeptM m w X) (hm:∃es ck,w.heap[m]? = some (.map es ck)) {a:Addr} {v:Value} (hc:w.cell? a=some v):X.cell? a=some v:=by
 obtain⟨es,ck,hm⟩:=hm;have hlt:=block_lt_of_cell hc;refine(World.cell?_of_block (h.block _ hlt (fun e=>?_))).trans hc;unfold World.cell? at hc;rw[e,hm] at hc
 cases hc
theorem KeptM.rd {m:Nat} {w X:World} (h:KeptM m w X) (hm:∃es ck,w.heap[m]? = some (.map es ck)) {A:Option Addr} {xs:List Value} (hr:Rd w w.heap.size A xs):Rd X X.heap.size A xs:=fun j u hj=>by
 obtain⟨b,o,h1,h2,h3⟩:=hr j u hj;exact⟨b,o,h1,Nat.lt_of_lt_of_le h2 h.size,h.cell hm h3⟩
theorem KeptM.fol {m:Nat} {w X:World} (h:KeptM m w X) (hm:∃es ck,w.heap[m]? = some (.map es ck)) (hf:FolT w):FolT X:=⟨fun k hk=>by
 obtain⟨A,c,h1,h2⟩:=hf.cells k hk
 exact⟨A,c,h.cell hm h1,h.rd hm h2⟩⟩
structure FewE (x:Lge):Prop where
 o:x.o.o.size≤3100
 n:x.o.n.size≤3100
 d:x.d.size≤100000
def tm (l:List Rcd) (i:Nat):Bool:=match cO l i with
 | none=>true
 | some y=>match l[i]? with | none=>true | some x=>decide (y.l<x.l)
def ka (g:Int→Option Chn):Int→Option Value:=fun t=>(g t).map lT
theorem zf (g:Int→Option Chn) (t:Int) (c:Chn):eC (ka g) t (some (lT c))=ka (wF g t c):=by
 funext s;unfold eC ka wF;split<;>rfl
def nU:Chn:=⟨0,0,0⟩
theorem yY {l:List Rcd} {i:Nat} (hi:i<l.length):dK l i l[i]=au [bo (bb l[i].l 1 2147483647) 2,bo ((i:Int)==0||tm l i) 9,dH l[i].e]:=by
 have e:((i:Int)==0||tm l i)=tm l i:=by
  rcases Nat.eq_zero_or_pos i with h0 | h0
  · subst h0;rfl
  · rw[show((i:Int)==0)=false by rw[beq_eq_false_iff_ne];omega];rfl
 rw[e];unfold dK tm;rw[List.getElem?_eq_getElem hi]
 cases cO l i<;>rfl
theorem Ch {l:List Rcd} {i:Nat} (hv:VldH l i) (hi:i<l.length) (h0:dK l i l[i]=0):1≤df l∧df l≤2147483647:=by
 rw[fu ab];rcases Nat.eq_zero_or_pos i with h | h
 · subst h
   unfold dK at h0;rw[aQ] at h0;exact inB_true.1 ((aM ar).1 (h0 _ (.head _)))
 · have:=hv.e0 h
   exact⟨this.1,this.2.1⟩
theorem zu {h0:Int} {g:Int→Option Chn} {x:Lge} (h:((g x.t).isSome&&((g x.t).getD nU).k != 4)=true):gy h0 g x=((g x.t).getD nU,bo (x.p==((g x.t).getD nU).l) 14):=by
 unfold gy
 cases hg:g x.t with
 | none=>rw[hg] at h;cases h
 | some c=>
  rw[hg] at h
  have hk:c.k≠4:=by simpa using h
  simp only[];rw[if_neg hk];rfl
theorem yT {h0:Int} {g:Int→Option Chn} {x:Lge} (h:((g x.t).isSome&&((g x.t).getD nU).k != 4)=false):gy h0 g x=gk h0 x (g x.t).isSome:=by
 unfold gy
 cases hg:g x.t with
 | none=>rfl
 | some c=>
  rw[hg] at h
  have hk:c.k=4:=by simpa using h
  simp only[];rw[if_pos hk];rfl
theorem wL {l:List Rcd} {i:Nat} (hv:VldH l i) (x:Lge) (h0:(gy (df l) (bG l i) x).2=0) (hk:(gy (df l) (bG l i) x).1.k≠-1):∃k:Nat,k<6∧(gy (df l) (bG l i) x).1.k=(k:Int):=by
 have hbeg:∀b,(gk (df l) x b).2=0→(gk (df l) x b).1.k≠-1→∃k:Nat,k<6∧(gk (df l) x b).1.k=(k:Int):=fun b q0 qk=>by
  obtain⟨_,h1⟩:=gX q0;rw[h1] at qk ⊢;simp only[] at qk ⊢
  split at qk
  · exact absurd rfl qk
  · rename_i hp;exact⟨0,by decide,by rw[if_neg hp];rfl⟩
 unfold gy at h0 hk ⊢;have hc:=kj i (by have:=hv.1;omega) hv.2 x.t
 cases hg:bG l i x.t with
 | none=>rw[hg] at h0 hk;simp only[] at h0 hk ⊢;exact hbeg _ h0 hk
 | some c=>
  rw[hg] at h0 hk;simp only[] at h0 hk ⊢
  split at h0
  · rename_i h4;rw[if_pos h4] at hk ⊢;exact hbeg _ h0 hk
  · rename_i h4
    rw[if_neg h4] at hk ⊢;rw[hg] at hc
    cases hb:bh l x.t i with
    | none=>rw[hb] at hc;cases hc
    | some k=>
     rw[hb] at hc;obtain⟨hki,y,hy,h5,ht⟩:=eW hb;have hkl:k<l.length:=(List.getElem?_eq_some_iff.1 hy).1
     have e1:c=jR l k:=by simpa using hc
     have e2:=tR (hv.e0 hki).2.2
     have e3:c.k=l[k].e.k:=by rw[e1];exact gE hkl
     refine⟨c.k.toNat,?_,?_⟩<;>(show _;rw[e3];omega)
def Cr (c:Chn × Int) (x:Lge):Int:=au [c.2,if c.1.k = -1 then 0 else bo (nZ c.1.k x.k) 20]
theorem yW (l:List Rcd) (i:Nat) (c:Chn × Int) (x:Lge):ln l i c x=if Cr c x=0 then (if x.k=1 then jD l i c.1 x else 0) else Cr c x:=by
 unfold ln Cr;generalize (if c.1.k = -1 then 0 else bo (nZ c.1.k x.k) 20)=b;generalize (if x.k=1 then jD l i c.1 x else 0)=d
 by_cases h1:c.2=0<;>by_cases h2:b=0<;>simp[au,h1,h2]<;>(intro h;exact h.symm)
theorem yp (k:Int):(tg k).length≤1000:=by
 unfold tg;split<;>(try split)<;>(try split)<;>(try split)<;>decide
theorem y9 (b:Int):au [0,b]=b:=by by_cases h:b=0<;>simp[au,h]
theorem tU (l:List Rcd) (A:Option Addr) (c:Nat) (i:Nat) (m:Nat) (w:World) (hr:Rd w w.heap.size A (l.flatMap bC)) (hi:i<l.length) (hl:l.length≤1000) (hc:l.length≤c) (hv:VldH l i)
 (hm:MapF w m (ka (bG l i))) (hF:FolT w) (hx:∀x∈l,FewE x.e) :
 Calls Tryz.prog 104 #[.slice A l.length c,.int .i64 i,.map (some m)] w fun e w'=>∃g,e=.returned (.int .i64 (du l i (bG l i) l[i]))∧(du l i (bG l i) l[i]=0→g=bG l (i+1))∧St [m] w w' [cy m (ka g)]:=by
 have hmm:∃es ck,w.heap[m]? = some (.map es ck):=by obtain⟨es,ck,h1,_⟩:=hm;exact⟨es,ck,h1⟩
 have hfe:=hx _ (List.getElem_mem hi);obtain⟨b',o',rfl,hB,_⟩:=hr.opened (aK aB ar ab);obtain⟨RC,hRC⟩:∃RC,RC=gy (df l) (bG l i) l[i].e:=⟨_,rfl⟩;have q9:=yY hi;refine ao (N:=118) Tryz.func104 rfl rfl rfl (fun _ Y=>?_);have S0:=(St.initInv hm (fun b hb=>⟨by rw[hb];exact List.mem_singleton.2 rfl,by rw[hb];exact hm.lt⟩):St [m] w w [cy m (ka (bG l i))]);refine GO 6 ?_;intro _ h1;apply aL h1 [false,false,false,false,false,false,false,false,false,false,true,false] _ aa
 case h=>
  refine GO 2 ?_;intro _ Y;refine qv Y (fun X hX=>av (i:=i) (sz:=14) Tryz.underlying180 aa (Y.ev rfl) (Y.ev rfl) ab ab rfl) fun _ Y=>?_;refine qv Y (fun X hX=>fy 0 (Y.ev rfl)) fun _ Y=>?_;refine qv Y (fun X hX=>lx (Y.ev rfl) ((aW aB (((S0.grow hX).keptM).rd hmm hr) hi) 0 _ rfl)) fun _ Y=>?_;refine GO 2 ?_;intro _ Y;refine qv Y (fun X hX=>av (i:=i) (sz:=14) Tryz.underlying180 aa (Y.ev rfl) (Y.ev rfl) ab ab rfl) fun _ Y=>?_;refine qv Y (fun X hX=>fy 1 (Y.ev rfl)) fun _ Y=>?_;refine qv (v:=de l[i].e) Y (fun X hX=>ah aa aa (Y.ev rfl) (en (((S0.grow hX).keptM).rd hmm hr) hi)) fun _ Y=>?_;refine GO 2 ?_;intro _ Y;apply gV (k:=10) (deps:=[]) (R:=NewB _ (fun b=>.pointer (some ⟨b,0,none⟩)) _ _) Y rfl rfl rfl NewB.stable (fun X hX hΦ=>js (eu (z:=.agg #[.int .i64 0,.int .i64 0,.int .i64 0,.int .i64 0,.int .i64 0,.bool false,.int .i64 0,.int .i64 0,.int .i64 0,.int .i64 0,.string ⟨#[]⟩,.string ⟨#[]⟩,.string ⟨#[]⟩]) aa) hX.size);intro v8 _ Y;refine aS fun _ Zf Zm=>?_;have Z:=S0.grow Zf;have Zk:=ba Zm (k:=10) rfl;obtain⟨b8,rfl,Zz,Zk⟩:=Zk;have Z:=S0.add Zf (e:=.box _ _ _) Zk (fun b hb=>by cases hb;exact⟨Zz,Box.lt Zk⟩);refine sw Y Z 0 fun _ Z=>?_;refine ae (ag (ai ?_));apply aL Y (fA 18) _ aa
  case h=>
   refine GO 1 ?_;intro _ Y;refine gm Y rfl (fun X hX=>bA _ _ _ _) fun _ Y=>?_;refine gm Y rfl (fun X hX=>aJ _ _ _) fun _ Y=>?_;refine GO 3 ?_;intro _ Y;apply fh (x:=tm l i) Y 27 rfl 10 37
   case hf=>
    intro Zg
    have hi0:i≠0:=by simp only[beq_eq_false_iff_ne] at Zg;omega
    have hi1:i-1<l.length:=by omega
    have hbf:cO l i=some l[i-1]:=by unfold cO;rw[if_neg hi0,List.getElem?_eq_getElem hi1]
    refine GO 1 ?_;intro _ Zl;refine GO 2 ?_;intro _ Y;refine qy Y (fun X hX=>(np aa (Y.ev rfl) (Y.ev rfl))) fun _ Y=>?_;refine qy Y (fun X hX=>(av (i:=i-1) (sz:=14) Tryz.underlying180 aa (Y.ev rfl) (Y.ev rfl) ab ab rfl)) fun _ Y=>?_;refine qy Y (fun X hX=>(fy 0 (Y.ev rfl))) fun _ Y=>?_;refine qy Y (fun X hX=>(lx (Y.ev rfl) ((aW aB (((Z.grow hX).keptM).rd hmm hr) hi1) 0 _ rfl))) fun _ Y=>?_;refine GO 1 ?_;intro _ Y;refine qy Y (fun X hX=>(aC (v':=.bool (tm l i)) (congrArg Value.bool (by unfold tm;rw[hbf,List.getElem?_eq_getElem hi])) (ku (Y.ev rfl) (Y.ev rfl)))) fun _ Y=>?_;refine GO 1 ?_;intro _ Y;exact aw (Y.midE 9)
   case ht=>
    intro Zg;refine GO 10 ?_;intro _ Y;exact aw (Y.midE 9)
   case h=>
    intro _ Y;refine gm Y rfl (fun X hX=>aJ _ _ _) fun _ Y=>?_;refine qv Y (fun X hX=>ah aa aa (Y.ev rfl) ((Z.grow hX).cellsAll (i:=0) rfl)) fun _ Y=>?_;refine aw ?_;refine aS fun _ Zn Qa=>?_;have Z:=Z.grow Zn;refine cT Y rfl Z (iM l[i].e _ hfe.o hfe.n (by have:=hfe.d;unfold maxLen;omega)) fun _ _ Y Z=>?_;refine bz Y (wn rfl) (f:=fun b=>.slice (some ⟨b,0,none⟩) 3 3) (aX Tryz.underlying214 aa aa (Y.evs2 rfl) rfl rfl rfl ar ar) rfl rfl Z fun b41 _ _ Qb Y Z=>?_;refine cI Y rfl (fg (Z.at_ (i:=0) rfl)) fun _ Y=>?_;refine GO 12 ?_;intro _ Y;refine ak (Y.ev rfl) (fun Zo=>?_) (fun Zo=>?_)
    ·
     have q0:dK l i l[i]≠0:=by rw[q9];simpa using Zo
     refine GO 9 ?_;intro _ Y;refine aF Y rfl rfl ?_;exact⟨bG l i,by unfold du;rw[if_pos q0,q9],fun h=>absurd h (by unfold du;rw[if_pos q0];exact q0),(Z.sub (.cons _ (.cons _ (.cons_cons _ .slnil))))⟩
    ·
     have q0:dK l i l[i]=0:=by rw[q9];simpa using Zo
     have q0':¬dK l i l[i]≠0:=fun h=>h q0;have hfst:=Ch hv hi q0;refine GO 8 ?_;intro _ Y;refine ak (Y.ev rfl) (fun Zp=>?_) (fun Zp=>?_)
     ·
      have q1:l[i].e.k=5:=by simpa using Zp
      refine ai (aq ?_);refine sv Y (ah aa aa (Y.ev rfl) (Z.cellsAll (i:=1) rfl)) fun _ Y=>?_;refine cT Y rfl Z (kc l[i].e _ hfe.d) fun _ _ Y Z=>?_;refine GO 6 ?_;intro _ Y;refine aF Y rfl rfl ?_;exact⟨bG l i,by unfold du;rw[if_neg q0',if_pos q1],fun _=>by rw[ma hi,if_pos q1],(Z.sub (.cons _ (.cons _ (.cons_cons _ .slnil))))⟩
     ·
      have q1:l[i].e.k≠5:=by simpa using Zp
      refine GO 8 ?_;intro _ Y;refine ak (Y.ev rfl) (fun Zq=>?_) (fun Zq=>?_)
      ·
       have q2:l[i].e.t=0:=by simpa using Zq
       refine GO 8 ?_;intro _ Y;refine aF Y rfl rfl ?_;exact⟨bG l i,by unfold du;rw[if_neg q0',if_neg q1,if_pos q2];(try rfl),fun h=>absurd h (by unfold du;rw[if_neg q0',if_neg q1,if_pos q2];decide),(Z.sub (.cons _ (.cons _ (.cons_cons _ .slnil))))⟩
      ·
       have q2:l[i].e.t≠0:=by simpa using Zq
       refine GO 8 ?_;intro _ Y;refine sv Y (aC (v':=.tuple #[lT ((bG l i l[i].e.t).getD nU),.bool (bG l i l[i].e.t).isSome]) (by unfold ka;cases bG l i l[i].e.t<;>rfl) (mh (z:=.agg #[.int .i64 0,.int .i64 0,.int .i64 0]) Tryz.underlying178 Tryz.underlying3 aa (Y.ev rfl) (Y.ev rfl) (Z.at_ (i:=2) rfl))) fun _ Y=>?_;refine GO 3 ?_;intro _ Y;refine na (.agg #[.int .i64 0,.int .i64 0,.int .i64 0]) Y rfl Z fun b10 _ _ Qc Y Z=>?_;refine sw Y Z 0 fun _ Z=>?_;refine GO 8 ?_;intro _ Y;apply aZ (x:=((bG l i l[i].e.t).getD nU).k != 4) Y Z 65 rfl 4 69
       case ht=>
        intro Zr;refine GO 4 ?_;intro _ Y;exact ae ⟨Y.midE 3,Z⟩
       case hf=>
        intro Zr;refine GO 4 ?_;intro _ Y;exact ae ⟨Y.midE 3,Z⟩
       case h=>
        rintro a88 Qf ⟨Zw,Ze⟩
        refine ae (ag ?_);refine rT (F:=True) Zw Ze [(9,.int .i64 RC.2)] [10,8,7,6,0,1,2] (fun L=>L.set 0 (.box b10 (lT RC.1).cells 250)) ?_ (fun _ _ Y Z hjT=>?_)
        ·
         refine ak (Zw.ev rfl) (fun Zs=>?_) (fun Zs=>?_)
         ·
          have eRC:RC=((bG l i l[i].e.t).getD nU,bo (l[i].e.p==((bG l i l[i].e.t).getD nU).l) 14):=by rw[hRC];exact zu Zs
          refine GO 6 ?_;intro _ Y;refine cI Y rfl (aJ _ _ _) fun _ Y=>?_;refine GO 3 ?_;intro _ Y;have hjT:=trivial;rw[show bo (l[i].e.p==((bG l i l[i].e.t).getD nU).l) 14=RC.2 by rw[eRC]] at Y;rw[show(bG l i l[i].e.t).getD nU=RC.1 by rw[eRC]] at Ze;exact⟨Y.re bD,Ze,hjT⟩
         ·
          have eRC:RC=gk (df l) l[i].e (bG l i l[i].e.t).isSome:=by rw[hRC];exact yT Zs
          refine GO 2 ?_;intro _ Y;refine sv Y (ah aa aa (Y.ev rfl) (Ze.cellsAll (i:=2) rfl)) fun _ Y=>?_;refine GO 1 ?_;intro _ Y;refine cT Y rfl Ze (ve l _ c l[i].e _ _ ((Ze.keptM).rd hmm hr) ab hfst) fun _ _ Y Z=>?_;refine GO 1 ?_;intro _ Y;refine sv (v:=lT (gk (df l) l[i].e (bG l i l[i].e.t).isSome).1) Y (bH (Y.ev rfl) rfl) fun _ Y=>?_;refine GO 1 ?_;intro _ Y;refine sw Y Z 0 fun _ Z=>?_;refine GO 3 ?_;intro _ Y;have hjT:=trivial;rw[←eRC] at Y Z;exact⟨Y.re bD,Z,hjT⟩
        ·
         obtain⟨E2,hE2⟩:∃E2:Int,E2=Cr RC l[i].e:=⟨_,rfl⟩;obtain⟨E3,hE3⟩:∃E3:Int,E3=ln l i RC l[i].e:=⟨_,rfl⟩;have Zl:=yW l i RC l[i].e;rw[←hE2,←hE3] at Zl;refine GO 7 ?_;intro _ Y;apply aZ (x:=RC.1.k != -1) Y Z 85 rfl 4 89
         case ht=>
          intro Zt;refine GO 4 ?_;intro _ Y;exact ae ⟨Y.midE 3,Z⟩
         case hf=>
          intro Zt;refine GO 4 ?_;intro _ Y;exact ae ⟨Y.midE 3,Z⟩
         case h=>
          rintro a117 Qd ⟨Zb,Zc⟩
          refine ae (ag ?_);refine dN Zb Zc [(9,.int .i64 E2)] [10,8,7,6,0,1,2] ?_ (fun _ _ Y Z=>?_)
          ·
           refine ak (Zb.ev rfl) (fun Zu=>?_) (fun Zu=>?_)
           ·
            obtain⟨r0,r1⟩:=Bool.and_eq_true_iff.1 Zu
            have r0:RC.2=0:=by simpa using r0
            have r1:RC.1.k≠-1:=by simpa using r1
            obtain⟨k,hk6,hk1⟩:∃k:Nat,k<6∧RC.1.k=(k:Int):=by
             have:=wL hv l[i].e;rw[←hRC] at this;exact this r0 r1
            obtain⟨Af,cf,hfc,hfr⟩:=hF.cells k hk6;apply aL Zb (fA 6) _ aa
            case h=>
             refine GO 2 ?_;intro _ Y;refine qv Y (fun X hX=>wy (i:=k) (sz:=1) (j:=k) Tryz.underlying255 aa (Y.ev rfl) (Y.ev rfl) hk1 hk6 ab) fun _ Y=>?_;refine qv Y (fun X hX=>lx (Y.ev rfl) (((Zc.grow hX).keptM).cell hmm hfc)) fun _ Y=>?_;refine GO 3 ?_;intro _ Y;refine aS fun _ Zh Zx=>?_;have Z:=Zc.grow Zh;refine cT Y rfl Z (qa (tg k) Af cf l[i].e.k _ ((Z.keptM).rd hmm hfr) (yp _)) fun _ _ Y Z=>?_;refine cI Y rfl (aJ _ _ _) fun _ Y=>?_;refine GO 3 ?_;intro _ Y;rw[show bo ((tg k).any fun x=>x==l[i].e.k) 20=E2 by rw[hE2];unfold Cr;rw[r0,if_neg r1,hk1,y9];rfl] at Y;exact⟨Y.re bD,Z⟩
            case hB=>kernel_rfl
            case hst=>rfl
           ·
            refine wp_skip (ag ?_)
            rw[show RC.2=E2 by
             rw[hE2];unfold Cr;rcases Bool.and_eq_false_iff.1 Zu with r0 | r1
             · have r0:RC.2≠0:=by simpa using r0
               simp[au,r0]
             · have r1:RC.1.k = -1:=by simpa using r1
               rw[if_pos r1]
               by_cases r2:RC.2=0<;>simp[au,r2]] at Zb
            exact⟨Zb.re bD,Zc⟩
          ·
           refine GO 7 ?_;intro _ Y;apply aZ (x:=l[i].e.k==1) Y Z 100 rfl 4 104
           case ht=>
            intro Zi;refine GO 4 ?_;intro _ Y;exact ae ⟨Y.midE 3,Z⟩
           case hf=>
            intro Zi;refine GO 4 ?_;intro _ Y;exact ae ⟨Y.midE 3,Z⟩
           case h=>
            rintro a140 Qe ⟨Zd,Za⟩
            refine ae (ag ?_);refine dN Zd Za [(9,.int .i64 E3)] [10,8,7,6,2] ?_ (fun _ _ Y Z=>?_)
            ·
             refine ak (Zd.ev rfl) (fun Zv=>?_) (fun Zv=>?_)
             ·
              refine GO 3 ?_;intro _ Y;refine sv (v:=lT RC.1) Y (ah aa aa (Y.ev rfl) (Za.cellsAll (i:=0) rfl)) fun _ Y=>?_;refine sv (v:=de l[i].e) Y (ah aa aa (Y.ev rfl) (Za.cellsAll (i:=2) rfl)) fun _ Y=>?_;refine cT Y rfl Za (te l _ c i RC.1 l[i].e _ ((Za.keptM).rd hmm hr) hi hl hc hv hfst) fun _ _ Y Z=>?_;refine GO 3 ?_;intro _ Y
              rw[show jD l i RC.1 l[i].e=E3 by
               obtain⟨r0,r1⟩:=Bool.and_eq_true_iff.1 Zv
               rw[Zl,if_pos (by simpa using r0),if_pos (by simpa using r1)]] at Y
              exact⟨Y.re bD,Z⟩
             ·
              refine wp_skip (ag ?_)
              rw[show E2=E3 by
               rw[Zl];rcases Bool.and_eq_false_iff.1 Zv with r0 | r1
               · rw[if_neg (by simpa using r0)]
               · rw[if_neg (show ¬l[i].e.k=1 by simpa using r1)]
                 split
                 · assumption
                 · rfl] at Zd
              exact⟨Zd.re bD,Za⟩
            ·
             refine ag (ai ?_);apply aL Y (fA 7) _ aa
             case h=>
              refine GO 3 ?_;intro _ Y;refine qv (v:=lT RC.1) Y (fun X hX=>ah aa aa (Y.ev rfl) ((Z.grow hX).cellsAll (i:=0) rfl)) fun _ Y=>?_;refine GO 1 ?_;intro _ Y;refine qv (v:=de l[i].e) Y (fun X hX=>ah aa aa (Y.ev rfl) ((Z.grow hX).cellsAll (i:=2) rfl)) fun _ Y=>?_;refine nF Y rfl (fun X hX=>oC RC.1 l[i].l l[i].e _) fun _ Y=>?_;refine aw ?_;refine aS fun _ Zj Zy=>?_;have Z:=Z.grow Zj;refine gq (wn rfl) ⟨rfl,rfl⟩ Tryz.underlying178 Tryz.underlying3 (Y.ev rfl) (Y.ev rfl) (Y.ev rfl) Z (i:=3) rfl fun _ Z=>?_;refine GO 9 ?_;intro _ Y;refine aF Y rfl rfl ?_;refine⟨wF (bG l i) l[i].e.t (rP RC.1 l[i].l l[i].e),by unfold du;rw[if_neg q0',if_neg q1,if_neg q2,←hRC,←hE3],fun _=>by rw[ma hi,if_neg q1,hRC],?_⟩;rw[←zf];exact(Z.sub (.cons _ (.cons _ (.cons _ (.cons_cons _ .slnil)))))
             case hB=>kernel_rfl
             case hst=>rfl
  case hB=>kernel_rfl
  case hst=>rfl
 case hB=>kernel_rfl
 case hst=>rfl
open Go.RowKit Go.Sort
theorem KeptM.box {m:Nat} {w X:World} (h:KeptM m w X) (hm:∃es ck,w.heap[m]? = some (.map es ck)) {b:Nat} {cs:Array Value} {T:TypeId} (hb:Box w b cs T):Box X b cs T:=by
 obtain⟨es,ck,hm⟩:=hm;refine(h.block b hb.lt (fun e=>?_)).trans hb;have hb':w.heap[b]? = some (.cells cs T (0,0)):=hb;rw[e,hm] at hb'
 cases hb'
structure ChkR (l:List Rcd) (A:Option Addr) (c b1 b4 m:Nat) (w:World):Prop where
 hr:Rd w w.heap.size A (l.flatMap bC)
 hb1:Box w b1 #[.slice A l.length c] 41
 hb4:Box w b4 #[.map (some m)] 178
 hF:FolT w
theorem ChkR.kept {l:List Rcd} {A:Option Addr} {c b1 b4 m:Nat} {w X:World} (h:ChkR l A c b1 b4 m w) (hm:∃es ck,w.heap[m]? = some (.map es ck)) (hk:KeptM m w X):ChkR l A c b1 b4 m X:=
 ⟨hk.rd hm h.hr,hk.box hm h.hb1,hk.box hm h.hb4,hk.fol hm h.hF⟩
theorem MapF.ex {m:Nat} {w:World} {g:Int→Option Value} (h:MapF w m g):∃es ck,w.heap[m]? = some (.map es ck):=by obtain⟨es,ck,h1,_⟩:=h;exact⟨es,ck,h1⟩
theorem wo (l:List Rcd) (A:Option Addr) (c:Nat) (i:Nat) (b1 b4 m:Nat) (w:World) (hR:ChkR l A c b1 b4 m w) (hi:i<l.length) (hl:l.length≤1000) (hc:l.length≤c) (hv:VldH l i) (hm:MapF w m (ka (bG l i))) (hx:∀x∈l,FewE x.e) :
 Calls Tryz.prog 103 #[.int .i64 i,fk l[i],.pointer (some ⟨b1,0,none⟩),.pointer (some ⟨b4,0,none⟩)] w fun e w'=>∃g,e=.returned (.int .i64 (du l i (bG l i) l[i]))∧(du l i (bG l i) l[i]=0→g=bG l (i+1))∧St [m] w w' [cy m (ka g)]:=by
 refine ao (N:=11) Tryz.func103 rfl rfl rfl (fun _ Y=>?_);have Z:=(St.initInv hm (fun b hb=>⟨by rw[hb];exact List.mem_singleton.2 rfl,by rw[hb];exact hm.lt⟩):St [m] w w [cy m (ka (bG l i))]);have hmm:=hm.ex;refine ai (aq ?_);refine nb Y rfl rfl Z fun b5 _ _ Zb Y Z=>?_;refine GO 5 ?_;intro _ Y;refine sv Y (lx (Y.ev rfl) (((Z.keptM).box hmm hR.hb1).cells 0)) fun _ Y=>?_;refine GO 1 ?_;intro _ Y;refine sv Y (lx (Y.ev rfl) (((Z.keptM).box hmm hR.hb4).cells 0)) fun _ Y=>?_;refine fS Y (wn rfl) (ax a8 (Y.evs rfl) rfl) rfl rfl Z (i:=1) rfl (fun b hb=>List.mem_singleton.1 hb) (tU l A c i m _ ((Z.keptM).rd hmm hR.hr) hi hl hc hv (Z.at_ (i:=1) rfl) ((Z.keptM).fol hmm hR.hF) hx) fun p10 _ _ Y Za Z=>?_;refine GO 4 ?_;intro _ Y;refine aF Y rfl rfl ?_;exact⟨p10,rfl,Za,(Z.sub (.cons _ (.cons_cons _ .slnil)))⟩
theorem u9 (l:List Rcd) (A:Option Addr) (c:Nat) (b1 b4 m:Nat) (w:World) (hR:ChkR l A c b1 b4 m w) (hl:l.length≤1000) (hc:l.length≤c) (hm:MapF w m (ka (bG l 0))) (hx:∀x∈l,FewE x.e) :
 Calls Tryz.prog 102 #[.slice A l.length c,.func (.func 103) #[] #[.pointer (some ⟨b1,0,none⟩),.pointer (some ⟨b4,0,none⟩)]] w fun e w'=>∃g:Int→Option Chn,e=.returned (.tuple #[.int .i64 (cH (fun i x=>du l i (bG l i) x) 0 l).1,.int .i64 (cH (fun i x=>du l i (bG l i) x) 0 l).2])∧True∧St [m] w w' [cy m (ka g)]:=by
 have hmm:=hm.ex;refine ao (N:=25) Tryz.func102 rfl rfl rfl (fun _ Y=>?_);have Z:=(St.initInv hm (fun b hb=>⟨by rw[hb];exact List.mem_singleton.2 rfl,by rw[hb];exact hm.lt⟩):St [m] w w [cy m (ka (bG l 0))]);refine GO 15 ?_;intro _ Y;refine aY Y Z [10,9,1] (fun (j:Nat)=>[(11,.int .i64 j)]) (fun (j:Nat)=>j≤l.length∧∀k (hk:k<l.length),k<j→du l k (bG l k) l[k]=0) (fun j L=>L.set 0 (cy m (ka (bG l j)))) (fun (j:Nat)=>l.length-j) (0) (⟨Nat.zero_le _,fun k _ h=>by omega⟩) bD (Z) ?_;intro j _ _ Za Y Z;refine GO 6 ?_;intro _ Y;refine ak (Y.ev rfl) (fun Zc=>?_) (fun Zc=>?_)
 ·
  have hlt:j<l.length:=by have:=of_decide_eq_true Zc;omega
  obtain⟨b,o,rfl,hB,_⟩:=hR.hr.opened (aK aB ar ab);have hvj:VldH l j:=⟨Za.1,Za.2⟩;refine GO 7 ?_;intro _ Y;refine sv Y (av (i:=j) (sz:=14) Tryz.underlying41 aa (Y.ev rfl) (Y.ev rfl) ab ab rfl) fun _ Y=>?_;refine sv (v:=fk l[j]) Y (ah aa aa (Y.ev rfl) (aW aB ((Z.keptM).rd hmm hR.hr) hlt)) fun _ Y=>?_;refine na (.agg #[.int .i64 0,.int .i64 0,.int .i64 0,.int .i64 0,.int .i64 0,.int .i64 0,.bool false,.int .i64 0,.int .i64 0,.int .i64 0,.int .i64 0,.string ⟨#[]⟩,.string ⟨#[]⟩,.string ⟨#[]⟩]) Y rfl Z fun b7 _ _ Ze Y Z=>?_;refine GO 1 ?_;intro _ Y;refine sw Y Z 0 fun _ Z=>?_;refine GO 6 ?_;intro _ Y;refine sv (v:=fk l[j]) Y (ah aa aa (Y.ev rfl) (Z.cellsAll (i:=0) rfl)) fun _ Y=>?_;refine fS Y (wn rfl) (cF a8 (Y.ev rfl) (Y.evs rfl) rfl) rfl rfl Z (i:=1) rfl (fun b hb=>List.mem_singleton.1 hb) (wo l _ c j b1 b4 m _ (hR.kept hmm Z.keptM) hlt hl hc hvj (Z.at_ (i:=1) rfl) hx) fun p19 _ _ Y Zd Z=>?_;refine GO 9 ?_;intro _ Y;refine ak (Y.ev rfl) (fun Zb=>?_) (fun Zb=>?_)
  ·
   refine GO 14 ?_;intro _ Y;refine bW Y rfl rfl rfl ?_
   have r1:du l j (bG l j) l[j]≠0:=by simpa using Zb
   have r2:=cX (fun i x=>du l i (bG l i) x) l 0 j hlt (fun k hk h=>by rw[Nat.zero_add];exact Za.2 k hk h) (by rw[Nat.zero_add];exact r1);exact⟨p19,by rw[r2];simp only[Nat.zero_add],trivial,(Z.sub (.cons _ (.cons_cons _ .slnil)))⟩
  ·
   refine GO 8 ?_;intro _ Y;exact⟨j+1,by omega,⟨hlt,fun k hk h=>(Nat.lt_or_ge k j).elim (fun q=>Za.2 k hk q) (fun q=>by(obtain rfl:k=j:=by omega);simpa using Zb)⟩,Y.re bD,(Zd (by simpa using Zb)▸(Z.sub (.cons _ (.cons_cons _ .slnil))))⟩
 ·
  have hge:l.length≤j:=by have:=of_decide_eq_false Zc;omega
  refine GO 12 ?_;intro _ Y;refine bW Y rfl rfl rfl ?_;exact⟨bG l j,by rw[cU (fun i x=>du l i (bG l i) x) l 0 (fun k hk=>by rw[Nat.zero_add];exact Za.2 k hk ab)],trivial,(Z.sub (.cons_cons _ .slnil))⟩
theorem eG (l:List Rcd) (A:Option Addr) (c:Nat) (w:World) (hr:Rd w w.heap.size A (l.flatMap bC)) (hl:l.length≤1000) (hc:l.length≤c) (hF:FolT w) (hx:∀x∈l,FewE x.e) :
 Calls Tryz.prog 42 #[.slice A l.length c] w fun e w'=>e=.returned (.tuple #[.int .i64 (eh l).1,.int .i64 (eh l).2])∧Below w.heap.size w w':=by
 refine ao (N:=14) Tryz.func42 rfl rfl rfl (fun _ Y=>?_);have Z:=St.init w;refine ai (aq ?_);refine nb Y rfl rfl Z fun b1 _ _ Zc Y Z=>?_;refine GO 12 ?_;intro _ Y;refine ak (Y.ev rfl) (fun Za=>?_) (fun Za=>?_)
 ·
  have r0:100<l.length:=by have:=of_decide_eq_true Za;omega
  refine GO 8 ?_;intro _ Y;refine bW Y rfl rfl rfl ?_;exact⟨by unfold eh;rw[if_pos r0];(try rfl),Z.below⟩
 ·
  have r0:¬100<l.length:=by have:=of_decide_eq_false Za;omega
  refine wp_skip (ag (ai (aq ?_)));refine kS Y (wn rfl) rfl rfl rfl Z fun m8 _ _ hm8 Y Z=>?_;refine na (.map none) Y rfl Z fun b4 _ _ Zd Y Z=>?_;refine sw Y Z 0 fun _ Z=>?_;refine GO 5 ?_;intro _ Y;refine sv Y (eU (Y.evs rfl) (Y.evs rfl)) fun _ Y=>?_;refine fS Y (wn rfl) (ax a8 (Y.evs rfl) rfl) rfl rfl Z (i:=1) rfl (fun b hb=>List.mem_singleton.1 hb) (u9 l A c b1 b4 m8 _ ⟨Z.rd0 hr,Z.at_ (i:=2) rfl,Z.at_ (i:=0) rfl,hF.below Z.below⟩ hl hc (Z.at_ (i:=1) rfl) hx) fun p11 _ _ Y Zb Z=>?_;refine GO 7 ?_;intro _ Y;refine bW Y rfl rfl rfl ?_;exact⟨by unfold eh;rw[if_neg r0];(try rfl),Z.below⟩
theorem eA (l:List Rcd) (A:Option Addr) (c:Nat) (w:World) (hr:Rd w w.heap.size A (l.flatMap bC)) (hl:l.length≤1000) (hc:l.length≤c) (hF:FolT w) (hx:∀x∈l,FewE x.e) :
 Calls Tryz.prog 77 #[.slice A l.length c] w fun e w'=>e=.returned (.int .i64 (eh l).2)∧Below w.heap.size w w':=by
 refine ao (N:=11) Tryz.func77 rfl rfl rfl (fun _ Y=>?_);have Z:=St.init w;refine GO 8 ?_;intro _ Y;refine cT Y rfl Z (eG l A c _ (Z.rd0 hr) hl hc (hF.below Z.below) hx) fun _ _ Y Z=>?_;refine GO 14 ?_;intro _ Y;refine aF Y rfl rfl ?_;exact⟨rfl,Z.below⟩
open Go.RowKit Go.Sort
theorem py {α:Type} {κ:α→Int} {l:List α} {x:α} (h:bZ κ (l ++ [x])) (i:Int):bV κ (l ++ [x]) i=if i=κ x then some x else bV κ l i:=by
 unfold bV;rw[List.find?_append];unfold bZ at h;rw[List.pairwise_append] at h;by_cases hi:i=κ x
 · rw[if_pos hi]
   have hn:l.find? (fun y=>κ y==i)=none:=by
    rw[List.find?_eq_none];intro y hy;have:=h.2.2 y hy x (List.mem_singleton.2 rfl);simp;omega
   rw[hn,hi];simp
 · rw[if_neg hi]
   have hx:[x].find? (fun y=>κ y==i)=none:=by
    rw[List.find?_eq_none];intro y hy;rw[List.mem_singleton.1 hy];simp;omega
   rw[hx]
   cases l.find? (fun y=>κ y==i)<;>rfl
def nE (g:Int→Option Trn):Int→Option Value:=fun i=>(g i).map eZ
def om (g:Int→Option Dty):Int→Option Value:=fun i=>(g i).map fM
theorem Ap {l:List Trn} {x:Trn} (h:bZ Trn.i (l ++ [x])):eC (nE (dT l)) x.i (some (eZ x))=nE (dT (l ++ [x])):=by
 funext i
 unfold eC nE dT;rw[py h]
 split<;>rfl
theorem zT {l:List Dty} {x:Dty} (h:bZ Dty.g (l ++ [x])):eC (om (dn l)) x.g (some (fM x))=om (dn (l ++ [x])):=by
 funext i
 unfold eC om dn;rw[py h]
 split<;>rfl
theorem rU {α:Type} {κ:α→Int} {l:List α} (h:bZ κ l) (k:Nat):bZ κ (l.take k):=List.Pairwise.sublist (List.take_sublist _ _) h
theorem lA (t:Tbl) (A:Option Addr) (c:Nat) (B:Option Addr) (d:Nat) (w:World) (hr:Rd w w.heap.size A (t.ts.flatMap cp)) (hq:Rd w w.heap.size B (t.ds.flatMap cP)) (hs:SrtT t) (hl:t.ts.length≤1000∧t.ds.length≤1000) :
 Calls Tryz.prog 128 #[cB t A c B d] w fun e w'=>∃i:Nat × Nat × Nat,e=.returned (.pointer (some ⟨i.1,0,none⟩))∧St [] w w' [.box i.1 #[.map (some i.2.1),.map (some i.2.2)] 228,cy i.2.2 (om (dn t.ds)),cy i.2.1 (nE (dT t.ts))]:=by
 refine ao (N:=43) Tryz.func128 rfl rfl rfl (fun _ Y=>?_);have Z:=St.init w;refine ai (aq ?_);refine nb Y rfl rfl Z fun b1 _ _ Zj Y Z=>?_;refine GO 5 ?_;intro _ Y;refine kS Y (wn rfl) rfl rfl rfl Z fun m8 _ _ hm8 Y Z=>?_;refine kS Y (wn rfl) rfl rfl rfl Z fun m9 _ _ hm9 Y Z=>?_;refine sv Y (ay (zs:=[.map none,.map none]) (pl:=[(0,1),(1,1)]) aa aa (Y.evs2 rfl) rfl rfl) fun _ Y=>?_;refine nb Y rfl rfl Z fun b11 _ X6 Ze Y Z=>?_;refine GO 1 ?_;intro _ Y;replace Z:St [] w X6 [.box b11 #[.map (some m8),.map (some m9)] 228,cy m9 (om (dn (t.ds.take 0))),cy m8 (nE (dT (t.ts.take 0))),.box b1 (cB t A c B d).cells 25]:=Z;refine GO 12 ?_;intro _ Y;refine aY Y Z [14,13,3,2,1] (fun (j:Nat)=>[(15,.int .i64 j)]) (fun (j:Nat)=>j≤t.ts.length) (fun j L=>L.set 2 (cy m8 (nE (dT (t.ts.take j))))) (fun (j:Nat)=>t.ts.length-j) (0) (Nat.zero_le _) bD (Z) ?_;intro j _ _ Zf Y Z;refine GO 6 ?_;intro _ Y;refine ak (Y.ev rfl) (fun Za=>?_) (fun Za=>?_)
 ·
  have hlt:j<t.ts.length:=by have:=of_decide_eq_true Za;omega
  obtain⟨b,o,rfl,hB,_⟩:=hr.opened (aK cC ar ab)
  have hput:eC (nE (dT (t.ts.take j))) t.ts[j].i (some (eZ t.ts[j]))=nE (dT (t.ts.take (j+1))):=by
   rw[List.take_succ_eq_append_getElem hlt];exact Ap (by rw[←List.take_succ_eq_append_getElem hlt];exact rU hs.ts _)
  refine wp_skip (ag (ai (wp_block (ai (aq ?_)))));refine sv Y (av (i:=j) (sz:=4) Tryz.underlying22 aa (Y.ev rfl) (Y.ev rfl) ab ab rfl) fun _ Y=>?_;refine sv (v:=eZ t.ts[j]) Y (ah aa aa (Y.ev rfl) (aW cC (Z.rd0 hr) hlt)) fun _ Y=>?_;refine na (.agg #[.int .i64 0,.int .i64 0,.int .i64 0,.bool false]) Y rfl Z fun b5 _ _ Zk Y Z=>?_;refine sw Y Z 0 fun _ Z=>?_;refine ae (ag ?_);apply aL Y (fA 7) _ aa
  case h=>
   refine GO 6 ?_;intro _ Y;refine qv (v:=eZ t.ts[j]) Y (fun X hX=>ah aa aa (Y.ev rfl) ((Z.grow hX).cellsAll (i:=0) rfl)) fun _ Y=>?_;refine aw ?_;refine aS fun _ Zb Zg=>?_;have Z:=Z.grow Zb;refine gq (wn rfl) ⟨rfl,rfl⟩ Tryz.underlying225 Tryz.underlying3 (Y.ev rfl) (Y.ev rfl) (Y.ev rfl) Z (i:=3) rfl fun _ Z=>?_;refine GO 8 ?_;intro _ Y;exact⟨j+1,by omega,hlt,Y.re bD,(hput▸(Z.sub (.cons _ (.cons_cons _ (.cons_cons _ (.cons_cons _ (.cons_cons _ .slnil)))))))⟩
  case hB=>kernel_rfl
  case hst=>rfl
 ·
  have hge:t.ts.length≤j:=by have:=of_decide_eq_false Za;omega
  obtain rfl:j=t.ts.length:=by have:=Zf;omega
  rw[List.take_length] at Z;refine GO 15 ?_;intro _ Y;refine aY Y Z [29,28,3,2] (fun (k:Nat)=>[(30,.int .i64 k)]) (fun (k:Nat)=>k≤t.ds.length) (fun k L=>L.set 1 (cy m9 (om (dn (t.ds.take k))))) (fun (k:Nat)=>t.ds.length-k) (0) (Nat.zero_le _) bD (Z) ?_;intro k _ _ Zh Y Z;refine GO 6 ?_;intro _ Y;refine ak (Y.ev rfl) (fun Zc=>?_) (fun Zc=>?_)
  ·
   have hlt:k<t.ds.length:=by have:=of_decide_eq_true Zc;omega
   obtain⟨b,o,rfl,hB,_⟩:=hq.opened (aK dg ar ab)
   have hput:eC (om (dn (t.ds.take k))) t.ds[k].g (some (fM t.ds[k]))=om (dn (t.ds.take (k+1))):=by
    rw[List.take_succ_eq_append_getElem hlt];exact zT (by rw[←List.take_succ_eq_append_getElem hlt];exact rU hs.ds _)
   refine wp_skip (ag (ai (wp_block (ai (aq ?_)))));refine sv Y (av (i:=k) (sz:=3) Tryz.underlying23 aa (Y.ev rfl) (Y.ev rfl) ab ab rfl) fun _ Y=>?_;refine sv (v:=fM t.ds[k]) Y (ah aa aa (Y.ev rfl) (aW dg (Z.rd0 hq) hlt)) fun _ Y=>?_;refine na (.agg #[.int .i64 0,.bool false,.int .i64 0]) Y rfl Z fun b7 _ _ Zl Y Z=>?_;refine sw Y Z 0 fun _ Z=>?_;refine ae (ag ?_);apply aL Y (fA 7) _ aa
   case h=>
    refine GO 6 ?_;intro _ Y;refine qv (v:=fM t.ds[k]) Y (fun X hX=>ah aa aa (Y.ev rfl) ((Z.grow hX).cellsAll (i:=0) rfl)) fun _ Y=>?_;refine aw ?_;refine aS fun _ Zd Zi=>?_;have Z:=Z.grow Zd;refine gq (wn rfl) ⟨rfl,rfl⟩ Tryz.underlying226 Tryz.underlying3 (Y.ev rfl) (Y.ev rfl) (Y.ev rfl) Z (i:=2) rfl fun _ Z=>?_;refine GO 8 ?_;intro _ Y;exact⟨k+1,by omega,hlt,Y.re bD,(hput▸(Z.sub (.cons _ (.cons_cons _ (.cons_cons _ (.cons_cons _ (.cons_cons _ .slnil)))))))⟩
   case hB=>kernel_rfl
   case hst=>rfl
  ·
   have hge:t.ds.length≤k:=by have:=of_decide_eq_false Zc;omega
   obtain rfl:k=t.ds.length:=by have:=Zh;omega
   rw[List.take_length] at Z;refine GO 12 ?_;intro _ Y;refine aF Y rfl rfl ?_;exact⟨(b11,m8,m9),rfl,(Z.sub (.cons_cons _ (.cons_cons _ (.cons_cons _ (.cons _ .slnil)))))⟩
def lR (bt m1 m2:Nat) (t:Tbl):Ent:=.inv (fun b=>b=bt∨b=m1∨b=m2) (fun X=>Box X bt #[.map (some m1),.map (some m2)] 228∧MapF X m1 (nE (dT t.ts))∧MapF X m2 (om (dn t.ds))∧m1≠m2)
 (fun X X' ⟨h1,⟨es,ck,h2,h2'⟩,⟨es',ck',h3,h3'⟩,h4⟩ hb=>⟨(hb bt (.inl rfl)).trans h1,⟨es,ck,(hb m1 (.inr (.inl rfl))).trans h2,h2'⟩,⟨es',ck',(hb m2 (.inr (.inr rfl))).trans h3,h3'⟩,h4⟩)
theorem yN {M:List Nat} {w X:World} {bt m1 m2:Nat} {t:Tbl} {L:List Ent} (h:St M w X (.box bt #[.map (some m1),.map (some m2)] 228::cy m2 (om (dn t.ds))::cy m1 (nE (dT t.ts))::L)):St M w X (lR bt m1 m2 t::L):=by
 have k1:=h.at_ (i:=0) rfl;have k2:=h.at_ (i:=1) rfl;have k3:=h.at_ (i:=2) rfl
 have hne:m1≠m2:=fun e=>by
  have Y:=(List.pairwise_cons.1 (List.pairwise_cons.1 h.sep).2).1 (cy m1 (nE (dT t.ts))) (List.mem_cons_self) m2;exact Y rfl e.symm
 have Y:St M w X (.inv (fun b=>b=bt∨b=m2) (fun _=>True) (fun _ _ h _=>h)::cy m1 (nE (dT t.ts))::L):=h.fuse2 (fun b hb=>hb) trivial
 exact Y.fuse2 (fun b hb=>by
  rcases hb with hb | hb | hb
  · exact .inl (.inl hb)
  · exact .inr hb
  · exact .inl (.inr hb)) ⟨k1,k3,k2,hne⟩
theorem yQ {t:Tbl} {r:Rcd} (h5:r.e.k≠5) (h4:r.e.k≠4):eC (nE (dT t.ts)) r.e.t (some (eZ (rO t r)))=nE (dT (ej t r).ts):=by
 funext i
 unfold ej;rw[if_neg h5];unfold eC nE;show _=(dT (if r.e.k=4 then p4 Trn.i t.ts r.e.t else jC Trn.i t.ts (rO t r)) i).map eZ;rw[if_neg h4];unfold dT;rw[qB];show(if i=r.e.t then _ else _)=(if i=r.e.t then _ else _:Option Trn).map eZ
 split<;>rfl
theorem w6 {t:Tbl} {r:Rcd} (h5:r.e.k≠5) (h4:r.e.k=4):eC (nE (dT t.ts)) r.e.t none=nE (dT (ej t r).ts):=by
 funext i
 unfold ej;rw[if_neg h5];unfold eC nE;show _=(dT (if r.e.k=4 then p4 Trn.i t.ts r.e.t else jC Trn.i t.ts (rO t r)) i).map eZ;rw[if_pos h4];unfold dT;rw[zg]
 split<;>rfl
theorem tW {t:Tbl} {r:Rcd} (h5:r.e.k≠5):(ej t r).ds=jw t r:=by unfold ej;rw[if_neg h5]
theorem wX {t:Tbl} {r:Rcd} (h1:dz r.e=true) (h2:dn t.ds r.e.g=none):eC (om (dn t.ds)) r.e.g (some (fM ⟨r.e.g,r.e.f,r.l⟩))=om (dn (jw t r)):=by
 funext i
 unfold jw;rw[if_pos ⟨h1,h2⟩];unfold eC om dn;rw[qB]
 split<;>rfl
theorem AJ {t:Tbl} {r:Rcd} (h:¬(dz r.e=true∧dn t.ds r.e.g=none)):jw t r=t.ds:=by unfold jw;rw[if_neg h]
theorem zC (t:Tbl) (r:Rcd) (bt m1 m2:Nat) (w:World) (hB:Box w bt #[.map (some m1),.map (some m2)] 228) (hm1:MapF w m1 (nE (dT t.ts))) (hm2:MapF w m2 (om (dn t.ds))) (hne:m1≠m2) :
 Calls Tryz.prog 130 #[.pointer (some ⟨bt,0,none⟩),.int .i64 r.l,de r.e] w fun e w'=>e=.returned (.tuple #[])∧St [m1,m2] w w' [cy m1 (nE (dT (ej t r).ts)),cy m2 (om (dn (ej t r).ds))]:=by
 have hmm:kb w [m1,m2]:=fun b hb=>by
  rcases List.mem_cons.1 hb with rfl | hb
  · exact hm1.noCells
  · rw[List.mem_singleton.1 hb];exact hm2.noCells
 refine ao (N:=82) Tryz.func130 rfl rfl rfl (fun _ Z=>?_);have U:=St.initM2 hm1 hm2 hne;refine ai (aq ?_);refine nb Z rfl rfl U fun b5 _ _ Zv Z U=>?_;refine GO 10 ?_;intro _ Z;refine ak (Z.ev rfl) (fun Zg=>?_) (fun Zg=>?_)
 ·
  have r5:r.e.k=5:=by simpa using Zg
  have r5':ej t r=t:=by unfold ej;rw[if_pos r5]
  refine wp_ret (ew ?_);refine Bv Z rfl ?_;exact⟨rfl,by rw[r5'];exact(U.sub (.cons _ (.cons_cons _ (.cons_cons _ .slnil))))⟩
 ·
  have r5:r.e.k≠5:=by simpa using Zg
  refine wp_skip (ag (ai (ai ?_)));apply fb Z (fun _=>False) [] [(11,124)] [false,false,false,false,false,false,false,false,false,false,true,true] _ aa bX
  case h=>
   refine GO 2 ?_;intro _ Z;refine qv Z (fun X hX=>fy 1 (Z.ev rfl)) fun _ Z=>?_;refine qv Z (fun X hX=>lx (Z.ev rfl) ((((U.grow (Grw.below hX)).keptL).box hmm hB).cells 1)) fun _ Z=>?_;refine GO 1 ?_;intro _ Z;refine qv Z (fun X hX=>lx (Z.ev rfl) ((U.grow (Grw.below hX)).cell (i:=0) rfl rfl)) fun _ Z=>?_;refine qv Z (fun X hX=>aC (v':=.tuple #[fM ((dn t.ds r.e.g).getD ⟨0,false,0⟩),.bool (dn t.ds r.e.g).isSome]) (by unfold om;cases dn t.ds r.e.g<;>rfl) (mh (z:=.agg #[.int .i64 0,.bool false,.int .i64 0]) Tryz.underlying226 Tryz.underlying3 aa (Z.ev rfl) (Z.ev rfl) ((U.grow (Grw.below hX)).at_ (i:=2) rfl))) fun _ Z=>?_;refine GO 4 ?_;intro _ Z;apply ek (O:=(fun _=>False)) (k:=10) (deps:=[]) (R:=NewAny _ 3 _) Z rfl rfl rfl bX NewAny.stable bX (vO NewAny.newT)
   case hx=>exact fun X hX hΦ=>kN (eu (z:=.agg #[.int .i64 0,.bool false,.int .i64 0]) aa) hX.size rfl
   intro v6 _ Z;apply gA (k:=11) (deps:=[10]) (kx:=10) (x:=6) (y:=21) (Y:=qh _) Z rfl ⟨rfl,rfl⟩ rfl bX ⟨rfl,rfl⟩ rfl gv rfl rfl (n:=3) aa bX
   case hx=>
    intro X hX hΦ;exact⟨(bL (k:=10) hΦ rfl rfl),rfl,rfl⟩
   intro vs11;refine iL (O:=(fun _=>False)) bX fun _ Zh Zi=>?_;obtain⟨b6,rfl,Zq,qb6⟩:=StoY.val (v:=vs11) Z rfl (ba Zi (k:=11) rfl);have U:=U.add (Grw.below Zh) (e:=.box _ _ _) qb6 (fun b hb=>by cases hb;exact⟨Zq,Box.lt qb6⟩);refine GO 5 ?_;intro _ Z;refine sv (v:=de r.e) Z (ah aa aa (Z.ev rfl) (U.cellsAll (i:=1) rfl)) fun _ Z=>?_;refine cT Z rfl U (iP _ _) fun _ _ Z U=>?_;refine GO 1 ?_;intro _ Z;apply aZ (x:=!(dn t.ds r.e.g).isSome) Z U 25 rfl 3 28
   case ht=>
    intro Zj;refine GO 3 ?_;intro _ Z;exact ae ⟨Z.midE 2,U⟩
   case hf=>
    intro Zj;refine GO 3 ?_;intro _ Z;exact ae ⟨Z.midE 2,U⟩
   case h=>
    rintro a27 Zw ⟨Zd,Zb⟩
    refine ae (ag ?_);refine rT (F:=True) Zd Zb [] [5,0,1] (fun L=>L.set 3 (cy m2 (om (dn (jw t r))))) ?_ (fun _ _ Z Za hjT=>?_)
    ·
     refine ak (Zd.ev rfl) (fun Ze=>?_) (fun Ze=>?_)
     ·
      apply aL Zd (fA 12) _ aa
      case h=>
       refine GO 2 ?_;intro _ Z;refine qv Z (fun X hX=>fy 1 (Z.ev rfl)) fun _ Z=>?_;refine qv Z (fun X hX=>lx (Z.ev rfl) ((((Zb.grow hX).keptL).box hmm hB).cells 1)) fun _ Z=>?_;refine GO 7 ?_;intro _ Z;refine qv (v:=fM ⟨r.e.g,r.e.f,r.l⟩) Z (fun X hX=>ay (zs:=[.int .i64 0,.bool false,.int .i64 0]) (pl:=[(0,1),(1,1),(2,1)]) aa aa (Z.evs2 rfl) rfl rfl) fun _ Z=>?_;refine aw ?_;refine aS fun _ Zk Zr=>?_;have U:=Zb.grow Zk;refine gq (wn rfl) ⟨rfl,rfl⟩ Tryz.underlying226 Tryz.underlying3 (Z.ev rfl) (Z.ev rfl) (Z.ev rfl) U (i:=3) rfl fun _ U=>?_;refine ae (ag ?_);have hjT:=trivial;obtain⟨u1,u2⟩:=Bool.and_eq_true_iff.1 Ze;rw[wX u1 (by cases hq:dn t.ds r.e.g with | none=>rfl | some y=>rw[hq] at u2;cases u2)] at U;exact⟨Z.re bD,U,hjT⟩
      case hB=>kernel_rfl
      case hst=>rfl
     ·
      refine wp_skip (ag ?_);have hjT:=trivial;have u0:jw t r=t.ds:=AJ (fun ⟨u1,u2⟩=>by rw[u1,u2] at Ze;cases Ze)
      have u1:cy m2 (om (dn t.ds))=cy m2 (om (dn (jw t r))):=by rw[u0]
      rw[u1] at Zb;exact⟨Zd.re bD,Zb,hjT⟩
    ·
     refine GO 9 ?_;intro _ Z;refine ak (Z.ev rfl) (fun Zl=>?_) (fun Zl=>?_)
     ·
      have r4:r.e.k=4:=by simpa using Zl
      refine ai ?_;apply aL Z (fA 6) _ aa
      case h=>
       refine GO 2 ?_;intro _ Z;refine qv Z (fun X hX=>fy 0 (Z.ev rfl)) fun _ Z=>?_;refine qv Z (fun X hX=>lx (Z.ev rfl) ((((Za.grow hX).keptL).box hmm hB).cells 0)) fun _ Z=>?_;refine GO 3 ?_;intro _ Z;refine aS fun _ Zm Zs=>?_;have U:=Za.grow Zm;refine vp (wn rfl) ⟨rfl,rfl⟩ Tryz.underlying225 Tryz.underlying3 (Z.ev rfl) (Z.ev rfl) U (i:=2) rfl fun _ U=>?_;refine ae (ag (wp_ret (ew ?_)));refine Bv Z rfl ?_;exact⟨rfl,by rw[←w6 r5 r4,tW r5];exact(U.sub (.cons _ (.cons _ (.cons_cons _ (.cons_cons _ .slnil)))))⟩
      case hB=>kernel_rfl
      case hst=>rfl
     ·
      have r4:r.e.k≠4:=by simpa using Zl
      refine wp_skip (ag (ai ?_));apply aL Z [false,false,false,false,false,false,false,true] _ aa
      case h=>
       refine GO 2 ?_;intro _ Z;refine qv Z (fun X hX=>fy 0 (Z.ev rfl)) fun _ Z=>?_;refine qv Z (fun X hX=>lx (Z.ev rfl) ((((Za.grow hX).keptL).box hmm hB).cells 0)) fun _ Z=>?_;refine GO 2 ?_;intro _ Z;refine qv Z (fun X hX=>aC (v':=eZ ((dT t.ts r.e.t).getD mR)) (by unfold nE;cases dT t.ts r.e.t<;>rfl) (yg (z:=.agg #[.int .i64 0,.int .i64 0,.int .i64 0,.bool false]) Tryz.underlying225 Tryz.underlying3 aa (Z.ev rfl) (Z.ev rfl) ((Za.grow hX).at_ (i:=2) rfl))) fun _ Z=>?_;refine aw ?_;apply gV (k:=7) (deps:=[]) (R:=NewB _ (fun b=>.pointer (some ⟨b,0,none⟩)) _ _) Z rfl rfl rfl NewB.stable (fun X hX hΦ=>js (eu (z:=.agg #[.int .i64 0,.int .i64 0,.int .i64 0,.bool false]) aa) hX.size);intro v8 _ Z;refine aS fun _ Zc Zn=>?_;have U:=Za.grow Zc;have Zf:=ba Zn (k:=7) rfl;obtain⟨b8,rfl,Zt,Zf⟩:=Zf;have U:=Za.add Zc (e:=.box _ _ _) Zf (fun b hb=>by cases hb;exact⟨Zt,Box.lt Zf⟩);refine sw Z U 0 fun _ U=>?_;refine GO 6 ?_;intro _ Z;refine sv (v:=lT ⟨0,0,((dT t.ts r.e.t).getD mR).u⟩) Z (ay (zs:=[.int .i64 0,.int .i64 0,.int .i64 0]) (pl:=[(0,1),(1,1),(2,1)]) aa aa (Z.evs2 rfl) rfl rfl) fun _ Z=>?_;refine GO 1 ?_;intro _ Z;refine sv (v:=de r.e) Z (ah aa aa (Z.ev rfl) (U.cellsAll (i:=2) rfl)) fun _ Z=>?_;refine cT Z rfl U (oC ⟨0,0,((dT t.ts r.e.t).getD mR).u⟩ r.l r.e _) fun _ _ Z U=>?_;refine na (.agg #[.int .i64 0,.int .i64 0,.int .i64 0]) Z rfl U fun b9 _ _ Zx Z U=>?_;refine sw Z U 0 fun _ U=>?_;refine ae (ag ?_);apply aL Z (fA 19) _ aa
       case h=>
        refine GO 2 ?_;intro _ Z;refine qv Z (fun X hX=>fy 0 (Z.ev rfl)) fun _ Z=>?_;refine qv Z (fun X hX=>lx (Z.ev rfl) ((((U.grow hX).keptL).box hmm hB).cells 0)) fun _ Z=>?_;refine GO 11 ?_;intro _ Z;apply fh (x:=((dT t.ts r.e.t).getD mR).c) Z 77 rfl 3 80
        case hf=>
         intro Zo;refine GO 3 ?_;intro _ Z;exact aw (Z.midE 2)
        case ht=>
         intro Zo;refine GO 3 ?_;intro _ Z;exact aw (Z.midE 2)
        case h=>
         intro _ Z;refine qv (v:=eZ (rO t r)) Z (fun X hX=>ay (zs:=[.int .i64 0,.int .i64 0,.int .i64 0,.bool false]) (pl:=[(0,1),(1,1),(2,1),(3,1)]) aa aa (Z.evs2 rfl) rfl rfl) fun _ Z=>?_;refine aw ?_;refine aS fun _ Zp Zu=>?_;have U:=U.grow Zp;refine gq (wn rfl) ⟨rfl,rfl⟩ Tryz.underlying225 Tryz.underlying3 (Z.ev rfl) (Z.ev rfl) (Z.ev rfl) U (i:=4) rfl fun _ U=>?_;refine ae ?_;refine CY Z rfl ?_;exact⟨rfl,by rw[←yQ r5 r4,tW r5];exact(U.sub (.cons _ (.cons _ (.cons _ (.cons _ (.cons_cons _ (.cons_cons _ .slnil)))))))⟩
       case hB=>kernel_rfl
       case hst=>rfl
      case hB=>kernel_rfl
      case hst=>rfl
  case hB=>kernel_rfl
end Go.Proofs.YtcfdpfmchchkaaaGreatDoor
