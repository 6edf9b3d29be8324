/- Chapter 22 -/
import Derived.Test.YtcfdpfmchchkaaaGreatDoorRcW1
namespace Go.Proofs.YtcfdpfmchchkaaaGreatDoor
set_option maxHeartbeats 1000000
set_option maxRecDepth 4000
set_option linter.unusedVariables false
set_option linter.unusedSimpArgs false
open Go.RowKit Go.Sort Go.Shelf
def Ig (r:RngP) (t:Tbl) (i:Option Addr × Nat):Value:=.tuple #[a7 (iN r t) i.1 i.2,ae (tS r t)]
def HU (t:Tbl) (i:Option Addr × Nat × Option Addr × Nat):Value:=.tuple #[bW t i.1 i.2.1 i.2.2.1 i.2.2.2,ae 0]
theorem Co (l:List Rcd) (A:Option Addr) (c:Nat) (b:Nat) (w:World) (hB:b≤w.heap.size) (hr:Rd w w.heap.size A (l.flatMap cm)) (k:l.length≤1000) :
 Calls Tryz.prog 25 #[.slice A l.length c] w fun e a=>∃i,e=.returned (G9 l.length i)∧RwN 145 14 l.length (l.flatMap cm) b i a∧Below w.heap.size w a:=
 (xz l A c w hr k).mono fun e a ⟨d,g,h,f,j⟩=>⟨(d,g),h,a6 f hB,j⟩
theorem FR {r:RngP} {t:Tbl} (h:fW r t≠0):tS r t=fW r t∧iN r t=du:=by
 have a:tS r t=fW r t:=by unfold tS;rw[if_pos h]
 exact⟨a,by unfold iN;rw[if_neg (by rw[a];exact h)]⟩
theorem iF (r:RngP) (hI:RngI r) (m:Option Addr) (s:Nat) (t:Tbl) (f:Option Addr) (l:Nat) (d:Option Addr) (j:Nat) (w:World) (B:Rd w w.heap.size m (aJ r.rs))
 (A:Rd w w.heap.size f (t.ts.flatMap cc)) (q:Rd w w.heap.size d (t.ds.flatMap cw)) (hF:FolT w) :
 bz 9 #[a7 r m s,bW t f l d j] w (.bool true):=by
 refine aq (N:=96) Tryz.func9 rfl rfl rfl (fun _ Z=>?_);have U:=St.init w;refine ai (an ?_);refine nb Z rfl rfl U fun b2 _ _ Qa Z U=>nb Z rfl rfl U fun b3 _ _ Qb Z U=>GO 6 ?_;intro _ Z;refine cN Z rfl U (vR _ (hF.below U.below)) fun _ _ Z U=>?_;refine GO 3 ?_;intro _ Z;refine jm (Z.ev rfl) (rfl) ?_;refine wp_skip (aj (ai (ai (an ?_))));refine sv (v:=a7 r m s) Z (ag aa aa (Z.ev rfl) (U.cellsAll (i:=1) rfl)) fun _ Z=>?_;refine cN Z rfl U (Dz r m s _ (U.rd0 B)) fun _ _ Z U=>?_;refine GO 2 ?_;intro _ I;apply bI I U 21 rfl 4 25
 case hf=>
  intro Zd;refine aT (v:=bW t f l d j) I (ao I _ rfl rfl rfl Zd) (ag aa aa (I.ev rfl) (U.cellsAll (i:=0) rfl)) rfl rfl fun _ Z=>dk Z (ao Z _ rfl rfl rfl Zd) (az bc (Z.evs rfl) rfl) rfl rfl U (zT t f l d j _) fun _ _ Z U=>GO 2 ?_;intro _ Z;exact ah ⟨Z.midE 3,U⟩
 case ht=>
  intro Zd;refine GO 4 ?_;intro _ Z;exact ah ⟨Z.midE 3,U⟩
 case h=>
  rintro Vg Zg ⟨Zk,o⟩
  refine ah (aj ?_);refine ak (Zk.ev rfl) (fun Zs=>?_) (fun Zs=>?_)
  ·
   refine GO 7 ?_;intro _ Z;refine aI Z rfl rfl ?_
   first | exact⟨rfl,o.below⟩ | exact⟨by simp,o.below⟩
  ·
   obtain⟨u1,u2⟩:=Bool.or_eq_false_iff.1 Zs;have p:=FE (r:=r) (ar u1);have Ve:t.ts.length≤62∧t.ds.length≤62:=ar u2;refine wp_skip (aj (ai ?_));apply dN Zk (fun _=>False) [] [(9,73)] [false,true,false,true,true,true,true,true,true,true] _ aa bC
   case h=>
    refine qv (v:=a7 r m s) Zk (fun X b=>ag aa aa (Zk.ev rfl) ((o.grow (Grw.below b)).cellsAll (i:=1) rfl)) fun _ Z=>?_;refine qv (v:=bW t f l d j) Z (fun X b=>ag aa aa (Z.ev rfl) ((o.grow (Grw.below b)).cellsAll (i:=0) rfl)) fun _ Z=>?_;refine ax ?_;apply cJ (O:=(fun _=>False)) (k:=1) (deps:=[]) (R:=TelI (fun i=>a7 r i.1 i.2) (RwN 177 3 r.rs.length (aJ r.rs) Zg.heap.size)) Z rfl rfl rfl bC (TelI.stable RwN.grow) bC (kZ (TelI.newT (RwN.newT au)))
    case hx=>exact fun X b a=>pL (az bc (Z.evs rfl) rfl) (BA r m s Zg.heap.size _ b.size ((o.grow (Grw.below b)).rd0 B) p)
    intro Vj _ Z;apply cJ (O:=(fun _=>False)) (k:=3) (deps:=[]) (R:=TelI (G6 t) (RwT t Zg.heap.size)) Z rfl rfl rfl bC (TelI.stable RwT.grow) bC (kZ (TelI.newT (RwT.newT au au)))
    case hx=>exact fun X b a=>pL (az bc (Z.evs rfl) rfl) (CN t f l d j Zg.heap.size _ b.size ((o.grow (Grw.below b)).rd0 A) ((o.grow (Grw.below b)).rd0 q) ab)
    intro Vr _ Z;apply cJ (O:=(fun _=>False)) (k:=4) (deps:=[1,3]) (R:=TelI (Ig r t) (RwN 177 3 (iN r t).rs.length (aJ (iN r t).rs) Zg.heap.size)) Z rfl rfl rfl bC (TelI.stable RwN.grow) bC (kZ (TelI.newT (RwN.newT au)))
    case hx=>exact fun X b a=>(by obtain⟨i1,rfl,g1⟩:=(aN (k:=1) a rfl rfl);obtain⟨i2,rfl,g2,g3⟩:=(aN (k:=3) a rfl rfl);exact pL (az bc (Z.evs rfl) rfl) ((nr r i1.1 i1.2 t i2.1 i2.2.1 i2.2.2.1 i2.2.2.2 _ (Rd.of_own g1) (Rd.of_own g2) (Rd.of_own g3) p (fun x hx=>(hI.rs x hx).1) (fun x hx=>(hI.rs x hx).2.2) (hF.below (o.grow (Grw.below b)).below)).mono fun e w' ⟨i,he,S⟩=>⟨i,he,a6 (S.ownB (i:=0) rfl) b.size,S.below⟩))
    intro Vf _ V;apply jw (k:=5) (deps:=[1,3,4]) (kx:=4) (src:=31) V rfl (.inl rfl) rfl rfl ⟨rfl,rfl⟩ rfl;intro Vt _ Zl;apply fi (k:=6) (deps:=[1,3,4,5]) (kx:=5) (src:=26) (i:=0) Zl rfl rfl rfl rfl ⟨rfl,rfl⟩ rfl
    case hx=>
     intro X a;obtain⟨_,g,_⟩:=(aN (k:=4) a rfl rfl);exact⟨_,_,((MovS.get V rfl (aN (k:=5) a rfl rfl)).trans g),rfl⟩
    intro Vh _ Zt;apply fi (k:=7) (deps:=[1,3,4,5]) (kx:=5) (src:=26) (i:=1) Zt rfl rfl rfl rfl ⟨rfl,rfl⟩ rfl
    case hx=>
     intro X a;obtain⟨_,g,_⟩:=(aN (k:=4) a rfl rfl);exact⟨_,_,((MovS.get V rfl (aN (k:=5) a rfl rfl)).trans g),rfl⟩
    intro Vs _ Z;apply cJ (O:=(fun _=>False)) (k:=8) (deps:=[]) (R:=NewAny _ 9 _) Z rfl rfl rfl bC NewAny.stable bC (kZ NewAny.newT)
    case hx=>exact fun X b a=>jh (dM (z:=.agg ef) aa) b.size rfl
    intro v5 _ Z;apply fj (k:=9) (deps:=[1,3,4,5,6,8]) (kx:=8) (x:=5) (y:=32) (Y:=sN 32) Z rfl ⟨rfl,rfl⟩ rfl bC ⟨rfl,rfl⟩ (Z.slot 32 _ rfl) (mS (ky:=6) ⟨rfl,rfl⟩) rfl rfl (n:=9) aa bC
    case hx=>
     intro X b a;obtain⟨_,g,_⟩:=(aN (k:=4) a rfl rfl);subst g;obtain rfl:=MovS.get V rfl (aN (k:=5) a rfl rfl);obtain rfl:=ExtS.get Zl rfl rfl (aN (k:=6) a rfl rfl);exact⟨(aN (k:=8) a rfl rfl),rfl,rfl⟩
    intro Jy;refine gi (O:=(fun _=>False)) bC fun _ Zm J=>?_;have Jv:=aF J (k:=4) rfl;obtain⟨⟨F,H⟩,rfl,g9⟩:=Jv;obtain rfl:=MovS.get V rfl (aF J (k:=5) rfl);obtain rfl:=ExtS.get Zl rfl rfl (aF J (k:=6) rfl);obtain rfl:=ExtS.get Zt rfl rfl (aF J (k:=7) rfl);obtain⟨b5,rfl,Zy,Vc⟩:=StoY.slot (v:=Jy) Z rfl rfl (aF J (k:=9) rfl);have U:=St.newBoxRow o (Grw.below Zm) Vc Zy g9 au;refine GO 5 ?_;intro _ Z;refine sv (v:=a7 r m s) Z (ag aa aa (Z.ev rfl) (U.cellsAll (i:=3) rfl)) fun _ Z=>?_;refine df Z (wn rfl) (az bc (Z.evs rfl) rfl) rfl rfl U (mo r m s _ (U.rd0 B) p (fun x hx=>(hI.rs x hx).1) (fun x hx=>(hI.rs x hx).2.2)) fun L _ _ Z G=>GO 16 ?_;intro _ E;refine eb E G [(9,ae (fW r t))] [7,6,5,4,3,2] ?_ (fun _ _ Z U=>?_)
    ·
     refine ak (E.ev rfl) (fun Zn=>?_) (fun Zn=>?_)
     ·
      refine an ?_;refine sv (v:=bW t f l d j) E (ag aa aa (E.ev rfl) (G.cellsAll (i:=3) rfl)) fun _ Z=>?_;refine cN Z rfl G (kO t f l d j _ (G.rd0 A) (G.rd0 q)) fun _ _ Z U=>?_;refine GO 3 ?_;intro _ Zu;have Z:(cO r).2.2=0:=ar Zn;rw[show dz t=fW r t by unfold fW;rw[Z];by_cases I:dz t=0<;>simp[aw,I]] at Zu;exact⟨Zu.re bN,U⟩
     ·
      refine wp_skip (aj ?_);have Z:(cO r).2.2≠0:=ar Zn;replace E:=Has.also E (t:=9) (v:=ae (fW r t)) ((show look _ 9=some (ae (cO r).2.2) from rfl).trans (by unfold fW;simp[aw,Z]));exact⟨E.re bN,G⟩
    ·
     refine GO 8 ?_;intro _ Z;refine ak (Z.ev rfl) (fun Zo=>?_) (fun Zo=>?_)
     ·
      have Vd:fW r t≠0:=ar Zo;obtain⟨y1,y2⟩:=FR Vd;rw[y1,y2] at Z U;refine GO 6 ?_;intro _ Z;refine aT (v:=a7 du F H) Z (ao Z _ rfl rfl rfl (bm)) (ag aa aa (Z.ev rfl) (U.cellsAll (i:=1) rfl)) rfl rfl fun _ Z=>aT (v:=a7 du none 0) Z (ao Z _ rfl rfl rfl (bm)) (ay (zs:=jG) (pl:=jF) aa aa (Z.evs2 rfl) rfl rfl) rfl rfl fun _ Z=>dk Z (ao Z _ rfl rfl rfl (bm)) (az bc (Z.evs rfl) rfl) rfl rfl U (sB du du F none H 0 _ (U.rdOf (i:=2) rfl) (Rd.nil _ _ _) au au) fun _ _ Z U=>sv Z (cr (Z.ev rfl) (bm) (Z.ev rfl)) fun _ Z=>?_;refine GO 5 ?_;intro _ Z;refine aI Z rfl rfl ?_
      first | exact⟨rfl,U.below⟩ | exact⟨by simp,U.below⟩
     ·
      have hz:fW r t=0:=ar Zo;obtain⟨D,Jx,Jw⟩:=FX (r:=r) (t:=t);refine wp_skip (aj (ai (an ?_)));refine sv (v:=a7 r m s) Z (ag aa aa (Z.ev rfl) (U.cellsAll (i:=4) rfl)) fun _ Z=>?_;refine GO 1 ?_;intro _ Z;refine sv (v:=bW t f l d j) Z (ag aa aa (Z.ev rfl) (U.cellsAll (i:=3) rfl)) fun _ Z=>?_;refine df Z (wn rfl) (az bc (Z.evs rfl) rfl) rfl rfl U (lH r m s L.1 L.2 t f l d j _ (U.rd0 B) (U.rdOf (i:=0) rfl) (U.rd0 A) (U.rd0 q) p hz) fun u _ _ Z U=>GO 3 ?_;intro _ Z;refine na (.agg ef) Z rfl U fun Vl _ _ Zz Z U=>sw Z U 0 fun _ U=>?_;refine GO 10 ?_;intro _ Z;refine aT (v:=a7 (iN r t) F H) Z (ao Z _ rfl rfl rfl (bm)) (ag aa aa (Z.ev rfl) (U.cellsAll (i:=3) rfl)) rfl rfl fun _ Z=>aT (v:=a7 (iN r t) u.1 u.2) Z (ao Z _ rfl rfl rfl (bm)) (ag aa aa (Z.ev rfl) (U.cellsAll (i:=0) rfl)) rfl rfl fun _ Z=>dk Z (ao Z _ rfl rfl rfl (bm)) (az bc (Z.evs rfl) rfl) rfl rfl U (sB (iN r t) (iN r t) F u.1 H u.2 _ (U.rdOf (i:=4) rfl) (U.rdOf (i:=1) rfl) D D) fun _ _ Z U=>aT Z (ao Z _ rfl rfl rfl (bm)) (tK (Z.ev rfl)) rfl rfl fun _ Z=>sv Z (nv (Z.ev rfl) (bm) (Z.ev rfl)) fun _ Z=>?_;refine ah (aj ?_);refine jm (Z.ev rfl) (bm) ?_;refine GO 9 ?_;intro _ Z;refine ak (Z.ev rfl) (fun Zv=>?_) (fun Zv=>?_)
      ·
       refine GO 7 ?_;intro _ Z;refine aI Z rfl rfl ?_
       first | exact⟨rfl,U.below⟩ | exact⟨by simp,U.below⟩
      ·
       have Va:tS r t=0:=ar Zv;refine wp_skip (aj (ai (an ?_)));refine sv (v:=a7 (iN r t) F H) Z (ag aa aa (Z.ev rfl) (U.cellsAll (i:=3) rfl)) fun _ Z=>?_;refine df Z (wn rfl) (az bc (Z.evs rfl) rfl) rfl rfl U (mo (iN r t) F H _ (U.rdOf (i:=4) rfl) D Jx Jw) fun Q _ Zp Z U=>GO 16 ?_;intro _ Z;refine ak (Z.ev rfl) (fun Zw=>?_) (fun Zw=>?_)
       ·
        refine GO 7 ?_;intro _ Z;refine aI Z rfl rfl ?_
        first | exact⟨rfl,U.below⟩ | exact⟨by simp,U.below⟩
       ·
        have hh:(cO (iN r t)).2.2=0:=ar Zw;have Vb:=FV Va hh;obtain⟨_,M,C⟩:=l0 hh
        have Vn:(cO (iN r t)).1.length≤100:=by rw[C];exact(kF M).1
        have Jz:∀x∈(cO (iN r t)).1,FewE x.e:=by rw[C];exact pE
        refine wp_skip (aj (ai ?_));apply dN Z (fun _=>False) [] [(10,25)] [false,true,false,false,false,true,true,true,true,true,true] _ aa bC
        case h=>
         refine GO 2 ?_;intro _ Z;refine qv Z (fun X b=>fx 1 2 (Z.ev rfl)) fun _ Z=>?_;refine qv Z (fun X b=>lx (Z.ev rfl) ((U.grow (Grw.below b)).cell (i:=4) rfl rfl)) fun _ Z=>?_;refine ax ?_;apply cJ (O:=(fun _=>False)) (k:=1) (deps:=[]) (R:=TelI (G9 (cO (iN r t)).1.length) (RwN 145 14 (cO (iN r t)).1.length ((cO (iN r t)).1.flatMap cm) Zp.heap.size)) Z rfl rfl rfl bC (TelI.stable RwN.grow) bC (kZ (TelI.newT (RwN.newT au)))
         case hx=>exact fun X b a=>pL (az bc (Z.evs rfl) rfl) (Co (cO (iN r t)).1 Q.1 Q.2 Zp.heap.size _ b.size ((U.grow (Grw.below b)).rdOf (i:=0) rfl) ab)
         intro Vq _ Z;apply cJ (O:=(fun _=>False)) (k:=5) (deps:=[1]) (R:=TelI (HU t) (RwT t Zp.heap.size)) Z rfl rfl rfl bC (TelI.stable RwT.grow) bC (kZ (TelI.newT (RwT.newT au au)))
         case hx=>exact fun X b a=>(by obtain⟨i1,rfl,g1⟩:=(aN (k:=1) a rfl rfl);exact pL (az bc (Z.evs rfl) rfl) ((l6 (cO (iN r t)).1 i1.1 i1.2 (iN r t).r.c _ (Rd.of_own g1) ab (jk g1) (hF.below (U.grow (Grw.below b)).below) Jz).mono fun e w' ⟨i,he,S⟩=>by rw[Vb] at he S;exact⟨i,he,⟨a6 (S.ownB (i:=0) rfl) b.size,a6 (S.ownB (i:=1) rfl) b.size⟩,S.below⟩))
         intro Vp _ T;apply jw (k:=6) (deps:=[1,5]) (kx:=5) (src:=86) T rfl (.inl rfl) rfl rfl ⟨rfl,rfl⟩ rfl;intro Vi _ Zq;apply fi (k:=7) (deps:=[1,5,6]) (kx:=6) (src:=80) (i:=0) Zq rfl rfl rfl rfl ⟨rfl,rfl⟩ rfl
         case hx=>
          intro X a;obtain⟨_,g,_⟩:=(aN (k:=5) a rfl rfl);exact⟨_,_,((MovS.get T rfl (aN (k:=6) a rfl rfl)).trans g),rfl⟩
         intro Vu _ Zx;apply fi (k:=8) (deps:=[1,5,6]) (kx:=6) (src:=80) (i:=1) Zx rfl rfl rfl rfl ⟨rfl,rfl⟩ rfl
         case hx=>
          intro X a;obtain⟨_,g,_⟩:=(aN (k:=5) a rfl rfl);exact⟨_,_,((MovS.get T rfl (aN (k:=6) a rfl rfl)).trans g),rfl⟩
         intro Vo _ Z;apply cJ (O:=(fun _=>False)) (k:=9) (deps:=[]) (R:=NewAny _ 2 _) Z rfl rfl rfl bC NewAny.stable bC (kZ NewAny.newT)
         case hx=>exact fun X b a=>jh (dM (z:=.agg fX) aa) b.size rfl
         intro Vk _ Z;apply fj (k:=10) (deps:=[1,5,6,7,9]) (kx:=9) (x:=14) (y:=87) (Y:=sN 87) Z rfl ⟨rfl,rfl⟩ rfl bC ⟨rfl,rfl⟩ (Z.slot 87 _ rfl) (mS (ky:=7) ⟨rfl,rfl⟩) rfl rfl (n:=2) aa bC
         case hx=>
          intro X b a;obtain⟨_,g,_⟩:=(aN (k:=5) a rfl rfl);subst g;obtain rfl:=MovS.get T rfl (aN (k:=6) a rfl rfl);obtain rfl:=ExtS.get Zq rfl rfl (aN (k:=7) a rfl rfl);exact⟨(aN (k:=9) a rfl rfl),rfl,rfl⟩
         intro P;refine gi (O:=(fun _=>False)) bC fun _ Zj Za=>?_;have W:=aF Za (k:=5) rfl;obtain⟨⟨A6,c6,A7,c7⟩,rfl,g6,g7⟩:=W;obtain rfl:=MovS.get T rfl (aF Za (k:=6) rfl);obtain rfl:=ExtS.get Zq rfl rfl (aF Za (k:=7) rfl);obtain rfl:=ExtS.get Zx rfl rfl (aF Za (k:=8) rfl);obtain⟨Vm,rfl,Zr,K⟩:=StoY.slot (v:=P) Z rfl rfl (aF Za (k:=10) rfl);have U:=St.newBox2Rows U (Grw.below Zj) K Zr g6 g7 au au au;refine GO 8 ?_;intro _ Z;refine aT (v:=bW t A6 c6 A7 c7) Z (ao Z _ rfl rfl rfl (bm)) (ag aa aa (Z.ev rfl) (U.cellsAll (i:=0) rfl)) rfl rfl fun _ Z=>aT (v:=bW t f l d j) Z (ao Z _ rfl rfl rfl (bm)) (ag aa aa (Z.ev rfl) (U.cellsAll (i:=9) rfl)) rfl rfl fun _ Z=>dk Z (ao Z _ rfl rfl rfl (bm)) (az bc (Z.evs rfl) rfl) rfl rfl U (xd t A6 c6 A7 c7 f l d j _ (U.rdOf (i:=1) rfl) (U.rdOf (i:=2) rfl) (U.rd0 A) (U.rd0 q) ab) fun _ _ Z U=>?_;refine sv Z (cr (Z.ev rfl) (bm) (Z.ev rfl)) fun _ Z=>?_;refine GO 4 ?_;intro _ Z;refine aI Z rfl rfl ?_
         first | exact⟨rfl,U.below⟩ | exact⟨by simp,U.below⟩
        case hB=>kernel_rfl
   case hB=>kernel_rfl
end Go.Proofs.YtcfdpfmchchkaaaGreatDoor
