/- Chapter 22 -/
import Derived.Test.YtcfdpfmchchkaaaGreatDoorRcN0
namespace Go.Proofs.YtcfdpfmchchkaaaGreatDoor
set_option maxHeartbeats 2000000
set_option maxRecDepth 4000
set_option linter.unusedVariables false
set_option linter.unusedSimpArgs false
open Go.RowKit Go.Sort Go.Shelf
def yN (l:List Rcd) (n:Int):Bool:=decide (n<0)||(ey l n.toNat==4)
theorem nt {l:List Rcd} {i:Nat} {t:Int} (h:yN l (dp l i t)=false):∃k,k<i∧dp l i t=(k:Int)∧bO l t i=some k∧ey l k≠4:=by
 unfold yN at h;obtain⟨c,b⟩:=Bool.or_eq_false_iff.1 h;obtain⟨k,d,a,e⟩:=iY (by have:=of_decide_eq_false c;omega:0≤dp l i t);rw[a] at b;exact⟨k,d,a,e,ar b⟩
theorem Gt (l:List Rcd) (i:Nat) (t p:Int):my l (bO l t i) p=(((decide (dp l i t<0)&&decide (p≥dO l))&&(p != 0))||(((decide (dp l i t≥0)&&yN l (dp l i t))&&(p != 0))||(!yN l (dp l i t)&&(p != jK l (dp l i t).toNat)))):=by
 unfold dp yN my
 cases bO l t i with
 | none=>simp
 | some k=>
  have a:decide ((k:Int)<0)=false:=decide_eq_false ab;have e2:decide ((k:Int)≥0)=true:=decide_eq_true ab;simp only[a,e2,Int.toNat_natCast,Bool.false_and,Bool.false_or,Bool.true_and];by_cases h:ey l k=4
  · rw[if_pos h,show(ey l k==4)=true by simpa using h];simp
  · rw[if_neg h,show(ey l k==4)=false by simpa using h];simp
theorem DU (l:List Rcd) (i:Nat) (t:Int):cR l (bO l t i)=if yN l (dp l i t)=true then 0 else ey l (dp l i t).toNat:=by
 unfold dp yN cR
 cases bO l t i with
 | none=>simp
 | some k=>
  have a:decide ((k:Int)<0)=false:=decide_eq_false ab;simp only[a,Int.toNat_natCast,Bool.false_or,beq_iff_eq]
theorem EL (l:List Rcd) (i:Nat) (t p:Int):mq l (bO l t i) p=if yN l (dp l i t)=true then (if p=0 then 0 else -1) else jc l (dp l i t).toNat:=by
 unfold dp yN mq
 cases bO l t i with
 | none=>simp
 | some k=>
  have a:decide ((k:Int)<0)=false:=decide_eq_false ab;simp only[a,Int.toNat_natCast,Bool.false_or,beq_iff_eq]
theorem Ge {l:List Rcd} {i:Nat} (b:VldH l i) {n:Int} (d:n≤0):ry Rcd.l n (l.take i) 0 = -1:=pX fun k c=>by
 have a:k<i:=by rw[List.length_take] at c;omega
 have:=(b.e0 a).1;rw[List.getElem_take];omega
def BM (x u:Lge):Bool:=(((((u.k != 0)||(u.t != x.t))||(x.x != u.p))||(x.g != u.g))||(x.f != u.f))||!(decide (x.o=fH u.o))
theorem C7 {l:List Rcd} {i:Nat} {n:Int} {x:Lge} {u:Rcd} (s:n≠0) (h:dx (l.take i) n=some u):mT l i n x=if BM x u.e=true then 13 else 0:=by
 unfold mT;rw[if_neg s,h];simp only[];by_cases q:u.e.k=0∧u.e.t=x.t∧x.x=u.e.p∧x.g=u.e.g∧x.f=u.e.f∧x.o=fH u.e.o
 · rw[if_pos q,if_neg]
   obtain⟨d,a,b,j,m,c⟩:=q;unfold BM;rw[←c];simp[d,a,b,j,m]
 · rw[if_neg q,if_pos]
   unfold BM;refine Classical.byContradiction fun r=>q ?_;simp only[Bool.or_eq_true,not_or,Bool.not_eq_true,bne_eq_false_iff_eq,Bool.not_eq_false',decide_eq_true_eq] at r;obtain⟨⟨⟨⟨⟨d,a⟩,b⟩,j⟩,m⟩,c⟩:=r;exact⟨d,a,b,j,m,c⟩
theorem qd (l:List Rcd) (i:Nat) (hi:i<l.length) (A:Option Addr) (c:Nat) (w:World) (hr:Rd w w.heap.size A (l.flatMap cm)) (hl:l.length≤1000) (hc:l.length≤c) (hv:VldH l i) (hx:∀x∈l,FewE x.e) :
 bz 108 #[.slice A l.length c,ae (i:Nat)] w (ae (CA l i l[i].e)):=by
 obtain⟨b,o,rfl,hB,_⟩:=hr.opened (aQ aO au ab);have Vf:=hx _ (List.getElem_mem hi);have Jw:=gP (l:=l) ab;obtain⟨E,a⟩:∃E,E=CA l i l[i].e:=⟨_,rfl⟩;rw[←a];unfold CA at a;have C:=Gt l i l[i].e.t l[i].e.p;have K:=DU l i l[i].e.t;have D:=EL l i l[i].e.t l[i].e.p;simp only[yN] at C
 have Jx:(l.take i).length=i:=by rw[List.length_take];omega
 have Vc:Rd w w.heap.size (some ⟨b,o,none⟩) ((l.take i).flatMap cm):=hr.takeF aO i;refine aq (N:=190) Tryz.func108 rfl rfl rfl (fun _ Z=>?_);have U:=St.init w;refine GO 6 ?_;intro _ Z;apply dN Z (fun _=>False) [] [(10,143)] [false,false,false,false,false,false,false,false,false,true,true] _ aa bC
 case h=>
  refine GO 1 ?_;intro _ h2;refine GO 1 ?_;intro _ Z;refine qv Z (fun X m=>av (i:=i) (sz:=14) dd aa (Z.ev rfl) (Z.ev rfl) ab ab rfl) fun _ Z=>?_;refine qv Z (fun X m=>fy 1 (Z.ev rfl)) fun _ Z=>?_;refine qv (v:=cZ l[i].e) Z (fun X m=>ag aa aa (Z.ev rfl) (ff ((U.grow (Grw.below m)).rd0 hr) hi)) fun _ Z=>?_;refine GO 1 ?_;intro _ Z;refine qv Z (fun X m=>av (i:=0) (sz:=14) dd aa (Z.ev rfl) (Z.ev rfl) ab ab rfl) fun _ Z=>?_;refine qv Z (fun X m=>fy 0 (Z.ev rfl)) fun _ Z=>?_;refine qv Z (fun X m=>aA (v':=ae (dO l)) (congrArg _ Jw.symm) (lx (Z.ev rfl) ((aZ aO ((U.grow (Grw.below m)).rd0 hr) (show 0<l.length by omega)) 0 _ rfl))) fun _ Z=>?_;refine ax ?_;apply cJ (O:=(fun _=>False)) (k:=9) (deps:=[]) (R:=NewAny _ 13 _) Z rfl rfl rfl bC NewAny.stable bC (kZ NewAny.newT)
  case hx=>exact fun X m hΦ=>jh (dM (z:=.agg q8) aa) m.size rfl
  intro v5 _ Z;apply fj (k:=10) (deps:=[9]) (kx:=9) (x:=5) (y:=19) (Y:=tn _) Z rfl ⟨rfl,rfl⟩ rfl bC ⟨rfl,rfl⟩ rfl iC rfl rfl (n:=13) aa bC
  case hx=>
   intro X m hΦ;exact⟨(aN (k:=9) hΦ rfl rfl),rfl,rfl⟩
  intro Jv;refine gi (O:=(fun _=>False)) bC fun _ Ql Qm=>?_;obtain⟨b5,rfl,Jg,Jy⟩:=StoY.val (v:=Jv) Z rfl (aF Qm (k:=10) rfl);have U:=U.add (Grw.below Ql) (e:=.box _ _ _) Jy (fun b hb=>by cases hb;exact⟨Jg,Box.lt Jy⟩);refine GO 11 ?_;intro _ Z;refine ak (Z.ev rfl) (fun Qn=>?_) (fun Qn=>?_)
  ·
   rw[if_pos (ar Qn)] at a;unfold Ft at a;refine GO 7 ?_;intro _ Z;apply bI Z U 30 rfl 4 34
   case hf=>
    intro Qo;refine GO 4 ?_;intro _ Z;exact ah ⟨Z.midE 3,U⟩
   case ht=>
    intro Qo;refine GO 4 ?_;intro _ Z;exact ah ⟨Z.midE 3,U⟩
   case h=>
    rintro Vm Jn ⟨Jc,Jd⟩
    refine ah (aj ?_);refine ak (Jc.ev rfl) (fun Qp=>?_) (fun Qp=>?_)
    ·
     rw[if_pos (ar Qp)] at a;refine GO 8 ?_;intro _ Z;refine aI Z rfl rfl ?_;exact⟨by first | (rw[a];done) | (rw[a];rfl),Jd.below⟩
    ·
     rw[if_neg (ar Qp)] at a;refine wp_skip (aj (ai (an ?_)));refine vf Jc 12 12 fun _ Z=>?_;refine GO 1 ?_;intro _ Z;refine df Z (wn rfl) (az bc (Z.evs rfl) rfl) rfl rfl Jd (tH (bl l[i].e.d) _ Vf.d) fun H _ _ Z U=>GO 1 ?_;intro _ Z;refine sv (v:=bW (dg (bl l[i].e.d)) H.1 H.2.1 H.2.2.1 H.2.2.2) Z (cb (Z.ev rfl) rfl) fun _ Z=>?_;refine GO 1 ?_;intro _ Z;refine na (.agg fX) Z rfl U fun b7 _ _ Jo Z U=>sw Z U 0 fun _ U=>?_;refine GO 11 ?_;intro _ Z;refine aI Z rfl rfl ?_;exact⟨by first | (rw[a];done) | (rw[a];rfl),U.below⟩
  ·
   rw[if_neg (ar Qn)] at a;refine GO 10 ?_;intro _ Z;refine ak (Z.ev rfl) (fun Qq=>?_) (fun Qq=>?_)
   ·
    rw[if_pos (ar Qq)] at a;refine GO 7 ?_;intro _ Z;refine aI Z rfl rfl ?_;exact⟨by first | (rw[a];done) | (rw[a];rfl),U.below⟩
   ·
    rw[if_neg (ar Qq)] at a;unfold B6 at a;refine GO 6 ?_;intro _ Z;refine cN Z rfl U (nN l i hi _ c _ (U.rd0 hr) ab) fun _ _ Z U=>?_;refine GO 8 ?_;intro _ Z;apply bI (x:=ey l (dp l i l[i].e.t).toNat==4) Z U 50 rfl 8 58
    case hf=>
     intro Zv;obtain⟨k,G,B,T⟩:=iY (l:=l) (i:=i) (t:=l[i].e.t) (by have:=of_decide_eq_false Zv;omega)
     have j:k<l.length:=by omega
     have P:ey l (dp l i l[i].e.t).toNat=l[k].e.k:=by rw[B];exact iP j
     refine GO 2 ?_;intro _ Z;refine sy Z (av (i:=k) (sz:=14) dd aa (Z.ev rfl) (Z.ev rfl) ab ab rfl) fun _ Z=>?_;refine sy Z (fy 1 (Z.ev rfl)) fun _ Z=>?_;refine sy Z (fy 0 (Z.ev rfl)) fun _ Z=>?_;refine sy Z (lx (Z.ev rfl) ((aZ aO (U.rd0 hr) j) 1 _ rfl)) fun _ Z=>?_;refine sy Z (aA (v':=.bool (ey l (dp l i l[i].e.t).toNat==4)) (by rw[P]) (eI (Z.ev rfl) (Z.ev rfl))) fun _ Z=>?_;refine GO 1 ?_;intro _ Z;exact ah ⟨Z.midE 7,U⟩
    case ht=>
     intro Zv;refine GO 8 ?_;intro _ Z;exact ah ⟨Z.midE 7,U⟩
    case h=>
     rintro Vn Jp ⟨Jq,Qr⟩
     refine GO 11 ?_;intro _ Z;apply bo Z Qr 62 rfl 5 67
     case ht=>
      intro Qs;refine GO 5 ?_;intro _ Z;exact ah ⟨Z.midE 4,Qr⟩
     case hf=>
      intro Qs;refine GO 5 ?_;intro _ Z;exact ah ⟨Z.midE 4,Qr⟩
     case h=>
      rintro Vk Jr ⟨Js,Qt⟩
      refine GO 1 ?_;intro _ Z;apply bo Z Qt 68 rfl 4 72
      case ht=>
       intro Qu;refine GO 4 ?_;intro _ Z;exact ah ⟨Z.midE 3,Qt⟩
      case hf=>
       intro Qu;refine GO 4 ?_;intro _ Z;exact ah ⟨Z.midE 3,Qt⟩
      case h=>
       rintro Vl Jt ⟨Ju,Zw⟩
       refine GO 3 ?_;intro _ Q;replace Q:=(Q.re bN:Has _ _ _ [(59,_),(10,_),(9,_),(6,_),(5,_),(4,_),(0,_),(1,_)]);refine eb Q Zw [(59,.bool (my l (bO l l[i].e.t i) l[i].e.p))] [10,9,6,5,4,0,1] ?_ (fun _ _ Z Zx=>?_)
       ·
        refine ak (Q.ev rfl) (fun Zy=>?_) (fun Zy=>?_)
        ·
         refine wp_skip (aj ?_)
         have hg:my l (bO l l[i].e.t i) l[i].e.p=true:=by rw[C,Zy];rfl
         replace Q:=Has.also Q (t:=59) (v:=.bool (my l (bO l l[i].e.t i) l[i].e.p)) (by rw[hg];exact congrArg (fun b=>some (Value.bool b)) Zy);exact⟨Q.re bN,Zw⟩
        ·
         refine GO 5 ?_;intro _ Z;apply bo Z Zw 75 rfl 2 77
         case ht=>
          intro Qv;refine GO 2 ?_;intro _ Z;exact ah ⟨Z.midE 1,Zw⟩
         case hf=>
          intro Qv;refine GO 2 ?_;intro _ Z;exact ah ⟨Z.midE 1,Zw⟩
         case h=>
          rintro Vi Jh ⟨Ji,Zm⟩
          refine GO 1 ?_;intro _ Z;apply bo Z Zm 78 rfl 4 82
          case ht=>
           intro Qw;refine GO 4 ?_;intro _ Z;exact ah ⟨Z.midE 3,Zm⟩
          case hf=>
           intro Qw;refine GO 4 ?_;intro _ Z;exact ah ⟨Z.midE 3,Zm⟩
          case h=>
           rintro Vj Jj ⟨Jk,Zn⟩
           refine GO 3 ?_;intro _ Z;refine ak (Z.ev rfl) (fun Qk=>?_) (fun Qk=>?_)
           ·
            refine wp_skip (aj ?_)
            have hg:my l (bO l l[i].e.t i) l[i].e.p=true:=by rw[C,Zy,Qk];rfl
            replace Z:=Has.also Z (t:=59) (v:=.bool (my l (bO l l[i].e.t i) l[i].e.p)) (by rw[hg];exact congrArg (fun b=>some (Value.bool b)) Qk);exact⟨Z.re bN,Zn⟩
           ·
            apply aK Z (fA 12) _ aa
            case h=>
             refine GO 3 ?_;intro _ Z;apply j4 (x:=l[i].e.p != jK l (dp l i l[i].e.t).toNat) Z 85 rfl 9 94
             case ht=>
              intro Zz;obtain⟨k,G,B,T,_⟩:=nt (l:=l) (i:=i) (t:=l[i].e.t) ((Bool.not_eq_true' _).mp Zz)
              have j:k<l.length:=by omega
              have P:jK l (dp l i l[i].e.t).toNat=l[k].l:=by rw[B];exact qj j
              refine GO 4 ?_;intro _ Z;refine qy Z (fun X m=>(av (i:=k) (sz:=14) dd aa (Z.ev rfl) (Z.ev rfl) ab ab rfl)) fun _ Z=>?_;refine qy Z (fun X m=>(fy 0 (Z.ev rfl))) fun _ Z=>?_;refine qy Z (fun X m=>(lx (Z.ev rfl) ((aZ aO ((Zn.grow m).rd0 hr) j) 0 _ rfl))) fun _ Z=>?_;refine qy Z (fun X m=>(aA (v':=.bool (l[i].e.p != jK l (dp l i l[i].e.t).toNat)) (by rw[P]) (kW (Z.ev rfl) (Z.ev rfl)))) fun _ Z=>?_;refine GO 1 ?_;intro _ Z;exact ax (Z.midE 8)
             case hf=>
              intro Zz;refine GO 9 ?_;intro _ Z;exact ax (Z.midE 8)
             case h=>
              intro _ Z;refine ax ?_;refine aV fun _ Qa Je=>?_;have U:=Zn.grow Qa;refine GO 3 ?_;intro _ Z
              have hg:my l (bO l l[i].e.t i) l[i].e.p=(!(decide (dp l i l[i].e.t<0)||(ey l (dp l i l[i].e.t).toNat==4))&&(l[i].e.p != jK l (dp l i l[i].e.t).toNat)):=by rw[C,Zy,Qk];rfl
              replace Z:=Has.also Z (t:=59) (v:=.bool (my l (bO l l[i].e.t i) l[i].e.p)) (by rw[hg];rfl);exact⟨Z.re bN,U⟩
            case hB=>kernel_rfl
            case hst=>rfl
       ·
        refine aj ?_;refine ak (Z.ev rfl) (fun Qx=>?_) (fun Qx=>?_)
        ·
         rw[if_pos Qx] at a;refine GO 8 ?_;intro _ Z;refine aI Z rfl rfl ?_;exact⟨by first | (rw[a];done) | (rw[a];rfl),Zx.below⟩
        ·
         rw[if_neg (by rw[Qx];decide)] at a;refine GO 15 ?_;intro _ V;replace V:=(V.re bN:Has _ _ _ [(96,_),(11,_),(10,_),(9,_),(6,_),(5,_),(4,_),(0,_),(1,_)]);refine eb V Zx [(11,ae (cR l (bO l l[i].e.t i)))] [10,9,6,5,4,0,1] ?_ (fun _ _ Z Ze=>?_)
         ·
          refine ak (V.ev rfl) (fun Qy=>?_) (fun Qy=>?_)
          ·
           have r:yN l (dp l i l[i].e.t)=false:=(Bool.not_eq_true' _).mp Qy;obtain⟨k,G,B,T,_⟩:=nt (l:=l) (i:=i) (t:=l[i].e.t) r
           have j:k<l.length:=by omega
           refine GO 3 ?_;intro _ Z;refine sv Z (av (i:=k) (sz:=14) dd aa (Z.ev rfl) (Z.ev rfl) ab ab rfl) fun _ Z=>?_;refine sv Z (fy 1 (Z.ev rfl)) fun _ Z=>?_;refine sv Z (fy 0 (Z.ev rfl)) fun _ Z=>?_;refine sv Z (lx (Z.ev rfl) ((aZ aO (Zx.rd0 hr) j) 1 _ rfl)) fun _ Z=>?_;refine GO 3 ?_;intro _ Z
           have J:cR l (bO l l[i].e.t i)=l[k].e.k:=by rw[K,r,B,Int.toNat_natCast,if_neg au,iP j]
           replace Z:=Has.also Z (t:=11) (v:=ae (cR l (bO l l[i].e.t i))) (by rw[J];rfl);exact⟨Z.re bN,Zx⟩
          ·
           have r:yN l (dp l i l[i].e.t)=true:=(Bool.not_eq_false' _).mp Qy;refine wp_skip (aj ?_)
           have J:cR l (bO l l[i].e.t i)=0:=by rw[K,r];rfl
           replace V:=Has.also V (t:=11) (v:=ae (cR l (bO l l[i].e.t i))) (by rw[J];rfl);exact⟨V.re bN,Zx⟩
         ·
          refine GO 14 ?_;intro _ Zi;replace Zi:=(Zi.re bN:Has _ _ _ [(104,_),(103,_),(10,_),(9,_),(6,_),(5,_),(4,_),(0,_),(1,_)]);refine mv (F:=¬(cR l (bO l l[i].e.t i)=2∧l[i].e.k≠4)∧¬((cR l (bO l l[i].e.t i)=3∨cR l (bO l l[i].e.t i)=1)∧l[i].e.k≠1∧l[i].e.k≠4)) Zi Ze [] [10,9,6,5,0,1] ?_ (fun _ _ Z W hst=>?_)
          ·
           refine ak (Zi.ev rfl) (fun Qz=>?_) (fun Qz=>?_)
           ·
            have h2:cR l (bO l l[i].e.t i)=2:=ar Qz;refine GO 7 ?_;intro _ Z;refine ak (Z.ev rfl) (fun Ja=>?_) (fun Ja=>?_)
            ·
             rw[if_pos ⟨h2,ar Ja⟩] at a;refine GO 9 ?_;intro _ Z;refine aI Z rfl rfl ?_;exact⟨by first | (rw[a];done) | (rw[a];rfl),Ze.below⟩
            ·
             refine wp_skip (aj ?_);have hst:¬(cR l (bO l l[i].e.t i)=2∧l[i].e.k≠4)∧¬((cR l (bO l l[i].e.t i)=3∨cR l (bO l l[i].e.t i)=1)∧l[i].e.k≠1∧l[i].e.k≠4):=⟨fun q=>q.2 (ar Ja),fun q=>by omega⟩;exact⟨Z.re bN,Ze,hst⟩
           ·
            have h2:cR l (bO l l[i].e.t i)≠2:=ar Qz;refine GO 7 ?_;intro _ L;replace L:=(L.re bN:Has _ _ _ [(109,_),(103,_),(10,_),(9,_),(6,_),(5,_),(4,_),(0,_),(1,_)]);refine eb L Ze [(109,.bool (cR l (bO l l[i].e.t i)==3||cR l (bO l l[i].e.t i)==1))] [10,9,6,5,4,0,1] ?_ (fun _ _ Z U=>?_)
            ·
             refine ak (L.ev rfl) (fun Jb=>?_) (fun Jb=>?_)
             ·
              refine wp_skip (aj ?_);replace L:=Has.also L (t:=109) (v:=.bool (cR l (bO l l[i].e.t i)==3||cR l (bO l l[i].e.t i)==1)) (by rw[Jb];rfl);exact⟨L.re bN,Ze⟩
             ·
              refine GO 5 ?_;intro _ Z;replace Z:=Has.also Z (t:=109) (v:=.bool (cR l (bO l l[i].e.t i)==3||cR l (bO l l[i].e.t i)==1)) (by rw[Jb];rfl);exact⟨Z.re bN,Ze⟩
            ·
             refine aj ?_;refine ak (Z.ev rfl) (fun Zg=>?_) (fun Zg=>?_)
             ·
              refine GO 6 ?_;intro _ Z;apply bo Z U 115 rfl 4 119
              case ht=>
               intro Qb;refine GO 4 ?_;intro _ Z;exact ah ⟨Z.midE 3,U⟩
              case hf=>
               intro Qb;refine GO 4 ?_;intro _ Z;exact ah ⟨Z.midE 3,U⟩
              case h=>
               rintro Vg Jl ⟨Qc,Qd⟩
               refine ah (aj ?_);refine ak (Qc.ev rfl) (fun Zj=>?_) (fun Zj=>?_)
               ·
                rw[if_neg (fun q=>h2 q.1),if_pos ⟨ar Zg,ar Zj⟩] at a;refine GO 9 ?_;intro _ Z;refine aI Z rfl rfl ?_;exact⟨by first | (rw[a];done) | (rw[a];rfl),Qd.below⟩
               ·
                refine wp_skip (aj ?_)
                have hst:¬(cR l (bO l l[i].e.t i)=2∧l[i].e.k≠4)∧¬((cR l (bO l l[i].e.t i)=3∨cR l (bO l l[i].e.t i)=1)∧l[i].e.k≠1∧l[i].e.k≠4):=⟨fun q=>h2 q.1,fun q=>by
                 rw[show(l[i].e.k != 1)=true from ar q.2.1,show(l[i].e.k != 4)=true by simpa using q.2.2] at Zj
                 cases Zj⟩
                exact⟨Qc.re bN,Qd,hst⟩
             ·
              refine wp_skip (aj ?_)
              have hst:¬(cR l (bO l l[i].e.t i)=2∧l[i].e.k≠4)∧¬((cR l (bO l l[i].e.t i)=3∨cR l (bO l l[i].e.t i)=1)∧l[i].e.k≠1∧l[i].e.k≠4):=⟨fun q=>h2 q.1,fun q=>by
               have:=q.1;simp only[Bool.or_eq_false_iff,beq_eq_false_iff_ne] at Zg;rcases this with h | h
               · exact Zg.1 h
               · exact Zg.2 h⟩
              exact⟨Z.re bN,U,hst⟩
          ·
           rw[if_neg hst.1,if_neg hst.2] at a;refine GO 10 ?_;intro _ Z;refine ak (Z.ev rfl) (fun Zo=>?_) (fun Zo=>?_)
           ·
            rw[if_pos (ar Zo)] at a;refine GO 7 ?_;intro _ Z;refine aI Z rfl rfl ?_;exact⟨by first | (rw[a];done) | (rw[a];rfl),W.below⟩
           ·
            rw[if_neg (ar Zo)] at a;refine GO 14 ?_;intro _ Zk;replace Zk:=(Zk.re bN:Has _ _ _ [(124,_),(12,_),(9,_),(6,_),(5,_),(0,_),(1,_)]);refine eb Zk W [(12,ae (mq l (bO l l[i].e.t i) l[i].e.p))] [6,5,0,1] ?_ (fun _ _ Z Zh=>?_)
            ·
             refine ak (Zk.ev rfl) (fun Zp=>?_) (fun Zp=>?_)
             ·
              have r:yN l (dp l i l[i].e.t)=false:=(Bool.not_eq_true' _).mp Zp;obtain⟨k,G,B,T,_⟩:=nt (l:=l) (i:=i) (t:=l[i].e.t) r
              have j:k<l.length:=by omega
              refine GO 2 ?_;intro _ Z;refine sv Z (aA (v':=ae (k:Nat)) (by rw[B]) (bQ (Z.ev rfl))) fun _ Z=>?_;refine cN Z rfl W (AH l k j _ c _ (W.rd0 hr) ab) fun _ _ Z U=>?_;refine GO 3 ?_;intro _ Z
              have J:mq l (bO l l[i].e.t i) l[i].e.p=jc l k:=by rw[D,r,B,Int.toNat_natCast,if_neg au]
              replace Z:=Has.also Z (t:=12) (v:=ae (mq l (bO l l[i].e.t i) l[i].e.p)) (by rw[J];rfl);exact⟨Z.re bN,U⟩
             ·
              have r:yN l (dp l i l[i].e.t)=true:=(Bool.not_eq_false' _).mp Zp;refine GO 7 ?_;intro _ Z;refine ak (Z.ev rfl) (fun Zq=>?_) (fun Zq=>?_)
              ·
               refine GO 4 ?_;intro _ Z
               have J:mq l (bO l l[i].e.t i) l[i].e.p=0:=by rw[D,r,if_pos rfl,if_pos (ar Zq)]
               replace Z:=Has.also Z (t:=12) (v:=ae (mq l (bO l l[i].e.t i) l[i].e.p)) (by rw[J];rfl);exact⟨Z.re bN,W⟩
              ·
               refine wp_skip (aj ?_)
               have J:mq l (bO l l[i].e.t i) l[i].e.p = -1:=by rw[D,r,if_pos rfl,if_neg (ar Zq)]
               replace Z:=Has.also Z (t:=12) (v:=ae (mq l (bO l l[i].e.t i) l[i].e.p)) (by rw[J];rfl);exact⟨Z.re bN,W⟩
            ·
             clear D;generalize mq l (bO l l[i].e.t i) l[i].e.p=n at Z a;refine GO 8 ?_;intro _ Z;refine ak (Z.ev rfl) (fun Zr=>?_) (fun Zr=>?_)
             ·
              have I:n=0:=ar Zr
              have a:E=13:=by rw[a];unfold mT;rw[if_pos I]
              refine GO 7 ?_;intro _ Z;refine aI Z rfl rfl ?_;exact⟨by first | (rw[a];done) | (rw[a];rfl),Zh.below⟩
             ·
              have I:n≠0:=ar Zr;refine GO 14 ?_;intro _ M;replace M:=(M.re bN:Has _ _ _ [(134,_),(13,_),(12,_),(6,_),(5,_),(0,_),(1,_)]);refine eb M Zh [(13,ae (ry Rcd.l n (l.take i) 0))] [6,5,0] ?_ (fun _ _ Z U=>?_)
              ·
               refine ak (M.ev rfl) (fun Qe=>?_) (fun Qe=>?_)
               ·
                refine GO 3 ?_;intro _ Z;refine sv Z (ga (l:=0) (h:=i) (sz:=14) dd aa (Z.ev rfl) rfl (Z.ev rfl) ab ab (.inr rfl) rfl) fun _ Z=>?_;refine GO 1 ?_;intro _ Z;refine cN Z rfl Zh (Jx▸sR (l.take i) n _ c _ (Zh.rd0 Vc) ab) fun _ _ Z U=>?_;refine GO 3 ?_;intro _ Z;exact⟨Z.re bN,U⟩
               ·
                refine wp_skip (aj ?_);have Vp:n = -1:=ar Qe;replace M:=Has.also M (t:=13) (v:=ae (ry Rcd.l n (l.take i) 0)) (by rw[Ge hv ab];rfl);exact⟨M.re bN,Zh⟩
              ·
               refine GO 8 ?_;intro _ Z;refine ak (Z.ev rfl) (fun Zs=>?_) (fun Zs=>?_)
               ·
                have Ve:dx (l.take i) n=none:=p9 (of_decide_eq_true Zs);unfold mT at a;rw[if_neg I,Ve] at a;simp only[] at a;refine GO 9 ?_;intro _ Z;refine ak (Z.ev rfl) (fun Zt=>?_) (fun Zt=>?_)
                ·
                 rw[if_pos (by have:=of_decide_eq_true Zt;omega)] at a;refine GO 8 ?_;intro _ Z;refine aI Z rfl rfl ?_;exact⟨by first | (rw[a];done) | (rw[a];rfl),U.below⟩
                ·
                 rw[if_neg (by have:=of_decide_eq_false Zt;omega)] at a;refine GO 9 ?_;intro _ Z;refine aI Z rfl rfl ?_;exact⟨by first | (rw[a];done) | (rw[a];rfl),U.below⟩
               ·
                obtain⟨k,hk,Vd,_,Va⟩:=o8 (of_decide_eq_false Zs);rw[Nat.zero_add] at Vd
                have G:k<i:=by omega
                have j:k<l.length:=by omega
                have Jz:(l.take i)[k]=l[k]:=List.getElem_take ..;have a:=a.trans (C7 (u:=l[k]) I (Jz▸Va));have Vb:gj l[k].e.o=0:=yg (hv.e0 G).2.2;refine GO 6 ?_;intro _ Z;refine sv Z (av (i:=k) (sz:=14) dd aa (Z.ev rfl) (Z.ev rfl) ab ab rfl) fun _ Z=>?_;refine sv Z (fy 1 (Z.ev rfl)) fun _ Z=>?_;refine sv (v:=cZ l[k].e) Z (ag aa aa (Z.ev rfl) (ff (U.rd0 hr) j)) fun _ Z=>?_;refine na (.agg q8) Z rfl U fun Vo _ _ Jm Z U=>sw Z U 0 fun _ U=>?_;refine ah (aj (ai (ai ?_)));apply aK Z (fA 38) _ aa
                case h=>
                 refine GO 4 ?_;intro _ Z;apply fF (x:=l[k].e.t != l[i].e.t) Z 154 rfl 6 160
                 case hf=>
                  intro Qf;refine GO 6 ?_;intro _ Z;exact ax (Z.midE 5)
                 case ht=>
                  intro Qf;refine GO 6 ?_;intro _ Z;exact ax (Z.midE 5)
                 case h=>
                  intro _ Z;refine GO 1 ?_;intro _ Z;apply fF (x:=l[i].e.x != l[k].e.p) Z 161 rfl 6 167
                  case hf=>
                   intro Qg;refine GO 6 ?_;intro _ Z;exact ax (Z.midE 5)
                  case ht=>
                   intro Qg;refine GO 6 ?_;intro _ Z;exact ax (Z.midE 5)
                  case h=>
                   intro _ Z;refine GO 1 ?_;intro _ Z;apply fF (x:=l[i].e.g != l[k].e.g) Z 168 rfl 6 174
                   case hf=>
                    intro Qh;refine GO 6 ?_;intro _ Z;exact ax (Z.midE 5)
                   case ht=>
                    intro Qh;refine GO 6 ?_;intro _ Z;exact ax (Z.midE 5)
                   case h=>
                    intro _ Z;refine GO 1 ?_;intro _ Z;apply fF (x:=l[i].e.f != l[k].e.f) Z 175 rfl 6 181
                    case hf=>
                     intro Qi;refine GO 4 ?_;intro _ Z;refine qy Z (fun X m=>(yj xx (Z.ev rfl) (Z.ev rfl))) fun _ Z=>?_;refine GO 1 ?_;intro _ Z;exact ax (Z.midE 5)
                    case ht=>
                     intro Qi;refine GO 6 ?_;intro _ Z;exact ax (Z.midE 5)
                    case h=>
                     intro _ Z;refine GO 1 ?_;intro _ Z;apply tG Z 182 rfl 6 188
                     case ht=>
                      intro Zd;refine GO 6 ?_;intro _ Z;exact ax ⟨_,Z.midE 5⟩
                     case hf=>
                      intro Zd;refine GO 1 ?_;intro _ Z;refine j9 (v:=gm l[i].e.o) Z (ao Z _ rfl rfl rfl Zd) rfl rfl (fun X m=>(ag aa aa (Z.ev rfl) ((U.grow m).cellsOf (i:=1) rfl 6 6))) fun _ Z=>GO 1 ?_;intro _ Z;refine j9 (v:=gm l[k].e.o) Z (ao Z _ rfl rfl rfl Zd) rfl rfl (fun X m=>(ag aa aa (Z.ev rfl) ((U.grow m).cellsOf (i:=0) rfl 6 6))) fun _ Z=>k9 Z (ao Z _ rfl rfl rfl Zd) rfl rfl (fun X=>(az bc (Z.evs rfl) rfl)) (fun X m=>rC l[k].e.o _ Vb) fun _ Z=>qy Z (fun X m=>(aA (v':=.bool (!(decide (l[i].e.o=fH l[k].e.o)))) (by rw[←BP]) (h7 (ks:=[.i .i64,.i .i64,.i .i64,.i .i64,.s,.s]) aa Tryz.underlying141 aa (Z.ev rfl) (Z.ev rfl) rfl rfl))) fun _ Z=>?_;exact ax (Z.midE 5)
                     case h=>
                      intro Vh _ S Z;refine ax ?_;refine aV fun _ Qj Jf=>?_;have U:=U.grow Qj;refine sv Z (lv (Z.ev rfl) (Z.ev rfl) (Z.ev rfl) S) fun _ Z=>?_;refine ah (aj ?_);refine ak (Z.ev rfl) (fun Zu=>?_) (fun Zu=>?_)
                      ·
                       rw[if_pos (show BM l[i].e l[k].e=true from Zu)] at a;refine GO 7 ?_;intro _ Z;refine aI Z rfl rfl ?_;exact⟨by first | (rw[a];done) | (rw[a];rfl),U.below⟩
                      ·
                       rw[if_neg (by rw[show BM l[i].e l[k].e=false from Zu];decide)] at a;refine GO 8 ?_;intro _ Z;refine aI Z rfl rfl ?_;exact⟨by first | (rw[a];done) | (rw[a];rfl),U.below⟩
                case hB=>kernel_rfl
                case hst=>rfl
 case hB=>kernel_rfl
theorem Bo {l:List Rcd} {j:Nat} (b:j<l.length) (h:bD l[j].l 1 2147483647=false):dV l j (cn l j) l[j]=2:=by
 have a:eu l j l[j]=2:=by unfold eu;rw[h];rfl
 unfold dV;rw[a];rfl
theorem By {l:List Rcd} {j:Nat} (d:j<l.length) (h:bD l[j].l 1 2147483647=true) {y:Rcd} (c:dv l j=some y) (b:l[j].l≤y.l):dV l j (cn l j) l[j]=9:=by
 have a:eu l j l[j]=9:=by unfold eu;rw[h,c];simp only[];rw[decide_eq_false ab];rfl
 unfold dV;rw[a];rfl
theorem Bv {l:List Rcd} {j:Nat} (b:j<l.length) (h:bD l[j].l 1 2147483647=true) (a:∀y,dv l j=some y→y.l<l[j].l):eu l j l[j]=cD l[j].e:=by
 unfold eu;rw[h]
 cases hb:dv l j with
 | none=>
  show aw [0,0,cD l[j].e]=_
  by_cases q:cD l[j].e=0<;>simp[aw,q]
 | some y=>
  simp only[];rw[decide_eq_true (a y hb)];show aw [0,0,cD l[j].e]=_
  by_cases q:cD l[j].e=0<;>simp[aw,q]
theorem mG (l:List Rcd) (A:Option Addr) (c:Nat) (w:World) (hr:Rd w w.heap.size A (l.flatMap cm)) (hl:l.length≤1000) (hc:l.length≤c) (hx:∀x∈l,FewE x.e) :
 bz 45 #[.slice A l.length c] w (.tuple #[ae (eA l).1,ae (eA l).2]):=by
 obtain⟨E,g⟩:∃E,E=eA l:=⟨_,rfl⟩;rw[←g];unfold eA at g;refine aq (N:=58) Tryz.func45 rfl rfl rfl (fun _ G=>?_);have Z:=St.init w;refine GO 14 ?_;intro _ Y;refine ak (Y.ev rfl) (fun Q=>?_) (fun Q=>?_)
 ·
  rw[if_pos (by have:=of_decide_eq_true Q;omega)] at g;refine GO 8 ?_;intro _ Y;refine cd Y rfl rfl rfl ?_;exact⟨by first | (rw[g];done) | (rw[g];rfl),Z.below⟩
 ·
  rw[if_neg (by have:=of_decide_eq_false Q;omega)] at g;refine GO 9 ?_;intro _ Y;refine aY Y Z [0] (fun (j:Nat)=>[(4,ae (j:Nat))]) (fun (j:Nat)=>VldH l j) (fun (j:Nat) L=>L) (fun (j:Nat)=>l.length-j) (0) (⟨Nat.zero_le _,fun k _ h=>absurd h (Nat.not_lt_zero _)⟩) bN (Z) ?_;intro j _ _ z Y Z;refine GO 9 ?_;intro _ Y;refine ak (Y.ev rfl) (fun P=>?_) (fun P=>?_)
  ·
   have a:j<l.length:=by have:=of_decide_eq_true P;omega
   have u:=hx _ (List.getElem_mem a)
   have f:dV l j (cn l j) l[j]≠0→E=((j:Int),dV l j (cn l j) l[j]):=fun G=>by
    rw[g,dB (fun i x=>dV l i (cn l i) x) l 0 j a (fun k t B=>by rw[Nat.zero_add];exact z.2 k t B) (by rw[Nat.zero_add];exact G),Nat.zero_add]
   obtain⟨b,o,rfl,hB,_⟩:=hr.opened (aQ aO au ab);refine GO 9 ?_;intro _ Y;refine sv Y (av (i:=j) (sz:=14) dd aa (Y.ev rfl) (Y.ev rfl) ab ab rfl) fun _ Y=>?_;refine sv Y (fy 0 (Y.ev rfl)) fun _ Y=>?_;refine sv Y (lx (Y.ev rfl) ((aZ aO (Z.rd0 hr) a) 0 _ rfl)) fun _ Y=>?_;refine cU Y rfl (bu _ _ _ _) fun _ Y=>?_;refine GO 3 ?_;intro _ Y;refine ak (Y.ev rfl) (fun R=>?_) (fun R=>?_)
   ·
    have H:bD l[j].l 1 2147483647=false:=ar R;have r:=Bo a H;rw[r] at f;have g:=f au;refine GO 14 ?_;intro _ Y;refine cd Y rfl rfl rfl ?_;exact⟨by first | (rw[g];done) | (rw[g];rfl),Z.below⟩
   ·
    have m:bD l[j].l 1 2147483647=true:=ar R;refine wp_skip (aj (ai (ai ?_)));apply aK Y (fA 15) _ aa
    case h=>
     refine GO 3 ?_;intro _ Y;apply mV Y 26 rfl 12 38
     case ht=>
      intro S
      have p:0<j:=by have:=of_decide_eq_true S;omega
      refine GO 2 ?_;intro _ Y;refine qy Y (fun X s=>(av (i:=j) (sz:=14) dd aa (Y.ev rfl) (Y.ev rfl) ab ab rfl)) fun _ Y=>?_;refine qy Y (fun X s=>(fy 0 (Y.ev rfl))) fun _ Y=>?_;refine qy Y (fun X s=>(lx (Y.ev rfl) ((aZ aO ((Z.grow s).rd0 hr) a) 0 _ rfl))) fun _ Y=>?_;refine GO 3 ?_;intro _ Y;refine qy Y (fun X s=>(av (i:=j-1) (sz:=14) dd aa (Y.ev rfl) (Y.ev rfl) ab ab rfl)) fun _ Y=>?_;refine qy Y (fun X s=>(fy 0 (Y.ev rfl))) fun _ Y=>?_;refine qy Y (fun X s=>(lx (Y.ev rfl) ((aZ aO ((Z.grow s).rd0 hr) (show j-1<l.length by omega)) 0 _ rfl))) fun _ Y=>?_;refine qy Y (fun X s=>(aA (v':=.bool (decide (l[j].l≤((dv l j).getD l[j]).l))) (by rw[ea p a,Option.getD_some]) (mU (Y.ev rfl) (Y.ev rfl)))) fun _ Y=>?_;exact ax (Y.midE 11)
     case hf=>
      intro S;refine GO 12 ?_;intro _ Y;exact ax ⟨_,Y.midE 11⟩
     case h=>
      intro V _ F Y;refine ax ?_;refine aV fun _ Zg Zj=>?_;have Z:=Z.grow Zg;refine sv Y (eO (Y.ev rfl) (Y.ev rfl) F (Y.ev rfl)) fun _ Y=>?_;refine ah (aj ?_);refine ak (Y.ev rfl) (fun J=>?_) (fun J=>?_)
      ·
       obtain⟨u1,T⟩:=Bool.and_eq_true_iff.1 J
       have p:0<j:=by have:=of_decide_eq_true u1;omega
       rw[ea p a] at T;have r:=By a m (ea p a) (of_decide_eq_true T);rw[r] at f;have g:=f au;refine GO 14 ?_;intro _ Y;refine cd Y rfl rfl rfl ?_;exact⟨by first | (rw[g];done) | (rw[g];rfl),Z.below⟩
      ·
       have I:∀y,dv l j=some y→y.l<l[j].l:=fun y U=>by
        rcases Nat.eq_zero_or_pos j with G | G
        · subst G;cases U
        · rw[decide_eq_true (by omega:(j:Int)>0),Bool.true_and,U] at J
          have:=of_decide_eq_false J
          change ¬l[j].l≤y.l at this
          omega
       have D:=Bv a m I;refine GO 7 ?_;intro _ Y;refine sv Y (av (i:=j) (sz:=14) dd aa (Y.ev rfl) (Y.ev rfl) ab ab rfl) fun _ Y=>?_;refine sv Y (fy 1 (Y.ev rfl)) fun _ Y=>?_;refine sv (v:=cZ l[j].e) Y (ag aa aa (Y.ev rfl) (ff (Z.rd0 hr) a)) fun _ Y=>?_;refine cN Y rfl Z (gd l[j].e _ u.o u.n (by have:=u.d;unfold maxLen;omega)) fun _ _ Y Z=>?_;refine GO 9 ?_;intro _ Y;refine ak (Y.ev rfl) (fun O=>?_) (fun O=>?_)
       ·
        have C:cD l[j].e≠0:=ar O
        have r:dV l j (cn l j) l[j]=cD l[j].e:=by unfold dV;rw[D,if_pos C]
        rw[r] at f;have g:=f C;refine GO 15 ?_;intro _ Y;refine cd Y rfl rfl rfl ?_;exact⟨by first | (rw[g];done) | (rw[g];rfl),Z.below⟩
       ·
        have K:cD l[j].e=0:=ar O;have r:=EY a z (D.trans K);rw[r] at f;refine GO 6 ?_;intro _ Y;refine cN Y rfl Z (qd l j a _ c _ (Z.rd0 hr) hl hc z hx) fun _ _ Y Z=>?_;refine GO 9 ?_;intro _ Y;refine ak (Y.ev rfl) (fun M=>?_) (fun M=>?_)
        ·
         have g:=f (ar M);refine GO 14 ?_;intro _ Y;refine cd Y rfl rfl rfl ?_;exact⟨by first | (rw[g];done) | (rw[g];rfl),Z.below⟩
        ·
         have W:dV l j (cn l j) l[j]=0:=by rw[r];simpa using M
         refine GO 9 ?_;intro _ Y;exact⟨j+1,ab,⟨a,fun k t B=>by rcases Nat.lt_or_eq_of_le (show k≤j by omega) with q | q;exact z.2 k t q;subst q;exact W⟩,Y.re bN,Z⟩
    case hB=>kernel_rfl
    case hst=>rfl
  ·
   have Jv:l.length≤j:=by have:=of_decide_eq_false P;omega
   have Jw:(di (fun i x=>dV l i (cn l i) x) 0 l).2=0:=(cY _ _).2 fun k t=>z.2 k t ab;have g:E=(0,0):=g.trans (dc _ l 0 fun k t=>by rw[Nat.zero_add];exact z.2 k t ab);refine GO 12 ?_;intro _ Y;refine cd Y rfl rfl rfl ?_;exact⟨by first | (rw[g];done) | (rw[g];rfl),Z.below⟩
open Go.RowKit Go.Sort Go.Shelf
end Go.Proofs.YtcfdpfmchchkaaaGreatDoor
