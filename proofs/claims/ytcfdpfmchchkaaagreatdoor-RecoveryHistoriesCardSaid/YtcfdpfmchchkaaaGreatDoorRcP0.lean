/-
  Chapter 22: the reference's error of a record, and of a history.
  Chapter 22: the reference's strictness and meaning.
-/
import Derived.Test.YtcfdpfmchchkaaaGreatDoorRcN0
namespace Go.Proofs.YtcfdpfmchchkaaaGreatDoor
set_option maxHeartbeats 2000000
set_option maxRecDepth 4000
set_option linter.unusedVariables false
set_option linter.unusedSimpArgs false
open Go.RowKit Go.Sort Go.Shelf
def tZ (l:List Rcd) (n:Int):Bool:=decide (n<0)||(dD l n.toNat==4)
theorem lf {l:List Rcd} {i:Nat} {t:Int} (h:tZ l (cF l i t)=false):∃k,k<i∧cF l i t=(k:Int)∧bj l t i=some k∧dD l k≠4:=by
 unfold tZ at h;obtain⟨h1,h2⟩:=Bool.or_eq_false_iff.1 h;obtain⟨k,q1,q2,q3⟩:=gj (by have:=of_decide_eq_false h1;omega:0≤cF l i t);rw[q2] at h2;exact⟨k,q1,q2,q3,by simpa using h2⟩
theorem B3 (l:List Rcd) (i:Nat) (t p:Int):kp l (bj l t i) p=(((decide (cF l i t<0)&&decide (p≥cX l))&&(p != 0))||(((decide (cF l i t≥0)&&tZ l (cF l i t))&&(p != 0))||(!tZ l (cF l i t)&&(p != je l (cF l i t).toNat)))):=by
 unfold cF tZ kp
 cases bj l t i with
 | none=>simp
 | some k=>
  have e1:decide ((k:Int)<0)=false:=decide_eq_false ab;have e2:decide ((k:Int)≥0)=true:=decide_eq_true ab;simp only[e1,e2,Int.toNat_natCast,Bool.false_and,Bool.false_or,Bool.true_and];by_cases h:dD l k=4
  · rw[if_pos h,show(dD l k==4)=true by simpa using h];simp
  · rw[if_neg h,show(dD l k==4)=false by simpa using h];simp
theorem Aq (l:List Rcd) (i:Nat) (t:Int):cm l (bj l t i)=if tZ l (cF l i t)=true then 0 else dD l (cF l i t).toNat:=by
 unfold cF tZ cm
 cases bj l t i with
 | none=>simp
 | some k=>
  have e1:decide ((k:Int)<0)=false:=decide_eq_false ab;simp only[e1,Int.toNat_natCast,Bool.false_or,beq_iff_eq]
theorem zW (l:List Rcd) (i:Nat) (t p:Int):jY l (bj l t i) p=if tZ l (cF l i t)=true then (if p=0 then 0 else -1) else gN l (cF l i t).toNat:=by
 unfold cF tZ jY
 cases bj l t i with
 | none=>simp
 | some k=>
  have e1:decide ((k:Int)<0)=false:=decide_eq_false ab;simp only[e1,Int.toNat_natCast,Bool.false_or,beq_iff_eq]
theorem B4 {l:List Rcd} {i:Nat} (hv:VldH l i) {n:Int} (hn:n≤0):oP Rcd.l n (l.take i) 0 = -1:=mU fun k hk=>by
 have hki:k<i:=by rw[List.length_take] at hk;omega
 have:=(hv.e0 hki).1;rw[List.getElem_take];omega
def yy (x u:Lge):Bool:=(((((u.k != 0)||(u.t != x.t))||(x.x != u.p))||(x.g != u.g))||(x.f != u.f))||!(decide (x.o=fR u.o))
theorem yo {l:List Rcd} {i:Nat} {n:Int} {x:Lge} {u:Rcd} (h0:n≠0) (h:dX (l.take i) n=some u):kM l i n x=if yy x u.e=true then 13 else 0:=by
 unfold kM;rw[if_neg h0,h];simp only[];by_cases q:u.e.k=0∧u.e.t=x.t∧x.x=u.e.p∧x.g=u.e.g∧x.f=u.e.f∧x.o=fR u.e.o
 · rw[if_pos q,if_neg]
   obtain⟨q1,q2,q3,q4,q5,q6⟩:=q;unfold yy;rw[←q6];simp[q1,q2,q3,q4,q5]
 · rw[if_neg q,if_pos]
   unfold yy;refine Classical.byContradiction fun hc=>q ?_;simp only[Bool.or_eq_true,not_or,Bool.not_eq_true,bne_eq_false_iff_eq,Bool.not_eq_false',decide_eq_true_eq] at hc;obtain⟨⟨⟨⟨⟨q1,q2⟩,q3⟩,q4⟩,q5⟩,q6⟩:=hc;exact⟨q1,q2,q3,q4,q5,q6⟩
theorem mZ (l:List Rcd) (i:Nat) (hi:i<l.length) (A:Option Addr) (c:Nat) (w:World) (hr:Rd w w.heap.size A (l.flatMap bA)) (hl:l.length≤1000) (hc:l.length≤c) (hv:VldH l i) (hx:∀x∈l,FewE x.e) :
 Calls Tryz.prog 108 #[.slice A l.length c,.int .i64 (i:Nat)] w fun e w'=>e=.returned (.int .i64 (w4 l i l[i].e))∧Below w.heap.size w w':=by
 obtain⟨b,o,rfl,hB,_⟩:=hr.opened (aK aB aq ab);have hxi:=hx _ (List.getElem_mem hi);have hfst:=fm (l:=l) ab;obtain⟨E,hE⟩:∃E,E=w4 l i l[i].e:=⟨_,rfl⟩;rw[←hE];unfold w4 at hE;have hgap:=B3 l i l[i].e.t l[i].e.p;have hlst:=Aq l i l[i].e.t;have hund:=zW l i l[i].e.t l[i].e.p;simp only[tZ] at hgap
 have hlti:(l.take i).length=i:=by rw[List.length_take];omega
 have hrt:Rd w w.heap.size (some ⟨b,o,none⟩) ((l.take i).flatMap bA):=hr.takeF aB i;refine al (N:=190) Tryz.func108 rfl rfl rfl (fun _ Z=>?_);have U:=St.init w;refine GO 6 ?_;intro _ Z;apply eS Z (fun _=>False) [] [(10,143)] [false,false,false,false,false,false,false,false,false,true,true] _ aa bQ
 case h=>
  refine GO 1 ?_;intro _ h2;refine GO 1 ?_;intro _ Z;refine qv Z (fun X hX=>au (i:=i) (sz:=14) Tryz.underlying41 aa (Z.ev rfl) (Z.ev rfl) ab ab rfl) fun _ Z=>?_;refine qv Z (fun X hX=>fy 1 (Z.ev rfl)) fun _ Z=>?_;refine qv (v:=cY l[i].e) Z (fun X hX=>ai aa aa (Z.ev rfl) (el ((U.grow (Grw.below hX)).rd0 hr) hi)) fun _ Z=>?_;refine GO 1 ?_;intro _ Z;refine qv Z (fun X hX=>au (i:=0) (sz:=14) Tryz.underlying41 aa (Z.ev rfl) (Z.ev rfl) ab ab rfl) fun _ Z=>?_;refine qv Z (fun X hX=>fy 0 (Z.ev rfl)) fun _ Z=>?_;refine qv Z (fun X hX=>aw (v':=.int .i64 (cX l)) (congrArg _ hfst.symm) (lx (Z.ev rfl) ((aW aB ((U.grow (Grw.below hX)).rd0 hr) (show 0<l.length by omega)) 0 _ rfl))) fun _ Z=>?_;refine av ?_;apply ec (O:=(fun _=>False)) (k:=9) (deps:=[]) (R:=NewAny _ 13 _) Z rfl rfl rfl bQ NewAny.stable bQ (wC NewAny.newT)
  case hx=>exact fun X hX hΦ=>kD (eb (z:=.agg #[.int .i64 0,.int .i64 0,.int .i64 0,.int .i64 0,.int .i64 0,.bool false,.int .i64 0,.int .i64 0,.int .i64 0,.int .i64 0,.string ⟨#[]⟩,.string ⟨#[]⟩,.string ⟨#[]⟩]) aa) hX.size rfl
  intro v5 _ Z;apply gm (k:=10) (deps:=[9]) (kx:=9) (x:=5) (y:=19) (Y:=p3 _) Z rfl ⟨rfl,rfl⟩ rfl bQ ⟨rfl,rfl⟩ rfl gC rfl rfl (n:=13) aa bQ
  case hx=>
   intro X hX hΦ;exact⟨(bF (k:=9) hΦ rfl rfl),rfl,rfl⟩
  intro vs10;refine iw (O:=(fun _=>False)) bQ fun _ Ql Qm=>?_;obtain⟨b5,rfl,Jg,qb5⟩:=StoY.val (v:=vs10) Z rfl (ba Qm (k:=10) rfl);have U:=U.add (Grw.below Ql) (e:=.box _ _ _) qb5 (fun b hb=>by cases hb;exact⟨Jg,Box.lt qb5⟩);refine GO 11 ?_;intro _ Z;refine ak (Z.ev rfl) (fun Qn=>?_) (fun Qn=>?_)
  ·
   rw[if_pos (by simpa using Qn)] at hE;unfold Ce at hE;refine GO 7 ?_;intro _ Z;apply bm Z U 30 rfl 4 34
   case hf=>
    intro Qo;refine GO 4 ?_;intro _ Z;exact ae ⟨Z.midE 3,U⟩
   case ht=>
    intro Qo;refine GO 4 ?_;intro _ Z;exact ae ⟨Z.midE 3,U⟩
   case h=>
    rintro a29 Jn ⟨Jc,Jd⟩
    refine ae (ag ?_);refine ak (Jc.ev rfl) (fun Qp=>?_) (fun Qp=>?_)
    ·
     rw[if_pos (by simpa using Qp)] at hE;refine GO 8 ?_;intro _ Z;refine aD Z rfl rfl ?_;exact⟨by first | (rw[hE];done) | (rw[hE];rfl),Jd.below⟩
    ·
     rw[if_neg (by simpa using Qp)] at hE;refine wp_skip (ag (ah (ao ?_)));refine vf Jc 12 12 fun _ Z=>?_;refine GO 1 ?_;intro _ Z;refine cO Z (wn rfl) (ax a8 (Z.evs rfl) rfl) rfl rfl Jd (pY (bl l[i].e.d) _ hxi.d) fun p38 _ _ Z U=>?_;refine GO 1 ?_;intro _ Z;refine sv (v:=cv (cM (bl l[i].e.d)) p38.1 p38.2.1 p38.2.2.1 p38.2.2.2) Z (bD (Z.ev rfl) rfl) fun _ Z=>?_;refine GO 1 ?_;intro _ Z;refine na (.agg #[.slice none 0 0,.slice none 0 0]) Z rfl U fun b7 _ _ Jo Z U=>?_;refine sw Z U 0 fun _ U=>?_;refine GO 11 ?_;intro _ Z;refine aD Z rfl rfl ?_;exact⟨by first | (rw[hE];done) | (rw[hE];rfl),U.below⟩
  ·
   rw[if_neg (by simpa using Qn)] at hE;refine GO 10 ?_;intro _ Z;refine ak (Z.ev rfl) (fun Qq=>?_) (fun Qq=>?_)
   ·
    rw[if_pos (by simpa using Qq)] at hE;refine GO 7 ?_;intro _ Z;refine aD Z rfl rfl ?_;exact⟨by first | (rw[hE];done) | (rw[hE];rfl),U.below⟩
   ·
    rw[if_neg (by simpa using Qq)] at hE;unfold yJ at hE;refine GO 6 ?_;intro _ Z;refine cE Z rfl U (lB l i hi _ c _ (U.rd0 hr) ab) fun _ _ Z U=>?_;refine GO 8 ?_;intro _ Z;apply bm (x:=dD l (cF l i l[i].e.t).toNat==4) Z U 50 rfl 8 58
    case hf=>
     intro Zv;obtain⟨k,hki,hbk,hbh⟩:=gj (l:=l) (i:=i) (t:=l[i].e.t) (by have:=of_decide_eq_false Zv;omega)
     have hkl:k<l.length:=by omega
     have hkk:dD l (cF l i l[i].e.t).toNat=l[k].e.k:=by rw[hbk];exact gi hkl
     refine GO 2 ?_;intro _ Z;refine sy Z (au (i:=k) (sz:=14) Tryz.underlying41 aa (Z.ev rfl) (Z.ev rfl) ab ab rfl) fun _ Z=>?_;refine sy Z (fy 1 (Z.ev rfl)) fun _ Z=>?_;refine sy Z (fy 0 (Z.ev rfl)) fun _ Z=>?_;refine sy Z (lx (Z.ev rfl) ((aW aB (U.rd0 hr) hkl) 1 _ rfl)) fun _ Z=>?_;refine sy Z (aw (v':=.bool (dD l (cF l i l[i].e.t).toNat==4)) (by rw[hkk]) (dE (Z.ev rfl) (Z.ev rfl))) fun _ Z=>?_;refine GO 1 ?_;intro _ Z;exact ae ⟨Z.midE 7,U⟩
    case ht=>
     intro Zv;refine GO 8 ?_;intro _ Z;exact ae ⟨Z.midE 7,U⟩
    case h=>
     rintro a69 Jp ⟨Jq,Qr⟩
     refine GO 11 ?_;intro _ Z;apply aZ Z Qr 62 rfl 5 67
     case ht=>
      intro Qs;refine GO 5 ?_;intro _ Z;exact ae ⟨Z.midE 4,Qr⟩
     case hf=>
      intro Qs;refine GO 5 ?_;intro _ Z;exact ae ⟨Z.midE 4,Qr⟩
     case h=>
      rintro a84 Jr ⟨Js,Qt⟩
      refine GO 1 ?_;intro _ Z;apply aZ Z Qt 68 rfl 4 72
      case ht=>
       intro Qu;refine GO 4 ?_;intro _ Z;exact ae ⟨Z.midE 3,Qt⟩
      case hf=>
       intro Qu;refine GO 4 ?_;intro _ Z;exact ae ⟨Z.midE 3,Qt⟩
      case h=>
       rintro a94 Jt ⟨Ju,Zw⟩
       refine GO 3 ?_;intro _ Zl;replace Zl:=(Zl.re bz:Has _ _ _ [(59,_),(10,_),(9,_),(6,_),(5,_),(4,_),(0,_),(1,_)]);refine dJ Zl Zw [(59,.bool (kp l (bj l l[i].e.t i) l[i].e.p))] [10,9,6,5,4,0,1] ?_ (fun _ _ Z Zx=>?_)
       ·
        refine ak (Zl.ev rfl) (fun Zy=>?_) (fun Zy=>?_)
        ·
         refine wp_skip (ag ?_)
         have hg:kp l (bj l l[i].e.t i) l[i].e.p=true:=by rw[hgap,Zy];rfl
         replace Zl:=Has.also Zl (t:=59) (v:=.bool (kp l (bj l l[i].e.t i) l[i].e.p)) (by rw[hg];exact congrArg (fun b=>some (Value.bool b)) Zy);exact⟨Zl.re bz,Zw⟩
        ·
         refine GO 5 ?_;intro _ Z;apply aZ Z Zw 75 rfl 2 77
         case ht=>
          intro Qv;refine GO 2 ?_;intro _ Z;exact ae ⟨Z.midE 1,Zw⟩
         case hf=>
          intro Qv;refine GO 2 ?_;intro _ Z;exact ae ⟨Z.midE 1,Zw⟩
         case h=>
          rintro a104 Jh ⟨Ji,Zm⟩
          refine GO 1 ?_;intro _ Z;apply aZ Z Zm 78 rfl 4 82
          case ht=>
           intro Qw;refine GO 4 ?_;intro _ Z;exact ae ⟨Z.midE 3,Zm⟩
          case hf=>
           intro Qw;refine GO 4 ?_;intro _ Z;exact ae ⟨Z.midE 3,Zm⟩
          case h=>
           rintro a114 Jj ⟨Jk,Zn⟩
           refine GO 3 ?_;intro _ Z;refine ak (Z.ev rfl) (fun Qk=>?_) (fun Qk=>?_)
           ·
            refine wp_skip (ag ?_)
            have hg:kp l (bj l l[i].e.t i) l[i].e.p=true:=by rw[hgap,Zy,Qk];rfl
            replace Z:=Has.also Z (t:=59) (v:=.bool (kp l (bj l l[i].e.t i) l[i].e.p)) (by rw[hg];exact congrArg (fun b=>some (Value.bool b)) Qk);exact⟨Z.re bz,Zn⟩
           ·
            apply aH Z (eZ 12) _ aa
            case h=>
             refine GO 3 ?_;intro _ Z;apply iF (x:=l[i].e.p != je l (cF l i l[i].e.t).toNat) Z 85 rfl 9 94
             case ht=>
              intro Zz;obtain⟨k,hki,hbk,hbh,_⟩:=lf (l:=l) (i:=i) (t:=l[i].e.t) ((Bool.not_eq_true' _).mp Zz)
              have hkl:k<l.length:=by omega
              have hkk:je l (cF l i l[i].e.t).toNat=l[k].l:=by rw[hbk];exact mQ hkl
              refine GO 4 ?_;intro _ Z;refine qy Z (fun X hX=>(au (i:=k) (sz:=14) Tryz.underlying41 aa (Z.ev rfl) (Z.ev rfl) ab ab rfl)) fun _ Z=>?_;refine qy Z (fun X hX=>(fy 0 (Z.ev rfl))) fun _ Z=>?_;refine qy Z (fun X hX=>(lx (Z.ev rfl) ((aW aB ((Zn.grow hX).rd0 hr) hkl) 0 _ rfl))) fun _ Z=>?_;refine qy Z (fun X hX=>(aw (v':=.bool (l[i].e.p != je l (cF l i l[i].e.t).toNat)) (by rw[hkk]) (iE (Z.ev rfl) (Z.ev rfl)))) fun _ Z=>?_;refine GO 1 ?_;intro _ Z;exact av (Z.midE 8)
             case hf=>
              intro Zz;refine GO 9 ?_;intro _ Z;exact av (Z.midE 8)
             case h=>
              intro _ Z;refine av ?_;refine aP fun _ Qa Je=>?_;have U:=Zn.grow Qa;refine GO 3 ?_;intro _ Z
              have hg:kp l (bj l l[i].e.t i) l[i].e.p=(!(decide (cF l i l[i].e.t<0)||(dD l (cF l i l[i].e.t).toNat==4))&&(l[i].e.p != je l (cF l i l[i].e.t).toNat)):=by rw[hgap,Zy,Qk];rfl
              replace Z:=Has.also Z (t:=59) (v:=.bool (kp l (bj l l[i].e.t i) l[i].e.p)) (by rw[hg];rfl);exact⟨Z.re bz,U⟩
            case hB=>kernel_rfl
            case hst=>rfl
       ·
        refine ag ?_;refine ak (Z.ev rfl) (fun Qx=>?_) (fun Qx=>?_)
        ·
         rw[if_pos Qx] at hE;refine GO 8 ?_;intro _ Z;refine aD Z rfl rfl ?_;exact⟨by first | (rw[hE];done) | (rw[hE];rfl),Zx.below⟩
        ·
         rw[if_neg (by rw[Qx];decide)] at hE;refine GO 15 ?_;intro _ Za;replace Za:=(Za.re bz:Has _ _ _ [(96,_),(11,_),(10,_),(9,_),(6,_),(5,_),(4,_),(0,_),(1,_)]);refine dJ Za Zx [(11,.int .i64 (cm l (bj l l[i].e.t i)))] [10,9,6,5,4,0,1] ?_ (fun _ _ Z Ze=>?_)
         ·
          refine ak (Za.ev rfl) (fun Qy=>?_) (fun Qy=>?_)
          ·
           have hfr:tZ l (cF l i l[i].e.t)=false:=(Bool.not_eq_true' _).mp Qy;obtain⟨k,hki,hbk,hbh,_⟩:=lf (l:=l) (i:=i) (t:=l[i].e.t) hfr
           have hkl:k<l.length:=by omega
           refine GO 3 ?_;intro _ Z;refine sv Z (au (i:=k) (sz:=14) Tryz.underlying41 aa (Z.ev rfl) (Z.ev rfl) ab ab rfl) fun _ Z=>?_;refine sv Z (fy 1 (Z.ev rfl)) fun _ Z=>?_;refine sv Z (fy 0 (Z.ev rfl)) fun _ Z=>?_;refine sv Z (lx (Z.ev rfl) ((aW aB (Zx.rd0 hr) hkl) 1 _ rfl)) fun _ Z=>?_;refine GO 3 ?_;intro _ Z
           have hq:cm l (bj l l[i].e.t i)=l[k].e.k:=by rw[hlst,hfr,hbk,Int.toNat_natCast,if_neg aq,gi hkl]
           replace Z:=Has.also Z (t:=11) (v:=.int .i64 (cm l (bj l l[i].e.t i))) (by rw[hq];rfl);exact⟨Z.re bz,Zx⟩
          ·
           have hfr:tZ l (cF l i l[i].e.t)=true:=(Bool.not_eq_false' _).mp Qy;refine wp_skip (ag ?_)
           have hq:cm l (bj l l[i].e.t i)=0:=by rw[hlst,hfr];rfl
           replace Za:=Has.also Za (t:=11) (v:=.int .i64 (cm l (bj l l[i].e.t i))) (by rw[hq];rfl);exact⟨Za.re bz,Zx⟩
         ·
          refine GO 14 ?_;intro _ Zi;replace Zi:=(Zi.re bz:Has _ _ _ [(104,_),(103,_),(10,_),(9,_),(6,_),(5,_),(4,_),(0,_),(1,_)]);refine kf (F:=¬(cm l (bj l l[i].e.t i)=2∧l[i].e.k≠4)∧¬((cm l (bj l l[i].e.t i)=3∨cm l (bj l l[i].e.t i)=1)∧l[i].e.k≠1∧l[i].e.k≠4)) Zi Ze [] [10,9,6,5,0,1] ?_ (fun _ _ Z Zf hst=>?_)
          ·
           refine ak (Zi.ev rfl) (fun Qz=>?_) (fun Qz=>?_)
           ·
            have h2:cm l (bj l l[i].e.t i)=2:=by simpa using Qz
            refine GO 7 ?_;intro _ Z;refine ak (Z.ev rfl) (fun Ja=>?_) (fun Ja=>?_)
            ·
             rw[if_pos ⟨h2,by simpa using Ja⟩] at hE;refine GO 9 ?_;intro _ Z;refine aD Z rfl rfl ?_;exact⟨by first | (rw[hE];done) | (rw[hE];rfl),Ze.below⟩
            ·
             refine wp_skip (ag ?_);have hst:¬(cm l (bj l l[i].e.t i)=2∧l[i].e.k≠4)∧¬((cm l (bj l l[i].e.t i)=3∨cm l (bj l l[i].e.t i)=1)∧l[i].e.k≠1∧l[i].e.k≠4):=⟨fun q=>q.2 (by simpa using Ja),fun q=>by omega⟩;exact⟨Z.re bz,Ze,hst⟩
           ·
            have h2:cm l (bj l l[i].e.t i)≠2:=by simpa using Qz
            refine GO 7 ?_;intro _ Zb;replace Zb:=(Zb.re bz:Has _ _ _ [(109,_),(103,_),(10,_),(9,_),(6,_),(5,_),(4,_),(0,_),(1,_)]);refine dJ Zb Ze [(109,.bool (cm l (bj l l[i].e.t i)==3||cm l (bj l l[i].e.t i)==1))] [10,9,6,5,4,0,1] ?_ (fun _ _ Z U=>?_)
            ·
             refine ak (Zb.ev rfl) (fun Jb=>?_) (fun Jb=>?_)
             ·
              refine wp_skip (ag ?_);replace Zb:=Has.also Zb (t:=109) (v:=.bool (cm l (bj l l[i].e.t i)==3||cm l (bj l l[i].e.t i)==1)) (by rw[Jb];rfl);exact⟨Zb.re bz,Ze⟩
             ·
              refine GO 5 ?_;intro _ Z;replace Z:=Has.also Z (t:=109) (v:=.bool (cm l (bj l l[i].e.t i)==3||cm l (bj l l[i].e.t i)==1)) (by rw[Jb];rfl);exact⟨Z.re bz,Ze⟩
            ·
             refine ag ?_;refine ak (Z.ev rfl) (fun Zg=>?_) (fun Zg=>?_)
             ·
              refine GO 6 ?_;intro _ Z;apply aZ Z U 115 rfl 4 119
              case ht=>
               intro Qb;refine GO 4 ?_;intro _ Z;exact ae ⟨Z.midE 3,U⟩
              case hf=>
               intro Qb;refine GO 4 ?_;intro _ Z;exact ae ⟨Z.midE 3,U⟩
              case h=>
               rintro a177 Jl ⟨Qc,Qd⟩
               refine ae (ag ?_);refine ak (Qc.ev rfl) (fun Zj=>?_) (fun Zj=>?_)
               ·
                rw[if_neg (fun q=>h2 q.1),if_pos ⟨by simpa using Zg,by simpa using Zj⟩] at hE;refine GO 9 ?_;intro _ Z;refine aD Z rfl rfl ?_;exact⟨by first | (rw[hE];done) | (rw[hE];rfl),Qd.below⟩
               ·
                refine wp_skip (ag ?_)
                have hst:¬(cm l (bj l l[i].e.t i)=2∧l[i].e.k≠4)∧¬((cm l (bj l l[i].e.t i)=3∨cm l (bj l l[i].e.t i)=1)∧l[i].e.k≠1∧l[i].e.k≠4):=⟨fun q=>h2 q.1,fun q=>by
                 rw[show(l[i].e.k != 1)=true by simpa using q.2.1,show(l[i].e.k != 4)=true by simpa using q.2.2] at Zj
                 cases Zj⟩
                exact⟨Qc.re bz,Qd,hst⟩
             ·
              refine wp_skip (ag ?_)
              have hst:¬(cm l (bj l l[i].e.t i)=2∧l[i].e.k≠4)∧¬((cm l (bj l l[i].e.t i)=3∨cm l (bj l l[i].e.t i)=1)∧l[i].e.k≠1∧l[i].e.k≠4):=⟨fun q=>h2 q.1,fun q=>by
               have:=q.1;simp only[Bool.or_eq_false_iff,beq_eq_false_iff_ne] at Zg;rcases this with h | h
               · exact Zg.1 h
               · exact Zg.2 h⟩
              exact⟨Z.re bz,U,hst⟩
          ·
           rw[if_neg hst.1,if_neg hst.2] at hE;refine GO 10 ?_;intro _ Z;refine ak (Z.ev rfl) (fun Zo=>?_) (fun Zo=>?_)
           ·
            rw[if_pos (by simpa using Zo)] at hE;refine GO 7 ?_;intro _ Z;refine aD Z rfl rfl ?_;exact⟨by first | (rw[hE];done) | (rw[hE];rfl),Zf.below⟩
           ·
            rw[if_neg (by simpa using Zo)] at hE;refine GO 14 ?_;intro _ Zk;replace Zk:=(Zk.re bz:Has _ _ _ [(124,_),(12,_),(9,_),(6,_),(5,_),(0,_),(1,_)]);refine dJ Zk Zf [(12,.int .i64 (jY l (bj l l[i].e.t i) l[i].e.p))] [6,5,0,1] ?_ (fun _ _ Z Zh=>?_)
            ·
             refine ak (Zk.ev rfl) (fun Zp=>?_) (fun Zp=>?_)
             ·
              have hfr:tZ l (cF l i l[i].e.t)=false:=(Bool.not_eq_true' _).mp Zp;obtain⟨k,hki,hbk,hbh,_⟩:=lf (l:=l) (i:=i) (t:=l[i].e.t) hfr
              have hkl:k<l.length:=by omega
              refine GO 2 ?_;intro _ Z;refine sv Z (aw (v':=.int .i64 (k:Nat)) (by rw[hbk]) (bc (Z.ev rfl))) fun _ Z=>?_;refine cE Z rfl Zf (wM l k hkl _ c _ (Zf.rd0 hr) ab) fun _ _ Z U=>?_;refine GO 3 ?_;intro _ Z
              have hq:jY l (bj l l[i].e.t i) l[i].e.p=gN l k:=by rw[hund,hfr,hbk,Int.toNat_natCast,if_neg aq]
              replace Z:=Has.also Z (t:=12) (v:=.int .i64 (jY l (bj l l[i].e.t i) l[i].e.p)) (by rw[hq];rfl);exact⟨Z.re bz,U⟩
             ·
              have hfr:tZ l (cF l i l[i].e.t)=true:=(Bool.not_eq_false' _).mp Zp;refine GO 7 ?_;intro _ Z;refine ak (Z.ev rfl) (fun Zq=>?_) (fun Zq=>?_)
              ·
               refine GO 4 ?_;intro _ Z
               have hq:jY l (bj l l[i].e.t i) l[i].e.p=0:=by rw[hund,hfr,if_pos rfl,if_pos (by simpa using Zq)]
               replace Z:=Has.also Z (t:=12) (v:=.int .i64 (jY l (bj l l[i].e.t i) l[i].e.p)) (by rw[hq];rfl);exact⟨Z.re bz,Zf⟩
              ·
               refine wp_skip (ag ?_)
               have hq:jY l (bj l l[i].e.t i) l[i].e.p = -1:=by rw[hund,hfr,if_pos rfl,if_neg (by simpa using Zq)]
               replace Z:=Has.also Z (t:=12) (v:=.int .i64 (jY l (bj l l[i].e.t i) l[i].e.p)) (by rw[hq];rfl);exact⟨Z.re bz,Zf⟩
            ·
             clear hund;generalize jY l (bj l l[i].e.t i) l[i].e.p=n at Z hE;refine GO 8 ?_;intro _ Z;refine ak (Z.ev rfl) (fun Zr=>?_) (fun Zr=>?_)
             ·
              have hn0:n=0:=by simpa using Zr
              have hE:E=13:=by rw[hE];unfold kM;rw[if_pos hn0]
              refine GO 7 ?_;intro _ Z;refine aD Z rfl rfl ?_;exact⟨by first | (rw[hE];done) | (rw[hE];rfl),Zh.below⟩
             ·
              have hn0:n≠0:=by simpa using Zr
              refine GO 14 ?_;intro _ Zc;replace Zc:=(Zc.re bz:Has _ _ _ [(134,_),(13,_),(12,_),(6,_),(5,_),(0,_),(1,_)]);refine dJ Zc Zh [(13,.int .i64 (oP Rcd.l n (l.take i) 0))] [6,5,0] ?_ (fun _ _ Z U=>?_)
              ·
               refine ak (Zc.ev rfl) (fun Qe=>?_) (fun Qe=>?_)
               ·
                refine GO 3 ?_;intro _ Z;refine sv Z (gx (l:=0) (h:=i) (sz:=14) Tryz.underlying41 aa (Z.ev rfl) rfl (Z.ev rfl) ab ab (.inr rfl) rfl) fun _ Z=>?_;refine GO 1 ?_;intro _ Z;refine cE Z rfl Zh (hlti▸Be (l.take i) n _ c _ (Zh.rd0 hrt) ab) fun _ _ Z U=>?_;refine GO 3 ?_;intro _ Z;exact⟨Z.re bz,U⟩
               ·
                refine wp_skip (ag ?_)
                have hn1:n = -1:=by simpa using Qe
                replace Zc:=Has.also Zc (t:=13) (v:=.int .i64 (oP Rcd.l n (l.take i) 0)) (by rw[B4 hv ab];rfl);exact⟨Zc.re bz,Zh⟩
              ·
               refine GO 8 ?_;intro _ Z;refine ak (Z.ev rfl) (fun Zs=>?_) (fun Zs=>?_)
               ·
                have hnf:dX (l.take i) n=none:=qH (of_decide_eq_true Zs);unfold kM at hE;rw[if_neg hn0,hnf] at hE;simp only[] at hE;refine GO 9 ?_;intro _ Z;refine ak (Z.ev rfl) (fun Zt=>?_) (fun Zt=>?_)
                ·
                 rw[if_pos (by have:=of_decide_eq_true Zt;omega)] at hE;refine GO 8 ?_;intro _ Z;refine aD Z rfl rfl ?_;exact⟨by first | (rw[hE];done) | (rw[hE];rfl),U.below⟩
                ·
                 rw[if_neg (by have:=of_decide_eq_false Zt;omega)] at hE;refine GO 9 ?_;intro _ Z;refine aD Z rfl rfl ?_;exact⟨by first | (rw[hE];done) | (rw[hE];rfl),U.below⟩
               ·
                obtain⟨k,hk,hik,_,hfk⟩:=sA (of_decide_eq_false Zs);rw[Nat.zero_add] at hik
                have hki:k<i:=by omega
                have hkl:k<l.length:=by omega
                have hge:(l.take i)[k]=l[k]:=List.getElem_take ..;have hE:=hE.trans (yo (u:=l[k]) hn0 (hge▸hfk));have hoE:e8 l[k].e.o=0:=ug (hv.e0 hki).2.2;refine GO 6 ?_;intro _ Z;refine sv Z (au (i:=k) (sz:=14) Tryz.underlying41 aa (Z.ev rfl) (Z.ev rfl) ab ab rfl) fun _ Z=>?_;refine sv Z (fy 1 (Z.ev rfl)) fun _ Z=>?_;refine sv (v:=cY l[k].e) Z (ai aa aa (Z.ev rfl) (el (U.rd0 hr) hkl)) fun _ Z=>?_;refine na (.agg #[.int .i64 0,.int .i64 0,.int .i64 0,.int .i64 0,.int .i64 0,.bool false,.int .i64 0,.int .i64 0,.int .i64 0,.int .i64 0,.string ⟨#[]⟩,.string ⟨#[]⟩,.string ⟨#[]⟩]) Z rfl U fun b14 _ _ Jm Z U=>?_;refine sw Z U 0 fun _ U=>?_;refine ae (ag (ah (ah ?_)));apply aH Z (eZ 38) _ aa
                case h=>
                 refine GO 4 ?_;intro _ Z;apply fa (x:=l[k].e.t != l[i].e.t) Z 154 rfl 6 160
                 case hf=>
                  intro Qf;refine GO 6 ?_;intro _ Z;exact av (Z.midE 5)
                 case ht=>
                  intro Qf;refine GO 6 ?_;intro _ Z;exact av (Z.midE 5)
                 case h=>
                  intro _ Z;refine GO 1 ?_;intro _ Z;apply fa (x:=l[i].e.x != l[k].e.p) Z 161 rfl 6 167
                  case hf=>
                   intro Qg;refine GO 6 ?_;intro _ Z;exact av (Z.midE 5)
                  case ht=>
                   intro Qg;refine GO 6 ?_;intro _ Z;exact av (Z.midE 5)
                  case h=>
                   intro _ Z;refine GO 1 ?_;intro _ Z;apply fa (x:=l[i].e.g != l[k].e.g) Z 168 rfl 6 174
                   case hf=>
                    intro Qh;refine GO 6 ?_;intro _ Z;exact av (Z.midE 5)
                   case ht=>
                    intro Qh;refine GO 6 ?_;intro _ Z;exact av (Z.midE 5)
                   case h=>
                    intro _ Z;refine GO 1 ?_;intro _ Z;apply fa (x:=l[i].e.f != l[k].e.f) Z 175 rfl 6 181
                    case hf=>
                     intro Qi;refine GO 4 ?_;intro _ Z;refine qy Z (fun X hX=>(uD Tryz.underlying4 (Z.ev rfl) (Z.ev rfl))) fun _ Z=>?_;refine GO 1 ?_;intro _ Z;exact av (Z.midE 5)
                    case ht=>
                     intro Qi;refine GO 6 ?_;intro _ Z;exact av (Z.midE 5)
                    case h=>
                     intro _ Z;refine GO 1 ?_;intro _ Z;apply pE Z 182 rfl 6 188
                     case ht=>
                      intro Zd;refine GO 6 ?_;intro _ Z;exact av ⟨_,Z.midE 5⟩
                     case hf=>
                      intro Zd;refine GO 1 ?_;intro _ Z;refine iP (v:=fC l[i].e.o) Z (aj Z _ rfl rfl rfl Zd) rfl rfl (fun X hX=>(ai aa aa (Z.ev rfl) ((U.grow hX).cellsOf (i:=1) rfl 6 6))) fun _ Z=>?_;refine GO 1 ?_;intro _ Z;refine iP (v:=fC l[k].e.o) Z (aj Z _ rfl rfl rfl Zd) rfl rfl (fun X hX=>(ai aa aa (Z.ev rfl) ((U.grow hX).cellsOf (i:=0) rfl 6 6))) fun _ Z=>?_;refine mL Z (aj Z _ rfl rfl rfl Zd) rfl rfl (fun X=>(ax a8 (Z.evs rfl) rfl)) (fun X hX=>n5 l[k].e.o _ hoE) fun _ Z=>?_;refine qy Z (fun X hX=>(aw (v':=.bool (!(decide (l[i].e.o=fR l[k].e.o)))) (by rw[←zA]) (l4 (ks:=[.i .i64,.i .i64,.i .i64,.i .i64,.s,.s]) aa Tryz.underlying141 aa (Z.ev rfl) (Z.ev rfl) rfl rfl))) fun _ Z=>?_;exact av (Z.midE 5)
                     case h=>
                      intro v295 _ hg188 Z;refine av ?_;refine aP fun _ Qj Jf=>?_;have U:=U.grow Qj;refine sv Z (jw (Z.ev rfl) (Z.ev rfl) (Z.ev rfl) hg188) fun _ Z=>?_;refine ae (ag ?_);refine ak (Z.ev rfl) (fun Zu=>?_) (fun Zu=>?_)
                      ·
                       rw[if_pos (show yy l[i].e l[k].e=true from Zu)] at hE;refine GO 7 ?_;intro _ Z;refine aD Z rfl rfl ?_;exact⟨by first | (rw[hE];done) | (rw[hE];rfl),U.below⟩
                      ·
                       rw[if_neg (by rw[show yy l[i].e l[k].e=false from Zu];decide)] at hE;refine GO 8 ?_;intro _ Z;refine aD Z rfl rfl ?_;exact⟨by first | (rw[hE];done) | (rw[hE];rfl),U.below⟩
                case hB=>kernel_rfl
                case hst=>rfl
 case hB=>kernel_rfl
theorem zj {l:List Rcd} {j:Nat} (hj:j<l.length) (h:bf l[j].l 1 2147483647=false):dk l j (bE l j) l[j]=2:=by
 have h0:dI l j l[j]=2:=by unfold dI;rw[h];rfl
 unfold dk;rw[h0];rfl
theorem xt {l:List Rcd} {j:Nat} (hj:j<l.length) (h:bf l[j].l 1 2147483647=true) {y:Rcd} (hy:cH l j=some y) (hle:l[j].l≤y.l):dk l j (bE l j) l[j]=9:=by
 have h0:dI l j l[j]=9:=by unfold dI;rw[h,hy];simp only[];rw[decide_eq_false ab];rfl
 unfold dk;rw[h0];rfl
theorem yK {l:List Rcd} {j:Nat} (hj:j<l.length) (h:bf l[j].l 1 2147483647=true) (hy:∀y,cH l j=some y→y.l<l[j].l):dI l j l[j]=dF l[j].e:=by
 unfold dI;rw[h]
 cases hb:cH l j with
 | none=>
  show ar [0,0,dF l[j].e]=_
  by_cases q:dF l[j].e=0<;>simp[ar,q]
 | some y=>
  simp only[];rw[decide_eq_true (hy y hb)];show ar [0,0,dF l[j].e]=_
  by_cases q:dF l[j].e=0<;>simp[ar,q]
theorem fV (l:List Rcd) (A:Option Addr) (c:Nat) (w:World) (hr:Rd w w.heap.size A (l.flatMap bA)) (hl:l.length≤1000) (hc:l.length≤c) (hx:∀x∈l,FewE x.e) :
 Calls Tryz.prog 45 #[.slice A l.length c] w fun e w'=>e=.returned (.tuple #[.int .i64 (dW l).1,.int .i64 (dW l).2])∧Below w.heap.size w w':=by
 obtain⟨E,hE⟩:∃E,E=dW l:=⟨_,rfl⟩;rw[←hE];unfold dW at hE;refine al (N:=58) Tryz.func45 rfl rfl rfl (fun _ h0=>?_);have Z:=St.init w;refine GO 14 ?_;intro _ Y;refine ak (Y.ev rfl) (fun Zd=>?_) (fun Zd=>?_)
 ·
  rw[if_pos (by have:=of_decide_eq_true Zd;omega)] at hE;refine GO 8 ?_;intro _ Y;refine bC Y rfl rfl rfl ?_;exact⟨by first | (rw[hE];done) | (rw[hE];rfl),Z.below⟩
 ·
  rw[if_neg (by have:=of_decide_eq_false Zd;omega)] at hE;refine GO 9 ?_;intro _ Y;refine aY Y Z [0] (fun (j:Nat)=>[(4,.int .i64 (j:Nat))]) (fun (j:Nat)=>VldH l j) (fun (j:Nat) L=>L) (fun (j:Nat)=>l.length-j) (0) (⟨Nat.zero_le _,fun k _ h=>absurd h (Nat.not_lt_zero _)⟩) bz (Z) ?_;intro j _ _ Za Y Z;refine GO 9 ?_;intro _ Y;refine ak (Y.ev rfl) (fun Ze=>?_) (fun Ze=>?_)
  ·
   have hlt:j<l.length:=by have:=of_decide_eq_true Ze;omega
   have hxj:=hx _ (List.getElem_mem hlt)
   have hhit:dk l j (bE l j) l[j]≠0→E=((j:Int),dk l j (bE l j) l[j]):=fun h0=>by
    rw[hE,cP (fun i x=>dk l i (bE l i) x) l 0 j hlt (fun k hk hkj=>by rw[Nat.zero_add];exact Za.2 k hk hkj) (by rw[Nat.zero_add];exact h0),Nat.zero_add]
   obtain⟨b,o,rfl,hB,_⟩:=hr.opened (aK aB aq ab);refine GO 9 ?_;intro _ Y;refine sv Y (au (i:=j) (sz:=14) Tryz.underlying41 aa (Y.ev rfl) (Y.ev rfl) ab ab rfl) fun _ Y=>?_;refine sv Y (fy 0 (Y.ev rfl)) fun _ Y=>?_;refine sv Y (lx (Y.ev rfl) ((aW aB (Z.rd0 hr) hlt) 0 _ rfl)) fun _ Y=>?_;refine cC Y rfl (a6 _ _ _ _) fun _ Y=>?_;refine GO 3 ?_;intro _ Y;refine ak (Y.ev rfl) (fun Zf=>?_) (fun Zf=>?_)
   ·
    have hbad:bf l[j].l 1 2147483647=false:=by simpa using Zf
    have he:=zj hlt hbad;rw[he] at hhit;have hE:=hhit aq;refine GO 14 ?_;intro _ Y;refine bC Y rfl rfl rfl ?_;exact⟨by first | (rw[hE];done) | (rw[hE];rfl),Z.below⟩
   ·
    have hgood:bf l[j].l 1 2147483647=true:=by simpa using Zf
    refine wp_skip (ag (ah (ah ?_)));apply aH Y (eZ 15) _ aa
    case h=>
     refine GO 3 ?_;intro _ Y;apply ln Y 26 rfl 12 38
     case ht=>
      intro Zb
      have hj0:0<j:=by have:=of_decide_eq_true Zb;omega
      refine GO 2 ?_;intro _ Y;refine qy Y (fun X hX=>(au (i:=j) (sz:=14) Tryz.underlying41 aa (Y.ev rfl) (Y.ev rfl) ab ab rfl)) fun _ Y=>?_;refine qy Y (fun X hX=>(fy 0 (Y.ev rfl))) fun _ Y=>?_;refine qy Y (fun X hX=>(lx (Y.ev rfl) ((aW aB ((Z.grow hX).rd0 hr) hlt) 0 _ rfl))) fun _ Y=>?_;refine GO 3 ?_;intro _ Y;refine qy Y (fun X hX=>(au (i:=j-1) (sz:=14) Tryz.underlying41 aa (Y.ev rfl) (Y.ev rfl) ab ab rfl)) fun _ Y=>?_;refine qy Y (fun X hX=>(fy 0 (Y.ev rfl))) fun _ Y=>?_;refine qy Y (fun X hX=>(lx (Y.ev rfl) ((aW aB ((Z.grow hX).rd0 hr) (show j-1<l.length by omega)) 0 _ rfl))) fun _ Y=>?_;refine qy Y (fun X hX=>(aw (v':=.bool (decide (l[j].l≤((cH l j).getD l[j]).l))) (by rw[dw hj0 hlt,Option.getD_some]) (kW (Y.ev rfl) (Y.ev rfl)))) fun _ Y=>?_;exact av (Y.midE 11)
     case hf=>
      intro Zb;refine GO 12 ?_;intro _ Y;exact av ⟨_,Y.midE 11⟩
     case h=>
      intro v51 _ hg38 Y;refine av ?_;refine aP fun _ Zg Zj=>?_;have Z:=Z.grow Zg;refine sv Y (dQ (Y.ev rfl) (Y.ev rfl) hg38 (Y.ev rfl)) fun _ Y=>?_;refine ae (ag ?_);refine ak (Y.ev rfl) (fun Zc=>?_) (fun Zc=>?_)
      ·
       obtain⟨u1,u2⟩:=Bool.and_eq_true_iff.1 Zc
       have hj0:0<j:=by have:=of_decide_eq_true u1;omega
       rw[dw hj0 hlt] at u2;have he:=xt hlt hgood (dw hj0 hlt) (of_decide_eq_true u2);rw[he] at hhit;have hE:=hhit aq;refine GO 14 ?_;intro _ Y;refine bC Y rfl rfl rfl ?_;exact⟨by first | (rw[hE];done) | (rw[hE];rfl),Z.below⟩
      ·
       have hord:∀y,cH l j=some y→y.l<l[j].l:=fun y hy=>by
        rcases Nat.eq_zero_or_pos j with h0 | h0
        · subst h0;cases hy
        · rw[decide_eq_true (by omega:(j:Int)>0),Bool.true_and,hy] at Zc
          have:=of_decide_eq_false Zc
          change ¬l[j].l≤y.l at this
          omega
       have hr0:=yK hlt hgood hord;refine GO 7 ?_;intro _ Y;refine sv Y (au (i:=j) (sz:=14) Tryz.underlying41 aa (Y.ev rfl) (Y.ev rfl) ab ab rfl) fun _ Y=>?_;refine sv Y (fy 1 (Y.ev rfl)) fun _ Y=>?_;refine sv (v:=cY l[j].e) Y (ai aa aa (Y.ev rfl) (el (Z.rd0 hr) hlt)) fun _ Y=>?_;refine cE Y rfl Z (gZ l[j].e _ hxj.o hxj.n (by have:=hxj.d;unfold maxLen;omega)) fun _ _ Y Z=>?_;refine GO 9 ?_;intro _ Y;refine ak (Y.ev rfl) (fun Zh=>?_) (fun Zh=>?_)
       ·
        have hne:dF l[j].e≠0:=by simpa using Zh
        have he:dk l j (bE l j) l[j]=dF l[j].e:=by unfold dk;rw[hr0,if_pos hne]
        rw[he] at hhit;have hE:=hhit hne;refine GO 15 ?_;intro _ Y;refine bC Y rfl rfl rfl ?_;exact⟨by first | (rw[hE];done) | (rw[hE];rfl),Z.below⟩
       ·
        have hez:dF l[j].e=0:=by simpa using Zh
        have he:=AV hlt Za (hr0.trans hez);rw[he] at hhit;refine GO 6 ?_;intro _ Y;refine cE Y rfl Z (mZ l j hlt _ c _ (Z.rd0 hr) hl hc Za hx) fun _ _ Y Z=>?_;refine GO 9 ?_;intro _ Y;refine ak (Y.ev rfl) (fun Zi=>?_) (fun Zi=>?_)
        ·
         have hE:=hhit (by simpa using Zi);refine GO 14 ?_;intro _ Y;refine bC Y rfl rfl rfl ?_;exact⟨by first | (rw[hE];done) | (rw[hE];rfl),Z.below⟩
        ·
         have hz:dk l j (bE l j) l[j]=0:=by rw[he];simpa using Zi
         refine GO 9 ?_;intro _ Y;exact⟨j+1,ab,⟨hlt,fun k hk hkj=>by rcases Nat.lt_or_eq_of_le (show k≤j by omega) with q | q;exact Za.2 k hk q;subst q;exact hz⟩,Y.re bz,Z⟩
    case hB=>kernel_rfl
    case hst=>rfl
  ·
   have hge:l.length≤j:=by have:=of_decide_eq_false Ze;omega
   have hz0:(cB (fun i x=>dk l i (bE l i) x) 0 l).2=0:=(cu _ _).2 fun k hk=>Za.2 k hk ab;have hE:E=(0,0):=hE.trans (cN _ l 0 fun k hk=>by rw[Nat.zero_add];exact Za.2 k hk ab);refine GO 12 ?_;intro _ Y;refine bC Y rfl rfl rfl ?_;exact⟨by first | (rw[hE];done) | (rw[hE];rfl),Z.below⟩
open Go.RowKit Go.Sort Go.Shelf
end Go.Proofs.YtcfdpfmchchkaaaGreatDoor
