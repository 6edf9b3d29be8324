/- Chapter 22 -/
import Derived.Test.YtcfdpfmchchkaaaGreatDoorRcN0
namespace Go.Proofs.YtcfdpfmchchkaaaGreatDoor
set_option maxHeartbeats 2000000
set_option maxRecDepth 4000
set_option linter.unusedVariables false
set_option linter.unusedSimpArgs false
open Go.RowKit Go.Sort Go.Shelf
def zu (l:List Rcd) (n:Int):Bool:=decide (n<0)||(eW l n.toNat==4)
theorem ov {l:List Rcd} {i:Nat} {t:Int} (h:zu l (dB l i t)=false):∃k,k<i∧dB l i t=(k:Int)∧bP l t i=some k∧eW l k≠4:=by
 unfold zu at h;obtain⟨c,b⟩:=Bool.or_eq_false_iff.1 h;obtain⟨k,e,a,d⟩:=jE (by have:=of_decide_eq_false c;omega:0≤dB l i t);rw[a] at b;exact⟨k,e,a,d,al b⟩
theorem Hi (l:List Rcd) (i:Nat) (t p:Int):mP l (bP l t i) p=(((decide (dB l i t<0)&&decide (p≥ej l))&&(p != 0))||(((decide (dB l i t≥0)&&zu l (dB l i t))&&(p != 0))||(!zu l (dB l i t)&&(p != lA l (dB l i t).toNat)))):=by
 unfold dB zu mP
 cases bP l t i with
 | none=>simp
 | some k=>
  have a:decide ((k:Int)<0)=false:=decide_eq_false ab;have e2:decide ((k:Int)≥0)=true:=decide_eq_true ab;simp only[a,e2,Int.toNat_natCast,Bool.false_and,Bool.false_or,Bool.true_and];by_cases h:eW l k=4
  · rw[if_pos h,show(eW l k==4)=true by simpa using h];simp
  · rw[if_neg h,show(eW l k==4)=false by simpa using h];simp
theorem FG (l:List Rcd) (i:Nat) (t:Int):dd l (bP l t i)=if zu l (dB l i t)=true then 0 else eW l (dB l i t).toNat:=by
 unfold dB zu dd
 cases bP l t i with
 | none=>simp
 | some k=>
  have a:decide ((k:Int)<0)=false:=decide_eq_false ab;simp only[a,Int.toNat_natCast,Bool.false_or,beq_iff_eq]
theorem FV (l:List Rcd) (i:Nat) (t p:Int):mo l (bP l t i) p=if zu l (dB l i t)=true then (if p=0 then 0 else -1) else j8 l (dB l i t).toNat:=by
 unfold dB zu mo
 cases bP l t i with
 | none=>simp
 | some k=>
  have a:decide ((k:Int)<0)=false:=decide_eq_false ab;simp only[a,Int.toNat_natCast,Bool.false_or,beq_iff_eq]
theorem Hp {l:List Rcd} {i:Nat} (c:VldH l i) {n:Int} (d:n≤0):nK Rcd.l n (l.take i) 0 = -1:=mw fun k b=>by
 have a:k<i:=by rw[List.length_take] at b;omega
 have:=(c.e0 a).1;rw[List.getElem_take];omega
def Ck (x u:Lge):Bool:=(((((u.k != 0)||(u.t != x.t))||(x.x != u.p))||(x.g != u.g))||(x.f != u.f))||!(decide (x.o=bO u.o))
theorem Dl {l:List Rcd} {i:Nat} {n:Int} {x:Lge} {u:Rcd} (s:n≠0) (h:cz (l.take i) n=some u):nR l i n x=if Ck x u.e=true then 13 else 0:=by
 unfold nR;rw[if_neg s,h];simp only[];by_cases q:u.e.k=0∧u.e.t=x.t∧x.x=u.e.p∧x.g=u.e.g∧x.f=u.e.f∧x.o=bO u.e.o
 · rw[if_pos q,if_neg]
   obtain⟨m,j,d,a,c,b⟩:=q;unfold Ck;rw[←b];simp[m,j,d,a,c]
 · rw[if_neg q,if_pos]
   unfold Ck;refine Classical.byContradiction fun r=>q ?_;simp only[Bool.or_eq_true,not_or,Bool.not_eq_true,bne_eq_false_iff_eq,Bool.not_eq_false',decide_eq_true_eq] at r;obtain⟨⟨⟨⟨⟨m,j⟩,d⟩,a⟩,c⟩,b⟩:=r;exact⟨m,j,d,a,c,b⟩
theorem qB (l:List Rcd) (i:Nat) (hi:i<l.length) (A:Option Addr) (c:Nat) (w:World) (hr:Rd w w.heap.size A (l.flatMap cB)) (hl:l.length≤1000) (hc:l.length≤c) (hv:VldH l i) (hx:∀x∈l,FewE x.e) :
 bu 108 #[.slice A l.length c,ae (i:Nat)] w (ae (DK l i l[i].e)):=by
 obtain⟨b,o,rfl,hB,_⟩:=hr.opened (aF aI au ab);have Vf:=hx _ (List.getElem_mem hi);have Jy:=iH (l:=l) ab;obtain⟨E,a⟩:∃E,E=DK l i l[i].e:=⟨_,rfl⟩;rw[←a];unfold DK at a;have D:=Hi l i l[i].e.t l[i].e.p;have K:=FG l i l[i].e.t;have C:=FV l i l[i].e.t l[i].e.p;simp only[zu] at D
 have Jv:(l.take i).length=i:=by rw[List.length_take];omega
 have Vb:Rd w w.heap.size (some ⟨b,o,none⟩) ((l.take i).flatMap cB):=hr.takeF aI i;refine an (N:=190) Tryz.func108 rfl rfl rfl (fun _ Z=>?_);have U:=St.init w;refine GO 6 ?_;intro _ Z;apply eG Z (fun _=>False) [] [(10,143)] [false,false,false,false,false,false,false,false,false,true,true] _ aa bG
 case h=>
  refine GO 1 ?_;intro _ W;refine GO 1 ?_;intro _ Z;refine qv Z (fun X m=>ar (i:=i) (sz:=14) cO aa (Z.ev rfl) (Z.ev rfl) ab ab rfl) fun _ Z=>?_;refine qv Z (fun X m=>fy 1 (Z.ev rfl)) fun _ Z=>?_;refine qv (v:=cy l[i].e) Z (fun X m=>ah aa aa (Z.ev rfl) (dQ ((U.grow (Grw.below m)).rd0 hr) hi)) fun _ Z=>?_;refine GO 1 ?_;intro _ Z;refine qv Z (fun X m=>ar (i:=0) (sz:=14) cO aa (Z.ev rfl) (Z.ev rfl) ab ab rfl) fun _ Z=>?_;refine qv Z (fun X m=>fy 0 (Z.ev rfl)) fun _ Z=>?_;refine qv Z (fun X m=>aA (v':=ae (ej l)) (congrArg _ Jy.symm) (lx (Z.ev rfl) ((aL aI ((U.grow (Grw.below m)).rd0 hr) (show 0<l.length by omega)) 0 _ rfl))) fun _ Z=>?_;refine ax ?_;apply cE (O:=(fun _=>False)) (k:=9) (deps:=[]) (R:=NewAny _ 13 _) Z rfl rfl rfl bG NewAny.stable bG (ia NewAny.newT)
  case hx=>exact fun X m hΦ=>kN (dV (z:=.agg sc) aa) m.size rfl
  intro v5 _ Z;apply gF (k:=10) (deps:=[9]) (kx:=9) (x:=5) (y:=19) (Y:=tU _) Z rfl ⟨rfl,rfl⟩ rfl bG ⟨rfl,rfl⟩ rfl jy rfl rfl (n:=13) aa bG
  case hx=>
   intro X m hΦ;exact⟨(aM (k:=9) hΦ rfl rfl),rfl,rfl⟩
  intro Jx;refine iA (O:=(fun _=>False)) bG fun _ Ql Qm=>?_;obtain⟨b5,rfl,Jg,Jw⟩:=StoY.val (v:=Jx) Z rfl (aD Qm (k:=10) rfl);have U:=U.add (Grw.below Ql) (e:=.box _ _ _) Jw (fun b hb=>by cases hb;exact⟨Jg,Box.lt Jw⟩);refine GO 11 ?_;intro _ Z;refine ak (Z.ev rfl) (fun Qn=>?_) (fun Qn=>?_)
  ·
   rw[if_pos (al Qn)] at a;unfold GA at a;refine GO 7 ?_;intro _ Z;apply bI Z U 30 rfl 4 34
   case hf=>
    intro Qo;refine GO 4 ?_;intro _ Z;exact ag ⟨Z.midE 3,U⟩
   case ht=>
    intro Qo;refine GO 4 ?_;intro _ Z;exact ag ⟨Z.midE 3,U⟩
   case h=>
    rintro Vp Jn ⟨Jc,Jd⟩
    refine ag (ai ?_);refine ak (Jc.ev rfl) (fun Qp=>?_) (fun Qp=>?_)
    ·
     rw[if_pos (al Qp)] at a;refine GO 8 ?_;intro _ Z;refine aC Z rfl rfl ?_;exact⟨by first | (rw[a];done) | (rw[a];rfl),Jd.below⟩
    ·
     rw[if_neg (al Qp)] at a;refine wp_skip (ai (aj (aq ?_)));refine vf Jc 12 12 fun _ Z=>?_;refine GO 1 ?_;intro _ Z;refine cT Z (wn rfl) (aw a6 (Z.evs rfl) rfl) rfl rfl Jd (vd (bl l[i].e.d) _ Vf.d) fun I _ _ Z U=>GO 1 ?_;intro _ Z;refine sv (v:=cc (dK (bl l[i].e.d)) I.1 I.2.1 I.2.2.1 I.2.2.2) Z (bN (Z.ev rfl) rfl) fun _ Z=>?_;refine GO 1 ?_;intro _ Z;refine na (.agg gV) Z rfl U fun b7 _ _ Jo Z U=>sw Z U 0 fun _ U=>?_;refine GO 11 ?_;intro _ Z;refine aC Z rfl rfl ?_;exact⟨by first | (rw[a];done) | (rw[a];rfl),U.below⟩
  ·
   rw[if_neg (al Qn)] at a;refine GO 10 ?_;intro _ Z;refine ak (Z.ev rfl) (fun Qq=>?_) (fun Qq=>?_)
   ·
    rw[if_pos (al Qq)] at a;refine GO 7 ?_;intro _ Z;refine aC Z rfl rfl ?_;exact⟨by first | (rw[a];done) | (rw[a];rfl),U.below⟩
   ·
    rw[if_neg (al Qq)] at a;unfold D7 at a;refine GO 6 ?_;intro _ Z;refine cQ Z rfl U (oY l i hi _ c _ (U.rd0 hr) ab) fun _ _ Z U=>?_;refine GO 8 ?_;intro _ Z;apply bI (x:=eW l (dB l i l[i].e.t).toNat==4) Z U 50 rfl 8 58
    case hf=>
     intro Zv;obtain⟨k,G,B,L⟩:=jE (l:=l) (i:=i) (t:=l[i].e.t) (by have:=of_decide_eq_false Zv;omega)
     have j:k<l.length:=by omega
     have P:eW l (dB l i l[i].e.t).toNat=l[k].e.k:=by rw[B];exact jO j
     refine GO 2 ?_;intro _ Z;refine sy Z (ar (i:=k) (sz:=14) cO aa (Z.ev rfl) (Z.ev rfl) ab ab rfl) fun _ Z=>?_;refine sy Z (fy 1 (Z.ev rfl)) fun _ Z=>?_;refine sy Z (fy 0 (Z.ev rfl)) fun _ Z=>?_;refine sy Z (lx (Z.ev rfl) ((aL aI (U.rd0 hr) j) 1 _ rfl)) fun _ Z=>?_;refine sy Z (aA (v':=.bool (eW l (dB l i l[i].e.t).toNat==4)) (by rw[P]) (eV (Z.ev rfl) (Z.ev rfl))) fun _ Z=>?_;refine GO 1 ?_;intro _ Z;exact ag ⟨Z.midE 7,U⟩
    case ht=>
     intro Zv;refine GO 8 ?_;intro _ Z;exact ag ⟨Z.midE 7,U⟩
    case h=>
     rintro Vm Jp ⟨Jq,Qr⟩
     refine GO 11 ?_;intro _ Z;apply a8 Z Qr 62 rfl 5 67
     case ht=>
      intro Qs;refine GO 5 ?_;intro _ Z;exact ag ⟨Z.midE 4,Qr⟩
     case hf=>
      intro Qs;refine GO 5 ?_;intro _ Z;exact ag ⟨Z.midE 4,Qr⟩
     case h=>
      rintro Vk Jr ⟨Js,Qt⟩
      refine GO 1 ?_;intro _ Z;apply a8 Z Qt 68 rfl 4 72
      case ht=>
       intro Qu;refine GO 4 ?_;intro _ Z;exact ag ⟨Z.midE 3,Qt⟩
      case hf=>
       intro Qu;refine GO 4 ?_;intro _ Z;exact ag ⟨Z.midE 3,Qt⟩
      case h=>
       rintro Vo Jt ⟨Ju,Zw⟩
       refine GO 3 ?_;intro _ Q;replace Q:=(Q.re bC:Has _ _ _ [(59,_),(10,_),(9,_),(6,_),(5,_),(4,_),(0,_),(1,_)]);refine dY Q Zw [(59,.bool (mP l (bP l l[i].e.t i) l[i].e.p))] [10,9,6,5,4,0,1] ?_ (fun _ _ Z Zx=>?_)
       ·
        refine ak (Q.ev rfl) (fun Zy=>?_) (fun Zy=>?_)
        ·
         refine wp_skip (ai ?_)
         have hg:mP l (bP l l[i].e.t i) l[i].e.p=true:=by rw[D,Zy];rfl
         replace Q:=Has.also Q (t:=59) (v:=.bool (mP l (bP l l[i].e.t i) l[i].e.p)) (by rw[hg];exact congrArg (fun b=>some (Value.bool b)) Zy);exact⟨Q.re bC,Zw⟩
        ·
         refine GO 5 ?_;intro _ Z;apply a8 Z Zw 75 rfl 2 77
         case ht=>
          intro Qv;refine GO 2 ?_;intro _ Z;exact ag ⟨Z.midE 1,Zw⟩
         case hf=>
          intro Qv;refine GO 2 ?_;intro _ Z;exact ag ⟨Z.midE 1,Zw⟩
         case h=>
          rintro Vi Jh ⟨Ji,Zm⟩
          refine GO 1 ?_;intro _ Z;apply a8 Z Zm 78 rfl 4 82
          case ht=>
           intro Qw;refine GO 4 ?_;intro _ Z;exact ag ⟨Z.midE 3,Zm⟩
          case hf=>
           intro Qw;refine GO 4 ?_;intro _ Z;exact ag ⟨Z.midE 3,Zm⟩
          case h=>
           rintro Vj Jj ⟨Jk,Zn⟩
           refine GO 3 ?_;intro _ Z;refine ak (Z.ev rfl) (fun Qk=>?_) (fun Qk=>?_)
           ·
            refine wp_skip (ai ?_)
            have hg:mP l (bP l l[i].e.t i) l[i].e.p=true:=by rw[D,Zy,Qk];rfl
            replace Z:=Has.also Z (t:=59) (v:=.bool (mP l (bP l l[i].e.t i) l[i].e.p)) (by rw[hg];exact congrArg (fun b=>some (Value.bool b)) Qk);exact⟨Z.re bC,Zn⟩
           ·
            apply aK Z (fK 12) _ aa
            case h=>
             refine GO 3 ?_;intro _ Z;apply kV (x:=l[i].e.p != lA l (dB l i l[i].e.t).toNat) Z 85 rfl 9 94
             case ht=>
              intro Zz;obtain⟨k,G,B,L,_⟩:=ov (l:=l) (i:=i) (t:=l[i].e.t) ((Bool.not_eq_true' _).mp Zz)
              have j:k<l.length:=by omega
              have P:lA l (dB l i l[i].e.t).toNat=l[k].l:=by rw[B];exact qc j
              refine GO 4 ?_;intro _ Z;refine qy Z (fun X m=>(ar (i:=k) (sz:=14) cO aa (Z.ev rfl) (Z.ev rfl) ab ab rfl)) fun _ Z=>?_;refine qy Z (fun X m=>(fy 0 (Z.ev rfl))) fun _ Z=>?_;refine qy Z (fun X m=>(lx (Z.ev rfl) ((aL aI ((Zn.grow m).rd0 hr) j) 0 _ rfl))) fun _ Z=>?_;refine qy Z (fun X m=>(aA (v':=.bool (l[i].e.p != lA l (dB l i l[i].e.t).toNat)) (by rw[P]) (kh (Z.ev rfl) (Z.ev rfl)))) fun _ Z=>?_;refine GO 1 ?_;intro _ Z;exact ax (Z.midE 8)
             case hf=>
              intro Zz;refine GO 9 ?_;intro _ Z;exact ax (Z.midE 8)
             case h=>
              intro _ Z;refine ax ?_;refine aT fun _ Qa Je=>?_;have U:=Zn.grow Qa;refine GO 3 ?_;intro _ Z
              have hg:mP l (bP l l[i].e.t i) l[i].e.p=(!(decide (dB l i l[i].e.t<0)||(eW l (dB l i l[i].e.t).toNat==4))&&(l[i].e.p != lA l (dB l i l[i].e.t).toNat)):=by rw[D,Zy,Qk];rfl
              replace Z:=Has.also Z (t:=59) (v:=.bool (mP l (bP l l[i].e.t i) l[i].e.p)) (by rw[hg];rfl);exact⟨Z.re bC,U⟩
            case hB=>kernel_rfl
            case hst=>rfl
       ·
        refine ai ?_;refine ak (Z.ev rfl) (fun Qx=>?_) (fun Qx=>?_)
        ·
         rw[if_pos Qx] at a;refine GO 8 ?_;intro _ Z;refine aC Z rfl rfl ?_;exact⟨by first | (rw[a];done) | (rw[a];rfl),Zx.below⟩
        ·
         rw[if_neg (by rw[Qx];decide)] at a;refine GO 15 ?_;intro _ M;replace M:=(M.re bC:Has _ _ _ [(96,_),(11,_),(10,_),(9,_),(6,_),(5,_),(4,_),(0,_),(1,_)]);refine dY M Zx [(11,ae (dd l (bP l l[i].e.t i)))] [10,9,6,5,4,0,1] ?_ (fun _ _ Z Ze=>?_)
         ·
          refine ak (M.ev rfl) (fun Qy=>?_) (fun Qy=>?_)
          ·
           have r:zu l (dB l i l[i].e.t)=false:=(Bool.not_eq_true' _).mp Qy;obtain⟨k,G,B,L,_⟩:=ov (l:=l) (i:=i) (t:=l[i].e.t) r
           have j:k<l.length:=by omega
           refine GO 3 ?_;intro _ Z;refine sv Z (ar (i:=k) (sz:=14) cO aa (Z.ev rfl) (Z.ev rfl) ab ab rfl) fun _ Z=>?_;refine sv Z (fy 1 (Z.ev rfl)) fun _ Z=>?_;refine sv Z (fy 0 (Z.ev rfl)) fun _ Z=>?_;refine sv Z (lx (Z.ev rfl) ((aL aI (Zx.rd0 hr) j) 1 _ rfl)) fun _ Z=>?_;refine GO 3 ?_;intro _ Z
           have H:dd l (bP l l[i].e.t i)=l[k].e.k:=by rw[K,r,B,Int.toNat_natCast,if_neg au,jO j]
           replace Z:=Has.also Z (t:=11) (v:=ae (dd l (bP l l[i].e.t i))) (by rw[H];rfl);exact⟨Z.re bC,Zx⟩
          ·
           have r:zu l (dB l i l[i].e.t)=true:=(Bool.not_eq_false' _).mp Qy;refine wp_skip (ai ?_)
           have H:dd l (bP l l[i].e.t i)=0:=by rw[K,r];rfl
           replace M:=Has.also M (t:=11) (v:=ae (dd l (bP l l[i].e.t i))) (by rw[H];rfl);exact⟨M.re bC,Zx⟩
         ·
          refine GO 14 ?_;intro _ Zi;replace Zi:=(Zi.re bC:Has _ _ _ [(104,_),(103,_),(10,_),(9,_),(6,_),(5,_),(4,_),(0,_),(1,_)]);refine mF (F:=¬(dd l (bP l l[i].e.t i)=2∧l[i].e.k≠4)∧¬((dd l (bP l l[i].e.t i)=3∨dd l (bP l l[i].e.t i)=1)∧l[i].e.k≠1∧l[i].e.k≠4)) Zi Ze [] [10,9,6,5,0,1] ?_ (fun _ _ Z Zf hst=>?_)
          ·
           refine ak (Zi.ev rfl) (fun Qz=>?_) (fun Qz=>?_)
           ·
            have W:dd l (bP l l[i].e.t i)=2:=al Qz;refine GO 7 ?_;intro _ Z;refine ak (Z.ev rfl) (fun Ja=>?_) (fun Ja=>?_)
            ·
             rw[if_pos ⟨W,al Ja⟩] at a;refine GO 9 ?_;intro _ Z;refine aC Z rfl rfl ?_;exact⟨by first | (rw[a];done) | (rw[a];rfl),Ze.below⟩
            ·
             refine wp_skip (ai ?_);have hst:¬(dd l (bP l l[i].e.t i)=2∧l[i].e.k≠4)∧¬((dd l (bP l l[i].e.t i)=3∨dd l (bP l l[i].e.t i)=1)∧l[i].e.k≠1∧l[i].e.k≠4):=⟨fun q=>q.2 (al Ja),fun q=>by omega⟩;exact⟨Z.re bC,Ze,hst⟩
           ·
            have W:dd l (bP l l[i].e.t i)≠2:=al Qz;refine GO 7 ?_;intro _ V;replace V:=(V.re bC:Has _ _ _ [(109,_),(103,_),(10,_),(9,_),(6,_),(5,_),(4,_),(0,_),(1,_)]);refine dY V Ze [(109,.bool (dd l (bP l l[i].e.t i)==3||dd l (bP l l[i].e.t i)==1))] [10,9,6,5,4,0,1] ?_ (fun _ _ Z U=>?_)
            ·
             refine ak (V.ev rfl) (fun Jb=>?_) (fun Jb=>?_)
             ·
              refine wp_skip (ai ?_);replace V:=Has.also V (t:=109) (v:=.bool (dd l (bP l l[i].e.t i)==3||dd l (bP l l[i].e.t i)==1)) (by rw[Jb];rfl);exact⟨V.re bC,Ze⟩
             ·
              refine GO 5 ?_;intro _ Z;replace Z:=Has.also Z (t:=109) (v:=.bool (dd l (bP l l[i].e.t i)==3||dd l (bP l l[i].e.t i)==1)) (by rw[Jb];rfl);exact⟨Z.re bC,Ze⟩
            ·
             refine ai ?_;refine ak (Z.ev rfl) (fun Zg=>?_) (fun Zg=>?_)
             ·
              refine GO 6 ?_;intro _ Z;apply a8 Z U 115 rfl 4 119
              case ht=>
               intro Qb;refine GO 4 ?_;intro _ Z;exact ag ⟨Z.midE 3,U⟩
              case hf=>
               intro Qb;refine GO 4 ?_;intro _ Z;exact ag ⟨Z.midE 3,U⟩
              case h=>
               rintro Vg Jl ⟨Qc,Qd⟩
               refine ag (ai ?_);refine ak (Qc.ev rfl) (fun Zj=>?_) (fun Zj=>?_)
               ·
                rw[if_neg (fun q=>W q.1),if_pos ⟨al Zg,al Zj⟩] at a;refine GO 9 ?_;intro _ Z;refine aC Z rfl rfl ?_;exact⟨by first | (rw[a];done) | (rw[a];rfl),Qd.below⟩
               ·
                refine wp_skip (ai ?_)
                have hst:¬(dd l (bP l l[i].e.t i)=2∧l[i].e.k≠4)∧¬((dd l (bP l l[i].e.t i)=3∨dd l (bP l l[i].e.t i)=1)∧l[i].e.k≠1∧l[i].e.k≠4):=⟨fun q=>W q.1,fun q=>by
                 rw[show(l[i].e.k != 1)=true from al q.2.1,show(l[i].e.k != 4)=true by simpa using q.2.2] at Zj
                 cases Zj⟩
                exact⟨Qc.re bC,Qd,hst⟩
             ·
              refine wp_skip (ai ?_)
              have hst:¬(dd l (bP l l[i].e.t i)=2∧l[i].e.k≠4)∧¬((dd l (bP l l[i].e.t i)=3∨dd l (bP l l[i].e.t i)=1)∧l[i].e.k≠1∧l[i].e.k≠4):=⟨fun q=>W q.1,fun q=>by
               have:=q.1;simp only[Bool.or_eq_false_iff,beq_eq_false_iff_ne] at Zg;rcases this with h | h
               · exact Zg.1 h
               · exact Zg.2 h⟩
              exact⟨Z.re bC,U,hst⟩
          ·
           rw[if_neg hst.1,if_neg hst.2] at a;refine GO 10 ?_;intro _ Z;refine ak (Z.ev rfl) (fun Zo=>?_) (fun Zo=>?_)
           ·
            rw[if_pos (al Zo)] at a;refine GO 7 ?_;intro _ Z;refine aC Z rfl rfl ?_;exact⟨by first | (rw[a];done) | (rw[a];rfl),Zf.below⟩
           ·
            rw[if_neg (al Zo)] at a;refine GO 14 ?_;intro _ Zk;replace Zk:=(Zk.re bC:Has _ _ _ [(124,_),(12,_),(9,_),(6,_),(5,_),(0,_),(1,_)]);refine dY Zk Zf [(12,ae (mo l (bP l l[i].e.t i) l[i].e.p))] [6,5,0,1] ?_ (fun _ _ Z Zh=>?_)
            ·
             refine ak (Zk.ev rfl) (fun Zp=>?_) (fun Zp=>?_)
             ·
              have r:zu l (dB l i l[i].e.t)=false:=(Bool.not_eq_true' _).mp Zp;obtain⟨k,G,B,L,_⟩:=ov (l:=l) (i:=i) (t:=l[i].e.t) r
              have j:k<l.length:=by omega
              refine GO 2 ?_;intro _ Z;refine sv Z (aA (v':=ae (k:Nat)) (by rw[B]) (bD (Z.ev rfl))) fun _ Z=>?_;refine cQ Z rfl Zf (A5 l k j _ c _ (Zf.rd0 hr) ab) fun _ _ Z U=>?_;refine GO 3 ?_;intro _ Z
              have H:mo l (bP l l[i].e.t i) l[i].e.p=j8 l k:=by rw[C,r,B,Int.toNat_natCast,if_neg au]
              replace Z:=Has.also Z (t:=12) (v:=ae (mo l (bP l l[i].e.t i) l[i].e.p)) (by rw[H];rfl);exact⟨Z.re bC,U⟩
             ·
              have r:zu l (dB l i l[i].e.t)=true:=(Bool.not_eq_false' _).mp Zp;refine GO 7 ?_;intro _ Z;refine ak (Z.ev rfl) (fun Zq=>?_) (fun Zq=>?_)
              ·
               refine GO 4 ?_;intro _ Z
               have H:mo l (bP l l[i].e.t i) l[i].e.p=0:=by rw[C,r,if_pos rfl,if_pos (al Zq)]
               replace Z:=Has.also Z (t:=12) (v:=ae (mo l (bP l l[i].e.t i) l[i].e.p)) (by rw[H];rfl);exact⟨Z.re bC,Zf⟩
              ·
               refine wp_skip (ai ?_)
               have H:mo l (bP l l[i].e.t i) l[i].e.p = -1:=by rw[C,r,if_pos rfl,if_neg (al Zq)]
               replace Z:=Has.also Z (t:=12) (v:=ae (mo l (bP l l[i].e.t i) l[i].e.p)) (by rw[H];rfl);exact⟨Z.re bC,Zf⟩
            ·
             clear C;generalize mo l (bP l l[i].e.t i) l[i].e.p=n at Z a;refine GO 8 ?_;intro _ Z;refine ak (Z.ev rfl) (fun Zr=>?_) (fun Zr=>?_)
             ·
              have J:n=0:=al Zr
              have a:E=13:=by rw[a];unfold nR;rw[if_pos J]
              refine GO 7 ?_;intro _ Z;refine aC Z rfl rfl ?_;exact⟨by first | (rw[a];done) | (rw[a];rfl),Zh.below⟩
             ·
              have J:n≠0:=al Zr;refine GO 14 ?_;intro _ T;replace T:=(T.re bC:Has _ _ _ [(134,_),(13,_),(12,_),(6,_),(5,_),(0,_),(1,_)]);refine dY T Zh [(13,ae (nK Rcd.l n (l.take i) 0))] [6,5,0] ?_ (fun _ _ Z U=>?_)
              ·
               refine ak (T.ev rfl) (fun Qe=>?_) (fun Qe=>?_)
               ·
                refine GO 3 ?_;intro _ Z;refine sv Z (jN (l:=0) (h:=i) (sz:=14) cO aa (Z.ev rfl) rfl (Z.ev rfl) ab ab (.inr rfl) rfl) fun _ Z=>?_;refine GO 1 ?_;intro _ Z;refine cQ Z rfl Zh (Jv▸zm (l.take i) n _ c _ (Zh.rd0 Vb) ab) fun _ _ Z U=>?_;refine GO 3 ?_;intro _ Z;exact⟨Z.re bC,U⟩
               ·
                refine wp_skip (ai ?_);have Vl:n = -1:=al Qe;replace T:=Has.also T (t:=13) (v:=ae (nK Rcd.l n (l.take i) 0)) (by rw[Hp hv ab];rfl);exact⟨T.re bC,Zh⟩
              ·
               refine GO 8 ?_;intro _ Z;refine ak (Z.ev rfl) (fun Zs=>?_) (fun Zs=>?_)
               ·
                have Va:cz (l.take i) n=none:=kZ (of_decide_eq_true Zs);unfold nR at a;rw[if_neg J,Va] at a;simp only[] at a;refine GO 9 ?_;intro _ Z;refine ak (Z.ev rfl) (fun Zt=>?_) (fun Zt=>?_)
                ·
                 rw[if_pos (by have:=of_decide_eq_true Zt;omega)] at a;refine GO 8 ?_;intro _ Z;refine aC Z rfl rfl ?_;exact⟨by first | (rw[a];done) | (rw[a];rfl),U.below⟩
                ·
                 rw[if_neg (by have:=of_decide_eq_false Zt;omega)] at a;refine GO 9 ?_;intro _ Z;refine aC Z rfl rfl ?_;exact⟨by first | (rw[a];done) | (rw[a];rfl),U.below⟩
               ·
                obtain⟨k,hk,Jz,_,Ve⟩:=iC (of_decide_eq_false Zs);rw[Nat.zero_add] at Jz
                have G:k<i:=by omega
                have j:k<l.length:=by omega
                have Vd:(l.take i)[k]=l[k]:=List.getElem_take ..;have a:=a.trans (Dl (u:=l[k]) J (Vd▸Ve));have Vc:gy l[k].e.o=0:=mM (hv.e0 G).2.2;refine GO 6 ?_;intro _ Z;refine sv Z (ar (i:=k) (sz:=14) cO aa (Z.ev rfl) (Z.ev rfl) ab ab rfl) fun _ Z=>?_;refine sv Z (fy 1 (Z.ev rfl)) fun _ Z=>?_;refine sv (v:=cy l[k].e) Z (ah aa aa (Z.ev rfl) (dQ (U.rd0 hr) j)) fun _ Z=>?_;refine na (.agg sc) Z rfl U fun Vn _ _ Jm Z U=>sw Z U 0 fun _ U=>?_;refine ag (ai (aj (aj ?_)));apply aK Z (fK 38) _ aa
                case h=>
                 refine GO 4 ?_;intro _ Z;apply fZ (x:=l[k].e.t != l[i].e.t) Z 154 rfl 6 160
                 case hf=>
                  intro Qf;refine GO 6 ?_;intro _ Z;exact ax (Z.midE 5)
                 case ht=>
                  intro Qf;refine GO 6 ?_;intro _ Z;exact ax (Z.midE 5)
                 case h=>
                  intro _ Z;refine GO 1 ?_;intro _ Z;apply fZ (x:=l[i].e.x != l[k].e.p) Z 161 rfl 6 167
                  case hf=>
                   intro Qg;refine GO 6 ?_;intro _ Z;exact ax (Z.midE 5)
                  case ht=>
                   intro Qg;refine GO 6 ?_;intro _ Z;exact ax (Z.midE 5)
                  case h=>
                   intro _ Z;refine GO 1 ?_;intro _ Z;apply fZ (x:=l[i].e.g != l[k].e.g) Z 168 rfl 6 174
                   case hf=>
                    intro Qh;refine GO 6 ?_;intro _ Z;exact ax (Z.midE 5)
                   case ht=>
                    intro Qh;refine GO 6 ?_;intro _ Z;exact ax (Z.midE 5)
                   case h=>
                    intro _ Z;refine GO 1 ?_;intro _ Z;apply fZ (x:=l[i].e.f != l[k].e.f) Z 175 rfl 6 181
                    case hf=>
                     intro Qi;refine GO 4 ?_;intro _ Z;refine qy Z (fun X m=>(uG tX (Z.ev rfl) (Z.ev rfl))) fun _ Z=>?_;refine GO 1 ?_;intro _ Z;exact ax (Z.midE 5)
                    case ht=>
                     intro Qi;refine GO 6 ?_;intro _ Z;exact ax (Z.midE 5)
                    case h=>
                     intro _ Z;refine GO 1 ?_;intro _ Z;apply mr Z 182 rfl 6 188
                     case ht=>
                      intro Zd;refine GO 6 ?_;intro _ Z;exact ax ⟨_,Z.midE 5⟩
                     case hf=>
                      intro Zd;refine GO 1 ?_;intro _ Z;refine jk (v:=fj l[i].e.o) Z (ao Z _ rfl rfl rfl Zd) rfl rfl (fun X m=>(ah aa aa (Z.ev rfl) ((U.grow m).cellsOf (i:=1) rfl 6 6))) fun _ Z=>GO 1 ?_;intro _ Z;refine jk (v:=fj l[k].e.o) Z (ao Z _ rfl rfl rfl Zd) rfl rfl (fun X m=>(ah aa aa (Z.ev rfl) ((U.grow m).cellsOf (i:=0) rfl 6 6))) fun _ Z=>me Z (ao Z _ rfl rfl rfl Zd) rfl rfl (fun X=>(aw a6 (Z.evs rfl) rfl)) (fun X m=>lL l[k].e.o _ Vc) fun _ Z=>qy Z (fun X m=>(aA (v':=.bool (!(decide (l[i].e.o=bO l[k].e.o)))) (by rw[←Cm]) (ke (ks:=[.i .i64,.i .i64,.i .i64,.i .i64,.s,.s]) aa Tryz.underlying141 aa (Z.ev rfl) (Z.ev rfl) rfl rfl))) fun _ Z=>?_;exact ax (Z.midE 5)
                     case h=>
                      intro Vh _ S Z;refine ax ?_;refine aT fun _ Qj Jf=>?_;have U:=U.grow Qj;refine sv Z (iq (Z.ev rfl) (Z.ev rfl) (Z.ev rfl) S) fun _ Z=>?_;refine ag (ai ?_);refine ak (Z.ev rfl) (fun Zu=>?_) (fun Zu=>?_)
                      ·
                       rw[if_pos (show Ck l[i].e l[k].e=true from Zu)] at a;refine GO 7 ?_;intro _ Z;refine aC Z rfl rfl ?_;exact⟨by first | (rw[a];done) | (rw[a];rfl),U.below⟩
                      ·
                       rw[if_neg (by rw[show Ck l[i].e l[k].e=false from Zu];decide)] at a;refine GO 8 ?_;intro _ Z;refine aC Z rfl rfl ?_;exact⟨by first | (rw[a];done) | (rw[a];rfl),U.below⟩
                case hB=>kernel_rfl
                case hst=>rfl
 case hB=>kernel_rfl
theorem CI {l:List Rcd} {j:Nat} (b:j<l.length) (h:bB l[j].l 1 2147483647=false):ez l j (ct l j) l[j]=2:=by
 have a:fc l j l[j]=2:=by unfold fc;rw[h];rfl
 unfold ez;rw[a];rfl
theorem BW {l:List Rcd} {j:Nat} (d:j<l.length) (h:bB l[j].l 1 2147483647=true) {y:Rcd} (b:da l j=some y) (c:l[j].l≤y.l):ez l j (ct l j) l[j]=9:=by
 have a:fc l j l[j]=9:=by unfold fc;rw[h,b];simp only[];rw[decide_eq_false ab];rfl
 unfold ez;rw[a];rfl
theorem CR {l:List Rcd} {j:Nat} (b:j<l.length) (h:bB l[j].l 1 2147483647=true) (a:∀y,da l j=some y→y.l<l[j].l):fc l j l[j]=cA l[j].e:=by
 unfold fc;rw[h]
 cases hb:da l j with
 | none=>
  show av [0,0,cA l[j].e]=_
  by_cases q:cA l[j].e=0<;>simp[av,q]
 | some y=>
  simp only[];rw[decide_eq_true (a y hb)];show av [0,0,cA l[j].e]=_
  by_cases q:cA l[j].e=0<;>simp[av,q]
theorem nn (l:List Rcd) (A:Option Addr) (c:Nat) (w:World) (hr:Rd w w.heap.size A (l.flatMap cB)) (V:l.length≤1000) (hc:l.length≤c) (hx:∀x∈l,FewE x.e) :
 bu 45 #[.slice A l.length c] w (.tuple #[ae (fh l).1,ae (fh l).2]):=by
 obtain⟨E,g⟩:∃E,E=fh l:=⟨_,rfl⟩;rw[←g];unfold fh at g;refine an (N:=58) Tryz.func45 rfl rfl rfl (fun _ D=>?_);have Z:=St.init w;refine GO 14 ?_;intro _ Y;refine ak (Y.ev rfl) (fun K=>?_) (fun K=>?_)
 ·
  rw[if_pos (by have:=of_decide_eq_true K;omega)] at g;refine GO 8 ?_;intro _ Y;refine bU Y rfl rfl rfl ?_;exact⟨by first | (rw[g];done) | (rw[g];rfl),Z.below⟩
 ·
  rw[if_neg (by have:=of_decide_eq_false K;omega)] at g;refine GO 9 ?_;intro _ Y;refine aV Y Z [0] (fun (j:Nat)=>[(4,ae (j:Nat))]) (fun (j:Nat)=>VldH l j) (fun (j:Nat) L=>L) (fun (j:Nat)=>l.length-j) (0) (⟨Nat.zero_le _,fun k _ h=>absurd h (Nat.not_lt_zero _)⟩) bC (Z) ?_;intro j _ _ z Y Z;refine GO 9 ?_;intro _ Y;refine ak (Y.ev rfl) (fun O=>?_) (fun O=>?_)
  ·
   have a:j<l.length:=by have:=of_decide_eq_true O;omega
   have t:=hx _ (List.getElem_mem a)
   have f:ez l j (ct l j) l[j]≠0→E=((j:Int),ez l j (ct l j) l[j]):=fun D=>by
    rw[g,dU (fun i x=>ez l i (ct l i) x) l 0 j a (fun k u B=>by rw[Nat.zero_add];exact z.2 k u B) (by rw[Nat.zero_add];exact D),Nat.zero_add]
   obtain⟨b,o,rfl,hB,_⟩:=hr.opened (aF aI au ab);refine GO 9 ?_;intro _ Y;refine sv Y (ar (i:=j) (sz:=14) cO aa (Y.ev rfl) (Y.ev rfl) ab ab rfl) fun _ Y=>?_;refine sv Y (fy 0 (Y.ev rfl)) fun _ Y=>?_;refine sv Y (lx (Y.ev rfl) ((aL aI (Z.rd0 hr) a) 0 _ rfl)) fun _ Y=>?_;refine dn Y rfl (br _ _ _ _) fun _ Y=>?_;refine GO 3 ?_;intro _ Y;refine ak (Y.ev rfl) (fun P=>?_) (fun P=>?_)
   ·
    have C:bB l[j].l 1 2147483647=false:=al P;have s:=CI a C;rw[s] at f;have g:=f au;refine GO 14 ?_;intro _ Y;refine bU Y rfl rfl rfl ?_;exact⟨by first | (rw[g];done) | (rw[g];rfl),Z.below⟩
   ·
    have m:bB l[j].l 1 2147483647=true:=al P;refine wp_skip (ai (aj (aj ?_)));apply aK Y (fK 15) _ aa
    case h=>
     refine GO 3 ?_;intro _ Y;apply lR Y 26 rfl 12 38
     case ht=>
      intro S
      have p:0<j:=by have:=of_decide_eq_true S;omega
      refine GO 2 ?_;intro _ Y;refine qy Y (fun X r=>(ar (i:=j) (sz:=14) cO aa (Y.ev rfl) (Y.ev rfl) ab ab rfl)) fun _ Y=>?_;refine qy Y (fun X r=>(fy 0 (Y.ev rfl))) fun _ Y=>?_;refine qy Y (fun X r=>(lx (Y.ev rfl) ((aL aI ((Z.grow r).rd0 hr) a) 0 _ rfl))) fun _ Y=>?_;refine GO 3 ?_;intro _ Y;refine qy Y (fun X r=>(ar (i:=j-1) (sz:=14) cO aa (Y.ev rfl) (Y.ev rfl) ab ab rfl)) fun _ Y=>?_;refine qy Y (fun X r=>(fy 0 (Y.ev rfl))) fun _ Y=>?_;refine qy Y (fun X r=>(lx (Y.ev rfl) ((aL aI ((Z.grow r).rd0 hr) (show j-1<l.length by omega)) 0 _ rfl))) fun _ Y=>?_;refine qy Y (fun X r=>(aA (v':=.bool (decide (l[j].l≤((da l j).getD l[j]).l))) (by rw[dI p a,Option.getD_some]) (lY (Y.ev rfl) (Y.ev rfl)))) fun _ Y=>?_;exact ax (Y.midE 11)
     case hf=>
      intro S;refine GO 12 ?_;intro _ Y;exact ax ⟨_,Y.midE 11⟩
     case h=>
      intro Jw _ H Y;refine ax ?_;refine aT fun _ W Zj=>?_;have Z:=Z.grow W;refine sv Y (eK (Y.ev rfl) (Y.ev rfl) H (Y.ev rfl)) fun _ Y=>?_;refine ag (ai ?_);refine ak (Y.ev rfl) (fun I=>?_) (fun I=>?_)
      ·
       obtain⟨u1,R⟩:=Bool.and_eq_true_iff.1 I
       have p:0<j:=by have:=of_decide_eq_true u1;omega
       rw[dI p a] at R;have s:=BW a m (dI p a) (of_decide_eq_true R);rw[s] at f;have g:=f au;refine GO 14 ?_;intro _ Y;refine bU Y rfl rfl rfl ?_;exact⟨by first | (rw[g];done) | (rw[g];rfl),Z.below⟩
      ·
       have F:∀y,da l j=some y→y.l<l[j].l:=fun y T=>by
        rcases Nat.eq_zero_or_pos j with D | D
        · subst D;cases T
        · rw[decide_eq_true (by omega:(j:Int)>0),Bool.true_and,T] at I
          have:=of_decide_eq_false I
          change ¬l[j].l≤y.l at this
          omega
       have G:=CR a m F;refine GO 7 ?_;intro _ Y;refine sv Y (ar (i:=j) (sz:=14) cO aa (Y.ev rfl) (Y.ev rfl) ab ab rfl) fun _ Y=>?_;refine sv Y (fy 1 (Y.ev rfl)) fun _ Y=>?_;refine sv (v:=cy l[j].e) Y (ah aa aa (Y.ev rfl) (dQ (Z.rd0 hr) a)) fun _ Y=>?_;refine cQ Y rfl Z (kq l[j].e _ t.o t.n (by have:=t.d;unfold maxLen;omega)) fun _ _ Y Z=>?_;refine GO 9 ?_;intro _ Y;refine ak (Y.ev rfl) (fun Q=>?_) (fun Q=>?_)
       ·
        have hne:cA l[j].e≠0:=al Q
        have s:ez l j (ct l j) l[j]=cA l[j].e:=by unfold ez;rw[G,if_pos hne]
        rw[s] at f;have g:=f hne;refine GO 15 ?_;intro _ Y;refine bU Y rfl rfl rfl ?_;exact⟨by first | (rw[g];done) | (rw[g];rfl),Z.below⟩
       ·
        have J:cA l[j].e=0:=al Q;have s:=FN a z (G.trans J);rw[s] at f;refine GO 6 ?_;intro _ Y;refine cQ Y rfl Z (qB l j a _ c _ (Z.rd0 hr) V hc z hx) fun _ _ Y Z=>?_;refine GO 9 ?_;intro _ Y;refine ak (Y.ev rfl) (fun M=>?_) (fun M=>?_)
        ·
         have g:=f (al M);refine GO 14 ?_;intro _ Y;refine bU Y rfl rfl rfl ?_;exact⟨by first | (rw[g];done) | (rw[g];rfl),Z.below⟩
        ·
         have hz:ez l j (ct l j) l[j]=0:=by rw[s];simpa using M
         refine GO 9 ?_;intro _ Y;exact⟨j+1,ab,⟨a,fun k u B=>by rcases Nat.lt_or_eq_of_le (show k≤j by omega) with q | q;exact z.2 k u q;subst q;exact hz⟩,Y.re bC,Z⟩
    case hB=>kernel_rfl
    case hst=>rfl
  ·
   have U:l.length≤j:=by have:=of_decide_eq_false O;omega
   have Jv:(df (fun i x=>ez l i (ct l i) x) 0 l).2=0:=(cK _ _).2 fun k u=>z.2 k u ab;have g:E=(0,0):=g.trans (dx _ l 0 fun k u=>by rw[Nat.zero_add];exact z.2 k u ab);refine GO 12 ?_;intro _ Y;refine bU Y rfl rfl rfl ?_;exact⟨by first | (rw[g];done) | (rw[g];rfl),Z.below⟩
open Go.RowKit Go.Sort Go.Shelf
theorem CS {l:List Pgp} {g:Int} {q:Pgp} (h:ib l g=some q):∃k,∃a:k<l.length,nK Pgp.g g l 0=(k:Int)∧l[k].g=g∧l[k]=q:=by
 obtain⟨k,a,c,e2,e3⟩:=iC (κ:=Pgp.g) (n:=g) (l:=l) (k:=0) (fun b=>by rw[show ib l g=none from kZ b] at h;cases h);rw[show ib l g=some l[k] from e3] at h;injection h with h;exact⟨k,a,by rw[c,Nat.zero_add],e2,h⟩
end Go.Proofs.YtcfdpfmchchkaaaGreatDoor
