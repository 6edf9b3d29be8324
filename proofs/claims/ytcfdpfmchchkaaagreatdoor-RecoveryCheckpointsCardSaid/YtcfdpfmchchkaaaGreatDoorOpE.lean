/- Chapter 21 -/
import Derived.Test.YtcfdpfmchchkaaaGreatDoorOpD
namespace Go.Proofs.YtcfdpfmchchkaaaGreatDoor
set_option maxRecDepth 100000
set_option maxHeartbeats 1000000
set_option linter.unusedVariables false
set_option linter.unusedSimpArgs false
open Go.RowKit Go.Sort
theorem mZ (x:Op):gj x=if bD x.k 0 6=false then 15 else if dm x=false then 3 else if dJ x=false then 10 else if db x.k=true∧dn x=0 then 17
 else if db x.k=true∧200<dn x then 8 else if fD x=false then 2 else 0:=by
 unfold gj
 cases hk:bD x.k 0 6
 · rfl
 · rw[if_neg au,if_neg au]
   have d:(!db x.k||decide (0<dn x))=!(decide (db x.k=true∧dn x=0)):=by
    cases db x.k
    · simp
    · rw[Bool.eq_iff_iff];simp only[Bool.not_true,Bool.false_or,true_and,Bool.not_eq_true',decide_eq_true_eq,decide_eq_false_iff_not];omega
   have c:(!db x.k||decide (dn x≤200))=!(decide (db x.k=true∧200<dn x)):=by
    cases db x.k
    · simp
    · rw[Bool.eq_iff_iff];simp only[Bool.not_true,Bool.false_or,true_and,Bool.not_eq_true',decide_eq_true_eq,decide_eq_false_iff_not];omega
   rw[d,c]
   cases dm x
   · simp[aw,bF]
   · cases dJ x
     · simp[aw,bF]
     · by_cases a:db x.k=true∧dn x=0
       · simp[aw,bF,a]
       · by_cases b:db x.k=true∧200<dn x
         · simp only[aw,bF,decide_eq_false a,decide_eq_true b,if_neg a,if_pos b];simp
         · simp only[aw,bF,decide_eq_false a,decide_eq_false b,if_neg a,if_neg b]
           cases fD x<;>simp
def qx (c:Int) (r:Bool):Int:=if c=0 then 17 else if 200<c then 8 else bF r 2
theorem jb (x:Op) (c:Int) (r:Bool) (w:World) :
 bz 209 #[gm x,ae c,.bool r] w (ae (qx c r)):=by
 obtain⟨E,a⟩:∃E,E=qx c r:=⟨_,rfl⟩;rw[←a];unfold qx at a;refine aq (N:=13) Tryz.func209 rfl rfl rfl (fun _ Y=>?_);have Z:=St.init w;refine ai (an ?_);refine nb Y rfl rfl Z fun f _ _ g Y Z=>GO 10 ?_;intro _ Y;refine ak (Y.ev rfl) (fun b=>?_) (fun b=>?_)
 ·
  rw[if_pos (ar b)] at a;refine GO 7 ?_;intro _ Y;refine aI Y rfl rfl ?_;exact⟨by first | (rw[a];done) | (rw[a];rfl),Z.below⟩
 ·
  rw[if_neg (ar b)] at a;refine GO 9 ?_;intro _ Y;refine ak (Y.ev rfl) (fun e=>?_) (fun e=>?_)
  ·
   rw[if_pos (ar e)] at a;refine GO 7 ?_;intro _ Y;refine aI Y rfl rfl ?_;exact⟨by first | (rw[a];done) | (rw[a];rfl),Z.below⟩
  ·
   rw[if_neg (ar e)] at a;refine GO 9 ?_;intro _ Y;refine ak (Y.ev rfl) (fun d=>?_) (fun d=>?_)
   ·
    rw[show r=false by simpa using d] at a;refine GO 7 ?_;intro _ Y;refine aI Y rfl rfl ?_;exact⟨by first | (rw[a];done) | (rw[a];rfl),Z.below⟩
   ·
    rw[show r=true by simpa using d] at a;refine GO 8 ?_;intro _ Y;refine aI Y rfl rfl ?_;exact⟨by first | (rw[a];done) | (rw[a];rfl),Z.below⟩
theorem vw (s:ByteArray):(!decide (s=⟨#[]⟩))=(s.size != 0):=by rw[qe];rfl
theorem Eu (x:Op):(((((!((x.k==1||(x.k==2||x.k==3))||(x.k==4||x.k==5))&&(x.a != 0))||(!(x.k==2||x.k==3)&&(x.e != 0)))||(!(x.k==4||x.k==5)&&(x.c != 0)))||(!((x.k==1||x.k==3)||x.k==6)&&(x.o.size != 0)))||(!((x.k==1||x.k==2)||x.k==6)&&(x.n.size != 0)))=!dm x:=by
 have f:((x.k==1||(x.k==2||x.k==3))||(x.k==4||x.k==5))=Ao x.k:=by unfold Ao;rw[Bool.eq_iff_iff,inB_true];simp;omega
 have e2:(x.k==2||x.k==3)=o4 x.k:=by unfold o4;rw[Bool.eq_iff_iff,inB_true];simp;omega
 have e3:(x.k==4||x.k==5)=jv x.k:=by unfold jv;rw[Bool.eq_iff_iff,inB_true];simp;omega
 have b:((x.k==1||x.k==3)||x.k==6)=qt x.k:=rfl;have d:((x.k==1||x.k==2)||x.k==6)=qo x.k:=rfl;rw[f,e2,e3,b,d];unfold dm bne
 cases Ao x.k<;>cases o4 x.k<;>cases jv x.k<;>cases qt x.k<;>cases qo x.k<;>cases (x.a==0)<;>cases (x.e==0)<;>cases (x.c==0)<;>cases (x.o.size==0)<;>cases (x.n.size==0)<;>rfl
theorem ur (x:Op) (w:World) :
 bz 208 #[gm x] w (ae (bF (dm x) 3)):=by
 have hF:=Eu x;refine aq (N:=102) Tryz.func208 rfl rfl rfl (fun _ Y=>?_);have Z:=St.init w;refine ai (an ?_);refine nb Y rfl rfl Z fun b1 _ _ Jb Y Z=>GO 9 ?_;intro _ Y;apply bI (x:=x.k==3) Y Z 11 rfl 4 15
 case hf=>
  intro Q;refine GO 4 ?_;intro _ Y;exact ah ⟨Y.midE 3,Z⟩
 case ht=>
  intro Q;refine GO 4 ?_;intro _ Y;exact ah ⟨Y.midE 3,Z⟩
 case h=>
  rintro Jv Jc ⟨Jd,s⟩
  refine GO 9 ?_;intro _ Y;apply bI (x:=x.k==5) Y s 19 rfl 4 23
  case hf=>
   intro Zh;refine GO 4 ?_;intro _ Y;exact ah ⟨Y.midE 3,s⟩
  case ht=>
   intro Zh;refine GO 4 ?_;intro _ Y;exact ah ⟨Y.midE 3,s⟩
  case h=>
   rintro W Je ⟨Jf,m⟩
   refine GO 9 ?_;intro _ Y;apply bI (x:=(x.k==2||x.k==3)) Y m 27 rfl 2 29
   case hf=>
    intro H;refine GO 2 ?_;intro _ Y;exact ah ⟨Y.midE 1,m⟩
   case ht=>
    intro H;refine GO 2 ?_;intro _ Y;exact ah ⟨Y.midE 1,m⟩
   case h=>
    rintro P Jg ⟨Jh,p⟩
    refine GO 1 ?_;intro _ Y;apply bI (x:=(x.k==4||x.k==5)) Y p 30 rfl 2 32
    case hf=>
     intro T;refine GO 2 ?_;intro _ Y;exact ah ⟨Y.midE 1,p⟩
    case ht=>
     intro T;refine GO 2 ?_;intro _ Y;exact ah ⟨Y.midE 1,p⟩
    case h=>
     rintro U Ji ⟨Jj,r⟩
     refine GO 9 ?_;intro _ Y;apply bI (x:=x.k==3) Y r 36 rfl 4 40
     case hf=>
      intro Zn;refine GO 4 ?_;intro _ Y;exact ah ⟨Y.midE 3,r⟩
     case ht=>
      intro Zn;refine GO 4 ?_;intro _ Y;exact ah ⟨Y.midE 3,r⟩
     case h=>
      rintro V Jk ⟨Jl,i⟩
      refine GO 1 ?_;intro _ Y;apply bI (x:=x.k==6) Y i 41 rfl 4 45
      case hf=>
       intro G;refine GO 4 ?_;intro _ Y;exact ah ⟨Y.midE 3,i⟩
      case ht=>
       intro G;refine GO 4 ?_;intro _ Y;exact ah ⟨Y.midE 3,i⟩
      case h=>
       rintro X Jm ⟨Jn,l⟩
       refine GO 9 ?_;intro _ Y;apply bI (x:=x.k==2) Y l 49 rfl 4 53
       case hf=>
        intro Zr;refine GO 4 ?_;intro _ Y;exact ah ⟨Y.midE 3,l⟩
       case ht=>
        intro Zr;refine GO 4 ?_;intro _ Y;exact ah ⟨Y.midE 3,l⟩
       case h=>
        rintro M Jo ⟨Jp,q⟩
        refine GO 1 ?_;intro _ Y;apply bI (x:=x.k==6) Y q 54 rfl 4 58
        case hf=>
         intro I;refine GO 4 ?_;intro _ Y;exact ah ⟨Y.midE 3,q⟩
        case ht=>
         intro I;refine GO 4 ?_;intro _ Y;exact ah ⟨Y.midE 3,q⟩
        case h=>
         rintro Jw Jq ⟨Jr,j⟩
         refine GO 9 ?_;intro _ Y;apply bo (x:=x.a != 0) Y j 61 rfl 4 65
         case ht=>
          intro K;refine GO 4 ?_;intro _ Y;exact ah ⟨Y.midE 3,j⟩
         case hf=>
          intro K;refine GO 4 ?_;intro _ Y;exact ah ⟨Y.midE 3,j⟩
         case h=>
          rintro z Qk ⟨Ql,g⟩
          refine GO 1 ?_;intro _ Y;apply bI (x:=(!(x.k==2||x.k==3)&&(x.e != 0))) Y g 66 rfl 8 74
          case hf=>
           intro Zw;refine GO 3 ?_;intro _ Y;apply bo (x:=x.e != 0) Y g 69 rfl 4 73
           case ht=>
            intro Zx;refine GO 4 ?_;intro _ Y;exact ah ⟨Y.midE 3,g⟩
           case hf=>
            intro Zx;refine GO 4 ?_;intro _ Y;exact ah ⟨Y.midE 3,g⟩
           case h=>
            rintro A Qm ⟨Qn,L⟩
            refine GO 1 ?_;intro _ Y;exact ah ⟨Y.midE 4,L⟩
          case ht=>
           intro Zw;refine GO 3 ?_;intro _ Y;refine cg Y (aC Y _ rfl rfl rfl) rfl rfl fun _ Y=>cg Y (aC Y _ rfl rfl rfl) rfl rfl fun _ Y=>cg Y (aC Y _ rfl rfl rfl) rfl rfl fun _ Y=>GO 2 ?_;intro _ Y;exact ah ⟨Y.midE 7,g⟩
          case h=>
           rintro D Qo ⟨Qp,b⟩
           refine GO 1 ?_;intro _ Y;apply bI (x:=(!(x.k==4||x.k==5)&&(x.c != 0))) Y b 75 rfl 8 83
           case hf=>
            intro Zz;refine GO 3 ?_;intro _ Y;apply bo (x:=x.c != 0) Y b 78 rfl 4 82
            case ht=>
             intro Qa;refine GO 4 ?_;intro _ Y;exact ah ⟨Y.midE 3,b⟩
            case hf=>
             intro Qa;refine GO 4 ?_;intro _ Y;exact ah ⟨Y.midE 3,b⟩
            case h=>
             rintro B Qq ⟨Qr,Qb⟩
             refine GO 1 ?_;intro _ Y;exact ah ⟨Y.midE 4,Qb⟩
           case ht=>
            intro Zz;refine GO 3 ?_;intro _ Y;refine cg Y (aC Y _ rfl rfl rfl) rfl rfl fun _ Y=>cg Y (aC Y _ rfl rfl rfl) rfl rfl fun _ Y=>cg Y (aC Y _ rfl rfl rfl) rfl rfl fun _ Y=>GO 2 ?_;intro _ Y;exact ah ⟨Y.midE 7,b⟩
           case h=>
            rintro E Qs ⟨Qt,d⟩
            refine GO 1 ?_;intro _ Y;apply bI (x:=(!((x.k==1||x.k==3)||x.k==6)&&(x.o.size != 0))) Y d 84 rfl 8 92
            case hf=>
             intro Qc;refine GO 3 ?_;intro _ Y;apply bo (x:=x.o.size != 0) Y d 87 rfl 4 91
             case ht=>
              intro Qd;refine GO 2 ?_;intro _ Y;refine sy Y (aA (v':=.bool (x.o.size != 0)) (congrArg _ (vw _)) (oJ (Y.ev rfl) (Y.ev rfl))) fun _ Y=>?_;refine GO 1 ?_;intro _ Y;exact ah ⟨Y.midE 3,d⟩
             case hf=>
              intro Qd;refine GO 4 ?_;intro _ Y;exact ah ⟨Y.midE 3,d⟩
             case h=>
              rintro F Qu ⟨Qv,O⟩
              refine GO 1 ?_;intro _ Y;exact ah ⟨Y.midE 4,O⟩
            case ht=>
             intro Qc;refine GO 3 ?_;intro _ Y;refine cg Y (aC Y _ rfl rfl rfl) rfl rfl fun _ Y=>cg Y (aC Y _ rfl rfl rfl) rfl rfl fun _ Y=>cg Y (aC Y _ rfl rfl rfl) rfl rfl fun _ Y=>GO 2 ?_;intro _ Y;exact ah ⟨Y.midE 7,d⟩
            case h=>
             rintro y Qw ⟨Qx,f⟩
             refine GO 1 ?_;intro _ Y;apply bI (x:=(!((x.k==1||x.k==2)||x.k==6)&&(x.n.size != 0))) Y f 93 rfl 8 101
             case hf=>
              intro R;refine GO 3 ?_;intro _ Y;apply bo (x:=x.n.size != 0) Y f 96 rfl 4 100
              case ht=>
               intro Qg;refine GO 2 ?_;intro _ Y;refine sy Y (aA (v':=.bool (x.n.size != 0)) (congrArg _ (vw _)) (oJ (Y.ev rfl) (Y.ev rfl))) fun _ Y=>?_;refine GO 1 ?_;intro _ Y;exact ah ⟨Y.midE 3,f⟩
              case hf=>
               intro Qg;refine GO 4 ?_;intro _ Y;exact ah ⟨Y.midE 3,f⟩
              case h=>
               rintro v Qy ⟨Qz,J⟩
               refine GO 1 ?_;intro _ Y;exact ah ⟨Y.midE 4,J⟩
             case ht=>
              intro R;refine GO 3 ?_;intro _ Y;refine cg Y (aC Y _ rfl rfl rfl) rfl rfl fun _ Y=>cg Y (aC Y _ rfl rfl rfl) rfl rfl fun _ Y=>cg Y (aC Y _ rfl rfl rfl) rfl rfl fun _ Y=>GO 2 ?_;intro _ Y;exact ah ⟨Y.midE 7,f⟩
             case h=>
              rintro u Ja ⟨S,C⟩
              refine ah (aj ?_);refine ak (S.ev rfl) (fun t=>?_) (fun t=>?_)
              ·
               have e:dm x=false:=by rw[t] at hF;simpa using hF.symm
               refine GO 7 ?_;intro _ Y;refine aI Y rfl rfl ?_;exact⟨by first | (rw[e];done) | (rw[e];rfl),C.below⟩
              ·
               have e:dm x=true:=by rw[t] at hF;simpa using hF.symm
               refine GO 8 ?_;intro _ Y;refine aI Y rfl rfl ?_;exact⟨by first | (rw[e];done) | (rw[e];rfl),C.below⟩
open Go.RowKit Go.Sort
theorem vM {k a e c:Int} {o n:ByteArray} (h:true=dm ⟨k,a,e,c,o,n⟩):(k=2→o.size=0)∧(k=3→n.size=0):=by
 simp only[dm,qt,qo,Bool.and_eq_true,Bool.or_eq_true,beq_iff_eq] at h;have h:=h.symm;simp only[Bool.and_eq_true,Bool.or_eq_true,beq_iff_eq] at h;omega
theorem GI {x:Op} (d:x.k=1) (hf:dm x=true):gj x=if x.o.size≠x.n.size then 10 else qx x.o.size (bD x.a 0 511&&decide ((x.o.size:Int)≤512-x.a)):=by
 have e:bD x.k 0 6=true:=by rw[inB_true];omega
 have h3:db x.k=true:=by unfold db;rw[inB_true];omega
 have f:dJ x=(x.o.size==x.n.size):=by unfold dJ;rw[if_pos d]
 have hr:fD x=(bD x.a 0 511&&decide ((x.o.size:Int)≤512-x.a)):=by unfold fD;rw[if_pos d]
 rw[mZ,hf,f,h3,hr,if_neg (by rw[e];decide),if_neg au];generalize (bD x.a 0 511&&decide ((x.o.size:Int)≤512-x.a))=r;by_cases h:x.o.size=x.n.size
 · have i:dn x=x.o.size:=by unfold dn;omega
   rw[if_neg (by rw[beq_iff_eq.2 h];decide),if_neg (show ¬(x.o.size≠x.n.size) from fun g=>g h),i];by_cases c:x.o.size=0
   · rw[if_pos ⟨rfl,c⟩];unfold qx;rw[if_pos ab]
   · rw[if_neg (fun g=>c g.2)]
     by_cases b:200<x.o.size
     · rw[if_pos ⟨rfl,b⟩];unfold qx;rw[if_neg ab,if_pos ab]
     · rw[if_neg (fun g=>b g.2)];unfold qx;rw[if_neg (show ¬((x.o.size:Int)=0) by omega),if_neg (show ¬(200<(x.o.size:Int)) by omega)]
       cases r<;>rfl
 · rw[if_pos (beq_false_of_ne h),if_pos h]
theorem Ce {x:Op} {c:Nat} {r:Bool} (h:x.k=2∨x.k=3) (hf:dm x=true) (e:dn x=c) (hr:fD x=r):gj x=qx c r:=by
 have d:bD x.k 0 6=true:=by rw[inB_true];omega
 have h3:db x.k=true:=by unfold db;rw[inB_true];omega
 have f:dJ x=true:=by unfold dJ;rw[if_neg ab,if_neg ab]
 rw[mZ,hf,f,h3,e,hr,if_neg (by rw[d];decide),if_neg au,if_neg au];by_cases b:c=0
 · rw[if_pos ⟨rfl,b⟩];unfold qx;rw[if_pos ab]
 · rw[if_neg (fun g=>b g.2)]
   by_cases a:200<c
   · rw[if_pos ⟨rfl,a⟩];unfold qx;rw[if_neg ab,if_pos ab]
   · rw[if_neg (fun g=>a g.2)];unfold qx;rw[if_neg (show ¬((c:Int)=0) by omega),if_neg (show ¬(200<(c:Int)) by omega)]
     cases r<;>rfl
theorem Cs {x:Op} (e:x.k=4∨x.k=5) (hf:dm x=true):gj x=bF (bD x.a 0 4095&&bD x.c 1 (4096-x.a)) 2:=by
 have b:bD x.k 0 6=true:=by rw[inB_true];omega
 have h3:db x.k=false:=by unfold db;rw[sd];omega
 have d:dJ x=true:=by unfold dJ;rw[if_neg ab,if_neg ab]
 have hr:fD x=(bD x.a 0 4095&&bD x.c 1 (4096-x.a)):=by unfold fD;rw[if_neg ab,if_neg ab,if_neg ab,if_pos e]
 rw[mZ,hf,d,h3,hr,if_neg (by rw[b];decide),if_neg au,if_neg au,if_neg bm,if_neg bm]
 cases (bD x.a 0 4095&&bD x.c 1 (4096-x.a))<;>rfl
theorem Gc {x:Op} (c:x.k≠1∧x.k≠2∧x.k≠3∧x.k≠4∧x.k≠5) (a:bD x.k 0 6=true) (hf:dm x=true):gj x=if x.k=6∧(x.o.size≠512∨x.n.size≠512) then 10 else 0:=by
 have h3:db x.k=false:=by unfold db;rw[sd];omega
 rw[mZ,hf,h3,if_neg (by rw[a];decide),if_neg au]
 have hr:fD x=true:=by unfold fD;rw[if_neg ab,if_neg ab,if_neg ab,if_neg ab]
 rw[hr];unfold dJ;rw[if_neg c.1];by_cases h:x.k=6
 · rw[if_pos h]
   by_cases b:x.o.size=512∧x.n.size=512
   · rw[if_neg (by simp[b]),if_neg bm,if_neg bm,if_neg au,if_neg ab]
   · rw[if_pos (by simp;omega),if_pos ⟨h,by omega⟩]
 · rw[if_neg h,if_neg au,if_neg bm,if_neg bm,if_neg au,if_neg ab]
theorem mD (x:Op) (w:World) (ho:x.o.size≤3100) (hn:x.n.size≤3100) :
 bz 139 #[gm x] w (ae (gj x)):=by
 obtain⟨E,b⟩:∃E,E=gj x:=⟨_,rfl⟩;rw[←b]
 have s:dm x=true→(x.k=2→x.o.size=0)∧(x.k=3→x.n.size=0):=fun h=>by obtain⟨k,a,e,c,o,n⟩:=x;exact vM h.symm
 refine aq (N:=115) Tryz.func139 rfl rfl rfl (fun _ Y=>?_);have Z:=St.init w;refine ai (an ?_);refine nb Y rfl rfl Z fun b1 _ _ Qf Y Z=>GO 8 ?_;intro _ Y;refine cU Y rfl (bu _ _ _ _) fun _ Y=>?_;refine GO 3 ?_;intro _ Y;refine ak (Y.ev rfl) (fun D=>?_) (fun D=>?_)
 ·
  have u:bD x.k 0 6=false:=ar D;rw[mZ,if_pos u] at b;refine GO 7 ?_;intro _ Y;refine aI Y rfl rfl ?_;exact⟨by first | (rw[b];done) | (rw[b];rfl),Z.below⟩
 ·
  have u:bD x.k 0 6=true:=ar D;refine wp_skip (aj (ai (ai (an ?_))));refine sv (v:=gm x) Y (ag aa aa (Y.ev rfl) (Z.cellsAll (i:=0) rfl)) fun _ Y=>?_;refine cN Y rfl Z (ur x _) fun _ _ y Z=>?_;refine GO 9 ?_;intro _ Y;refine ak (Y.ev rfl) (fun m=>?_) (fun m=>?_)
  ·
   have hf:dm x=false:=by cases h:dm x with | false=>rfl | true=>rw[h] at m;exact absurd m au
   rw[mZ,if_neg (by rw[u];decide),if_pos hf] at b;refine GO 8 ?_;intro _ Y;refine aI Y rfl rfl ?_;exact⟨by rw[b,hf];rfl,Z.below⟩
  ·
   have hf:dm x=true:=by cases h:dm x with | true=>rfl | false=>rw[h] at m;exact absurd m au
   have f:=s hf;refine GO 16 ?_;intro _ Y;refine ak (Y.ev rfl) (fun A=>?_) (fun A=>?_)
   ·
    have q:x.k=1:=ar A;rw[GI q hf] at b;refine GO 12 ?_;intro _ Y;refine ak (Y.ev rfl) (fun G=>?_) (fun G=>?_)
    ·
     rw[if_pos (by have:¬(x.o.size:Int)=x.n.size:=(ar G);omega)] at b;refine GO 9 ?_;intro _ Y;refine aI Y rfl rfl ?_;exact⟨by first | (rw[b];done) | (rw[b];rfl),Z.below⟩
    ·
     rw[if_neg (by have:(x.o.size:Int)=x.n.size:=(ar G);omega)] at b;refine wp_skip (aj (ai ?_));apply aK Y (fA 16) _ aa
     case h=>
      refine qv (v:=gm x) Y (fun X K=>ag aa aa (Y.ev rfl) ((Z.grow K).cellsAll (i:=0) rfl)) fun _ Y=>?_;refine GO 5 ?_;intro _ Y;refine gp Y rfl (fun X K=>bu _ _ _ _) fun _ Y=>?_;refine GO 1 ?_;intro _ Y;apply j4 (x:=decide ((x.o.size:Int)≤512-x.a)) Y 33 rfl 8 41
      case ht=>
       intro T;refine GO 5 ?_;intro _ Y;refine qy Y (fun X K=>(fp (Y.ev rfl) (Y.ev rfl) (by have:=inB_true.1 T;omega))) fun _ Y=>?_;refine GO 2 ?_;intro _ Y;exact ax (Y.midE 7)
      case hf=>
       intro T;refine GO 8 ?_;intro _ Y;exact ax (Y.midE 7)
      case h=>
       intro _ Y;refine ax ?_;refine aV fun _ Zr Zz=>?_;have Z:=Z.grow Zr;refine cN Y rfl Z (jb x _ _ _) fun _ _ Y Z=>?_;refine GO 6 ?_;intro _ Y;refine aI Y rfl rfl ?_;exact⟨by first | (rw[b];done) | (rw[b];rfl),Z.below⟩
     case hB=>kernel_rfl
     case hst=>rfl
   ·
    have q:x.k≠1:=ar A;refine GO 6 ?_;intro _ Y;refine ak (Y.ev rfl) (fun I=>?_) (fun I=>?_)
    ·
     have l:x.k=2:=ar I;have H:=f.1 l;rw[Ce (c:=x.n.size) (r:=bD x.a 0 511&&bD x.e x.a (512-x.n.size)) (.inl l) hf (by unfold dn;omega) (by unfold fD;rw[if_neg q,if_pos l,H];simp)] at b;refine GO 4 ?_;intro _ Y;refine cU Y rfl (bu _ _ _ _) fun _ Y=>?_;refine GO 1 ?_;intro _ Y;apply bo (x:=bD x.e x.a (512-x.n.size)) Y Z 48 rfl 10 58
     case ht=>
      intro L;refine GO 8 ?_;intro _ Y;refine ct Y (ao Y _ rfl rfl rfl L) (az bc (Y.evs rfl) rfl) rfl rfl (bu _ _ _ _) fun _ Y=>GO 1 ?_;intro _ Y;exact ah ⟨Y.midE 9,Z⟩
     case hf=>
      intro L;refine GO 10 ?_;intro _ Y;exact ah ⟨Y.midE 9,Z⟩
     case h=>
      rintro Jv Qg ⟨Qh,S⟩
      refine GO 5 ?_;intro _ Y;refine sv (v:=gm x) Y (ag aa aa (Y.ev rfl) (S.cellsAll (i:=0) rfl)) fun _ Y=>?_;refine GO 4 ?_;intro _ Y;refine cN Y rfl S (jb x _ _ _) fun _ _ Y Z=>?_;refine GO 6 ?_;intro _ Y;refine aI Y rfl rfl ?_;exact⟨by first | (rw[b];done) | (rw[b];rfl),Z.below⟩
    ·
     have l:x.k≠2:=ar I;refine GO 6 ?_;intro _ Y;refine ak (Y.ev rfl) (fun B=>?_) (fun B=>?_)
     ·
      have p:x.k=3:=ar B;have z:=f.2 p;rw[Ce (c:=x.o.size) (r:=bD x.a 0 511&&bD x.e (x.a+x.o.size) 512) (.inr p) hf (by unfold dn;omega) (by unfold fD;rw[if_neg q,if_neg l,if_pos p,z];simp)] at b;refine GO 4 ?_;intro _ Y;refine cU Y rfl (bu _ _ _ _) fun _ Y=>?_;refine GO 1 ?_;intro _ Y;apply bo (x:=bD x.e (x.a+x.o.size) 512) Y Z 70 rfl 10 80
      case ht=>
       intro F;refine GO 7 ?_;intro _ Y;refine sy Y (cy (Y.ev rfl) (Y.ev rfl) (by have:=inB_true.1 F;omega)) fun _ Y=>?_;refine ct Y (ao Y _ rfl rfl rfl F) (az bc (Y.evs rfl) rfl) rfl rfl (bu _ _ _ _) fun _ Y=>GO 1 ?_;intro _ Y;exact ah ⟨Y.midE 9,Z⟩
      case hf=>
       intro F;refine GO 10 ?_;intro _ Y;exact ah ⟨Y.midE 9,Z⟩
      case h=>
       rintro M Qa ⟨Qb,U⟩
       refine GO 5 ?_;intro _ Y;refine sv (v:=gm x) Y (ag aa aa (Y.ev rfl) (U.cellsAll (i:=0) rfl)) fun _ Y=>?_;refine GO 4 ?_;intro _ Y;refine cN Y rfl U (jb x _ _ _) fun _ _ Y Z=>?_;refine GO 6 ?_;intro _ Y;refine aI Y rfl rfl ?_;exact⟨by first | (rw[b];done) | (rw[b];rfl),Z.below⟩
     ·
      have p:x.k≠3:=ar B;refine GO 7 ?_;intro _ Y;refine ak (Y.ev rfl) (fun t=>?_) (fun t=>?_)
      ·
       have k4:x.k=4:=ar t;refine wp_skip (aj ?_);refine ak (Y.ev rfl) (fun j=>?_) (fun j=>?_)
       ·
        rw[Cs (.inl k4) hf] at b;refine GO 4 ?_;intro _ Y;refine cU Y rfl (bu _ _ _ _) fun _ Y=>?_;refine GO 2 ?_;intro _ Y;apply bI (x:=!bD x.c 1 (4096-x.a)) Y Z 94 rfl 8 102
        case hf=>
         intro g;refine GO 4 ?_;intro _ Y;refine sy Y (fp (Y.ev rfl) (Y.ev rfl) (by have y:bD x.a 0 4095=true:=(ar g);have:=inB_true.1 y;omega)) fun _ Y=>?_;refine ct Y (ao Y _ rfl rfl rfl g) (az bc (Y.evs rfl) rfl) rfl rfl (bu _ _ _ _) fun _ Y=>GO 2 ?_;intro _ Y;exact ah ⟨Y.midE 7,Z⟩
        case ht=>
         intro g;refine GO 8 ?_;intro _ Y;exact ah ⟨Y.midE 7,Z⟩
        case h=>
         rintro O Qc ⟨Zu,Q⟩
         refine ah (aj ?_);refine ak (Zu.ev rfl) (fun d=>?_) (fun d=>?_)
         ·
          have e:(bD x.a 0 4095&&bD x.c 1 (4096-x.a))=false:=by rw[←Bool.not_and] at d;cases hh:(bD x.a 0 4095&&bD x.c 1 (4096-x.a)) with | false=>rfl | true=>rw[hh] at d;cases d
          rw[e] at b;refine GO 8 ?_;intro _ Y;refine aI Y rfl rfl ?_;exact⟨by first | (rw[b];done) | (rw[b];rfl),Q.below⟩
         ·
          have e:(bD x.a 0 4095&&bD x.c 1 (4096-x.a))=true:=by rw[←Bool.not_and] at d;cases hh:(bD x.a 0 4095&&bD x.c 1 (4096-x.a)) with | true=>rfl | false=>rw[hh] at d;cases d
          rw[e] at b;refine GO 9 ?_;intro _ Y;refine aI Y rfl rfl ?_;exact⟨by first | (rw[b];done) | (rw[b];rfl),Q.below⟩
       ·
        exact absurd (t.symm.trans j) au
      ·
       refine GO 5 ?_;intro _ Y;refine ak (Y.ev rfl) (fun j=>?_) (fun j=>?_)
       ·
        rw[Cs (.inr (ar j)) hf] at b;refine GO 4 ?_;intro _ Y;refine cU Y rfl (bu _ _ _ _) fun _ Y=>?_;refine GO 2 ?_;intro _ Y;apply bI (x:=!bD x.c 1 (4096-x.a)) Y Z 94 rfl 8 102
        case hf=>
         intro g;refine GO 4 ?_;intro _ Y;refine sy Y (fp (Y.ev rfl) (Y.ev rfl) (by have y:bD x.a 0 4095=true:=(ar g);have:=inB_true.1 y;omega)) fun _ Y=>?_;refine ct Y (ao Y _ rfl rfl rfl g) (az bc (Y.evs rfl) rfl) rfl rfl (bu _ _ _ _) fun _ Y=>GO 2 ?_;intro _ Y;exact ah ⟨Y.midE 7,Z⟩
        case ht=>
         intro g;refine GO 8 ?_;intro _ Y;exact ah ⟨Y.midE 7,Z⟩
        case h=>
         rintro W Qd ⟨Zv,V⟩
         refine ah (aj ?_);refine ak (Zv.ev rfl) (fun d=>?_) (fun d=>?_)
         ·
          have e:(bD x.a 0 4095&&bD x.c 1 (4096-x.a))=false:=by rw[←Bool.not_and] at d;cases hh:(bD x.a 0 4095&&bD x.c 1 (4096-x.a)) with | false=>rfl | true=>rw[hh] at d;cases d
          rw[e] at b;refine GO 8 ?_;intro _ Y;refine aI Y rfl rfl ?_;exact⟨by first | (rw[b];done) | (rw[b];rfl),V.below⟩
         ·
          have e:(bD x.a 0 4095&&bD x.c 1 (4096-x.a))=true:=by rw[←Bool.not_and] at d;cases hh:(bD x.a 0 4095&&bD x.c 1 (4096-x.a)) with | true=>rfl | false=>rw[hh] at d;cases d
          rw[e] at b;refine GO 9 ?_;intro _ Y;refine aI Y rfl rfl ?_;exact⟨by first | (rw[b];done) | (rw[b];rfl),V.below⟩
       ·
        have k0:x.k≠1∧x.k≠2∧x.k≠3∧x.k≠4∧x.k≠5:=⟨q,l,p,ar t,ar j⟩;rw[Gc k0 u hf] at b;refine GO 6 ?_;intro _ Y;refine ak (Y.ev rfl) (fun J=>?_) (fun J=>?_)
        ·
         skip
         refine GO 7 ?_;intro _ Y;apply bI (x:=((x.n.size:Int) != 512)) Y Z 109 rfl 5 114
         case hf=>
          intro Zl;refine GO 5 ?_;intro _ Y;exact ah ⟨Y.midE 4,Z⟩
         case ht=>
          intro Zl;refine GO 5 ?_;intro _ Y;exact ah ⟨Y.midE 4,Z⟩
         case h=>
          rintro R Qe ⟨Zx,P⟩
          refine ah (aj ?_);refine ak (Zx.ev rfl) (fun C=>?_) (fun C=>?_)
          ·
           rw[if_pos ⟨ar J,by simp only[Bool.or_eq_true,bne_iff_ne] at C;omega⟩] at b;refine GO 8 ?_;intro _ Y;refine aI Y rfl rfl ?_;exact⟨by first | (rw[b];done) | (rw[b];rfl),P.below⟩
          ·
           rw[if_neg (by simp only[Bool.or_eq_false_iff,bne_eq_false_iff_eq] at C;omega)] at b;refine GO 9 ?_;intro _ Y;refine aI Y rfl rfl ?_;exact⟨by first | (rw[b];done) | (rw[b];rfl),P.below⟩
        ·
         rw[if_neg (by have:x.k≠6:=(ar J);omega)] at b;refine GO 9 ?_;intro _ Y;refine aI Y rfl rfl ?_;exact⟨by first | (rw[b];done) | (rw[b];rfl),Z.below⟩
open Go.RowKit Go.Sort
open Go.RowKit Go.Sort
def opsV (l:List Op):List Value:=l.flatMap As
theorem tY (l:List Op):(opsV l).length=6*l.length:=by
 induction l with
 | nil=>rfl
 | cons f l ih=>simp[opsV,As] at ih ⊢;omega
theorem iD (l:List Op):∀(k:Nat) (h:k<l.length) (j:Nat) (u:Value),(As l[k])[j]? = some u→(opsV l)[k*6+j]? = some u:=by
 induction l with
 | nil=>intro k h;exact absurd h bm
 | cons f l ih=>
  intro k h j u a;have b:j<6:=(List.getElem?_eq_some_iff.1 a).1
  cases k with
  | zero=>
   show(As f ++ opsV l)[0*6+j]? = some u;rw[List.getElem?_append_left (by show _<6;omega),Nat.zero_mul,Nat.zero_add];exact a
  | succ k=>
   show(As f ++ opsV l)[(k+1)*6+j]? = some u;rw[List.getElem?_append_right (by show 6≤_;omega)];have:=ih k (ar h) j u (ar a);rw[←this]
   congr 1
   show(k+1)*6+j-6=_;omega
def uz (l:List Op):Prop:=∀j (h:j<l.length),l[j].o.size≤3100∧l[j].n.size≤3100
open Go.ChangeShapes Go.WideShapes Go.ChangeAt Go.RowKit
structure Lge where
 k:Int
 t:Int
 p:Int
 x:Int
 g:Int
 f:Bool
 o:Op
 d:ByteArray
def xQ (e:Lge):List Value:=[ae e.k,ae e.t,ae e.p,ae e.x,ae e.g,.bool e.f,ae e.o.k,ae e.o.a,ae e.o.e,ae e.o.c,.string e.o.o,.string e.o.n,.string e.d]
def cZ (e:Lge):Value:=.agg (xQ e).toArray
structure Rdo where
 f:Bool
 o:Op
 n:Int
open Go.RowKit
structure Trn where
 i:Int
 l:Int
 u:Int
 c:Bool
 deriving DecidableEq
structure Dty where
 g:Int
 f:Bool
 l:Int
 deriving DecidableEq
structure Tbl where
 ts:List Trn
 ds:List Dty
 deriving DecidableEq
structure Rcd where
 l:Int
 e:Lge
structure Pgp where
 g:Int
 f:Bool
 b:ByteArray
 deriving DecidableEq
def iu:Tbl:=⟨[],[]⟩
def cc (x:Trn):List Value:=[ae x.i,ae x.l,ae x.u,.bool x.c]
def cw (x:Dty):List Value:=[ae x.g,.bool x.f,ae x.l]
def cm (x:Rcd):List Value:=ae x.l::xQ x.e
def cS (x:Pgp):List Value:=[ae x.g,.bool x.f,.string x.b]
theorem bG (x:Trn):(cc x).length=4:=rfl
theorem bU (x:Dty):(cw x).length=3:=rfl
theorem aO (x:Rcd):(cm x).length=14:=rfl
theorem bZ (x:Pgp):(cS x).length=3:=rfl
theorem tX (x:Trn):∀u∈cc x,u.oneCell'=true:=by
 intro u a;simp only[cc,List.mem_cons,List.not_mem_nil,or_false] at a
 rcases a with rfl | rfl | rfl | rfl<;>rfl
theorem vh (x:Dty):∀u∈cw x,u.oneCell'=true:=by
 intro u a;simp only[cw,List.mem_cons,List.not_mem_nil,or_false] at a
 rcases a with rfl | rfl | rfl<;>rfl
theorem Dt (x:Pgp):∀u∈cS x,u.oneCell'=true:=by
 intro u a;simp only[cS,List.mem_cons,List.not_mem_nil,or_false] at a
 rcases a with rfl | rfl | rfl<;>rfl
theorem Bh (x:Rcd):∀u∈cm x,u.oneCell'=true:=by
 intro u a;simp only[cm,xQ,List.mem_cons,List.not_mem_nil,or_false] at a
 rcases a with rfl | rfl | rfl | rfl | rfl | rfl | rfl | rfl | rfl | rfl | rfl | rfl | rfl | rfl<;>rfl
def dv {α:Type} (l:List α) (i:Nat):Option α:=if i=0 then none else l[i-1]?
def lX (p:Option Trn) (x:Trn):Int:=aw [bF (bD x.i 1 9999&&bD x.l 1 2147483647&&bD x.u 0 x.l) 2,bF (match p with | none=>true | some y=>decide (y.i<x.i)) 9]
def mC (p:Option Dty) (x:Dty):Int:=aw [bF (bD x.g 0 600&&bD x.l 1 2147483647) 2,bF (match p with | none=>true | some y=>decide (y.g<x.g)) 9]
def kU (l:List Trn):Int × Int:=di (fun i x=>lX (dv l i) x) 0 l
def vP (l:List Dty):Int × Int:=di (fun i x=>mC (dv l i) x) 0 l
def dz (t:Tbl):Int:=if 60<t.ts.length∨60<t.ds.length then 8 else if (kU t.ts).2≠0 then (kU t.ts).2 else (vP t.ds).2
def ir (b:Bool):Int:=if b then 1 else 0
def kJ (x:Trn):List UInt8:=lit x.i 2 ++ (lit x.l 4 ++ (lit x.u 4 ++ lit (ir x.c) 1))
def kL (x:Dty):List UInt8:=lit x.g 2 ++ (lit (ir x.f) 1 ++ lit x.l 4)
def jx (t:Tbl):List UInt8:=lit t.ts.length 1 ++ lit t.ds.length 1 ++ (t.ts.flatMap kJ ++ t.ds.flatMap kL)
theorem lT (x:Trn):(kJ x).length=11:=by unfold kJ;simp only[List.length_append,aB]
theorem l7 (x:Dty):(kL x).length=7:=by unfold kL;simp only[List.length_append,aB]
def oX (s:List UInt8) (a:Nat):Trn:=⟨fw s a 2,fw s (a+2) 4,fw s (a+6) 4,fw s (a+10) 1==1⟩
def qs (s:List UInt8) (a:Nat):Dty:=⟨fw s a 2,fw s (a+2) 1==1,fw s (a+3) 4⟩
def bh (s:List UInt8):Nat:=(fw s 0 1).toNat
def dP (s:List UInt8):Nat:=(fw s 1 1).toNat
def iO (s:List UInt8) (k:Nat):List Trn:=(List.range k).map fun i=>oX s (2+11*i)
def kd (s:List UInt8) (k:Nat):List Dty:=(List.range k).map fun i=>qs s (2+11*bh s+7*i)
def gx (s:List UInt8) (k:Nat):Bool:=(List.range k).all fun i=>decide (fw s (2+11*i+10) 1≤1)
def im (s:List UInt8) (k:Nat):Bool:=(List.range k).all fun i=>decide (fw s (2+11*bh s+7*i+2) 1≤1)
def dT (s:List UInt8):Tbl:=⟨iO s (bh s),kd s (dP s)⟩
def gE (s:List UInt8):Int:=if s.length<2 then 10 else if s.length≠2+11*bh s+7*dP s then 10 else aw [bF (gx s (bh s)&&im s (dP s)) 3,dz (dT s)]
def dg (s:List UInt8):Tbl:=if gE s=0 then dT s else iu
theorem Gf {s x t:List UInt8} {a c:Nat} (h:s.drop a=x ++ t) (b:x.length=c):fw s a c=num x:=by
 unfold fw;rw[h,List.take_left' b]
theorem gS {s x t:List UInt8} {a c:Nat} (h:s.drop a=x ++ t) (b:x.length=c):s.drop (a+c)=t:=by
 rw[←List.drop_drop,h,List.drop_left' b]
theorem gv {s t:List UInt8} {a c:Nat} {n:Int} (h:s.drop a=lit n c ++ t) (b:0≤n) (d:n<256 ^ c):fw s a c=n:=by
 rw[Gf h (aB _ _),yD];exact Int.emod_eq_of_lt b d
theorem Ay (s:List UInt8) (a m n:Nat):(s.drop a).take m ++ (s.drop (a+m)).take n=(s.drop a).take (m+n):=by
 rw[←List.drop_drop];generalize s.drop a=l;rw[←List.take_append_drop m (l.take (m+n)),List.take_take,Nat.min_eq_left ab,List.drop_take,Nat.add_sub_cancel_left]
theorem pN {α:Type} {f:α→List UInt8} {n:Nat} (hf:∀x,(f x).length=n) (l:List α) (k:Nat):(l.flatMap f).drop (n*k)=(l.drop k).flatMap f:=by
 induction l generalizing k with
 | nil=>simp
 | cons x l ih=>
  cases k with
  | zero=>simp
  | succ k=>rw[List.flatMap_cons,List.drop_succ_cons,←ih k,Nat.mul_succ,Nat.add_comm,←List.drop_drop,List.drop_left' (hf x)]
theorem kC {α:Type} {f:α→List UInt8} {n:Nat} (hf:∀x,(f x).length=n) (l:List α):(l.flatMap f).length=n*l.length:=by
 induction l with
 | nil=>rfl
 | cons x l ih=>rw[List.flatMap_cons,List.length_append,ih,hf,List.length_cons,Nat.mul_succ,Nat.add_comm]
structure TrnOk (x:Trn):Prop where
 i:1≤x.i∧x.i≤9999
 l:1≤x.l∧x.l≤2147483647
 u:0≤x.u∧x.u≤x.l
structure DtyOk (x:Dty):Prop where
 g:0≤x.g∧x.g≤600
 l:1≤x.l∧x.l≤2147483647
theorem trnE_zero {p:Option Trn} {x:Trn}:lX p x=0↔TrnOk x∧∀y,p=some y→y.i<x.i:=by
 unfold lX;rw[aS];simp only[List.mem_cons,List.not_mem_nil,or_false,forall_eq_or_imp,forall_eq];rw[aD au,aD au,Bool.and_eq_true,Bool.and_eq_true,inB_true,inB_true,inB_true]
 constructor
 · rintro ⟨⟨⟨b,a⟩,h3⟩,c⟩
   refine⟨⟨b,a,h3⟩,fun y d=>?_⟩;subst d;simpa using c
 · rintro ⟨⟨b,a,h3⟩,c⟩
   refine⟨⟨⟨b,a⟩,h3⟩,?_⟩
   cases p with
   | none=>rfl
   | some y=>simpa using c y rfl
theorem dtyE_zero {p:Option Dty} {x:Dty}:mC p x=0↔DtyOk x∧∀y,p=some y→y.g<x.g:=by
 unfold mC;rw[aS];simp only[List.mem_cons,List.not_mem_nil,or_false,forall_eq_or_imp,forall_eq];rw[aD au,aD au,Bool.and_eq_true,inB_true,inB_true]
 constructor
 · rintro ⟨⟨b,a⟩,c⟩
   refine⟨⟨b,a⟩,fun y d=>?_⟩;subst d;simpa using c
 · rintro ⟨⟨b,a⟩,c⟩
   refine⟨⟨b,a⟩,?_⟩
   cases p with
   | none=>rfl
   | some y=>simpa using c y rfl
structure TblOk (t:Tbl):Prop where
 n:t.ts.length≤60
 m:t.ds.length≤60
 ts:∀k (h:k<t.ts.length),TrnOk t.ts[k]
 ds:∀k (h:k<t.ds.length),DtyOk t.ds[k]
 tord:∀k (h:k+1<t.ts.length),t.ts[k].i<t.ts[k+1].i
 dord:∀k (h:k+1<t.ds.length),t.ds[k].g<t.ds[k+1].g
theorem cY {α:Type} (f:Nat→α→Int) (l:List α):(di f 0 l).2=0↔∀k (h:k<l.length),f k l[k]=0:=by
 constructor
 · intro h k a
   have:=jA f l 0 h k a
   rwa [Nat.zero_add] at this
 · intro h
   rw[dc f l 0 fun k a=>by rw[Nat.zero_add];exact h k a]
theorem eX {α:Type} (l:List α) (k:Nat) (h:k<l.length):dv l (k+1)=some l[k]:=by
 unfold dv;rw[if_neg ab,Nat.add_sub_cancel,List.getElem?_eq_getElem h]
theorem tblE_zero {t:Tbl}:dz t=0↔TblOk t:=by
 unfold dz kU vP
 constructor
 · intro h
   split at h
   · cases h
   rename_i e
   split at h
   · rename_i c;exact absurd h c
   rename_i c
   have c:=(cY _ _).1 (Classical.not_not.1 c);have d:=(cY _ _).1 h;refine⟨by omega,by omega,fun k a=>(trnE_zero.1 (c k a)).1,fun k a=>(dtyE_zero.1 (d k a)).1,fun k a=>?_,fun k a=>?_⟩
   · exact(trnE_zero.1 (c (k+1) a)).2 _ (eX _ _ _)
   · exact(dtyE_zero.1 (d (k+1) a)).2 _ (eX _ _ _)
 · intro h
   rw[if_neg (by have:=h.n;have:=h.m;omega)];rw[if_neg]
   · rw[cY]
     intro k a;rw[dtyE_zero];refine⟨h.ds k a,fun y b=>?_⟩
     cases k with
     | zero=>cases b
     | succ k=>rw[eX _ _ ab] at b;cases b;exact h.dord k a
   · rw[Classical.not_not,cY]
     intro k a;rw[trnE_zero];refine⟨h.ts k a,fun y b=>?_⟩
     cases k with
     | zero=>cases b
     | succ k=>rw[eX _ _ ab] at b;cases b;exact h.tord k a
theorem uW (b:Bool):(ir b==1)=b:=by cases b<;>rfl
theorem oO (b:Bool):0≤ir b∧ir b≤1:=by cases b<;>decide
theorem vC {s t:List UInt8} {a:Nat} {x:Trn} (h:s.drop a=kJ x ++ t) (hx:TrnOk x):oX s a=x∧fw s (a+10) 1≤1:=by
 unfold kJ at h;simp only[List.append_assoc] at h;have Y:=hx.i;have Y:=hx.l;have Y:=hx.u;have Y:=oO x.c;have f:=gS h (aB _ _);have e:=gS f (aB _ _);have b:=gS e (aB _ _);rw[Nat.add_assoc] at e b;rw[Nat.add_assoc] at b;have d:fw s (a+10) 1=ir x.c:=gv b Y.1 ab;refine⟨?_,by rw[d];exact Y.2⟩;unfold oX;rw[d,uW,gv h ab ab,gv f ab ab,gv e ab ab]
theorem vH {s t:List UInt8} {a:Nat} {x:Dty} (h:s.drop a=kL x ++ t) (hx:DtyOk x):qs s a=x∧fw s (a+2) 1≤1:=by
 unfold kL at h;simp only[List.append_assoc] at h;have Y:=hx.g;have Y:=hx.l;have Y:=oO x.f;have c:=gS h (aB _ _);have b:=gS c (aB _ _);rw[Nat.add_assoc] at b;have n2:fw s (a+2) 1=ir x.f:=gv c Y.1 ab;refine⟨?_,by rw[n2];exact Y.2⟩;unfold qs;rw[n2,uW,gv h ab ab,gv b ab ab]
theorem xP {α:Type} (l:List α) (g:Nat→α) (h:∀k (c:k<l.length),g k=l[k]):(List.range l.length).map g=l:=by
 apply List.ext_getElem bm;intro k b a;rw[List.getElem_map,List.getElem_range];exact h k a
theorem AA {t:Tbl} (h:dz t=0):gE (jx t)=0∧dT (jx t)=t:=by
 have d:=tblE_zero.1 h;obtain⟨s,e⟩:∃s,s=jx t:=⟨_,rfl⟩;rw[←e];have A:=d.n;have hm:=d.m
 have v:s.drop 0=lit t.ts.length 1 ++ (lit t.ds.length 1 ++ (t.ts.flatMap kJ ++ t.ds.flatMap kL)):=by rw[e,List.drop_zero];unfold jx;rw[List.append_assoc]
 have o:=gS v (aB _ _);have q:=gS o (aB _ _);have y:fw s 0 1=t.ts.length:=gv v ab ab;have n1:fw s 1 1=t.ds.length:=gv o ab ab
 have f:bh s=t.ts.length:=by unfold bh;rw[y];rfl
 have g:dP s=t.ds.length:=by unfold dP;rw[n1];rfl
 have w:=kC lT t.ts;have e2:=kC l7 t.ds
 have j:s.length=2+11*t.ts.length+7*t.ds.length:=by
  rw[e];unfold jx;simp only[List.length_append,aB,w,e2];omega
 have p:∀k (a:k<t.ts.length),∃r,s.drop (2+11*k)=kJ t.ts[k] ++ r:=fun k a=>by
  rw[←List.drop_drop];have c:s.drop 2=t.ts.flatMap kJ ++ t.ds.flatMap kL:=q;rw[c,List.drop_append_of_le_length ab,pN lT,List.drop_eq_getElem_cons a,List.flatMap_cons,List.append_assoc];exact⟨_,rfl⟩
 have l:∀k (a:k<t.ds.length),∃r,s.drop (2+11*t.ts.length+7*k)=kL t.ds[k] ++ r:=fun k a=>by
  have c:s.drop 2=t.ts.flatMap kJ ++ t.ds.flatMap kL:=q;rw[←List.drop_drop,←List.drop_drop,c,List.drop_left' w,pN l7,List.drop_eq_getElem_cons a,List.flatMap_cons];exact⟨_,rfl⟩
 have u:dT s=t:=by
  unfold dT iO kd
  have z:=xP t.ts (fun i=>oX s (2+11*i)) fun k a=>by
   obtain⟨r,hr⟩:=p k a;exact(vC hr (d.ts k a)).1
  have x:=xP t.ds (fun i=>qs s (2+11*t.ts.length+7*i)) fun k a=>by
   obtain⟨r,hr⟩:=l k a;exact(vH hr (d.ds k a)).1
  rw[f,g,z,x]
 refine⟨?_,u⟩;unfold gE;rw[if_neg ab,f,g,if_neg ab,aS];simp only[List.mem_cons,List.not_mem_nil,or_false,forall_eq_or_imp,forall_eq];refine⟨?_,by rw[u];exact h⟩;rw[aD au,Bool.and_eq_true];unfold gx im;refine⟨List.all_eq_true.2 fun k a=>decide_eq_true ?_,List.all_eq_true.2 fun k a=>decide_eq_true ?_⟩
 · have b:=List.mem_range.1 a
   obtain⟨r,hr⟩:=p k b;exact(vC hr (d.ts k b)).2
 · have b:=List.mem_range.1 a
   obtain⟨r,hr⟩:=l k b;rw[f];exact(vH hr (d.ds k b)).2
end Go.Proofs.YtcfdpfmchchkaaaGreatDoor
