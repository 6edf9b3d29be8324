/- Chapter 21 -/
import Derived.Test.YtcfdpfmchchkaaaGreatDoorOpD
namespace Go.Proofs.YtcfdpfmchchkaaaGreatDoor
set_option maxRecDepth 100000
set_option maxHeartbeats 1000000
set_option linter.unusedVariables false
set_option linter.unusedSimpArgs false
open Go.RowKit Go.Sort
theorem n9 (x:Op):gy x=if bB x.k 0 6=false then 15 else if dC x=false then 3 else if dZ x=false then 10 else if dq x.k=true∧dA x=0 then 17
 else if dq x.k=true∧200<dA x then 8 else if ga x=false then 2 else 0:=by
 unfold gy
 cases hk:bB x.k 0 6
 · rfl
 · rw[if_neg au,if_neg au]
   have c:(!dq x.k||decide (0<dA x))=!(decide (dq x.k=true∧dA x=0)):=by
    cases dq x.k
    · simp
    · rw[Bool.eq_iff_iff];simp only[Bool.not_true,Bool.false_or,true_and,Bool.not_eq_true',decide_eq_true_eq,decide_eq_false_iff_not];omega
   have d:(!dq x.k||decide (dA x≤200))=!(decide (dq x.k=true∧200<dA x)):=by
    cases dq x.k
    · simp
    · rw[Bool.eq_iff_iff];simp only[Bool.not_true,Bool.false_or,true_and,Bool.not_eq_true',decide_eq_true_eq,decide_eq_false_iff_not];omega
   rw[c,d]
   cases dC x
   · simp[av,bQ]
   · cases dZ x
     · simp[av,bQ]
     · by_cases a:dq x.k=true∧dA x=0
       · simp[av,bQ,a]
       · by_cases b:dq x.k=true∧200<dA x
         · simp only[av,bQ,decide_eq_false a,decide_eq_true b,if_neg a,if_pos b];simp
         · simp only[av,bQ,decide_eq_false a,decide_eq_false b,if_neg a,if_neg b]
           cases ga x<;>simp
def qd (c:Int) (r:Bool):Int:=if c=0 then 17 else if 200<c then 8 else bQ r 2
theorem j1 (x:Op) (c:Int) (r:Bool) (w:World) :
 bu 209 #[fj x,ae c,.bool r] w (ae (qd c r)):=by
 obtain⟨E,a⟩:∃E,E=qd c r:=⟨_,rfl⟩;rw[←a];unfold qd at a;refine an (N:=13) Tryz.func209 rfl rfl rfl (fun _ Y=>?_);have Z:=St.init w;refine aj (aq ?_);refine nb Y rfl rfl Z fun f _ _ g Y Z=>GO 10 ?_;intro _ Y;refine ak (Y.ev rfl) (fun b=>?_) (fun b=>?_)
 ·
  rw[if_pos (al b)] at a;refine GO 7 ?_;intro _ Y;refine aC Y rfl rfl ?_;exact⟨by first | (rw[a];done) | (rw[a];rfl),Z.below⟩
 ·
  rw[if_neg (al b)] at a;refine GO 9 ?_;intro _ Y;refine ak (Y.ev rfl) (fun d=>?_) (fun d=>?_)
  ·
   rw[if_pos (al d)] at a;refine GO 7 ?_;intro _ Y;refine aC Y rfl rfl ?_;exact⟨by first | (rw[a];done) | (rw[a];rfl),Z.below⟩
  ·
   rw[if_neg (al d)] at a;refine GO 9 ?_;intro _ Y;refine ak (Y.ev rfl) (fun e=>?_) (fun e=>?_)
   ·
    rw[show r=false by simpa using e] at a;refine GO 7 ?_;intro _ Y;refine aC Y rfl rfl ?_;exact⟨by first | (rw[a];done) | (rw[a];rfl),Z.below⟩
   ·
    rw[show r=true by simpa using e] at a;refine GO 8 ?_;intro _ Y;refine aC Y rfl rfl ?_;exact⟨by first | (rw[a];done) | (rw[a];rfl),Z.below⟩
theorem vI (s:ByteArray):(!decide (s=⟨#[]⟩))=(s.size != 0):=by rw[rQ];rfl
theorem EJ (x:Op):(((((!((x.k==1||(x.k==2||x.k==3))||(x.k==4||x.k==5))&&(x.a != 0))||(!(x.k==2||x.k==3)&&(x.e != 0)))||(!(x.k==4||x.k==5)&&(x.c != 0)))||(!((x.k==1||x.k==3)||x.k==6)&&(x.o.size != 0)))||(!((x.k==1||x.k==2)||x.k==6)&&(x.n.size != 0)))=!dC x:=by
 have f:((x.k==1||(x.k==2||x.k==3))||(x.k==4||x.k==5))=Ak x.k:=by unfold Ak;rw[Bool.eq_iff_iff,inB_true];simp;omega
 have e2:(x.k==2||x.k==3)=rL x.k:=by unfold rL;rw[Bool.eq_iff_iff,inB_true];simp;omega
 have e3:(x.k==4||x.k==5)=j4 x.k:=by unfold j4;rw[Bool.eq_iff_iff,inB_true];simp;omega
 have d:((x.k==1||x.k==3)||x.k==6)=qf x.k:=rfl;have b:((x.k==1||x.k==2)||x.k==6)=rJ x.k:=rfl;rw[f,e2,e3,d,b];unfold dC bne
 cases Ak x.k<;>cases rL x.k<;>cases j4 x.k<;>cases qf x.k<;>cases rJ x.k<;>cases (x.a==0)<;>cases (x.e==0)<;>cases (x.c==0)<;>cases (x.o.size==0)<;>cases (x.n.size==0)<;>rfl
theorem wS (x:Op) (w:World) :
 bu 208 #[fj x] w (ae (bQ (dC x) 3)):=by
 have hF:=EJ x;refine an (N:=102) Tryz.func208 rfl rfl rfl (fun _ Y=>?_);have Z:=St.init w;refine aj (aq ?_);refine nb Y rfl rfl Z fun b1 _ _ Jb Y Z=>GO 9 ?_;intro _ Y;apply bI (x:=x.k==3) Y Z 11 rfl 4 15
 case hf=>
  intro T;refine GO 4 ?_;intro _ Y;exact ag ⟨Y.midE 3,Z⟩
 case ht=>
  intro T;refine GO 4 ?_;intro _ Y;exact ag ⟨Y.midE 3,Z⟩
 case h=>
  rintro H Jc ⟨Jd,p⟩
  refine GO 9 ?_;intro _ Y;apply bI (x:=x.k==5) Y p 19 rfl 4 23
  case hf=>
   intro Zh;refine GO 4 ?_;intro _ Y;exact ag ⟨Y.midE 3,p⟩
  case ht=>
   intro Zh;refine GO 4 ?_;intro _ Y;exact ag ⟨Y.midE 3,p⟩
  case h=>
   rintro Jy Je ⟨Jf,s⟩
   refine GO 9 ?_;intro _ Y;apply bI (x:=(x.k==2||x.k==3)) Y s 27 rfl 2 29
   case hf=>
    intro U;refine GO 2 ?_;intro _ Y;exact ag ⟨Y.midE 1,s⟩
   case ht=>
    intro U;refine GO 2 ?_;intro _ Y;exact ag ⟨Y.midE 1,s⟩
   case h=>
    rintro Jz Jg ⟨Jh,r⟩
    refine GO 1 ?_;intro _ Y;apply bI (x:=(x.k==4||x.k==5)) Y r 30 rfl 2 32
    case hf=>
     intro R;refine GO 2 ?_;intro _ Y;exact ag ⟨Y.midE 1,r⟩
    case ht=>
     intro R;refine GO 2 ?_;intro _ Y;exact ag ⟨Y.midE 1,r⟩
    case h=>
     rintro Jv Ji ⟨Jj,i⟩
     refine GO 9 ?_;intro _ Y;apply bI (x:=x.k==3) Y i 36 rfl 4 40
     case hf=>
      intro Zn;refine GO 4 ?_;intro _ Y;exact ag ⟨Y.midE 3,i⟩
     case ht=>
      intro Zn;refine GO 4 ?_;intro _ Y;exact ag ⟨Y.midE 3,i⟩
     case h=>
      rintro Jx Jk ⟨Jl,t⟩
      refine GO 1 ?_;intro _ Y;apply bI (x:=x.k==6) Y t 41 rfl 4 45
      case hf=>
       intro V;refine GO 4 ?_;intro _ Y;exact ag ⟨Y.midE 3,t⟩
      case ht=>
       intro V;refine GO 4 ?_;intro _ Y;exact ag ⟨Y.midE 3,t⟩
      case h=>
       rintro X Jm ⟨Jn,q⟩
       refine GO 9 ?_;intro _ Y;apply bI (x:=x.k==2) Y q 49 rfl 4 53
       case hf=>
        intro S;refine GO 4 ?_;intro _ Y;exact ag ⟨Y.midE 3,q⟩
       case ht=>
        intro S;refine GO 4 ?_;intro _ Y;exact ag ⟨Y.midE 3,q⟩
       case h=>
        rintro M Jo ⟨Jp,m⟩
        refine GO 1 ?_;intro _ Y;apply bI (x:=x.k==6) Y m 54 rfl 4 58
        case hf=>
         intro W;refine GO 4 ?_;intro _ Y;exact ag ⟨Y.midE 3,m⟩
        case ht=>
         intro W;refine GO 4 ?_;intro _ Y;exact ag ⟨Y.midE 3,m⟩
        case h=>
         rintro Jw Jq ⟨Jr,l⟩
         refine GO 9 ?_;intro _ Y;apply a8 (x:=x.a != 0) Y l 61 rfl 4 65
         case ht=>
          intro Zv;refine GO 4 ?_;intro _ Y;exact ag ⟨Y.midE 3,l⟩
         case hf=>
          intro Zv;refine GO 4 ?_;intro _ Y;exact ag ⟨Y.midE 3,l⟩
         case h=>
          rintro E Qk ⟨Ql,b⟩
          refine GO 1 ?_;intro _ Y;apply bI (x:=(!(x.k==2||x.k==3)&&(x.e != 0))) Y b 66 rfl 8 74
          case hf=>
           intro Q;refine GO 3 ?_;intro _ Y;apply a8 (x:=x.e != 0) Y b 69 rfl 4 73
           case ht=>
            intro K;refine GO 4 ?_;intro _ Y;exact ag ⟨Y.midE 3,b⟩
           case hf=>
            intro K;refine GO 4 ?_;intro _ Y;exact ag ⟨Y.midE 3,b⟩
           case h=>
            rintro v Qm ⟨Qn,I⟩
            refine GO 1 ?_;intro _ Y;exact ag ⟨Y.midE 4,I⟩
          case ht=>
           intro Q;refine GO 3 ?_;intro _ Y;refine cw Y (aE Y _ rfl rfl rfl) rfl rfl fun _ Y=>cw Y (aE Y _ rfl rfl rfl) rfl rfl fun _ Y=>cw Y (aE Y _ rfl rfl rfl) rfl rfl fun _ Y=>GO 2 ?_;intro _ Y;exact ag ⟨Y.midE 7,b⟩
          case h=>
           rintro B Qo ⟨Qp,f⟩
           refine GO 1 ?_;intro _ Y;apply bI (x:=(!(x.k==4||x.k==5)&&(x.c != 0))) Y f 75 rfl 8 83
           case hf=>
            intro O;refine GO 3 ?_;intro _ Y;apply a8 (x:=x.c != 0) Y f 78 rfl 4 82
            case ht=>
             intro G;refine GO 4 ?_;intro _ Y;exact ag ⟨Y.midE 3,f⟩
            case hf=>
             intro G;refine GO 4 ?_;intro _ Y;exact ag ⟨Y.midE 3,f⟩
            case h=>
             rintro D Qq ⟨Qr,J⟩
             refine GO 1 ?_;intro _ Y;exact ag ⟨Y.midE 4,J⟩
           case ht=>
            intro O;refine GO 3 ?_;intro _ Y;refine cw Y (aE Y _ rfl rfl rfl) rfl rfl fun _ Y=>cw Y (aE Y _ rfl rfl rfl) rfl rfl fun _ Y=>cw Y (aE Y _ rfl rfl rfl) rfl rfl fun _ Y=>GO 2 ?_;intro _ Y;exact ag ⟨Y.midE 7,f⟩
           case h=>
            rintro A Qs ⟨Qt,d⟩
            refine GO 1 ?_;intro _ Y;apply bI (x:=(!((x.k==1||x.k==3)||x.k==6)&&(x.o.size != 0))) Y d 84 rfl 8 92
            case hf=>
             intro Qc;refine GO 3 ?_;intro _ Y;apply a8 (x:=x.o.size != 0) Y d 87 rfl 4 91
             case ht=>
              intro Qd;refine GO 2 ?_;intro _ Y;refine sy Y (aA (v':=.bool (x.o.size != 0)) (congrArg _ (vI _)) (pO (Y.ev rfl) (Y.ev rfl))) fun _ Y=>?_;refine GO 1 ?_;intro _ Y;exact ag ⟨Y.midE 3,d⟩
             case hf=>
              intro Qd;refine GO 4 ?_;intro _ Y;exact ag ⟨Y.midE 3,d⟩
             case h=>
              rintro y Qu ⟨Qv,Qe⟩
              refine GO 1 ?_;intro _ Y;exact ag ⟨Y.midE 4,Qe⟩
            case ht=>
             intro Qc;refine GO 3 ?_;intro _ Y;refine cw Y (aE Y _ rfl rfl rfl) rfl rfl fun _ Y=>cw Y (aE Y _ rfl rfl rfl) rfl rfl fun _ Y=>cw Y (aE Y _ rfl rfl rfl) rfl rfl fun _ Y=>GO 2 ?_;intro _ Y;exact ag ⟨Y.midE 7,d⟩
            case h=>
             rintro u Qw ⟨Qx,g⟩
             refine GO 1 ?_;intro _ Y;apply bI (x:=(!((x.k==1||x.k==2)||x.k==6)&&(x.n.size != 0))) Y g 93 rfl 8 101
             case hf=>
              intro L;refine GO 3 ?_;intro _ Y;apply a8 (x:=x.n.size != 0) Y g 96 rfl 4 100
              case ht=>
               intro Qg;refine GO 2 ?_;intro _ Y;refine sy Y (aA (v':=.bool (x.n.size != 0)) (congrArg _ (vI _)) (pO (Y.ev rfl) (Y.ev rfl))) fun _ Y=>?_;refine GO 1 ?_;intro _ Y;exact ag ⟨Y.midE 3,g⟩
              case hf=>
               intro Qg;refine GO 4 ?_;intro _ Y;exact ag ⟨Y.midE 3,g⟩
              case h=>
               rintro C Qy ⟨Qz,P⟩
               refine GO 1 ?_;intro _ Y;exact ag ⟨Y.midE 4,P⟩
             case ht=>
              intro L;refine GO 3 ?_;intro _ Y;refine cw Y (aE Y _ rfl rfl rfl) rfl rfl fun _ Y=>cw Y (aE Y _ rfl rfl rfl) rfl rfl fun _ Y=>cw Y (aE Y _ rfl rfl rfl) rfl rfl fun _ Y=>GO 2 ?_;intro _ Y;exact ag ⟨Y.midE 7,g⟩
             case h=>
              rintro z Ja ⟨Qi,F⟩
              refine ag (ai ?_);refine ak (Qi.ev rfl) (fun j=>?_) (fun j=>?_)
              ·
               have e:dC x=false:=by rw[j] at hF;simpa using hF.symm
               refine GO 7 ?_;intro _ Y;refine aC Y rfl rfl ?_;exact⟨by first | (rw[e];done) | (rw[e];rfl),F.below⟩
              ·
               have e:dC x=true:=by rw[j] at hF;simpa using hF.symm
               refine GO 8 ?_;intro _ Y;refine aC Y rfl rfl ?_;exact⟨by first | (rw[e];done) | (rw[e];rfl),F.below⟩
open Go.RowKit Go.Sort
theorem vm {k a e c:Int} {o n:ByteArray} (h:true=dC ⟨k,a,e,c,o,n⟩):(k=2→o.size=0)∧(k=3→n.size=0):=by
 simp only[dC,qf,rJ,Bool.and_eq_true,Bool.or_eq_true,beq_iff_eq] at h;have h:=h.symm;simp only[Bool.and_eq_true,Bool.or_eq_true,beq_iff_eq] at h;omega
theorem Ib {x:Op} (b:x.k=1) (hf:dC x=true):gy x=if x.o.size≠x.n.size then 10 else qd x.o.size (bB x.a 0 511&&decide ((x.o.size:Int)≤512-x.a)):=by
 have e:bB x.k 0 6=true:=by rw[inB_true];omega
 have h3:dq x.k=true:=by unfold dq;rw[inB_true];omega
 have f:dZ x=(x.o.size==x.n.size):=by unfold dZ;rw[if_pos b]
 have hr:ga x=(bB x.a 0 511&&decide ((x.o.size:Int)≤512-x.a)):=by unfold ga;rw[if_pos b]
 rw[n9,hf,f,h3,hr,if_neg (by rw[e];decide),if_neg au];generalize (bB x.a 0 511&&decide ((x.o.size:Int)≤512-x.a))=r;by_cases h:x.o.size=x.n.size
 · have i:dA x=x.o.size:=by unfold dA;omega
   rw[if_neg (by rw[beq_iff_eq.2 h];decide),if_neg (show ¬(x.o.size≠x.n.size) from fun g=>g h),i];by_cases d:x.o.size=0
   · rw[if_pos ⟨rfl,d⟩];unfold qd;rw[if_pos ab]
   · rw[if_neg (fun g=>d g.2)]
     by_cases c:200<x.o.size
     · rw[if_pos ⟨rfl,c⟩];unfold qd;rw[if_neg ab,if_pos ab]
     · rw[if_neg (fun g=>c g.2)];unfold qd;rw[if_neg (show ¬((x.o.size:Int)=0) by omega),if_neg (show ¬(200<(x.o.size:Int)) by omega)]
       cases r<;>rfl
 · rw[if_pos (beq_false_of_ne h),if_pos h]
theorem Dy {x:Op} {c:Nat} {r:Bool} (h:x.k=2∨x.k=3) (hf:dC x=true) (f:dA x=c) (hr:ga x=r):gy x=qd c r:=by
 have e:bB x.k 0 6=true:=by rw[inB_true];omega
 have h3:dq x.k=true:=by unfold dq;rw[inB_true];omega
 have d:dZ x=true:=by unfold dZ;rw[if_neg ab,if_neg ab]
 rw[n9,hf,d,h3,f,hr,if_neg (by rw[e];decide),if_neg au,if_neg au];by_cases b:c=0
 · rw[if_pos ⟨rfl,b⟩];unfold qd;rw[if_pos ab]
 · rw[if_neg (fun g=>b g.2)]
   by_cases a:200<c
   · rw[if_pos ⟨rfl,a⟩];unfold qd;rw[if_neg ab,if_pos ab]
   · rw[if_neg (fun g=>a g.2)];unfold qd;rw[if_neg (show ¬((c:Int)=0) by omega),if_neg (show ¬(200<(c:Int)) by omega)]
     cases r<;>rfl
theorem BC {x:Op} (d:x.k=4∨x.k=5) (hf:dC x=true):gy x=bQ (bB x.a 0 4095&&bB x.c 1 (4096-x.a)) 2:=by
 have b:bB x.k 0 6=true:=by rw[inB_true];omega
 have h3:dq x.k=false:=by unfold dq;rw[sM];omega
 have e:dZ x=true:=by unfold dZ;rw[if_neg ab,if_neg ab]
 have hr:ga x=(bB x.a 0 4095&&bB x.c 1 (4096-x.a)):=by unfold ga;rw[if_neg ab,if_neg ab,if_neg ab,if_pos d]
 rw[n9,hf,e,h3,hr,if_neg (by rw[b];decide),if_neg au,if_neg au,if_neg bw,if_neg bw]
 cases (bB x.a 0 4095&&bB x.c 1 (4096-x.a))<;>rfl
theorem Hk {x:Op} (c:x.k≠1∧x.k≠2∧x.k≠3∧x.k≠4∧x.k≠5) (a:bB x.k 0 6=true) (hf:dC x=true):gy x=if x.k=6∧(x.o.size≠512∨x.n.size≠512) then 10 else 0:=by
 have h3:dq x.k=false:=by unfold dq;rw[sM];omega
 rw[n9,hf,h3,if_neg (by rw[a];decide),if_neg au]
 have hr:ga x=true:=by unfold ga;rw[if_neg ab,if_neg ab,if_neg ab,if_neg ab]
 rw[hr];unfold dZ;rw[if_neg c.1];by_cases h:x.k=6
 · rw[if_pos h]
   by_cases b:x.o.size=512∧x.n.size=512
   · rw[if_neg (by simp[b]),if_neg bw,if_neg bw,if_neg au,if_neg ab]
   · rw[if_pos (by simp;omega),if_pos ⟨h,by omega⟩]
 · rw[if_neg h,if_neg au,if_neg bw,if_neg bw,if_neg au,if_neg ab]
theorem j3 (x:Op) (w:World) (ho:x.o.size≤3100) (hn:x.n.size≤3100) :
 bu 139 #[fj x] w (ae (gy x)):=by
 obtain⟨E,b⟩:∃E,E=gy x:=⟨_,rfl⟩;rw[←b]
 have q:dC x=true→(x.k=2→x.o.size=0)∧(x.k=3→x.n.size=0):=fun h=>by obtain⟨k,a,e,c,o,n⟩:=x;exact vm h.symm
 refine an (N:=115) Tryz.func139 rfl rfl rfl (fun _ Y=>?_);have Z:=St.init w;refine aj (aq ?_);refine nb Y rfl rfl Z fun b1 _ _ Qf Y Z=>GO 8 ?_;intro _ Y;refine dn Y rfl (br _ _ _ _) fun _ Y=>?_;refine GO 3 ?_;intro _ Y;refine ak (Y.ev rfl) (fun D=>?_) (fun D=>?_)
 ·
  have t:bB x.k 0 6=false:=al D;rw[n9,if_pos t] at b;refine GO 7 ?_;intro _ Y;refine aC Y rfl rfl ?_;exact⟨by first | (rw[b];done) | (rw[b];rfl),Z.below⟩
 ·
  have t:bB x.k 0 6=true:=al D;refine wp_skip (ai (aj (aj (aq ?_))));refine sv (v:=fj x) Y (ah aa aa (Y.ev rfl) (Z.cellsAll (i:=0) rfl)) fun _ Y=>?_;refine cQ Y rfl Z (wS x _) fun _ _ u Z=>?_;refine GO 9 ?_;intro _ Y;refine ak (Y.ev rfl) (fun p=>?_) (fun p=>?_)
  ·
   have hf:dC x=false:=by cases h:dC x with | false=>rfl | true=>rw[h] at p;exact absurd p au
   rw[n9,if_neg (by rw[t];decide),if_pos hf] at b;refine GO 8 ?_;intro _ Y;refine aC Y rfl rfl ?_;exact⟨by rw[b,hf];rfl,Z.below⟩
  ·
   have hf:dC x=true:=by cases h:dC x with | true=>rfl | false=>rw[h] at p;exact absurd p au
   have f:=q hf;refine GO 16 ?_;intro _ Y;refine ak (Y.ev rfl) (fun I=>?_) (fun I=>?_)
   ·
    have m:x.k=1:=al I;rw[Ib m hf] at b;refine GO 12 ?_;intro _ Y;refine ak (Y.ev rfl) (fun C=>?_) (fun C=>?_)
    ·
     rw[if_pos (by have:¬(x.o.size:Int)=x.n.size:=(al C);omega)] at b;refine GO 9 ?_;intro _ Y;refine aC Y rfl rfl ?_;exact⟨by first | (rw[b];done) | (rw[b];rfl),Z.below⟩
    ·
     rw[if_neg (by have:(x.o.size:Int)=x.n.size:=(al C);omega)] at b;refine wp_skip (ai (aj ?_));apply aK Y (fK 16) _ aa
     case h=>
      refine qv (v:=fj x) Y (fun X F=>ah aa aa (Y.ev rfl) ((Z.grow F).cellsAll (i:=0) rfl)) fun _ Y=>?_;refine GO 5 ?_;intro _ Y;refine iW Y rfl (fun X F=>br _ _ _ _) fun _ Y=>?_;refine GO 1 ?_;intro _ Y;apply kV (x:=decide ((x.o.size:Int)≤512-x.a)) Y 33 rfl 8 41
      case ht=>
       intro R;refine GO 5 ?_;intro _ Y;refine qy Y (fun X F=>(fN (Y.ev rfl) (Y.ev rfl) (by have:=inB_true.1 R;omega))) fun _ Y=>?_;refine GO 2 ?_;intro _ Y;exact ax (Y.midE 7)
      case hf=>
       intro R;refine GO 8 ?_;intro _ Y;exact ax (Y.midE 7)
      case h=>
       intro _ Y;refine ax ?_;refine aT fun _ Zr Zz=>?_;have Z:=Z.grow Zr;refine cQ Y rfl Z (j1 x _ _ _) fun _ _ Y Z=>?_;refine GO 6 ?_;intro _ Y;refine aC Y rfl rfl ?_;exact⟨by first | (rw[b];done) | (rw[b];rfl),Z.below⟩
     case hB=>kernel_rfl
     case hst=>rfl
   ·
    have m:x.k≠1:=al I;refine GO 6 ?_;intro _ Y;refine ak (Y.ev rfl) (fun K=>?_) (fun K=>?_)
    ·
     have j:x.k=2:=al K;have B:=f.1 j;rw[Dy (c:=x.n.size) (r:=bB x.a 0 511&&bB x.e x.a (512-x.n.size)) (.inl j) hf (by unfold dA;omega) (by unfold ga;rw[if_neg m,if_pos j,B];simp)] at b;refine GO 4 ?_;intro _ Y;refine dn Y rfl (br _ _ _ _) fun _ Y=>?_;refine GO 1 ?_;intro _ Y;apply a8 (x:=bB x.e x.a (512-x.n.size)) Y Z 48 rfl 10 58
     case ht=>
      intro T;refine GO 8 ?_;intro _ Y;refine cx Y (ao Y _ rfl rfl rfl T) (aw a6 (Y.evs rfl) rfl) rfl rfl (br _ _ _ _) fun _ Y=>GO 1 ?_;intro _ Y;exact ag ⟨Y.midE 9,Z⟩
     case hf=>
      intro T;refine GO 10 ?_;intro _ Y;exact ag ⟨Y.midE 9,Z⟩
     case h=>
      rintro Jv Qg ⟨Qh,S⟩
      refine GO 5 ?_;intro _ Y;refine sv (v:=fj x) Y (ah aa aa (Y.ev rfl) (S.cellsAll (i:=0) rfl)) fun _ Y=>?_;refine GO 4 ?_;intro _ Y;refine cQ Y rfl S (j1 x _ _ _) fun _ _ Y Z=>?_;refine GO 6 ?_;intro _ Y;refine aC Y rfl rfl ?_;exact⟨by first | (rw[b];done) | (rw[b];rfl),Z.below⟩
    ·
     have j:x.k≠2:=al K;refine GO 6 ?_;intro _ Y;refine ak (Y.ev rfl) (fun J=>?_) (fun J=>?_)
     ·
      have s:x.k=3:=al J;have G:=f.2 s;rw[Dy (c:=x.o.size) (r:=bB x.a 0 511&&bB x.e (x.a+x.o.size) 512) (.inr s) hf (by unfold dA;omega) (by unfold ga;rw[if_neg m,if_neg j,if_pos s,G];simp)] at b;refine GO 4 ?_;intro _ Y;refine dn Y rfl (br _ _ _ _) fun _ Y=>?_;refine GO 1 ?_;intro _ Y;apply a8 (x:=bB x.e (x.a+x.o.size) 512) Y Z 70 rfl 10 80
      case ht=>
       intro z;refine GO 7 ?_;intro _ Y;refine sy Y (cM (Y.ev rfl) (Y.ev rfl) (by have:=inB_true.1 z;omega)) fun _ Y=>?_;refine cx Y (ao Y _ rfl rfl rfl z) (aw a6 (Y.evs rfl) rfl) rfl rfl (br _ _ _ _) fun _ Y=>GO 1 ?_;intro _ Y;exact ag ⟨Y.midE 9,Z⟩
      case hf=>
       intro z;refine GO 10 ?_;intro _ Y;exact ag ⟨Y.midE 9,Z⟩
      case h=>
       rintro L Qa ⟨Qb,P⟩
       refine GO 5 ?_;intro _ Y;refine sv (v:=fj x) Y (ah aa aa (Y.ev rfl) (P.cellsAll (i:=0) rfl)) fun _ Y=>?_;refine GO 4 ?_;intro _ Y;refine cQ Y rfl P (j1 x _ _ _) fun _ _ Y Z=>?_;refine GO 6 ?_;intro _ Y;refine aC Y rfl rfl ?_;exact⟨by first | (rw[b];done) | (rw[b];rfl),Z.below⟩
     ·
      have s:x.k≠3:=al J;refine GO 7 ?_;intro _ Y;refine ak (Y.ev rfl) (fun y=>?_) (fun y=>?_)
      ·
       have k4:x.k=4:=al y;refine wp_skip (ai ?_);refine ak (Y.ev rfl) (fun l=>?_) (fun l=>?_)
       ·
        rw[BC (.inl k4) hf] at b;refine GO 4 ?_;intro _ Y;refine dn Y rfl (br _ _ _ _) fun _ Y=>?_;refine GO 2 ?_;intro _ Y;apply bI (x:=!bB x.c 1 (4096-x.a)) Y Z 94 rfl 8 102
        case hf=>
         intro g;refine GO 4 ?_;intro _ Y;refine sy Y (fN (Y.ev rfl) (Y.ev rfl) (by have u:bB x.a 0 4095=true:=(al g);have:=inB_true.1 u;omega)) fun _ Y=>?_;refine cx Y (ao Y _ rfl rfl rfl g) (aw a6 (Y.evs rfl) rfl) rfl rfl (br _ _ _ _) fun _ Y=>GO 2 ?_;intro _ Y;exact ag ⟨Y.midE 7,Z⟩
        case ht=>
         intro g;refine GO 8 ?_;intro _ Y;exact ag ⟨Y.midE 7,Z⟩
        case h=>
         rintro W Qc ⟨Zu,U⟩
         refine ag (ai ?_);refine ak (Zu.ev rfl) (fun d=>?_) (fun d=>?_)
         ·
          have e:(bB x.a 0 4095&&bB x.c 1 (4096-x.a))=false:=by rw[←Bool.not_and] at d;cases hh:(bB x.a 0 4095&&bB x.c 1 (4096-x.a)) with | false=>rfl | true=>rw[hh] at d;cases d
          rw[e] at b;refine GO 8 ?_;intro _ Y;refine aC Y rfl rfl ?_;exact⟨by first | (rw[b];done) | (rw[b];rfl),U.below⟩
         ·
          have e:(bB x.a 0 4095&&bB x.c 1 (4096-x.a))=true:=by rw[←Bool.not_and] at d;cases hh:(bB x.a 0 4095&&bB x.c 1 (4096-x.a)) with | true=>rfl | false=>rw[hh] at d;cases d
          rw[e] at b;refine GO 9 ?_;intro _ Y;refine aC Y rfl rfl ?_;exact⟨by first | (rw[b];done) | (rw[b];rfl),U.below⟩
       ·
        exact absurd (y.symm.trans l) au
      ·
       refine GO 5 ?_;intro _ Y;refine ak (Y.ev rfl) (fun l=>?_) (fun l=>?_)
       ·
        rw[BC (.inr (al l)) hf] at b;refine GO 4 ?_;intro _ Y;refine dn Y rfl (br _ _ _ _) fun _ Y=>?_;refine GO 2 ?_;intro _ Y;apply bI (x:=!bB x.c 1 (4096-x.a)) Y Z 94 rfl 8 102
        case hf=>
         intro g;refine GO 4 ?_;intro _ Y;refine sy Y (fN (Y.ev rfl) (Y.ev rfl) (by have u:bB x.a 0 4095=true:=(al g);have:=inB_true.1 u;omega)) fun _ Y=>?_;refine cx Y (ao Y _ rfl rfl rfl g) (aw a6 (Y.evs rfl) rfl) rfl rfl (br _ _ _ _) fun _ Y=>GO 2 ?_;intro _ Y;exact ag ⟨Y.midE 7,Z⟩
        case ht=>
         intro g;refine GO 8 ?_;intro _ Y;exact ag ⟨Y.midE 7,Z⟩
        case h=>
         rintro Q Qd ⟨Zv,V⟩
         refine ag (ai ?_);refine ak (Zv.ev rfl) (fun d=>?_) (fun d=>?_)
         ·
          have e:(bB x.a 0 4095&&bB x.c 1 (4096-x.a))=false:=by rw[←Bool.not_and] at d;cases hh:(bB x.a 0 4095&&bB x.c 1 (4096-x.a)) with | false=>rfl | true=>rw[hh] at d;cases d
          rw[e] at b;refine GO 8 ?_;intro _ Y;refine aC Y rfl rfl ?_;exact⟨by first | (rw[b];done) | (rw[b];rfl),V.below⟩
         ·
          have e:(bB x.a 0 4095&&bB x.c 1 (4096-x.a))=true:=by rw[←Bool.not_and] at d;cases hh:(bB x.a 0 4095&&bB x.c 1 (4096-x.a)) with | true=>rfl | false=>rw[hh] at d;cases d
          rw[e] at b;refine GO 9 ?_;intro _ Y;refine aC Y rfl rfl ?_;exact⟨by first | (rw[b];done) | (rw[b];rfl),V.below⟩
       ·
        have k0:x.k≠1∧x.k≠2∧x.k≠3∧x.k≠4∧x.k≠5:=⟨m,j,s,al y,al l⟩;rw[Hk k0 t hf] at b;refine GO 6 ?_;intro _ Y;refine ak (Y.ev rfl) (fun A=>?_) (fun A=>?_)
        ·
         skip
         refine GO 7 ?_;intro _ Y;apply bI (x:=((x.n.size:Int) != 512)) Y Z 109 rfl 5 114
         case hf=>
          intro Zl;refine GO 5 ?_;intro _ Y;exact ag ⟨Y.midE 4,Z⟩
         case ht=>
          intro Zl;refine GO 5 ?_;intro _ Y;exact ag ⟨Y.midE 4,Z⟩
         case h=>
          rintro M Qe ⟨Zx,O⟩
          refine ag (ai ?_);refine ak (Zx.ev rfl) (fun H=>?_) (fun H=>?_)
          ·
           rw[if_pos ⟨al A,by simp only[Bool.or_eq_true,bne_iff_ne] at H;omega⟩] at b;refine GO 8 ?_;intro _ Y;refine aC Y rfl rfl ?_;exact⟨by first | (rw[b];done) | (rw[b];rfl),O.below⟩
          ·
           rw[if_neg (by simp only[Bool.or_eq_false_iff,bne_eq_false_iff_eq] at H;omega)] at b;refine GO 9 ?_;intro _ Y;refine aC Y rfl rfl ?_;exact⟨by first | (rw[b];done) | (rw[b];rfl),O.below⟩
        ·
         rw[if_neg (by have:x.k≠6:=(al A);omega)] at b;refine GO 9 ?_;intro _ Y;refine aC Y rfl rfl ?_;exact⟨by first | (rw[b];done) | (rw[b];rfl),Z.below⟩
open Go.RowKit Go.Sort
theorem uK (p:ByteArray) (A:Nat) (o n:ByteArray) (w:World) (hp:p.size=512) (h1:o.size=n.size) (h2:o.size≤200) (h3:A+o.size≤512) :
 Calls Tryz.prog 140 #[.string p,.agg #[.int .i64 1,.int .i64 A,.int .i64 0,.int .i64 0,.string o,.string n]] w fun r w'=>r=.returned (.string (ew p ⟨1,A,0,0,o,n⟩))∧Below w.heap.size w w':=by
 have hp1:p.size≤1000000:=by omega
 have hp3:A+n.size≤p.size:=by omega
 clear hp h1
 go_enter Tryz.func140,Tryz.ntmps140
 go_wp2_with (first | (go_at_call 101;refine(te p n A _ hp1 hp3).mono ?_;rintro e W1 ⟨rfl,hbW1⟩;obtain⟨hcW1,hfW1⟩:=bH hbW1))
 go_ret
 exact⟨rfl,du⟩
theorem uO (p:ByteArray) (A E:Nat) (o n:ByteArray) (w:World) (hp:p.size=512) (h1:o.size=0) (h2:n.size≤200) (h3:A≤E) (h4:E+n.size≤512) :
 Calls Tryz.prog 140 #[.string p,.agg #[.int .i64 2,.int .i64 A,.int .i64 E,.int .i64 0,.string o,.string n]] w fun r w'=>r=.returned (.string (ew p ⟨2,A,E,0,o,n⟩))∧Below w.heap.size w w':=by
 have hp1:p.size≤3100:=by omega
 have hp2:(A:Int)≤p.size:=by omega
 have hp3:E+n.size≤p.size:=by omega
 have hz1:(p.extract 0 A ++ n).size=A+n.size:=by rw[ByteArray.size_append,ByteArray.size_extract];omega
 have hz2:(p.extract 0 A ++ n ++ p.extract A E).size=E+n.size:=by rw[ByteArray.size_append,hz1,ByteArray.size_extract];omega
 clear hp h1
 go_enter Tryz.func140,Tryz.ntmps140
 go_wp2
 (refine wp_region_quiet_below aa aa ?_;(repeat (go_big_quiet_step ((first | fail))));(with_reducible refine wpQuiet_nil ?_);intro W2 hreg;have hbW2:=a7 hreg;clear hreg;obtain⟨hcW2,hfW2⟩:=bH hbW2)
 go_wp2
 go_ret
 exact⟨xt (CT p n A E),du⟩
theorem uD (p:ByteArray) (A E:Nat) (o n:ByteArray) (w:World) (hp:p.size=512) (h1:n.size=0) (h2:o.size≤200) (h3:A+o.size≤E) (h4:E≤512) :
 Calls Tryz.prog 140 #[.string p,.agg #[.int .i64 3,.int .i64 A,.int .i64 E,.int .i64 0,.string o,.string n]] w fun r w'=>r=.returned (.string (ew p ⟨3,A,E,0,o,n⟩))∧Below w.heap.size w w':=by
 have hp1:p.size≤3100:=by omega
 have hp2:(A:Int)≤p.size:=by omega
 have hp3:E≤p.size:=by omega
 have hz1:(p.extract 0 A ++ p.extract (A+o.size) E).size=E-o.size:=by rw[ByteArray.size_append,ByteArray.size_extract,ByteArray.size_extract];omega
 have hz3:(bs (cp o.size)).size=o.size:=o6 _
 have hz2:(p.extract 0 A ++ p.extract (A+o.size) E ++ bs (cp o.size)).size=E:=by rw[ByteArray.size_append,hz1,hz3];omega
 clear hp h1
 go_enter Tryz.func140,Tryz.ntmps140
 go_wp2
 (refine wp_region_quiet_below aa aa ?_;(repeat (go_big_quiet_step ((first | (go_at_call 126;exact Calls.regrown_of (oA o.size _ ab))))));(with_reducible refine wpQuiet_nil ?_);intro W2 hreg;have hbW2:=a7 hreg;clear hreg;obtain⟨hcW2,hfW2⟩:=bH hbW2)
 go_wp2
 go_ret
 exact⟨xt (CM p A E o.size),du⟩
theorem u7 (p:ByteArray) (A C:Nat) (o n:ByteArray) (w:World) (hp:p.size=512) (h1:o.size=0) (h2:n.size=0) (h3:A+C≤4096) :
 Calls Tryz.prog 140 #[.string p,.agg #[.int .i64 4,.int .i64 A,.int .i64 0,.int .i64 C,.string o,.string n]] w fun r w'=>r=.returned (.string (ew p ⟨4,A,0,C,o,n⟩))∧Below w.heap.size w w':=by
 have hp1:p.size≤3100:=by omega
 have hp2:A+C≤8*p.size:=by omega
 clear hp h1 h2
 go_enter Tryz.func140,Tryz.ntmps140
 go_wp2
 (refine wp_region_quiet_below aa aa ?_;(repeat (go_big_quiet_step ((first | (go_at_call 76;exact Calls.reg_pure (nj _ _)) | (go_at_call 210;exact Calls.regrown_of (sx p A C _ hp1 hp2))))));(with_reducible refine wpQuiet_nil ?_);intro W2 hreg;have hbW2:=a7 hreg;clear hreg;obtain⟨hcW2,hfW2⟩:=bH hbW2)
 go_wp2
 go_ret
 exact⟨rfl,du⟩
theorem uW (p:ByteArray) (A C:Nat) (o n:ByteArray) (w:World) (hp:p.size=512) (h1:o.size=0) (h2:n.size=0) (h3:A+C≤4096) :
 Calls Tryz.prog 140 #[.string p,.agg #[.int .i64 5,.int .i64 A,.int .i64 0,.int .i64 C,.string o,.string n]] w fun r w'=>r=.returned (.string (ew p ⟨5,A,0,C,o,n⟩))∧Below w.heap.size w w':=by
 have hp1:p.size≤3100:=by omega
 have hp2:A+C≤8*p.size:=by omega
 clear hp h1 h2
 go_enter Tryz.func140,Tryz.ntmps140
 go_wp2
 (refine wp_region_quiet_below aa aa ?_;(repeat (go_big_quiet_step ((first | (go_at_call 76;exact Calls.reg_pure (nj _ _)) | (go_at_call 210;exact Calls.regrown_of (qI p A C _ hp1 hp2))))));(with_reducible refine wpQuiet_nil ?_);intro W2 hreg;have hbW2:=a7 hreg;clear hreg;obtain⟨hcW2,hfW2⟩:=bH hbW2)
 go_wp2
 go_ret
 exact⟨rfl,du⟩
theorem uU (p:ByteArray) (o n:ByteArray) (w:World) :
 Calls Tryz.prog 140 #[.string p,.agg #[.int .i64 0,.int .i64 0,.int .i64 0,.int .i64 0,.string o,.string n]] w fun r w'=>r=.returned (.string (ew p ⟨0,0,0,0,o,n⟩))∧Below w.heap.size w w':=by
 go_enter Tryz.func140,Tryz.ntmps140
 go_wp2
 go_ret
 exact⟨rfl,du⟩
theorem uX (p:ByteArray) (o n:ByteArray) (w:World) :
 Calls Tryz.prog 140 #[.string p,.agg #[.int .i64 6,.int .i64 0,.int .i64 0,.int .i64 0,.string o,.string n]] w fun r w'=>r=.returned (.string (ew p ⟨6,0,0,0,o,n⟩))∧Below w.heap.size w w':=by
 go_enter Tryz.func140,Tryz.ntmps140
 go_wp2
 go_ret
 exact⟨rfl,du⟩
theorem G6 (p:ByteArray) (A:Nat) (o n:ByteArray) (w:World) (hp:p.size=512) (h1:o.size=n.size) (h2:o.size≤200) (h3:A+o.size≤512) :
 Calls Tryz.prog 141 #[.string p,.agg #[.int .i64 1,.int .i64 A,.int .i64 0,.int .i64 0,.string o,.string n]] w fun r w'=>r=.returned (.bool (cR p ⟨1,A,0,0,o,n⟩))∧Below w.heap.size w w':=by
 have hp1:p.size≤3100:=by omega
 have hp3:(A:Int)+o.size≤p.size:=by omega
 clear hp h1
 go_enter Tryz.func141,Tryz.ntmps141
 go_wp2
 (refine wp_region_quiet_below aa aa ?_;(repeat (go_big_quiet_step ((first | fail))));(with_reducible refine wpQuiet_nil ?_);intro W2 hreg;have hbW2:=a7 hreg;clear hreg;obtain⟨hcW2,hfW2⟩:=bH hbW2)
 go_wp2
 go_ret
 exact⟨qO (by rw[Cr,uA,←dP];rfl),du⟩
theorem GU (p:ByteArray) (A E:Nat) (o n:ByteArray) (w:World) (hp:p.size=512) (h1:n.size=0) (h2:o.size≤200) (h3:A+o.size≤E) (h4:E≤512) :
 Calls Tryz.prog 141 #[.string p,.agg #[.int .i64 3,.int .i64 A,.int .i64 E,.int .i64 0,.string o,.string n]] w fun r w'=>r=.returned (.bool (cR p ⟨3,A,E,0,o,n⟩))∧Below w.heap.size w w':=by
 have hp1:p.size≤3100:=by omega
 have hp3:(A:Int)+o.size≤p.size:=by omega
 clear hp h1
 go_enter Tryz.func141,Tryz.ntmps141
 go_wp2
 (refine wp_region_quiet_below aa aa ?_;(repeat (go_big_quiet_step ((first | fail))));(with_reducible refine wpQuiet_nil ?_);intro W2 hreg;have hbW2:=a7 hreg;clear hreg;obtain⟨hcW2,hfW2⟩:=bH hbW2)
 go_wp2
 go_ret
 exact⟨qO (by rw[Cr,uA,←dP];rfl),du⟩
theorem G9 (p:ByteArray) (A E:Nat) (o n:ByteArray) (w:World) (hp:p.size=512) (h1:o.size=0) (h2:n.size≤200) (h3:A≤E) (h4:E+n.size≤512) :
 Calls Tryz.prog 141 #[.string p,.agg #[.int .i64 2,.int .i64 A,.int .i64 E,.int .i64 0,.string o,.string n]] w fun r w'=>r=.returned (.bool (cR p ⟨2,A,E,0,o,n⟩))∧Below w.heap.size w w':=by
 have hp1:p.size≤3100:=by omega
 have hp3:(E:Int)+n.size≤p.size:=by omega
 clear hp h1
 go_enter Tryz.func141,Tryz.ntmps141
 go_wp2_with (first | (go_at_call 211;refine(wa _ _ (by rw[ByteArray.size_extract];unfold maxLen;omega)).mono ?_;rintro e w' ⟨rfl,rfl⟩))
 go_ret
 exact⟨qO (by rw[uA,←dP];rfl),du⟩
theorem GD (p:ByteArray) (o n:ByteArray) (w:World) :
 Calls Tryz.prog 141 #[.string p,.agg #[.int .i64 6,.int .i64 0,.int .i64 0,.int .i64 0,.string o,.string n]] w fun r w'=>r=.returned (.bool (cR p ⟨6,0,0,0,o,n⟩))∧Below w.heap.size w w':=by
 go_enter Tryz.func141,Tryz.ntmps141
 go_wp2
 go_ret
 exact⟨qO (by rw[Cr];rfl),du⟩
theorem Hg (p:ByteArray) (o n:ByteArray) (w:World) :
 Calls Tryz.prog 141 #[.string p,.agg #[.int .i64 0,.int .i64 0,.int .i64 0,.int .i64 0,.string o,.string n]] w fun r w'=>r=.returned (.bool (cR p ⟨0,0,0,0,o,n⟩))∧Below w.heap.size w w':=by
 go_enter Tryz.func141,Tryz.ntmps141
 go_wp2
 go_ret
 exact⟨rfl,du⟩
theorem lN {l:List UInt8} {a k c:Nat} {v:Bool} (b:k<c) (h:eJ l (a+k)=v):cr l a c v=false:=by
 cases hb:cr l a c v
 · rfl
 · have:=(uh l a c v).1 hb (a+k) ab ab
   rw[h] at this;cases v<;>cases this
theorem G8 (p:ByteArray) (A C:Nat) (o n:ByteArray) (w:World) (hp:p.size=512) (h1:o.size=0) (h2:n.size=0) (h3:A+C≤4096) :
 Calls Tryz.prog 141 #[.string p,.agg #[.int .i64 4,.int .i64 A,.int .i64 0,.int .i64 C,.string o,.string n]] w fun r w'=>r=.returned (.bool (cR p ⟨4,A,0,C,o,n⟩))∧Below w.heap.size w w':=by
 have hfit:cR p ⟨4,A,0,C,o,n⟩=cr (bl p) A C true:=rfl;rw[hfit];clear hfit
 have hp1:p.size≤3100:=by omega
 have hp2:A+C≤8*p.size:=by omega
 clear hp h1 h2
 go_enter Tryz.func141,Tryz.ntmps141
 go_wp2
 go_loopw [5] (fun i wr=>∃k:Nat,k≤C∧i=.int .i64 ((A+k:Nat):Int)∧Below (w.alloc (.cells #[.int .i64 4,.int .i64 A,.int .i64 0,.int .i64 C,.string o,.string n] 141)).heap.size (w.alloc (.cells #[.int .i64 4,.int .i64 A,.int .i64 0,.int .i64 C,.string o,.string n] 141)) wr∧cr (bl p) A k true=true) (fun i _=>A+C-(intOf i).toNat)
 case atStart=>exact⟨0,Nat.zero_le _,rfl,Below.refl _ _,rfl⟩
 case round=>
  obtain⟨k,hk,rfl,hb,hall⟩:=hrel;have HALL:=Lib.hid hall;obtain⟨hcR,hfR⟩:=bH hb
  have hsR:w.heap.size<wr.heap.size:=by have h:=hb.size;simp at h;omega
  clear hall;obtain⟨m,hm⟩:∃m:Nat,m=A+k:=⟨_,rfl⟩;rw[←hm];have HM:=Lib.hid hm;by_cases hlt:k<C
  · have hltm:(m:Int)<(A:Int)+(C:Int):=by omega
    have hBA:=fun W=>ln p m W ab hp1;obtain⟨x,hx⟩:∃x,x=eJ (bl p) m:=⟨_,rfl⟩;rw[←hx] at hBA;have HBA:=Lib.hid hBA;have HX:=Lib.hid hx
    have hm0:m<30000:=by omega
    clear hBA hx hm
    cases x
    all_goals
     simp only[if_true,Bool.false_eq_true,if_false] at HBA
     go_wp2
     refine wp_region_quiet_below aa aa ?_
     (repeat (go_big_quiet_step ((first | (go_at_call 212;exact Calls.regrown_of (HBA.out _)) | (go_at_call 76;exact Calls.reg_pure (nj _ _))))))
     (with_reducible refine wpQuiet_nil ?_)
     intro W2 hreg;have hbW2:=a7 hreg;clear hreg;obtain⟨hcW2,hfW2⟩:=bH hbW2
     go_wp2
     first
     | (go_ret
        exact⟨qO (lN hlt (by rw[←HM.out,←HX.out])).symm,du⟩)
     | (go_roundw
        case rel=>exact⟨k+1,by omega,by rw[HM.out];go_num,dW hb hbW2,by unfold cr;rw[HALL.out,←HM.out,←HX.out];rfl⟩
        case measure=>simp[intOf];omega)
  · obtain rfl:k=C:=by omega
    have hgem:(A:Int)+(k:Int)≤(m:Int):=by omega
    clear hm
    go_wp2
    go_ret
    exact⟨qO HALL.out.symm,du⟩
theorem Ha (p:ByteArray) (A C:Nat) (o n:ByteArray) (w:World) (hp:p.size=512) (h1:o.size=0) (h2:n.size=0) (h3:A+C≤4096) :
 Calls Tryz.prog 141 #[.string p,.agg #[.int .i64 5,.int .i64 A,.int .i64 0,.int .i64 C,.string o,.string n]] w fun r w'=>r=.returned (.bool (cR p ⟨5,A,0,C,o,n⟩))∧Below w.heap.size w w':=by
 have hfit:cR p ⟨5,A,0,C,o,n⟩=cr (bl p) A C false:=rfl;rw[hfit];clear hfit
 have hp1:p.size≤3100:=by omega
 have hp2:A+C≤8*p.size:=by omega
 clear hp h1 h2
 go_enter Tryz.func141,Tryz.ntmps141
 go_wp2
 go_loopw [5] (fun i wr=>∃k:Nat,k≤C∧i=.int .i64 ((A+k:Nat):Int)∧Below (w.alloc (.cells #[.int .i64 5,.int .i64 A,.int .i64 0,.int .i64 C,.string o,.string n] 141)).heap.size (w.alloc (.cells #[.int .i64 5,.int .i64 A,.int .i64 0,.int .i64 C,.string o,.string n] 141)) wr∧cr (bl p) A k false=true) (fun i _=>A+C-(intOf i).toNat)
 case atStart=>exact⟨0,Nat.zero_le _,rfl,Below.refl _ _,rfl⟩
 case round=>
  obtain⟨k,hk,rfl,hb,hall⟩:=hrel;have HALL:=Lib.hid hall;obtain⟨hcR,hfR⟩:=bH hb
  have hsR:w.heap.size<wr.heap.size:=by have h:=hb.size;simp at h;omega
  clear hall;obtain⟨m,hm⟩:∃m:Nat,m=A+k:=⟨_,rfl⟩;rw[←hm];have HM:=Lib.hid hm;by_cases hlt:k<C
  · have hltm:(m:Int)<(A:Int)+(C:Int):=by omega
    have hBA:=fun W=>ln p m W ab hp1;obtain⟨x,hx⟩:∃x,x=eJ (bl p) m:=⟨_,rfl⟩;rw[←hx] at hBA;have HBA:=Lib.hid hBA;have HX:=Lib.hid hx
    have hm0:m<30000:=by omega
    clear hBA hx hm
    cases x
    all_goals
     simp only[if_true,Bool.false_eq_true,if_false] at HBA
     go_wp2
     refine wp_region_quiet_below aa aa ?_
     (repeat (go_big_quiet_step ((first | (go_at_call 212;exact Calls.regrown_of (HBA.out _)) | (go_at_call 76;exact Calls.reg_pure (nj _ _))))))
     (with_reducible refine wpQuiet_nil ?_)
     intro W2 hreg;have hbW2:=a7 hreg;clear hreg;obtain⟨hcW2,hfW2⟩:=bH hbW2
     go_wp2
     first
     | (go_ret
        exact⟨qO (lN hlt (by rw[←HM.out,←HX.out])).symm,du⟩)
     | (go_roundw
        case rel=>exact⟨k+1,by omega,by rw[HM.out];go_num,dW hb hbW2,by unfold cr;rw[HALL.out,←HM.out,←HX.out];rfl⟩
        case measure=>simp[intOf];omega)
  · obtain rfl:k=C:=by omega
    have hgem:(A:Int)+(k:Int)≤(m:Int):=by omega
    clear hm
    go_wp2
    go_ret
    exact⟨qO HALL.out.symm,du⟩
open Go.RowKit Go.Sort
def opsV (l:List Op):List Value:=l.flatMap AT
theorem xo (l:List Op):(opsV l).length=6*l.length:=by
 induction l with
 | nil=>rfl
 | cons f l ih=>simp[opsV,AT] at ih ⊢;omega
theorem jt (l:List Op):∀(k:Nat) (h:k<l.length) (j:Nat) (u:Value),(AT l[k])[j]? = some u→(opsV l)[k*6+j]? = some u:=by
 induction l with
 | nil=>intro k h;exact absurd h bw
 | cons f l ih=>
  intro k h j u a;have b:j<6:=(List.getElem?_eq_some_iff.1 a).1
  cases k with
  | zero=>
   show(AT f ++ opsV l)[0*6+j]? = some u;rw[List.getElem?_append_left (by show _<6;omega),Nat.zero_mul,Nat.zero_add];exact a
  | succ k=>
   show(AT f ++ opsV l)[(k+1)*6+j]? = some u;rw[List.getElem?_append_right (by show 6≤_;omega)];have:=ih k (al h) j u (al a);rw[←this]
   congr 1
   show(k+1)*6+j-6=_;omega
def xp (l:List Op):Prop:=∀j (h:j<l.length),l[j].o.size≤3100∧l[j].n.size≤3100
theorem DN (p:ByteArray) (x:Op) (w:World) (f:p.size=512) (h:fX x) :
 bu 141 #[.string p,fj x] w (.bool (cR p x)):=by
 obtain⟨k,a,e,c,o,n⟩:=x;unfold fX at h
 dsimp only at h
 rcases h with ⟨rfl,rfl,rfl,rfl,b,d⟩ | ⟨rfl,rfl,rfl,hs,h1,h2,h3,h4⟩ | ⟨rfl,rfl,b,h1,h2,h3,h4,h5⟩ | ⟨rfl,rfl,d,h1,h2,h3,h4,h5⟩ | ⟨hk,rfl,b,d,h1,h2,h3,h4⟩ | ⟨rfl,rfl,rfl,rfl,b,d⟩
 · exact Hg p o n w
 · obtain⟨A,rfl⟩:=Int.eq_ofNat_of_zero_le h3
   exact G6 p A o n w f hs h2 ab
 · obtain⟨A,rfl⟩:=Int.eq_ofNat_of_zero_le h3
   obtain⟨E,rfl⟩:=Int.eq_ofNat_of_zero_le (show 0≤e by omega);exact G9 p A E o n w f b h2 ab ab
 · obtain⟨A,rfl⟩:=Int.eq_ofNat_of_zero_le h3
   obtain⟨E,rfl⟩:=Int.eq_ofNat_of_zero_le (show 0≤e by omega);exact GU p A E o n w f d h2 ab ab
 · obtain⟨A,rfl⟩:=Int.eq_ofNat_of_zero_le h1
   obtain⟨C,rfl⟩:=Int.eq_ofNat_of_zero_le (show 0≤c by omega);rcases hk with rfl | rfl
   · exact G8 p A C o n w f b d ab
   · exact Ha p A C o n w f b d ab
 · exact GD p o n w
theorem qM (p:ByteArray) (x:Op) (w:World) (f:p.size=512) (h:fX x) :
 bu 140 #[.string p,fj x] w (.string (ew p x)):=by
 obtain⟨k,a,e,c,o,n⟩:=x;unfold fX at h
 dsimp only at h
 rcases h with ⟨rfl,rfl,rfl,rfl,b,d⟩ | ⟨rfl,rfl,rfl,hs,h1,h2,h3,h4⟩ | ⟨rfl,rfl,b,h1,h2,h3,h4,h5⟩ | ⟨rfl,rfl,d,h1,h2,h3,h4,h5⟩ | ⟨hk,rfl,b,d,h1,h2,h3,h4⟩ | ⟨rfl,rfl,rfl,rfl,b,d⟩
 · exact uU p o n w
 · obtain⟨A,rfl⟩:=Int.eq_ofNat_of_zero_le h3
   exact uK p A o n w f hs h2 ab
 · obtain⟨A,rfl⟩:=Int.eq_ofNat_of_zero_le h3
   obtain⟨E,rfl⟩:=Int.eq_ofNat_of_zero_le (show 0≤e by omega);exact uO p A E o n w f b h2 ab ab
 · obtain⟨A,rfl⟩:=Int.eq_ofNat_of_zero_le h3
   obtain⟨E,rfl⟩:=Int.eq_ofNat_of_zero_le (show 0≤e by omega);exact uD p A E o n w f d h2 ab ab
 · obtain⟨A,rfl⟩:=Int.eq_ofNat_of_zero_le h1
   obtain⟨C,rfl⟩:=Int.eq_ofNat_of_zero_le (show 0≤c by omega);rcases hk with rfl | rfl
   · exact u7 p A C o n w f b d ab
   · exact uW p A C o n w f b d ab
 · exact uX p o n w
theorem EE (p:ByteArray) (x:Op) (w:World) (hp:p.size=512) (ho:x.o.size≤3100) (hn:x.n.size≤3100) :
 Calls Tryz.prog 100 #[.string p,fj x] w fun r w'=>r=.returned (.tuple #[.string (bz p x).1,.int .i64 (bz p x).2])∧Below w.heap.size w w':=by
 have hE:=fun W=>j3 x W ho hn;obtain⟨er,her⟩:∃e,e=gy x:=⟨_,rfl⟩;rw[←her] at hE;have HE:=Lib.hid hE;clear hE;by_cases h0:er=0
 · have hok:=(gv x).1 (her.symm.trans h0)
   have hF:=fun W=>DN p x W hp hok;have hD:=fun W=>qM p x W hp hok
   have ht:bz p x=if cR p x then (ew p x,0) else (⟨#[]⟩,13):=by unfold bz;rw[if_neg (by rw[←her];exact fun h=>h h0)]
   obtain⟨f,hf⟩:∃f,f=cR p x:=⟨_,rfl⟩;rw[←hf] at hF ht;have HF:=Lib.hid hF;have HD:=Lib.hid hD;have HT:=Lib.hid ht
   have h0':(er != 0)=false:=by simp[h0]
   clear hF hD ht hok her hf h0;unfold fj at *
   cases f
   all_goals
    go_enter Tryz.func100,Tryz.ntmps100
    go_wp2_with (first | ((go_at_call 139;(with_reducible refine(HE.out _).mono ?_);rintro e W1 ⟨rfl,hbW1⟩;obtain⟨hcW1,hfW1⟩:=bH hbW1);have hsW1:w.heap.size<W1.heap.size:=(by have h:=hbW1.size;simp at h;omega)) | ((go_at_call 141;(with_reducible refine(HF.out _).mono ?_);rintro e W2 ⟨rfl,hbW2⟩;obtain⟨hcW2,hfW2⟩:=bH hbW2);have hsW2:w.heap.size<W2.heap.size:=(by have h:=hbW2.size;omega)) | (go_at_call 140;(with_reducible refine(HD.out _).mono ?_);rintro e W3 ⟨rfl,hbW3⟩;obtain⟨hcW3,hfW3⟩:=bH hbW3))
    go_ret2
    exact⟨yG (by rw[HT.out];rfl) (by rw[HT.out];rfl),du⟩
 · have ht:bz p x=(⟨#[]⟩,er):=by unfold bz;rw[←her,if_pos h0]
   have HT:=Lib.hid ht
   have h0':(er != 0)=true:=by simp[h0]
   clear ht her h0;unfold fj at *
   go_enter Tryz.func100,Tryz.ntmps100
   go_wp2_with (first | ((go_at_call 139;(with_reducible refine(HE.out _).mono ?_);rintro e W1 ⟨rfl,hbW1⟩;obtain⟨hcW1,hfW1⟩:=bH hbW1);have hsW1:w.heap.size<W1.heap.size:=(by have h:=hbW1.size;simp at h;omega)))
   go_ret2
   exact⟨yG (by rw[HT.out]) (by rw[HT.out]),du⟩
open Go.ChangeShapes Go.WideShapes Go.ChangeAt Go.RowKit
structure Lge where
 k:Int
 t:Int
 p:Int
 x:Int
 g:Int
 f:Bool
 o:Op
 d:ByteArray
def C8 (e:Lge):List Value:=[ae e.k,ae e.t,ae e.p,ae e.x,ae e.g,.bool e.f,ae e.o.k,ae e.o.a,ae e.o.e,ae e.o.c,.string e.o.o,.string e.o.n,.string e.d]
def cy (e:Lge):Value:=.agg (C8 e).toArray
structure Rdo where
 f:Bool
 o:Op
 n:Int
open Go.RowKit
structure Trn where
 i:Int
 l:Int
 u:Int
 c:Bool
 deriving DecidableEq
structure Dty where
 g:Int
 f:Bool
 l:Int
 deriving DecidableEq
structure Tbl where
 ts:List Trn
 ds:List Dty
 deriving DecidableEq
structure Rcd where
 l:Int
 e:Lge
structure Pgp where
 g:Int
 f:Bool
 b:ByteArray
 deriving DecidableEq
def jI:Tbl:=⟨[],[]⟩
def bW (x:Trn):List Value:=[ae x.i,ae x.l,ae x.u,.bool x.c]
def cN (x:Dty):List Value:=[ae x.g,.bool x.f,ae x.l]
def cB (x:Rcd):List Value:=ae x.l::C8 x.e
def bX (x:Pgp):List Value:=[ae x.g,.bool x.f,.string x.b]
theorem bq (x:Trn):(bW x).length=4:=rfl
theorem dF (x:Dty):(cN x).length=3:=rfl
theorem aI (x:Rcd):(cB x).length=14:=rfl
theorem aY (x:Pgp):(bX x).length=3:=rfl
theorem wc (x:Trn):∀u∈bW x,u.oneCell'=true:=by
 intro u a;simp only[bW,List.mem_cons,List.not_mem_nil,or_false] at a
 rcases a with rfl | rfl | rfl | rfl<;>rfl
theorem vp (x:Dty):∀u∈cN x,u.oneCell'=true:=by
 intro u a;simp only[cN,List.mem_cons,List.not_mem_nil,or_false] at a
 rcases a with rfl | rfl | rfl<;>rfl
theorem wJ (x:Pgp):∀u∈bX x,u.oneCell'=true:=by
 intro u a;simp only[bX,List.mem_cons,List.not_mem_nil,or_false] at a
 rcases a with rfl | rfl | rfl<;>rfl
def da {α:Type} (l:List α) (i:Nat):Option α:=if i=0 then none else l[i-1]?
def nJ (p:Option Trn) (x:Trn):Int:=av [bQ (bB x.i 1 9999&&bB x.l 1 2147483647&&bB x.u 0 x.l) 2,bQ (match p with | none=>true | some y=>decide (y.i<x.i)) 9]
def nk (p:Option Dty) (x:Dty):Int:=av [bQ (bB x.g 0 600&&bB x.l 1 2147483647) 2,bQ (match p with | none=>true | some y=>decide (y.g<x.g)) 9]
def lH (l:List Trn):Int × Int:=df (fun i x=>nJ (da l i) x) 0 l
def wi (l:List Dty):Int × Int:=df (fun i x=>nk (da l i) x) 0 l
def cZ (t:Tbl):Int:=if 60<t.ts.length∨60<t.ds.length then 8 else if (lH t.ts).2≠0 then (lH t.ts).2 else (wi t.ds).2
def sh (b:Bool):Int:=if b then 1 else 0
def AJ (x:Trn):List UInt8:=lit x.i 2 ++ (lit x.l 4 ++ (lit x.u 4 ++ lit (sh x.c) 1))
def Ax (x:Dty):List UInt8:=lit x.g 2 ++ (lit (sh x.f) 1 ++ lit x.l 4)
def Ey (t:Tbl):List UInt8:=lit t.ts.length 1 ++ lit t.ds.length 1 ++ (t.ts.flatMap AJ ++ t.ds.flatMap Ax)
def zy (s:List UInt8) (a:Nat):Trn:=⟨gY s a 2,gY s (a+2) 4,gY s (a+6) 4,gY s (a+10) 1==1⟩
def yP (s:List UInt8) (a:Nat):Dty:=⟨gY s a 2,gY s (a+2) 1==1,gY s (a+3) 4⟩
def bn (s:List UInt8):Nat:=(gY s 0 1).toNat
def eA (s:List UInt8):Nat:=(gY s 1 1).toNat
def jW (s:List UInt8) (k:Nat):List Trn:=(List.range k).map fun i=>zy s (2+11*i)
def lz (s:List UInt8) (k:Nat):List Dty:=(List.range k).map fun i=>yP s (2+11*bn s+7*i)
def iB (s:List UInt8) (k:Nat):Bool:=(List.range k).all fun i=>decide (gY s (2+11*i+10) 1≤1)
def jC (s:List UInt8) (k:Nat):Bool:=(List.range k).all fun i=>decide (gY s (2+11*bn s+7*i+2) 1≤1)
def eS (s:List UInt8):Tbl:=⟨jW s (bn s),lz s (eA s)⟩
def iM (s:List UInt8):Int:=if s.length<2 then 10 else if s.length≠2+11*bn s+7*eA s then 10 else av [bQ (iB s (bn s)&&jC s (eA s)) 3,cZ (eS s)]
def dK (s:List UInt8):Tbl:=if iM s=0 then eS s else jI
theorem zS (s:List UInt8) (a m n:Nat):(s.drop a).take m ++ (s.drop (a+m)).take n=(s.drop a).take (m+n):=by
 rw[←List.drop_drop];generalize s.drop a=l;rw[←List.take_append_drop m (l.take (m+n)),List.take_take,Nat.min_eq_left ab,List.drop_take,Nat.add_sub_cancel_left]
structure TrnOk (x:Trn):Prop where
 i:1≤x.i∧x.i≤9999
 l:1≤x.l∧x.l≤2147483647
 u:0≤x.u∧x.u≤x.l
structure DtyOk (x:Dty):Prop where
 g:0≤x.g∧x.g≤600
 l:1≤x.l∧x.l≤2147483647
theorem trnE_zero {p:Option Trn} {x:Trn}:nJ p x=0↔TrnOk x∧∀y,p=some y→y.i<x.i:=by
 unfold nJ;rw[aN];simp only[List.mem_cons,List.not_mem_nil,or_false,forall_eq_or_imp,forall_eq];rw[aH au,aH au,Bool.and_eq_true,Bool.and_eq_true,inB_true,inB_true,inB_true]
 constructor
 · rintro ⟨⟨⟨a,c⟩,h3⟩,b⟩
   refine⟨⟨a,c,h3⟩,fun y d=>?_⟩;subst d;simpa using b
 · rintro ⟨⟨a,c,h3⟩,b⟩
   refine⟨⟨⟨a,c⟩,h3⟩,?_⟩
   cases p with
   | none=>rfl
   | some y=>simpa using b y rfl
theorem dtyE_zero {p:Option Dty} {x:Dty}:nk p x=0↔DtyOk x∧∀y,p=some y→y.g<x.g:=by
 unfold nk;rw[aN];simp only[List.mem_cons,List.not_mem_nil,or_false,forall_eq_or_imp,forall_eq];rw[aH au,aH au,Bool.and_eq_true,inB_true,inB_true]
 constructor
 · rintro ⟨⟨a,c⟩,b⟩
   refine⟨⟨a,c⟩,fun y d=>?_⟩;subst d;simpa using b
 · rintro ⟨⟨a,c⟩,b⟩
   refine⟨⟨a,c⟩,?_⟩
   cases p with
   | none=>rfl
   | some y=>simpa using b y rfl
structure TblOk (t:Tbl):Prop where
 n:t.ts.length≤60
 m:t.ds.length≤60
 ts:∀k (h:k<t.ts.length),TrnOk t.ts[k]
 ds:∀k (h:k<t.ds.length),DtyOk t.ds[k]
 tord:∀k (h:k+1<t.ts.length),t.ts[k].i<t.ts[k+1].i
 dord:∀k (h:k+1<t.ds.length),t.ds[k].g<t.ds[k+1].g
theorem cK {α:Type} (f:Nat→α→Int) (l:List α):(df f 0 l).2=0↔∀k (h:k<l.length),f k l[k]=0:=by
 constructor
 · intro h k a
   have:=j0 f l 0 h k a
   rwa [Nat.zero_add] at this
 · intro h
   rw[dx f l 0 fun k a=>by rw[Nat.zero_add];exact h k a]
theorem fE {α:Type} (l:List α) (k:Nat) (h:k<l.length):da l (k+1)=some l[k]:=by
 unfold da;rw[if_neg ab,Nat.add_sub_cancel,List.getElem?_eq_getElem h]
theorem tblE_zero {t:Tbl}:cZ t=0↔TblOk t:=by
 unfold cZ lH wi
 constructor
 · intro h
   split at h
   · cases h
   rename_i e
   split at h
   · rename_i c;exact absurd h c
   rename_i c
   have c:=(cK _ _).1 (Classical.not_not.1 c);have d:=(cK _ _).1 h;refine⟨by omega,by omega,fun k a=>(trnE_zero.1 (c k a)).1,fun k a=>(dtyE_zero.1 (d k a)).1,fun k a=>?_,fun k a=>?_⟩
   · exact(trnE_zero.1 (c (k+1) a)).2 _ (fE _ _ _)
   · exact(dtyE_zero.1 (d (k+1) a)).2 _ (fE _ _ _)
 · intro h
   rw[if_neg (by have:=h.n;have:=h.m;omega)];rw[if_neg]
   · rw[cK]
     intro k a;rw[dtyE_zero];refine⟨h.ds k a,fun y b=>?_⟩
     cases k with
     | zero=>cases b
     | succ k=>rw[fE _ _ ab] at b;cases b;exact h.dord k a
   · rw[Classical.not_not,cK]
     intro k a;rw[trnE_zero];refine⟨h.ts k a,fun y b=>?_⟩
     cases k with
     | zero=>cases b
     | succ k=>rw[fE _ _ ab] at b;cases b;exact h.tord k a
end Go.Proofs.YtcfdpfmchchkaaaGreatDoor
