/-
  Chapter 21: the errors of operations, as the references have them: formErr, bytesErr.
  Chapter 21: the reference's OpErr.
-/
import Derived.Test.YtcfdpfmchchkaaaGreatDoorOpD
namespace Go.Proofs.YtcfdpfmchchkaaaGreatDoor
set_option maxHeartbeats 1000000
set_option maxRecDepth 4000
set_option linter.unusedVariables false
set_option linter.unusedSimpArgs false
open Go.RowKit Go.Sort
theorem lg (x:Op):e8 x=if bf x.k 0 6=false then 15 else if cD x=false then 3 else if cT x=false then 10 else if cw x.k=true∧cG x=0 then 17
 else if cw x.k=true∧200<cG x then 8 else if eu x=false then 2 else 0:=by
 unfold e8
 cases hk:bf x.k 0 6
 · rfl
 · rw[if_neg aq,if_neg aq]
   have h1:(!cw x.k||decide (0<cG x))=!(decide (cw x.k=true∧cG x=0)):=by
    cases cw x.k
    · simp
    · rw[Bool.eq_iff_iff];simp only[Bool.not_true,Bool.false_or,true_and,Bool.not_eq_true',decide_eq_true_eq,decide_eq_false_iff_not];omega
   have h2:(!cw x.k||decide (cG x≤200))=!(decide (cw x.k=true∧200<cG x)):=by
    cases cw x.k
    · simp
    · rw[Bool.eq_iff_iff];simp only[Bool.not_true,Bool.false_or,true_and,Bool.not_eq_true',decide_eq_true_eq,decide_eq_false_iff_not];omega
   rw[h1,h2]
   cases cD x
   · simp[ar,bn]
   · cases cT x
     · simp[ar,bn]
     · by_cases g1:cw x.k=true∧cG x=0
       · simp[ar,bn,g1]
       · by_cases g2:cw x.k=true∧200<cG x
         · simp only[ar,bn,decide_eq_false g1,decide_eq_true g2,if_neg g1,if_pos g2];simp
         · simp only[ar,bn,decide_eq_false g1,decide_eq_false g2,if_neg g1,if_neg g2]
           cases eu x<;>simp
def mr (c:Int) (r:Bool):Int:=if c=0 then 17 else if 200<c then 8 else bn r 2
theorem gT (x:Op) (c:Int) (r:Bool) (w:World) :
 Calls Tryz.prog 209 #[fC x,.int .i64 c,.bool r] w fun e w'=>e=.returned (.int .i64 (mr c r))∧Below w.heap.size w w':=by
 obtain⟨E,hE⟩:∃E,E=mr c r:=⟨_,rfl⟩;rw[←hE];unfold mr at hE;refine al (N:=13) Tryz.func209 rfl rfl rfl (fun _ Y=>?_);have Z:=St.init w;refine ah (ao ?_);refine nb Y rfl rfl Z fun b3 _ _ Zd Y Z=>?_;refine GO 10 ?_;intro _ Y;refine ak (Y.ev rfl) (fun Za=>?_) (fun Za=>?_)
 ·
  rw[if_pos (by simpa using Za)] at hE;refine GO 7 ?_;intro _ Y;refine aD Y rfl rfl ?_;exact⟨by first | (rw[hE];done) | (rw[hE];rfl),Z.below⟩
 ·
  rw[if_neg (by simpa using Za)] at hE;refine GO 9 ?_;intro _ Y;refine ak (Y.ev rfl) (fun Zb=>?_) (fun Zb=>?_)
  ·
   rw[if_pos (by simpa using Zb)] at hE;refine GO 7 ?_;intro _ Y;refine aD Y rfl rfl ?_;exact⟨by first | (rw[hE];done) | (rw[hE];rfl),Z.below⟩
  ·
   rw[if_neg (by simpa using Zb)] at hE;refine GO 9 ?_;intro _ Y;refine ak (Y.ev rfl) (fun Zc=>?_) (fun Zc=>?_)
   ·
    rw[show r=false by simpa using Zc] at hE;refine GO 7 ?_;intro _ Y;refine aD Y rfl rfl ?_;exact⟨by first | (rw[hE];done) | (rw[hE];rfl),Z.below⟩
   ·
    rw[show r=true by simpa using Zc] at hE;refine GO 8 ?_;intro _ Y;refine aD Y rfl rfl ?_;exact⟨by first | (rw[hE];done) | (rw[hE];rfl),Z.below⟩
theorem rG (s:ByteArray):(!decide (s=⟨#[]⟩))=(s.size != 0):=by rw[mC];rfl
theorem Bi (x:Op):(((((!((x.k==1||(x.k==2||x.k==3))||(x.k==4||x.k==5))&&(x.a != 0))||(!(x.k==2||x.k==3)&&(x.e != 0)))||(!(x.k==4||x.k==5)&&(x.c != 0)))||(!((x.k==1||x.k==3)||x.k==6)&&(x.o.size != 0)))||(!((x.k==1||x.k==2)||x.k==6)&&(x.n.size != 0)))=!cD x:=by
 have e1:((x.k==1||(x.k==2||x.k==3))||(x.k==4||x.k==5))=uZ x.k:=by unfold uZ;rw[Bool.eq_iff_iff,inB_true];simp;omega
 have e2:(x.k==2||x.k==3)=ma x.k:=by unfold ma;rw[Bool.eq_iff_iff,inB_true];simp;omega
 have e3:(x.k==4||x.k==5)=gV x.k:=by unfold gV;rw[Bool.eq_iff_iff,inB_true];simp;omega
 have e4:((x.k==1||x.k==3)||x.k==6)=mS x.k:=rfl;have e5:((x.k==1||x.k==2)||x.k==6)=mq x.k:=rfl;rw[e1,e2,e3,e4,e5];unfold cD bne
 cases uZ x.k<;>cases ma x.k<;>cases gV x.k<;>cases mS x.k<;>cases mq x.k<;>cases (x.a==0)<;>cases (x.e==0)<;>cases (x.c==0)<;>cases (x.o.size==0)<;>cases (x.n.size==0)<;>rfl
theorem rU (x:Op) (w:World) :
 Calls Tryz.prog 208 #[fC x] w fun r w'=>r=.returned (.int .i64 (bn (cD x) 3))∧Below w.heap.size w w':=by
 have hF:=Bi x;refine al (N:=102) Tryz.func208 rfl rfl rfl (fun _ Y=>?_);have Z:=St.init w;refine ah (ao ?_);refine nb Y rfl rfl Z fun b1 _ _ Jb Y Z=>?_;refine GO 9 ?_;intro _ Y;apply bm (x:=x.k==3) Y Z 11 rfl 4 15
 case hf=>
  intro Zf;refine GO 4 ?_;intro _ Y;exact ae ⟨Y.midE 3,Z⟩
 case ht=>
  intro Zf;refine GO 4 ?_;intro _ Y;exact ae ⟨Y.midE 3,Z⟩
 case h=>
  rintro a15 Jc ⟨Jd,Zg⟩
  refine GO 9 ?_;intro _ Y;apply bm (x:=x.k==5) Y Zg 19 rfl 4 23
  case hf=>
   intro Zh;refine GO 4 ?_;intro _ Y;exact ae ⟨Y.midE 3,Zg⟩
  case ht=>
   intro Zh;refine GO 4 ?_;intro _ Y;exact ae ⟨Y.midE 3,Zg⟩
  case h=>
   rintro a29 Je ⟨Jf,Zi⟩
   refine GO 9 ?_;intro _ Y;apply bm (x:=(x.k==2||x.k==3)) Y Zi 27 rfl 2 29
   case hf=>
    intro Zj;refine GO 2 ?_;intro _ Y;exact ae ⟨Y.midE 1,Zi⟩
   case ht=>
    intro Zj;refine GO 2 ?_;intro _ Y;exact ae ⟨Y.midE 1,Zi⟩
   case h=>
    rintro a39 Jg ⟨Jh,Zk⟩
    refine GO 1 ?_;intro _ Y;apply bm (x:=(x.k==4||x.k==5)) Y Zk 30 rfl 2 32
    case hf=>
     intro Zl;refine GO 2 ?_;intro _ Y;exact ae ⟨Y.midE 1,Zk⟩
    case ht=>
     intro Zl;refine GO 2 ?_;intro _ Y;exact ae ⟨Y.midE 1,Zk⟩
    case h=>
     rintro a45 Ji ⟨Jj,Zm⟩
     refine GO 9 ?_;intro _ Y;apply bm (x:=x.k==3) Y Zm 36 rfl 4 40
     case hf=>
      intro Zn;refine GO 4 ?_;intro _ Y;exact ae ⟨Y.midE 3,Zm⟩
     case ht=>
      intro Zn;refine GO 4 ?_;intro _ Y;exact ae ⟨Y.midE 3,Zm⟩
     case h=>
      rintro a59 Jk ⟨Jl,Zo⟩
      refine GO 1 ?_;intro _ Y;apply bm (x:=x.k==6) Y Zo 41 rfl 4 45
      case hf=>
       intro Zp;refine GO 4 ?_;intro _ Y;exact ae ⟨Y.midE 3,Zo⟩
      case ht=>
       intro Zp;refine GO 4 ?_;intro _ Y;exact ae ⟨Y.midE 3,Zo⟩
      case h=>
       rintro a69 Jm ⟨Jn,Zq⟩
       refine GO 9 ?_;intro _ Y;apply bm (x:=x.k==2) Y Zq 49 rfl 4 53
       case hf=>
        intro Zr;refine GO 4 ?_;intro _ Y;exact ae ⟨Y.midE 3,Zq⟩
       case ht=>
        intro Zr;refine GO 4 ?_;intro _ Y;exact ae ⟨Y.midE 3,Zq⟩
       case h=>
        rintro a83 Jo ⟨Jp,Zs⟩
        refine GO 1 ?_;intro _ Y;apply bm (x:=x.k==6) Y Zs 54 rfl 4 58
        case hf=>
         intro Zt;refine GO 4 ?_;intro _ Y;exact ae ⟨Y.midE 3,Zs⟩
        case ht=>
         intro Zt;refine GO 4 ?_;intro _ Y;exact ae ⟨Y.midE 3,Zs⟩
        case h=>
         rintro a93 Jq ⟨Jr,Zu⟩
         refine GO 9 ?_;intro _ Y;apply aZ (x:=x.a != 0) Y Zu 61 rfl 4 65
         case ht=>
          intro Zv;refine GO 4 ?_;intro _ Y;exact ae ⟨Y.midE 3,Zu⟩
         case hf=>
          intro Zv;refine GO 4 ?_;intro _ Y;exact ae ⟨Y.midE 3,Zu⟩
         case h=>
          rintro a106 Qk ⟨Ql,Za⟩
          refine GO 1 ?_;intro _ Y;apply bm (x:=(!(x.k==2||x.k==3)&&(x.e != 0))) Y Za 66 rfl 8 74
          case hf=>
           intro Zw;refine GO 3 ?_;intro _ Y;apply aZ (x:=x.e != 0) Y Za 69 rfl 4 73
           case ht=>
            intro Zx;refine GO 4 ?_;intro _ Y;exact ae ⟨Y.midE 3,Za⟩
           case hf=>
            intro Zx;refine GO 4 ?_;intro _ Y;exact ae ⟨Y.midE 3,Za⟩
           case h=>
            rintro a119 Qm ⟨Qn,Zy⟩
            refine GO 1 ?_;intro _ Y;exact ae ⟨Y.midE 4,Zy⟩
          case ht=>
           intro Zw;refine GO 3 ?_;intro _ Y;refine bI Y (az Y _ rfl rfl rfl) rfl rfl fun _ Y=>?_;refine bI Y (az Y _ rfl rfl rfl) rfl rfl fun _ Y=>?_;refine bI Y (az Y _ rfl rfl rfl) rfl rfl fun _ Y=>?_;refine GO 2 ?_;intro _ Y;exact ae ⟨Y.midE 7,Za⟩
          case h=>
           rintro a129 Qo ⟨Qp,Zb⟩
           refine GO 1 ?_;intro _ Y;apply bm (x:=(!(x.k==4||x.k==5)&&(x.c != 0))) Y Zb 75 rfl 8 83
           case hf=>
            intro Zz;refine GO 3 ?_;intro _ Y;apply aZ (x:=x.c != 0) Y Zb 78 rfl 4 82
            case ht=>
             intro Qa;refine GO 4 ?_;intro _ Y;exact ae ⟨Y.midE 3,Zb⟩
            case hf=>
             intro Qa;refine GO 4 ?_;intro _ Y;exact ae ⟨Y.midE 3,Zb⟩
            case h=>
             rintro a142 Qq ⟨Qr,Qb⟩
             refine GO 1 ?_;intro _ Y;exact ae ⟨Y.midE 4,Qb⟩
           case ht=>
            intro Zz;refine GO 3 ?_;intro _ Y;refine bI Y (az Y _ rfl rfl rfl) rfl rfl fun _ Y=>?_;refine bI Y (az Y _ rfl rfl rfl) rfl rfl fun _ Y=>?_;refine bI Y (az Y _ rfl rfl rfl) rfl rfl fun _ Y=>?_;refine GO 2 ?_;intro _ Y;exact ae ⟨Y.midE 7,Zb⟩
           case h=>
            rintro a152 Qs ⟨Qt,Zc⟩
            refine GO 1 ?_;intro _ Y;apply bm (x:=(!((x.k==1||x.k==3)||x.k==6)&&(x.o.size != 0))) Y Zc 84 rfl 8 92
            case hf=>
             intro Qc;refine GO 3 ?_;intro _ Y;apply aZ (x:=x.o.size != 0) Y Zc 87 rfl 4 91
             case ht=>
              intro Qd;refine GO 2 ?_;intro _ Y;refine sy Y (aw (v':=.bool (x.o.size != 0)) (congrArg _ (rG _)) (l8 (Y.ev rfl) (Y.ev rfl))) fun _ Y=>?_;refine GO 1 ?_;intro _ Y;exact ae ⟨Y.midE 3,Zc⟩
             case hf=>
              intro Qd;refine GO 4 ?_;intro _ Y;exact ae ⟨Y.midE 3,Zc⟩
             case h=>
              rintro a165 Qu ⟨Qv,Qe⟩
              refine GO 1 ?_;intro _ Y;exact ae ⟨Y.midE 4,Qe⟩
            case ht=>
             intro Qc;refine GO 3 ?_;intro _ Y;refine bI Y (az Y _ rfl rfl rfl) rfl rfl fun _ Y=>?_;refine bI Y (az Y _ rfl rfl rfl) rfl rfl fun _ Y=>?_;refine bI Y (az Y _ rfl rfl rfl) rfl rfl fun _ Y=>?_;refine GO 2 ?_;intro _ Y;exact ae ⟨Y.midE 7,Zc⟩
            case h=>
             rintro a175 Qw ⟨Qx,Zd⟩
             refine GO 1 ?_;intro _ Y;apply bm (x:=(!((x.k==1||x.k==2)||x.k==6)&&(x.n.size != 0))) Y Zd 93 rfl 8 101
             case hf=>
              intro Qf;refine GO 3 ?_;intro _ Y;apply aZ (x:=x.n.size != 0) Y Zd 96 rfl 4 100
              case ht=>
               intro Qg;refine GO 2 ?_;intro _ Y;refine sy Y (aw (v':=.bool (x.n.size != 0)) (congrArg _ (rG _)) (l8 (Y.ev rfl) (Y.ev rfl))) fun _ Y=>?_;refine GO 1 ?_;intro _ Y;exact ae ⟨Y.midE 3,Zd⟩
              case hf=>
               intro Qg;refine GO 4 ?_;intro _ Y;exact ae ⟨Y.midE 3,Zd⟩
              case h=>
               rintro a188 Qy ⟨Qz,Qh⟩
               refine GO 1 ?_;intro _ Y;exact ae ⟨Y.midE 4,Qh⟩
             case ht=>
              intro Qf;refine GO 3 ?_;intro _ Y;refine bI Y (az Y _ rfl rfl rfl) rfl rfl fun _ Y=>?_;refine bI Y (az Y _ rfl rfl rfl) rfl rfl fun _ Y=>?_;refine bI Y (az Y _ rfl rfl rfl) rfl rfl fun _ Y=>?_;refine GO 2 ?_;intro _ Y;exact ae ⟨Y.midE 7,Zd⟩
             case h=>
              rintro a198 Ja ⟨Qi,Ze⟩
              refine ae (ag ?_);refine ak (Qi.ev rfl) (fun Qj=>?_) (fun Qj=>?_)
              ·
               have e:cD x=false:=by rw[Qj] at hF;simpa using hF.symm
               refine GO 7 ?_;intro _ Y;refine aD Y rfl rfl ?_;exact⟨by first | (rw[e];done) | (rw[e];rfl),Ze.below⟩
              ·
               have e:cD x=true:=by rw[Qj] at hF;simpa using hF.symm
               refine GO 8 ?_;intro _ Y;refine aD Y rfl rfl ?_;exact⟨by first | (rw[e];done) | (rw[e];rfl),Ze.below⟩
open Go.RowKit Go.Sort
theorem qM {k a e c:Int} {o n:ByteArray} (h:true=cD ⟨k,a,e,c,o,n⟩):(k=2→o.size=0)∧(k=3→n.size=0):=by
 simp only[cD,mS,mq,Bool.and_eq_true,Bool.or_eq_true,beq_iff_eq] at h;have h:=h.symm;simp only[Bool.and_eq_true,Bool.or_eq_true,beq_iff_eq] at h;omega
theorem CF {x:Op} (hk:x.k=1) (hf:cD x=true):e8 x=if x.o.size≠x.n.size then 10 else mr x.o.size (bf x.a 0 511&&decide ((x.o.size:Int)≤512-x.a)):=by
 have h6:bf x.k 0 6=true:=by rw[inB_true];omega
 have h3:cw x.k=true:=by unfold cw;rw[inB_true];omega
 have hs:cT x=(x.o.size==x.n.size):=by unfold cT;rw[if_pos hk]
 have hr:eu x=(bf x.a 0 511&&decide ((x.o.size:Int)≤512-x.a)):=by unfold eu;rw[if_pos hk]
 rw[lg,hf,hs,h3,hr,if_neg (by rw[h6];decide),if_neg aq];generalize (bf x.a 0 511&&decide ((x.o.size:Int)≤512-x.a))=r;by_cases h:x.o.size=x.n.size
 · have hl:cG x=x.o.size:=by unfold cG;omega
   rw[if_neg (by rw[beq_iff_eq.2 h];decide),if_neg (show ¬(x.o.size≠x.n.size) from fun g=>g h),hl];by_cases h0:x.o.size=0
   · rw[if_pos ⟨rfl,h0⟩];unfold mr;rw[if_pos ab]
   · rw[if_neg (fun g=>h0 g.2)]
     by_cases h2:200<x.o.size
     · rw[if_pos ⟨rfl,h2⟩];unfold mr;rw[if_neg ab,if_pos ab]
     · rw[if_neg (fun g=>h2 g.2)];unfold mr;rw[if_neg (show ¬((x.o.size:Int)=0) by omega),if_neg (show ¬(200<(x.o.size:Int)) by omega)]
       cases r<;>rfl
 · rw[if_pos (beq_false_of_ne h),if_pos h]
theorem xb {x:Op} {c:Nat} {r:Bool} (hk:x.k=2∨x.k=3) (hf:cD x=true) (hc:cG x=c) (hr:eu x=r):e8 x=mr c r:=by
 have h6:bf x.k 0 6=true:=by rw[inB_true];omega
 have h3:cw x.k=true:=by unfold cw;rw[inB_true];omega
 have hs:cT x=true:=by unfold cT;rw[if_neg ab,if_neg ab]
 rw[lg,hf,hs,h3,hc,hr,if_neg (by rw[h6];decide),if_neg aq,if_neg aq];by_cases h0:c=0
 · rw[if_pos ⟨rfl,h0⟩];unfold mr;rw[if_pos ab]
 · rw[if_neg (fun g=>h0 g.2)]
   by_cases h2:200<c
   · rw[if_pos ⟨rfl,h2⟩];unfold mr;rw[if_neg ab,if_pos ab]
   · rw[if_neg (fun g=>h2 g.2)];unfold mr;rw[if_neg (show ¬((c:Int)=0) by omega),if_neg (show ¬(200<(c:Int)) by omega)]
     cases r<;>rfl
theorem w5 {x:Op} (hk:x.k=4∨x.k=5) (hf:cD x=true):e8 x=bn (bf x.a 0 4095&&bf x.c 1 (4096-x.a)) 2:=by
 have h6:bf x.k 0 6=true:=by rw[inB_true];omega
 have h3:cw x.k=false:=by unfold cw;rw[oE];omega
 have hs:cT x=true:=by unfold cT;rw[if_neg ab,if_neg ab]
 have hr:eu x=(bf x.a 0 4095&&bf x.c 1 (4096-x.a)):=by unfold eu;rw[if_neg ab,if_neg ab,if_neg ab,if_pos hk]
 rw[lg,hf,hs,h3,hr,if_neg (by rw[h6];decide),if_neg aq,if_neg aq,if_neg a7,if_neg a7]
 cases (bf x.a 0 4095&&bf x.c 1 (4096-x.a))<;>rfl
theorem BQ {x:Op} (hk:x.k≠1∧x.k≠2∧x.k≠3∧x.k≠4∧x.k≠5) (h6:bf x.k 0 6=true) (hf:cD x=true):e8 x=if x.k=6∧(x.o.size≠512∨x.n.size≠512) then 10 else 0:=by
 have h3:cw x.k=false:=by unfold cw;rw[oE];omega
 rw[lg,hf,h3,if_neg (by rw[h6];decide),if_neg aq]
 have hr:eu x=true:=by unfold eu;rw[if_neg ab,if_neg ab,if_neg ab,if_neg ab]
 rw[hr];unfold cT;rw[if_neg hk.1];by_cases h:x.k=6
 · rw[if_pos h]
   by_cases h1:x.o.size=512∧x.n.size=512
   · rw[if_neg (by simp[h1]),if_neg a7,if_neg a7,if_neg aq,if_neg ab]
   · rw[if_pos (by simp;omega),if_pos ⟨h,by omega⟩]
 · rw[if_neg h,if_neg aq,if_neg a7,if_neg a7,if_neg aq,if_neg ab]
theorem jS (x:Op) (w:World) (ho:x.o.size≤3100) (hn:x.n.size≤3100) :
 Calls Tryz.prog 139 #[fC x] w fun r w'=>r=.returned (.int .i64 (e8 x))∧Below w.heap.size w w':=by
 obtain⟨E,hE⟩:∃E,E=e8 x:=⟨_,rfl⟩;rw[←hE]
 have olds:cD x=true→(x.k=2→x.o.size=0)∧(x.k=3→x.n.size=0):=fun h=>by obtain⟨k,a,e,c,o,n⟩:=x;exact qM h.symm
 refine al (N:=115) Tryz.func139 rfl rfl rfl (fun _ Y=>?_);have Z:=St.init w;refine ah (ao ?_);refine nb Y rfl rfl Z fun b1 _ _ Qf Y Z=>?_;refine GO 8 ?_;intro _ Y;refine cC Y rfl (a6 _ _ _ _) fun _ Y=>?_;refine GO 3 ?_;intro _ Y;refine ak (Y.ev rfl) (fun Zo=>?_) (fun Zo=>?_)
 ·
  have hk:bf x.k 0 6=false:=by simpa using Zo
  rw[lg,if_pos hk] at hE;refine GO 7 ?_;intro _ Y;refine aD Y rfl rfl ?_;exact⟨by first | (rw[hE];done) | (rw[hE];rfl),Z.below⟩
 ·
  have hk:bf x.k 0 6=true:=by simpa using Zo
  refine wp_skip (ag (ah (ah (ao ?_))));refine sv (v:=fC x) Y (ai aa aa (Y.ev rfl) (Z.cellsAll (i:=0) rfl)) fun _ Y=>?_;refine cE Y rfl Z (rU x _) fun _ _ h9 Z=>?_;refine GO 9 ?_;intro _ Y;refine ak (Y.ev rfl) (fun Zf=>?_) (fun Zf=>?_)
  ·
   have hf:cD x=false:=by cases h:cD x with | false=>rfl | true=>rw[h] at Zf;exact absurd Zf aq
   rw[lg,if_neg (by rw[hk];decide),if_pos hf] at hE;refine GO 8 ?_;intro _ Y;refine aD Y rfl rfl ?_;exact⟨by rw[hE,hf];rfl,Z.below⟩
  ·
   have hf:cD x=true:=by cases h:cD x with | true=>rfl | false=>rw[h] at Zf;exact absurd Zf aq
   have hold:=olds hf;refine GO 16 ?_;intro _ Y;refine ak (Y.ev rfl) (fun Zp=>?_) (fun Zp=>?_)
   ·
    have k1:x.k=1:=by simpa using Zp
    rw[CF k1 hf] at hE;refine GO 12 ?_;intro _ Y;refine ak (Y.ev rfl) (fun Zq=>?_) (fun Zq=>?_)
    ·
     rw[if_pos (by have:¬(x.o.size:Int)=x.n.size:=(by simpa using Zq);omega)] at hE;refine GO 9 ?_;intro _ Y;refine aD Y rfl rfl ?_;exact⟨by first | (rw[hE];done) | (rw[hE];rfl),Z.below⟩
    ·
     rw[if_neg (by have:(x.o.size:Int)=x.n.size:=(by simpa using Zq);omega)] at hE;refine wp_skip (ag (ah ?_));apply aH Y (eZ 16) _ aa
     case h=>
      refine qv (v:=fC x) Y (fun X hX=>ai aa aa (Y.ev rfl) ((Z.grow hX).cellsAll (i:=0) rfl)) fun _ Y=>?_;refine GO 5 ?_;intro _ Y;refine gd Y rfl (fun X hX=>a6 _ _ _ _) fun _ Y=>?_;refine GO 1 ?_;intro _ Y;apply iF (x:=decide ((x.o.size:Int)≤512-x.a)) Y 33 rfl 8 41
      case ht=>
       intro Zg;refine GO 5 ?_;intro _ Y;refine qy Y (fun X hX=>(ek (Y.ev rfl) (Y.ev rfl) (by have:=inB_true.1 Zg;omega))) fun _ Y=>?_;refine GO 2 ?_;intro _ Y;exact av (Y.midE 7)
      case hf=>
       intro Zg;refine GO 8 ?_;intro _ Y;exact av (Y.midE 7)
      case h=>
       intro _ Y;refine av ?_;refine aP fun _ Zr Zz=>?_;have Z:=Z.grow Zr;refine cE Y rfl Z (gT x _ _ _) fun _ _ Y Z=>?_;refine GO 6 ?_;intro _ Y;refine aD Y rfl rfl ?_;exact⟨by first | (rw[hE];done) | (rw[hE];rfl),Z.below⟩
     case hB=>kernel_rfl
     case hst=>rfl
   ·
    have k1:x.k≠1:=by simpa using Zp
    refine GO 6 ?_;intro _ Y;refine ak (Y.ev rfl) (fun Zs=>?_) (fun Zs=>?_)
    ·
     have k2:x.k=2:=by simpa using Zs
     have ho0:=hold.1 k2;rw[xb (c:=x.n.size) (r:=bf x.a 0 511&&bf x.e x.a (512-x.n.size)) (.inl k2) hf (by unfold cG;omega) (by unfold eu;rw[if_neg k1,if_pos k2,ho0];simp)] at hE;refine GO 4 ?_;intro _ Y;refine cC Y rfl (a6 _ _ _ _) fun _ Y=>?_;refine GO 1 ?_;intro _ Y;apply aZ (x:=bf x.e x.a (512-x.n.size)) Y Z 48 rfl 10 58
     case ht=>
      intro Zh;refine GO 8 ?_;intro _ Y;refine bJ Y (aj Y _ rfl rfl rfl Zh) (ax a8 (Y.evs rfl) rfl) rfl rfl (a6 _ _ _ _) fun _ Y=>?_;refine GO 1 ?_;intro _ Y;exact ae ⟨Y.midE 9,Z⟩
     case hf=>
      intro Zh;refine GO 10 ?_;intro _ Y;exact ae ⟨Y.midE 9,Z⟩
     case h=>
      rintro a81 Qg ⟨Qh,Zy⟩
      refine GO 5 ?_;intro _ Y;refine sv (v:=fC x) Y (ai aa aa (Y.ev rfl) (Zy.cellsAll (i:=0) rfl)) fun _ Y=>?_;refine GO 4 ?_;intro _ Y;refine cE Y rfl Zy (gT x _ _ _) fun _ _ Y Z=>?_;refine GO 6 ?_;intro _ Y;refine aD Y rfl rfl ?_;exact⟨by first | (rw[hE];done) | (rw[hE];rfl),Z.below⟩
    ·
     have k2:x.k≠2:=by simpa using Zs
     refine GO 6 ?_;intro _ Y;refine ak (Y.ev rfl) (fun Zt=>?_) (fun Zt=>?_)
     ·
      have k3:x.k=3:=by simpa using Zt
      have hn0:=hold.2 k3;rw[xb (c:=x.o.size) (r:=bf x.a 0 511&&bf x.e (x.a+x.o.size) 512) (.inr k3) hf (by unfold cG;omega) (by unfold eu;rw[if_neg k1,if_neg k2,if_pos k3,hn0];simp)] at hE;refine GO 4 ?_;intro _ Y;refine cC Y rfl (a6 _ _ _ _) fun _ Y=>?_;refine GO 1 ?_;intro _ Y;apply aZ (x:=bf x.e (x.a+x.o.size) 512) Y Z 70 rfl 10 80
      case ht=>
       intro Zc;refine GO 7 ?_;intro _ Y;refine sy Y (bU (Y.ev rfl) (Y.ev rfl) (by have:=inB_true.1 Zc;omega)) fun _ Y=>?_;refine bJ Y (aj Y _ rfl rfl rfl Zc) (ax a8 (Y.evs rfl) rfl) rfl rfl (a6 _ _ _ _) fun _ Y=>?_;refine GO 1 ?_;intro _ Y;exact ae ⟨Y.midE 9,Z⟩
      case hf=>
       intro Zc;refine GO 10 ?_;intro _ Y;exact ae ⟨Y.midE 9,Z⟩
      case h=>
       rintro a116 Qa ⟨Qb,Zi⟩
       refine GO 5 ?_;intro _ Y;refine sv (v:=fC x) Y (ai aa aa (Y.ev rfl) (Zi.cellsAll (i:=0) rfl)) fun _ Y=>?_;refine GO 4 ?_;intro _ Y;refine cE Y rfl Zi (gT x _ _ _) fun _ _ Y Z=>?_;refine GO 6 ?_;intro _ Y;refine aD Y rfl rfl ?_;exact⟨by first | (rw[hE];done) | (rw[hE];rfl),Z.below⟩
     ·
      have k3:x.k≠3:=by simpa using Zt
      refine GO 7 ?_;intro _ Y;refine ak (Y.ev rfl) (fun Zn=>?_) (fun Zn=>?_)
      ·
       have k4:x.k=4:=by simpa using Zn
       refine wp_skip (ag ?_);refine ak (Y.ev rfl) (fun Ze=>?_) (fun Ze=>?_)
       ·
        rw[w5 (.inl k4) hf] at hE;refine GO 4 ?_;intro _ Y;refine cC Y rfl (a6 _ _ _ _) fun _ Y=>?_;refine GO 2 ?_;intro _ Y;apply bm (x:=!bf x.c 1 (4096-x.a)) Y Z 94 rfl 8 102
        case hf=>
         intro Za;refine GO 4 ?_;intro _ Y;refine sy Y (ek (Y.ev rfl) (Y.ev rfl) (by have h9:bf x.a 0 4095=true:=(by simpa using Za);have:=inB_true.1 h9;omega)) fun _ Y=>?_;refine bJ Y (aj Y _ rfl rfl rfl Za) (ax a8 (Y.evs rfl) rfl) rfl rfl (a6 _ _ _ _) fun _ Y=>?_;refine GO 2 ?_;intro _ Y;exact ae ⟨Y.midE 7,Z⟩
        case ht=>
         intro Za;refine GO 8 ?_;intro _ Y;exact ae ⟨Y.midE 7,Z⟩
        case h=>
         rintro a148 Qc ⟨Zu,Zj⟩
         refine ae (ag ?_);refine ak (Zu.ev rfl) (fun Zb=>?_) (fun Zb=>?_)
         ·
          have e:(bf x.a 0 4095&&bf x.c 1 (4096-x.a))=false:=by rw[←Bool.not_and] at Zb;cases hh:(bf x.a 0 4095&&bf x.c 1 (4096-x.a)) with | false=>rfl | true=>rw[hh] at Zb;cases Zb
          rw[e] at hE;refine GO 8 ?_;intro _ Y;refine aD Y rfl rfl ?_;exact⟨by first | (rw[hE];done) | (rw[hE];rfl),Zj.below⟩
         ·
          have e:(bf x.a 0 4095&&bf x.c 1 (4096-x.a))=true:=by rw[←Bool.not_and] at Zb;cases hh:(bf x.a 0 4095&&bf x.c 1 (4096-x.a)) with | true=>rfl | false=>rw[hh] at Zb;cases Zb
          rw[e] at hE;refine GO 9 ?_;intro _ Y;refine aD Y rfl rfl ?_;exact⟨by first | (rw[hE];done) | (rw[hE];rfl),Zj.below⟩
       ·
        exact absurd (Zn.symm.trans Ze) aq
      ·
       refine GO 5 ?_;intro _ Y;refine ak (Y.ev rfl) (fun Ze=>?_) (fun Ze=>?_)
       ·
        rw[w5 (.inr (by simpa using Ze)) hf] at hE;refine GO 4 ?_;intro _ Y;refine cC Y rfl (a6 _ _ _ _) fun _ Y=>?_;refine GO 2 ?_;intro _ Y;apply bm (x:=!bf x.c 1 (4096-x.a)) Y Z 94 rfl 8 102
        case hf=>
         intro Za;refine GO 4 ?_;intro _ Y;refine sy Y (ek (Y.ev rfl) (Y.ev rfl) (by have h9:bf x.a 0 4095=true:=(by simpa using Za);have:=inB_true.1 h9;omega)) fun _ Y=>?_;refine bJ Y (aj Y _ rfl rfl rfl Za) (ax a8 (Y.evs rfl) rfl) rfl rfl (a6 _ _ _ _) fun _ Y=>?_;refine GO 2 ?_;intro _ Y;exact ae ⟨Y.midE 7,Z⟩
        case ht=>
         intro Za;refine GO 8 ?_;intro _ Y;exact ae ⟨Y.midE 7,Z⟩
        case h=>
         rintro a174 Qd ⟨Zv,Zk⟩
         refine ae (ag ?_);refine ak (Zv.ev rfl) (fun Zb=>?_) (fun Zb=>?_)
         ·
          have e:(bf x.a 0 4095&&bf x.c 1 (4096-x.a))=false:=by rw[←Bool.not_and] at Zb;cases hh:(bf x.a 0 4095&&bf x.c 1 (4096-x.a)) with | false=>rfl | true=>rw[hh] at Zb;cases Zb
          rw[e] at hE;refine GO 8 ?_;intro _ Y;refine aD Y rfl rfl ?_;exact⟨by first | (rw[hE];done) | (rw[hE];rfl),Zk.below⟩
         ·
          have e:(bf x.a 0 4095&&bf x.c 1 (4096-x.a))=true:=by rw[←Bool.not_and] at Zb;cases hh:(bf x.a 0 4095&&bf x.c 1 (4096-x.a)) with | true=>rfl | false=>rw[hh] at Zb;cases Zb
          rw[e] at hE;refine GO 9 ?_;intro _ Y;refine aD Y rfl rfl ?_;exact⟨by first | (rw[hE];done) | (rw[hE];rfl),Zk.below⟩
       ·
        have k0:x.k≠1∧x.k≠2∧x.k≠3∧x.k≠4∧x.k≠5:=⟨k1,k2,k3,by simpa using Zn,by simpa using Ze⟩;rw[BQ k0 hk hf] at hE;refine GO 6 ?_;intro _ Y;refine ak (Y.ev rfl) (fun Zw=>?_) (fun Zw=>?_)
        ·
         skip
         refine GO 7 ?_;intro _ Y;apply bm (x:=((x.n.size:Int) != 512)) Y Z 109 rfl 5 114
         case hf=>
          intro Zl;refine GO 5 ?_;intro _ Y;exact ae ⟨Y.midE 4,Z⟩
         case ht=>
          intro Zl;refine GO 5 ?_;intro _ Y;exact ae ⟨Y.midE 4,Z⟩
         case h=>
          rintro a194 Qe ⟨Zx,Zm⟩
          refine ae (ag ?_);refine ak (Zx.ev rfl) (fun Zd=>?_) (fun Zd=>?_)
          ·
           rw[if_pos ⟨by simpa using Zw,by simp only[Bool.or_eq_true,bne_iff_ne] at Zd;omega⟩] at hE;refine GO 8 ?_;intro _ Y;refine aD Y rfl rfl ?_;exact⟨by first | (rw[hE];done) | (rw[hE];rfl),Zm.below⟩
          ·
           rw[if_neg (by simp only[Bool.or_eq_false_iff,bne_eq_false_iff_eq] at Zd;omega)] at hE;refine GO 9 ?_;intro _ Y;refine aD Y rfl rfl ?_;exact⟨by first | (rw[hE];done) | (rw[hE];rfl),Zm.below⟩
        ·
         rw[if_neg (by have:x.k≠6:=(by simpa using Zw);omega)] at hE;refine GO 9 ?_;intro _ Y;refine aD Y rfl rfl ?_;exact⟨by first | (rw[hE];done) | (rw[hE];rfl),Z.below⟩
end Go.Proofs.YtcfdpfmchchkaaaGreatDoor
