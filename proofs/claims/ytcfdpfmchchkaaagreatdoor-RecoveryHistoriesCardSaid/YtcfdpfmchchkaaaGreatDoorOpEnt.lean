/-
  Chapter 21: entries: their errors.
-/
import Derived.Test.YtcfdpfmchchkaaaGreatDoorOpG
namespace Go.Proofs.YtcfdpfmchchkaaaGreatDoor
set_option maxRecDepth 100000
set_option maxHeartbeats 4000000
set_option linter.unusedVariables false
set_option linter.unusedSimpArgs false
open Go.RowKit Go.Sort
def iS (e:Lge):Bool:=(e.x==0||e.k==1)&&((e.k==0||e.k==1)||(e.g==0&&!e.f&&mP e.o))&&(e.d.size==0||e.k==5)
def qn (e:Lge):Bool:=bf e.t 0 9999&&bf e.p 0 2147483647&&bf e.x 0 2147483647&&bf e.g 0 600
def dF (e:Lge):Int:=ar [bn (bf e.k 0 5) 15,bn (qn e) 2,bn (iS e) 3,bn (decide ((e.d.size:Int)≤1000)) 8,e8 e.o]
theorem CM (a b c d:Bool):a=false∨(a=true∧b=false)∨(a=true∧b=true∧c=false)∨(a=true∧b=true∧c=true∧d=false)∨(a=true∧b=true∧c=true∧d=true):=by
 cases a<;>cases b<;>cases c<;>cases d<;>simp
theorem j8 (n:Int) (w:World) :
 Calls Tryz.prog 217 #[.int .i64 n] w fun e w'=>e=.returned (.bool (bf n 0 2147483647))∧w=w':=by
 go_enter Tryz.func217,Tryz.ntmps217
 go_wp2_with (go_at_call 152;refine(aT _ _ _ _).mono ?_;rintro e w' ⟨rfl,rfl⟩)
 go_ret
 exact⟨rfl,rfl⟩
theorem pK (k t p x g:Int) (f:Bool) (o:Op) (d:ByteArray) (w:World) (ho:o.o.size≤3100) (hn:o.n.size≤3100) (hd:d.size≤maxLen) :
 Calls Tryz.prog 154 #[.agg #[.int .i64 k,.int .i64 t,.int .i64 p,.int .i64 x,.int .i64 g,.bool f,.int .i64 o.k,.int .i64 o.a,.int .i64 o.e,.int .i64 o.c,.string o.o,.string o.n,.string d]] w fun r w'=>r=.returned (.int .i64 (dF ⟨k,t,p,x,g,f,o,d⟩))∧Below w.heap.size w w':=by
 have hE:=fun W=>eQ o W ho hn;obtain⟨er,her⟩:∃x,x=e8 o:=⟨_,rfl⟩;rw[←her] at hE;unfold fC at hE;have HE:=Lib.hid hE;have HER:=Lib.hid her;unfold maxLen at hd;clear hE her ho hn;have hnil:=mx o;obtain⟨Bn,hBn⟩:∃b,mP o=b:=⟨_,rfl⟩;rw[hBn] at hnil;have HBn:=Lib.hid hBn;obtain⟨Bx,hBx⟩:∃b,(x==0)=b:=⟨_,rfl⟩;obtain⟨B0,hB0⟩:∃b,(k==0)=b:=⟨_,rfl⟩;obtain⟨B1,hB1⟩:∃b,(k==1)=b:=⟨_,rfl⟩;obtain⟨B5,hB5⟩:∃b,(k==5)=b:=⟨_,rfl⟩;obtain⟨Bg,hBg⟩:∃b,(g==0)=b:=⟨_,rfl⟩;obtain⟨Bd,hBd⟩:∃b,d.toList.isEmpty=b:=⟨_,rfl⟩;obtain⟨F,hF⟩:∃F,iS ⟨k,t,p,x,g,f,o,d⟩=F:=⟨_,rfl⟩
 have hF':F=((Bx||B1)&&((B0||B1)||(Bg&&!f&&Bn))&&(Bd||B5)):=by
  rw[←hF,←hBx,←hB0,←hB1,←hB5,←hBg,←hBn,←hBd,isEmpty_eq];rfl
 have HF:=Lib.hid hF;have HF':=Lib.hid hF';clear hBn hF hF'
 go_enter Tryz.func154,Tryz.ntmps154
 go_upto_region 1 with (fail)
 go_cut [3] (fun s3 wx=>s3=.bool (B0||B1)∧wx=w.alloc (.cells #[.int .i64 k,.int .i64 t,.int .i64 p,.int .i64 x,.int .i64 g,.bool f,.int .i64 o.k,.int .i64 o.a,.int .i64 o.e,.int .i64 o.c,.string o.o,.string o.n,.string d] 143))
 case first=>
  go_wp2_with fail
  all_goals
   go_meet
   refine⟨congrArg Value.bool ?_,rfl⟩
   cases B0<;>cases B1<;>simp_all
 case rest=>
 obtain⟨rfl,rfl⟩:=hcut;obtain⟨Bc,hBc⟩:∃b,(B0||B1)=b:=⟨_,rfl⟩;rw[hBc];have HBc:=Lib.hid hBc;clear hBc
 go_upto_region 3 with (fail)
 go_cut [3,5] (fun _ s5 wx=>s5=.bool F∧wx=w.alloc (.cells #[.int .i64 k,.int .i64 t,.int .i64 p,.int .i64 x,.int .i64 g,.bool f,.int .i64 o.k,.int .i64 o.a,.int .i64 o.e,.int .i64 o.c,.string o.o,.string o.n,.string d] 143))
 case first=>
  cases f
  all_goals
   go_wp2_with fail
   all_goals
    go_meet
    refine⟨congrArg Value.bool ?_,rfl⟩;have Y:=HF'.out;have Y:=HBc.out
    simp_all
 case rest=>
 obtain⟨rfl,rfl⟩:=hcut;clear hBx hB0 hB1 hB5 hBg hBd hnil;obtain⟨bt,hbt⟩:∃b,b=bf t 0 9999:=⟨_,rfl⟩;obtain⟨bp,hbp⟩:∃b,b=bf p 0 2147483647:=⟨_,rfl⟩;obtain⟨bx,hbx⟩:∃b,b=bf x 0 2147483647:=⟨_,rfl⟩;obtain⟨bg,hbg⟩:∃b,b=bf g 0 600:=⟨_,rfl⟩;obtain⟨bk,hbk⟩:∃b,b=bf k 0 5:=⟨_,rfl⟩;have hK:=fun W=>aT k 0 5 W;have hT:=fun W=>aT t 0 9999 W;have hG:=fun W=>aT g 0 600 W;have hP:=fun W=>j8 p W;have hX:=fun W=>j8 x W;rw[←hbk] at hK;rw[←hbt] at hT;rw[←hbg] at hG;rw[←hbp] at hP;rw[←hbx] at hX;have HK:=Lib.hid hK;have HT:=Lib.hid hT;have HG:=Lib.hid hG;have HP:=Lib.hid hP;have HX:=Lib.hid hX
 have hv:dF ⟨k,t,p,x,g,f,o,d⟩=ar [bn bk 15,bn (bt&&bp&&bx&&bg) 2,bn F 3,bn (decide ((d.size:Int)≤1000)) 8,er]:=by
  rw[hbk,hbt,hbp,hbx,hbg,←HF.out,HER.out];rfl
 have HV:=Lib.hid hv;clear hK hT hG hP hX hv hbt hbp hbx hbg hbk
 go_wp2_with fail
 rcases CM bt bp bx bg with rfl | ⟨rfl,rfl⟩ | ⟨rfl,rfl,rfl⟩ | ⟨rfl,rfl,rfl,rfl⟩ | ⟨rfl,rfl,rfl,rfl⟩
 all_goals
  (refine cj 35 aa aa ?_;simp only[List.take_succ_cons,List.take_zero,List.drop_succ_cons,List.drop_zero];(repeat (go_big_quiet_step ((first | (go_at_call 152;(with_reducible exact Calls.reg_pure (HK.out _))) | (go_at_call 152;(with_reducible exact Calls.reg_pure (HT.out _))) | (go_at_call 152;(with_reducible exact Calls.reg_pure (HG.out _))) | (go_at_call 217;(with_reducible exact Calls.reg_pure (HP.out _))) | (go_at_call 217;(with_reducible exact Calls.reg_pure (HX.out _))) | (go_at_call 151;exact Calls.reg_pure (aA _ _ _)) | (go_at_call 144;(with_reducible exact Calls.regrown_of (HE.out _)))))));(with_reducible refine wpQuiet_nil ?_);intro W1 hreg;have hbW1:=cp hreg;clear hreg;obtain⟨hcW1,hfW1⟩:=cL hbW1)
  go_wp2_with (first | (go_at_call 143;refine(bh [_,_,_,_,_] W1 a7).mono ?_;rintro e w' ⟨rfl,rfl⟩))
  go_ret
  exact⟨Ai HV.out.symm,fb⟩
end Go.Proofs.YtcfdpfmchchkaaaGreatDoor
