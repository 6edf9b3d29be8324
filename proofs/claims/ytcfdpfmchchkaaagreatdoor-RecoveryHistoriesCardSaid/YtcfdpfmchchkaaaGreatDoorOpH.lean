/-
  Chapter 21: inverses, as the reference has them.
  Chapter 21: entries: the reference's errors.
-/
import Derived.Test.YtcfdpfmchchkaaaGreatDoorRcD
namespace Go.Proofs.YtcfdpfmchchkaaaGreatDoor
set_option maxRecDepth 100000
set_option maxHeartbeats 4000000
set_option linter.unusedVariables false
set_option linter.unusedSimpArgs false
open Go.RowKit Go.Sort
theorem n5 (x:Op) (w:World) (h:e8 x=0) :
 Calls Tryz.prog 114 #[fC x] w fun r w'=>r=.returned (fC (fR x))∧Below w.heap.size w w':=by
 have hok:=(jc x).1 h;obtain⟨hk,he,ho,hn⟩:=oI hok;have hO:=hok;unfold kT at hO;obtain⟨R,hR⟩:∃R,R=fR x:=⟨_,rfl⟩;rw[←hR];unfold fR at hR;refine al (N:=58) Tryz.func114 rfl rfl rfl (fun _ Y=>?_);have Z:=St.init w;refine ah (ao ?_);refine nb Y rfl rfl Z fun b1 _ _ Zg Y Z=>?_;refine na (.agg #[.int .i64 0,.int .i64 0,.int .i64 0,.int .i64 0,.string ⟨#[]⟩,.string ⟨#[]⟩]) Y rfl Z fun b2 _ _ Zh Y Z=>?_;refine GO 17 ?_;intro _ Y;refine ak (Y.ev rfl) (fun Zb=>?_) (fun Zb=>?_)
 ·
  have k1:x.k=1∨x.k=6:=.inl (by simpa using Zb);refine wp_skip (ag ?_);refine ak (Y.ev rfl) (fun Za=>?_) (fun Za=>?_)
  ·
   have hz:x.e=0∧x.c=0:=by omega
   rw[if_neg ab,if_neg ab,if_neg ab,if_neg ab,hz.1,hz.2] at hR;refine GO 10 ?_;intro _ Y;refine sv Y (ay (zs:=[.int .i64 0,.int .i64 0,.int .i64 0,.int .i64 0,.string ⟨#[]⟩,.string ⟨#[]⟩]) (pl:=[(0,1),(1,1),(2,1),(3,1),(4,1),(5,1)]) aa aa (Y.evs2 rfl) rfl rfl) fun _ Y=>?_;refine sw Y Z 0 fun _ Z=>?_;refine ae (ag (wp_ret (eE (eh ?_))));refine kN Y rfl rfl Z (i:=0) rfl aa aa ?_;exact⟨by rw[hR];rfl,Z.below⟩
  ·
   exact absurd (Zb.symm.trans Za) aq
 ·
  have k0:x.k≠1:=by simpa using Zb
  refine GO 5 ?_;intro _ Y;refine ak (Y.ev rfl) (fun Za=>?_) (fun Za=>?_)
  ·
   have k1:x.k=1∨x.k=6:=.inr (by simpa using Za)
   have hz:x.e=0∧x.c=0:=by omega
   rw[if_neg ab,if_neg ab,if_neg ab,if_neg ab,hz.1,hz.2] at hR;refine GO 10 ?_;intro _ Y;refine sv Y (ay (zs:=[.int .i64 0,.int .i64 0,.int .i64 0,.int .i64 0,.string ⟨#[]⟩,.string ⟨#[]⟩]) (pl:=[(0,1),(1,1),(2,1),(3,1),(4,1),(5,1)]) aa aa (Y.evs2 rfl) rfl rfl) fun _ Y=>?_;refine sw Y Z 0 fun _ Z=>?_;refine ae (ag (wp_ret (eE (eh ?_))));refine kN Y rfl rfl Z (i:=0) rfl aa aa ?_;exact⟨by rw[hR];rfl,Z.below⟩
  ·
   have k6:x.k≠6:=by simpa using Za
   refine GO 6 ?_;intro _ Y;refine ak (Y.ev rfl) (fun Zc=>?_) (fun Zc=>?_)
   ·
    have k2:x.k=2:=by simpa using Zc
    have hz:x.c=0∧x.o.size=0:=by omega
    rw[if_pos k2,hz.1,db hz.2] at hR;refine GO 12 ?_;intro _ Y;refine sv Y (ay (zs:=[.int .i64 0,.int .i64 0,.int .i64 0,.int .i64 0,.string ⟨#[]⟩,.string ⟨#[]⟩]) (pl:=[(0,1),(1,1),(2,1),(3,1),(4,1),(5,1)]) aa aa (Y.evs2 rfl) rfl rfl) fun _ Y=>?_;refine sw Y Z 0 fun _ Z=>?_;refine ae (ag (wp_ret (eE (eh ?_))));refine kN Y rfl rfl Z (i:=0) rfl aa aa ?_;exact⟨by rw[hR];rfl,Z.below⟩
   ·
    have k2:x.k≠2:=by simpa using Zc
    rw[if_neg k2] at hR;refine GO 6 ?_;intro _ Y;refine ak (Y.ev rfl) (fun Zd=>?_) (fun Zd=>?_)
    ·
     have k3:x.k=3:=by simpa using Zd
     have hz:x.c=0∧x.n.size=0:=by omega
     rw[if_pos k3,hz.1,db hz.2] at hR;refine GO 12 ?_;intro _ Y;refine sv Y (ay (zs:=[.int .i64 0,.int .i64 0,.int .i64 0,.int .i64 0,.string ⟨#[]⟩,.string ⟨#[]⟩]) (pl:=[(0,1),(1,1),(2,1),(3,1),(4,1),(5,1)]) aa aa (Y.evs2 rfl) rfl rfl) fun _ Y=>?_;refine sw Y Z 0 fun _ Z=>?_;refine ae (ag (wp_ret (eE (eh ?_))));refine kN Y rfl rfl Z (i:=0) rfl aa aa ?_;exact⟨by rw[hR];rfl,Z.below⟩
    ·
     have k3:x.k≠3:=by simpa using Zd
     rw[if_neg k3] at hR;refine GO 6 ?_;intro _ Y;refine ak (Y.ev rfl) (fun Ze=>?_) (fun Ze=>?_)
     ·
      have k4:x.k=4:=by simpa using Ze
      have hz:x.e=0∧x.o.size=0∧x.n.size=0:=by omega
      rw[if_pos k4,hz.1,db hz.2.1,db hz.2.2] at hR;refine GO 6 ?_;intro _ Y;refine sv Y (ay (zs:=[.int .i64 0,.int .i64 0,.int .i64 0,.int .i64 0,.string ⟨#[]⟩,.string ⟨#[]⟩]) (pl:=[(0,1),(1,1),(2,1),(3,1),(4,1),(5,1)]) aa aa (Y.evs2 rfl) rfl rfl) fun _ Y=>?_;refine sw Y Z 0 fun _ Z=>?_;refine ae (ag (wp_ret (eE (eh ?_))));refine kN Y rfl rfl Z (i:=0) rfl aa aa ?_;exact⟨by rw[hR];rfl,Z.below⟩
     ·
      have k4:x.k≠4:=by simpa using Ze
      rw[if_neg k4] at hR;refine GO 6 ?_;intro _ Y;refine ak (Y.ev rfl) (fun Zf=>?_) (fun Zf=>?_)
      ·
       have k5:x.k=5:=by simpa using Zf
       have hz:x.e=0∧x.o.size=0∧x.n.size=0:=by omega
       rw[if_pos k5,hz.1,db hz.2.1,db hz.2.2] at hR;refine GO 6 ?_;intro _ Y;refine sv Y (ay (zs:=[.int .i64 0,.int .i64 0,.int .i64 0,.int .i64 0,.string ⟨#[]⟩,.string ⟨#[]⟩]) (pl:=[(0,1),(1,1),(2,1),(3,1),(4,1),(5,1)]) aa aa (Y.evs2 rfl) rfl rfl) fun _ Y=>?_;refine sw Y Z 0 fun _ Z=>?_;refine ae (ag (wp_ret (eE (eh ?_))));refine kN Y rfl rfl Z (i:=0) rfl aa aa ?_;exact⟨by rw[hR];rfl,Z.below⟩
      ·
       have k5:x.k≠5:=by simpa using Zf
       have hz:x.o.size=0∧x.n.size=0:=by omega
       rw[if_neg k5,db hz.1,db hz.2] at hR
       have hx:fC x=.agg #[.int .i64 x.k,.int .i64 x.a,.int .i64 x.e,.int .i64 x.c,.string ⟨#[]⟩,.string ⟨#[]⟩]:=by unfold fC;rw[db hz.1,db hz.2]
       refine wp_skip (dL (ag (ah (ao ?_))));refine sv Y (ai aa aa (Y.ev rfl) (Z.cellsAll (i:=1) rfl)) fun _ Y=>?_;refine sw Y Z 0 fun _ Z=>?_;refine ae (ag (wp_ret ?_));refine kN Y rfl rfl Z (i:=0) rfl aa aa ?_;exact⟨by rw[hR];exact congrArg _ hx,Z.below⟩
open Go.RowKit Go.Sort
theorem iK (e:Lge) (w:World) (ho:e.o.o.size≤3100) (hn:e.o.n.size≤3100) (hd:e.d.size≤maxLen) :
 Calls Tryz.prog 154 #[cY e] w fun r w'=>r=.returned (.int .i64 (dF e))∧Below w.heap.size w w':=
 pK e.k e.t e.p e.x e.g e.f e.o e.d w ho hn hd
theorem nT (o:Op) (w:World) :
 Calls Tryz.prog 174 #[fC o] w fun r w'=>r=.returned (.bool (mP o))∧Below w.heap.size w w':=by
 have hnil:=mx o;obtain⟨Bn,hBn⟩:∃b,mP o=b:=⟨_,rfl⟩;rw[hBn] at hnil ⊢;clear hBn;unfold fC
 go_enter Tryz.func174,Tryz.ntmps174
 go_wp2
 go_ret
 exact⟨rfl,fb⟩
theorem AI (e:Lge):dF e=if bf e.k 0 5=false then 15 else if qn e=false then 2 else if iS e=false then 3 else if (1000:Int)<e.d.size then 8 else e8 e.o:=by
 unfold dF
 have h4:decide ((e.d.size:Int)≤1000)=!decide ((1000:Int)<e.d.size):=by
  by_cases h:(1000:Int)<e.d.size
  · rw[decide_eq_true h,decide_eq_false ab];rfl
  · rw[decide_eq_false h,decide_eq_true ab];rfl
 rw[h4]
 cases bf e.k 0 5<;>cases qn e<;>cases iS e<;>by_cases h:(1000:Int)<e.d.size<;>simp[ar,bn,h]<;>(intro h;exact h.symm)
theorem nS (k t p x g:Int) (f:Bool) (o:Op) (d:ByteArray) (w:World) (ho:o.o.size≤3100) (hn:o.n.size≤3100) (hd:d.size≤maxLen) :
 Calls Tryz.prog 107 #[.agg #[.int .i64 k,.int .i64 t,.int .i64 p,.int .i64 x,.int .i64 g,.bool f,.int .i64 o.k,.int .i64 o.a,.int .i64 o.e,.int .i64 o.c,.string o.o,.string o.n,.string d]] w fun r w'=>r=.returned (.int .i64 (dF ⟨k,t,p,x,g,f,o,d⟩))∧Below w.heap.size w w':=by
 have hE:=fun W=>jS o W ho hn;obtain⟨er,her⟩:∃x,x=e8 o:=⟨_,rfl⟩;rw[←her] at hE;unfold fC at hE;have HE:=Lib.hid hE;have HER:=Lib.hid her;unfold maxLen at hd;clear hE her ho hn;have hnil:=fun W=>nT o W;obtain⟨Bn,hBn⟩:∃b,mP o=b:=⟨_,rfl⟩;rw[hBn] at hnil;unfold fC at hnil;have HNIL:=Lib.hid hnil;obtain⟨Nx,hNx⟩:∃b,(x != 0)=b:=⟨_,rfl⟩;obtain⟨B0,hB0⟩:∃b,(k==0)=b:=⟨_,rfl⟩;obtain⟨B1,hB1⟩:∃b,(k==1)=b:=⟨_,rfl⟩;obtain⟨N1,hN1⟩:∃b,(k != 1)=b:=⟨_,rfl⟩;obtain⟨N5,hN5⟩:∃b,(k != 5)=b:=⟨_,rfl⟩;obtain⟨Ng,hNg⟩:∃b,(g != 0)=b:=⟨_,rfl⟩;obtain⟨Bd,hBd⟩:∃b,d.toList.isEmpty=b:=⟨_,rfl⟩;obtain⟨F,hF⟩:∃F,iS ⟨k,t,p,x,g,f,o,d⟩=F:=⟨_,rfl⟩
 have hF':F=!((N1&&Nx)||(!(B0||B1)&&(Ng||f||!Bn))||(N5&&!Bd)):=by
  have e1:(x==0)=!Nx:=by rw[←hNx,bne,Bool.not_not]
  have e2:(k==1)=!N1:=by rw[←hN1,bne,Bool.not_not]
  have e3:(k==5)=!N5:=by rw[←hN5,bne,Bool.not_not]
  have e4:(g==0)=!Ng:=by rw[←hNg,bne,Bool.not_not]
  have e5:(d.size==0)=Bd:=by rw[←hBd,isEmpty_eq]
  have e6:B1=!N1:=by rw[←hB1,e2]
  rw[←hF,e6,←hB0];unfold iS
  dsimp only
  rw[e1,e2,e3,e4,e5,hBn,hB0]
  cases N1<;>cases Nx<;>cases B0<;>cases Ng<;>cases f<;>cases Bn<;>cases N5<;>cases Bd<;>rfl
 have HF:=Lib.hid hF;have HF':=Lib.hid hF';clear hBn hF hF' hnil;obtain⟨bt,hbt⟩:∃b,b=bf t 0 9999:=⟨_,rfl⟩;obtain⟨bp,hbp⟩:∃b,b=bf p 0 2147483647:=⟨_,rfl⟩;obtain⟨bx,hbx⟩:∃b,b=bf x 0 2147483647:=⟨_,rfl⟩;obtain⟨bg,hbg⟩:∃b,b=bf g 0 600:=⟨_,rfl⟩;obtain⟨bk,hbk⟩:∃b,b=bf k 0 5:=⟨_,rfl⟩;have hK:=fun W=>a6 k 0 5 W;have hT:=fun W=>a6 t 0 9999 W;have hG:=fun W=>a6 g 0 600 W;have hP:=fun W=>kq p W;have hX:=fun W=>kq x W;rw[←hbk] at hK;rw[←hbt] at hT;rw[←hbg] at hG;rw[←hbp] at hP;rw[←hbx] at hX;have HK:=Lib.hid hK;have HT:=Lib.hid hT;have HG:=Lib.hid hG;have HP:=Lib.hid hP;have HX:=Lib.hid hX;obtain⟨R,hR⟩:∃R,R=(bt&&bp&&bx&&bg):=⟨_,rfl⟩
 have hv:dF ⟨k,t,p,x,g,f,o,d⟩=if bk=false then 15 else if R=false then 2 else if F=false then 3 else if (1000:Int)<d.size then 8 else er:=by
  rw[AI,HER.out,hbk,hR,hbt,hbp,hbx,hbg,←HF.out];rfl
 have HV:=Lib.hid hv;have HR:=Lib.hid hR;clear hK hT hG hP hX hv hbt hbp hbx hbg hbk hR;rw[HV.out]
 go_enter Tryz.func107,Tryz.ntmps107
 cases bk
 · go_wp2_with (first | (go_at_call 74;(with_reducible refine(HK.out _).mono ?_);rintro e w' ⟨rfl,rfl⟩))
   go_ret
   exact⟨rfl,fb⟩
 · go_upto_region 3 with (first | (go_at_call 74;(with_reducible refine(HK.out _).mono ?_);rintro e w' ⟨rfl,rfl⟩))
   go_cut [29] (fun s29 wx=>s29=.bool (!R)∧wx=w.alloc (.cells #[.int .i64 k,.int .i64 t,.int .i64 p,.int .i64 x,.int .i64 g,.bool f,.int .i64 o.k,.int .i64 o.a,.int .i64 o.e,.int .i64 o.c,.string o.o,.string o.n,.string d] 143))
   case first=>
    go_wp2_with (first | (go_at_call 74;(with_reducible refine(HT.out _).mono ?_);rintro e w' ⟨rfl,rfl⟩) | (go_at_call 74;(with_reducible refine(HG.out _).mono ?_);rintro e w' ⟨rfl,rfl⟩) | (go_at_call 173;(with_reducible refine(HP.out _).mono ?_);rintro e w' ⟨rfl,rfl⟩) | (go_at_call 173;(with_reducible refine(HX.out _).mono ?_);rintro e w' ⟨rfl,rfl⟩))
    all_goals
     go_meet
     refine⟨congrArg Value.bool ?_,rfl⟩;have Y:=HR.out
     simp_all
   case rest=>
   obtain⟨rfl,rfl⟩:=hcut
   cases R
   · go_wp2
     go_ret
     exact⟨rfl,fb⟩
   · go_upto_region 5 with (fail)
     go_cut [3] (fun s3 wx=>s3=.bool (B0||B1)∧wx=w.alloc (.cells #[.int .i64 k,.int .i64 t,.int .i64 p,.int .i64 x,.int .i64 g,.bool f,.int .i64 o.k,.int .i64 o.a,.int .i64 o.e,.int .i64 o.c,.string o.o,.string o.n,.string d] 143))
     case first=>
      go_wp2_with fail
      all_goals
       go_meet
       refine⟨congrArg Value.bool ?_,rfl⟩
       cases B0<;>cases B1<;>simp_all
     case rest=>
     obtain⟨rfl,rfl⟩:=hcut;obtain⟨Bc,hBc⟩:∃b,(B0||B1)=b:=⟨_,rfl⟩;rw[hBc];have HBc:=Lib.hid hBc;clear hBc
     go_upto_region 6 with (fail)
     go_cut [3,74] (fun _ s74 wx=>s74=.bool (!F)∧Below (w.alloc (.cells #[.int .i64 k,.int .i64 t,.int .i64 p,.int .i64 x,.int .i64 g,.bool f,.int .i64 o.k,.int .i64 o.a,.int .i64 o.e,.int .i64 o.c,.string o.o,.string o.n,.string d] 143)).heap.size (w.alloc (.cells #[.int .i64 k,.int .i64 t,.int .i64 p,.int .i64 x,.int .i64 g,.bool f,.int .i64 o.k,.int .i64 o.a,.int .i64 o.e,.int .i64 o.c,.string o.o,.string o.n,.string d] 143)) wx)
     case first=>
      cases f
      all_goals
       go_wp2_with (first | ((go_at_call 174;(with_reducible refine(HNIL.out _).mono ?_);rintro e W1 ⟨rfl,hbW1⟩;obtain⟨hcW1,hfW1⟩:=cL hbW1);have hsW1:w.heap.size<W1.heap.size:=(by have h:=hbW1.size;(try simp at h);omega)))
       all_goals
        go_meet
        refine⟨congrArg Value.bool ?_,by first | exact hbW1 | exact Below.refl _ _⟩;have Y:=HF'.out;have Y:=HBc.out
        simp_all
     case rest=>
     obtain⟨rfl,hbX⟩:=hcut;obtain⟨hcX,hfX⟩:=cL hbX;have hsX:=hbX.size;simp at hsX;have hsX':=Nat.lt_of_succ_le hsX;have hbX':=(dU (Below.refl _ _) _:Below w.heap.size w (w.alloc (.cells #[.int .i64 k,.int .i64 t,.int .i64 p,.int .i64 x,.int .i64 g,.bool f,.int .i64 o.k,.int .i64 o.a,.int .i64 o.e,.int .i64 o.c,.string o.o,.string o.n,.string d] 143)))
     cases F
     · go_wp2
       go_ret
       exact⟨rfl,fb⟩
     · by_cases h8:(1000:Int)<d.size
       · go_wp2
         go_ret
         exact⟨by simp[h8],fb⟩
       · go_wp2_with (first | (go_at_call 139;(with_reducible refine(HE.out _).mono ?_);rintro e W2 ⟨rfl,hbW2⟩))
         go_ret
         exact⟨by simp[h8],fb⟩
theorem gZ (e:Lge) (w:World) (ho:e.o.o.size≤3100) (hn:e.o.n.size≤3100) (hd:e.d.size≤maxLen) :
 Calls Tryz.prog 107 #[cY e] w fun r w'=>r=.returned (.int .i64 (dF e))∧Below w.heap.size w w':=
 nS e.k e.t e.p e.x e.g e.f e.o e.d w ho hn hd
end Go.Proofs.YtcfdpfmchchkaaaGreatDoor
