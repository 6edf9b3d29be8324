/- Chapter 21 -/
import Derived.Test.YtcfdpfmchchkaaaGreatDoorOpE
namespace Go.Proofs.YtcfdpfmchchkaaaGreatDoor
set_option maxRecDepth 100000
set_option maxHeartbeats 4000000
set_option linter.unusedVariables false
set_option linter.unusedSimpArgs false
open Go.RowKit Go.Sort
theorem tg {k m:IntKind} {a b:ByteArray} {c d e f:Int} (h:a=b) (h':c=d) (g:e=f):Ending.returned (.tuple #[.string a,.int k c,.int m e])=.returned (.tuple #[.string b,.int k d,.int m f]):=by rw[h,h',g]
theorem hQ (p:ByteArray) (i:Nat) (x:Op) (l:List Op):gN p i (x::l)=if (cj p x).2≠0 then (⟨#[]⟩,i,(cj p x).2) else gN (cj p x).1 (i+1) l:=rfl
theorem wk {p:ByteArray} {i:Nat} {x:Op} {l:List Op} (h:gj x≠0):gN p i (x::l)=(⟨#[]⟩,i,gj x):=by
 rw[hQ]
 have:cj p x=(⟨#[]⟩,gj x):=by unfold cj;rw[if_pos h]
 rw[this,if_pos h]
theorem sW {p:ByteArray} {i:Nat} {x:Op} {l:List Op} (h:gj x=0) (hf:dY p x=false):gN p i (x::l)=(⟨#[]⟩,i,13):=by
 rw[hQ]
 have:cj p x=(⟨#[]⟩,13):=by unfold cj;rw[if_neg (fun g=>g h),hf];rfl
 rw[this];rfl
theorem ui {p:ByteArray} {i:Nat} {x:Op} {l:List Op} (h:gj x=0) (hf:dY p x=true):gN p i (x::l)=gN (fC p x) (i+1) l:=by
 rw[hQ]
 have:cj p x=(fC p x,0):=by unfold cj;rw[if_neg (fun g=>g h),hf];rfl
 rw[this];rfl
theorem pageE_zero {p:ByteArray}:cM p=0↔p.size=512:=by
 unfold cM;rw[aD au,beq_iff_eq]
theorem Dc {p:ByteArray} {l:List Op} (a:p.size=512) (b:l.length≤64):eB p l=gN p 0 l:=by
 unfold eB;rw[pageE_zero.2 a,if_neg (fun h=>h rfl),if_neg ab]
theorem Au {p:ByteArray} {l:List Op} (h:¬(p.size=512∧l.length≤64)):eB p l=(⟨#[]⟩,0,aw [cM p,bF (decide ((l.length:Int)≤64)) 8])∧aw [cM p,bF (decide ((l.length:Int)≤64)) 8]≠0:=by
 unfold eB;by_cases b:p.size=512
 · have a:¬l.length≤64:=fun g=>h ⟨b,g⟩
   have h3:¬((l.length:Int)≤64):=by omega
   rw[pageE_zero.2 b,if_neg (fun h=>h rfl),if_pos ab,decide_eq_false h3];simp[aw,bF]
 · have a:cM p≠0:=fun g=>b (pageE_zero.1 g)
   rw[if_pos a];simp[aw,a]
theorem pV (p:ByteArray) (A:Option Addr) (c:Nat) (l:List Op) (w:World) (hp:p.size≤maxLen) (hl:l.length≤1000) (h:¬(p.size=512∧l.length≤64)) :
 Calls Tryz.prog 149 #[.string p,.slice A l.length c] w fun e w'=>e=.returned (.tuple #[.string (eB p l).1,.int .i64 (eB p l).2.1,.int .i64 (eB p l).2.2])∧Below w.heap.size w w':=by
 obtain⟨h1,h2⟩:=Au h;have h3:(aw [cM p,bF (decide ((l.length:Int)≤64)) 8] != 0)=true:=ar h2;have H1:=Lib.hid h1;clear h1 h2 h
 go_enter Tryz.func149,Tryz.ntmps149
 go_wp2_with (first | (go_at_call 150;refine(ib p _ hp).mono ?_;rintro e w' ⟨rfl,rfl⟩) | (go_at_call 151;refine(aE _ _ _).mono ?_;rintro e w' ⟨rfl,rfl⟩) | (go_at_call 143;refine(bH [_,_] w bm).mono ?_;rintro e w' ⟨rfl,rfl⟩))
 go_ret3
 exact⟨tg (by rw[H1.out]) (by rw[H1.out];rfl) (by rw[H1.out]),fh⟩
theorem qO (p:ByteArray) (A:Option Addr) (c:Nat) (l:List Op) (w:World) (hp:p.size=512) (hl:l.length≤64) (hs:uz l) (hr:Rd w w.heap.size A (opsV l)) :
 Calls Tryz.prog 149 #[.string p,.slice A l.length c] w fun e w'=>e=.returned (.tuple #[.string (eB p l).1,.int .i64 (eB p l).2.1,.int .i64 (eB p l).2.2])∧Below w.heap.size w w':=by
 have hpm:p.size≤maxLen:=by unfold maxLen;omega
 rw[Dc hp hl]
 have hl':(l.length:Int)≤64:=by omega
 have h3:(aw [cM p,bF true 8] != 0)=false:=by rw[pageE_zero.2 hp];rfl
 have h3':(aw [cM p,bF (decide ((l.length:Int)≤64)) 8] != 0)=false:=by rw[pageE_zero.2 hp,decide_eq_true hl'];rfl
 have HP:=Lib.hid hp;have HS:=Lib.hid hs;have HR:=Lib.hid hr;clear hp hs hr
 go_enter Tryz.func149,Tryz.ntmps149
 go_wp2_with (first | (go_at_call 150;refine(ib p _ hpm).mono ?_;rintro e w' ⟨rfl,rfl⟩) | (go_at_call 151;refine(aE _ _ _).mono ?_;rintro e w' ⟨rfl,rfl⟩) | (go_at_call 143;refine(bH [_,_] w bm).mono ?_;rintro e w' ⟨rfl,rfl⟩))
 go_loopw [0,26] (fun pg i wr=>∃(k:Nat) (q:ByteArray),k≤l.length∧i=.int .i64 k∧pg=.string q∧q.size=512∧Below w.heap.size w wr∧gN p 0 l=gN q k (l.drop k)) (fun _ i _=>l.length-(intOf i).toNat)
 case atStart=>exact⟨0,p,Nat.zero_le _,rfl,rfl,HP.out,fh,rfl⟩
 case round=>
  obtain⟨k,q,hk,rfl,rfl,hq,hb,hg⟩:=hrel;clear h3 h3';by_cases hlt:k<l.length
  · have hbs:=hb.size
    obtain⟨b,o,rfl,hB,hc⟩:=(HR.out.below hb).opened (by rw[tY];omega);have hsz:=HS.out k hlt;have hd:l.drop k=l[k]::l.drop (k+1):=List.drop_eq_getElem_cons hlt;rw[hd] at hg;have c0:wr.cell? ⟨b,o+k*6,none⟩=_:=hc _ _ (iD l k hlt 0 _ rfl);have c1:wr.cell? ⟨b,o+k*6+1,none⟩=_:=hc _ _ (iD l k hlt 1 _ rfl);have c2:wr.cell? ⟨b,o+k*6+2,none⟩=_:=hc _ _ (iD l k hlt 2 _ rfl);have c3:wr.cell? ⟨b,o+k*6+3,none⟩=_:=hc _ _ (iD l k hlt 3 _ rfl);have c4:wr.cell? ⟨b,o+k*6+4,none⟩=_:=hc _ _ (iD l k hlt 4 _ rfl);have c5:wr.cell? ⟨b,o+k*6+5,none⟩=_:=hc _ _ (iD l k hlt 5 _ rfl);obtain⟨x,hx⟩:∃x,x=l[k]:=⟨_,rfl⟩;rw[←hx] at c0 c1 c2 c3 c4 c5 hsz hg
    have hB1:b<wr.heap.size:=by omega
    have hE:=fun W=>fY x W hsz.1 hsz.2;obtain⟨er,her⟩:∃e,e=gj x:=⟨_,rfl⟩;rw[←her] at hE;have HE:=Lib.hid hE;have HG:=Lib.hid hg;clear hE hg hd hx hc;by_cases h0:er=0
    · have hok:=(gZ x).1 (her.symm.trans h0)
      have hA:=fun W=>r6 q x W hq hok;have hq2:=iE hq hok;obtain⟨f,hf⟩:∃f,f=dY q x:=⟨_,rfl⟩;rw[←hf] at hA;have HA:=Lib.hid hA;have HF:=Lib.hid hf
      have h0':(er != 0)=false:=by simp[h0]
      have HZ:Hid (gj x=0):=Lib.hid (her.symm.trans h0);have HQ2:=Lib.hid hq2;clear hA hf hok her h0 hq hq2;unfold gm at HE HA
      cases f
      · go_wp2_with (first | ((go_at_call 144;(with_reducible refine(HE.out _).mono ?_);rintro e W1 ⟨rfl,hbW1⟩;obtain⟨hcW1,hfW1⟩:=cE hbW1);have hsW1:wr.heap.size<W1.heap.size:=(by have h:=hbW1.size;simp at h;omega)) | ((go_at_call 205;(with_reducible refine(HA.out _).mono ?_);rintro e W2 ⟨rfl,hbW2⟩;obtain⟨hcW2,hfW2⟩:=cE hbW2);have hsW2:wr.heap.size<W2.heap.size:=(by have h:=hbW2.size;omega)))
        go_ret3
        have e:=HG.out.trans (sW HZ.out HF.out.symm);exact⟨tg (by rw[e]) (by rw[e]) (by rw[e]),fh⟩
      · go_wp2_with (first | ((go_at_call 144;(with_reducible refine(HE.out _).mono ?_);rintro e W1 ⟨rfl,hbW1⟩;obtain⟨hcW1,hfW1⟩:=cE hbW1);have hsW1:wr.heap.size<W1.heap.size:=(by have h:=hbW1.size;simp at h;omega)) | ((go_at_call 205;(with_reducible refine(HA.out _).mono ?_);rintro e W2 ⟨rfl,hbW2⟩;obtain⟨hcW2,hfW2⟩:=cE hbW2);have hsW2:wr.heap.size<W2.heap.size:=(by have h:=hbW2.size;omega)))
        go_roundw
        case rel=>exact⟨k+1,_,by omega,by go_num,rfl,HQ2.out,fh,HG.out.trans (ui HZ.out HF.out.symm)⟩
        case measure=>simp[intOf];omega
    · have h0':(er != 0)=true:=by simp[h0]
      have HZ:Hid (gj x≠0):=Lib.hid (by rw[←her];exact h0);have HER:=Lib.hid her;clear her h0 hq;unfold gm at HE
      go_wp2_with (first | ((go_at_call 144;(with_reducible refine(HE.out _).mono ?_);rintro e W1 ⟨rfl,hbW1⟩;obtain⟨hcW1,hfW1⟩:=cE hbW1);have hsW1:wr.heap.size<W1.heap.size:=(by have h:=hbW1.size;simp at h;omega)))
      go_ret3
      have e:=HG.out.trans (wk HZ.out);exact⟨tg (by rw[e]) (by rw[e]) (by rw[e,HER.out]),fh⟩
  · obtain rfl:k=l.length:=by omega
    rw[List.drop_of_length_le (Nat.le_refl _)] at hg;have HG:=Lib.hid hg;clear hg hq
    go_wp2
    go_ret3
    exact⟨tg (by rw[HG.out];rfl) (by rw[HG.out];rfl) (by rw[HG.out];rfl),fh⟩
open Go.RowKit Go.Sort
def o7 (o:Op):Bool:=o.k==0&&o.a==0&&o.e==0&&o.c==0&&o.o.size==0&&o.n.size==0
theorem pa (x:Op) (W:World) :
 (binOp .eql 141 (.agg #[.int .i64 x.k,.int .i64 x.a,.int .i64 x.e,.int .i64 x.c,.string x.o,.string x.n]) (.agg #[.int .i64 0,.int .i64 0,.int .i64 0,.int .i64 0,.string ⟨#[]⟩,.string ⟨#[]⟩])).run Tryz.prog W=.ok (.bool (o7 x)) W:=by
 unfold o7
 cases h1:(x.k==0)
 all_goals cases h2:(x.a==0)
 all_goals cases h3:(x.e==0)
 all_goals cases h4:(x.c==0)
 all_goals cases h5:(x.o.toList.isEmpty)
 all_goals cases h6:(x.n.toList.isEmpty)
 all_goals
  rw[isEmpty_eq] at h5 h6
  go_simp
  try (simp_all [toList_nil])
open Go.RowKit Go.Sort
def hW (e:Lge):Bool:=(e.x==0||e.k==1)&&((e.k==0||e.k==1)||(e.g==0&&!e.f&&o7 e.o))&&(e.d.size==0||e.k==5)
def jQ (e:Lge):Bool:=bD e.t 0 9999&&bD e.p 0 2147483647&&bD e.x 0 2147483647&&bD e.g 0 600
def cD (e:Lge):Int:=aw [bF (bD e.k 0 5) 15,bF (jQ e) 2,bF (hW e) 3,bF (decide ((e.d.size:Int)≤1000)) 8,gj e.o]
theorem GC (a b c d:Bool):a=false∨(a=true∧b=false)∨(a=true∧b=true∧c=false)∨(a=true∧b=true∧c=true∧d=false)∨(a=true∧b=true∧c=true∧d=true):=by
 cases a<;>cases b<;>cases c<;>cases d<;>simp
theorem lS (n:Int) (w:World) :
 Calls Tryz.prog 217 #[.int .i64 n] w fun e w'=>e=.returned (.bool (bD n 0 2147483647))∧w=w':=by
 go_enter Tryz.func217,Tryz.ntmps217
 go_wp2_with (go_at_call 152;refine(bn _ _ _ _).mono ?_;rintro e w' ⟨rfl,rfl⟩)
 go_ret
 exact⟨rfl,rfl⟩
theorem mg (k t p x g:Int) (f:Bool) (o:Op) (d:ByteArray) (w:World) (ho:o.o.size≤3100) (hn:o.n.size≤3100) (hd:d.size≤maxLen) :
 Calls Tryz.prog 154 #[.agg #[.int .i64 k,.int .i64 t,.int .i64 p,.int .i64 x,.int .i64 g,.bool f,.int .i64 o.k,.int .i64 o.a,.int .i64 o.e,.int .i64 o.c,.string o.o,.string o.n,.string d]] w fun r w'=>r=.returned (.int .i64 (cD ⟨k,t,p,x,g,f,o,d⟩))∧Below w.heap.size w w':=by
 have hE:=fun W=>fY o W ho hn;obtain⟨er,her⟩:∃x,x=gj o:=⟨_,rfl⟩;rw[←her] at hE;unfold gm at hE;have HE:=Lib.hid hE;have HER:=Lib.hid her;unfold maxLen at hd;clear hE her ho hn;have hnil:=pa o;obtain⟨Bn,hBn⟩:∃b,o7 o=b:=⟨_,rfl⟩;rw[hBn] at hnil;have HBn:=Lib.hid hBn;obtain⟨Bx,hBx⟩:∃b,(x==0)=b:=⟨_,rfl⟩;obtain⟨B0,hB0⟩:∃b,(k==0)=b:=⟨_,rfl⟩;obtain⟨B1,hB1⟩:∃b,(k==1)=b:=⟨_,rfl⟩;obtain⟨B5,hB5⟩:∃b,(k==5)=b:=⟨_,rfl⟩;obtain⟨Bg,hBg⟩:∃b,(g==0)=b:=⟨_,rfl⟩;obtain⟨Bd,hBd⟩:∃b,d.toList.isEmpty=b:=⟨_,rfl⟩;obtain⟨F,hF⟩:∃F,hW ⟨k,t,p,x,g,f,o,d⟩=F:=⟨_,rfl⟩
 have hF':F=((Bx||B1)&&((B0||B1)||(Bg&&!f&&Bn))&&(Bd||B5)):=by
  rw[←hF,←hBx,←hB0,←hB1,←hB5,←hBg,←hBn,←hBd,isEmpty_eq];rfl
 have HF:=Lib.hid hF;have HF':=Lib.hid hF';clear hBn hF hF'
 go_enter Tryz.func154,Tryz.ntmps154
 go_upto_region 1 with (fail)
 go_cut [3] (fun s3 wx=>s3=.bool (B0||B1)∧wx=w.alloc (.cells #[.int .i64 k,.int .i64 t,.int .i64 p,.int .i64 x,.int .i64 g,.bool f,.int .i64 o.k,.int .i64 o.a,.int .i64 o.e,.int .i64 o.c,.string o.o,.string o.n,.string d] 143))
 case first=>
  go_wp2_with fail
  all_goals
   go_meet
   refine⟨congrArg Value.bool ?_,rfl⟩
   cases B0<;>cases B1<;>simp_all
 case rest=>
 obtain⟨rfl,rfl⟩:=hcut;obtain⟨Bc,hBc⟩:∃b,(B0||B1)=b:=⟨_,rfl⟩;rw[hBc];have HBc:=Lib.hid hBc;clear hBc
 go_upto_region 3 with (fail)
 go_cut [3,5] (fun _ s5 wx=>s5=.bool F∧wx=w.alloc (.cells #[.int .i64 k,.int .i64 t,.int .i64 p,.int .i64 x,.int .i64 g,.bool f,.int .i64 o.k,.int .i64 o.a,.int .i64 o.e,.int .i64 o.c,.string o.o,.string o.n,.string d] 143))
 case first=>
  cases f
  all_goals
   go_wp2_with fail
   all_goals
    go_meet
    refine⟨congrArg Value.bool ?_,rfl⟩;have Y:=HF'.out;have Y:=HBc.out
    simp_all
 case rest=>
 obtain⟨rfl,rfl⟩:=hcut;clear hBx hB0 hB1 hB5 hBg hBd hnil;obtain⟨bt,hbt⟩:∃b,b=bD t 0 9999:=⟨_,rfl⟩;obtain⟨bp,hbp⟩:∃b,b=bD p 0 2147483647:=⟨_,rfl⟩;obtain⟨bx,hbx⟩:∃b,b=bD x 0 2147483647:=⟨_,rfl⟩;obtain⟨bg,hbg⟩:∃b,b=bD g 0 600:=⟨_,rfl⟩;obtain⟨bk,hbk⟩:∃b,b=bD k 0 5:=⟨_,rfl⟩;have hK:=fun W=>bn k 0 5 W;have hT:=fun W=>bn t 0 9999 W;have hG:=fun W=>bn g 0 600 W;have hP:=fun W=>lS p W;have hX:=fun W=>lS x W;rw[←hbk] at hK;rw[←hbt] at hT;rw[←hbg] at hG;rw[←hbp] at hP;rw[←hbx] at hX;have HK:=Lib.hid hK;have HT:=Lib.hid hT;have HG:=Lib.hid hG;have HP:=Lib.hid hP;have HX:=Lib.hid hX
 have hv:cD ⟨k,t,p,x,g,f,o,d⟩=aw [bF bk 15,bF (bt&&bp&&bx&&bg) 2,bF F 3,bF (decide ((d.size:Int)≤1000)) 8,er]:=by
  rw[hbk,hbt,hbp,hbx,hbg,←HF.out,HER.out];rfl
 have HV:=Lib.hid hv;clear hK hT hG hP hX hv hbt hbp hbx hbg hbk
 go_wp2_with fail
 rcases GC bt bp bx bg with rfl | ⟨rfl,rfl⟩ | ⟨rfl,rfl,rfl⟩ | ⟨rfl,rfl,rfl,rfl⟩ | ⟨rfl,rfl,rfl,rfl⟩
 all_goals
  (refine cP 35 aa aa ?_;simp only[List.take_succ_cons,List.take_zero,List.drop_succ_cons,List.drop_zero];(repeat (go_big_quiet_step ((first | (go_at_call 152;(with_reducible exact Calls.reg_pure (HK.out _))) | (go_at_call 152;(with_reducible exact Calls.reg_pure (HT.out _))) | (go_at_call 152;(with_reducible exact Calls.reg_pure (HG.out _))) | (go_at_call 217;(with_reducible exact Calls.reg_pure (HP.out _))) | (go_at_call 217;(with_reducible exact Calls.reg_pure (HX.out _))) | (go_at_call 151;exact Calls.reg_pure (aE _ _ _)) | (go_at_call 144;(with_reducible exact Calls.regrown_of (HE.out _)))))));(with_reducible refine wpQuiet_nil ?_);intro W1 hreg;have hbW1:=bY hreg;clear hreg;obtain⟨hcW1,hfW1⟩:=cE hbW1)
  go_wp2_with (first | (go_at_call 143;refine(bH [_,_,_,_,_] W1 bm).mono ?_;rintro e w' ⟨rfl,rfl⟩))
  go_ret
  exact⟨Eg HV.out.symm,fh⟩
open Go.RowKit
instance opDec:DecidableEq Op:=fun x y=>decidable_of_iff (x.k=y.k∧x.a=y.a∧x.e=y.e∧x.c=y.c∧x.o=y.o∧x.n=y.n) (by cases x;cases y;simp)
structure Chn where
 l:Int
 k:Int
 u:Int
def vL (c:Chn) (n:Int) (x:Lge):Chn:=⟨n,x.k,if x.k=0 then n else if x.k=1 then x.x else c.u⟩
def eh (x:Lge):Bool:=x.k==0||x.k==1
def dx (l:List Rcd) (n:Int):Option Rcd:=l.find? fun x=>x.l==n
def dO (l:List Rcd):Int:=match l with | []=>0 | x::_=>x.l
def il (b:Int) (x:Lge) (a:Bool):Chn × Int:=if x.p>(if a then 0 else b-1) then (⟨0,0,0⟩,14) else (⟨x.p,if x.p≠0 then -1 else 0,if x.p≠0 then -1 else 0⟩,0)
def xI (k:Int):List Int:=if k=0 then [0,1,2,3,4] else if k=1 then [1,4] else if k=2 then [4] else if k=3 then [1,4] else []
def qP (k c:Int):Bool:=(xI k).any fun x=>x==c
def lz (l:List Rcd) (i:Nat) (c:Chn) (x:Lge):Int:=if c.u=0 then 13 else match dx (l.take i) c.u with
 | none=>bF (decide (x.x<dO l)) 13
 | some u=>bF (u.e.k==0&&x.x==u.e.p&&x.g==u.e.g&&x.f==u.e.f&&decide (x.o=fH u.e.o)) 13
def ja (a:Int) (g:Int→Option Chn) (x:Lge):Chn × Int:=match g x.t with
 | some c=>if c.k=4 then il a x true else (c,bF (x.p==c.l) 14)
 | none=>il a x false
def Ft (x:Lge):Int:=if x.t≠0∨x.p≠0 then 3 else gE (bl x.d)
def eu (l:List Rcd) (i:Nat) (x:Rcd):Int:=aw [bF (bD x.l 1 2147483647) 2,bF (match dv l i with | none=>true | some y=>decide (y.l<x.l)) 9,cD x.e]
def nJ (l:List Rcd) (i:Nat) (c:Chn × Int) (x:Lge):Int:=aw [c.2,if c.1.k = -1 then 0 else bF (qP c.1.k x.k) 20,if x.k=1 then lz l i c.1 x else 0]
def dV (l:List Rcd) (i:Nat) (g:Int→Option Chn) (x:Rcd):Int:=
 if eu l i x≠0 then eu l i x else if x.e.k=5 then Ft x.e else if x.e.t=0 then 2 else nJ l i (ja (dO l) g x.e) x.e
def Ae (g:Int→Option Chn) (t:Int) (c:Chn):Int→Option Chn:=fun s=>if s=t then some c else g s
def cn (l:List Rcd):Nat→Int→Option Chn
 | 0=>fun _=>none
 | i+1=>match l[i]? with
  | none=>cn l i
  | some x=>if x.e.k=5 then cn l i else Ae (cn l i) x.e.t (vL (ja (dO l) (cn l i) x.e).1 x.l x.e)
def eA (l:List Rcd):Int × Int:=if 100<l.length then (0,8) else di (fun i x=>dV l i (cn l i) x) 0 l
def bO (l:List Rcd) (t:Int):Nat→Option Nat
 | 0=>none
 | k+1=>match l[k]? with
  | none=>bO l t k
  | some x=>if x.e.k≠5∧x.e.t=t then some k else bO l t k
theorem fq {l:List Rcd} {t:Int}:∀{i k:Nat},bO l t i=some k→k<i∧∃x,l[k]? = some x∧x.e.k≠5∧x.e.t=t
 | 0,k,h=>by cases h
 | i+1,k,h=>by
  unfold bO at h
  split at h
  · obtain⟨c,a⟩:=fq h;exact⟨by omega,a⟩
  · rename_i x hx
    split at h
    · rename_i b
      cases h
      exact⟨by omega,x,hx,b⟩
    · obtain⟨c,a⟩:=fq h;exact⟨by omega,a⟩
def jc (l:List Rcd) (i:Nat):Int:=
 match l[i]? with
 | none=>0
 | some x=>if x.e.k=0 then x.l else if x.e.k=1 then x.e.x else
  match h:bO l x.e.t i with
  | none=>if x.e.p≠0 then -1 else 0
  | some k=>if (match l[k]? with | none=>false | some y=>y.e.k != 4) then jc l k else if x.e.p≠0 then -1 else 0
 termination_by i
 decreasing_by exact(fq h).1
def ey (l:List Rcd) (k:Nat):Int:=match l[k]? with | none=>0 | some y=>y.e.k
def jK (l:List Rcd) (k:Nat):Int:=match l[k]? with | none=>0 | some y=>y.l
def mh (l:List Rcd) (k:Nat):Chn:=⟨jK l k,ey l k,jc l k⟩
theorem qj {l:List Rcd} {k:Nat} (h:k<l.length):jK l k=l[k].l:=by unfold jK;rw[List.getElem?_eq_getElem h]
theorem iP {l:List Rcd} {k:Nat} (h:k<l.length):ey l k=l[k].e.k:=by unfold ey;rw[List.getElem?_eq_getElem h]
theorem pw {l:List Rcd} {i:Nat} (h:i<l.length):jc l i=if l[i].e.k=0 then l[i].l else if l[i].e.k=1 then l[i].e.x else
 match bO l l[i].e.t i with
 | none=>if l[i].e.p≠0 then -1 else 0
 | some k=>if ey l k≠4∧k<l.length then jc l k else if l[i].e.p≠0 then -1 else 0:=by
 rw[jc,List.getElem?_eq_getElem h];simp only;by_cases a:l[i].e.k=0
 · rw[if_pos a,if_pos a]
 rw[if_neg a,if_neg a];by_cases b:l[i].e.k=1
 · rw[if_pos b,if_pos b]
 rw[if_neg b,if_neg b]
 split
 · rename_i c;rw[c]
 · rename_i k c
   rw[c];simp only;obtain⟨j,x,hx,_⟩:=fq c;have d:k<l.length:=(List.getElem?_eq_some_iff.1 hx).1;unfold ey;rw[hx];simp only;by_cases g:x.e.k=4
   · simp[g]
   · rw[if_pos (ar g),if_pos ⟨g,d⟩]
theorem uM {l:List Rcd} {t:Int} {k:Nat} (h:k<l.length):bO l t (k+1)=if l[k].e.k≠5∧l[k].e.t=t then some k else bO l t k:=by
 rw[bO,List.getElem?_eq_getElem h]
theorem pD {l:List Rcd} {k:Nat} (h:k<l.length):cn l (k+1)=if l[k].e.k=5 then cn l k else Ae (cn l k) l[k].e.t (vL (ja (dO l) (cn l k) l[k].e).1 l[k].l l[k].e):=by
 rw[cn,List.getElem?_eq_getElem h]
theorem ju {a:Int} {x:Lge} {b:Bool} (h:(il a x b).2=0):x.p≤(if b then 0 else a-1)∧(il a x b).1=⟨x.p,if x.p≠0 then -1 else 0,if x.p≠0 then -1 else 0⟩:=by
 unfold il at h ⊢;by_cases c:x.p>(if b=true then 0 else a-1)
 · rw[if_pos c] at h;cases h
 · rw[if_neg c]
   exact⟨by omega,rfl⟩
theorem kA {l:List Rcd} {i:Nat} {g:Int→Option Chn} {x:Rcd} (h:dV l i g x=0):eu l i x=0∧(x.e.k=5→Ft x.e=0)∧(x.e.k≠5→x.e.t≠0∧(ja (dO l) g x.e).2=0 ∧
 ((ja (dO l) g x.e).1.k = -1∨qP (ja (dO l) g x.e).1.k x.e.k=true)∧(x.e.k=1→lz l i (ja (dO l) g x.e).1 x.e=0)):=by
 unfold dV at h
 split at h
 · rename_i a;exact absurd h a
 rename_i a
 have a:=Classical.not_not.1 a;refine⟨a,fun b=>by rw[if_pos b] at h;exact h,fun b=>?_⟩;rw[if_neg b] at h
 split at h
 · cases h
 rename_i ht
 unfold nJ at h;rw[aS] at h;simp only[List.mem_cons,List.not_mem_nil,or_false,forall_eq_or_imp,forall_eq] at h;obtain⟨j,a2,c⟩:=h;refine⟨ht,j,?_,fun m=>by rw[if_pos m] at c;exact c⟩
 split at a2
 · rename_i d;exact .inl d
 · exact .inr ((aD au).1 a2)
theorem mA {l:List Rcd}:∀i,i≤l.length→(∀k (p:k<l.length),k<i→dV l k (cn l k) l[k]=0)→∀t,cn l i t=(bO l t i).map (mh l)
 | 0,_,_,t=>rfl
 | i+1,hi,h,t=>by
  have o:=mA i ab (fun k p r=>h k p ab)
  have a:i<l.length:=by omega
  rw[pD a,uM a];by_cases d:l[i].e.k=5
  · rw[if_pos d,if_neg (by simp[d])];exact o t
  rw[if_neg d];obtain⟨_,_,hr⟩:=kA (h i a ab);obtain⟨s,b,h3,g⟩:=hr d;unfold Ae;by_cases ht:t=l[i].e.t
  · subst ht
    rw[if_pos rfl,if_pos ⟨d,rfl⟩,Option.map_some]
    congr 1
    unfold vL mh;rw[qj a,iP a,pw a]
    congr 1
    by_cases k0:l[i].e.k=0
    · rw[if_pos k0,if_pos k0]
    rw[if_neg k0,if_neg k0];by_cases j:l[i].e.k=1
    · rw[if_pos j,if_pos j]
    rw[if_neg j,if_neg j];have c:=o l[i].e.t;unfold ja at b ⊢
    cases hb:bO l l[i].e.t i with
    | none=>
     rw[hb] at c;rw[c] at b ⊢;simp only[Option.map_none] at b ⊢;rw[(ju b).2]
    | some k=>
     rw[hb] at c;rw[c] at b ⊢;simp only[Option.map_some] at b ⊢;obtain⟨p,x,hx,_⟩:=fq hb
     have m:k<l.length:=by omega
     by_cases g:ey l k=4
     · have e:(mh l k).k=4:=g
       rw[if_pos e] at b ⊢;rw[if_neg (by simp[g]),(ju b).2]
     · have e:¬(mh l k).k=4:=g
       rw[if_neg e] at b ⊢;rw[if_pos ⟨g,m⟩];rfl
  · rw[if_neg ht,if_neg (by rintro ⟨_,q⟩;exact ht q.symm)];exact o t
theorem yX {l:List Rcd} {i:Nat} (q:i<l.length) (h:∀k (m:k<l.length),k≤i→dV l k (cn l k) l[k]=0) (s:l[i].e.k≠5) :
 (l[i].e.p≤dO l-1∧(bO l l[i].e.t i=none∨l[i].e.p≤0))∨∃k,bO l l[i].e.t i=some k∧ey l k≠4∧l[i].e.p=jK l k:=by
 have b:=mA i ab (fun k m o=>h k m ab) l[i].e.t;obtain⟨u,_,hr⟩:=kA (h i q (Nat.le_refl _));obtain⟨v,a,h3,c⟩:=hr s
 have hf:1≤dO l:=by
  have j:0<l.length:=by omega
  obtain⟨d,_,_⟩:=kA (h 0 j (Nat.zero_le _));unfold eu at d;rw[aS] at d;have:=inB_true.1 ((aD au).1 (d _ (.head _)))
  match l,j with
  | x::r,_=>exact this.1
 unfold ja at a
 cases hb:bO l l[i].e.t i with
 | none=>
  rw[hb] at b;rw[b] at a;simp only[Option.map_none] at a;have:=(ju a).1;simp only[Bool.false_eq_true,if_false] at this;exact .inl ⟨by omega,.inl rfl⟩
 | some k=>
  rw[hb] at b;rw[b] at a;simp only[Option.map_some] at a;by_cases c:ey l k=4
  · have e:(mh l k).k=4:=c
    rw[if_pos e] at a;have:=(ju a).1;simp only[if_true] at this;exact .inl ⟨by omega,.inr ab⟩
  · have e:¬(mh l k).k=4:=c
    rw[if_neg e] at a
    right
    have g:=(aD au).1 a;rw[beq_iff_eq] at g;exact⟨k,rfl,c,g⟩
open Go.RowKit
section
variable {α:Type} (κ:α→Int)
def cF (l:List α) (i:Int):Option α:=l.find? fun x=>κ x==i
def ly (l:List α) (x:α):List α:=l.filter (fun y=>decide (κ y<κ x)) ++ x::l.filter (fun y=>decide (κ x<κ y))
def s9 (l:List α) (i:Int):List α:=l.filter fun y=>decide (κ y≠i)
def cC (l:List α):Prop:=l.Pairwise fun x y=>κ x<κ y
variable {κ}
theorem kg (p:α→Bool) (l:List α) (i:Int) (h:∀x∈l,κ x=i→p x=true):cF κ (l.filter p) i=cF κ l i:=by
 unfold cF
 induction l with
 | nil=>rfl
 | cons x l a=>
  have a:=a fun y b=>h y (List.mem_cons_of_mem _ b);rw[List.filter_cons,List.find?_cons];by_cases hx:κ x=i
  · rw[if_pos (h x (List.mem_cons_self ..) hx),List.find?_cons,beq_iff_eq.2 hx]
  · have e:(κ x==i)=false:=ar hx
    rw[e]
    split
    · rw[List.find?_cons,e];exact a
    · exact a
theorem dI (l:List α) (i:Int) (h:∀x∈l,κ x≠i):cF κ l i=none:=by
 unfold cF;rw[List.find?_eq_none];intro x hx
 simpa using h x hx
theorem fL {l:List α} {i:Int} {x:α} (h:cF κ l i=some x):x∈l∧κ x=i:=by
 unfold cF at h;exact⟨List.mem_of_find?_eq_some h,by simpa using List.find?_some h⟩
theorem vj (l:List α) (x:α) (i:Int):cF κ (ly κ l x) i=if i=κ x then some x else cF κ l i:=by
 have e:cF κ (ly κ l x) i=(cF κ (l.filter (fun y=>decide (κ y<κ x))) i).or (cF κ (x::l.filter (fun y=>decide (κ x<κ y))) i):=by
  unfold cF ly;rw[List.find?_append]
 rw[e];by_cases b:i=κ x
 · rw[if_pos b,dI (l.filter (fun y=>decide (κ y<κ x))) i fun y a=>by
    have:=List.mem_filter.1 a;have:=of_decide_eq_true this.2
    omega]
   unfold cF;rw[List.find?_cons,beq_iff_eq.2 b.symm];rfl
 · rw[if_neg b]
   have e2:cF κ (x::l.filter (fun y=>decide (κ x<κ y))) i=cF κ (l.filter (fun y=>decide (κ x<κ y))) i:=by
    unfold cF
    have:(κ x==i)=false:=by simpa using fun q=>b q.symm
    rw[List.find?_cons,this]
   rw[e2];rcases Int.lt_trichotomy i (κ x) with h | h | h
   · rw[kg _ l i fun y _ a=>decide_eq_true ab,dI (l.filter (fun y=>decide (κ x<κ y))) i fun y a=>by
      have:=of_decide_eq_true (List.mem_filter.1 a).2
      omega]
     simp
   · exact absurd h b
   · rw[dI (l.filter (fun y=>decide (κ y<κ x))) i fun y a=>by
      have:=of_decide_eq_true (List.mem_filter.1 a).2
      omega,kg _ l i fun y _ a=>decide_eq_true ab]
     simp
theorem Bz (l:List α) (k i:Int):cF κ (s9 κ l k) i=if i=k then none else cF κ l i:=by
 unfold s9;by_cases a:i=k
 · rw[if_pos a]
   exact dI _ _ fun y b=>by
    have:=of_decide_eq_true (List.mem_filter.1 b).2;omega
 · rw[if_neg a]
   exact kg _ l i fun y _ b=>decide_eq_true ab
theorem xM {l:List α} (h:cC κ l) (x:α):cC κ (ly κ l x):=by
 unfold cC ly at *;rw[List.pairwise_append,List.pairwise_cons];refine⟨h.filter _,⟨fun y b=>of_decide_eq_true (List.mem_filter.1 b).2,h.filter _⟩,fun y b z a=>?_⟩;have c:=of_decide_eq_true (List.mem_filter.1 b).2;rcases List.mem_cons.1 a with rfl | a
 · exact c
 · have d:=of_decide_eq_true (List.mem_filter.1 a).2
   omega
theorem Ei {l:List α} (h:cC κ l) (k:Int):cC κ (s9 κ l k):=h.filter _
theorem yk:cC κ []:=.nil
theorem gM {l:List α} (h:cC κ l) {x:α} (hx:x∈l):cF κ l (κ x)=some x:=by
 unfold cC at h;unfold cF
 induction l with
 | nil=>cases hx
 | cons y l ih=>
  rw[List.pairwise_cons] at h;rcases List.mem_cons.1 hx with rfl | hx
  · rw[List.find?_cons,beq_self_eq_true]
  · have:=h.1 x hx
    have e:(κ y==κ x)=false:=by rw[beq_eq_false_iff_ne];omega
    rw[List.find?_cons,e];exact ih h.2 hx
theorem EI {a b:List α} (d:cC κ a) (e:cC κ b) (h:∀i,cF κ a i=cF κ b i):a=b:=by
 have hm:∀x,x∈a↔x∈b:=fun x=>
  ⟨fun hx=>(fL ((h (κ x)).symm.trans (gM d hx))).1,fun hx=>(fL ((h (κ x)).trans (gM e hx))).1⟩
 clear h;unfold cC at d e
 induction a generalizing b with
 | nil=>
  cases b with
  | nil=>rfl
  | cons y b=>exact absurd ((hm y).2 (List.mem_cons_self ..)) List.not_mem_nil
 | cons x a ih=>
  cases b with
  | nil=>exact absurd ((hm x).1 (List.mem_cons_self ..)) List.not_mem_nil
  | cons y b=>
   rw[List.pairwise_cons] at d e
   have k:x=y:=by
    rcases List.mem_cons.1 ((hm x).1 (List.mem_cons_self ..)) with c | c
    · exact c
    · rcases List.mem_cons.1 ((hm y).2 (List.mem_cons_self ..)) with j | j
      · exact j.symm
      · have:=e.1 x c
        have:=d.1 y j;omega
   subst k
   congr 1
   refine ih d.2 e.2 fun z=>?_;have:=hm z;simp only[List.mem_cons] at this
   constructor
   · intro g
     rcases this.1 (.inr g) with rfl | c
     · have:=d.1 _ g;omega
     · exact c
   · intro g
     rcases this.2 (.inr g) with rfl | c
     · have:=e.1 _ g;omega
     · exact c
theorem p6 {a:List α} (c:cC κ a) {b:List α} (d:cC κ b) (h:∀x,x∈a↔x∈b):a=b:=
 EI c d fun i=>by
  cases h1:cF κ a i with
  | none=>
   cases h2:cF κ b i with
   | none=>rfl
   | some y=>
    obtain⟨m,e⟩:=fL h2;have:=gM c ((h y).2 m);rw[e,h1] at this;cases this
  | some x=>
   obtain⟨m,e⟩:=fL h1;have:=gM d ((h x).1 m);rw[e] at this;exact this.symm
theorem srt_get {l:List α}:cC κ l↔∀k (h:k+1<l.length),κ l[k]<κ l[k+1]:=by
 unfold cC;rw[List.pairwise_iff_getElem]
 constructor
 · intro h k c;exact h k (k+1) ab c ab
 · intro h i j e b a
   obtain⟨d,rfl⟩:∃d,j=i+1+d:=⟨j-(i+1),by omega⟩;clear a
   induction d with
   | zero=>exact h i b
   | succ d ih=>exact Int.lt_trans (ih ab) (h (i+1+d) b)
end
def eK (l:List Trn) (i:Int):Option Trn:=cF Trn.i l i
def dS (l:List Dty) (g:Int):Option Dty:=cF Dty.g l g
def qA:Trn:=⟨0,0,0,false⟩
def vT (t:Tbl) (x:Rcd):Trn:=⟨x.e.t,x.l,if x.e.k=0 then x.l else if x.e.k=1 then x.e.x else ((eK t.ts x.e.t).getD qA).u,x.e.k==2||((eK t.ts x.e.t).getD qA).c⟩
def lq (t:Tbl) (x:Rcd):List Dty:=if eh x.e=true∧dS t.ds x.e.g=none then ly Dty.g t.ds ⟨x.e.g,x.e.f,x.l⟩ else t.ds
def eY (t:Tbl) (x:Rcd):Tbl:=if x.e.k=5 then t else ⟨if x.e.k=4 then s9 Trn.i t.ts x.e.t else ly Trn.i t.ts (vT t x),lq t x⟩
structure SrtT (t:Tbl):Prop where
 ts:cC Trn.i t.ts
 ds:cC Dty.g t.ds
theorem pJ:SrtT iu:=⟨yk,yk⟩
theorem SrtT.chg {t:Tbl} (h:SrtT t) (x:Rcd):SrtT (eY t x):=by
 unfold eY
 split
 · exact h
 · refine⟨?_,?_⟩
   · split
     · exact Ei h.ts _
     · exact xM h.ts _
   · show cC Dty.g (lq t x)
     unfold lq
     split
     · exact xM h.ds _
     · exact h.ds
theorem SrtT.fold {l:List Rcd}:∀{t:Tbl},SrtT t→SrtT (l.foldl eY t):=by
 induction l with
 | nil=>exact fun h=>h
 | cons x l ih=>exact fun h=>ih (h.chg x)
theorem TblOk.srt {t:Tbl} (h:TblOk t):SrtT t:=⟨srt_get.2 h.tord,srt_get.2 h.dord⟩
def Bp (a:Tbl) (l:List Rcd):Tbl × Int:=if dz (l.foldl eY a)≠0 then (iu,dz (l.foldl eY a)) else (l.foldl eY a,0)
def iI (l:List Rcd) (a:Int):Tbl × Int:=if a=0 then Bp iu l else match dx l a with
 | none=>(iu,6)
 | some x=>if x.e.k≠5 then (iu,6) else Bp (dg (bl x.e.d)) (l.filter fun y=>decide (a<y.l))
open Go.RowKit
open Go.RowKit
def FJ (p:ByteArray):Int:=num (((bl p).drop 8).take 4) % 2147483648
def xr (p:ByteArray) (n:Int):ByteArray:=vB p 8 (bs (lit n 4))
theorem rX {p:ByteArray} {n:Int} (a:p.size=512):(xr p n).size=512:=by
 have b:(bs (lit n 4)).size=4:=by rw[bq,aB]
 rw[←aP];unfold xr;rw[yn,List.length_append,List.length_append,List.length_take,List.length_drop,aP,aP,b,a];rfl
def pS (n:Int):Int:=bF (bD n 1 2147483647) 2
def j6 (p:ByteArray) (plain:Bool) (n:Int) (x:Op):ByteArray × Bool × Int:=
 if aw [cM p,pS n,gj x]≠0 then (⟨#[]⟩,false,aw [cM p,pS n,gj x])
 else if plain then (if x.k=2∨x.k=3 then (⟨#[]⟩,false,15) else (fC p x,!(bl (fC p x)==bl p),0))
 else if n≤FJ p then (p,false,0)
 else if dY p x then (xr (fC p x) n,true,0) else (⟨#[]⟩,false,13)
theorem Cr {p:ByteArray} {plain:Bool} {n:Int} {x:Op} (b:p.size=512) (a:bD n 1 2147483647=true) (hx:gj x=0) :
 j6 p plain n x=if plain then (if x.k=2∨x.k=3 then (⟨#[]⟩,false,15) else (fC p x,!(bl (fC p x)==bl p),0)) else if n≤FJ p then (p,false,0) else if dY p x then (xr (fC p x) n,true,0) else (⟨#[]⟩,false,13):=by
 have c:pS n=0:=by unfold pS;rw[a];rfl
 have e3:cM p=0:=by unfold cM;rw[b];rfl
 have e2:aw [cM p,pS n,gj x]=0:=by rw[e3,c,hx];rfl
 unfold j6
 rw[e2,if_neg (fun g=>g rfl)]
open Go.RowKit
def AE (p:Option Pgp) (x:Pgp):Int:=aw [bF (bD x.g 0 600) 2,bF (match p with | none=>true | some y=>decide (y.g<x.g)) 9,bF (x.b.size==512) 10]
def tZ (l:List Pgp):Int × Int:=di (fun i x=>AE (dv l i) x) 0 l
def kS (l:List Pgp):Int:=if 40<l.length then 8 else (tZ l).2
def lu (l:List Pgp) (g:Int):Option Pgp:=cF Pgp.g l g
def kI (p:List Pgp) (x:Rcd):Int:=if eh x.e=true then (match lu p x.e.g with | none=>6 | some q=>bF (q.f==x.e.f) 13) else 0
def oh (l:List Rcd) (p:List Pgp):Int:=if kS p≠0 then kS p else (di (fun _ x=>kI p x) 0 l).2
structure PgpOk (x:Pgp):Prop where
 g:0≤x.g∧x.g≤600
 b:x.b.size=512
structure PgsOk (l:List Pgp):Prop where
 n:l.length≤40
 all:∀k (h:k<l.length),PgpOk l[k]
 srt:cC Pgp.g l
theorem pgpE_zero {p:Option Pgp} {x:Pgp}:AE p x=0↔PgpOk x∧∀y,p=some y→y.g<x.g:=by
 unfold AE;rw[aS];simp only[List.mem_cons,List.not_mem_nil,or_false,forall_eq_or_imp,forall_eq];rw[aD au,aD au,aD au,inB_true,beq_iff_eq]
 constructor
 · rintro ⟨b,a,h3⟩
   refine⟨⟨b,h3⟩,fun y c=>?_⟩;subst c;simpa using a
 · rintro ⟨⟨b,h3⟩,a⟩
   refine⟨b,?_,h3⟩
   cases p with
   | none=>rfl
   | some y=>simpa using a y rfl
theorem pgsE1_zero {l:List Pgp}:kS l=0↔PgsOk l:=by
 unfold kS tZ
 constructor
 · intro h
   split at h
   · cases h
   have h:=(cY _ _).1 h;refine⟨by omega,fun k a=>(pgpE_zero.1 (h k a)).1,srt_get.2 fun k a=>?_⟩;exact(pgpE_zero.1 (h (k+1) a)).2 _ (eX _ _ _)
 · intro h
   rw[if_neg (by have:=h.n;omega),cY];intro k a;rw[pgpE_zero];refine⟨h.all k a,fun y b=>?_⟩
   cases k with
   | zero=>cases b
   | succ k=>rw[eX _ _ ab] at b;cases b;exact srt_get.1 h.srt k a
def gW (l:List Pgp) (g:Int) (s:ByteArray):List Pgp:=l.map fun q=>if q.g=g then ⟨q.g,q.f,s⟩ else q
theorem gb (l:List Pgp) (g:Int) (s:ByteArray):(gW l g s).length=l.length:=List.length_map ..
theorem vK {l:List Pgp} {g:Int} {s:ByteArray} {k:Nat} (c:k<(gW l g s).length) (a:k<l.length):(gW l g s)[k]=if l[k].g=g then ⟨l[k].g,l[k].f,s⟩ else l[k]:=by
 have b:(gW l g s)[k]? = some (if l[k].g=g then ⟨l[k].g,l[k].f,s⟩ else l[k]):=by
  unfold gW;rw[List.getElem?_map,List.getElem?_eq_getElem a];rfl
 rw[List.getElem?_eq_getElem c] at b;exact Option.some.inj b
theorem C8 (l:List Pgp) (g:Int) (s:ByteArray):(gW l g s).map Pgp.g=l.map Pgp.g:=by
 unfold gW;rw[List.map_map];apply List.map_congr_left;intro q _;show(if q.g=g then (⟨q.g,q.f,s⟩:Pgp) else q).g=q.g
 split<;>rfl
theorem yP {l:List Pgp} (h:PgsOk l) (g:Int) (s:ByteArray) (e:s.size=512):PgsOk (gW l g s):=by
 refine⟨by rw[gb];exact h.n,fun k c=>?_,?_⟩
 · have b:k<l.length:=by rw[gb] at c;exact c
   rw[vK c b];have a:=h.all k b
   split
   · exact⟨a.g,e⟩
   · exact a
 · have a:=h.srt
   unfold cC at a ⊢;have d:(l.map Pgp.g).Pairwise (·<·):=List.pairwise_map.2 a;rw[←C8 l g s] at d;exact List.pairwise_map.1 d
theorem Bs (l:List Pgp) (g:Int) (s:ByteArray) (i:Int):lu (gW l g s) i=if i=g then (lu l g).map (fun q=>⟨q.g,q.f,s⟩) else lu l i:=by
 unfold lu cF gW
 induction l with
 | nil=>simp
 | cons q l ih=>
  rw[List.map_cons,List.find?_cons,List.find?_cons,List.find?_cons];by_cases d:q.g=g
  · rw[if_pos d]
    simp only;by_cases b:i=g
    · have a:(q.g==i)=true:=by rw[beq_iff_eq];omega
      have e2:(q.g==g)=true:=by rw[beq_iff_eq];omega
      rw[a,e2,if_pos b];rfl
    · have a:(q.g==i)=false:=by rw[beq_eq_false_iff_ne];omega
      rw[a,if_neg b];rw[if_neg b] at ih;exact ih
  · rw[if_neg d]
    by_cases b:i=g
    · have a:(q.g==i)=false:=by rw[beq_eq_false_iff_ne];omega
      have e2:(q.g==g)=false:=by rw[beq_eq_false_iff_ne];omega
      rw[a,e2];simp only;exact ih
    · by_cases c:q.g=i
      · have a:(q.g==i)=true:=by rw[beq_iff_eq];exact c
        rw[a,if_neg b]
      · have a:(q.g==i)=false:=by rw[beq_eq_false_iff_ne];exact c
        rw[a];rw[if_neg b] at ih ⊢;exact ih
theorem CJ {l:List Pgp} (h:cC Pgp.g l) {k:Nat} (d:k<l.length) (s:ByteArray):gW l l[k].g s=l.set k ⟨l[k].g,l[k].f,s⟩:=by
 unfold cC at h;rw[List.pairwise_iff_getElem] at h;apply List.ext_getElem (by rw[gb,List.length_set]);intro j b e;rw[gb] at b;have a:=b;rw[vK (by rw[gb];exact a) a,List.getElem_set];by_cases c:k=j
 · subst c
   rw[if_pos rfl,if_pos rfl]
 · rw[if_neg c,if_neg]
   intro q;rcases Nat.lt_or_gt_of_ne c with h3 | h3
   · have:=h k j d b h3;omega
   · have:=h j k b d h3;omega
def wJ (t:Tbl) (x:Rcd):Bool:=eh x.e&&match dS t.ds x.e.g with | none=>false | some d=>decide (d.l≤x.l)
def jL (t:Tbl):List Pgp→Int→List Rcd→List Pgp × Int × Int
 | p,n,[]=>(p,n,0)
 | p,n,x::r=>if wJ t x=true then (match lu p x.e.g with
  | none=>([],0,0)
  | some q=>if (j6 q.b q.f x.l x.e.o).2.2≠0 then ([],0,(j6 q.b q.f x.l x.e.o).2.2) else jL t (gW p x.e.g (j6 q.b q.f x.l x.e.o).1) (n+ir (j6 q.b q.f x.l x.e.o).2.1) r) else jL t p n r
structure Los where
 j:Nat
 i:Int
 u:Int
def zP:Nat→List Trn→List Los
 | _,[]=>[]
 | j,x::l=>if x.c then zP (j+1) l else ⟨j,x.i,x.u⟩::zP (j+1) l
def DD:List Los→Option Los
 | []=>none
 | x::l=>match DD l with
  | none=>some x
  | some y=>if y.u>x.u then some y else some x
structure Stp where
 r:Rcd
 j:Nat
 z:Bool
def Ar (l:List Los) (j:Nat) (u:Int):List Los:=l.map fun x=>if x.j=j then ⟨x.j,x.i,u⟩ else x
def dZ (x:Lge):Int:=if x.k=1 then x.x else x.p
def qZ (l:List Rcd):Nat→List Los→List Stp × Int
 | f,us=>match DD us with
  | none=>([],0)
  | some b=>if b.u=0 then ([],0) else match dx l b.u with
   | none=>([],6)
   | some r=>if eh r.e=true∧r.e.t=b.i then (match f with
    | 0=>([],26)
    | f+1=>if (qZ l f (Ar us b.j (dZ r.e))).2≠0 then ([],(qZ l f (Ar us b.j (dZ r.e))).2) else (⟨r,b.j,decide (dZ r.e=0)⟩::(qZ l f (Ar us b.j (dZ r.e))).1,0)) else ([],6)
def Ai (l:List Rcd) (t:Tbl):List Stp × Int:=qZ l 100 (zP 0 t.ts)
def Hc (l:List Rcd) (t:Tbl):List Int:=((Ai l t).1.filter fun s=>s.r.e.k==0).map fun s=>s.r.l
open Go.RowKit Go.Sort
section
variable {α:Type} {f:α→List Value} {n:Nat}
theorem rP (hf:∀x,(f x).length=n) (l:List α) (k:Nat):(l.flatMap f).drop (k*n)=(l.drop k).flatMap f:=by
 induction l generalizing k with
 | nil=>simp
 | cons x l ih=>
  cases k with
  | zero=>simp
  | succ k=>
   rw[List.flatMap_cons,List.drop_succ_cons,←ih k,Nat.succ_mul,Nat.add_comm,←List.drop_drop,List.drop_left' (hf x)]
theorem zn (hf:∀x,(f x).length=n) (l:List α) (k:Nat):(l.flatMap f).take (k*n)=(l.take k).flatMap f:=by
 induction l generalizing k with
 | nil=>simp
 | cons x l ih=>
  cases k with
  | zero=>simp
  | succ k=>
   rw[List.flatMap_cons,List.take_succ_cons,List.flatMap_cons,←ih k,Nat.succ_mul,Nat.add_comm,List.take_append,List.take_of_length_le (by rw[hf];omega),hf,Nat.add_sub_cancel_left]
theorem sg (hf:∀x,(f x).length=n) (l:List α) {k:Nat} (b:k<l.length) {j:Nat} {u:Value} (a:(f l[k])[j]? = some u):(l.flatMap f)[k*n+j]? = some u:=by
 rw[←List.getElem?_drop,rP hf,List.drop_eq_getElem_cons b,List.flatMap_cons,List.getElem?_append_left (List.getElem?_eq_some_iff.1 a).1];exact a
theorem aZ {X:World} {B b o:Nat} {l:List α} {k:Nat} (hf:∀x,(f x).length=n) (h:Rd X B (some ⟨b,o,none⟩) (l.flatMap f)) (c:k<l.length):∀(j:Nat) (u:Value),(f l[k])[j]? = some u→X.cell? ⟨b,o+k*n+j,none⟩=some u:=fun j u d=>by
 obtain⟨g,o',e,_,a⟩:=h (k*n+j) u (sg hf l c d);injection e with e;injection e with e1 e2;subst e1 e2;rw[Nat.add_assoc];exact a
end
end Go.Proofs.YtcfdpfmchchkaaaGreatDoor
