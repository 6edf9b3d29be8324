/- Chapter 21 -/
import Derived.Test.YtcfdpfmchchkaaaGreatDoorOpE
namespace Go.Proofs.YtcfdpfmchchkaaaGreatDoor
set_option maxRecDepth 100000
set_option maxHeartbeats 4000000
set_option linter.unusedVariables false
set_option linter.unusedSimpArgs false
open Go.RowKit Go.Sort
theorem uJ5 {k m:IntKind} {a b:ByteArray} {c d e f:Int} (h:a=b) (h':c=d) (g:e=f):Ending.returned (.tuple #[.string a,.int k c,.int m e])=.returned (.tuple #[.string b,.int k d,.int m f]):=by rw[h,h',g]
theorem je (p:ByteArray) (i:Nat) (x:Op) (l:List Op):ir p i (x::l)=if (bz p x).2≠0 then (⟨#[]⟩,i,(bz p x).2) else ir (bz p x).1 (i+1) l:=rfl
theorem xB {p:ByteArray} {i:Nat} {x:Op} {l:List Op} (h:gy x≠0):ir p i (x::l)=(⟨#[]⟩,i,gy x):=by
 rw[je]
 have:bz p x=(⟨#[]⟩,gy x):=by unfold bz;rw[if_pos h]
 rw[this,if_pos h]
theorem tR {p:ByteArray} {i:Nat} {x:Op} {l:List Op} (h:gy x=0) (hf:cR p x=false):ir p i (x::l)=(⟨#[]⟩,i,13):=by
 rw[je]
 have:bz p x=(⟨#[]⟩,13):=by unfold bz;rw[if_neg (fun g=>g h),hf];rfl
 rw[this];rfl
theorem wk {p:ByteArray} {i:Nat} {x:Op} {l:List Op} (h:gy x=0) (hf:cR p x=true):ir p i (x::l)=ir (ew p x) (i+1) l:=by
 rw[je]
 have:bz p x=(ew p x,0):=by unfold bz;rw[if_neg (fun g=>g h),hf];rfl
 rw[this];rfl
theorem pageE_zero {p:ByteArray}:cI p=0↔p.size=512:=by
 unfold cI;rw[aH au,beq_iff_eq]
theorem Ce {p:ByteArray} {l:List Op} (a:p.size=512) (b:l.length≤64):eZ p l=ir p 0 l:=by
 unfold eZ;rw[pageE_zero.2 a,if_neg (fun h=>h rfl),if_neg ab]
theorem AH {p:ByteArray} {l:List Op} (h:¬(p.size=512∧l.length≤64)):eZ p l=(⟨#[]⟩,0,av [cI p,bQ (decide ((l.length:Int)≤64)) 8])∧av [cI p,bQ (decide ((l.length:Int)≤64)) 8]≠0:=by
 unfold eZ;by_cases a:p.size=512
 · have b:¬l.length≤64:=fun g=>h ⟨a,g⟩
   have h3:¬((l.length:Int)≤64):=by omega
   rw[pageE_zero.2 a,if_neg (fun h=>h rfl),if_pos ab,decide_eq_false h3];simp[av,bQ]
 · have b:cI p≠0:=fun g=>a (pageE_zero.1 g)
   rw[if_pos b];simp[av,b]
theorem qm (p:ByteArray) (A:Option Addr) (c:Nat) (l:List Op) (w:World) (hp:p.size≤maxLen) (hl:l.length≤1000) (h:¬(p.size=512∧l.length≤64)) :
 Calls Tryz.prog 149 #[.string p,.slice A l.length c] w fun e w'=>e=.returned (.tuple #[.string (eZ p l).1,.int .i64 (eZ p l).2.1,.int .i64 (eZ p l).2.2])∧Below w.heap.size w w':=by
 obtain⟨h1,h2⟩:=AH h;have h3:(av [cI p,bQ (decide ((l.length:Int)≤64)) 8] != 0)=true:=al h2;have H1:=Lib.hid h1;clear h1 h2 h
 go_enter Tryz.func149,Tryz.ntmps149
 go_wp2_with (first | (go_at_call 150;refine(iZ p _ hp).mono ?_;rintro e w' ⟨rfl,rfl⟩) | (go_at_call 151;refine(aJ _ _ _).mono ?_;rintro e w' ⟨rfl,rfl⟩) | (go_at_call 143;refine(bJ [_,_] w bw).mono ?_;rintro e w' ⟨rfl,rfl⟩))
 go_ret3
 exact⟨uJ5 (by rw[H1.out]) (by rw[H1.out];rfl) (by rw[H1.out]),du⟩
theorem sr (p:ByteArray) (A:Option Addr) (c:Nat) (l:List Op) (w:World) (hp:p.size=512) (hl:l.length≤64) (hs:xp l) (hr:Rd w w.heap.size A (opsV l)) :
 Calls Tryz.prog 149 #[.string p,.slice A l.length c] w fun e w'=>e=.returned (.tuple #[.string (eZ p l).1,.int .i64 (eZ p l).2.1,.int .i64 (eZ p l).2.2])∧Below w.heap.size w w':=by
 have hpm:p.size≤maxLen:=by unfold maxLen;omega
 rw[Ce hp hl]
 have hl':(l.length:Int)≤64:=by omega
 have h3:(av [cI p,bQ true 8] != 0)=false:=by rw[pageE_zero.2 hp];rfl
 have h3':(av [cI p,bQ (decide ((l.length:Int)≤64)) 8] != 0)=false:=by rw[pageE_zero.2 hp,decide_eq_true hl'];rfl
 have HP:=Lib.hid hp;have HS:=Lib.hid hs;have HR:=Lib.hid hr;clear hp hs hr
 go_enter Tryz.func149,Tryz.ntmps149
 go_wp2_with (first | (go_at_call 150;refine(iZ p _ hpm).mono ?_;rintro e w' ⟨rfl,rfl⟩) | (go_at_call 151;refine(aJ _ _ _).mono ?_;rintro e w' ⟨rfl,rfl⟩) | (go_at_call 143;refine(bJ [_,_] w bw).mono ?_;rintro e w' ⟨rfl,rfl⟩))
 go_loopw [0,26] (fun pg i wr=>∃(k:Nat) (q:ByteArray),k≤l.length∧i=.int .i64 k∧pg=.string q∧q.size=512∧Below w.heap.size w wr∧ir p 0 l=ir q k (l.drop k)) (fun _ i _=>l.length-(intOf i).toNat)
 case atStart=>exact⟨0,p,Nat.zero_le _,rfl,rfl,HP.out,du,rfl⟩
 case round=>
  obtain⟨k,q,hk,rfl,rfl,hq,hb,hg⟩:=hrel;clear h3 h3';by_cases hlt:k<l.length
  · have hbs:=hb.size
    obtain⟨b,o,rfl,hB,hc⟩:=(HR.out.below hb).opened (by rw[xo];omega);have hsz:=HS.out k hlt;have hd:l.drop k=l[k]::l.drop (k+1):=List.drop_eq_getElem_cons hlt;rw[hd] at hg;have c0:wr.cell? ⟨b,o+k*6,none⟩=_:=hc _ _ (jt l k hlt 0 _ rfl);have c1:wr.cell? ⟨b,o+k*6+1,none⟩=_:=hc _ _ (jt l k hlt 1 _ rfl);have c2:wr.cell? ⟨b,o+k*6+2,none⟩=_:=hc _ _ (jt l k hlt 2 _ rfl);have c3:wr.cell? ⟨b,o+k*6+3,none⟩=_:=hc _ _ (jt l k hlt 3 _ rfl);have c4:wr.cell? ⟨b,o+k*6+4,none⟩=_:=hc _ _ (jt l k hlt 4 _ rfl);have c5:wr.cell? ⟨b,o+k*6+5,none⟩=_:=hc _ _ (jt l k hlt 5 _ rfl);obtain⟨x,hx⟩:∃x,x=l[k]:=⟨_,rfl⟩;rw[←hx] at c0 c1 c2 c3 c4 c5 hsz hg
    have hB1:b<wr.heap.size:=by omega
    have hE:=fun W=>gI x W hsz.1 hsz.2;obtain⟨er,her⟩:∃e,e=gy x:=⟨_,rfl⟩;rw[←her] at hE;have HE:=Lib.hid hE;have HG:=Lib.hid hg;clear hE hg hd hx hc;by_cases h0:er=0
    · have hok:=(gv x).1 (her.symm.trans h0)
      have hA:=fun W=>sC q x W hq hok;have hq2:=jK hq hok;obtain⟨f,hf⟩:∃f,f=cR q x:=⟨_,rfl⟩;rw[←hf] at hA;have HA:=Lib.hid hA;have HF:=Lib.hid hf
      have h0':(er != 0)=false:=by simp[h0]
      have HZ:Hid (gy x=0):=Lib.hid (her.symm.trans h0);have HQ2:=Lib.hid hq2;clear hA hf hok her h0 hq hq2;unfold fj at HE HA
      cases f
      · go_wp2_with (first | ((go_at_call 144;(with_reducible refine(HE.out _).mono ?_);rintro e W1 ⟨rfl,hbW1⟩;obtain⟨hcW1,hfW1⟩:=bH hbW1);have hsW1:wr.heap.size<W1.heap.size:=(by have h:=hbW1.size;simp at h;omega)) | ((go_at_call 205;(with_reducible refine(HA.out _).mono ?_);rintro e W2 ⟨rfl,hbW2⟩;obtain⟨hcW2,hfW2⟩:=bH hbW2);have hsW2:wr.heap.size<W2.heap.size:=(by have h:=hbW2.size;omega)))
        go_ret3
        have e:=HG.out.trans (tR HZ.out HF.out.symm);exact⟨uJ5 (by rw[e]) (by rw[e]) (by rw[e]),du⟩
      · go_wp2_with (first | ((go_at_call 144;(with_reducible refine(HE.out _).mono ?_);rintro e W1 ⟨rfl,hbW1⟩;obtain⟨hcW1,hfW1⟩:=bH hbW1);have hsW1:wr.heap.size<W1.heap.size:=(by have h:=hbW1.size;simp at h;omega)) | ((go_at_call 205;(with_reducible refine(HA.out _).mono ?_);rintro e W2 ⟨rfl,hbW2⟩;obtain⟨hcW2,hfW2⟩:=bH hbW2);have hsW2:wr.heap.size<W2.heap.size:=(by have h:=hbW2.size;omega)))
        go_roundw
        case rel=>exact⟨k+1,_,by omega,by go_num,rfl,HQ2.out,du,HG.out.trans (wk HZ.out HF.out.symm)⟩
        case measure=>simp[intOf];omega
    · have h0':(er != 0)=true:=by simp[h0]
      have HZ:Hid (gy x≠0):=Lib.hid (by rw[←her];exact h0);have HER:=Lib.hid her;clear her h0 hq;unfold fj at HE
      go_wp2_with (first | ((go_at_call 144;(with_reducible refine(HE.out _).mono ?_);rintro e W1 ⟨rfl,hbW1⟩;obtain⟨hcW1,hfW1⟩:=bH hbW1);have hsW1:wr.heap.size<W1.heap.size:=(by have h:=hbW1.size;simp at h;omega)))
      go_ret3
      have e:=HG.out.trans (xB HZ.out);exact⟨uJ5 (by rw[e]) (by rw[e]) (by rw[e,HER.out]),du⟩
  · obtain rfl:k=l.length:=by omega
    rw[List.drop_of_length_le (Nat.le_refl _)] at hg;have HG:=Lib.hid hg;clear hg hq
    go_wp2
    go_ret3
    exact⟨uJ5 (by rw[HG.out];rfl) (by rw[HG.out];rfl) (by rw[HG.out];rfl),du⟩
open Go.RowKit Go.Sort
def p6 (o:Op):Bool:=o.k==0&&o.a==0&&o.e==0&&o.c==0&&o.o.size==0&&o.n.size==0
theorem qX (x:Op) (W:World) :
 (binOp .eql 141 (.agg #[.int .i64 x.k,.int .i64 x.a,.int .i64 x.e,.int .i64 x.c,.string x.o,.string x.n]) (.agg #[.int .i64 0,.int .i64 0,.int .i64 0,.int .i64 0,.string ⟨#[]⟩,.string ⟨#[]⟩])).run Tryz.prog W=.ok (.bool (p6 x)) W:=by
 unfold p6
 cases h1:(x.k==0)
 all_goals cases h2:(x.a==0)
 all_goals cases h3:(x.e==0)
 all_goals cases h4:(x.c==0)
 all_goals cases h5:(x.o.toList.isEmpty)
 all_goals cases h6:(x.n.toList.isEmpty)
 all_goals
  rw[isEmpty_eq] at h5 h6
  go_simp
  try (simp_all [toList_nil])
open Go.RowKit Go.Sort
def jb (e:Lge):Bool:=(e.x==0||e.k==1)&&((e.k==0||e.k==1)||(e.g==0&&!e.f&&p6 e.o))&&(e.d.size==0||e.k==5)
def jn (e:Lge):Bool:=bB e.t 0 9999&&bB e.p 0 2147483647&&bB e.x 0 2147483647&&bB e.g 0 600
def cA (e:Lge):Int:=av [bQ (bB e.k 0 5) 15,bQ (jn e) 2,bQ (jb e) 3,bQ (decide ((e.d.size:Int)≤1000)) 8,gy e.o]
theorem HI (a b c d:Bool):a=false∨(a=true∧b=false)∨(a=true∧b=true∧c=false)∨(a=true∧b=true∧c=true∧d=false)∨(a=true∧b=true∧c=true∧d=true):=by
 cases a<;>cases b<;>cases c<;>cases d<;>simp
theorem ny (n:Int) (w:World) :
 Calls Tryz.prog 217 #[.int .i64 n] w fun e w'=>e=.returned (.bool (bB n 0 2147483647))∧w=w':=by
 go_enter Tryz.func217,Tryz.ntmps217
 go_wp2_with (go_at_call 152;refine(bf _ _ _ _).mono ?_;rintro e w' ⟨rfl,rfl⟩)
 go_ret
 exact⟨rfl,rfl⟩
theorem nB (k t p x g:Int) (f:Bool) (o:Op) (d:ByteArray) (w:World) (ho:o.o.size≤3100) (hn:o.n.size≤3100) (hd:d.size≤maxLen) :
 Calls Tryz.prog 154 #[.agg #[.int .i64 k,.int .i64 t,.int .i64 p,.int .i64 x,.int .i64 g,.bool f,.int .i64 o.k,.int .i64 o.a,.int .i64 o.e,.int .i64 o.c,.string o.o,.string o.n,.string d]] w fun r w'=>r=.returned (.int .i64 (cA ⟨k,t,p,x,g,f,o,d⟩))∧Below w.heap.size w w':=by
 have hE:=fun W=>gI o W ho hn;obtain⟨er,her⟩:∃x,x=gy o:=⟨_,rfl⟩;rw[←her] at hE;unfold fj at hE;have HE:=Lib.hid hE;have HER:=Lib.hid her;unfold maxLen at hd;clear hE her ho hn;have hnil:=qX o;obtain⟨Bn,hBn⟩:∃b,p6 o=b:=⟨_,rfl⟩;rw[hBn] at hnil;have HBn:=Lib.hid hBn;obtain⟨Bx,hBx⟩:∃b,(x==0)=b:=⟨_,rfl⟩;obtain⟨B0,hB0⟩:∃b,(k==0)=b:=⟨_,rfl⟩;obtain⟨B1,hB1⟩:∃b,(k==1)=b:=⟨_,rfl⟩;obtain⟨B5,hB5⟩:∃b,(k==5)=b:=⟨_,rfl⟩;obtain⟨Bg,hBg⟩:∃b,(g==0)=b:=⟨_,rfl⟩;obtain⟨Bd,hBd⟩:∃b,d.toList.isEmpty=b:=⟨_,rfl⟩;obtain⟨F,hF⟩:∃F,jb ⟨k,t,p,x,g,f,o,d⟩=F:=⟨_,rfl⟩
 have hF':F=((Bx||B1)&&((B0||B1)||(Bg&&!f&&Bn))&&(Bd||B5)):=by
  rw[←hF,←hBx,←hB0,←hB1,←hB5,←hBg,←hBn,←hBd,isEmpty_eq];rfl
 have HF:=Lib.hid hF;have HF':=Lib.hid hF';clear hBn hF hF'
 go_enter Tryz.func154,Tryz.ntmps154
 go_upto_region 1 with (fail)
 go_cut [3] (fun s3 wx=>s3=.bool (B0||B1)∧wx=w.alloc (.cells #[.int .i64 k,.int .i64 t,.int .i64 p,.int .i64 x,.int .i64 g,.bool f,.int .i64 o.k,.int .i64 o.a,.int .i64 o.e,.int .i64 o.c,.string o.o,.string o.n,.string d] 143))
 case first=>
  go_wp2_with fail
  all_goals
   go_meet
   refine⟨congrArg Value.bool ?_,rfl⟩
   cases B0<;>cases B1<;>simp_all
 case rest=>
 obtain⟨rfl,rfl⟩:=hcut;obtain⟨Bc,hBc⟩:∃b,(B0||B1)=b:=⟨_,rfl⟩;rw[hBc];have HBc:=Lib.hid hBc;clear hBc
 go_upto_region 3 with (fail)
 go_cut [3,5] (fun _ s5 wx=>s5=.bool F∧wx=w.alloc (.cells #[.int .i64 k,.int .i64 t,.int .i64 p,.int .i64 x,.int .i64 g,.bool f,.int .i64 o.k,.int .i64 o.a,.int .i64 o.e,.int .i64 o.c,.string o.o,.string o.n,.string d] 143))
 case first=>
  cases f
  all_goals
   go_wp2_with fail
   all_goals
    go_meet
    refine⟨congrArg Value.bool ?_,rfl⟩;have Y:=HF'.out;have Y:=HBc.out
    simp_all
 case rest=>
 obtain⟨rfl,rfl⟩:=hcut;clear hBx hB0 hB1 hB5 hBg hBd hnil;obtain⟨bt,hbt⟩:∃b,b=bB t 0 9999:=⟨_,rfl⟩;obtain⟨bp,hbp⟩:∃b,b=bB p 0 2147483647:=⟨_,rfl⟩;obtain⟨bx,hbx⟩:∃b,b=bB x 0 2147483647:=⟨_,rfl⟩;obtain⟨bg,hbg⟩:∃b,b=bB g 0 600:=⟨_,rfl⟩;obtain⟨bk,hbk⟩:∃b,b=bB k 0 5:=⟨_,rfl⟩;have hK:=fun W=>bf k 0 5 W;have hT:=fun W=>bf t 0 9999 W;have hG:=fun W=>bf g 0 600 W;have hP:=fun W=>ny p W;have hX:=fun W=>ny x W;rw[←hbk] at hK;rw[←hbt] at hT;rw[←hbg] at hG;rw[←hbp] at hP;rw[←hbx] at hX;have HK:=Lib.hid hK;have HT:=Lib.hid hT;have HG:=Lib.hid hG;have HP:=Lib.hid hP;have HX:=Lib.hid hX
 have hv:cA ⟨k,t,p,x,g,f,o,d⟩=av [bQ bk 15,bQ (bt&&bp&&bx&&bg) 2,bQ F 3,bQ (decide ((d.size:Int)≤1000)) 8,er]:=by
  rw[hbk,hbt,hbp,hbx,hbg,←HF.out,HER.out];rfl
 have HV:=Lib.hid hv;clear hK hT hG hP hX hv hbt hbp hbx hbg hbk
 go_wp2_with fail
 rcases HI bt bp bx bg with rfl | ⟨rfl,rfl⟩ | ⟨rfl,rfl,rfl⟩ | ⟨rfl,rfl,rfl,rfl⟩ | ⟨rfl,rfl,rfl,rfl⟩
 all_goals
  (refine cq 35 aa aa ?_;simp only[List.take_succ_cons,List.take_zero,List.drop_succ_cons,List.drop_zero];(repeat (go_big_quiet_step ((first | (go_at_call 152;(with_reducible exact Calls.reg_pure (HK.out _))) | (go_at_call 152;(with_reducible exact Calls.reg_pure (HT.out _))) | (go_at_call 152;(with_reducible exact Calls.reg_pure (HG.out _))) | (go_at_call 217;(with_reducible exact Calls.reg_pure (HP.out _))) | (go_at_call 217;(with_reducible exact Calls.reg_pure (HX.out _))) | (go_at_call 151;exact Calls.reg_pure (aJ _ _ _)) | (go_at_call 144;(with_reducible exact Calls.regrown_of (HE.out _)))))));(with_reducible refine wpQuiet_nil ?_);intro W1 hreg;have hbW1:=a7 hreg;clear hreg;obtain⟨hcW1,hfW1⟩:=bH hbW1)
  go_wp2_with (first | (go_at_call 143;refine(bJ [_,_,_,_,_] W1 bw).mono ?_;rintro e w' ⟨rfl,rfl⟩))
  go_ret
  exact⟨BG HV.out.symm,du⟩
open Go.RowKit
instance opDec:DecidableEq Op:=fun x y=>decidable_of_iff (x.k=y.k∧x.a=y.a∧x.e=y.e∧x.c=y.c∧x.o=y.o∧x.n=y.n) (by cases x;cases y;simp)
structure Chn where
 l:Int
 k:Int
 u:Int
def wK (c:Chn) (n:Int) (x:Lge):Chn:=⟨n,x.k,if x.k=0 then n else if x.k=1 then x.x else c.u⟩
def cb (x:Lge):Bool:=x.k==0||x.k==1
def cz (l:List Rcd) (n:Int):Option Rcd:=l.find? fun x=>x.l==n
def ej (l:List Rcd):Int:=match l with | []=>0 | x::_=>x.l
def ji (b:Int) (x:Lge) (a:Bool):Chn × Int:=if x.p>(if a then 0 else b-1) then (⟨0,0,0⟩,14) else (⟨x.p,if x.p≠0 then -1 else 0,if x.p≠0 then -1 else 0⟩,0)
def yC (k:Int):List Int:=if k=0 then [0,1,2,3,4] else if k=1 then [1,4] else if k=2 then [4] else if k=3 then [1,4] else []
def rW (k c:Int):Bool:=(yC k).any fun x=>x==c
def mf (l:List Rcd) (i:Nat) (c:Chn) (x:Lge):Int:=if c.u=0 then 13 else match cz (l.take i) c.u with
 | none=>bQ (decide (x.x<ej l)) 13
 | some u=>bQ (u.e.k==0&&x.x==u.e.p&&x.g==u.e.g&&x.f==u.e.f&&decide (x.o=bO u.e.o)) 13
def ju (a:Int) (g:Int→Option Chn) (x:Lge):Chn × Int:=match g x.t with
 | some c=>if c.k=4 then ji a x true else (c,bQ (x.p==c.l) 14)
 | none=>ji a x false
def GA (x:Lge):Int:=if x.t≠0∨x.p≠0 then 3 else iM (bl x.d)
def fc (l:List Rcd) (i:Nat) (x:Rcd):Int:=av [bQ (bB x.l 1 2147483647) 2,bQ (match da l i with | none=>true | some y=>decide (y.l<x.l)) 9,cA x.e]
def ph (l:List Rcd) (i:Nat) (c:Chn × Int) (x:Lge):Int:=av [c.2,if c.1.k = -1 then 0 else bQ (rW c.1.k x.k) 20,if x.k=1 then mf l i c.1 x else 0]
def ez (l:List Rcd) (i:Nat) (g:Int→Option Chn) (x:Rcd):Int:=
 if fc l i x≠0 then fc l i x else if x.e.k=5 then GA x.e else if x.e.t=0 then 2 else ph l i (ju (ej l) g x.e) x.e
def AB (g:Int→Option Chn) (t:Int) (c:Chn):Int→Option Chn:=fun s=>if s=t then some c else g s
def ct (l:List Rcd):Nat→Int→Option Chn
 | 0=>fun _=>none
 | i+1=>match l[i]? with
  | none=>ct l i
  | some x=>if x.e.k=5 then ct l i else AB (ct l i) x.e.t (wK (ju (ej l) (ct l i) x.e).1 x.l x.e)
def fh (l:List Rcd):Int × Int:=if 100<l.length then (0,8) else df (fun i x=>ez l i (ct l i) x) 0 l
def bP (l:List Rcd) (t:Int):Nat→Option Nat
 | 0=>none
 | k+1=>match l[k]? with
  | none=>bP l t k
  | some x=>if x.e.k≠5∧x.e.t=t then some k else bP l t k
theorem gz {l:List Rcd} {t:Int}:∀{i k:Nat},bP l t i=some k→k<i∧∃x,l[k]? = some x∧x.e.k≠5∧x.e.t=t
 | 0,k,h=>by cases h
 | i+1,k,h=>by
  unfold bP at h
  split at h
  · obtain⟨b,a⟩:=gz h;exact⟨by omega,a⟩
  · rename_i x hx
    split at h
    · rename_i c
      cases h
      exact⟨by omega,x,hx,c⟩
    · obtain⟨b,a⟩:=gz h;exact⟨by omega,a⟩
def j8 (l:List Rcd) (i:Nat):Int:=
 match l[i]? with
 | none=>0
 | some x=>if x.e.k=0 then x.l else if x.e.k=1 then x.e.x else
  match h:bP l x.e.t i with
  | none=>if x.e.p≠0 then -1 else 0
  | some k=>if (match l[k]? with | none=>false | some y=>y.e.k != 4) then j8 l k else if x.e.p≠0 then -1 else 0
 termination_by i
 decreasing_by exact(gz h).1
def eW (l:List Rcd) (k:Nat):Int:=match l[k]? with | none=>0 | some y=>y.e.k
def lA (l:List Rcd) (k:Nat):Int:=match l[k]? with | none=>0 | some y=>y.l
def nI (l:List Rcd) (k:Nat):Chn:=⟨lA l k,eW l k,j8 l k⟩
theorem qc {l:List Rcd} {k:Nat} (h:k<l.length):lA l k=l[k].l:=by unfold lA;rw[List.getElem?_eq_getElem h]
theorem jO {l:List Rcd} {k:Nat} (h:k<l.length):eW l k=l[k].e.k:=by unfold eW;rw[List.getElem?_eq_getElem h]
theorem qC {l:List Rcd} {i:Nat} (h:i<l.length):j8 l i=if l[i].e.k=0 then l[i].l else if l[i].e.k=1 then l[i].e.x else
 match bP l l[i].e.t i with
 | none=>if l[i].e.p≠0 then -1 else 0
 | some k=>if eW l k≠4∧k<l.length then j8 l k else if l[i].e.p≠0 then -1 else 0:=by
 rw[j8,List.getElem?_eq_getElem h];simp only;by_cases c:l[i].e.k=0
 · rw[if_pos c,if_pos c]
 rw[if_neg c,if_neg c];by_cases b:l[i].e.k=1
 · rw[if_pos b,if_pos b]
 rw[if_neg b,if_neg b]
 split
 · rename_i a;rw[a]
 · rename_i k a
   rw[a];simp only;obtain⟨j,x,hx,_⟩:=gz a;have g:k<l.length:=(List.getElem?_eq_some_iff.1 hx).1;unfold eW;rw[hx];simp only;by_cases d:x.e.k=4
   · simp[d]
   · rw[if_pos (al d),if_pos ⟨d,g⟩]
theorem wo {l:List Rcd} {t:Int} {k:Nat} (h:k<l.length):bP l t (k+1)=if l[k].e.k≠5∧l[k].e.t=t then some k else bP l t k:=by
 rw[bP,List.getElem?_eq_getElem h]
theorem rv {l:List Rcd} {k:Nat} (h:k<l.length):ct l (k+1)=if l[k].e.k=5 then ct l k else AB (ct l k) l[k].e.t (wK (ju (ej l) (ct l k) l[k].e).1 l[k].l l[k].e):=by
 rw[ct,List.getElem?_eq_getElem h]
theorem j6 {a:Int} {x:Lge} {b:Bool} (h:(ji a x b).2=0):x.p≤(if b then 0 else a-1)∧(ji a x b).1=⟨x.p,if x.p≠0 then -1 else 0,if x.p≠0 then -1 else 0⟩:=by
 unfold ji at h ⊢;by_cases c:x.p>(if b=true then 0 else a-1)
 · rw[if_pos c] at h;cases h
 · rw[if_neg c]
   exact⟨by omega,rfl⟩
theorem lh {l:List Rcd} {i:Nat} {g:Int→Option Chn} {x:Rcd} (h:ez l i g x=0):fc l i x=0∧(x.e.k=5→GA x.e=0)∧(x.e.k≠5→x.e.t≠0∧(ju (ej l) g x.e).2=0 ∧
 ((ju (ej l) g x.e).1.k = -1∨rW (ju (ej l) g x.e).1.k x.e.k=true)∧(x.e.k=1→mf l i (ju (ej l) g x.e).1 x.e=0)):=by
 unfold ez at h
 split at h
 · rename_i a;exact absurd h a
 rename_i a
 have a:=Classical.not_not.1 a;refine⟨a,fun b=>by rw[if_pos b] at h;exact h,fun b=>?_⟩;rw[if_neg b] at h
 split at h
 · cases h
 rename_i ht
 unfold ph at h;rw[aN] at h;simp only[List.mem_cons,List.not_mem_nil,or_false,forall_eq_or_imp,forall_eq] at h;obtain⟨d,a2,c⟩:=h;refine⟨ht,d,?_,fun j=>by rw[if_pos j] at c;exact c⟩
 split at a2
 · rename_i m;exact .inl m
 · exact .inr ((aH au).1 a2)
theorem mB {l:List Rcd}:∀i,i≤l.length→(∀k (m:k<l.length),k<i→ez l k (ct l k) l[k]=0)→∀t,ct l i t=(bP l t i).map (nI l)
 | 0,_,_,t=>rfl
 | i+1,hi,h,t=>by
  have o:=mB i ab (fun k m r=>h k m ab)
  have a:i<l.length:=by omega
  rw[rv a,wo a];by_cases g:l[i].e.k=5
  · rw[if_pos g,if_neg (by simp[g])];exact o t
  rw[if_neg g];obtain⟨_,_,hr⟩:=lh (h i a ab);obtain⟨s,c,h3,d⟩:=hr g;unfold AB;by_cases ht:t=l[i].e.t
  · subst ht
    rw[if_pos rfl,if_pos ⟨g,rfl⟩,Option.map_some]
    congr 1
    unfold wK nI;rw[qc a,jO a,qC a]
    congr 1
    by_cases k0:l[i].e.k=0
    · rw[if_pos k0,if_pos k0]
    rw[if_neg k0,if_neg k0];by_cases j:l[i].e.k=1
    · rw[if_pos j,if_pos j]
    rw[if_neg j,if_neg j];have b:=o l[i].e.t;unfold ju at c ⊢
    cases hb:bP l l[i].e.t i with
    | none=>
     rw[hb] at b;rw[b] at c ⊢;simp only[Option.map_none] at c ⊢;rw[(j6 c).2]
    | some k=>
     rw[hb] at b;rw[b] at c ⊢;simp only[Option.map_some] at c ⊢;obtain⟨m,x,hx,_⟩:=gz hb
     have p:k<l.length:=by omega
     by_cases d:eW l k=4
     · have e:(nI l k).k=4:=d
       rw[if_pos e] at c ⊢;rw[if_neg (by simp[d]),(j6 c).2]
     · have e:¬(nI l k).k=4:=d
       rw[if_neg e] at c ⊢;rw[if_pos ⟨d,p⟩];rfl
  · rw[if_neg ht,if_neg (by rintro ⟨_,q⟩;exact ht q.symm)];exact o t
theorem EG {l:List Rcd} {i:Nat} (s:i<l.length) (h:∀k (g:k<l.length),k≤i→ez l k (ct l k) l[k]=0) (q:l[i].e.k≠5) :
 (l[i].e.p≤ej l-1∧(bP l l[i].e.t i=none∨l[i].e.p≤0))∨∃k,bP l l[i].e.t i=some k∧eW l k≠4∧l[i].e.p=lA l k:=by
 have b:=mB i ab (fun k g o=>h k g ab) l[i].e.t;obtain⟨v,_,hr⟩:=lh (h i s (Nat.le_refl _));obtain⟨u,a,h3,c⟩:=hr q
 have hf:1≤ej l:=by
  have j:0<l.length:=by omega
  obtain⟨d,_,_⟩:=lh (h 0 j (Nat.zero_le _));unfold fc at d;rw[aN] at d;have:=inB_true.1 ((aH au).1 (d _ (.head _)))
  match l,j with
  | x::r,_=>exact this.1
 unfold ju at a
 cases hb:bP l l[i].e.t i with
 | none=>
  rw[hb] at b;rw[b] at a;simp only[Option.map_none] at a;have:=(j6 a).1;simp only[Bool.false_eq_true,if_false] at this;exact .inl ⟨by omega,.inl rfl⟩
 | some k=>
  rw[hb] at b;rw[b] at a;simp only[Option.map_some] at a;by_cases c:eW l k=4
  · have e:(nI l k).k=4:=c
    rw[if_pos e] at a;have:=(j6 a).1;simp only[if_true] at this;exact .inl ⟨by omega,.inr ab⟩
  · have e:¬(nI l k).k=4:=c
    rw[if_neg e] at a
    right
    have m:=(aH au).1 a;rw[beq_iff_eq] at m;exact⟨k,rfl,c,m⟩
open Go.RowKit
section
variable {α:Type} (κ:α→Int)
def cF (l:List α) (i:Int):Option α:=l.find? fun x=>κ x==i
def mc (l:List α) (x:α):List α:=l.filter (fun y=>decide (κ y<κ x)) ++ x::l.filter (fun y=>decide (κ x<κ y))
def tV (l:List α) (i:Int):List α:=l.filter fun y=>decide (κ y≠i)
def cH (l:List α):Prop:=l.Pairwise fun x y=>κ x<κ y
variable {κ}
theorem kI (p:α→Bool) (l:List α) (i:Int) (h:∀x∈l,κ x=i→p x=true):cF κ (l.filter p) i=cF κ l i:=by
 unfold cF
 induction l with
 | nil=>rfl
 | cons x l a=>
  have a:=a fun y b=>h y (List.mem_cons_of_mem _ b);rw[List.filter_cons,List.find?_cons];by_cases hx:κ x=i
  · rw[if_pos (h x (List.mem_cons_self ..) hx),List.find?_cons,beq_iff_eq.2 hx]
  · have e:(κ x==i)=false:=al hx
    rw[e]
    split
    · rw[List.find?_cons,e];exact a
    · exact a
theorem ef (l:List α) (i:Int) (h:∀x∈l,κ x≠i):cF κ l i=none:=by
 unfold cF;rw[List.find?_eq_none];intro x hx
 simpa using h x hx
theorem gr {l:List α} {i:Int} {x:α} (h:cF κ l i=some x):x∈l∧κ x=i:=by
 unfold cF at h;exact⟨List.mem_of_find?_eq_some h,by simpa using List.find?_some h⟩
theorem vR (l:List α) (x:α) (i:Int):cF κ (mc κ l x) i=if i=κ x then some x else cF κ l i:=by
 have e:cF κ (mc κ l x) i=(cF κ (l.filter (fun y=>decide (κ y<κ x))) i).or (cF κ (x::l.filter (fun y=>decide (κ x<κ y))) i):=by
  unfold cF mc;rw[List.find?_append]
 rw[e];by_cases b:i=κ x
 · rw[if_pos b,ef (l.filter (fun y=>decide (κ y<κ x))) i fun y a=>by
    have:=List.mem_filter.1 a;have:=of_decide_eq_true this.2
    omega]
   unfold cF;rw[List.find?_cons,beq_iff_eq.2 b.symm];rfl
 · rw[if_neg b]
   have e2:cF κ (x::l.filter (fun y=>decide (κ x<κ y))) i=cF κ (l.filter (fun y=>decide (κ x<κ y))) i:=by
    unfold cF
    have:(κ x==i)=false:=by simpa using fun q=>b q.symm
    rw[List.find?_cons,this]
   rw[e2];rcases Int.lt_trichotomy i (κ x) with h | h | h
   · rw[kI _ l i fun y _ a=>decide_eq_true ab,ef (l.filter (fun y=>decide (κ x<κ y))) i fun y a=>by
      have:=of_decide_eq_true (List.mem_filter.1 a).2
      omega]
     simp
   · exact absurd h b
   · rw[ef (l.filter (fun y=>decide (κ y<κ x))) i fun y a=>by
      have:=of_decide_eq_true (List.mem_filter.1 a).2
      omega,kI _ l i fun y _ a=>decide_eq_true ab]
     simp
theorem BO (l:List α) (k i:Int):cF κ (tV κ l k) i=if i=k then none else cF κ l i:=by
 unfold tV;by_cases a:i=k
 · rw[if_pos a]
   exact ef _ _ fun y b=>by
    have:=of_decide_eq_true (List.mem_filter.1 b).2;omega
 · rw[if_neg a]
   exact kI _ l i fun y _ b=>decide_eq_true ab
theorem yV {l:List α} (h:cH κ l) (x:α):cH κ (mc κ l x):=by
 unfold cH mc at *;rw[List.pairwise_append,List.pairwise_cons];refine⟨h.filter _,⟨fun y a=>of_decide_eq_true (List.mem_filter.1 a).2,h.filter _⟩,fun y a z b=>?_⟩;have c:=of_decide_eq_true (List.mem_filter.1 a).2;rcases List.mem_cons.1 b with rfl | b
 · exact c
 · have d:=of_decide_eq_true (List.mem_filter.1 b).2
   omega
theorem Fk {l:List α} (h:cH κ l) (k:Int):cH κ (tV κ l k):=h.filter _
theorem zk:cH κ []:=.nil
theorem iD {l:List α} (h:cH κ l) {x:α} (hx:x∈l):cF κ l (κ x)=some x:=by
 unfold cH at h;unfold cF
 induction l with
 | nil=>cases hx
 | cons y l ih=>
  rw[List.pairwise_cons] at h;rcases List.mem_cons.1 hx with rfl | hx
  · rw[List.find?_cons,beq_self_eq_true]
  · have:=h.1 x hx
    have e:(κ y==κ x)=false:=by rw[beq_eq_false_iff_ne];omega
    rw[List.find?_cons,e];exact ih h.2 hx
theorem E0 {a b:List α} (e:cH κ a) (d:cH κ b) (h:∀i,cF κ a i=cF κ b i):a=b:=by
 have hm:∀x,x∈a↔x∈b:=fun x=>
  ⟨fun hx=>(gr ((h (κ x)).symm.trans (iD e hx))).1,fun hx=>(gr ((h (κ x)).trans (iD d hx))).1⟩
 clear h;unfold cH at e d
 induction a generalizing b with
 | nil=>
  cases b with
  | nil=>rfl
  | cons y b=>exact absurd ((hm y).2 (List.mem_cons_self ..)) List.not_mem_nil
 | cons x a ih=>
  cases b with
  | nil=>exact absurd ((hm x).1 (List.mem_cons_self ..)) List.not_mem_nil
  | cons y b=>
   rw[List.pairwise_cons] at e d
   have j:x=y:=by
    rcases List.mem_cons.1 ((hm x).1 (List.mem_cons_self ..)) with c | c
    · exact c
    · rcases List.mem_cons.1 ((hm y).2 (List.mem_cons_self ..)) with k | k
      · exact k.symm
      · have:=d.1 x c
        have:=e.1 y k;omega
   subst j
   congr 1
   refine ih e.2 d.2 fun z=>?_;have:=hm z;simp only[List.mem_cons] at this
   constructor
   · intro g
     rcases this.1 (.inr g) with rfl | c
     · have:=e.1 _ g;omega
     · exact c
   · intro g
     rcases this.2 (.inr g) with rfl | c
     · have:=d.1 _ g;omega
     · exact c
theorem rE {a:List α} (d:cH κ a) {b:List α} (c:cH κ b) (h:∀x,x∈a↔x∈b):a=b:=
 E0 d c fun i=>by
  cases h1:cF κ a i with
  | none=>
   cases h2:cF κ b i with
   | none=>rfl
   | some y=>
    obtain⟨m,e⟩:=gr h2;have:=iD d ((h y).2 m);rw[e,h1] at this;cases this
  | some x=>
   obtain⟨m,e⟩:=gr h1;have:=iD c ((h x).1 m);rw[e] at this;exact this.symm
theorem srt_get {l:List α}:cH κ l↔∀k (h:k+1<l.length),κ l[k]<κ l[k+1]:=by
 unfold cH;rw[List.pairwise_iff_getElem]
 constructor
 · intro h k c;exact h k (k+1) ab c ab
 · intro h i j e b a
   obtain⟨d,rfl⟩:∃d,j=i+1+d:=⟨j-(i+1),by omega⟩;clear a
   induction d with
   | zero=>exact h i b
   | succ d ih=>exact Int.lt_trans (ih ab) (h (i+1+d) b)
end
def fp (l:List Trn) (i:Int):Option Trn:=cF Trn.i l i
def ey (l:List Dty) (g:Int):Option Dty:=cF Dty.g l g
def qD:Trn:=⟨0,0,0,false⟩
def wI (t:Tbl) (x:Rcd):Trn:=⟨x.e.t,x.l,if x.e.k=0 then x.l else if x.e.k=1 then x.e.x else ((fp t.ts x.e.t).getD qD).u,x.e.k==2||((fp t.ts x.e.t).getD qD).c⟩
def mg (t:Tbl) (x:Rcd):List Dty:=if cb x.e=true∧ey t.ds x.e.g=none then mc Dty.g t.ds ⟨x.e.g,x.e.f,x.l⟩ else t.ds
def fH (t:Tbl) (x:Rcd):Tbl:=if x.e.k=5 then t else ⟨if x.e.k=4 then tV Trn.i t.ts x.e.t else mc Trn.i t.ts (wI t x),mg t x⟩
structure SrtT (t:Tbl):Prop where
 ts:cH Trn.i t.ts
 ds:cH Dty.g t.ds
theorem qz:SrtT jI:=⟨zk,zk⟩
theorem SrtT.chg {t:Tbl} (h:SrtT t) (x:Rcd):SrtT (fH t x):=by
 unfold fH
 split
 · exact h
 · refine⟨?_,?_⟩
   · split
     · exact Fk h.ts _
     · exact yV h.ts _
   · show cH Dty.g (mg t x)
     unfold mg
     split
     · exact yV h.ds _
     · exact h.ds
theorem SrtT.fold {l:List Rcd}:∀{t:Tbl},SrtT t→SrtT (l.foldl fH t):=by
 induction l with
 | nil=>exact fun h=>h
 | cons x l ih=>exact fun h=>ih (h.chg x)
theorem TblOk.srt {t:Tbl} (h:TblOk t):SrtT t:=⟨srt_get.2 h.tord,srt_get.2 h.dord⟩
def EW (a:Tbl) (l:List Rcd):Tbl × Int:=if cZ (l.foldl fH a)≠0 then (jI,cZ (l.foldl fH a)) else (l.foldl fH a,0)
def kd (l:List Rcd) (a:Int):Tbl × Int:=if a=0 then EW jI l else match cz l a with
 | none=>(jI,6)
 | some x=>if x.e.k≠5 then (jI,6) else EW (dK (bl x.e.d)) (l.filter fun y=>decide (a<y.l))
open Go.RowKit
open Go.RowKit
def Hl (p:ByteArray):Int:=num (((bl p).drop 8).take 4) % 2147483648
def xV (p:ByteArray) (n:Int):ByteArray:=ss p 8 (bs (lit n 4))
theorem nZ {p:ByteArray} {n:Int} (b:p.size=512):(xV p n).size=512:=by
 have a:(bs (lit n 4)).size=4:=by rw[cm,cu]
 rw[←aO];unfold xV;rw[yW,List.length_append,List.length_append,List.length_take,List.length_drop,aO,aO,a,b];rfl
def qR (n:Int):Int:=bQ (bB n 1 2147483647) 2
def kX (p:ByteArray) (plain:Bool) (n:Int) (x:Op):ByteArray × Bool × Int:=
 if av [cI p,qR n,gy x]≠0 then (⟨#[]⟩,false,av [cI p,qR n,gy x])
 else if plain then (if x.k=2∨x.k=3 then (⟨#[]⟩,false,15) else (ew p x,!(bl (ew p x)==bl p),0))
 else if n≤Hl p then (p,false,0)
 else if cR p x then (xV (ew p x) n,true,0) else (⟨#[]⟩,false,13)
theorem Dq {p:ByteArray} {plain:Bool} {n:Int} {x:Op} (b:p.size=512) (a:bB n 1 2147483647=true) (hx:gy x=0) :
 kX p plain n x=if plain then (if x.k=2∨x.k=3 then (⟨#[]⟩,false,15) else (ew p x,!(bl (ew p x)==bl p),0)) else if n≤Hl p then (p,false,0) else if cR p x then (xV (ew p x) n,true,0) else (⟨#[]⟩,false,13):=by
 have c:qR n=0:=by unfold qR;rw[a];rfl
 have e3:cI p=0:=by unfold cI;rw[b];rfl
 have e2:av [cI p,qR n,gy x]=0:=by rw[e3,c,hx];rfl
 unfold kX
 rw[e2,if_neg (fun g=>g rfl)]
open Go.RowKit
def kA (p:Option Pgp) (x:Pgp):Int:=av [bQ (bB x.g 0 600) 2,bQ (match p with | none=>true | some y=>decide (y.g<x.g)) 9,bQ (x.b.size==512) 10]
def sR (l:List Pgp):Int × Int:=df (fun i x=>kA (da l i) x) 0 l
def jx (l:List Pgp):Int:=if 40<l.length then 8 else (sR l).2
def ib (l:List Pgp) (g:Int):Option Pgp:=cF Pgp.g l g
def fW (p:List Pgp) (x:Rcd):Int:=if cb x.e=true then (match ib p x.e.g with | none=>6 | some q=>bQ (q.f==x.e.f) 13) else 0
def ik (l:List Rcd) (p:List Pgp):Int:=if jx p≠0 then jx p else (df (fun _ x=>fW p x) 0 l).2
structure PgpOk (x:Pgp):Prop where
 g:0≤x.g∧x.g≤600
 b:x.b.size=512
structure PgsOk (l:List Pgp):Prop where
 n:l.length≤40
 all:∀k (h:k<l.length),PgpOk l[k]
 srt:cH Pgp.g l
theorem pgpE_zero {p:Option Pgp} {x:Pgp}:kA p x=0↔PgpOk x∧∀y,p=some y→y.g<x.g:=by
 unfold kA;rw[aN];simp only[List.mem_cons,List.not_mem_nil,or_false,forall_eq_or_imp,forall_eq];rw[aH au,aH au,aH au,inB_true,beq_iff_eq]
 constructor
 · rintro ⟨a,b,h3⟩
   refine⟨⟨a,h3⟩,fun y c=>?_⟩;subst c;simpa using b
 · rintro ⟨⟨a,h3⟩,b⟩
   refine⟨a,?_,h3⟩
   cases p with
   | none=>rfl
   | some y=>simpa using b y rfl
theorem pgsE1_zero {l:List Pgp}:jx l=0↔PgsOk l:=by
 unfold jx sR
 constructor
 · intro h
   split at h
   · cases h
   have h:=(cK _ _).1 h;refine⟨by omega,fun k a=>(pgpE_zero.1 (h k a)).1,srt_get.2 fun k a=>?_⟩;exact(pgpE_zero.1 (h (k+1) a)).2 _ (fE _ _ _)
 · intro h
   rw[if_neg (by have:=h.n;omega),cK];intro k a;rw[pgpE_zero];refine⟨h.all k a,fun y b=>?_⟩
   cases k with
   | zero=>cases b
   | succ k=>rw[fE _ _ ab] at b;cases b;exact srt_get.1 h.srt k a
def eY (l:List Pgp) (g:Int) (s:ByteArray):List Pgp:=l.map fun q=>if q.g=g then ⟨q.g,q.f,s⟩ else q
theorem eB (l:List Pgp) (g:Int) (s:ByteArray):(eY l g s).length=l.length:=List.length_map ..
theorem qg {l:List Pgp} {g:Int} {s:ByteArray} {k:Nat} (c:k<(eY l g s).length) (a:k<l.length):(eY l g s)[k]=if l[k].g=g then ⟨l[k].g,l[k].f,s⟩ else l[k]:=by
 have b:(eY l g s)[k]? = some (if l[k].g=g then ⟨l[k].g,l[k].f,s⟩ else l[k]):=by
  unfold eY;rw[List.getElem?_map,List.getElem?_eq_getElem a];rfl
 rw[List.getElem?_eq_getElem c] at b;exact Option.some.inj b
theorem DO (l:List Pgp) (g:Int) (s:ByteArray):(eY l g s).map Pgp.g=l.map Pgp.g:=by
 unfold eY;rw[List.map_map];apply List.map_congr_left;intro q _;show(if q.g=g then (⟨q.g,q.f,s⟩:Pgp) else q).g=q.g
 split<;>rfl
theorem pV {l:List Pgp} (h:PgsOk l) (g:Int) (s:ByteArray) (e:s.size=512):PgsOk (eY l g s):=by
 refine⟨by rw[eB];exact h.n,fun k c=>?_,?_⟩
 · have b:k<l.length:=by rw[eB] at c;exact c
   rw[qg c b];have a:=h.all k b
   split
   · exact⟨a.g,e⟩
   · exact a
 · have a:=h.srt
   unfold cH at a ⊢;have d:(l.map Pgp.g).Pairwise (·<·):=List.pairwise_map.2 a;rw[←DO l g s] at d;exact List.pairwise_map.1 d
theorem Dt (l:List Pgp) (g:Int) (s:ByteArray) (i:Int):ib (eY l g s) i=if i=g then (ib l g).map (fun q=>⟨q.g,q.f,s⟩) else ib l i:=by
 unfold ib cF eY
 induction l with
 | nil=>simp
 | cons q l ih=>
  rw[List.map_cons,List.find?_cons,List.find?_cons,List.find?_cons];by_cases d:q.g=g
  · rw[if_pos d]
    simp only;by_cases b:i=g
    · have a:(q.g==i)=true:=by rw[beq_iff_eq];omega
      have e2:(q.g==g)=true:=by rw[beq_iff_eq];omega
      rw[a,e2,if_pos b];rfl
    · have a:(q.g==i)=false:=by rw[beq_eq_false_iff_ne];omega
      rw[a,if_neg b];rw[if_neg b] at ih;exact ih
  · rw[if_neg d]
    by_cases b:i=g
    · have a:(q.g==i)=false:=by rw[beq_eq_false_iff_ne];omega
      have e2:(q.g==g)=false:=by rw[beq_eq_false_iff_ne];omega
      rw[a,e2];simp only;exact ih
    · by_cases c:q.g=i
      · have a:(q.g==i)=true:=by rw[beq_iff_eq];exact c
        rw[a,if_neg b]
      · have a:(q.g==i)=false:=by rw[beq_eq_false_iff_ne];exact c
        rw[a];rw[if_neg b] at ih ⊢;exact ih
theorem B7 {l:List Pgp} (h:cH Pgp.g l) {k:Nat} (d:k<l.length) (s:ByteArray):eY l l[k].g s=l.set k ⟨l[k].g,l[k].f,s⟩:=by
 unfold cH at h;rw[List.pairwise_iff_getElem] at h;apply List.ext_getElem (by rw[eB,List.length_set]);intro j b e;rw[eB] at b;have a:=b;rw[qg (by rw[eB];exact a) a,List.getElem_set];by_cases c:k=j
 · subst c
   rw[if_pos rfl,if_pos rfl]
 · rw[if_neg c,if_neg]
   intro q;rcases Nat.lt_or_gt_of_ne c with h3 | h3
   · have:=h k j d b h3;omega
   · have:=h j k b d h3;omega
def ye (t:Tbl) (x:Rcd):Bool:=cb x.e&&match ey t.ds x.e.g with | none=>false | some d=>decide (d.l≤x.l)
def kD (t:Tbl):List Pgp→Int→List Rcd→List Pgp × Int × Int
 | p,n,[]=>(p,n,0)
 | p,n,x::r=>if ye t x=true then (match ib p x.e.g with
  | none=>([],0,0)
  | some q=>if (kX q.b q.f x.l x.e.o).2.2≠0 then ([],0,(kX q.b q.f x.l x.e.o).2.2) else kD t (eY p x.e.g (kX q.b q.f x.l x.e.o).1) (n+sh (kX q.b q.f x.l x.e.o).2.1) r) else kD t p n r
structure Los where
 j:Nat
 i:Int
 u:Int
def gE:Nat→List Trn→List Los
 | _,[]=>[]
 | j,x::l=>if x.c then gE (j+1) l else ⟨j,x.i,x.u⟩::gE (j+1) l
def fz:List Los→Option Los
 | []=>none
 | x::l=>match fz l with
  | none=>some x
  | some y=>if y.u>x.u then some y else some x
structure Stp where
 r:Rcd
 j:Nat
 z:Bool
def pG (l:List Los) (j:Nat) (u:Int):List Los:=l.map fun x=>if x.j=j then ⟨x.j,x.i,u⟩ else x
def bE (x:Lge):Int:=if x.k=1 then x.x else x.p
def plnG (l:List Rcd):Nat→List Los→List Stp × Int
 | f,us=>match fz us with
  | none=>([],0)
  | some b=>if b.u=0 then ([],0) else match cz l b.u with
   | none=>([],6)
   | some r=>if cb r.e=true∧r.e.t=b.i then (match f with
    | 0=>([],26)
    | f+1=>if (plnG l f (pG us b.j (bE r.e))).2≠0 then ([],(plnG l f (pG us b.j (bE r.e))).2) else (⟨r,b.j,decide (bE r.e=0)⟩::(plnG l f (pG us b.j (bE r.e))).1,0)) else ([],6)
def iQ (l:List Rcd) (t:Tbl):List Stp × Int:=plnG l 100 (gE 0 t.ts)
def Hw (l:List Rcd) (t:Tbl):List Int:=((iQ l t).1.filter fun s=>s.r.e.k==0).map fun s=>s.r.l
open Go.RowKit Go.Sort
section
variable {α:Type} {f:α→List Value} {n:Nat}
theorem sF (hf:∀x,(f x).length=n) (l:List α) (k:Nat):(l.flatMap f).drop (k*n)=(l.drop k).flatMap f:=by
 induction l generalizing k with
 | nil=>simp
 | cons x l ih=>
  cases k with
  | zero=>simp
  | succ k=>
   rw[List.flatMap_cons,List.drop_succ_cons,←ih k,Nat.succ_mul,Nat.add_comm,←List.drop_drop,List.drop_left' (hf x)]
theorem Aw (hf:∀x,(f x).length=n) (l:List α) (k:Nat):(l.flatMap f).take (k*n)=(l.take k).flatMap f:=by
 induction l generalizing k with
 | nil=>simp
 | cons x l ih=>
  cases k with
  | zero=>simp
  | succ k=>
   rw[List.flatMap_cons,List.take_succ_cons,List.flatMap_cons,←ih k,Nat.succ_mul,Nat.add_comm,List.take_append,List.take_of_length_le (by rw[hf];omega),hf,Nat.add_sub_cancel_left]
theorem sZ (hf:∀x,(f x).length=n) (l:List α) {k:Nat} (b:k<l.length) {j:Nat} {u:Value} (a:(f l[k])[j]? = some u):(l.flatMap f)[k*n+j]? = some u:=by
 rw[←List.getElem?_drop,sF hf,List.drop_eq_getElem_cons b,List.flatMap_cons,List.getElem?_append_left (List.getElem?_eq_some_iff.1 a).1];exact a
theorem aL {X:World} {B b o:Nat} {l:List α} {k:Nat} (hf:∀x,(f x).length=n) (h:Rd X B (some ⟨b,o,none⟩) (l.flatMap f)) (a:k<l.length):∀(j:Nat) (u:Value),(f l[k])[j]? = some u→X.cell? ⟨b,o+k*n+j,none⟩=some u:=fun j u c=>by
 obtain⟨b',o',e,_,d⟩:=h (k*n+j) u (sZ hf l a c);injection e with e;injection e with e1 e2;subst e1 e2;rw[Nat.add_assoc];exact d
end
end Go.Proofs.YtcfdpfmchchkaaaGreatDoor
