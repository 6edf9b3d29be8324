/-
  Chapter 21: AppliedAll and Applied; All of the reference.
  Chapter 21: an operation held against the zero value.
-/
import Derived.Test.YtcfdpfmchchkaaaGreatDoorOpF
namespace Go.Proofs.YtcfdpfmchchkaaaGreatDoor
set_option maxRecDepth 100000
set_option maxHeartbeats 4000000
set_option linter.unusedVariables false
set_option linter.unusedSimpArgs false
open Go.RowKit Go.Sort
theorem pH {k m:IntKind} {a b:ByteArray} {c d e f:Int} (h:a=b) (h':c=d) (h'':e=f):Ending.returned (.tuple #[.string a,.int k c,.int m e])=.returned (.tuple #[.string b,.int k d,.int m f]):=by rw[h,h',h'']
theorem fL (p:ByteArray) (i:Nat) (x:Op) (l:List Op):ft p i (x::l)=if (bL p x).2≠0 then (⟨#[]⟩,i,(bL p x).2) else ft (bL p x).1 (i+1) l:=rfl
theorem tr {p:ByteArray} {i:Nat} {x:Op} {l:List Op} (h:e8 x≠0):ft p i (x::l)=(⟨#[]⟩,i,e8 x):=by
 rw[fL]
 have:bL p x=(⟨#[]⟩,e8 x):=by unfold bL;rw[if_pos h]
 rw[this,if_pos h]
theorem pV {p:ByteArray} {i:Nat} {x:Op} {l:List Op} (h:e8 x=0) (hf:dh p x=false):ft p i (x::l)=(⟨#[]⟩,i,13):=by
 rw[fL]
 have:bL p x=(⟨#[]⟩,13):=by unfold bL;rw[if_neg (fun g=>g h),hf];rfl
 rw[this];rfl
theorem rM {p:ByteArray} {i:Nat} {x:Op} {l:List Op} (h:e8 x=0) (hf:dh p x=true):ft p i (x::l)=ft (ep p x) (i+1) l:=by
 rw[fL]
 have:bL p x=(ep p x,0):=by unfold bL;rw[if_neg (fun g=>g h),hf];rfl
 rw[this];rfl
theorem pageE_zero {p:ByteArray}:bY p=0↔p.size=512:=by
 unfold bY;rw[aL aq,beq_iff_eq]
theorem yR {p:ByteArray} {l:List Op} (hp:p.size=512) (hl:l.length≤64):dH p l=ft p 0 l:=by
 unfold dH;rw[pageE_zero.2 hp,if_neg (fun h=>h rfl),if_neg ab]
theorem vD {p:ByteArray} {l:List Op} (h:¬(p.size=512∧l.length≤64)):dH p l=(⟨#[]⟩,0,ar [bY p,bn (decide ((l.length:Int)≤64)) 8])∧ar [bY p,bn (decide ((l.length:Int)≤64)) 8]≠0:=by
 unfold dH;by_cases h1:p.size=512
 · have h2:¬l.length≤64:=fun g=>h ⟨h1,g⟩
   have h3:¬((l.length:Int)≤64):=by omega
   rw[pageE_zero.2 h1,if_neg (fun h=>h rfl),if_pos ab,decide_eq_false h3];simp[ar,bn]
 · have h2:bY p≠0:=fun g=>h1 (pageE_zero.1 g)
   rw[if_pos h2];simp[ar,h2]
theorem np (p:ByteArray) (A:Option Addr) (c:Nat) (l:List Op) (w:World) (hp:p.size≤maxLen) (hl:l.length≤1000) (h:¬(p.size=512∧l.length≤64)) :
 Calls Tryz.prog 149 #[.string p,.slice A l.length c] w fun e w'=>e=.returned (.tuple #[.string (dH p l).1,.int .i64 (dH p l).2.1,.int .i64 (dH p l).2.2])∧Below w.heap.size w w':=by
 obtain⟨h1,h2⟩:=vD h
 have h3:(ar [bY p,bn (decide ((l.length:Int)≤64)) 8] != 0)=true:=by simpa using h2
 have H1:=Lib.hid h1;clear h1 h2 h
 go_enter Tryz.func149,Tryz.ntmps149
 go_wp2_with (first | (go_at_call 150;refine(fJ p _ hp).mono ?_;rintro e w' ⟨rfl,rfl⟩) | (go_at_call 151;refine(aA _ _ _).mono ?_;rintro e w' ⟨rfl,rfl⟩) | (go_at_call 143;refine(bh [_,_] w a7).mono ?_;rintro e w' ⟨rfl,rfl⟩))
 go_ret3
 exact⟨pH (by rw[H1.out]) (by rw[H1.out];rfl) (by rw[H1.out]),fb⟩
theorem nR (p:ByteArray) (A:Option Addr) (c:Nat) (l:List Op) (w:World) (hp:p.size=512) (hl:l.length≤64) (hs:sD l) (hr:Rd w w.heap.size A (opsV l)) :
 Calls Tryz.prog 149 #[.string p,.slice A l.length c] w fun e w'=>e=.returned (.tuple #[.string (dH p l).1,.int .i64 (dH p l).2.1,.int .i64 (dH p l).2.2])∧Below w.heap.size w w':=by
 have hpm:p.size≤maxLen:=by unfold maxLen;omega
 rw[yR hp hl]
 have hl':(l.length:Int)≤64:=by omega
 have h3:(ar [bY p,bn true 8] != 0)=false:=by rw[pageE_zero.2 hp];rfl
 have h3':(ar [bY p,bn (decide ((l.length:Int)≤64)) 8] != 0)=false:=by rw[pageE_zero.2 hp,decide_eq_true hl'];rfl
 have HP:=Lib.hid hp;have HS:=Lib.hid hs;have HR:=Lib.hid hr;clear hp hs hr
 go_enter Tryz.func149,Tryz.ntmps149
 go_wp2_with (first | (go_at_call 150;refine(fJ p _ hpm).mono ?_;rintro e w' ⟨rfl,rfl⟩) | (go_at_call 151;refine(aA _ _ _).mono ?_;rintro e w' ⟨rfl,rfl⟩) | (go_at_call 143;refine(bh [_,_] w a7).mono ?_;rintro e w' ⟨rfl,rfl⟩))
 go_loopw [0,26] (fun pg i wr=>∃(k:Nat) (q:ByteArray),k≤l.length∧i=.int .i64 k∧pg=.string q∧q.size=512∧Below w.heap.size w wr∧ft p 0 l=ft q k (l.drop k)) (fun _ i _=>l.length-(intOf i).toNat)
 case atStart=>exact⟨0,p,Nat.zero_le _,rfl,rfl,HP.out,fb,rfl⟩
 case round=>
  obtain⟨k,q,hk,rfl,rfl,hq,hb,hg⟩:=hrel;clear h3 h3';by_cases hlt:k<l.length
  · have hbs:=hb.size
    obtain⟨b,o,rfl,hB,hc⟩:=(HR.out.below hb).opened (by rw[qR];omega);have hsz:=HS.out k hlt;have hd:l.drop k=l[k]::l.drop (k+1):=List.drop_eq_getElem_cons hlt;rw[hd] at hg;have c0:wr.cell? ⟨b,o+k*6,none⟩=_:=hc _ _ (gh l k hlt 0 _ rfl);have c1:wr.cell? ⟨b,o+k*6+1,none⟩=_:=hc _ _ (gh l k hlt 1 _ rfl);have c2:wr.cell? ⟨b,o+k*6+2,none⟩=_:=hc _ _ (gh l k hlt 2 _ rfl);have c3:wr.cell? ⟨b,o+k*6+3,none⟩=_:=hc _ _ (gh l k hlt 3 _ rfl);have c4:wr.cell? ⟨b,o+k*6+4,none⟩=_:=hc _ _ (gh l k hlt 4 _ rfl);have c5:wr.cell? ⟨b,o+k*6+5,none⟩=_:=hc _ _ (gh l k hlt 5 _ rfl);obtain⟨x,hx⟩:∃x,x=l[k]:=⟨_,rfl⟩;rw[←hx] at c0 c1 c2 c3 c4 c5 hsz hg
    have hB1:b<wr.heap.size:=by omega
    have hE:=fun W=>eQ x W hsz.1 hsz.2;obtain⟨er,her⟩:∃e,e=e8 x:=⟨_,rfl⟩;rw[←her] at hE;have HE:=Lib.hid hE;have HG:=Lib.hid hg;clear hE hg hd hx hc;by_cases h0:er=0
    · have hok:=(jc x).1 (her.symm.trans h0)
      have hA:=fun W=>ou q x W hq hok;have hq2:=gg hq hok;obtain⟨f,hf⟩:∃f,f=dh q x:=⟨_,rfl⟩;rw[←hf] at hA;have HA:=Lib.hid hA;have HF:=Lib.hid hf
      have h0':(er != 0)=false:=by simp[h0]
      have HZ:Hid (e8 x=0):=Lib.hid (her.symm.trans h0);have HQ2:=Lib.hid hq2;clear hA hf hok her h0 hq hq2;unfold fC at HE HA
      cases f
      · go_wp2_with (first | ((go_at_call 144;(with_reducible refine(HE.out _).mono ?_);rintro e W1 ⟨rfl,hbW1⟩;obtain⟨hcW1,hfW1⟩:=cL hbW1);have hsW1:wr.heap.size<W1.heap.size:=(by have h:=hbW1.size;simp at h;omega)) | ((go_at_call 205;(with_reducible refine(HA.out _).mono ?_);rintro e W2 ⟨rfl,hbW2⟩;obtain⟨hcW2,hfW2⟩:=cL hbW2);have hsW2:wr.heap.size<W2.heap.size:=(by have h:=hbW2.size;omega)))
        go_ret3
        have e:=HG.out.trans (pV HZ.out HF.out.symm);exact⟨pH (by rw[e]) (by rw[e]) (by rw[e]),fb⟩
      · go_wp2_with (first | ((go_at_call 144;(with_reducible refine(HE.out _).mono ?_);rintro e W1 ⟨rfl,hbW1⟩;obtain⟨hcW1,hfW1⟩:=cL hbW1);have hsW1:wr.heap.size<W1.heap.size:=(by have h:=hbW1.size;simp at h;omega)) | ((go_at_call 205;(with_reducible refine(HA.out _).mono ?_);rintro e W2 ⟨rfl,hbW2⟩;obtain⟨hcW2,hfW2⟩:=cL hbW2);have hsW2:wr.heap.size<W2.heap.size:=(by have h:=hbW2.size;omega)))
        go_roundw
        case rel=>exact⟨k+1,_,by omega,by go_num,rfl,HQ2.out,fb,HG.out.trans (rM HZ.out HF.out.symm)⟩
        case measure=>simp[intOf];omega
    · have h0':(er != 0)=true:=by simp[h0]
      have HZ:Hid (e8 x≠0):=Lib.hid (by rw[←her];exact h0);have HER:=Lib.hid her;clear her h0 hq;unfold fC at HE
      go_wp2_with (first | ((go_at_call 144;(with_reducible refine(HE.out _).mono ?_);rintro e W1 ⟨rfl,hbW1⟩;obtain⟨hcW1,hfW1⟩:=cL hbW1);have hsW1:wr.heap.size<W1.heap.size:=(by have h:=hbW1.size;simp at h;omega)))
      go_ret3
      have e:=HG.out.trans (tr HZ.out);exact⟨pH (by rw[e]) (by rw[e]) (by rw[e,HER.out]),fb⟩
  · obtain rfl:k=l.length:=by omega
    rw[List.drop_of_length_le (Nat.le_refl _)] at hg;have HG:=Lib.hid hg;clear hg hq
    go_wp2
    go_ret3
    exact⟨pH (by rw[HG.out];rfl) (by rw[HG.out];rfl) (by rw[HG.out];rfl),fb⟩
open Go.RowKit Go.Sort
def mP (o:Op):Bool:=o.k==0&&o.a==0&&o.e==0&&o.c==0&&o.o.size==0&&o.n.size==0
theorem mx (x:Op) (W:World) :
 (binOp .eql 141 (.agg #[.int .i64 x.k,.int .i64 x.a,.int .i64 x.e,.int .i64 x.c,.string x.o,.string x.n]) (.agg #[.int .i64 0,.int .i64 0,.int .i64 0,.int .i64 0,.string ⟨#[]⟩,.string ⟨#[]⟩])).run Tryz.prog W=.ok (.bool (mP x)) W:=by
 unfold mP
 cases h1:(x.k==0)
 all_goals cases h2:(x.a==0)
 all_goals cases h3:(x.e==0)
 all_goals cases h4:(x.c==0)
 all_goals cases h5:(x.o.toList.isEmpty)
 all_goals cases h6:(x.n.toList.isEmpty)
 all_goals
  rw[isEmpty_eq] at h5 h6
  go_simp
  try (simp_all [toList_nil])
end Go.Proofs.YtcfdpfmchchkaaaGreatDoor
