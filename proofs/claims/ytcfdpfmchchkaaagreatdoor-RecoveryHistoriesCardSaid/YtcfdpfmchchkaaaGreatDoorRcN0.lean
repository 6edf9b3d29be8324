/-
  Chapter 22, plain: lists in the order of their keys, by indexes.
  Chapter 22: the reference's small functions: indexes by numbers, kinds, what came before.
  Chapter 22: the reference's errors of pages, what is next to undo, limits, pages compared.
-/
import Derived.Test.YtcfdpfmchchkaaaGreatDoorRcM
namespace Go.Proofs.YtcfdpfmchchkaaaGreatDoor
set_option maxHeartbeats 1000000
set_option maxRecDepth 4000
set_option linter.unusedVariables false
set_option linter.unusedSimpArgs false
open Go.RowKit
section
variable {α:Type} {κ:α→Int}
def oP (κ:α→Int) (n:Int):List α→Nat→Int
 | [],_=>-1
 | x::l,k=>if κ x=n then (k:Int) else oP κ n l (k+1)
theorem qH {n:Int}:∀{l:List α} {k:Nat},oP κ n l k<0→bP κ l n=none
 | [],_,_=>rfl
 | x::l,k,h=>by
  unfold oP at h
  split at h
  · omega
  · rename_i hne
    have:=qH h;unfold bP at this ⊢;rw[List.find?_cons,show(κ x==n)=false by simpa using hne];exact this
theorem sA {n:Int}:∀{l:List α} {k:Nat},¬oP κ n l k<0→∃j,∃hj:j<l.length,oP κ n l k=((k+j:Nat):Int)∧κ l[j]=n∧bP κ l n=some l[j]
 | [],_,h=>by unfold oP at h;omega
 | x::l,k,h=>by
  unfold oP at h ⊢;by_cases he:κ x=n
  · rw[if_pos he]
    refine⟨0,by simp,rfl,he,?_⟩;unfold bP;rw[List.find?_cons,show(κ x==n)=true by simpa using he];rfl
  · rw[if_neg he] at h ⊢
    obtain⟨j,hj,e1,e2,e3⟩:=sA h;refine⟨j+1,by simp;omega,by rw[e1];congr 1;omega,e2,?_⟩;unfold bP at e3 ⊢;rw[List.find?_cons,show(κ x==n)=false by simpa using he];exact e3
theorem rZ {n:Int}:∀{l:List α} {j:Nat} (k:Nat) (hj:j<l.length),(∀i (hi:i<l.length),i<j→κ l[i]≠n)→oP κ n l k=if κ l[j]=n then ((k+j:Nat):Int) else oP κ n (l.drop (j+1)) (k+(j+1))
 | [],_,_,hj,_=>by simp at hj
 | x::l,0,k,_,_=>by
  rw[oP];rfl
 | x::l,j+1,k,hj,h=>by
  have h0:κ x≠n:=h 0 a7 ab;rw[oP,if_neg h0,rZ (k+1) (j:=j) (by simpa using hj) fun i hi hij=>by have:=h (i+1) (by simpa using hi) ab;simpa using this];simp only[List.getElem_cons_succ,List.drop_succ_cons];rw[show k+1+j=k+(j+1) by omega,show k+1+(j+1)=k+(j+1+1) by omega]
end
open Go.RowKit Go.Sort Go.Shelf
theorem AM {α:Type} {κ:α→Int} {n:Int} {l:List α} {j:Nat} (hj:j<l.length) (h:∀i (hi:i<l.length),i<j→κ l[i]≠n) (e:κ l[j]=n):oP κ n l 0=(j:Int):=by
 rw[rZ 0 hj h,if_pos e,Nat.zero_add]
theorem mU {α:Type} {κ:α→Int} {n:Int}:∀{l:List α} {k:Nat},(∀i (hi:i<l.length),κ l[i]≠n)→oP κ n l k = -1
 | [],_,_=>rfl
 | x::l,k,h=>by
  have h0:κ x≠n:=h 0 a7;rw[oP,if_neg h0,mU fun i hi=>by have:=h (i+1) (by simpa using hi);simpa using this]
theorem Be (l:List Rcd) (n:Int) (A:Option Addr) (c:Nat) (w:World) (hr:Rd w w.heap.size A (l.flatMap bA)) (hl:l.length≤100000) :
 Calls Tryz.prog 79 #[.slice A l.length c,.int .i64 n] w fun e w'=>e=.returned (.int .i64 (oP Rcd.l n l 0))∧Below w.heap.size w w':=by
 refine al (N:=20) Tryz.func79 rfl rfl rfl (fun _ Y=>?_);have Z:=St.init w;refine GO 12 ?_;intro _ Y;refine aY Y Z [0,1] (fun (j:Nat)=>[(5,.int .i64 (j:Nat))]) (fun (j:Nat)=>j≤l.length∧∀i (hi:i<l.length),i<j→Rcd.l l[i]≠n) (fun (j:Nat) L=>L) (fun (j:Nat)=>l.length-j) (0) (⟨Nat.zero_le _,fun k _ h=>absurd h (Nat.not_lt_zero _)⟩) bz (Z) ?_;intro j _ _ Za Y Z;refine GO 9 ?_;intro _ Y;refine ak (Y.ev rfl) (fun Zb=>?_) (fun Zb=>?_)
 ·
  have hlt:j<l.length:=by have:=of_decide_eq_true Zb;omega
  obtain⟨b,o,rfl,hB,_⟩:=hr.opened (aK aB aq ab);refine GO 8 ?_;intro _ Y;refine sv Y (au (i:=j) (sz:=14) Tryz.underlying41 aa (Y.ev rfl) (Y.ev rfl) ab ab rfl) fun _ Y=>?_;refine sv Y (fy 0 (Y.ev rfl)) fun _ Y=>?_;refine sv Y (lx (Y.ev rfl) ((aW aB (Z.rd0 hr) hlt) 0 _ rfl)) fun _ Y=>?_;refine GO 4 ?_;intro _ Y;refine ak (Y.ev rfl) (fun Zc=>?_) (fun Zc=>?_)
  ·
   have hhit:oP Rcd.l n l 0=(j:Int):=AM hlt Za.2 (by simpa using Zc);refine GO 12 ?_;intro _ Y;refine aD Y rfl rfl ?_;exact⟨by rw[hhit],Z.below⟩
  ·
   have hne:Rcd.l l[j]≠n:=by simpa using Zc
   refine GO 9 ?_;intro _ Y;exact⟨j+1,ab,⟨hlt,fun k hk hkj=>by rcases Nat.lt_or_eq_of_le (show k≤j by omega) with q | q;exact Za.2 k hk q;subst q;exact hne⟩,Y.re bz,Z⟩
 ·
  have hge:l.length≤j:=by have:=of_decide_eq_false Zb;omega
  have hmi:oP Rcd.l n l 0 = -1:=mU fun k hk=>Za.2 k hk ab;refine GO 11 ?_;intro _ Y;refine aD Y rfl rfl ?_;exact⟨by rw[hmi],Z.below⟩
def cF (l:List Rcd) (i:Nat) (t:Int):Int:=match bj l t i with
 | none=>-1
 | some k=>(k:Int)
theorem lB (l:List Rcd) (i:Nat) (hi:i<l.length) (A:Option Addr) (c:Nat) (w:World) (hr:Rd w w.heap.size A (l.flatMap bA)) (hl:l.length≤100000) :
 Calls Tryz.prog 175 #[.slice A l.length c,.int .i64 (i:Nat)] w fun e w'=>e=.returned (.int .i64 (cF l i l[i].e.t))∧Below w.heap.size w w':=by
 obtain⟨b,o,rfl,hB,_⟩:=hr.opened (aK aB aq ab);refine al (N:=35) Tryz.func175 rfl rfl rfl (fun _ Y=>?_);have Z:=St.init w;refine GO 14 ?_;intro _ Y;refine aY Y Z [0,1] (fun (j:Nat)=>[(5,.int .i64 ((j:Nat)-1))]) (fun (j:Nat)=>j≤i∧cF l i l[i].e.t=cF l j l[i].e.t) (fun (j:Nat) L=>L) (fun (j:Nat)=>j) (i) (⟨Nat.le_refl _,rfl⟩) bz (Z) ?_;intro j _ _ Zb Y Z;refine GO 7 ?_;intro _ Y;refine ak (Y.ev rfl) (fun Zc=>?_) (fun Zc=>?_)
 ·
  have hj0:0<j:=by have:=of_decide_eq_true Zc;omega
  have hjl:j-1<l.length:=by omega
  have hb:bj l l[i].e.t j=if l[j-1].e.k≠5∧l[j-1].e.t=l[i].e.t then some (j-1) else bj l l[i].e.t (j-1):=by
   have:=qD (t:=l[i].e.t) hjl
   rwa [show j-1+1=j by omega] at this
  refine wp_skip (ag (ah (wp_block (ah ?_))));apply aH Y (eZ 21) _ aa
  case h=>
   refine GO 2 ?_;intro _ Y;refine qv Y (fun X hX=>au (i:=j-1) (sz:=14) Tryz.underlying41 aa (Y.ev rfl) (Y.ev rfl) ab ab rfl) fun _ Y=>?_;refine qv Y (fun X hX=>fy 1 (Y.ev rfl)) fun _ Y=>?_;refine qv Y (fun X hX=>fy 0 (Y.ev rfl)) fun _ Y=>?_;refine qv Y (fun X hX=>lx (Y.ev rfl) ((aW aB ((Z.grow hX).rd0 hr) hjl) 1 _ rfl)) fun _ Y=>?_;refine GO 2 ?_;intro _ Y;apply ln Y 19 rfl 13 32
   case ht=>
    intro Zd;refine GO 2 ?_;intro _ Y;refine qy Y (fun X hX=>(au (i:=j-1) (sz:=14) Tryz.underlying41 aa (Y.ev rfl) (Y.ev rfl) ab ab rfl)) fun _ Y=>?_;refine qy Y (fun X hX=>(fy 1 (Y.ev rfl))) fun _ Y=>?_;refine qy Y (fun X hX=>(fy 1 (Y.ev rfl))) fun _ Y=>?_;refine qy Y (fun X hX=>(lx (Y.ev rfl) ((aW aB ((Z.grow hX).rd0 hr) hjl) 2 _ rfl))) fun _ Y=>?_;refine GO 2 ?_;intro _ Y;refine qy Y (fun X hX=>(au (i:=i) (sz:=14) Tryz.underlying41 aa (Y.ev rfl) (Y.ev rfl) ab ab rfl)) fun _ Y=>?_;refine qy Y (fun X hX=>(fy 1 (Y.ev rfl))) fun _ Y=>?_;refine qy Y (fun X hX=>(fy 1 (Y.ev rfl))) fun _ Y=>?_;refine qy Y (fun X hX=>(lx (Y.ev rfl) ((aW aB ((Z.grow hX).rd0 hr) hi) 2 _ rfl))) fun _ Y=>?_;refine GO 1 ?_;intro _ Y;exact av (Y.midE 12)
   case hf=>
    intro Zd;refine GO 13 ?_;intro _ Y;exact av ⟨_,Y.midE 12⟩
   case h=>
    intro v42 _ hg32 Y;refine av ?_;refine aP fun _ Ze Zf=>?_;have Z:=Z.grow Ze;refine sv Y (dQ (Y.ev rfl) (Y.ev rfl) hg32 (Y.ev rfl)) fun _ Y=>?_;refine ae (ag ?_);refine ak (Y.ev rfl) (fun Za=>?_) (fun Za=>?_)
    ·
     have hyes:l[j-1].e.k≠5∧l[j-1].e.t=l[i].e.t:=by simpa using Za
     have hR:cF l i l[i].e.t=(j:Int)-1:=by
      rw[Zb.2];unfold cF;rw[hb,if_pos hyes];show((j-1:Nat):Int)=_;omega
     refine GO 12 ?_;intro _ Y;refine aD Y rfl rfl ?_;exact⟨by rw[hR],Z.below⟩
    ·
     have hno:¬(l[j-1].e.k≠5∧l[j-1].e.t=l[i].e.t):=fun h=>by rw[beq_iff_eq.2 h.2] at Za;simp at Za;exact h.1 Za
     refine GO 5 ?_;intro _ Y;refine sv Y (aw (v':=.int .i64 (((j-1:Nat):Int)-1)) (congrArg _ ab) (ek (Y.ev rfl) (Y.ev rfl) ab)) fun _ Y=>?_;refine GO 3 ?_;intro _ Y;exact⟨j-1,ab,⟨by omega,by rw[Zb.2];unfold cF;rw[hb,if_neg hno]⟩,Y.re bz,Z⟩
  case hB=>kernel_rfl
  case hst=>rfl
 ·
  have hj0:j=0:=by have:=of_decide_eq_false Zc;omega
  have hz:cF l i l[i].e.t = -1:=by rw[Zb.2,hj0];rfl
  refine GO 11 ?_;intro _ Y;refine aD Y rfl rfl ?_;exact⟨by rw[hz],Z.below⟩
open Go.RowKit Go.Sort Go.Shelf
theorem gj {l:List Rcd} {i:Nat} {t:Int} (h:0≤cF l i t):∃k,k<i∧cF l i t=(k:Int)∧bj l t i=some k:=by
 unfold cF at h ⊢
 cases hb:bj l t i with
 | none=>rw[hb] at h;simp at h
 | some k=>exact⟨k,(eO hb).1,rfl,rfl⟩
theorem uX {l:List Rcd} {i:Nat} {t:Int} (h:¬0≤cF l i t):cF l i t = -1∧bj l t i=none:=by
 unfold cF at h ⊢
 cases hb:bj l t i with
 | none=>exact⟨rfl,rfl⟩
 | some k=>rw[hb] at h;exact absurd (Int.natCast_nonneg k) h
def CG (l:List Rcd) (k:Int):Bool:=dD l k.toNat != 4
theorem tD (l:List Rcd) (i:Nat) (hi:i<l.length) (A:Option Addr) (c:Nat) (w:World) (hr:Rd w w.heap.size A (l.flatMap bA)) (hl:l.length≤100000)
 (IH:∀k,k<i→∀w,Rd w w.heap.size A (l.flatMap bA)→Calls Tryz.prog 176 #[.slice A l.length c,.int .i64 (k:Nat)] w fun e w'=>e=.returned (.int .i64 (gN l k))∧Below w.heap.size w w') :
 Calls Tryz.prog 176 #[.slice A l.length c,.int .i64 (i:Nat)] w fun e w'=>e=.returned (.int .i64 (gN l i))∧Below w.heap.size w w':=by
 obtain⟨b,o,rfl,hB,_⟩:=hr.opened (aK aB aq ab);have hN:=mV hi;refine al (N:=44) Tryz.func176 rfl rfl rfl (fun _ Y=>?_);have Z:=St.init w;refine GO 9 ?_;intro _ Y;refine sv Y (au (i:=i) (sz:=14) Tryz.underlying41 aa (Y.ev rfl) (Y.ev rfl) ab ab rfl) fun _ Y=>?_;refine sv (v:=ff l[i]) Y (ai aa aa (Y.ev rfl) (aW aB (Z.rd0 hr) hi)) fun _ Y=>?_;refine na (.agg #[.int .i64 0,.int .i64 0,.int .i64 0,.int .i64 0,.int .i64 0,.int .i64 0,.bool false,.int .i64 0,.int .i64 0,.int .i64 0,.int .i64 0,.string ⟨#[]⟩,.string ⟨#[]⟩,.string ⟨#[]⟩]) Y rfl Z fun b5 _ _ Zh Y Z=>?_;refine sw Y Z 0 fun _ Z=>?_;refine GO 6 ?_;intro _ Y;refine vf Y 0 1 fun _ Y=>?_;refine GO 10 ?_;intro _ Y;refine ak (Y.ev rfl) (fun Zd=>?_) (fun Zd=>?_)
 ·
  rw[if_pos (by simpa using Zd)] at hN;refine GO 10 ?_;intro _ Y;refine aD Y rfl rfl ?_;exact⟨by rw[hN],Z.below⟩
 ·
  rw[if_neg (by simpa using Zd)] at hN;refine GO 6 ?_;intro _ Y;refine ak (Y.ev rfl) (fun Ze=>?_) (fun Ze=>?_)
  ·
   rw[if_pos (by simpa using Ze)] at hN;refine GO 3 ?_;intro _ Y;refine vf Y 3 4 fun _ Y=>?_;refine GO 7 ?_;intro _ Y;refine aD Y rfl rfl ?_;exact⟨by rw[hN],Z.below⟩
  ·
   rw[if_neg (by simpa using Ze)] at hN;refine GO 8 ?_;intro _ Y;refine cE Y rfl Z (lB l i hi _ c _ (Z.rd0 hr) hl) fun _ _ Y Z=>?_;refine GO 8 ?_;intro _ Y;apply aZ (x:=CG l (cF l i l[i].e.t)) Y Z 28 rfl 8 36
   case ht=>
    intro Zb;obtain⟨k,hki,hbk,hbh⟩:=gj (of_decide_eq_true Zb)
    have hkl:k<l.length:=by omega
    have hkk:dD l (cF l i l[i].e.t).toNat=l[k].e.k:=by rw[hbk];exact gi hkl
    refine GO 2 ?_;intro _ Y;refine sy Y (au (i:=k) (sz:=14) Tryz.underlying41 aa (Y.ev rfl) (Y.ev rfl) ab ab rfl) fun _ Y=>?_;refine sy Y (fy 1 (Y.ev rfl)) fun _ Y=>?_;refine sy Y (fy 0 (Y.ev rfl)) fun _ Y=>?_;refine sy Y (lx (Y.ev rfl) ((aW aB (Z.rd0 hr) hkl) 1 _ rfl)) fun _ Y=>?_;refine sy Y (aw (v':=.bool (CG l (cF l i l[i].e.t))) (by unfold CG;rw[hkk]) (iE (Y.ev rfl) (Y.ev rfl))) fun _ Y=>?_;refine GO 1 ?_;intro _ Y;exact ae ⟨Y.midE 7,Z⟩
   case hf=>
    intro Zb;refine GO 8 ?_;intro _ Y;exact ae ⟨Y.midE 7,Z⟩
   case h=>
    rintro a45 Zi ⟨Zf,Zc⟩
    refine ae (ag ?_);refine ak (Zf.ev rfl) (fun Za=>?_) (fun Za=>?_)
    ·
     obtain⟨u1,u2⟩:=Bool.and_eq_true_iff.1 Za;obtain⟨k,hki,hbk,hbh⟩:=gj (of_decide_eq_true u1)
     have hkl:k<l.length:=by omega
     rw[hbh] at hN;simp only[] at hN;rw[if_pos ⟨by unfold CG at u2;rw[hbk] at u2;simpa using u2,hkl⟩] at hN;replace Zf:=Zf.also (t:=6) (v:=.int .i64 (k:Nat)) (by rw[←hbk];rfl);refine GO 4 ?_;intro _ Y;refine cE Y rfl Zc (IH k hki _ (Zc.rd0 hr)) fun _ _ Y Z=>?_;refine GO 5 ?_;intro _ Y;refine aD Y rfl rfl ?_;exact⟨by rw[hN],Z.below⟩
    ·
     have hN2:gN l i=if l[i].e.p≠0 then -1 else 0:=by
      rw[hN];by_cases hb0:0≤cF l i l[i].e.t
      · obtain⟨k,hki,hbk,hbh⟩:=gj hb0
        rw[decide_eq_true hb0,Bool.true_and] at Za;rw[hbh];simp only[];rw[if_neg]
        rintro ⟨q,_⟩
        unfold CG at Za;rw[hbk] at Za;simp at Za;exact q Za
      · rw[(uX hb0).2]
     refine GO 6 ?_;intro _ Y;refine vf Y 2 3 fun _ Y=>?_;refine GO 4 ?_;intro _ Y;refine ak (Y.ev rfl) (fun Zg=>?_) (fun Zg=>?_)
     ·
      rw[if_pos (by simpa using Zg)] at hN2;refine GO 7 ?_;intro _ Y;refine aD Y rfl rfl ?_;exact⟨by rw[hN2],Zc.below⟩
     ·
      rw[if_neg (by simpa using Zg)] at hN2;refine GO 8 ?_;intro _ Y;refine aD Y rfl rfl ?_;exact⟨by rw[hN2],Zc.below⟩
theorem o4 (l:List Rcd) (A:Option Addr) (c:Nat) (hl:l.length≤100000):∀n i:Nat,i<n→i<l.length→∀w,Rd w w.heap.size A (l.flatMap bA) →
 Calls Tryz.prog 176 #[.slice A l.length c,.int .i64 (i:Nat)] w fun e w'=>e=.returned (.int .i64 (gN l i))∧Below w.heap.size w w'
 | 0,_,h,_,_,_=>absurd h (Nat.not_lt_zero _)
 | n+1,i,h,hi,w,hr=>tD l i hi A c w hr hl fun k hk w' hr'=>o4 l A c hl n k ab ab w' hr'
theorem wM (l:List Rcd) (i:Nat) (hi:i<l.length) (A:Option Addr) (c:Nat) (w:World) (hr:Rd w w.heap.size A (l.flatMap bA)) (hl:l.length≤100000) :
 Calls Tryz.prog 176 #[.slice A l.length c,.int .i64 (i:Nat)] w fun e w'=>e=.returned (.int .i64 (gN l i))∧Below w.heap.size w w':=
 o4 l A c hl (i+1) i (Nat.lt_succ_self _) hi w hr
def sX (n:Nat) (a b:Nat):Bool:=!((decide ((n:Int)>a)&&decide ((n:Int)≤b))||decide ((n:Int)>b+2))
def pR (x:Lge):Bool:=!((decide ((x.d.size:Int)>1010)||decide ((x.o.o.size:Int)>600))||decide ((x.o.n.size:Int)>600))
def Cp (l:List Rcd):Bool:=sX l.length 24 100&&l.all fun x=>pR x.e
theorem uu {n a b:Nat} (h:sX n a b=true):n≤b+2:=by
 unfold sX at h;rw[Bool.not_eq_true'] at h;have:=of_decide_eq_false (Bool.or_eq_false_iff.1 h).2;omega
theorem Cc {l:List Rcd} (h:Cp l=true):l.length≤102∧∀x∈l,FewE x.e:=by
 unfold Cp at h;obtain⟨h1,h2⟩:=Bool.and_eq_true_iff.1 h;refine⟨uu h1,fun x hx=>?_⟩;have h3:=List.all_eq_true.1 h2 x hx;unfold pR at h3;rw[Bool.not_eq_true'] at h3;obtain⟨u1,u3⟩:=Bool.or_eq_false_iff.1 h3;obtain⟨u1,u2⟩:=Bool.or_eq_false_iff.1 u1;have:=of_decide_eq_false u1;have:=of_decide_eq_false u2;have:=of_decide_eq_false u3;exact⟨by omega,by omega,by omega⟩
theorem sf (l:List Rcd) (A:Option Addr) (c:Nat) (w:World) (hr:Rd w w.heap.size A (l.flatMap bA)) (hl:l.length≤maxLen) :
 Calls Tryz.prog 23 #[.slice A l.length c] w fun e w'=>e=.returned (.bool (Cp l))∧Below w.heap.size w w':=by
 refine al (N:=47) Tryz.func23 rfl rfl rfl (fun _ Y=>?_);have Z:=St.init w;refine GO 12 ?_;intro _ Y;apply aZ (x:=decide ((l.length:Int)≤100)) Y Z 8 rfl 4 12
 case ht=>
  intro Zl;refine GO 4 ?_;intro _ Y;exact ae ⟨Y.midE 3,Z⟩
 case hf=>
  intro Zl;refine GO 4 ?_;intro _ Y;exact ae ⟨Y.midE 3,Z⟩
 case h=>
  rintro a14 Zo ⟨Zp,Za⟩
  refine GO 1 ?_;intro _ Y;apply bm (x:=decide ((l.length:Int)>102)) Y Za 13 rfl 4 17
  case hf=>
   intro Zb;refine GO 4 ?_;intro _ Y;exact ae ⟨Y.midE 3,Za⟩
  case ht=>
   intro Zb;refine GO 4 ?_;intro _ Y;exact ae ⟨Y.midE 3,Za⟩
  case h=>
   rintro a24 Zq ⟨Zm,Zc⟩
   refine ae (ag ?_);refine ak (Zm.ev rfl) (fun Zd=>?_) (fun Zd=>?_)
   ·
    have hn:sX l.length 24 100=false:=by unfold sX;exact(Bool.not_eq_false' _).mpr Zd
    refine GO 7 ?_;intro _ Y;refine aD Y rfl rfl ?_;exact⟨by unfold Cp;rw[hn];rfl,Zc.below⟩
   ·
    have hn:sX l.length 24 100=true:=by unfold sX;exact(Bool.not_eq_true' _).mpr Zd
    have hnl:=uu hn;refine GO 9 ?_;intro _ Y;refine aY Y Zc [0] (fun (j:Nat)=>[(3,.int .i64 (j:Nat))]) (fun (j:Nat)=>j≤l.length∧∀k (hk:k<l.length),k<j→pR l[k].e=true) (fun (j:Nat) L=>L) (fun (j:Nat)=>l.length-j) (0) (⟨Nat.zero_le _,fun k _ h=>absurd h (Nat.not_lt_zero _)⟩) bz (Zc) ?_;intro j _ _ Zj Y Z;refine GO 9 ?_;intro _ Y;refine ak (Y.ev rfl) (fun Ze=>?_) (fun Ze=>?_)
    ·
     have hlt:j<l.length:=by have:=of_decide_eq_true Ze;omega
     obtain⟨b,o,rfl,hB,_⟩:=hr.opened (aK aB aq ab);refine GO 8 ?_;intro _ Y;refine sv Y (au (i:=j) (sz:=14) Tryz.underlying41 aa (Y.ev rfl) (Y.ev rfl) ab ab rfl) fun _ Y=>?_;refine sv Y (fy 1 (Y.ev rfl)) fun _ Y=>?_;refine sv (v:=cY l[j].e) Y (ai aa aa (Y.ev rfl) (el (Z.rd0 hr) hlt)) fun _ Y=>?_;refine na (.agg #[.int .i64 0,.int .i64 0,.int .i64 0,.int .i64 0,.int .i64 0,.bool false,.int .i64 0,.int .i64 0,.int .i64 0,.int .i64 0,.string ⟨#[]⟩,.string ⟨#[]⟩,.string ⟨#[]⟩]) Y rfl Z fun b4 _ _ Zr Y Z=>?_;refine sw Y Z 0 fun _ Z=>?_;refine pk ?_;refine vf Y 12 12 fun _ Y=>?_;refine GO 4 ?_;intro _ Y;apply bm (x:=decide ((l[j].e.o.o.size:Int)>600)) Y Z 33 rfl 6 39
     case hf=>
      intro Zf;refine GO 1 ?_;intro _ Y;refine sy Y (fx 4 10 (Y.ev rfl)) fun _ Y=>?_;refine GO 4 ?_;intro _ Y;exact ae ⟨Y.midE 5,Z⟩
     case ht=>
      intro Zf;refine GO 6 ?_;intro _ Y;exact ae ⟨Y.midE 5,Z⟩
     case h=>
      rintro a56 Zs ⟨Zt,Zg⟩
      refine GO 1 ?_;intro _ Y;apply bm (x:=decide ((l[j].e.o.n.size:Int)>600)) Y Zg 40 rfl 6 46
      case hf=>
       intro Zh;refine GO 1 ?_;intro _ Y;refine sy Y (fx 5 11 (Y.ev rfl)) fun _ Y=>?_;refine GO 4 ?_;intro _ Y;exact ae ⟨Y.midE 5,Zg⟩
      case ht=>
       intro Zh;refine GO 6 ?_;intro _ Y;exact ae ⟨Y.midE 5,Zg⟩
      case h=>
       rintro a70 Zu ⟨Zn,Zk⟩
       refine ae (ag ?_);refine ak (Zn.ev rfl) (fun Zi=>?_) (fun Zi=>?_)
       ·
        have hz:pR l[j].e=false:=by unfold pR;exact(Bool.not_eq_false' _).mpr Zi
        have hz2:(l.all fun x=>pR x.e)=false:=List.all_eq_false.2 ⟨l[j],List.getElem_mem hlt,by rw[hz];decide⟩;refine GO 11 ?_;intro _ Y;refine aD Y rfl rfl ?_;exact⟨by unfold Cp;rw[hn,hz2];rfl,Zk.below⟩
       ·
        have hz:pR l[j].e=true:=by unfold pR;exact(Bool.not_eq_true' _).mpr Zi
        refine GO 9 ?_;intro _ Y;exact⟨j+1,ab,⟨hlt,fun k hk hkj=>by rcases Nat.lt_or_eq_of_le (show k≤j by omega) with q | q;exact Zj.2 k hk q;subst q;exact hz⟩,Y.re bz,Zk.sub (.cons _ .slnil)⟩
    ·
     have hge:l.length≤j:=by have:=of_decide_eq_false Ze;omega
     refine GO 11 ?_;intro _ Y;refine aD Y rfl rfl ?_
     have hz2:(l.all fun x=>pR x.e)=true:=List.all_eq_true.2 fun x hx=>by obtain⟨k,hk,rfl⟩:=List.getElem_of_mem hx;exact Zj.2 k hk ab
     exact⟨by unfold Cp;rw[hn,hz2];rfl,Z.below⟩
end Go.Proofs.YtcfdpfmchchkaaaGreatDoor
