/-
  Chapter 22, plain: lists in the order of their keys, by indexes.
  Chapter 22: the reference's small functions: indexes by numbers, kinds, what came before.
  Chapter 22: the reference's errors of pages, what is next to undo, limits, pages compared.
-/
import Derived.Test.YtcfdpfmchchkaaaGreatDoorRcM
namespace Go.Proofs.YtcfdpfmchchkaaaGreatDoor
set_option maxHeartbeats 1000000
set_option maxRecDepth 4000
set_option linter.unusedVariables false
set_option linter.unusedSimpArgs false
open Go.RowKit
section
variable {α:Type} {κ:α→Int}
def oQ (κ:α→Int) (n:Int):List α→Nat→Int
 | [],_=>-1
 | x::l,k=>if κ x=n then (k:Int) else oQ κ n l (k+1)
theorem qx {n:Int}:∀{l:List α} {k:Nat},oQ κ n l k<0→bV κ l n=none
 | [],_,_=>rfl
 | x::l,k,h=>by
  unfold oQ at h
  split at h
  · omega
  · rename_i hne
    have:=qx h;unfold bV at this ⊢;rw[List.find?_cons,show(κ x==n)=false by simpa using hne];exact this
theorem sB {n:Int}:∀{l:List α} {k:Nat},¬oQ κ n l k<0→∃j,∃hj:j<l.length,oQ κ n l k=((k+j:Nat):Int)∧κ l[j]=n∧bV κ l n=some l[j]
 | [],_,h=>by unfold oQ at h;omega
 | x::l,k,h=>by
  unfold oQ at h ⊢;by_cases he:κ x=n
  · rw[if_pos he]
    refine⟨0,by simp,rfl,he,?_⟩;unfold bV;rw[List.find?_cons,show(κ x==n)=true by simpa using he];rfl
  · rw[if_neg he] at h ⊢
    obtain⟨j,hj,e1,e2,e3⟩:=sB h;refine⟨j+1,by simp;omega,by rw[e1];congr 1;omega,e2,?_⟩;unfold bV at e3 ⊢;rw[List.find?_cons,show(κ x==n)=false by simpa using he];exact e3
theorem r8 {n:Int}:∀{l:List α} {j:Nat} (k:Nat) (hj:j<l.length),(∀i (hi:i<l.length),i<j→κ l[i]≠n)→oQ κ n l k=if κ l[j]=n then ((k+j:Nat):Int) else oQ κ n (l.drop (j+1)) (k+(j+1))
 | [],_,_,hj,_=>by simp at hj
 | x::l,0,k,_,_=>by
  rw[oQ];rfl
 | x::l,j+1,k,hj,h=>by
  have h0:κ x≠n:=h 0 a7 ab;rw[oQ,if_neg h0,r8 (k+1) (j:=j) (by simpa using hj) fun i hi hij=>by have:=h (i+1) (by simpa using hi) ab;simpa using this];simp only[List.getElem_cons_succ,List.drop_succ_cons];rw[show k+1+j=k+(j+1) by omega,show k+1+(j+1)=k+(j+1+1) by omega]
end
open Go.RowKit Go.Sort Go.Shelf
theorem Ag {α:Type} {κ:α→Int} {n:Int} {l:List α} {j:Nat} (hj:j<l.length) (h:∀i (hi:i<l.length),i<j→κ l[i]≠n) (e:κ l[j]=n):oQ κ n l 0=(j:Int):=by
 rw[r8 0 hj h,if_pos e,Nat.zero_add]
theorem me {α:Type} {κ:α→Int} {n:Int}:∀{l:List α} {k:Nat},(∀i (hi:i<l.length),κ l[i]≠n)→oQ κ n l k = -1
 | [],_,_=>rfl
 | x::l,k,h=>by
  have h0:κ x≠n:=h 0 a7;rw[oQ,if_neg h0,me fun i hi=>by have:=h (i+1) (by simpa using hi);simpa using this]
theorem zH (l:List Rcd) (n:Int) (A:Option Addr) (c:Nat) (w:World) (hr:Rd w w.heap.size A (l.flatMap bC)) (hl:l.length≤100000) :
 Calls Tryz.prog 79 #[.slice A l.length c,.int .i64 n] w fun e w'=>e=.returned (.int .i64 (oQ Rcd.l n l 0))∧Below w.heap.size w w':=by
 refine ao (N:=20) Tryz.func79 rfl rfl rfl (fun _ Y=>?_);have Z:=St.init w;refine GO 12 ?_;intro _ Y;refine aY Y Z [0,1] (fun (j:Nat)=>[(5,.int .i64 (j:Nat))]) (fun (j:Nat)=>j≤l.length∧∀i (hi:i<l.length),i<j→Rcd.l l[i]≠n) (fun (j:Nat) L=>L) (fun (j:Nat)=>l.length-j) (0) (⟨Nat.zero_le _,fun k _ h=>absurd h (Nat.not_lt_zero _)⟩) bD (Z) ?_;intro j _ _ Za Y Z;refine GO 9 ?_;intro _ Y;refine ak (Y.ev rfl) (fun Zb=>?_) (fun Zb=>?_)
 ·
  have hlt:j<l.length:=by have:=of_decide_eq_true Zb;omega
  obtain⟨b,o,rfl,hB,_⟩:=hr.opened (aK aB ar ab);refine GO 8 ?_;intro _ Y;refine sv Y (av (i:=j) (sz:=14) Tryz.underlying41 aa (Y.ev rfl) (Y.ev rfl) ab ab rfl) fun _ Y=>?_;refine sv Y (fy 0 (Y.ev rfl)) fun _ Y=>?_;refine sv Y (lx (Y.ev rfl) ((aW aB (Z.rd0 hr) hlt) 0 _ rfl)) fun _ Y=>?_;refine GO 4 ?_;intro _ Y;refine ak (Y.ev rfl) (fun Zc=>?_) (fun Zc=>?_)
  ·
   have hhit:oQ Rcd.l n l 0=(j:Int):=Ag hlt Za.2 (by simpa using Zc);refine GO 12 ?_;intro _ Y;refine aF Y rfl rfl ?_;exact⟨by rw[hhit],Z.below⟩
  ·
   have hne:Rcd.l l[j]≠n:=by simpa using Zc
   refine GO 9 ?_;intro _ Y;exact⟨j+1,ab,⟨hlt,fun k hk hkj=>by rcases Nat.lt_or_eq_of_le (show k≤j by omega) with q | q;exact Za.2 k hk q;subst q;exact hne⟩,Y.re bD,Z⟩
 ·
  have hge:l.length≤j:=by have:=of_decide_eq_false Zb;omega
  have hmi:oQ Rcd.l n l 0 = -1:=me fun k hk=>Za.2 k hk ab;refine GO 11 ?_;intro _ Y;refine aF Y rfl rfl ?_;exact⟨by rw[hmi],Z.below⟩
def cL (l:List Rcd) (i:Nat) (t:Int):Int:=match bh l t i with
 | none=>-1
 | some k=>(k:Int)
theorem lC (l:List Rcd) (i:Nat) (hi:i<l.length) (A:Option Addr) (c:Nat) (w:World) (hr:Rd w w.heap.size A (l.flatMap bC)) (hl:l.length≤100000) :
 Calls Tryz.prog 175 #[.slice A l.length c,.int .i64 (i:Nat)] w fun e w'=>e=.returned (.int .i64 (cL l i l[i].e.t))∧Below w.heap.size w w':=by
 obtain⟨b,o,rfl,hB,_⟩:=hr.opened (aK aB ar ab);refine ao (N:=35) Tryz.func175 rfl rfl rfl (fun _ Y=>?_);have Z:=St.init w;refine GO 14 ?_;intro _ Y;refine aY Y Z [0,1] (fun (j:Nat)=>[(5,.int .i64 ((j:Nat)-1))]) (fun (j:Nat)=>j≤i∧cL l i l[i].e.t=cL l j l[i].e.t) (fun (j:Nat) L=>L) (fun (j:Nat)=>j) (i) (⟨Nat.le_refl _,rfl⟩) bD (Z) ?_;intro j _ _ Zb Y Z;refine GO 7 ?_;intro _ Y;refine ak (Y.ev rfl) (fun Zc=>?_) (fun Zc=>?_)
 ·
  have hj0:0<j:=by have:=of_decide_eq_true Zc;omega
  have hjl:j-1<l.length:=by omega
  have hb:bh l l[i].e.t j=if l[j-1].e.k≠5∧l[j-1].e.t=l[i].e.t then some (j-1) else bh l l[i].e.t (j-1):=by
   have:=rA (t:=l[i].e.t) hjl
   rwa [show j-1+1=j by omega] at this
  refine wp_skip (ag (ai (wp_block (ai ?_))));apply aL Y (fA 21) _ aa
  case h=>
   refine GO 2 ?_;intro _ Y;refine qv Y (fun X hX=>av (i:=j-1) (sz:=14) Tryz.underlying41 aa (Y.ev rfl) (Y.ev rfl) ab ab rfl) fun _ Y=>?_;refine qv Y (fun X hX=>fy 1 (Y.ev rfl)) fun _ Y=>?_;refine qv Y (fun X hX=>fy 0 (Y.ev rfl)) fun _ Y=>?_;refine qv Y (fun X hX=>lx (Y.ev rfl) ((aW aB ((Z.grow hX).rd0 hr) hjl) 1 _ rfl)) fun _ Y=>?_;refine GO 2 ?_;intro _ Y;apply kH Y 19 rfl 13 32
   case ht=>
    intro Zd;refine GO 2 ?_;intro _ Y;refine qy Y (fun X hX=>(av (i:=j-1) (sz:=14) Tryz.underlying41 aa (Y.ev rfl) (Y.ev rfl) ab ab rfl)) fun _ Y=>?_;refine qy Y (fun X hX=>(fy 1 (Y.ev rfl))) fun _ Y=>?_;refine qy Y (fun X hX=>(fy 1 (Y.ev rfl))) fun _ Y=>?_;refine qy Y (fun X hX=>(lx (Y.ev rfl) ((aW aB ((Z.grow hX).rd0 hr) hjl) 2 _ rfl))) fun _ Y=>?_;refine GO 2 ?_;intro _ Y;refine qy Y (fun X hX=>(av (i:=i) (sz:=14) Tryz.underlying41 aa (Y.ev rfl) (Y.ev rfl) ab ab rfl)) fun _ Y=>?_;refine qy Y (fun X hX=>(fy 1 (Y.ev rfl))) fun _ Y=>?_;refine qy Y (fun X hX=>(fy 1 (Y.ev rfl))) fun _ Y=>?_;refine qy Y (fun X hX=>(lx (Y.ev rfl) ((aW aB ((Z.grow hX).rd0 hr) hi) 2 _ rfl))) fun _ Y=>?_;refine GO 1 ?_;intro _ Y;exact aw (Y.midE 12)
   case hf=>
    intro Zd;refine GO 13 ?_;intro _ Y;exact aw ⟨_,Y.midE 12⟩
   case h=>
    intro v42 _ hg32 Y;refine aw ?_;refine aS fun _ Ze Zf=>?_;have Z:=Z.grow Ze;refine sv Y (dW (Y.ev rfl) (Y.ev rfl) hg32 (Y.ev rfl)) fun _ Y=>?_;refine ae (ag ?_);refine ak (Y.ev rfl) (fun Za=>?_) (fun Za=>?_)
    ·
     have hyes:l[j-1].e.k≠5∧l[j-1].e.t=l[i].e.t:=by simpa using Za
     have hR:cL l i l[i].e.t=(j:Int)-1:=by
      rw[Zb.2];unfold cL;rw[hb,if_pos hyes];show((j-1:Nat):Int)=_;omega
     refine GO 12 ?_;intro _ Y;refine aF Y rfl rfl ?_;exact⟨by rw[hR],Z.below⟩
    ·
     have hno:¬(l[j-1].e.k≠5∧l[j-1].e.t=l[i].e.t):=fun h=>by rw[beq_iff_eq.2 h.2] at Za;simp at Za;exact h.1 Za
     refine GO 5 ?_;intro _ Y;refine sv Y (aC (v':=.int .i64 (((j-1:Nat):Int)-1)) (congrArg _ ab) (eo (Y.ev rfl) (Y.ev rfl) ab)) fun _ Y=>?_;refine GO 3 ?_;intro _ Y;exact⟨j-1,ab,⟨by omega,by rw[Zb.2];unfold cL;rw[hb,if_neg hno]⟩,Y.re bD,Z⟩
  case hB=>kernel_rfl
  case hst=>rfl
 ·
  have hj0:j=0:=by have:=of_decide_eq_false Zc;omega
  have hz:cL l i l[i].e.t = -1:=by rw[Zb.2,hj0];rfl
  refine GO 11 ?_;intro _ Y;refine aF Y rfl rfl ?_;exact⟨by rw[hz],Z.below⟩
open Go.RowKit Go.Sort Go.Shelf
theorem gr {l:List Rcd} {i:Nat} {t:Int} (h:0≤cL l i t):∃k,k<i∧cL l i t=(k:Int)∧bh l t i=some k:=by
 unfold cL at h ⊢
 cases hb:bh l t i with
 | none=>rw[hb] at h;simp at h
 | some k=>exact⟨k,(eW hb).1,rfl,rfl⟩
theorem wO {l:List Rcd} {i:Nat} {t:Int} (h:¬0≤cL l i t):cL l i t = -1∧bh l t i=none:=by
 unfold cL at h ⊢
 cases hb:bh l t i with
 | none=>exact⟨rfl,rfl⟩
 | some k=>rw[hb] at h;exact absurd (Int.natCast_nonneg k) h
def CB (l:List Rcd) (k:Int):Bool:=dI l k.toNat != 4
theorem tO (l:List Rcd) (i:Nat) (hi:i<l.length) (A:Option Addr) (c:Nat) (w:World) (hr:Rd w w.heap.size A (l.flatMap bC)) (hl:l.length≤100000)
 (IH:∀k,k<i→∀w,Rd w w.heap.size A (l.flatMap bC)→Calls Tryz.prog 176 #[.slice A l.length c,.int .i64 (k:Nat)] w fun e w'=>e=.returned (.int .i64 (ib l k))∧Below w.heap.size w w') :
 Calls Tryz.prog 176 #[.slice A l.length c,.int .i64 (i:Nat)] w fun e w'=>e=.returned (.int .i64 (ib l i))∧Below w.heap.size w w':=by
 obtain⟨b,o,rfl,hB,_⟩:=hr.opened (aK aB ar ab);have hN:=nC hi;refine ao (N:=44) Tryz.func176 rfl rfl rfl (fun _ Y=>?_);have Z:=St.init w;refine GO 9 ?_;intro _ Y;refine sv Y (av (i:=i) (sz:=14) Tryz.underlying41 aa (Y.ev rfl) (Y.ev rfl) ab ab rfl) fun _ Y=>?_;refine sv (v:=fk l[i]) Y (ah aa aa (Y.ev rfl) (aW aB (Z.rd0 hr) hi)) fun _ Y=>?_;refine na (.agg #[.int .i64 0,.int .i64 0,.int .i64 0,.int .i64 0,.int .i64 0,.int .i64 0,.bool false,.int .i64 0,.int .i64 0,.int .i64 0,.int .i64 0,.string ⟨#[]⟩,.string ⟨#[]⟩,.string ⟨#[]⟩]) Y rfl Z fun b5 _ _ Zh Y Z=>?_;refine sw Y Z 0 fun _ Z=>?_;refine GO 6 ?_;intro _ Y;refine vf Y 0 1 fun _ Y=>?_;refine GO 10 ?_;intro _ Y;refine ak (Y.ev rfl) (fun Zd=>?_) (fun Zd=>?_)
 ·
  rw[if_pos (by simpa using Zd)] at hN;refine GO 10 ?_;intro _ Y;refine aF Y rfl rfl ?_;exact⟨by rw[hN],Z.below⟩
 ·
  rw[if_neg (by simpa using Zd)] at hN;refine GO 6 ?_;intro _ Y;refine ak (Y.ev rfl) (fun Ze=>?_) (fun Ze=>?_)
  ·
   rw[if_pos (by simpa using Ze)] at hN;refine GO 3 ?_;intro _ Y;refine vf Y 3 4 fun _ Y=>?_;refine GO 7 ?_;intro _ Y;refine aF Y rfl rfl ?_;exact⟨by rw[hN],Z.below⟩
  ·
   rw[if_neg (by simpa using Ze)] at hN;refine GO 8 ?_;intro _ Y;refine cT Y rfl Z (lC l i hi _ c _ (Z.rd0 hr) hl) fun _ _ Y Z=>?_;refine GO 8 ?_;intro _ Y;apply aZ (x:=CB l (cL l i l[i].e.t)) Y Z 28 rfl 8 36
   case ht=>
    intro Zb;obtain⟨k,hki,hbk,hbh⟩:=gr (of_decide_eq_true Zb)
    have hkl:k<l.length:=by omega
    have hkk:dI l (cL l i l[i].e.t).toNat=l[k].e.k:=by rw[hbk];exact gE hkl
    refine GO 2 ?_;intro _ Y;refine sy Y (av (i:=k) (sz:=14) Tryz.underlying41 aa (Y.ev rfl) (Y.ev rfl) ab ab rfl) fun _ Y=>?_;refine sy Y (fy 1 (Y.ev rfl)) fun _ Y=>?_;refine sy Y (fy 0 (Y.ev rfl)) fun _ Y=>?_;refine sy Y (lx (Y.ev rfl) ((aW aB (Z.rd0 hr) hkl) 1 _ rfl)) fun _ Y=>?_;refine sy Y (aC (v':=.bool (CB l (cL l i l[i].e.t))) (by unfold CB;rw[hkk]) (jv (Y.ev rfl) (Y.ev rfl))) fun _ Y=>?_;refine GO 1 ?_;intro _ Y;exact ae ⟨Y.midE 7,Z⟩
   case hf=>
    intro Zb;refine GO 8 ?_;intro _ Y;exact ae ⟨Y.midE 7,Z⟩
   case h=>
    rintro a45 Zi ⟨Zf,Zc⟩
    refine ae (ag ?_);refine ak (Zf.ev rfl) (fun Za=>?_) (fun Za=>?_)
    ·
     obtain⟨u1,u2⟩:=Bool.and_eq_true_iff.1 Za;obtain⟨k,hki,hbk,hbh⟩:=gr (of_decide_eq_true u1)
     have hkl:k<l.length:=by omega
     rw[hbh] at hN;simp only[] at hN;rw[if_pos ⟨by unfold CB at u2;rw[hbk] at u2;simpa using u2,hkl⟩] at hN;replace Zf:=Zf.also (t:=6) (v:=.int .i64 (k:Nat)) (by rw[←hbk];rfl);refine GO 4 ?_;intro _ Y;refine cT Y rfl Zc (IH k hki _ (Zc.rd0 hr)) fun _ _ Y Z=>?_;refine GO 5 ?_;intro _ Y;refine aF Y rfl rfl ?_;exact⟨by rw[hN],Z.below⟩
    ·
     have hN2:ib l i=if l[i].e.p≠0 then -1 else 0:=by
      rw[hN];by_cases hb0:0≤cL l i l[i].e.t
      · obtain⟨k,hki,hbk,hbh⟩:=gr hb0
        rw[decide_eq_true hb0,Bool.true_and] at Za;rw[hbh];simp only[];rw[if_neg]
        rintro ⟨q,_⟩
        unfold CB at Za;rw[hbk] at Za;simp at Za;exact q Za
      · rw[(wO hb0).2]
     refine GO 6 ?_;intro _ Y;refine vf Y 2 3 fun _ Y=>?_;refine GO 4 ?_;intro _ Y;refine ak (Y.ev rfl) (fun Zg=>?_) (fun Zg=>?_)
     ·
      rw[if_pos (by simpa using Zg)] at hN2;refine GO 7 ?_;intro _ Y;refine aF Y rfl rfl ?_;exact⟨by rw[hN2],Zc.below⟩
     ·
      rw[if_neg (by simpa using Zg)] at hN2;refine GO 8 ?_;intro _ Y;refine aF Y rfl rfl ?_;exact⟨by rw[hN2],Zc.below⟩
theorem ov (l:List Rcd) (A:Option Addr) (c:Nat) (hl:l.length≤100000):∀n i:Nat,i<n→i<l.length→∀w,Rd w w.heap.size A (l.flatMap bC) →
 Calls Tryz.prog 176 #[.slice A l.length c,.int .i64 (i:Nat)] w fun e w'=>e=.returned (.int .i64 (ib l i))∧Below w.heap.size w w'
 | 0,_,h,_,_,_=>absurd h (Nat.not_lt_zero _)
 | n+1,i,h,hi,w,hr=>tO l i hi A c w hr hl fun k hk w' hr'=>ov l A c hl n k ab ab w' hr'
theorem vB (l:List Rcd) (i:Nat) (hi:i<l.length) (A:Option Addr) (c:Nat) (w:World) (hr:Rd w w.heap.size A (l.flatMap bC)) (hl:l.length≤100000) :
 Calls Tryz.prog 176 #[.slice A l.length c,.int .i64 (i:Nat)] w fun e w'=>e=.returned (.int .i64 (ib l i))∧Below w.heap.size w w':=
 ov l A c hl (i+1) i (Nat.lt_succ_self _) hi w hr
def tE (n:Nat) (a b:Nat):Bool:=!((decide ((n:Int)>a)&&decide ((n:Int)≤b))||decide ((n:Int)>b+2))
def pZ (x:Lge):Bool:=!((decide ((x.d.size:Int)>1010)||decide ((x.o.o.size:Int)>600))||decide ((x.o.n.size:Int)>600))
def Cp (l:List Rcd):Bool:=tE l.length 24 100&&l.all fun x=>pZ x.e
theorem uG {n a b:Nat} (h:tE n a b=true):n≤b+2:=by
 unfold tE at h;rw[Bool.not_eq_true'] at h;have:=of_decide_eq_false (Bool.or_eq_false_iff.1 h).2;omega
theorem BS {l:List Rcd} (h:Cp l=true):l.length≤102∧∀x∈l,FewE x.e:=by
 unfold Cp at h;obtain⟨h1,h2⟩:=Bool.and_eq_true_iff.1 h;refine⟨uG h1,fun x hx=>?_⟩;have h3:=List.all_eq_true.1 h2 x hx;unfold pZ at h3;rw[Bool.not_eq_true'] at h3;obtain⟨u1,u3⟩:=Bool.or_eq_false_iff.1 h3;obtain⟨u1,u2⟩:=Bool.or_eq_false_iff.1 u1;have:=of_decide_eq_false u1;have:=of_decide_eq_false u2;have:=of_decide_eq_false u3;exact⟨by omega,by omega,by omega⟩
theorem r7 (l:List Rcd) (A:Option Addr) (c:Nat) (w:World) (hr:Rd w w.heap.size A (l.flatMap bC)) (hl:l.length≤maxLen) :
 Calls Tryz.prog 23 #[.slice A l.length c] w fun e w'=>e=.returned (.bool (Cp l))∧Below w.heap.size w w':=by
 refine ao (N:=47) Tryz.func23 rfl rfl rfl (fun _ Y=>?_);have Z:=St.init w;refine GO 12 ?_;intro _ Y;apply aZ (x:=decide ((l.length:Int)≤100)) Y Z 8 rfl 4 12
 case ht=>
  intro Zl;refine GO 4 ?_;intro _ Y;exact ae ⟨Y.midE 3,Z⟩
 case hf=>
  intro Zl;refine GO 4 ?_;intro _ Y;exact ae ⟨Y.midE 3,Z⟩
 case h=>
  rintro a14 Zo ⟨Zp,Za⟩
  refine GO 1 ?_;intro _ Y;apply bn (x:=decide ((l.length:Int)>102)) Y Za 13 rfl 4 17
  case hf=>
   intro Zb;refine GO 4 ?_;intro _ Y;exact ae ⟨Y.midE 3,Za⟩
  case ht=>
   intro Zb;refine GO 4 ?_;intro _ Y;exact ae ⟨Y.midE 3,Za⟩
  case h=>
   rintro a24 Zq ⟨Zm,Zc⟩
   refine ae (ag ?_);refine ak (Zm.ev rfl) (fun Zd=>?_) (fun Zd=>?_)
   ·
    have hn:tE l.length 24 100=false:=by unfold tE;exact(Bool.not_eq_false' _).mpr Zd
    refine GO 7 ?_;intro _ Y;refine aF Y rfl rfl ?_;exact⟨by unfold Cp;rw[hn];rfl,Zc.below⟩
   ·
    have hn:tE l.length 24 100=true:=by unfold tE;exact(Bool.not_eq_true' _).mpr Zd
    have hnl:=uG hn;refine GO 9 ?_;intro _ Y;refine aY Y Zc [0] (fun (j:Nat)=>[(3,.int .i64 (j:Nat))]) (fun (j:Nat)=>j≤l.length∧∀k (hk:k<l.length),k<j→pZ l[k].e=true) (fun (j:Nat) L=>L) (fun (j:Nat)=>l.length-j) (0) (⟨Nat.zero_le _,fun k _ h=>absurd h (Nat.not_lt_zero _)⟩) bD (Zc) ?_;intro j _ _ Zj Y Z;refine GO 9 ?_;intro _ Y;refine ak (Y.ev rfl) (fun Ze=>?_) (fun Ze=>?_)
    ·
     have hlt:j<l.length:=by have:=of_decide_eq_true Ze;omega
     obtain⟨b,o,rfl,hB,_⟩:=hr.opened (aK aB ar ab);refine GO 8 ?_;intro _ Y;refine sv Y (av (i:=j) (sz:=14) Tryz.underlying41 aa (Y.ev rfl) (Y.ev rfl) ab ab rfl) fun _ Y=>?_;refine sv Y (fy 1 (Y.ev rfl)) fun _ Y=>?_;refine sv (v:=de l[j].e) Y (ah aa aa (Y.ev rfl) (en (Z.rd0 hr) hlt)) fun _ Y=>?_;refine na (.agg #[.int .i64 0,.int .i64 0,.int .i64 0,.int .i64 0,.int .i64 0,.bool false,.int .i64 0,.int .i64 0,.int .i64 0,.int .i64 0,.string ⟨#[]⟩,.string ⟨#[]⟩,.string ⟨#[]⟩]) Y rfl Z fun b4 _ _ Zr Y Z=>?_;refine sw Y Z 0 fun _ Z=>?_;refine pb ?_;refine vf Y 12 12 fun _ Y=>?_;refine GO 4 ?_;intro _ Y;apply bn (x:=decide ((l[j].e.o.o.size:Int)>600)) Y Z 33 rfl 6 39
     case hf=>
      intro Zf;refine GO 1 ?_;intro _ Y;refine sy Y (fx 4 10 (Y.ev rfl)) fun _ Y=>?_;refine GO 4 ?_;intro _ Y;exact ae ⟨Y.midE 5,Z⟩
     case ht=>
      intro Zf;refine GO 6 ?_;intro _ Y;exact ae ⟨Y.midE 5,Z⟩
     case h=>
      rintro a56 Zs ⟨Zt,Zg⟩
      refine GO 1 ?_;intro _ Y;apply bn (x:=decide ((l[j].e.o.n.size:Int)>600)) Y Zg 40 rfl 6 46
      case hf=>
       intro Zh;refine GO 1 ?_;intro _ Y;refine sy Y (fx 5 11 (Y.ev rfl)) fun _ Y=>?_;refine GO 4 ?_;intro _ Y;exact ae ⟨Y.midE 5,Zg⟩
      case ht=>
       intro Zh;refine GO 6 ?_;intro _ Y;exact ae ⟨Y.midE 5,Zg⟩
      case h=>
       rintro a70 Zu ⟨Zn,Zk⟩
       refine ae (ag ?_);refine ak (Zn.ev rfl) (fun Zi=>?_) (fun Zi=>?_)
       ·
        have hz:pZ l[j].e=false:=by unfold pZ;exact(Bool.not_eq_false' _).mpr Zi
        have hz2:(l.all fun x=>pZ x.e)=false:=List.all_eq_false.2 ⟨l[j],List.getElem_mem hlt,by rw[hz];decide⟩;refine GO 11 ?_;intro _ Y;refine aF Y rfl rfl ?_;exact⟨by unfold Cp;rw[hn,hz2];rfl,Zk.below⟩
       ·
        have hz:pZ l[j].e=true:=by unfold pZ;exact(Bool.not_eq_true' _).mpr Zi
        refine GO 9 ?_;intro _ Y;exact⟨j+1,ab,⟨hlt,fun k hk hkj=>by rcases Nat.lt_or_eq_of_le (show k≤j by omega) with q | q;exact Zj.2 k hk q;subst q;exact hz⟩,Y.re bD,Zk.sub (.cons _ .slnil)⟩
    ·
     have hge:l.length≤j:=by have:=of_decide_eq_false Ze;omega
     refine GO 11 ?_;intro _ Y;refine aF Y rfl rfl ?_
     have hz2:(l.all fun x=>pZ x.e)=true:=List.all_eq_true.2 fun x hx=>by obtain⟨k,hk,rfl⟩:=List.getElem_of_mem hx;exact Zj.2 k hk ab
     exact⟨by unfold Cp;rw[hn,hz2];rfl,Z.below⟩
end Go.Proofs.YtcfdpfmchchkaaaGreatDoor
