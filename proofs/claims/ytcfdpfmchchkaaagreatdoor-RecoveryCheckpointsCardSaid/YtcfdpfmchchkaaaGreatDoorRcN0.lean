/- Chapter 22, plain -/
import Derived.Test.YtcfdpfmchchkaaaGreatDoorRcM
namespace Go.Proofs.YtcfdpfmchchkaaaGreatDoor
set_option maxHeartbeats 1000000
set_option maxRecDepth 4000
set_option linter.unusedVariables false
set_option linter.unusedSimpArgs false
open Go.RowKit
section
variable {α:Type} {κ:α→Int}
def ry (κ:α→Int) (n:Int):List α→Nat→Int
 | [],_=>-1
 | x::l,k=>if κ x=n then (k:Int) else ry κ n l (k+1)
theorem p9 {n:Int}:∀{l:List α} {k:Nat},ry κ n l k<0→cF κ l n=none
 | [],_,_=>rfl
 | x::l,k,h=>by
  unfold ry at h
  split at h
  · omega
  · rename_i a
    have:=p9 h;unfold cF at this ⊢;rw[List.find?_cons,show(κ x==n)=false by simpa using a];exact this
theorem o8 {n:Int}:∀{l:List α} {k:Nat},¬ry κ n l k<0→∃j,∃b:j<l.length,ry κ n l k=((k+j:Nat):Int)∧κ l[j]=n∧cF κ l n=some l[j]
 | [],_,h=>by unfold ry at h;omega
 | x::l,k,h=>by
  unfold ry at h ⊢;by_cases a:κ x=n
  · rw[if_pos a]
    refine⟨0,by simp,rfl,a,?_⟩;unfold cF;rw[List.find?_cons,show(κ x==n)=true by simpa using a];rfl
  · rw[if_neg a] at h ⊢
    obtain⟨j,b,c,e2,e3⟩:=o8 h;refine⟨j+1,by simp;omega,by rw[c];congr 1;omega,e2,?_⟩;unfold cF at e3 ⊢;rw[List.find?_cons,show(κ x==n)=false by simpa using a];exact e3
theorem vW {n:Int}:∀{l:List α} {j:Nat} (k:Nat) (a:j<l.length),(∀i (b:i<l.length),i<j→κ l[i]≠n)→ry κ n l k=if κ l[j]=n then ((k+j:Nat):Int) else ry κ n (l.drop (j+1)) (k+(j+1))
 | [],_,_,a,_=>by simp at a
 | x::l,0,k,_,_=>by
  rw[ry];rfl
 | x::l,j+1,k,a,h=>by
  have c:κ x≠n:=h 0 bm ab;rw[ry,if_neg c,vW (k+1) (j:=j) (ar a) fun i b d=>by have:=h (i+1) (ar b) ab;simpa using this];simp only[List.getElem_cons_succ,List.drop_succ_cons];rw[show k+1+j=k+(j+1) by omega,show k+1+(j+1)=k+(j+1+1) by omega]
end
open Go.RowKit Go.Sort Go.Shelf
theorem DH {α:Type} {κ:α→Int} {n:Int} {l:List α} {j:Nat} (a:j<l.length) (h:∀i (b:i<l.length),i<j→κ l[i]≠n) (e:κ l[j]=n):ry κ n l 0=(j:Int):=by
 rw[vW 0 a h,if_pos e,Nat.zero_add]
theorem pX {α:Type} {κ:α→Int} {n:Int}:∀{l:List α} {k:Nat},(∀i (a:i<l.length),κ l[i]≠n)→ry κ n l k = -1
 | [],_,_=>rfl
 | x::l,k,h=>by
  have b:κ x≠n:=h 0 bm;rw[ry,if_neg b,pX fun i a=>by have:=h (i+1) (ar a);simpa using this]
theorem sR (l:List Rcd) (n:Int) (A:Option Addr) (c:Nat) (w:World) (hr:Rd w w.heap.size A (l.flatMap cm)) (v:l.length≤100000) :
 bz 79 #[.slice A l.length c,ae n] w (ae (ry Rcd.l n l 0)):=by
 refine aq (N:=20) Tryz.func79 rfl rfl rfl (fun _ Y=>?_);have Z:=St.init w;refine GO 12 ?_;intro _ Y;refine aY Y Z [0,1] (fun (j:Nat)=>[(5,ae (j:Nat))]) (fun (j:Nat)=>j≤l.length∧∀i (u:i<l.length),i<j→Rcd.l l[i]≠n) (fun (j:Nat) L=>L) (fun (j:Nat)=>l.length-j) (0) (⟨Nat.zero_le _,fun k _ h=>absurd h (Nat.not_lt_zero _)⟩) bN (Z) ?_;intro j _ _ m Y Z;refine GO 9 ?_;intro _ Y;refine ak (Y.ev rfl) (fun f=>?_) (fun f=>?_)
 ·
  have a:j<l.length:=by have:=of_decide_eq_true f;omega
  obtain⟨b,o,rfl,hB,_⟩:=hr.opened (aQ aO au ab);refine GO 8 ?_;intro _ Y;refine sv Y (av (i:=j) (sz:=14) dd aa (Y.ev rfl) (Y.ev rfl) ab ab rfl) fun _ Y=>?_;refine sv Y (fy 0 (Y.ev rfl)) fun _ Y=>?_;refine sv Y (lx (Y.ev rfl) ((aZ aO (Z.rd0 hr) a) 0 _ rfl)) fun _ Y=>?_;refine GO 4 ?_;intro _ Y;refine ak (Y.ev rfl) (fun p=>?_) (fun p=>?_)
  ·
   have d:ry Rcd.l n l 0=(j:Int):=DH a m.2 (ar p);refine GO 12 ?_;intro _ Y;refine aI Y rfl rfl ?_;exact⟨by rw[d],Z.below⟩
  ·
   have e:Rcd.l l[j]≠n:=ar p;refine GO 9 ?_;intro _ Y;exact⟨j+1,ab,⟨a,fun k r s=>by rcases Nat.lt_or_eq_of_le (show k≤j by omega) with q | q;exact m.2 k r q;subst q;exact e⟩,Y.re bN,Z⟩
 ·
  have t:l.length≤j:=by have:=of_decide_eq_false f;omega
  have g:ry Rcd.l n l 0 = -1:=pX fun k r=>m.2 k r ab;refine GO 11 ?_;intro _ Y;refine aI Y rfl rfl ?_;exact⟨by rw[g],Z.below⟩
def dp (l:List Rcd) (i:Nat) (t:Int):Int:=match bO l t i with
 | none=>-1
 | some k=>(k:Int)
theorem nN (l:List Rcd) (i:Nat) (x:i<l.length) (A:Option Addr) (c:Nat) (w:World) (hr:Rd w w.heap.size A (l.flatMap cm)) (D:l.length≤100000) :
 bz 175 #[.slice A l.length c,ae (i:Nat)] w (ae (dp l i l[i].e.t)):=by
 obtain⟨b,o,rfl,hB,_⟩:=hr.opened (aQ aO au ab);refine aq (N:=35) Tryz.func175 rfl rfl rfl (fun _ Y=>?_);have Z:=St.init w;refine GO 14 ?_;intro _ Y;refine aY Y Z [0,1] (fun (j:Nat)=>[(5,ae ((j:Nat)-1))]) (fun (j:Nat)=>j≤i∧dp l i l[i].e.t=dp l j l[i].e.t) (fun (j:Nat) L=>L) (fun (j:Nat)=>j) (i) (⟨Nat.le_refl _,rfl⟩) bN (Z) ?_;intro j _ _ p Y Z;refine GO 7 ?_;intro _ Y;refine ak (Y.ev rfl) (fun q=>?_) (fun q=>?_)
 ·
  have g:0<j:=by have:=of_decide_eq_true q;omega
  have d:j-1<l.length:=by omega
  have s:bO l l[i].e.t j=if l[j-1].e.k≠5∧l[j-1].e.t=l[i].e.t then some (j-1) else bO l l[i].e.t (j-1):=by
   have:=uM (t:=l[i].e.t) d
   rwa [show j-1+1=j by omega] at this
  refine wp_skip (aj (ai (wp_block (ai ?_))));apply aK Y (fA 21) _ aa
  case h=>
   refine GO 2 ?_;intro _ Y;refine qv Y (fun X a=>av (i:=j-1) (sz:=14) dd aa (Y.ev rfl) (Y.ev rfl) ab ab rfl) fun _ Y=>?_;refine qv Y (fun X a=>fy 1 (Y.ev rfl)) fun _ Y=>?_;refine qv Y (fun X a=>fy 0 (Y.ev rfl)) fun _ Y=>?_;refine qv Y (fun X a=>lx (Y.ev rfl) ((aZ aO ((Z.grow a).rd0 hr) d) 1 _ rfl)) fun _ Y=>?_;refine GO 2 ?_;intro _ Y;apply mV Y 19 rfl 13 32
   case ht=>
    intro y;refine GO 2 ?_;intro _ Y;refine qy Y (fun X a=>(av (i:=j-1) (sz:=14) dd aa (Y.ev rfl) (Y.ev rfl) ab ab rfl)) fun _ Y=>?_;refine qy Y (fun X a=>(fy 1 (Y.ev rfl))) fun _ Y=>?_;refine qy Y (fun X a=>(fy 1 (Y.ev rfl))) fun _ Y=>?_;refine qy Y (fun X a=>(lx (Y.ev rfl) ((aZ aO ((Z.grow a).rd0 hr) d) 2 _ rfl))) fun _ Y=>?_;refine GO 2 ?_;intro _ Y;refine qy Y (fun X a=>(av (i:=i) (sz:=14) dd aa (Y.ev rfl) (Y.ev rfl) ab ab rfl)) fun _ Y=>?_;refine qy Y (fun X a=>(fy 1 (Y.ev rfl))) fun _ Y=>?_;refine qy Y (fun X a=>(fy 1 (Y.ev rfl))) fun _ Y=>?_;refine qy Y (fun X a=>(lx (Y.ev rfl) ((aZ aO ((Z.grow a).rd0 hr) x) 2 _ rfl))) fun _ Y=>?_;refine GO 1 ?_;intro _ Y;exact ax (Y.midE 12)
   case hf=>
    intro y;refine GO 13 ?_;intro _ Y;exact ax ⟨_,Y.midE 12⟩
   case h=>
    intro u _ m Y;refine ax ?_;refine aV fun _ v C=>?_;have Z:=Z.grow v;refine sv Y (eO (Y.ev rfl) (Y.ev rfl) m (Y.ev rfl)) fun _ Y=>?_;refine ah (aj ?_);refine ak (Y.ev rfl) (fun n=>?_) (fun n=>?_)
    ·
     have f:l[j-1].e.k≠5∧l[j-1].e.t=l[i].e.t:=ar n
     have z:dp l i l[i].e.t=(j:Int)-1:=by
      rw[p.2];unfold dp;rw[s,if_pos f];show((j-1:Nat):Int)=_;omega
     refine GO 12 ?_;intro _ Y;refine aI Y rfl rfl ?_;exact⟨by rw[z],Z.below⟩
    ·
     have r:¬(l[j-1].e.k≠5∧l[j-1].e.t=l[i].e.t):=fun h=>by rw[beq_iff_eq.2 h.2] at n;simp at n;exact h.1 n
     refine GO 5 ?_;intro _ Y;refine sv Y (aA (v':=ae (((j-1:Nat):Int)-1)) (congrArg _ ab) (fp (Y.ev rfl) (Y.ev rfl) ab)) fun _ Y=>?_;refine GO 3 ?_;intro _ Y;exact⟨j-1,ab,⟨by omega,by rw[p.2];unfold dp;rw[s,if_neg r]⟩,Y.re bN,Z⟩
  case hB=>kernel_rfl
  case hst=>rfl
 ·
  have g:j=0:=by have:=of_decide_eq_false q;omega
  have B:dp l i l[i].e.t = -1:=by rw[p.2,g];rfl
  refine GO 11 ?_;intro _ Y;refine aI Y rfl rfl ?_;exact⟨by rw[B],Z.below⟩
open Go.RowKit Go.Sort Go.Shelf
theorem iY {l:List Rcd} {i:Nat} {t:Int} (h:0≤dp l i t):∃k,k<i∧dp l i t=(k:Int)∧bO l t i=some k:=by
 unfold dp at h ⊢
 cases hb:bO l t i with
 | none=>rw[hb] at h;simp at h
 | some k=>exact⟨k,(fq hb).1,rfl,rfl⟩
theorem AJ {l:List Rcd} {i:Nat} {t:Int} (h:¬0≤dp l i t):dp l i t = -1∧bO l t i=none:=by
 unfold dp at h ⊢
 cases hb:bO l t i with
 | none=>exact⟨rfl,rfl⟩
 | some k=>rw[hb] at h;exact absurd (Int.natCast_nonneg k) h
def GZ (l:List Rcd) (k:Int):Bool:=ey l k.toNat != 4
theorem xF (l:List Rcd) (i:Nat) (y:i<l.length) (A:Option Addr) (c:Nat) (w:World) (hr:Rd w w.heap.size A (l.flatMap cm)) (G:l.length≤100000)
 (H:∀k,k<i→∀w,Rd w w.heap.size A (l.flatMap cm)→bz 176 #[.slice A l.length c,ae (k:Nat)] w (ae (jc l k))) :
 bz 176 #[.slice A l.length c,ae (i:Nat)] w (ae (jc l i)):=by
 obtain⟨b,o,rfl,hB,_⟩:=hr.opened (aQ aO au ab);have d:=pw y;refine aq (N:=44) Tryz.func176 rfl rfl rfl (fun _ Y=>?_);have Z:=St.init w;refine GO 9 ?_;intro _ Y;refine sv Y (av (i:=i) (sz:=14) dd aa (Y.ev rfl) (Y.ev rfl) ab ab rfl) fun _ Y=>?_;refine sv (v:=gV l[i]) Y (ag aa aa (Y.ev rfl) (aZ aO (Z.rd0 hr) y)) fun _ Y=>?_;refine na (.agg qU) Y rfl Z fun K _ _ J Y Z=>sw Y Z 0 fun _ Z=>?_;refine GO 6 ?_;intro _ Y;refine vf Y 0 1 fun _ Y=>?_;refine GO 10 ?_;intro _ Y;refine ak (Y.ev rfl) (fun z=>?_) (fun z=>?_)
 ·
  rw[if_pos (ar z)] at d;refine GO 10 ?_;intro _ Y;refine aI Y rfl rfl ?_;exact⟨by rw[d],Z.below⟩
 ·
  rw[if_neg (ar z)] at d;refine GO 6 ?_;intro _ Y;refine ak (Y.ev rfl) (fun u=>?_) (fun u=>?_)
  ·
   rw[if_pos (ar u)] at d;refine GO 3 ?_;intro _ Y;refine vf Y 3 4 fun _ Y=>?_;refine GO 7 ?_;intro _ Y;refine aI Y rfl rfl ?_;exact⟨by rw[d],Z.below⟩
  ·
   rw[if_neg (ar u)] at d;refine GO 8 ?_;intro _ Y;refine cN Y rfl Z (nN l i y _ c _ (Z.rd0 hr) G) fun _ _ Y Z=>?_;refine GO 8 ?_;intro _ Y;apply bo (x:=GZ l (dp l i l[i].e.t)) Y Z 28 rfl 8 36
   case ht=>
    intro F;obtain⟨k,m,a,j⟩:=iY (of_decide_eq_true F)
    have f:k<l.length:=by omega
    have D:ey l (dp l i l[i].e.t).toNat=l[k].e.k:=by rw[a];exact iP f
    refine GO 2 ?_;intro _ Y;refine sy Y (av (i:=k) (sz:=14) dd aa (Y.ev rfl) (Y.ev rfl) ab ab rfl) fun _ Y=>?_;refine sy Y (fy 1 (Y.ev rfl)) fun _ Y=>?_;refine sy Y (fy 0 (Y.ev rfl)) fun _ Y=>?_;refine sy Y (lx (Y.ev rfl) ((aZ aO (Z.rd0 hr) f) 1 _ rfl)) fun _ Y=>?_;refine sy Y (aA (v':=.bool (GZ l (dp l i l[i].e.t))) (by unfold GZ;rw[D]) (kW (Y.ev rfl) (Y.ev rfl))) fun _ Y=>?_;refine GO 1 ?_;intro _ Y;exact ah ⟨Y.midE 7,Z⟩
   case hf=>
    intro F;refine GO 8 ?_;intro _ Y;exact ah ⟨Y.midE 7,Z⟩
   case h=>
    rintro I L ⟨C,s⟩
    refine ah (aj ?_);refine ak (C.ev rfl) (fun r=>?_) (fun r=>?_)
    ·
     obtain⟨u1,B⟩:=Bool.and_eq_true_iff.1 r;obtain⟨k,m,a,j⟩:=iY (of_decide_eq_true u1)
     have f:k<l.length:=by omega
     rw[j] at d;simp only[] at d;rw[if_pos ⟨by unfold GZ at B;rw[a] at B;simpa using B,f⟩] at d;replace C:=C.also (t:=6) (v:=ae (k:Nat)) (by rw[←a];rfl);refine GO 4 ?_;intro _ Y;refine cN Y rfl s (H k m _ (s.rd0 hr)) fun _ _ Y Z=>?_;refine GO 5 ?_;intro _ Y;refine aI Y rfl rfl ?_;exact⟨by rw[d],Z.below⟩
    ·
     have g:jc l i=if l[i].e.p≠0 then -1 else 0:=by
      rw[d];by_cases n:0≤dp l i l[i].e.t
      · obtain⟨k,m,a,j⟩:=iY n
        rw[decide_eq_true n,Bool.true_and] at r;rw[j];simp only[];rw[if_neg]
        rintro ⟨q,_⟩
        unfold GZ at r;rw[a] at r;simp at r;exact q r
      · rw[(AJ n).2]
     refine GO 6 ?_;intro _ Y;refine vf Y 2 3 fun _ Y=>?_;refine GO 4 ?_;intro _ Y;refine ak (Y.ev rfl) (fun E=>?_) (fun E=>?_)
     ·
      rw[if_pos (ar E)] at g;refine GO 7 ?_;intro _ Y;refine aI Y rfl rfl ?_;exact⟨by rw[g],s.below⟩
     ·
      rw[if_neg (ar E)] at g;refine GO 8 ?_;intro _ Y;refine aI Y rfl rfl ?_;exact⟨by rw[g],s.below⟩
theorem sn (l:List Rcd) (A:Option Addr) (c:Nat) (b:l.length≤100000):∀n i:Nat,i<n→i<l.length→∀w,Rd w w.heap.size A (l.flatMap cm) →
 bz 176 #[.slice A l.length c,ae (i:Nat)] w (ae (jc l i))
 | 0,_,h,_,_,_=>absurd h (Nat.not_lt_zero _)
 | n+1,i,h,hi,w,hr=>xF l i hi A c w hr b fun k e d a=>sn l A c b n k ab ab d a
theorem AH (l:List Rcd) (i:Nat) (a:i<l.length) (A:Option Addr) (c:Nat) (w:World) (hr:Rd w w.heap.size A (l.flatMap cm)) (b:l.length≤100000) :
 bz 176 #[.slice A l.length c,ae (i:Nat)] w (ae (jc l i)):=
 sn l A c b (i+1) i (Nat.lt_succ_self _) a w hr
end Go.Proofs.YtcfdpfmchchkaaaGreatDoor
