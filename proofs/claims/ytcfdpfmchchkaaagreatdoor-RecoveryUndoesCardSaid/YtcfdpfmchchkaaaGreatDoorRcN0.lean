/- Chapter 22, plain -/
import Derived.Test.YtcfdpfmchchkaaaGreatDoorRcM
namespace Go.Proofs.YtcfdpfmchchkaaaGreatDoor
set_option maxHeartbeats 1000000
set_option maxRecDepth 4000
set_option linter.unusedVariables false
set_option linter.unusedSimpArgs false
open Go.RowKit
section
variable {α:Type} {κ:α→Int}
def nK (κ:α→Int) (n:Int):List α→Nat→Int
 | [],_=>-1
 | x::l,k=>if κ x=n then (k:Int) else nK κ n l (k+1)
theorem kZ {n:Int}:∀{l:List α} {k:Nat},nK κ n l k<0→cF κ l n=none
 | [],_,_=>rfl
 | x::l,k,h=>by
  unfold nK at h
  split at h
  · omega
  · rename_i hne
    have:=kZ h;unfold cF at this ⊢;rw[List.find?_cons,show(κ x==n)=false by simpa using hne];exact this
theorem iC {n:Int}:∀{l:List α} {k:Nat},¬nK κ n l k<0→∃j,∃b:j<l.length,nK κ n l k=((k+j:Nat):Int)∧κ l[j]=n∧cF κ l n=some l[j]
 | [],_,h=>by unfold nK at h;omega
 | x::l,k,h=>by
  unfold nK at h ⊢;by_cases a:κ x=n
  · rw[if_pos a]
    refine⟨0,by simp,rfl,a,?_⟩;unfold cF;rw[List.find?_cons,show(κ x==n)=true by simpa using a];rfl
  · rw[if_neg a] at h ⊢
    obtain⟨j,b,c,e2,e3⟩:=iC h;refine⟨j+1,by simp;omega,by rw[c];congr 1;omega,e2,?_⟩;unfold cF at e3 ⊢;rw[List.find?_cons,show(κ x==n)=false by simpa using a];exact e3
theorem vM {n:Int}:∀{l:List α} {j:Nat} (k:Nat) (a:j<l.length),(∀i (b:i<l.length),i<j→κ l[i]≠n)→nK κ n l k=if κ l[j]=n then ((k+j:Nat):Int) else nK κ n (l.drop (j+1)) (k+(j+1))
 | [],_,_,a,_=>by simp at a
 | x::l,0,k,_,_=>by
  rw[nK];rfl
 | x::l,j+1,k,a,h=>by
  have c:κ x≠n:=h 0 bw ab;rw[nK,if_neg c,vM (k+1) (j:=j) (al a) fun i b d=>by have:=h (i+1) (al b) ab;simpa using this];simp only[List.getElem_cons_succ,List.drop_succ_cons];rw[show k+1+j=k+(j+1) by omega,show k+1+(j+1)=k+(j+1+1) by omega]
end
open Go.RowKit Go.Sort Go.Shelf
theorem tM {α:Type} {κ:α→Int} {n:Int} {l:List α} {j:Nat} (a:j<l.length) (h:∀i (b:i<l.length),i<j→κ l[i]≠n) (e:κ l[j]=n):nK κ n l 0=(j:Int):=by
 rw[vM 0 a h,if_pos e,Nat.zero_add]
theorem mw {α:Type} {κ:α→Int} {n:Int}:∀{l:List α} {k:Nat},(∀i (a:i<l.length),κ l[i]≠n)→nK κ n l k = -1
 | [],_,_=>rfl
 | x::l,k,h=>by
  have b:κ x≠n:=h 0 bw;rw[nK,if_neg b,mw fun i a=>by have:=h (i+1) (al a);simpa using this]
theorem zm (l:List Rcd) (n:Int) (A:Option Addr) (c:Nat) (w:World) (hr:Rd w w.heap.size A (l.flatMap cB)) (t:l.length≤100000) :
 bu 79 #[.slice A l.length c,ae n] w (ae (nK Rcd.l n l 0)):=by
 refine an (N:=20) Tryz.func79 rfl rfl rfl (fun _ Y=>?_);have Z:=St.init w;refine GO 12 ?_;intro _ Y;refine aV Y Z [0,1] (fun (j:Nat)=>[(5,ae (j:Nat))]) (fun (j:Nat)=>j≤l.length∧∀i (u:i<l.length),i<j→Rcd.l l[i]≠n) (fun (j:Nat) L=>L) (fun (j:Nat)=>l.length-j) (0) (⟨Nat.zero_le _,fun k _ h=>absurd h (Nat.not_lt_zero _)⟩) bC (Z) ?_;intro j _ _ e Y Z;refine GO 9 ?_;intro _ Y;refine ak (Y.ev rfl) (fun p=>?_) (fun p=>?_)
 ·
  have a:j<l.length:=by have:=of_decide_eq_true p;omega
  obtain⟨b,o,rfl,hB,_⟩:=hr.opened (aF aI au ab);refine GO 8 ?_;intro _ Y;refine sv Y (ar (i:=j) (sz:=14) cO aa (Y.ev rfl) (Y.ev rfl) ab ab rfl) fun _ Y=>?_;refine sv Y (fy 0 (Y.ev rfl)) fun _ Y=>?_;refine sv Y (lx (Y.ev rfl) ((aL aI (Z.rd0 hr) a) 0 _ rfl)) fun _ Y=>?_;refine GO 4 ?_;intro _ Y;refine ak (Y.ev rfl) (fun f=>?_) (fun f=>?_)
  ·
   have d:nK Rcd.l n l 0=(j:Int):=tM a e.2 (al f);refine GO 12 ?_;intro _ Y;refine aC Y rfl rfl ?_;exact⟨by rw[d],Z.below⟩
  ·
   have hne:Rcd.l l[j]≠n:=al f;refine GO 9 ?_;intro _ Y;exact⟨j+1,ab,⟨a,fun k g r=>by rcases Nat.lt_or_eq_of_le (show k≤j by omega) with q | q;exact e.2 k g q;subst q;exact hne⟩,Y.re bC,Z⟩
 ·
  have s:l.length≤j:=by have:=of_decide_eq_false p;omega
  have m:nK Rcd.l n l 0 = -1:=mw fun k g=>e.2 k g ab;refine GO 11 ?_;intro _ Y;refine aC Y rfl rfl ?_;exact⟨by rw[m],Z.below⟩
theorem pb (l:List Pgp) (n:Int) (A:Option Addr) (c:Nat) (w:World) (hr:Rd w w.heap.size A (l.flatMap bX)) (u:l.length≤100000) :
 bu 88 #[.slice A l.length c,ae n] w (ae (nK Pgp.g n l 0)):=by
 refine an (N:=20) Tryz.func88 rfl rfl rfl (fun _ Y=>?_);have Z:=St.init w;refine GO 12 ?_;intro _ Y;refine aV Y Z [0,1] (fun (j:Nat)=>[(5,ae (j:Nat))]) (fun (j:Nat)=>j≤l.length∧∀i (v:i<l.length),i<j→Pgp.g l[i]≠n) (fun (j:Nat) L=>L) (fun (j:Nat)=>l.length-j) (0) (⟨Nat.zero_le _,fun k _ h=>absurd h (Nat.not_lt_zero _)⟩) bC (Z) ?_;intro j _ _ e Y Z;refine GO 9 ?_;intro _ Y;refine ak (Y.ev rfl) (fun r=>?_) (fun r=>?_)
 ·
  have a:j<l.length:=by have:=of_decide_eq_true r;omega
  obtain⟨b,o,rfl,hB,_⟩:=hr.opened (aF aY au ab);refine GO 8 ?_;intro _ Y;refine sv Y (ar (i:=j) (sz:=3) en aa (Y.ev rfl) (Y.ev rfl) ab ab rfl) fun _ Y=>?_;refine sv Y (fy 0 (Y.ev rfl)) fun _ Y=>?_;refine sv Y (lx (Y.ev rfl) ((aL aY (Z.rd0 hr) a) 0 _ rfl)) fun _ Y=>?_;refine GO 4 ?_;intro _ Y;refine ak (Y.ev rfl) (fun f=>?_) (fun f=>?_)
  ·
   have d:nK Pgp.g n l 0=(j:Int):=tM a e.2 (al f);refine GO 12 ?_;intro _ Y;refine aC Y rfl rfl ?_;exact⟨by rw[d],Z.below⟩
  ·
   have hne:Pgp.g l[j]≠n:=al f;refine GO 9 ?_;intro _ Y;exact⟨j+1,ab,⟨a,fun k m s=>by rcases Nat.lt_or_eq_of_le (show k≤j by omega) with q | q;exact e.2 k m q;subst q;exact hne⟩,Y.re bC,Z⟩
 ·
  have t:l.length≤j:=by have:=of_decide_eq_false r;omega
  have p:nK Pgp.g n l 0 = -1:=mw fun k m=>e.2 k m ab;refine GO 11 ?_;intro _ Y;refine aC Y rfl rfl ?_;exact⟨by rw[p],Z.below⟩
theorem np (e:Lge) (w:World):bu 87 #[cy e] w (.bool (cb e)):=by
 refine an (N:=11) Tryz.func87 rfl rfl rfl (fun _ Y=>?_);have Z:=St.init w;refine aj (aq ?_);refine nb Y rfl rfl Z fun b1 _ _ d Y Z=>GO 9 ?_;intro _ Y;apply bI Y Z 6 rfl 4 10
 case hf=>
  intro a;refine GO 4 ?_;intro _ Y;exact ag ⟨Y.midE 3,Z⟩
 case ht=>
  intro a;refine GO 4 ?_;intro _ Y;exact ag ⟨Y.midE 3,Z⟩
 case h=>
  rintro c f ⟨g,b⟩
  refine GO 4 ?_;intro _ Y;refine aC Y rfl rfl ?_;exact⟨rfl,b.below⟩
def dB (l:List Rcd) (i:Nat) (t:Int):Int:=match bP l t i with
 | none=>-1
 | some k=>(k:Int)
theorem oY (l:List Rcd) (i:Nat) (v:i<l.length) (A:Option Addr) (c:Nat) (w:World) (hr:Rd w w.heap.size A (l.flatMap cB)) (C:l.length≤100000) :
 bu 175 #[.slice A l.length c,ae (i:Nat)] w (ae (dB l i l[i].e.t)):=by
 obtain⟨b,o,rfl,hB,_⟩:=hr.opened (aF aI au ab);refine an (N:=35) Tryz.func175 rfl rfl rfl (fun _ Y=>?_);have Z:=St.init w;refine GO 14 ?_;intro _ Y;refine aV Y Z [0,1] (fun (j:Nat)=>[(5,ae ((j:Nat)-1))]) (fun (j:Nat)=>j≤i∧dB l i l[i].e.t=dB l j l[i].e.t) (fun (j:Nat) L=>L) (fun (j:Nat)=>j) (i) (⟨Nat.le_refl _,rfl⟩) bC (Z) ?_;intro j _ _ r Y Z;refine GO 7 ?_;intro _ Y;refine ak (Y.ev rfl) (fun p=>?_) (fun p=>?_)
 ·
  have f:0<j:=by have:=of_decide_eq_true p;omega
  have d:j-1<l.length:=by omega
  have s:bP l l[i].e.t j=if l[j-1].e.k≠5∧l[j-1].e.t=l[i].e.t then some (j-1) else bP l l[i].e.t (j-1):=by
   have:=wo (t:=l[i].e.t) d
   rwa [show j-1+1=j by omega] at this
  refine wp_skip (ai (aj (wp_block (aj ?_))));apply aK Y (fK 21) _ aa
  case h=>
   refine GO 2 ?_;intro _ Y;refine qv Y (fun X a=>ar (i:=j-1) (sz:=14) cO aa (Y.ev rfl) (Y.ev rfl) ab ab rfl) fun _ Y=>?_;refine qv Y (fun X a=>fy 1 (Y.ev rfl)) fun _ Y=>?_;refine qv Y (fun X a=>fy 0 (Y.ev rfl)) fun _ Y=>?_;refine qv Y (fun X a=>lx (Y.ev rfl) ((aL aI ((Z.grow a).rd0 hr) d) 1 _ rfl)) fun _ Y=>?_;refine GO 2 ?_;intro _ Y;apply lR Y 19 rfl 13 32
   case ht=>
    intro B;refine GO 2 ?_;intro _ Y;refine qy Y (fun X a=>(ar (i:=j-1) (sz:=14) cO aa (Y.ev rfl) (Y.ev rfl) ab ab rfl)) fun _ Y=>?_;refine qy Y (fun X a=>(fy 1 (Y.ev rfl))) fun _ Y=>?_;refine qy Y (fun X a=>(fy 1 (Y.ev rfl))) fun _ Y=>?_;refine qy Y (fun X a=>(lx (Y.ev rfl) ((aL aI ((Z.grow a).rd0 hr) d) 2 _ rfl))) fun _ Y=>?_;refine GO 2 ?_;intro _ Y;refine qy Y (fun X a=>(ar (i:=i) (sz:=14) cO aa (Y.ev rfl) (Y.ev rfl) ab ab rfl)) fun _ Y=>?_;refine qy Y (fun X a=>(fy 1 (Y.ev rfl))) fun _ Y=>?_;refine qy Y (fun X a=>(fy 1 (Y.ev rfl))) fun _ Y=>?_;refine qy Y (fun X a=>(lx (Y.ev rfl) ((aL aI ((Z.grow a).rd0 hr) v) 2 _ rfl))) fun _ Y=>?_;refine GO 1 ?_;intro _ Y;exact ax (Y.midE 12)
   case hf=>
    intro B;refine GO 13 ?_;intro _ Y;exact ax ⟨_,Y.midE 12⟩
   case h=>
    intro y _ n Y;refine ax ?_;refine aT fun _ u D=>?_;have Z:=Z.grow u;refine sv Y (eK (Y.ev rfl) (Y.ev rfl) n (Y.ev rfl)) fun _ Y=>?_;refine ag (ai ?_);refine ak (Y.ev rfl) (fun g=>?_) (fun g=>?_)
    ·
     have m:l[j-1].e.k≠5∧l[j-1].e.t=l[i].e.t:=al g
     have z:dB l i l[i].e.t=(j:Int)-1:=by
      rw[r.2];unfold dB;rw[s,if_pos m];show((j-1:Nat):Int)=_;omega
     refine GO 12 ?_;intro _ Y;refine aC Y rfl rfl ?_;exact⟨by rw[z],Z.below⟩
    ·
     have q:¬(l[j-1].e.k≠5∧l[j-1].e.t=l[i].e.t):=fun h=>by rw[beq_iff_eq.2 h.2] at g;simp at g;exact h.1 g
     refine GO 5 ?_;intro _ Y;refine sv Y (aA (v':=ae (((j-1:Nat):Int)-1)) (congrArg _ ab) (fN (Y.ev rfl) (Y.ev rfl) ab)) fun _ Y=>?_;refine GO 3 ?_;intro _ Y;exact⟨j-1,ab,⟨by omega,by rw[r.2];unfold dB;rw[s,if_neg q]⟩,Y.re bC,Z⟩
  case hB=>kernel_rfl
  case hst=>rfl
 ·
  have f:j=0:=by have:=of_decide_eq_false p;omega
  have x:dB l i l[i].e.t = -1:=by rw[r.2,f];rfl
  refine GO 11 ?_;intro _ Y;refine aC Y rfl rfl ?_;exact⟨by rw[x],Z.below⟩
open Go.RowKit Go.Sort Go.Shelf
theorem jE {l:List Rcd} {i:Nat} {t:Int} (h:0≤dB l i t):∃k,k<i∧dB l i t=(k:Int)∧bP l t i=some k:=by
 unfold dB at h ⊢
 cases hb:bP l t i with
 | none=>rw[hb] at h;simp at h
 | some k=>exact⟨k,(gz hb).1,rfl,rfl⟩
theorem Ag {l:List Rcd} {i:Nat} {t:Int} (h:¬0≤dB l i t):dB l i t = -1∧bP l t i=none:=by
 unfold dB at h ⊢
 cases hb:bP l t i with
 | none=>exact⟨rfl,rfl⟩
 | some k=>rw[hb] at h;exact absurd (Int.natCast_nonneg k) h
def HH (l:List Rcd) (k:Int):Bool:=eW l k.toNat != 4
theorem yj (l:List Rcd) (i:Nat) (B:i<l.length) (A:Option Addr) (c:Nat) (w:World) (hr:Rd w w.heap.size A (l.flatMap cB)) (H:l.length≤100000)
 (I:∀k,k<i→∀w,Rd w w.heap.size A (l.flatMap cB)→bu 176 #[.slice A l.length c,ae (k:Nat)] w (ae (j8 l k))) :
 bu 176 #[.slice A l.length c,ae (i:Nat)] w (ae (j8 l i)):=by
 obtain⟨b,o,rfl,hB,_⟩:=hr.opened (aF aI au ab);have d:=qC B;refine an (N:=44) Tryz.func176 rfl rfl rfl (fun _ Y=>?_);have Z:=St.init w;refine GO 9 ?_;intro _ Y;refine sv Y (ar (i:=i) (sz:=14) cO aa (Y.ev rfl) (Y.ev rfl) ab ab rfl) fun _ Y=>?_;refine sv (v:=iR l[i]) Y (ah aa aa (Y.ev rfl) (aL aI (Z.rd0 hr) B)) fun _ Y=>?_;refine na (.agg mi) Y rfl Z fun L _ _ K Y Z=>sw Y Z 0 fun _ Z=>?_;refine GO 6 ?_;intro _ Y;refine vf Y 0 1 fun _ Y=>?_;refine GO 10 ?_;intro _ Y;refine ak (Y.ev rfl) (fun D=>?_) (fun D=>?_)
 ·
  rw[if_pos (al D)] at d;refine GO 10 ?_;intro _ Y;refine aC Y rfl rfl ?_;exact⟨by rw[d],Z.below⟩
 ·
  rw[if_neg (al D)] at d;refine GO 6 ?_;intro _ Y;refine ak (Y.ev rfl) (fun y=>?_) (fun y=>?_)
  ·
   rw[if_pos (al y)] at d;refine GO 3 ?_;intro _ Y;refine vf Y 3 4 fun _ Y=>?_;refine GO 7 ?_;intro _ Y;refine aC Y rfl rfl ?_;exact⟨by rw[d],Z.below⟩
  ·
   rw[if_neg (al y)] at d;refine GO 8 ?_;intro _ Y;refine cQ Y rfl Z (oY l i B _ c _ (Z.rd0 hr) H) fun _ _ Y Z=>?_;refine GO 8 ?_;intro _ Y;apply a8 (x:=HH l (dB l i l[i].e.t)) Y Z 28 rfl 8 36
   case ht=>
    intro F;obtain⟨k,m,a,g⟩:=jE (of_decide_eq_true F)
    have f:k<l.length:=by omega
    have E:eW l (dB l i l[i].e.t).toNat=l[k].e.k:=by rw[a];exact jO f
    refine GO 2 ?_;intro _ Y;refine sy Y (ar (i:=k) (sz:=14) cO aa (Y.ev rfl) (Y.ev rfl) ab ab rfl) fun _ Y=>?_;refine sy Y (fy 1 (Y.ev rfl)) fun _ Y=>?_;refine sy Y (fy 0 (Y.ev rfl)) fun _ Y=>?_;refine sy Y (lx (Y.ev rfl) ((aL aI (Z.rd0 hr) f) 1 _ rfl)) fun _ Y=>?_;refine sy Y (aA (v':=.bool (HH l (dB l i l[i].e.t))) (by unfold HH;rw[E]) (kh (Y.ev rfl) (Y.ev rfl))) fun _ Y=>?_;refine GO 1 ?_;intro _ Y;exact ag ⟨Y.midE 7,Z⟩
   case hf=>
    intro F;refine GO 8 ?_;intro _ Y;exact ag ⟨Y.midE 7,Z⟩
   case h=>
    rintro G J ⟨C,s⟩
    refine ag (ai ?_);refine ak (C.ev rfl) (fun n=>?_) (fun n=>?_)
    ·
     obtain⟨u1,u⟩:=Bool.and_eq_true_iff.1 n;obtain⟨k,m,a,g⟩:=jE (of_decide_eq_true u1)
     have f:k<l.length:=by omega
     rw[g] at d;simp only[] at d;rw[if_pos ⟨by unfold HH at u;rw[a] at u;simpa using u,f⟩] at d;replace C:=C.also (t:=6) (v:=ae (k:Nat)) (by rw[←a];rfl);refine GO 4 ?_;intro _ Y;refine cQ Y rfl s (I k m _ (s.rd0 hr)) fun _ _ Y Z=>?_;refine GO 5 ?_;intro _ Y;refine aC Y rfl rfl ?_;exact⟨by rw[d],Z.below⟩
    ·
     have j:j8 l i=if l[i].e.p≠0 then -1 else 0:=by
      rw[d];by_cases r:0≤dB l i l[i].e.t
      · obtain⟨k,m,a,g⟩:=jE r
        rw[decide_eq_true r,Bool.true_and] at n;rw[g];simp only[];rw[if_neg]
        rintro ⟨q,_⟩
        unfold HH at n;rw[a] at n;simp at n;exact q n
      · rw[(Ag r).2]
     refine GO 6 ?_;intro _ Y;refine vf Y 2 3 fun _ Y=>?_;refine GO 4 ?_;intro _ Y;refine ak (Y.ev rfl) (fun z=>?_) (fun z=>?_)
     ·
      rw[if_pos (al z)] at j;refine GO 7 ?_;intro _ Y;refine aC Y rfl rfl ?_;exact⟨by rw[j],s.below⟩
     ·
      rw[if_neg (al z)] at j;refine GO 8 ?_;intro _ Y;refine aC Y rfl rfl ?_;exact⟨by rw[j],s.below⟩
theorem s9 (l:List Rcd) (A:Option Addr) (c:Nat) (b:l.length≤100000):∀n i:Nat,i<n→i<l.length→∀w,Rd w w.heap.size A (l.flatMap cB) →
 bu 176 #[.slice A l.length c,ae (i:Nat)] w (ae (j8 l i))
 | 0,_,h,_,_,_=>absurd h (Nat.not_lt_zero _)
 | n+1,i,h,hi,w,hr=>yj l i hi A c w hr b fun k e d a=>s9 l A c b n k ab ab d a
theorem A5 (l:List Rcd) (i:Nat) (a:i<l.length) (A:Option Addr) (c:Nat) (w:World) (hr:Rd w w.heap.size A (l.flatMap cB)) (b:l.length≤100000) :
 bu 176 #[.slice A l.length c,ae (i:Nat)] w (ae (j8 l i)):=
 s9 l A c b (i+1) i (Nat.lt_succ_self _) a w hr
theorem Cf {p:Option Pgp} {x:Pgp} (h:bB x.g 0 600=false):kA p x=2:=by unfold kA;rw[h];rfl
theorem DV {p:Option Pgp} {x y:Pgp} (h:bB x.g 0 600=true) (a:p=some y) (b:x.g≤y.g):kA p x=9:=by
 unfold kA;rw[h,a];simp only[];rw[decide_eq_false ab];rfl
theorem Eo {p:Option Pgp} {x:Pgp} (h:bB x.g 0 600=true) (c:∀y,p=some y→y.g<x.g) (a:(x.b.size==512)=false):kA p x=10:=by
 unfold kA;rw[h,a]
 cases p with
 | none=>rfl
 | some y=>simp only[];rw[decide_eq_true (c y rfl)];rfl
theorem vB (l:List Pgp) (A:Option Addr) (c:Nat) (w:World) (hr:Rd w w.heap.size A (l.flatMap bX)) (S:l.length≤100000) :
 bu 86 #[.slice A l.length c] w (ae (jx l)):=by
 obtain⟨E,e⟩:∃E,E=jx l:=⟨_,rfl⟩;rw[←e];unfold jx sR at e;refine an (N:=43) Tryz.func86 rfl rfl rfl (fun _ C=>?_);have Z:=St.init w;refine GO 13 ?_;intro _ Y;refine ak (Y.ev rfl) (fun B=>?_) (fun B=>?_)
 ·
  rw[if_pos (by have:=of_decide_eq_true B;omega)] at e;refine GO 7 ?_;intro _ Y;refine aC Y rfl rfl ?_;exact⟨by rw[e],Z.below⟩
 ·
  rw[if_neg (by have:=of_decide_eq_false B;omega)] at e;refine GO 9 ?_;intro _ Y;refine aV Y Z [0] (fun (j:Nat)=>[(3,ae (j:Nat))]) (fun (j:Nat)=>j≤l.length∧∀k (v:k<l.length),k<j→kA (da l k) l[k]=0) (fun (j:Nat) L=>L) (fun (j:Nat)=>l.length-j) (0) (⟨Nat.zero_le _,fun k _ h=>absurd h (Nat.not_lt_zero _)⟩) bC (Z) ?_;intro j _ _ r Y Z;refine GO 9 ?_;intro _ Y;refine ak (Y.ev rfl) (fun D=>?_) (fun D=>?_)
  ·
   have a:j<l.length:=by have:=of_decide_eq_true D;omega
   obtain⟨b,o,rfl,hB,_⟩:=hr.opened (aF aY au ab);refine GO 9 ?_;intro _ Y;refine sv Y (ar (i:=j) (sz:=3) en aa (Y.ev rfl) (Y.ev rfl) ab ab rfl) fun _ Y=>?_;refine sv Y (fy 0 (Y.ev rfl)) fun _ Y=>?_;refine sv Y (lx (Y.ev rfl) ((aL aY (Z.rd0 hr) a) 0 _ rfl)) fun _ Y=>?_;refine dn Y rfl (br _ _ _ _) fun _ Y=>?_;refine GO 3 ?_;intro _ Y;refine ak (Y.ev rfl) (fun F=>?_) (fun F=>?_)
   ·
    have s:bB l[j].g 0 600=false:=al F;rw[fQ (f:=fun i x=>kA (da l i) x) a r.2 (Cf s) au] at e;refine GO 12 ?_;intro _ Y;refine aC Y rfl rfl ?_;exact⟨by rw[e],Z.below⟩
   ·
    have d:bB l[j].g 0 600=true:=al F;refine wp_skip (ai (aj (aj ?_)));apply aK Y (fK 15) _ aa
    case h=>
     refine GO 3 ?_;intro _ Y;apply lR Y 22 rfl 12 34
     case ht=>
      intro I
      have m:0<j:=by have:=of_decide_eq_true I;omega
      refine GO 2 ?_;intro _ Y;refine qy Y (fun X n=>(ar (i:=j) (sz:=3) en aa (Y.ev rfl) (Y.ev rfl) ab ab rfl)) fun _ Y=>?_;refine qy Y (fun X n=>(fy 0 (Y.ev rfl))) fun _ Y=>?_;refine qy Y (fun X n=>(lx (Y.ev rfl) ((aL aY ((Z.grow n).rd0 hr) a) 0 _ rfl))) fun _ Y=>?_;refine GO 3 ?_;intro _ Y;refine qy Y (fun X n=>(ar (i:=j-1) (sz:=3) en aa (Y.ev rfl) (Y.ev rfl) ab ab rfl)) fun _ Y=>?_;refine qy Y (fun X n=>(fy 0 (Y.ev rfl))) fun _ Y=>?_;refine qy Y (fun X n=>(lx (Y.ev rfl) ((aL aY ((Z.grow n).rd0 hr) (show j-1<l.length by omega)) 0 _ rfl))) fun _ Y=>?_;refine qy Y (fun X n=>(aA (v':=.bool (decide (l[j].g≤((da l j).getD ⟨0,false,⟨#[]⟩⟩).g))) (by rw[dI m a,Option.getD_some]) (lY (Y.ev rfl) (Y.ev rfl)))) fun _ Y=>?_;exact ax (Y.midE 11)
     case hf=>
      intro I;refine GO 12 ?_;intro _ Y;exact ax ⟨_,Y.midE 11⟩
     case h=>
      intro Q _ t Y;refine ax ?_;refine aT fun _ O T=>?_;have Z:=Z.grow O;refine sv Y (eK (Y.ev rfl) (Y.ev rfl) t (Y.ev rfl)) fun _ Y=>?_;refine ag (ai ?_);refine ak (Y.ev rfl) (fun u=>?_) (fun u=>?_)
      ·
       obtain⟨u1,H⟩:=Bool.and_eq_true_iff.1 u
       have m:0<j:=by have:=of_decide_eq_true u1;omega
       rw[dI m a] at H;rw[fQ (f:=fun i x=>kA (da l i) x) a r.2 (DV d (dI m a) (of_decide_eq_true H)) au] at e;refine GO 12 ?_;intro _ Y;refine aC Y rfl rfl ?_;exact⟨by rw[e],Z.below⟩
      ·
       have p:∀y,da l j=some y→y.g<l[j].g:=fun y J=>by
        rcases Nat.eq_zero_or_pos j with C | C
        · subst C;cases J
        · rw[decide_eq_true (by omega:(j:Int)>0),Bool.true_and,J] at u
          have:=of_decide_eq_false u
          change ¬l[j].g≤y.g at this
          omega
       refine GO 6 ?_;intro _ Y;refine sv Y (ar (i:=j) (sz:=3) en aa (Y.ev rfl) (Y.ev rfl) ab ab rfl) fun _ Y=>?_;refine sv Y (fy 2 (Y.ev rfl)) fun _ Y=>?_;refine sv Y (lx (Y.ev rfl) ((aL aY (Z.rd0 hr) a) 2 _ rfl)) fun _ Y=>?_;refine GO 4 ?_;intro _ Y;refine ak (Y.ev rfl) (fun G=>?_) (fun G=>?_)
       ·
        have R:(l[j].b.size==512)=false:=by simp at G ⊢;omega
        rw[fQ (f:=fun i x=>kA (da l i) x) a r.2 (Eo d p R) au] at e;refine GO 11 ?_;intro _ Y;refine aC Y rfl rfl ?_;exact⟨by rw[e],Z.below⟩
       ·
        have P:kA (da l j) l[j]=0:=pgpE_zero.2 ⟨⟨inB_true.1 d,by simp at G;omega⟩,p⟩;refine GO 9 ?_;intro _ Y;exact⟨j+1,ab,⟨a,fun k v K=>by rcases Nat.lt_or_eq_of_le (show k≤j by omega) with q | q;exact r.2 k v q;subst q;exact P⟩,Y.re bC,Z⟩
    case hB=>kernel_rfl
    case hst=>rfl
  ·
   have M:l.length≤j:=by have:=of_decide_eq_false D;omega
   have z:(df (fun i x=>kA (da l i) x) 0 l).2=0:=(cK _ _).2 fun k v=>r.2 k v ab;rw[z] at e;refine GO 11 ?_;intro _ Y;refine aC Y rfl rfl ?_;exact⟨by rw[e],Z.below⟩
theorem sj (l:List Rcd) (p:List Pgp) (A:Option Addr) (c:Nat) (B:Option Addr) (d:Nat) (w:World) (hr:Rd w w.heap.size A (l.flatMap cB)) (y:Rd w w.heap.size B (p.flatMap bX)) (U:l.length≤100000) (O:p.length≤100000) :
 bu 34 #[.slice A l.length c,.slice B p.length d] w (ae (ik l p)):=by
 obtain⟨E,m⟩:∃E,E=ik l p:=⟨_,rfl⟩;rw[←m];unfold ik at m;refine an (N:=48) Tryz.func34 rfl rfl rfl (fun _ Y=>?_);have Z:=St.init w;refine GO 9 ?_;intro _ Y;refine cQ Y rfl Z (vB p B d _ (Z.rd0 y) O) fun _ _ Y Z=>?_;refine GO 9 ?_;intro _ Y;refine ak (Y.ev rfl) (fun G=>?_) (fun G=>?_)
 ·
  rw[if_pos (al G)] at m;refine GO 8 ?_;intro _ Y;refine aC Y rfl rfl ?_;exact⟨by first | (rw[m];done) | (rw[m];rfl),Z.below⟩
 ·
  rw[if_neg (al G)] at m;refine GO 9 ?_;intro _ Y;refine aV Y Z [0,1] (fun (j:Nat)=>[(6,ae (j:Nat))]) (fun (j:Nat)=>j≤l.length∧∀k (r:k<l.length),k<j→fW p l[k]=0) (fun (j:Nat) L=>L) (fun (j:Nat)=>l.length-j) (0) (⟨Nat.zero_le _,fun k _ h=>absurd h (Nat.not_lt_zero _)⟩) bC (Z) ?_;intro j _ _ t Y Z;refine GO 9 ?_;intro _ Y;refine ak (Y.ev rfl) (fun C=>?_) (fun C=>?_)
  ·
   have a:j<l.length:=by have:=of_decide_eq_true C;omega
   obtain⟨b,o,rfl,hB,_⟩:=hr.opened (aF aI au ab);refine GO 9 ?_;intro _ Y;refine sv Y (ar (i:=j) (sz:=14) cO aa (Y.ev rfl) (Y.ev rfl) ab ab rfl) fun _ Y=>?_;refine sv Y (fy 1 (Y.ev rfl)) fun _ Y=>?_;refine sv (v:=cy l[j].e) Y (ah aa aa (Y.ev rfl) (dQ (Z.rd0 hr) a)) fun _ Y=>?_;refine cQ Y rfl Z (np _ _) fun _ _ Y Z=>?_;refine GO 3 ?_;intro _ Y;refine ak (Y.ev rfl) (fun K=>?_) (fun K=>?_)
   ·
    have J:fW p l[j]=0:=by unfold fW;rw[if_neg];simpa using K
    refine GO 10 ?_;intro _ Y;exact⟨j+1,ab,⟨a,fun k r z=>by rcases Nat.lt_or_eq_of_le (show k≤j by omega) with q | q;exact t.2 k r q;subst q;exact J⟩,Y.re bC,Z⟩
   ·
    have u:cb l[j].e=true:=al K;refine GO 7 ?_;intro _ Y;refine sv Y (ar (i:=j) (sz:=14) cO aa (Y.ev rfl) (Y.ev rfl) ab ab rfl) fun _ Y=>?_;refine sv Y (fy 1 (Y.ev rfl)) fun _ Y=>?_;refine sv Y (fy 4 (Y.ev rfl)) fun _ Y=>?_;refine sv Y (lx (Y.ev rfl) ((aL aI (Z.rd0 hr) a) 5 _ rfl)) fun _ Y=>?_;refine cQ Y rfl Z (pb p l[j].e.g B d _ (Z.rd0 y) O) fun _ _ Y Z=>?_;refine GO 10 ?_;intro _ Y;refine ak (Y.ev rfl) (fun M=>?_) (fun M=>?_)
    ·
     have T:=kZ (of_decide_eq_true M)
     have R:fW p l[j]=6:=by unfold fW ib;rw[if_pos u,T]
     rw[fQ (f:=fun _ x=>fW p x) a t.2 R au] at m;refine GO 12 ?_;intro _ Y;refine aC Y rfl rfl ?_;exact⟨by first | (rw[m];done) | (rw[m];rfl),Z.below⟩
    ·
     obtain⟨k,r,D,_,H⟩:=iC (of_decide_eq_false M);rw[Nat.zero_add] at D;obtain⟨b',o',rfl,Q,_⟩:=y.opened (aF aY au ab)
     have s:fW p l[j]=bQ (p[k].f==l[j].e.f) 13:=by unfold fW ib;rw[if_pos u,H]
     refine wp_skip (ai (aj ?_));apply aK Y (fK 11) _ aa
     case h=>
      refine GO 2 ?_;intro _ Y;refine qv Y (fun X n=>ar (i:=k) (sz:=3) en aa (Y.ev rfl) (Y.ev rfl) ab ab rfl) fun _ Y=>?_;refine qv Y (fun X n=>fy 1 (Y.ev rfl)) fun _ Y=>?_;refine qv Y (fun X n=>lx (Y.ev rfl) ((aL aY ((Z.grow n).rd0 y) r) 1 _ rfl)) fun _ Y=>?_;refine GO 2 ?_;intro _ Y;refine qv Y (fun X n=>ar (i:=j) (sz:=14) cO aa (Y.ev rfl) (Y.ev rfl) ab ab rfl) fun _ Y=>?_;refine qv Y (fun X n=>fy 1 (Y.ev rfl)) fun _ Y=>?_;refine qv Y (fun X n=>fy 5 (Y.ev rfl)) fun _ Y=>?_;refine qv Y (fun X n=>lx (Y.ev rfl) ((aL aI ((Z.grow n).rd0 hr) a) 6 _ rfl)) fun _ Y=>?_;refine ax ?_;refine aT fun _ S V=>?_;have Z:=Z.grow S;refine sv Y (uG tX (Y.ev rfl) (Y.ev rfl)) fun _ Y=>?_;refine ag (ai ?_);refine ak (Y.ev rfl) (fun F=>?_) (fun F=>?_)
      ·
       have hne:(p[k].f==l[j].e.f)=false:=al F;rw[hne] at s;rw[fQ (f:=fun _ x=>fW p x) a t.2 s au] at m;refine GO 11 ?_;intro _ Y;refine aC Y rfl rfl ?_;exact⟨by first | (rw[m];done) | (rw[m];rfl),Z.below⟩
      ·
       have J:fW p l[j]=0:=by rw[s,show(p[k].f==l[j].e.f)=true by simpa using F];rfl
       refine GO 9 ?_;intro _ Y;exact⟨j+1,ab,⟨a,fun k r z=>by rcases Nat.lt_or_eq_of_le (show k≤j by omega) with q | q;exact t.2 k r q;subst q;exact J⟩,Y.re bC,Z⟩
     case hB=>kernel_rfl
     case hst=>rfl
  ·
   have P:l.length≤j:=by have:=of_decide_eq_false C;omega
   have I:(df (fun _ x=>fW p x) 0 l).2=0:=(cK _ _).2 fun k r=>t.2 k r ab;rw[I] at m;refine GO 11 ?_;intro _ Y;refine aC Y rfl rfl ?_;exact⟨by first | (rw[m];done) | (rw[m];rfl),Z.below⟩
theorem Fg (x:Pgp):kP [ae x.g,.bool x.f,.string x.b] [ae x.g,.bool x.f,.string x.b]=true:=by simp[kP,vY]
theorem ya (l:List Pgp) (A:Option Addr) (c:Nat) (g:Option Addr) (c':Nat) (w:World) (hr:Rd w w.heap.size A (l.flatMap bX)) (d:Rd w w.heap.size g (l.flatMap bX)) (q:l.length≤100000) :
 bu 36 #[.slice A l.length c,.slice g l.length c'] w (.bool true):=by
 refine an (N:=26) Tryz.func36 rfl rfl rfl (fun _ Y=>?_);have Z:=St.init w;refine GO 15 ?_;intro _ Y;refine mU (Y.ev rfl) (bw) ?_;refine GO 9 ?_;intro _ Y;refine aV Y Z [0,1] (fun (j:Nat)=>[(5,ae (j:Nat))]) (fun (j:Nat)=>j≤l.length) (fun (j:Nat) L=>L) (fun (j:Nat)=>l.length-j) (0) (Nat.zero_le _) bC (Z) ?_;intro j _ _ r Y Z;refine GO 9 ?_;intro _ Y;refine ak (Y.ev rfl) (fun f=>?_) (fun f=>?_)
 ·
  have a:j<l.length:=by have:=of_decide_eq_true f;omega
  obtain⟨b,o,rfl,hB,_⟩:=hr.opened (aF aY au ab);obtain⟨b',o',rfl,m,_⟩:=d.opened (aF aY au ab);refine wp_skip (ai (aj (wp_block (aj ?_))));apply aK Y (fK 8) _ aa
  case h=>
   refine GO 2 ?_;intro _ Y;refine qv Y (fun X e=>ar (i:=j) (sz:=3) en aa (Y.ev rfl) (Y.ev rfl) ab ab rfl) fun _ Y=>?_;refine qv (v:=uT l[j]) Y (fun X e=>ah aa aa (Y.ev rfl) (aL aY ((Z.grow e).rd0 hr) a)) fun _ Y=>?_;refine GO 2 ?_;intro _ Y;refine qv Y (fun X e=>ar (i:=j) (sz:=3) en aa (Y.ev rfl) (Y.ev rfl) ab ab rfl) fun _ Y=>?_;refine qv (v:=uT l[j]) Y (fun X e=>ah aa aa (Y.ev rfl) (aL aY ((Z.grow e).rd0 d) a)) fun _ Y=>?_;refine ax ?_;refine aT fun _ n p=>?_;have Z:=Z.grow n;refine sv Y (ke (ks:=[.i .i64,.b,.s]) aa Tryz.underlying111 aa (Y.ev rfl) (Y.ev rfl) rfl rfl) fun _ Y=>?_;refine ag (ai ?_);refine mU (Y.ev rfl) ((by rw[Fg];rfl)) ?_;refine GO 9 ?_;intro _ Y;exact⟨j+1,ab,a,Y.re bC,Z⟩
  case hB=>kernel_rfl
  case hst=>rfl
 ·
  have k:l.length≤j:=by have:=of_decide_eq_false f;omega
  refine GO 11 ?_;intro _ Y;refine aC Y rfl rfl ?_;exact⟨rfl,Z.below⟩
def yr (n:Nat) (a b:Nat):Bool:=!((decide ((n:Int)>a)&&decide ((n:Int)≤b))||decide ((n:Int)>b+2))
def A6 (l:List Pgp):Bool:=yr l.length 12 40&&l.all fun x=>!decide ((x.b.size:Int)>513)
theorem yO {n a b:Nat} (h:yr n a b=true):n≤b+2:=by
 unfold yr at h;rw[Bool.not_eq_true'] at h;have:=of_decide_eq_false (Bool.or_eq_false_iff.1 h).2;omega
theorem EK {l:List Pgp} (h:A6 l=true):l.length≤42:=by
 unfold A6 at h;exact yO (Bool.and_eq_true_iff.1 h).1
theorem xw (l:List Pgp) (A:Option Addr) (c:Nat) (w:World) (hr:Rd w w.heap.size A (l.flatMap bX)) (E:l.length≤maxLen) :
 bu 28 #[.slice A l.length c] w (.bool (A6 l)):=by
 refine an (N:=30) Tryz.func28 rfl rfl rfl (fun _ Y=>?_);have Z:=St.init w;refine GO 12 ?_;intro _ Y;apply a8 (x:=decide ((l.length:Int)≤40)) Y Z 7 rfl 4 11
 case ht=>
  intro B;refine GO 4 ?_;intro _ Y;exact ag ⟨Y.midE 3,Z⟩
 case hf=>
  intro B;refine GO 4 ?_;intro _ Y;exact ag ⟨Y.midE 3,Z⟩
 case h=>
  rintro z H ⟨F,m⟩
  refine GO 1 ?_;intro _ Y;apply bI (x:=decide ((l.length:Int)>42)) Y m 12 rfl 4 16
  case hf=>
   intro v;refine GO 4 ?_;intro _ Y;exact ag ⟨Y.midE 3,m⟩
  case ht=>
   intro v;refine GO 4 ?_;intro _ Y;exact ag ⟨Y.midE 3,m⟩
  case h=>
   rintro D G ⟨y,g⟩
   refine ag (ai ?_);refine ak (y.ev rfl) (fun n=>?_) (fun n=>?_)
   ·
    have e:yr l.length 12 40=false:=by unfold yr;exact(Bool.not_eq_false' _).mpr n
    refine GO 7 ?_;intro _ Y;refine aC Y rfl rfl ?_;exact⟨by unfold A6;rw[e];rfl,g.below⟩
   ·
    have e:yr l.length 12 40=true:=by unfold yr;exact(Bool.not_eq_true' _).mpr n
    have C:=yO e;refine GO 9 ?_;intro _ Y;refine aV Y g [0] (fun (j:Nat)=>[(3,ae (j:Nat))]) (fun (j:Nat)=>j≤l.length∧∀k (f:k<l.length),k<j→(!decide ((l[k].b.size:Int)>513))=true) (fun (j:Nat) L=>L) (fun (j:Nat)=>l.length-j) (0) (⟨Nat.zero_le _,fun k _ h=>absurd h (Nat.not_lt_zero _)⟩) bC (g) ?_;intro j _ _ s Y Z;refine GO 9 ?_;intro _ Y;refine ak (Y.ev rfl) (fun p=>?_) (fun p=>?_)
    ·
     have a:j<l.length:=by have:=of_decide_eq_true p;omega
     obtain⟨b,o,rfl,hB,_⟩:=hr.opened (aF aY au ab);refine GO 8 ?_;intro _ Y;refine sv Y (ar (i:=j) (sz:=3) en aa (Y.ev rfl) (Y.ev rfl) ab ab rfl) fun _ Y=>?_;refine sv Y (fy 2 (Y.ev rfl)) fun _ Y=>?_;refine sv Y (lx (Y.ev rfl) ((aL aY (Z.rd0 hr) a) 2 _ rfl)) fun _ Y=>?_;refine GO 4 ?_;intro _ Y;refine ak (Y.ev rfl) (fun r=>?_) (fun r=>?_)
     ·
      have d:(l.all fun x=>!decide ((x.b.size:Int)>513))=false:=List.all_eq_false.2 ⟨l[j],List.getElem_mem a,by rw[show decide ((l[j].b.size:Int)>513)=true from r];decide⟩;refine GO 11 ?_;intro _ Y;refine aC Y rfl rfl ?_;exact⟨by unfold A6;rw[e,d];rfl,Z.below⟩
     ·
      refine GO 9 ?_;intro _ Y;exact⟨j+1,ab,⟨a,fun k f t=>by rcases Nat.lt_or_eq_of_le (show k≤j by omega) with q | q;exact s.2 k f q;subst q;exact(Bool.not_eq_true' _).mpr r⟩,Y.re bC,Z⟩
    ·
     have u:l.length≤j:=by have:=of_decide_eq_false p;omega
     refine GO 11 ?_;intro _ Y;refine aC Y rfl rfl ?_
     have d:(l.all fun x=>!decide ((x.b.size:Int)>513))=true:=List.all_eq_true.2 fun x hx=>by obtain⟨k,f,rfl⟩:=List.getElem_of_mem hx;exact s.2 k f ab
     exact⟨by unfold A6;rw[e,d];rfl,Z.below⟩
end Go.Proofs.YtcfdpfmchchkaaaGreatDoor
