/-
  Chapter 22: plain words of histories: which are valid. No program in sight.
  Chapter 22: lists in the order of their keys; the table of a history. No program in sight.
  Chapter 21, plain words: the patches between two pages.
  Chapter 21, plain laws: the patches between two pages, applied, give the second one; they are apart; LSNs; redoing.
  Chapter 22: pages, redone; what is undone, and in which order. No program in sight.
  Rows of structs: lists of cells, each struct's cells behind the one before. No program in sight.
-/
import Derived.Test.YtcfdpfmchchkaaaGreatDoorOpEnt
namespace Go.Proofs.YtcfdpfmchchkaaaGreatDoor
set_option linter.unusedVariables false
set_option linter.unusedSimpArgs false
open Go.RowKit
instance opDec:DecidableEq Op:=fun x y=>decidable_of_iff (x.k=y.k∧x.a=y.a∧x.e=y.e∧x.c=y.c∧x.o=y.o∧x.n=y.n) (by cases x;cases y;simp)
structure Chn where
 l:Int
 k:Int
 u:Int
def rP (c:Chn) (n:Int) (x:Lge):Chn:=⟨n,x.k,if x.k=0 then n else if x.k=1 then x.x else c.u⟩
def dz (x:Lge):Bool:=x.k==0||x.k==1
def ei (l:List Rcd) (n:Int):Option Rcd:=l.find? fun x=>x.l==n
def df (l:List Rcd):Int:=match l with | []=>0 | x::_=>x.l
def gk (h0:Int) (x:Lge) (ended:Bool):Chn × Int:=if x.p>(if ended then 0 else h0-1) then (⟨0,0,0⟩,14) else (⟨x.p,if x.p≠0 then -1 else 0,if x.p≠0 then -1 else 0⟩,0)
def tg (k:Int):List Int:=if k=0 then [0,1,2,3,4] else if k=1 then [1,4] else if k=2 then [4] else if k=3 then [1,4] else []
def nZ (k c:Int):Bool:=(tg k).any fun x=>x==c
def jD (l:List Rcd) (i:Nat) (c:Chn) (x:Lge):Int:=if c.u=0 then 13 else match ei (l.take i) c.u with
 | none=>bo (decide (x.x<df l)) 13
 | some u=>bo (u.e.k==0&&x.x==u.e.p&&x.g==u.e.g&&x.f==u.e.f&&decide (x.o=ga u.e.o)) 13
def gy (h0:Int) (g:Int→Option Chn) (x:Lge):Chn × Int:=match g x.t with
 | some c=>if c.k=4 then gk h0 x true else (c,bo (x.p==c.l) 14)
 | none=>gk h0 x false
def Ck (x:Lge):Int:=if x.t≠0∨x.p≠0 then 3 else fJ (bl x.d)
def dK (l:List Rcd) (i:Nat) (x:Rcd):Int:=au [bo (bb x.l 1 2147483647) 2,bo (match cO l i with | none=>true | some y=>decide (y.l<x.l)) 9,dH x.e]
def ln (l:List Rcd) (i:Nat) (c:Chn × Int) (x:Lge):Int:=au [c.2,if c.1.k = -1 then 0 else bo (nZ c.1.k x.k) 20,if x.k=1 then jD l i c.1 x else 0]
def du (l:List Rcd) (i:Nat) (g:Int→Option Chn) (x:Rcd):Int:=
 if dK l i x≠0 then dK l i x else if x.e.k=5 then Ck x.e else if x.e.t=0 then 2 else ln l i (gy (df l) g x.e) x.e
def wF (g:Int→Option Chn) (t:Int) (c:Chn):Int→Option Chn:=fun s=>if s=t then some c else g s
def bG (l:List Rcd):Nat→Int→Option Chn
 | 0=>fun _=>none
 | i+1=>match l[i]? with
  | none=>bG l i
  | some x=>if x.e.k=5 then bG l i else wF (bG l i) x.e.t (rP (gy (df l) (bG l i) x.e).1 x.l x.e)
def eh (l:List Rcd):Int × Int:=if 100<l.length then (0,8) else cH (fun i x=>du l i (bG l i) x) 0 l
def bh (l:List Rcd) (t:Int):Nat→Option Nat
 | 0=>none
 | k+1=>match l[k]? with
  | none=>bh l t k
  | some x=>if x.e.k≠5∧x.e.t=t then some k else bh l t k
theorem eW {l:List Rcd} {t:Int}:∀{i k:Nat},bh l t i=some k→k<i∧∃x,l[k]? = some x∧x.e.k≠5∧x.e.t=t
 | 0,k,h=>by cases h
 | i+1,k,h=>by
  unfold bh at h
  split at h
  · obtain⟨h1,h2⟩:=eW h;exact⟨by omega,h2⟩
  · rename_i x hx
    split at h
    · rename_i hc
      cases h
      exact⟨by omega,x,hx,hc⟩
    · obtain⟨h1,h2⟩:=eW h;exact⟨by omega,h2⟩
def ib (l:List Rcd) (i:Nat):Int:=
 match l[i]? with
 | none=>0
 | some x=>if x.e.k=0 then x.l else if x.e.k=1 then x.e.x else
  match h:bh l x.e.t i with
  | none=>if x.e.p≠0 then -1 else 0
  | some k=>if (match l[k]? with | none=>false | some y=>y.e.k != 4) then ib l k else if x.e.p≠0 then -1 else 0
 termination_by i
 decreasing_by exact(eW h).1
def dI (l:List Rcd) (k:Nat):Int:=match l[k]? with | none=>0 | some y=>y.e.k
def jh (l:List Rcd) (k:Nat):Int:=match l[k]? with | none=>0 | some y=>y.l
def jR (l:List Rcd) (k:Nat):Chn:=⟨jh l k,dI l k,ib l k⟩
theorem mm {l:List Rcd} {k:Nat} (h:k<l.length):jh l k=l[k].l:=by unfold jh;rw[List.getElem?_eq_getElem h]
theorem gE {l:List Rcd} {k:Nat} (h:k<l.length):dI l k=l[k].e.k:=by unfold dI;rw[List.getElem?_eq_getElem h]
theorem nC {l:List Rcd} {i:Nat} (hi:i<l.length):ib l i=if l[i].e.k=0 then l[i].l else if l[i].e.k=1 then l[i].e.x else
 match bh l l[i].e.t i with
 | none=>if l[i].e.p≠0 then -1 else 0
 | some k=>if dI l k≠4∧k<l.length then ib l k else if l[i].e.p≠0 then -1 else 0:=by
 rw[ib,List.getElem?_eq_getElem hi];simp only;by_cases h0:l[i].e.k=0
 · rw[if_pos h0,if_pos h0]
 rw[if_neg h0,if_neg h0];by_cases h1:l[i].e.k=1
 · rw[if_pos h1,if_pos h1]
 rw[if_neg h1,if_neg h1]
 split
 · rename_i hb;rw[hb]
 · rename_i k hb
   rw[hb];simp only;obtain⟨hk,x,hx,_⟩:=eW hb;have hkl:k<l.length:=(List.getElem?_eq_some_iff.1 hx).1;unfold dI;rw[hx];simp only;by_cases h4:x.e.k=4
   · simp[h4]
   · rw[if_pos (by simpa using h4),if_pos ⟨h4,hkl⟩]
theorem rA {l:List Rcd} {t:Int} {k:Nat} (h:k<l.length):bh l t (k+1)=if l[k].e.k≠5∧l[k].e.t=t then some k else bh l t k:=by
 rw[bh,List.getElem?_eq_getElem h]
theorem ma {l:List Rcd} {k:Nat} (h:k<l.length):bG l (k+1)=if l[k].e.k=5 then bG l k else wF (bG l k) l[k].e.t (rP (gy (df l) (bG l k) l[k].e).1 l[k].l l[k].e):=by
 rw[bG,List.getElem?_eq_getElem h]
theorem gX {h0:Int} {x:Lge} {b:Bool} (h:(gk h0 x b).2=0):x.p≤(if b then 0 else h0-1)∧(gk h0 x b).1=⟨x.p,if x.p≠0 then -1 else 0,if x.p≠0 then -1 else 0⟩:=by
 unfold gk at h ⊢;by_cases hc:x.p>(if b=true then 0 else h0-1)
 · rw[if_pos hc] at h;cases h
 · rw[if_neg hc]
   exact⟨by omega,rfl⟩
theorem iZ {l:List Rcd} {i:Nat} {g:Int→Option Chn} {x:Rcd} (h:du l i g x=0):dK l i x=0∧(x.e.k=5→Ck x.e=0)∧(x.e.k≠5→x.e.t≠0∧(gy (df l) g x.e).2=0 ∧
 ((gy (df l) g x.e).1.k = -1∨nZ (gy (df l) g x.e).1.k x.e.k=true)∧(x.e.k=1→jD l i (gy (df l) g x.e).1 x.e=0)):=by
 unfold du at h
 split at h
 · rename_i h1;exact absurd h h1
 rename_i h1
 have h1:=Classical.not_not.1 h1;refine⟨h1,fun h5=>by rw[if_pos h5] at h;exact h,fun h5=>?_⟩;rw[if_neg h5] at h
 split at h
 · cases h
 rename_i ht
 unfold ln at h;rw[aQ] at h;simp only[List.mem_cons,List.not_mem_nil,or_false,forall_eq_or_imp,forall_eq] at h;obtain⟨a1,a2,a3⟩:=h;refine⟨ht,a1,?_,fun hk=>by rw[if_pos hk] at a3;exact a3⟩
 split at a2
 · rename_i hc;exact .inl hc
 · exact .inr ((aM ar).1 a2)
theorem kj {l:List Rcd}:∀i,i≤l.length→(∀k (hk:k<l.length),k<i→du l k (bG l k) l[k]=0)→∀t,bG l i t=(bh l t i).map (jR l)
 | 0,_,_,t=>rfl
 | i+1,hi,h,t=>by
  have ih:=kj i ab (fun k hk hki=>h k hk ab)
  have hlt:i<l.length:=by omega
  rw[ma hlt,rA hlt];by_cases h5:l[i].e.k=5
  · rw[if_pos h5,if_neg (by simp[h5])];exact ih t
  rw[if_neg h5];obtain⟨_,_,hr⟩:=iZ (h i hlt ab);obtain⟨h1,h2,h3,h4⟩:=hr h5;unfold wF;by_cases ht:t=l[i].e.t
  · subst ht
    rw[if_pos rfl,if_pos ⟨h5,rfl⟩,Option.map_some]
    congr 1
    unfold rP jR;rw[mm hlt,gE hlt,nC hlt]
    congr 1
    by_cases k0:l[i].e.k=0
    · rw[if_pos k0,if_pos k0]
    rw[if_neg k0,if_neg k0];by_cases k1:l[i].e.k=1
    · rw[if_pos k1,if_pos k1]
    rw[if_neg k1,if_neg k1];have hih:=ih l[i].e.t;unfold gy at h2 ⊢
    cases hb:bh l l[i].e.t i with
    | none=>
     rw[hb] at hih;rw[hih] at h2 ⊢;simp only[Option.map_none] at h2 ⊢;rw[(gX h2).2]
    | some k=>
     rw[hb] at hih;rw[hih] at h2 ⊢;simp only[Option.map_some] at h2 ⊢;obtain⟨hk,x,hx,_⟩:=eW hb
     have hkl:k<l.length:=by omega
     by_cases h4:dI l k=4
     · have e:(jR l k).k=4:=h4
       rw[if_pos e] at h2 ⊢;rw[if_neg (by simp[h4]),(gX h2).2]
     · have e:¬(jR l k).k=4:=h4
       rw[if_neg e] at h2 ⊢;rw[if_pos ⟨h4,hkl⟩];rfl
  · rw[if_neg ht,if_neg (by rintro ⟨_,q⟩;exact ht q.symm)];exact ih t
theorem zI {l:List Rcd} {i:Nat} (hi:i<l.length) (h:∀k (hk:k<l.length),k≤i→du l k (bG l k) l[k]=0) (h5:l[i].e.k≠5) :
 (l[i].e.p≤df l-1∧(bh l l[i].e.t i=none∨l[i].e.p≤0))∨∃k,bh l l[i].e.t i=some k∧dI l k≠4∧l[i].e.p=jh l k:=by
 have hc:=kj i ab (fun k hk hki=>h k hk ab) l[i].e.t;obtain⟨h0,_,hr⟩:=iZ (h i hi (Nat.le_refl _));obtain⟨h1,h2,h3,h4⟩:=hr h5
 have hf:1≤df l:=by
  have hl:0<l.length:=by omega
  obtain⟨z0,_,_⟩:=iZ (h 0 hl (Nat.zero_le _));unfold dK at z0;rw[aQ] at z0;have:=inB_true.1 ((aM ar).1 (z0 _ (.head _)))
  match l,hl with
  | x::r,_=>exact this.1
 unfold gy at h2
 cases hb:bh l l[i].e.t i with
 | none=>
  rw[hb] at hc;rw[hc] at h2;simp only[Option.map_none] at h2;have:=(gX h2).1;simp only[Bool.false_eq_true,if_false] at this;exact .inl ⟨by omega,.inl rfl⟩
 | some k=>
  rw[hb] at hc;rw[hc] at h2;simp only[Option.map_some] at h2;by_cases h4:dI l k=4
  · have e:(jR l k).k=4:=h4
    rw[if_pos e] at h2;have:=(gX h2).1;simp only[if_true] at this;exact .inl ⟨by omega,.inr ab⟩
  · have e:¬(jR l k).k=4:=h4
    rw[if_neg e] at h2
    right
    have h6:=(aM ar).1 h2;rw[beq_iff_eq] at h6;exact⟨k,rfl,h4,h6⟩
open Go.RowKit
section
variable {α:Type} (κ:α→Int)
def bV (l:List α) (i:Int):Option α:=l.find? fun x=>κ x==i
def jC (l:List α) (x:α):List α:=l.filter (fun y=>decide (κ y<κ x)) ++ x::l.filter (fun y=>decide (κ x<κ y))
def p4 (l:List α) (i:Int):List α:=l.filter fun y=>decide (κ y≠i)
def bZ (l:List α):Prop:=l.Pairwise fun x y=>κ x<κ y
variable {κ}
theorem iz (p:α→Bool) (l:List α) (i:Int) (h:∀x∈l,κ x=i→p x=true):bV κ (l.filter p) i=bV κ l i:=by
 unfold bV
 induction l with
 | nil=>rfl
 | cons x l ih=>
  have ih:=ih fun y hy=>h y (List.mem_cons_of_mem _ hy);rw[List.filter_cons,List.find?_cons];by_cases hx:κ x=i
  · rw[if_pos (h x (List.mem_cons_self ..) hx),List.find?_cons,beq_iff_eq.2 hx]
  · have e:(κ x==i)=false:=by simpa using hx
    rw[e]
    split
    · rw[List.find?_cons,e];exact ih
    · exact ih
theorem da (l:List α) (i:Int) (h:∀x∈l,κ x≠i):bV κ l i=none:=by
 unfold bV;rw[List.find?_eq_none];intro x hx
 simpa using h x hx
theorem eK {l:List α} {i:Int} {x:α} (h:bV κ l i=some x):x∈l∧κ x=i:=by
 unfold bV at h;exact⟨List.mem_of_find?_eq_some h,by simpa using List.find?_some h⟩
theorem qB (l:List α) (x:α) (i:Int):bV κ (jC κ l x) i=if i=κ x then some x else bV κ l i:=by
 have e:bV κ (jC κ l x) i=(bV κ (l.filter (fun y=>decide (κ y<κ x))) i).or (bV κ (x::l.filter (fun y=>decide (κ x<κ y))) i):=by
  unfold bV jC;rw[List.find?_append]
 rw[e];by_cases hi:i=κ x
 · rw[if_pos hi,da (l.filter (fun y=>decide (κ y<κ x))) i fun y hy=>by
    have:=List.mem_filter.1 hy;have:=of_decide_eq_true this.2
    omega]
   unfold bV;rw[List.find?_cons,beq_iff_eq.2 hi.symm];rfl
 · rw[if_neg hi]
   have e2:bV κ (x::l.filter (fun y=>decide (κ x<κ y))) i=bV κ (l.filter (fun y=>decide (κ x<κ y))) i:=by
    unfold bV
    have:(κ x==i)=false:=by simpa using fun q=>hi q.symm
    rw[List.find?_cons,this]
   rw[e2];rcases Int.lt_trichotomy i (κ x) with h | h | h
   · rw[iz _ l i fun y _ hy=>decide_eq_true ab,da (l.filter (fun y=>decide (κ x<κ y))) i fun y hy=>by
      have:=of_decide_eq_true (List.mem_filter.1 hy).2
      omega]
     simp
   · exact absurd h hi
   · rw[da (l.filter (fun y=>decide (κ y<κ x))) i fun y hy=>by
      have:=of_decide_eq_true (List.mem_filter.1 hy).2
      omega,iz _ l i fun y _ hy=>decide_eq_true ab]
     simp
theorem zg (l:List α) (k i:Int):bV κ (p4 κ l k) i=if i=k then none else bV κ l i:=by
 unfold p4;by_cases hi:i=k
 · rw[if_pos hi]
   exact da _ _ fun y hy=>by
    have:=of_decide_eq_true (List.mem_filter.1 hy).2;omega
 · rw[if_neg hi]
   exact iz _ l i fun y _ hy=>decide_eq_true ab
theorem uP {l:List α} (h:bZ κ l) (x:α):bZ κ (jC κ l x):=by
 unfold bZ jC at *;rw[List.pairwise_append,List.pairwise_cons];refine⟨h.filter _,⟨fun y hy=>of_decide_eq_true (List.mem_filter.1 hy).2,h.filter _⟩,fun y hy z hz=>?_⟩;have h1:=of_decide_eq_true (List.mem_filter.1 hy).2;rcases List.mem_cons.1 hz with rfl | hz
 · exact h1
 · have h2:=of_decide_eq_true (List.mem_filter.1 hz).2
   omega
theorem Az {l:List α} (h:bZ κ l) (k:Int):bZ κ (p4 κ l k):=h.filter _
theorem uI:bZ κ []:=.nil
theorem fD {l:List α} (h:bZ κ l) {x:α} (hx:x∈l):bV κ l (κ x)=some x:=by
 unfold bZ at h;unfold bV
 induction l with
 | nil=>cases hx
 | cons y l ih=>
  rw[List.pairwise_cons] at h;rcases List.mem_cons.1 hx with rfl | hx
  · rw[List.find?_cons,beq_self_eq_true]
  · have:=h.1 x hx
    have e:(κ y==κ x)=false:=by rw[beq_eq_false_iff_ne];omega
    rw[List.find?_cons,e];exact ih h.2 hx
theorem zN {a b:List α} (ha:bZ κ a) (hb:bZ κ b) (h:∀i,bV κ a i=bV κ b i):a=b:=by
 have hm:∀x,x∈a↔x∈b:=fun x=>
  ⟨fun hx=>(eK ((h (κ x)).symm.trans (fD ha hx))).1,fun hx=>(eK ((h (κ x)).trans (fD hb hx))).1⟩
 clear h;unfold bZ at ha hb
 induction a generalizing b with
 | nil=>
  cases b with
  | nil=>rfl
  | cons y b=>exact absurd ((hm y).2 (List.mem_cons_self ..)) List.not_mem_nil
 | cons x a ih=>
  cases b with
  | nil=>exact absurd ((hm x).1 (List.mem_cons_self ..)) List.not_mem_nil
  | cons y b=>
   rw[List.pairwise_cons] at ha hb
   have hxy:x=y:=by
    rcases List.mem_cons.1 ((hm x).1 (List.mem_cons_self ..)) with h1 | h1
    · exact h1
    · rcases List.mem_cons.1 ((hm y).2 (List.mem_cons_self ..)) with h2 | h2
      · exact h2.symm
      · have:=hb.1 x h1
        have:=ha.1 y h2;omega
   subst hxy
   congr 1
   refine ih ha.2 hb.2 fun z=>?_;have:=hm z;simp only[List.mem_cons] at this
   constructor
   · intro hz
     rcases this.1 (.inr hz) with rfl | h1
     · have:=ha.1 _ hz;omega
     · exact h1
   · intro hz
     rcases this.2 (.inr hz) with rfl | h1
     · have:=hb.1 _ hz;omega
     · exact h1
theorem mA {a:List α} (ha:bZ κ a) {b:List α} (hb:bZ κ b) (h:∀x,x∈a↔x∈b):a=b:=
 zN ha hb fun i=>by
  cases h1:bV κ a i with
  | none=>
   cases h2:bV κ b i with
   | none=>rfl
   | some y=>
    obtain⟨m,e⟩:=eK h2;have:=fD ha ((h y).2 m);rw[e,h1] at this;cases this
  | some x=>
   obtain⟨m,e⟩:=eK h1;have:=fD hb ((h x).1 m);rw[e] at this;exact this.symm
theorem srt_get {l:List α}:bZ κ l↔∀k (h:k+1<l.length),κ l[k]<κ l[k+1]:=by
 unfold bZ;rw[List.pairwise_iff_getElem]
 constructor
 · intro h k hk;exact h k (k+1) ab hk ab
 · intro h i j hi hj hij
   obtain⟨d,rfl⟩:∃d,j=i+1+d:=⟨j-(i+1),by omega⟩;clear hij
   induction d with
   | zero=>exact h i hj
   | succ d ih=>exact Int.lt_trans (ih ab) (h (i+1+d) hj)
end
def dT (l:List Trn) (i:Int):Option Trn:=bV Trn.i l i
def dn (l:List Dty) (g:Int):Option Dty:=bV Dty.g l g
def mR:Trn:=⟨0,0,0,false⟩
def rO (t:Tbl) (x:Rcd):Trn:=⟨x.e.t,x.l,if x.e.k=0 then x.l else if x.e.k=1 then x.e.x else ((dT t.ts x.e.t).getD mR).u,x.e.k==2||((dT t.ts x.e.t).getD mR).c⟩
def jw (t:Tbl) (x:Rcd):List Dty:=if dz x.e=true∧dn t.ds x.e.g=none then jC Dty.g t.ds ⟨x.e.g,x.e.f,x.l⟩ else t.ds
def ej (t:Tbl) (x:Rcd):Tbl:=if x.e.k=5 then t else ⟨if x.e.k=4 then p4 Trn.i t.ts x.e.t else jC Trn.i t.ts (rO t x),jw t x⟩
structure SrtT (t:Tbl):Prop where
 ts:bZ Trn.i t.ts
 ds:bZ Dty.g t.ds
theorem nD:SrtT gn:=⟨uI,uI⟩
theorem SrtT.chg {t:Tbl} (h:SrtT t) (x:Rcd):SrtT (ej t x):=by
 unfold ej
 split
 · exact h
 · refine⟨?_,?_⟩
   · split
     · exact Az h.ts _
     · exact uP h.ts _
   · show bZ Dty.g (jw t x)
     unfold jw
     split
     · exact uP h.ds _
     · exact h.ds
theorem SrtT.fold {l:List Rcd}:∀{t:Tbl},SrtT t→SrtT (l.foldl ej t):=by
 induction l with
 | nil=>exact fun h=>h
 | cons x l ih=>exact fun h=>ih (h.chg x)
theorem TblOk.srt {t:Tbl} (h:TblOk t):SrtT t:=⟨srt_get.2 h.tord,srt_get.2 h.dord⟩
def AL (t0:Tbl) (l:List Rcd):Tbl × Int:=if dw (l.foldl ej t0)≠0 then (gn,dw (l.foldl ej t0)) else (l.foldl ej t0,0)
def gR (l:List Rcd) (a:Int):Tbl × Int:=if a=0 then AL gn l else match ei l a with
 | none=>(gn,6)
 | some x=>if x.e.k≠5 then (gn,6) else AL (cV (bl x.e.d)) (l.filter fun y=>decide (a<y.l))
open Go.RowKit
open Go.RowKit
def BY (p:ByteArray):Int:=num (((bl p).drop 8).take 4) % 2147483648
def ti (p:ByteArray) (n:Int):ByteArray:=sV p 8 (bs (lit n 4))
theorem oO {p:ByteArray} {n:Int} (hp:p.size=512):(ti p n).size=512:=by
 have h1:(bs (lit n 4)).size=4:=by rw[fX,jy]
 rw[←aN];unfold ti;rw[ui,List.length_append,List.length_append,List.length_take,List.length_drop,aN,aN,h1,hp];rfl
def nv (n:Int):Int:=bo (bb n 1 2147483647) 2
def iK (p:ByteArray) (plain:Bool) (n:Int) (x:Op):ByteArray × Bool × Int:=
 if au [cd p,nv n,fi x]≠0 then (⟨#[]⟩,false,au [cd p,nv n,fi x])
 else if plain then (if x.k=2∨x.k=3 then (⟨#[]⟩,false,15) else (gd p x,!(bl (gd p x)==bl p),0))
 else if n≤BY p then (p,false,0)
 else if e8 p x then (ti (gd p x) n,true,0) else (⟨#[]⟩,false,13)
theorem zo {p:ByteArray} {plain:Bool} {n:Int} {x:Op} (hp:p.size=512) (hn:bb n 1 2147483647=true) (hx:fi x=0) :
 iK p plain n x=if plain then (if x.k=2∨x.k=3 then (⟨#[]⟩,false,15) else (gd p x,!(bl (gd p x)==bl p),0)) else if n≤BY p then (p,false,0) else if e8 p x then (ti (gd p x) n,true,0) else (⟨#[]⟩,false,13):=by
 have e1:nv n=0:=by unfold nv;rw[hn];rfl
 have e3:cd p=0:=by unfold cd;rw[hp];rfl
 have e2:au [cd p,nv n,fi x]=0:=by rw[e3,e1,hx];rfl
 unfold iK
 rw[e2,if_neg (fun g=>g rfl)]
open Go.RowKit
def wq (p:Option Pgp) (x:Pgp):Int:=au [bo (bb x.g 0 600) 2,bo (match p with | none=>true | some y=>decide (y.g<x.g)) 9,bo (x.b.size==512) 10]
def sE (l:List Pgp):Int × Int:=cH (fun i x=>wq (cO l i) x) 0 l
def jk (l:List Pgp):Int:=if 40<l.length then 8 else (sE l).2
def ki (l:List Pgp) (g:Int):Option Pgp:=bV Pgp.g l g
def jo (p:List Pgp) (x:Rcd):Int:=if dz x.e=true then (match ki p x.e.g with | none=>6 | some q=>bo (q.f==x.e.f) 13) else 0
def nf (l:List Rcd) (p:List Pgp):Int:=if jk p≠0 then jk p else (cH (fun _ x=>jo p x) 0 l).2
structure PgpOk (x:Pgp):Prop where
 g:0≤x.g∧x.g≤600
 b:x.b.size=512
structure PgsOk (l:List Pgp):Prop where
 n:l.length≤40
 all:∀k (h:k<l.length),PgpOk l[k]
 srt:bZ Pgp.g l
theorem pgpE_zero {p:Option Pgp} {x:Pgp}:wq p x=0↔PgpOk x∧∀y,p=some y→y.g<x.g:=by
 unfold wq;rw[aQ];simp only[List.mem_cons,List.not_mem_nil,or_false,forall_eq_or_imp,forall_eq];rw[aM ar,aM ar,aM ar,inB_true,beq_iff_eq]
 constructor
 · rintro ⟨h1,h2,h3⟩
   refine⟨⟨h1,h3⟩,fun y hy=>?_⟩;subst hy;simpa using h2
 · rintro ⟨⟨h1,h3⟩,h2⟩
   refine⟨h1,?_,h3⟩
   cases p with
   | none=>rfl
   | some y=>simpa using h2 y rfl
theorem pgsE1_zero {l:List Pgp}:jk l=0↔PgsOk l:=by
 unfold jk sE
 constructor
 · intro h
   split at h
   · cases h
   have h:=(cA _ _).1 h;refine⟨by omega,fun k hk=>(pgpE_zero.1 (h k hk)).1,srt_get.2 fun k hk=>?_⟩;exact(pgpE_zero.1 (h (k+1) hk)).2 _ (eb _ _ _)
 · intro h
   rw[if_neg (by have:=h.n;omega),cA];intro k hk;rw[pgpE_zero];refine⟨h.all k hk,fun y hy=>?_⟩
   cases k with
   | zero=>cases hy
   | succ k=>rw[eb _ _ ab] at hy;cases hy;exact srt_get.1 h.srt k hk
def gi (l:List Pgp) (g:Int) (s:ByteArray):List Pgp:=l.map fun q=>if q.g=g then ⟨q.g,q.f,s⟩ else q
theorem eY (l:List Pgp) (g:Int) (s:ByteArray):(gi l g s).length=l.length:=List.length_map ..
theorem qF {l:List Pgp} {g:Int} {s:ByteArray} {k:Nat} (hk:k<(gi l g s).length) (hk':k<l.length):(gi l g s)[k]=if l[k].g=g then ⟨l[k].g,l[k].f,s⟩ else l[k]:=by
 have h1:(gi l g s)[k]? = some (if l[k].g=g then ⟨l[k].g,l[k].f,s⟩ else l[k]):=by
  unfold gi;rw[List.getElem?_map,List.getElem?_eq_getElem hk'];rfl
 rw[List.getElem?_eq_getElem hk] at h1;exact Option.some.inj h1
theorem yd (l:List Pgp) (g:Int) (s:ByteArray):(gi l g s).map Pgp.g=l.map Pgp.g:=by
 unfold gi;rw[List.map_map];apply List.map_congr_left;intro q _;show(if q.g=g then (⟨q.g,q.f,s⟩:Pgp) else q).g=q.g
 split<;>rfl
theorem uE {l:List Pgp} (h:PgsOk l) (g:Int) (s:ByteArray) (hs:s.size=512):PgsOk (gi l g s):=by
 refine⟨by rw[eY];exact h.n,fun k hk=>?_,?_⟩
 · have hk':k<l.length:=by rw[eY] at hk;exact hk
   rw[qF hk hk'];have h1:=h.all k hk'
   split
   · exact⟨h1.g,hs⟩
   · exact h1
 · have h1:=h.srt
   unfold bZ at h1 ⊢;have h2:(l.map Pgp.g).Pairwise (·<·):=List.pairwise_map.2 h1;rw[←yd l g s] at h2;exact List.pairwise_map.1 h2
theorem xH (l:List Pgp) (g:Int) (s:ByteArray) (i:Int):ki (gi l g s) i=if i=g then (ki l g).map (fun q=>⟨q.g,q.f,s⟩) else ki l i:=by
 unfold ki bV gi
 induction l with
 | nil=>simp
 | cons q l ih=>
  rw[List.map_cons,List.find?_cons,List.find?_cons,List.find?_cons];by_cases hq:q.g=g
  · rw[if_pos hq]
    simp only;by_cases hi:i=g
    · have e1:(q.g==i)=true:=by rw[beq_iff_eq];omega
      have e2:(q.g==g)=true:=by rw[beq_iff_eq];omega
      rw[e1,e2,if_pos hi];rfl
    · have e1:(q.g==i)=false:=by rw[beq_eq_false_iff_ne];omega
      rw[e1,if_neg hi];rw[if_neg hi] at ih;exact ih
  · rw[if_neg hq]
    by_cases hi:i=g
    · have e1:(q.g==i)=false:=by rw[beq_eq_false_iff_ne];omega
      have e2:(q.g==g)=false:=by rw[beq_eq_false_iff_ne];omega
      rw[e1,e2];simp only;exact ih
    · by_cases hqi:q.g=i
      · have e1:(q.g==i)=true:=by rw[beq_iff_eq];exact hqi
        rw[e1,if_neg hi]
      · have e1:(q.g==i)=false:=by rw[beq_eq_false_iff_ne];exact hqi
        rw[e1];rw[if_neg hi] at ih ⊢;exact ih
theorem za {l:List Pgp} (h:bZ Pgp.g l) {k:Nat} (hk:k<l.length) (s:ByteArray):gi l l[k].g s=l.set k ⟨l[k].g,l[k].f,s⟩:=by
 unfold bZ at h;rw[List.pairwise_iff_getElem] at h;apply List.ext_getElem (by rw[eY,List.length_set]);intro j h1 h2;rw[eY] at h1;have h1':=h1;rw[qF (by rw[eY];exact h1') h1',List.getElem_set];by_cases hj:k=j
 · subst hj
   rw[if_pos rfl,if_pos rfl]
 · rw[if_neg hj,if_neg]
   intro q;rcases Nat.lt_or_gt_of_ne hj with h3 | h3
   · have:=h k j hk h1 h3;omega
   · have:=h j k h1 hk h3;omega
def tF (t:Tbl) (x:Rcd):Bool:=dz x.e&&match dn t.ds x.e.g with | none=>false | some d=>decide (d.l≤x.l)
def im (t:Tbl):List Pgp→Int→List Rcd→List Pgp × Int × Int
 | p,n,[]=>(p,n,0)
 | p,n,x::r=>if tF t x=true then (match ki p x.e.g with
  | none=>([],0,0)
  | some q=>if (iK q.b q.f x.l x.e.o).2.2≠0 then ([],0,(iK q.b q.f x.l x.e.o).2.2) else im t (gi p x.e.g (iK q.b q.f x.l x.e.o).1) (n+nV (iK q.b q.f x.l x.e.o).2.1) r) else im t p n r
structure Los where
 j:Nat
 i:Int
 u:Int
def vE:Nat→List Trn→List Los
 | _,[]=>[]
 | j,x::l=>if x.c then vE (j+1) l else ⟨j,x.i,x.u⟩::vE (j+1) l
def zQ:List Los→Option Los
 | []=>none
 | x::l=>match zQ l with
  | none=>some x
  | some y=>if y.u>x.u then some y else some x
structure Stp where
 r:Rcd
 j:Nat
 z:Bool
def vd (l:List Los) (j:Nat) (u:Int):List Los:=l.map fun x=>if x.j=j then ⟨x.j,x.i,u⟩ else x
def dr (x:Lge):Int:=if x.k=1 then x.x else x.p
def nR (l:List Rcd):Nat→List Los→List Stp × Int
 | f,us=>match zQ us with
  | none=>([],0)
  | some b=>if b.u=0 then ([],0) else match ei l b.u with
   | none=>([],6)
   | some r=>if dz r.e=true∧r.e.t=b.i then (match f with
    | 0=>([],26)
    | f+1=>if (nR l f (vd us b.j (dr r.e))).2≠0 then ([],(nR l f (vd us b.j (dr r.e))).2) else (⟨r,b.j,decide (dr r.e=0)⟩::(nR l f (vd us b.j (dr r.e))).1,0)) else ([],6)
def BU (l:List Rcd) (t:Tbl):List Stp × Int:=nR l 100 (vE 0 t.ts)
def CD (l:List Rcd) (t:Tbl):List Int:=((BU l t).1.filter fun s=>s.r.e.k==0).map fun s=>s.r.l
open Go.RowKit Go.Sort
section
variable {α:Type} {f:α→List Value} {n:Nat}
theorem ph (hf:∀x,(f x).length=n) (l:List α) (k:Nat):(l.flatMap f).drop (k*n)=(l.drop k).flatMap f:=by
 induction l generalizing k with
 | nil=>simp
 | cons x l ih=>
  cases k with
  | zero=>simp
  | succ k=>
   rw[List.flatMap_cons,List.drop_succ_cons,←ih k,Nat.succ_mul,Nat.add_comm,←List.drop_drop,List.drop_left' (hf x)]
theorem wj (hf:∀x,(f x).length=n) (l:List α) (k:Nat):(l.flatMap f).take (k*n)=(l.take k).flatMap f:=by
 induction l generalizing k with
 | nil=>simp
 | cons x l ih=>
  cases k with
  | zero=>simp
  | succ k=>
   rw[List.flatMap_cons,List.take_succ_cons,List.flatMap_cons,←ih k,Nat.succ_mul,Nat.add_comm,List.take_append,List.take_of_length_le (by rw[hf];omega),hf,Nat.add_sub_cancel_left]
theorem oq (hf:∀x,(f x).length=n) (l:List α) {k:Nat} (hk:k<l.length) {j:Nat} {u:Value} (hu:(f l[k])[j]? = some u):(l.flatMap f)[k*n+j]? = some u:=by
 rw[←List.getElem?_drop,ph hf,List.drop_eq_getElem_cons hk,List.flatMap_cons,List.getElem?_append_left (List.getElem?_eq_some_iff.1 hu).1];exact hu
theorem aW {X:World} {B b o:Nat} {l:List α} {k:Nat} (hf:∀x,(f x).length=n) (h:Rd X B (some ⟨b,o,none⟩) (l.flatMap f)) (hk:k<l.length):∀(j:Nat) (u:Value),(f l[k])[j]? = some u→X.cell? ⟨b,o+k*n+j,none⟩=some u:=fun j u hu=>by
 obtain⟨b',o',e,_,hc⟩:=h (k*n+j) u (oq hf l hk hu);injection e with e;injection e with e1 e2;subst e1 e2;rw[Nat.add_assoc];exact hc
end
end Go.Proofs.YtcfdpfmchchkaaaGreatDoor
