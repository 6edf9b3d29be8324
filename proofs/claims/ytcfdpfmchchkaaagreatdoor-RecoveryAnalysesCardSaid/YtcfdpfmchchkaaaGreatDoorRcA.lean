/-
  Chapter 22: plain words of histories: which are valid. No program in sight.
  Chapter 22: lists in the order of their keys; the table of a history. No program in sight.
  Chapter 21, plain words: the patches between two pages.
  Chapter 21, plain laws: the patches between two pages, applied, give the second one; they are apart; LSNs; redoing.
  Chapter 22: pages, redone; what is undone, and in which order. No program in sight.
  Rows of structs: lists of cells, each struct's cells behind the one before. No program in sight.
-/
import Derived.Test.YtcfdpfmchchkaaaGreatDoorOpEnt
import Derived.Test.YtcfdpfmchchkaaaGreatDoorSplD
namespace Go.Proofs.YtcfdpfmchchkaaaGreatDoor
set_option linter.unusedVariables false
set_option linter.unusedSimpArgs false
open Go.RowKit
instance opDec:DecidableEq Op:=fun x y=>decidable_of_iff (x.k=y.k∧x.a=y.a∧x.e=y.e∧x.c=y.c∧x.o=y.o∧x.n=y.n) (by cases x;cases y;simp)
structure Chn where
 l:Int
 k:Int
 u:Int
def pY (c:Chn) (n:Int) (x:Lge):Chn:=⟨n,x.k,if x.k=0 then n else if x.k=1 then x.x else c.u⟩
def du (x:Lge):Bool:=x.k==0||x.k==1
def dY (l:List Rcd) (n:Int):Option Rcd:=l.find? fun x=>x.l==n
def dt (l:List Rcd):Int:=match l with | []=>0 | x::_=>x.l
def fV (h0:Int) (x:Lge) (ended:Bool):Chn × Int:=if x.p>(if ended then 0 else h0-1) then (⟨0,0,0⟩,14) else (⟨x.p,if x.p≠0 then -1 else 0,if x.p≠0 then -1 else 0⟩,0)
def qU (k:Int):List Int:=if k=0 then [0,1,2,3,4] else if k=1 then [1,4] else if k=2 then [4] else if k=3 then [1,4] else []
def nf (k c:Int):Bool:=(qU k).any fun x=>x==c
def jo (l:List Rcd) (i:Nat) (c:Chn) (x:Lge):Int:=if c.u=0 then 13 else match dY (l.take i) c.u with
 | none=>bL (decide (x.x<dt l)) 13
 | some u=>bL (u.e.k==0&&x.x==u.e.p&&x.g==u.e.g&&x.f==u.e.f&&decide (x.o=jb u.e.o)) 13
def gD (h0:Int) (g:Int→Option Chn) (x:Lge):Chn × Int:=match g x.t with
 | some c=>if c.k=4 then fV h0 x true else (c,bL (x.p==c.l) 14)
 | none=>fV h0 x false
def Ae (x:Lge):Int:=if x.t≠0∨x.p≠0 then 3 else fC (bl x.d)
def dV (l:List Rcd) (i:Nat) (x:Rcd):Int:=aO [bL (bH x.l 1 2147483647) 2,bL (match cW l i with | none=>true | some y=>decide (y.l<x.l)) 9,eu x.e]
def k6 (l:List Rcd) (i:Nat) (c:Chn × Int) (x:Lge):Int:=aO [c.2,if c.1.k = -1 then 0 else bL (nf c.1.k x.k) 20,if x.k=1 then jo l i c.1 x else 0]
def dA (l:List Rcd) (i:Nat) (g:Int→Option Chn) (x:Rcd):Int:=
 if dV l i x≠0 then dV l i x else if x.e.k=5 then Ae x.e else if x.e.t=0 then 2 else k6 l i (gD (dt l) g x.e) x.e
def u6 (g:Int→Option Chn) (t:Int) (c:Chn):Int→Option Chn:=fun s=>if s=t then some c else g s
def ca (l:List Rcd):Nat→Int→Option Chn
 | 0=>fun _=>none
 | i+1=>match l[i]? with
  | none=>ca l i
  | some x=>if x.e.k=5 then ca l i else u6 (ca l i) x.e.t (pY (gD (dt l) (ca l i) x.e).1 x.l x.e)
def fh (l:List Rcd):Int × Int:=if 100<l.length then (0,8) else dn (fun i x=>dA l i (ca l i) x) 0 l
def bK (l:List Rcd) (t:Int):Nat→Option Nat
 | 0=>none
 | k+1=>match l[k]? with
  | none=>bK l t k
  | some x=>if x.e.k≠5∧x.e.t=t then some k else bK l t k
theorem eZ {l:List Rcd} {t:Int}:∀{i k:Nat},bK l t i=some k→k<i∧∃x,l[k]? = some x∧x.e.k≠5∧x.e.t=t
 | 0,k,h=>by cases h
 | i+1,k,h=>by
  unfold bK at h
  split at h
  · obtain⟨h1,h2⟩:=eZ h;exact⟨by omega,h2⟩
  · rename_i x hx
    split at h
    · rename_i hc
      cases h
      exact⟨by omega,x,hx,hc⟩
    · obtain⟨h1,h2⟩:=eZ h;exact⟨by omega,h2⟩
def gF (l:List Rcd) (i:Nat):Int:=
 match l[i]? with
 | none=>0
 | some x=>if x.e.k=0 then x.l else if x.e.k=1 then x.e.x else
  match h:bK l x.e.t i with
  | none=>if x.e.p≠0 then -1 else 0
  | some k=>if (match l[k]? with | none=>false | some y=>y.e.k != 4) then gF l k else if x.e.p≠0 then -1 else 0
 termination_by i
 decreasing_by exact(eZ h).1
def dM (l:List Rcd) (k:Nat):Int:=match l[k]? with | none=>0 | some y=>y.e.k
def iX (l:List Rcd) (k:Nat):Int:=match l[k]? with | none=>0 | some y=>y.l
def jP (l:List Rcd) (k:Nat):Chn:=⟨iX l k,dM l k,gF l k⟩
theorem mn {l:List Rcd} {k:Nat} (h:k<l.length):iX l k=l[k].l:=by unfold iX;rw[List.getElem?_eq_getElem h]
theorem eC {l:List Rcd} {k:Nat} (h:k<l.length):dM l k=l[k].e.k:=by unfold dM;rw[List.getElem?_eq_getElem h]
theorem l6 {l:List Rcd} {i:Nat} (hi:i<l.length):gF l i=if l[i].e.k=0 then l[i].l else if l[i].e.k=1 then l[i].e.x else
 match bK l l[i].e.t i with
 | none=>if l[i].e.p≠0 then -1 else 0
 | some k=>if dM l k≠4∧k<l.length then gF l k else if l[i].e.p≠0 then -1 else 0:=by
 rw[gF,List.getElem?_eq_getElem hi];simp only;by_cases h0:l[i].e.k=0
 · rw[if_pos h0,if_pos h0]
 rw[if_neg h0,if_neg h0];by_cases h1:l[i].e.k=1
 · rw[if_pos h1,if_pos h1]
 rw[if_neg h1,if_neg h1]
 split
 · rename_i hb;rw[hb]
 · rename_i k hb
   rw[hb];simp only;obtain⟨hk,x,hx,_⟩:=eZ hb;have hkl:k<l.length:=(List.getElem?_eq_some_iff.1 hx).1;unfold dM;rw[hx];simp only;by_cases h4:x.e.k=4
   · simp[h4]
   · rw[if_pos (by simpa using h4),if_pos ⟨h4,hkl⟩]
theorem pM {l:List Rcd} {t:Int} {k:Nat} (h:k<l.length):bK l t (k+1)=if l[k].e.k≠5∧l[k].e.t=t then some k else bK l t k:=by
 rw[bK,List.getElem?_eq_getElem h]
theorem ml {l:List Rcd} {k:Nat} (h:k<l.length):ca l (k+1)=if l[k].e.k=5 then ca l k else u6 (ca l k) l[k].e.t (pY (gD (dt l) (ca l k) l[k].e).1 l[k].l l[k].e):=by
 rw[ca,List.getElem?_eq_getElem h]
theorem gT {h0:Int} {x:Lge} {b:Bool} (h:(fV h0 x b).2=0):x.p≤(if b then 0 else h0-1)∧(fV h0 x b).1=⟨x.p,if x.p≠0 then -1 else 0,if x.p≠0 then -1 else 0⟩:=by
 unfold fV at h ⊢;by_cases hc:x.p>(if b=true then 0 else h0-1)
 · rw[if_pos hc] at h;cases h
 · rw[if_neg hc]
   exact⟨by omega,rfl⟩
theorem iN {l:List Rcd} {i:Nat} {g:Int→Option Chn} {x:Rcd} (h:dA l i g x=0):dV l i x=0∧(x.e.k=5→Ae x.e=0)∧(x.e.k≠5→x.e.t≠0∧(gD (dt l) g x.e).2=0 ∧
 ((gD (dt l) g x.e).1.k = -1∨nf (gD (dt l) g x.e).1.k x.e.k=true)∧(x.e.k=1→jo l i (gD (dt l) g x.e).1 x.e=0)):=by
 unfold dA at h
 split at h
 · rename_i h1;exact absurd h h1
 rename_i h1
 have h1:=Classical.not_not.1 h1;refine⟨h1,fun h5=>by rw[if_pos h5] at h;exact h,fun h5=>?_⟩;rw[if_neg h5] at h
 split at h
 · cases h
 rename_i ht
 unfold k6 at h;rw[bu] at h;simp only[List.mem_cons,List.not_mem_nil,or_false,forall_eq_or_imp,forall_eq] at h;obtain⟨a1,a2,a3⟩:=h;refine⟨ht,a1,?_,fun hk=>by rw[if_pos hk] at a3;exact a3⟩
 split at a2
 · rename_i hc;exact .inl hc
 · exact .inr ((bD (by decide)).1 a2)
theorem jA {l:List Rcd}:∀i,i≤l.length→(∀k (hk:k<l.length),k<i→dA l k (ca l k) l[k]=0)→∀t,ca l i t=(bK l t i).map (jP l)
 | 0,_,_,t=>rfl
 | i+1,hi,h,t=>by
  have ih:=jA i (by omega) (fun k hk hki=>h k hk (by omega))
  have hlt:i<l.length:=by omega
  rw[ml hlt,pM hlt];by_cases h5:l[i].e.k=5
  · rw[if_pos h5,if_neg (by simp[h5])];exact ih t
  rw[if_neg h5];obtain⟨_,_,hr⟩:=iN (h i hlt (by omega));obtain⟨h1,h2,h3,h4⟩:=hr h5;unfold u6;by_cases ht:t=l[i].e.t
  · subst ht
    rw[if_pos rfl,if_pos ⟨h5,rfl⟩,Option.map_some]
    congr 1
    unfold pY jP;rw[mn hlt,eC hlt,l6 hlt]
    congr 1
    by_cases k0:l[i].e.k=0
    · rw[if_pos k0,if_pos k0]
    rw[if_neg k0,if_neg k0];by_cases k1:l[i].e.k=1
    · rw[if_pos k1,if_pos k1]
    rw[if_neg k1,if_neg k1];have hih:=ih l[i].e.t;unfold gD at h2 ⊢
    cases hb:bK l l[i].e.t i with
    | none=>
     rw[hb] at hih;rw[hih] at h2 ⊢;simp only[Option.map_none] at h2 ⊢;rw[(gT h2).2]
    | some k=>
     rw[hb] at hih;rw[hih] at h2 ⊢;simp only[Option.map_some] at h2 ⊢;obtain⟨hk,x,hx,_⟩:=eZ hb
     have hkl:k<l.length:=by omega
     by_cases h4:dM l k=4
     · have e:(jP l k).k=4:=h4
       rw[if_pos e] at h2 ⊢;rw[if_neg (by simp[h4]),(gT h2).2]
     · have e:¬(jP l k).k=4:=h4
       rw[if_neg e] at h2 ⊢;rw[if_pos ⟨h4,hkl⟩];rfl
  · rw[if_neg ht,if_neg (by rintro ⟨_,q⟩;exact ht q.symm)];exact ih t
theorem yE {l:List Rcd} {i:Nat} (hi:i<l.length) (h:∀k (hk:k<l.length),k≤i→dA l k (ca l k) l[k]=0) (h5:l[i].e.k≠5) :
 (l[i].e.p≤dt l-1∧(bK l l[i].e.t i=none∨l[i].e.p≤0))∨∃k,bK l l[i].e.t i=some k∧dM l k≠4∧l[i].e.p=iX l k:=by
 have hc:=jA i (by omega) (fun k hk hki=>h k hk (by omega)) l[i].e.t;obtain⟨h0,_,hr⟩:=iN (h i hi (Nat.le_refl _));obtain⟨h1,h2,h3,h4⟩:=hr h5
 have hf:1≤dt l:=by
  have hl:0<l.length:=by omega
  obtain⟨z0,_,_⟩:=iN (h 0 hl (Nat.zero_le _));unfold dV at z0;rw[bu] at z0;have:=inB_true.1 ((bD (by decide)).1 (z0 _ (.head _)))
  match l,hl with
  | x::r,_=>exact this.1
 unfold gD at h2
 cases hb:bK l l[i].e.t i with
 | none=>
  rw[hb] at hc;rw[hc] at h2;simp only[Option.map_none] at h2;have:=(gT h2).1;simp only[Bool.false_eq_true,if_false] at this;exact .inl ⟨by omega,.inl rfl⟩
 | some k=>
  rw[hb] at hc;rw[hc] at h2;simp only[Option.map_some] at h2;by_cases h4:dM l k=4
  · have e:(jP l k).k=4:=h4
    rw[if_pos e] at h2;have:=(gT h2).1;simp only[if_true] at this;exact .inl ⟨by omega,.inr (by omega)⟩
  · have e:¬(jP l k).k=4:=h4
    rw[if_neg e] at h2
    right
    have h6:=(bD (by decide)).1 h2;rw[beq_iff_eq] at h6;exact⟨k,rfl,h4,h6⟩
open Go.RowKit
section
variable {α:Type} (κ:α→Int)
def cn (l:List α) (i:Int):Option α:=l.find? fun x=>κ x==i
def eO (l:List α) (x:α):List α:=l.filter (fun y=>decide (κ y<κ x)) ++ x::l.filter (fun y=>decide (κ x<κ y))
def il (l:List α) (i:Int):List α:=l.filter fun y=>decide (κ y≠i)
def bX (l:List α):Prop:=l.Pairwise fun x y=>κ x<κ y
variable {κ}
theorem ig (p:α→Bool) (l:List α) (i:Int) (h:∀x∈l,κ x=i→p x=true):cn κ (l.filter p) i=cn κ l i:=by
 unfold cn
 induction l with
 | nil=>rfl
 | cons x l ih=>
  have ih:=ih fun y hy=>h y (List.mem_cons_of_mem _ hy);rw[List.filter_cons,List.find?_cons];by_cases hx:κ x=i
  · rw[if_pos (h x (List.mem_cons_self ..) hx),List.find?_cons,beq_iff_eq.2 hx]
  · have e:(κ x==i)=false:=by simpa using hx
    rw[e]
    split
    · rw[List.find?_cons,e];exact ih
    · exact ih
theorem dq (l:List α) (i:Int) (h:∀x∈l,κ x≠i):cn κ l i=none:=by
 unfold cn;rw[List.find?_eq_none];intro x hx
 simpa using h x hx
theorem en {l:List α} {i:Int} {x:α} (h:cn κ l i=some x):x∈l∧κ x=i:=by
 unfold cn at h;exact⟨List.mem_of_find?_eq_some h,by simpa using List.find?_some h⟩
theorem pS (l:List α) (x:α) (i:Int):cn κ (eO κ l x) i=if i=κ x then some x else cn κ l i:=by
 have e:cn κ (eO κ l x) i=(cn κ (l.filter (fun y=>decide (κ y<κ x))) i).or (cn κ (x::l.filter (fun y=>decide (κ x<κ y))) i):=by
  unfold cn eO;rw[List.find?_append]
 rw[e];by_cases hi:i=κ x
 · rw[if_pos hi,dq (l.filter (fun y=>decide (κ y<κ x))) i fun y hy=>by
    have:=List.mem_filter.1 hy;have:=of_decide_eq_true this.2
    omega]
   unfold cn;rw[List.find?_cons,beq_iff_eq.2 hi.symm];rfl
 · rw[if_neg hi]
   have e2:cn κ (x::l.filter (fun y=>decide (κ x<κ y))) i=cn κ (l.filter (fun y=>decide (κ x<κ y))) i:=by
    unfold cn
    have:(κ x==i)=false:=by simpa using fun q=>hi q.symm
    rw[List.find?_cons,this]
   rw[e2];rcases Int.lt_trichotomy i (κ x) with h | h | h
   · rw[ig _ l i fun y _ hy=>decide_eq_true (by omega),dq (l.filter (fun y=>decide (κ x<κ y))) i fun y hy=>by
      have:=of_decide_eq_true (List.mem_filter.1 hy).2
      omega]
     simp
   · exact absurd h hi
   · rw[dq (l.filter (fun y=>decide (κ y<κ x))) i fun y hy=>by
      have:=of_decide_eq_true (List.mem_filter.1 hy).2
      omega,ig _ l i fun y _ hy=>decide_eq_true (by omega)]
     simp
theorem wk (l:List α) (k i:Int):cn κ (il κ l k) i=if i=k then none else cn κ l i:=by
 unfold il;by_cases hi:i=k
 · rw[if_pos hi]
   exact dq _ _ fun y hy=>by
    have:=of_decide_eq_true (List.mem_filter.1 hy).2;omega
 · rw[if_neg hi]
   exact ig _ l i fun y _ hy=>decide_eq_true (by omega)
theorem s8 {l:List α} (h:bX κ l) (x:α):bX κ (eO κ l x):=by
 unfold bX eO at *;rw[List.pairwise_append,List.pairwise_cons];refine⟨h.filter _,⟨fun y hy=>of_decide_eq_true (List.mem_filter.1 hy).2,h.filter _⟩,fun y hy z hz=>?_⟩;have h1:=of_decide_eq_true (List.mem_filter.1 hy).2;rcases List.mem_cons.1 hz with rfl | hz
 · exact h1
 · have h2:=of_decide_eq_true (List.mem_filter.1 hz).2
   omega
theorem xV {l:List α} (h:bX κ l) (k:Int):bX κ (il κ l k):=h.filter _
theorem tb:bX κ []:=.nil
theorem eE {l:List α} (h:bX κ l) {x:α} (hx:x∈l):cn κ l (κ x)=some x:=by
 unfold bX at h;unfold cn
 induction l with
 | nil=>cases hx
 | cons y l ih=>
  rw[List.pairwise_cons] at h;rcases List.mem_cons.1 hx with rfl | hx
  · rw[List.find?_cons,beq_self_eq_true]
  · have:=h.1 x hx
    have e:(κ y==κ x)=false:=by rw[beq_eq_false_iff_ne];omega
    rw[List.find?_cons,e];exact ih h.2 hx
theorem yX {a b:List α} (ha:bX κ a) (hb:bX κ b) (h:∀i,cn κ a i=cn κ b i):a=b:=by
 have hm:∀x,x∈a↔x∈b:=fun x=>
  ⟨fun hx=>(en ((h (κ x)).symm.trans (eE ha hx))).1,fun hx=>(en ((h (κ x)).trans (eE hb hx))).1⟩
 clear h;unfold bX at ha hb
 induction a generalizing b with
 | nil=>
  cases b with
  | nil=>rfl
  | cons y b=>exact absurd ((hm y).2 (List.mem_cons_self ..)) List.not_mem_nil
 | cons x a ih=>
  cases b with
  | nil=>exact absurd ((hm x).1 (List.mem_cons_self ..)) List.not_mem_nil
  | cons y b=>
   rw[List.pairwise_cons] at ha hb
   have hxy:x=y:=by
    rcases List.mem_cons.1 ((hm x).1 (List.mem_cons_self ..)) with h1 | h1
    · exact h1
    · rcases List.mem_cons.1 ((hm y).2 (List.mem_cons_self ..)) with h2 | h2
      · exact h2.symm
      · have:=hb.1 x h1
        have:=ha.1 y h2;omega
   subst hxy
   congr 1
   refine ih ha.2 hb.2 fun z=>?_;have:=hm z;simp only[List.mem_cons] at this
   constructor
   · intro hz
     rcases this.1 (.inr hz) with rfl | h1
     · have:=ha.1 _ hz;omega
     · exact h1
   · intro hz
     rcases this.2 (.inr hz) with rfl | h1
     · have:=hb.1 _ hz;omega
     · exact h1
theorem lS {a:List α} (ha:bX κ a) {b:List α} (hb:bX κ b) (h:∀x,x∈a↔x∈b):a=b:=
 yX ha hb fun i=>by
  cases h1:cn κ a i with
  | none=>
   cases h2:cn κ b i with
   | none=>rfl
   | some y=>
    obtain⟨m,e⟩:=en h2;have:=eE ha ((h y).2 m);rw[e,h1] at this;cases this
  | some x=>
   obtain⟨m,e⟩:=en h1;have:=eE hb ((h x).1 m);rw[e] at this;exact this.symm
theorem srt_get {l:List α}:bX κ l↔∀k (h:k+1<l.length),κ l[k]<κ l[k+1]:=by
 unfold bX;rw[List.pairwise_iff_getElem]
 constructor
 · intro h k hk;exact h k (k+1) (by omega) hk (by omega)
 · intro h i j hi hj hij
   obtain⟨d,rfl⟩:∃d,j=i+1+d:=⟨j-(i+1),by omega⟩;clear hij
   induction d with
   | zero=>exact h i hj
   | succ d ih=>exact Int.lt_trans (ih (by omega)) (h (i+1+d) hj)
def eJ (κ:α→Int) (l:List α) (i:Int):Nat:=(l.takeWhile fun y=>decide (κ y<i)).length
theorem mO {l:List α} (h:bX κ l) (i:Int):l.takeWhile (fun y=>decide (κ y<i))=l.filter (fun y=>decide (κ y<i))∧l.dropWhile (fun y=>decide (κ y<i))=l.filter (fun y=>decide (i≤κ y)):=by
 unfold bX at h
 induction l with
 | nil=>exact⟨rfl,rfl⟩
 | cons x l ih=>
  rw[List.pairwise_cons] at h;obtain⟨h1,h2⟩:=ih h.2;by_cases hx:κ x<i
  · rw[List.takeWhile_cons,List.dropWhile_cons,List.filter_cons,List.filter_cons,if_pos (decide_eq_true hx),if_pos (decide_eq_true hx),if_pos (decide_eq_true hx),if_neg (by simp;omega)]
    exact⟨by rw[h1],h2⟩
  · rw[List.takeWhile_cons,List.dropWhile_cons,List.filter_cons,List.filter_cons,if_neg (by simpa using hx),if_neg (by simpa using hx),if_neg (by simpa using hx),if_pos (decide_eq_true (by omega))]
    refine⟨?_,?_⟩
    · symm
      rw[List.filter_eq_nil_iff];intro y hy;have:=h.1 y hy;simp;omega
    · congr 1
      symm
      rw[List.filter_eq_self];intro y hy;have:=h.1 y hy;exact decide_eq_true (by omega)
theorem sO {l:List α} (h:bX κ l) (x:α) (hn:cn κ l (κ x)=none):eO κ l x=l.take (eJ κ l (κ x)) ++ x::l.drop (eJ κ l (κ x)):=by
 obtain⟨h1,h2⟩:=mO h (κ x);have e:=List.takeWhile_append_dropWhile (p:=fun y=>decide (κ y<κ x)) (l:=l)
 have e1:l.take (eJ κ l (κ x))=l.takeWhile (fun y=>decide (κ y<κ x)):=by
  unfold eJ
  conv=>lhs;rw[←e]
  rw[List.take_left' (by rw[e])]
 have e2:l.drop (eJ κ l (κ x))=l.dropWhile (fun y=>decide (κ y<κ x)):=by
  unfold eJ
  conv=>lhs;rw[←e]
  rw[List.drop_left' (by rw[e])]
 rw[e1,e2,h1,h2];unfold eO
 congr 2
 apply List.filter_congr;intro y hy
 have hne:κ y≠κ x:=fun q=>by
  have:=eE h hy;rw[q,hn] at this;cases this
 rw[decide_eq_decide];omega
end
def dB (l:List Trn) (i:Int):Option Trn:=cn Trn.i l i
def dp (l:List Dty) (g:Int):Option Dty:=cn Dty.g l g
def kf:Trn:=⟨0,0,0,false⟩
def iD (t:Tbl) (x:Rcd):Trn:=⟨x.e.t,x.l,if x.e.k=0 then x.l else if x.e.k=1 then x.e.x else ((dB t.ts x.e.t).getD kf).u,x.e.k==2||((dB t.ts x.e.t).getD kf).c⟩
def gm (t:Tbl) (x:Rcd):List Dty:=if du x.e=true∧dp t.ds x.e.g=none then eO Dty.g t.ds ⟨x.e.g,x.e.f,x.l⟩ else t.ds
def ct (t:Tbl) (x:Rcd):Tbl:=if x.e.k=5 then t else ⟨if x.e.k=4 then il Trn.i t.ts x.e.t else eO Trn.i t.ts (iD t x),gm t x⟩
structure SrtT (t:Tbl):Prop where
 ts:bX Trn.i t.ts
 ds:bX Dty.g t.ds
theorem iA:SrtT tbl0:=⟨tb,tb⟩
theorem SrtT.chg {t:Tbl} (h:SrtT t) (x:Rcd):SrtT (ct t x):=by
 unfold ct
 split
 · exact h
 · refine⟨?_,?_⟩
   · split
     · exact xV h.ts _
     · exact s8 h.ts _
   · show bX Dty.g (gm t x)
     unfold gm
     split
     · exact s8 h.ds _
     · exact h.ds
theorem SrtT.fold {l:List Rcd}:∀{t:Tbl},SrtT t→SrtT (l.foldl ct t):=by
 induction l with
 | nil=>exact fun h=>h
 | cons x l ih=>exact fun h=>ih (h.chg x)
theorem TblOk.srt {t:Tbl} (h:TblOk t):SrtT t:=⟨srt_get.2 h.tord,srt_get.2 h.dord⟩
def js (t0:Tbl) (l:List Rcd):Tbl × Int:=if dk (l.foldl ct t0)≠0 then (tbl0,dk (l.foldl ct t0)) else (l.foldl ct t0,0)
def cY (l:List Rcd) (a:Int):Tbl × Int:=if a=0 then js tbl0 l else match dY l a with
 | none=>(tbl0,6)
 | some x=>if x.e.k≠5 then (tbl0,6) else js (cx (bl x.e.d)) (l.filter fun y=>decide (a<y.l))
open Go.RowKit
open Go.RowKit
def Ag (p:ByteArray):Int:=num (((bl p).drop 8).take 4) % 2147483648
def qP (p:ByteArray) (n:Int):ByteArray:=rV p 8 (bs (lit n 4))
theorem nj {p:ByteArray} {n:Int} (hp:p.size=512):(qP p n).size=512:=by
 have Y:(bs (lit n 4)).size=4:=by rw[gS,mB]
 rw[←bf];unfold qP;rw[ta,List.length_append,List.length_append,List.length_take,List.length_drop,bf,bf,Y,hp];rfl
def mx (n:Int):Int:=bL (bH n 1 2147483647) 2
def iF (p:ByteArray) (plain:Bool) (n:Int) (x:Op):ByteArray × Bool × Int:=
 if aO [cA p,mx n,dP x]≠0 then (⟨#[]⟩,false,aO [cA p,mx n,dP x])
 else if plain then (if x.k=2∨x.k=3 then (⟨#[]⟩,false,15) else (fU p x,!(bl (fU p x)==bl p),0))
 else if n≤Ag p then (p,false,0)
 else if fb p x then (qP (fU p x) n,true,0) else (⟨#[]⟩,false,13)
theorem vP {p:ByteArray} {plain:Bool} {n:Int} {x:Op} (hp:p.size=512) (hn:bH n 1 2147483647=true) (hx:dP x=0) :
 iF p plain n x=if plain then (if x.k=2∨x.k=3 then (⟨#[]⟩,false,15) else (fU p x,!(bl (fU p x)==bl p),0)) else if n≤Ag p then (p,false,0) else if fb p x then (qP (fU p x) n,true,0) else (⟨#[]⟩,false,13):=by
 have e1:mx n=0:=by unfold mx;rw[hn];rfl
 have e3:cA p=0:=by unfold cA;rw[hp];rfl
 have e2:aO [cA p,mx n,dP x]=0:=by rw[e3,e1,hx];rfl
 unfold iF
 rw[e2,if_neg (fun g=>g rfl)]
open Go.RowKit
def uw (p:Option Pgp) (x:Pgp):Int:=aO [bL (bH x.g 0 600) 2,bL (match p with | none=>true | some y=>decide (y.g<x.g)) 9,bL (x.b.size==512) 10]
def pN (l:List Pgp):Int × Int:=dn (fun i x=>uw (cW l i) x) 0 l
def jf (l:List Pgp):Int:=if 40<l.length then 8 else (pN l).2
def jy (l:List Pgp) (g:Int):Option Pgp:=cn Pgp.g l g
def jh (p:List Pgp) (x:Rcd):Int:=if du x.e=true then (match jy p x.e.g with | none=>6 | some q=>bL (q.f==x.e.f) 13) else 0
def lG (l:List Rcd) (p:List Pgp):Int:=if jf p≠0 then jf p else (dn (fun _ x=>jh p x) 0 l).2
structure PgpOk (x:Pgp):Prop where
 g:0≤x.g∧x.g≤600
 b:x.b.size=512
structure PgsOk (l:List Pgp):Prop where
 n:l.length≤40
 all:∀k (h:k<l.length),PgpOk l[k]
 srt:bX Pgp.g l
theorem pgpE_zero {p:Option Pgp} {x:Pgp}:uw p x=0↔PgpOk x∧∀y,p=some y→y.g<x.g:=by
 unfold uw;rw[bu];simp only[List.mem_cons,List.not_mem_nil,or_false,forall_eq_or_imp,forall_eq];rw[bD (by decide),bD (by decide),bD (by decide),inB_true,beq_iff_eq]
 constructor
 · rintro ⟨h1,h2,h3⟩
   refine⟨⟨h1,h3⟩,fun y hy=>?_⟩;subst hy;simpa using h2
 · rintro ⟨⟨h1,h3⟩,h2⟩
   refine⟨h1,?_,h3⟩
   cases p with
   | none=>rfl
   | some y=>simpa using h2 y rfl
theorem pgsE1_zero {l:List Pgp}:jf l=0↔PgsOk l:=by
 unfold jf pN
 constructor
 · intro h
   split at h
   · cases h
   have h:=(di _ _).1 h;refine⟨by omega,fun k hk=>(pgpE_zero.1 (h k hk)).1,srt_get.2 fun k hk=>?_⟩;exact(pgpE_zero.1 (h (k+1) hk)).2 _ (ei _ _ _)
 · intro h
   rw[if_neg (by have:=h.n;omega),di];intro k hk;rw[pgpE_zero];refine⟨h.all k hk,fun y hy=>?_⟩
   cases k with
   | zero=>cases hy
   | succ k=>rw[ei _ _ (by omega)] at hy;cases hy;exact srt_get.1 h.srt k hk
def fY (l:List Pgp) (g:Int) (s:ByteArray):List Pgp:=l.map fun q=>if q.g=g then ⟨q.g,q.f,s⟩ else q
theorem fa (l:List Pgp) (g:Int) (s:ByteArray):(fY l g s).length=l.length:=List.length_map ..
theorem pB {l:List Pgp} {g:Int} {s:ByteArray} {k:Nat} (hk:k<(fY l g s).length) (hk':k<l.length):(fY l g s)[k]=if l[k].g=g then ⟨l[k].g,l[k].f,s⟩ else l[k]:=by
 have Y:(fY l g s)[k]? = some (if l[k].g=g then ⟨l[k].g,l[k].f,s⟩ else l[k]):=by
  unfold fY;rw[List.getElem?_map,List.getElem?_eq_getElem hk'];rfl
 rw[List.getElem?_eq_getElem hk] at Y;exact Option.some.inj Y
theorem wG (l:List Pgp) (g:Int) (s:ByteArray):(fY l g s).map Pgp.g=l.map Pgp.g:=by
 unfold fY;rw[List.map_map];apply List.map_congr_left;intro q _;show(if q.g=g then (⟨q.g,q.f,s⟩:Pgp) else q).g=q.g
 split<;>rfl
theorem sU {l:List Pgp} (h:PgsOk l) (g:Int) (s:ByteArray) (hs:s.size=512):PgsOk (fY l g s):=by
 refine⟨by rw[fa];exact h.n,fun k hk=>?_,?_⟩
 · have hk':k<l.length:=by rw[fa] at hk;exact hk
   rw[pB hk hk'];have h1:=h.all k hk'
   split
   · exact⟨h1.g,hs⟩
   · exact h1
 · have h1:=h.srt
   unfold bX at h1 ⊢;have h2:(l.map Pgp.g).Pairwise (·<·):=List.pairwise_map.2 h1;rw[←wG l g s] at h2;exact List.pairwise_map.1 h2
theorem wH (l:List Pgp) (g:Int) (s:ByteArray) (i:Int):jy (fY l g s) i=if i=g then (jy l g).map (fun q=>⟨q.g,q.f,s⟩) else jy l i:=by
 unfold jy cn fY
 induction l with
 | nil=>simp
 | cons q l ih=>
  rw[List.map_cons,List.find?_cons,List.find?_cons,List.find?_cons];by_cases hq:q.g=g
  · rw[if_pos hq]
    simp only;by_cases hi:i=g
    · have e1:(q.g==i)=true:=by rw[beq_iff_eq];omega
      have e2:(q.g==g)=true:=by rw[beq_iff_eq];omega
      rw[e1,e2,if_pos hi];rfl
    · have e1:(q.g==i)=false:=by rw[beq_eq_false_iff_ne];omega
      rw[e1,if_neg hi];rw[if_neg hi] at ih;exact ih
  · rw[if_neg hq]
    by_cases hi:i=g
    · have e1:(q.g==i)=false:=by rw[beq_eq_false_iff_ne];omega
      have e2:(q.g==g)=false:=by rw[beq_eq_false_iff_ne];omega
      rw[e1,e2];simp only;exact ih
    · by_cases hqi:q.g=i
      · have e1:(q.g==i)=true:=by rw[beq_iff_eq];exact hqi
        rw[e1,if_neg hi]
      · have e1:(q.g==i)=false:=by rw[beq_eq_false_iff_ne];exact hqi
        rw[e1];rw[if_neg hi] at ih ⊢;exact ih
theorem w7 {l:List Pgp} (h:bX Pgp.g l) {k:Nat} (hk:k<l.length) (s:ByteArray):fY l l[k].g s=l.set k ⟨l[k].g,l[k].f,s⟩:=by
 unfold bX at h;rw[List.pairwise_iff_getElem] at h;apply List.ext_getElem (by rw[fa,List.length_set]);intro j h1 h2;rw[fa] at h1;have h1':=h1;rw[pB (by rw[fa];exact h1') h1',List.getElem_set];by_cases hj:k=j
 · subst hj
   rw[if_pos rfl,if_pos rfl]
 · rw[if_neg hj,if_neg]
   intro q;rcases Nat.lt_or_gt_of_ne hj with h3 | h3
   · have:=h k j hk h1 h3;omega
   · have:=h j k h1 hk h3;omega
def rq (t:Tbl) (x:Rcd):Bool:=du x.e&&match dp t.ds x.e.g with | none=>false | some d=>decide (d.l≤x.l)
def gX (t:Tbl):List Pgp→Int→List Rcd→List Pgp × Int × Int
 | p,n,[]=>(p,n,0)
 | p,n,x::r=>if rq t x=true then (match jy p x.e.g with
  | none=>([],0,0)
  | some q=>if (iF q.b q.f x.l x.e.o).2.2≠0 then ([],0,(iF q.b q.f x.l x.e.o).2.2) else gX t (fY p x.e.g (iF q.b q.f x.l x.e.o).1) (n+mN (iF q.b q.f x.l x.e.o).2.1) r) else gX t p n r
structure Los where
 j:Nat
 i:Int
 u:Int
def uP:Nat→List Trn→List Los
 | _,[]=>[]
 | j,x::l=>if x.c then uP (j+1) l else ⟨j,x.i,x.u⟩::uP (j+1) l
def yw:List Los→Option Los
 | []=>none
 | x::l=>match yw l with
  | none=>some x
  | some y=>if y.u>x.u then some y else some x
structure Stp where
 r:Rcd
 j:Nat
 z:Bool
def tC (l:List Los) (j:Nat) (u:Int):List Los:=l.map fun x=>if x.j=j then ⟨x.j,x.i,u⟩ else x
def dC (x:Lge):Int:=if x.k=1 then x.x else x.p
def mU (l:List Rcd):Nat→List Los→List Stp × Int
 | f,us=>match yw us with
  | none=>([],0)
  | some b=>if b.u=0 then ([],0) else match dY l b.u with
   | none=>([],6)
   | some r=>if du r.e=true∧r.e.t=b.i then (match f with
    | 0=>([],26)
    | f+1=>if (mU l f (tC us b.j (dC r.e))).2≠0 then ([],(mU l f (tC us b.j (dC r.e))).2) else (⟨r,b.j,decide (dC r.e=0)⟩::(mU l f (tC us b.j (dC r.e))).1,0)) else ([],6)
def zW (l:List Rcd) (t:Tbl):List Stp × Int:=mU l 100 (uP 0 t.ts)
def Aw (l:List Rcd) (t:Tbl):List Int:=((zW l t).1.filter fun s=>s.r.e.k==0).map fun s=>s.r.l
open Go.RowKit Go.Sort
section
variable {α:Type} {f:α→List Value} {n:Nat}
theorem kh (hf:∀x,(f x).length=n) (l:List α) (k:Nat):(l.flatMap f).drop (k*n)=(l.drop k).flatMap f:=by
 induction l generalizing k with
 | nil=>simp
 | cons x l ih=>
  cases k with
  | zero=>simp
  | succ k=>
   rw[List.flatMap_cons,List.drop_succ_cons,←ih k,Nat.succ_mul,Nat.add_comm,←List.drop_drop,List.drop_left' (hf x)]
theorem uj (hf:∀x,(f x).length=n) (l:List α) (k:Nat):(l.flatMap f).take (k*n)=(l.take k).flatMap f:=by
 induction l generalizing k with
 | nil=>simp
 | cons x l ih=>
  cases k with
  | zero=>simp
  | succ k=>
   rw[List.flatMap_cons,List.take_succ_cons,List.flatMap_cons,←ih k,Nat.succ_mul,Nat.add_comm,List.take_append,List.take_of_length_le (by rw[hf];omega),hf,Nat.add_sub_cancel_left]
theorem nV (hf:∀x,(f x).length=n) (l:List α) {k:Nat} (hk:k<l.length) {j:Nat} {u:Value} (hu:(f l[k])[j]? = some u):(l.flatMap f)[k*n+j]? = some u:=by
 rw[←List.getElem?_drop,kh hf,List.drop_eq_getElem_cons hk,List.flatMap_cons,List.getElem?_append_left (List.getElem?_eq_some_iff.1 hu).1];exact hu
theorem ba {X:World} {B b o:Nat} {l:List α} {k:Nat} (hf:∀x,(f x).length=n) (h:Rd X B (some ⟨b,o,none⟩) (l.flatMap f)) (hk:k<l.length):∀(j:Nat) (u:Value),(f l[k])[j]? = some u→X.cell? ⟨b,o+k*n+j,none⟩=some u:=fun j u hu=>by
 obtain⟨b',o',e,_,hc⟩:=h (k*n+j) u (nV hf l hk hu);injection e with e;injection e with e1 e2;subst e1 e2;rw[Nat.add_assoc];exact hc
end
end Go.Proofs.YtcfdpfmchchkaaaGreatDoor
