/-
  Chapter 22: plain words of histories: which are valid. No program in sight.
  Chapter 22: lists in the order of their keys; the table of a history. No program in sight.
  Chapter 21, plain words: the patches between two pages.
  Chapter 21, plain laws: the patches between two pages, applied, give the second one; they are apart; LSNs; redoing.
  Chapter 22: pages, redone; what is undone, and in which order. No program in sight.
  Rows of structs: lists of cells, each struct's cells behind the one before. No program in sight.
-/
import Derived.Test.YtcfdpfmchchkaaaGreatDoorOpEnt
namespace Go.Proofs.YtcfdpfmchchkaaaGreatDoor
set_option linter.unusedVariables false
set_option linter.unusedSimpArgs false
open Go.RowKit
instance opDec:DecidableEq Op:=fun x y=>decidable_of_iff (x.k=y.k∧x.a=y.a∧x.e=y.e∧x.c=y.c∧x.o=y.o∧x.n=y.n) (by cases x;cases y;simp)
structure Chn where
 l:Int
 k:Int
 u:Int
def sx (c:Chn) (n:Int) (x:Lge):Chn:=⟨n,x.k,if x.k=0 then n else if x.k=1 then x.x else c.u⟩
def dt (x:Lge):Bool:=x.k==0||x.k==1
def dX (l:List Rcd) (n:Int):Option Rcd:=l.find? fun x=>x.l==n
def cX (l:List Rcd):Int:=match l with | []=>0 | x::_=>x.l
def fY (h0:Int) (x:Lge) (ended:Bool):Chn × Int:=if x.p>(if ended then 0 else h0-1) then (⟨0,0,0⟩,14) else (⟨x.p,if x.p≠0 then -1 else 0,if x.p≠0 then -1 else 0⟩,0)
def sG (k:Int):List Int:=if k=0 then [0,1,2,3,4] else if k=1 then [1,4] else if k=2 then [4] else if k=3 then [1,4] else []
def nU (k c:Int):Bool:=(sG k).any fun x=>x==c
def jl (l:List Rcd) (i:Nat) (c:Chn) (x:Lge):Int:=if c.u=0 then 13 else match dX (l.take i) c.u with
 | none=>bn (decide (x.x<cX l)) 13
 | some u=>bn (u.e.k==0&&x.x==u.e.p&&x.g==u.e.g&&x.f==u.e.f&&decide (x.o=fR u.e.o)) 13
def gu (h0:Int) (g:Int→Option Chn) (x:Lge):Chn × Int:=match g x.t with
 | some c=>if c.k=4 then fY h0 x true else (c,bn (x.p==c.l) 14)
 | none=>fY h0 x false
def Ce (x:Lge):Int:=if x.t≠0∨x.p≠0 then 3 else fE (bl x.d)
def dI (l:List Rcd) (i:Nat) (x:Rcd):Int:=ar [bn (bf x.l 1 2147483647) 2,bn (match cH l i with | none=>true | some y=>decide (y.l<x.l)) 9,dF x.e]
def lK (l:List Rcd) (i:Nat) (c:Chn × Int) (x:Lge):Int:=ar [c.2,if c.1.k = -1 then 0 else bn (nU c.1.k x.k) 20,if x.k=1 then jl l i c.1 x else 0]
def dk (l:List Rcd) (i:Nat) (g:Int→Option Chn) (x:Rcd):Int:=
 if dI l i x≠0 then dI l i x else if x.e.k=5 then Ce x.e else if x.e.t=0 then 2 else lK l i (gu (cX l) g x.e) x.e
def vG (g:Int→Option Chn) (t:Int) (c:Chn):Int→Option Chn:=fun s=>if s=t then some c else g s
def bE (l:List Rcd):Nat→Int→Option Chn
 | 0=>fun _=>none
 | i+1=>match l[i]? with
  | none=>bE l i
  | some x=>if x.e.k=5 then bE l i else vG (bE l i) x.e.t (sx (gu (cX l) (bE l i) x.e).1 x.l x.e)
def dW (l:List Rcd):Int × Int:=if 100<l.length then (0,8) else cB (fun i x=>dk l i (bE l i) x) 0 l
def bj (l:List Rcd) (t:Int):Nat→Option Nat
 | 0=>none
 | k+1=>match l[k]? with
  | none=>bj l t k
  | some x=>if x.e.k≠5∧x.e.t=t then some k else bj l t k
theorem eO {l:List Rcd} {t:Int}:∀{i k:Nat},bj l t i=some k→k<i∧∃x,l[k]? = some x∧x.e.k≠5∧x.e.t=t
 | 0,k,h=>by cases h
 | i+1,k,h=>by
  unfold bj at h
  split at h
  · obtain⟨h1,h2⟩:=eO h;exact⟨by omega,h2⟩
  · rename_i x hx
    split at h
    · rename_i hc
      cases h
      exact⟨by omega,x,hx,hc⟩
    · obtain⟨h1,h2⟩:=eO h;exact⟨by omega,h2⟩
def gN (l:List Rcd) (i:Nat):Int:=
 match l[i]? with
 | none=>0
 | some x=>if x.e.k=0 then x.l else if x.e.k=1 then x.e.x else
  match h:bj l x.e.t i with
  | none=>if x.e.p≠0 then -1 else 0
  | some k=>if (match l[k]? with | none=>false | some y=>y.e.k != 4) then gN l k else if x.e.p≠0 then -1 else 0
 termination_by i
 decreasing_by exact(eO h).1
def dD (l:List Rcd) (k:Nat):Int:=match l[k]? with | none=>0 | some y=>y.e.k
def je (l:List Rcd) (k:Nat):Int:=match l[k]? with | none=>0 | some y=>y.l
def jT (l:List Rcd) (k:Nat):Chn:=⟨je l k,dD l k,gN l k⟩
theorem mQ {l:List Rcd} {k:Nat} (h:k<l.length):je l k=l[k].l:=by unfold je;rw[List.getElem?_eq_getElem h]
theorem gi {l:List Rcd} {k:Nat} (h:k<l.length):dD l k=l[k].e.k:=by unfold dD;rw[List.getElem?_eq_getElem h]
theorem mV {l:List Rcd} {i:Nat} (hi:i<l.length):gN l i=if l[i].e.k=0 then l[i].l else if l[i].e.k=1 then l[i].e.x else
 match bj l l[i].e.t i with
 | none=>if l[i].e.p≠0 then -1 else 0
 | some k=>if dD l k≠4∧k<l.length then gN l k else if l[i].e.p≠0 then -1 else 0:=by
 rw[gN,List.getElem?_eq_getElem hi];simp only;by_cases h0:l[i].e.k=0
 · rw[if_pos h0,if_pos h0]
 rw[if_neg h0,if_neg h0];by_cases h1:l[i].e.k=1
 · rw[if_pos h1,if_pos h1]
 rw[if_neg h1,if_neg h1]
 split
 · rename_i hb;rw[hb]
 · rename_i k hb
   rw[hb];simp only;obtain⟨hk,x,hx,_⟩:=eO hb;have hkl:k<l.length:=(List.getElem?_eq_some_iff.1 hx).1;unfold dD;rw[hx];simp only;by_cases h4:x.e.k=4
   · simp[h4]
   · rw[if_pos (by simpa using h4),if_pos ⟨h4,hkl⟩]
theorem qD {l:List Rcd} {t:Int} {k:Nat} (h:k<l.length):bj l t (k+1)=if l[k].e.k≠5∧l[k].e.t=t then some k else bj l t k:=by
 rw[bj,List.getElem?_eq_getElem h]
theorem mI {l:List Rcd} {k:Nat} (h:k<l.length):bE l (k+1)=if l[k].e.k=5 then bE l k else vG (bE l k) l[k].e.t (sx (gu (cX l) (bE l k) l[k].e).1 l[k].l l[k].e):=by
 rw[bE,List.getElem?_eq_getElem h]
theorem gR {h0:Int} {x:Lge} {b:Bool} (h:(fY h0 x b).2=0):x.p≤(if b then 0 else h0-1)∧(fY h0 x b).1=⟨x.p,if x.p≠0 then -1 else 0,if x.p≠0 then -1 else 0⟩:=by
 unfold fY at h ⊢;by_cases hc:x.p>(if b=true then 0 else h0-1)
 · rw[if_pos hc] at h;cases h
 · rw[if_neg hc]
   exact⟨by omega,rfl⟩
theorem iX {l:List Rcd} {i:Nat} {g:Int→Option Chn} {x:Rcd} (h:dk l i g x=0):dI l i x=0∧(x.e.k=5→Ce x.e=0)∧(x.e.k≠5→x.e.t≠0∧(gu (cX l) g x.e).2=0 ∧
 ((gu (cX l) g x.e).1.k = -1∨nU (gu (cX l) g x.e).1.k x.e.k=true)∧(x.e.k=1→jl l i (gu (cX l) g x.e).1 x.e=0)):=by
 unfold dk at h
 split at h
 · rename_i h1;exact absurd h h1
 rename_i h1
 have h1:=Classical.not_not.1 h1;refine⟨h1,fun h5=>by rw[if_pos h5] at h;exact h,fun h5=>?_⟩;rw[if_neg h5] at h
 split at h
 · cases h
 rename_i ht
 unfold lK at h;rw[aQ] at h;simp only[List.mem_cons,List.not_mem_nil,or_false,forall_eq_or_imp,forall_eq] at h;obtain⟨a1,a2,a3⟩:=h;refine⟨ht,a1,?_,fun hk=>by rw[if_pos hk] at a3;exact a3⟩
 split at a2
 · rename_i hc;exact .inl hc
 · exact .inr ((aL aq).1 a2)
theorem jX {l:List Rcd}:∀i,i≤l.length→(∀k (hk:k<l.length),k<i→dk l k (bE l k) l[k]=0)→∀t,bE l i t=(bj l t i).map (jT l)
 | 0,_,_,t=>rfl
 | i+1,hi,h,t=>by
  have ih:=jX i ab (fun k hk hki=>h k hk ab)
  have hlt:i<l.length:=by omega
  rw[mI hlt,qD hlt];by_cases h5:l[i].e.k=5
  · rw[if_pos h5,if_neg (by simp[h5])];exact ih t
  rw[if_neg h5];obtain⟨_,_,hr⟩:=iX (h i hlt ab);obtain⟨h1,h2,h3,h4⟩:=hr h5;unfold vG;by_cases ht:t=l[i].e.t
  · subst ht
    rw[if_pos rfl,if_pos ⟨h5,rfl⟩,Option.map_some]
    congr 1
    unfold sx jT;rw[mQ hlt,gi hlt,mV hlt]
    congr 1
    by_cases k0:l[i].e.k=0
    · rw[if_pos k0,if_pos k0]
    rw[if_neg k0,if_neg k0];by_cases k1:l[i].e.k=1
    · rw[if_pos k1,if_pos k1]
    rw[if_neg k1,if_neg k1];have hih:=ih l[i].e.t;unfold gu at h2 ⊢
    cases hb:bj l l[i].e.t i with
    | none=>
     rw[hb] at hih;rw[hih] at h2 ⊢;simp only[Option.map_none] at h2 ⊢;rw[(gR h2).2]
    | some k=>
     rw[hb] at hih;rw[hih] at h2 ⊢;simp only[Option.map_some] at h2 ⊢;obtain⟨hk,x,hx,_⟩:=eO hb
     have hkl:k<l.length:=by omega
     by_cases h4:dD l k=4
     · have e:(jT l k).k=4:=h4
       rw[if_pos e] at h2 ⊢;rw[if_neg (by simp[h4]),(gR h2).2]
     · have e:¬(jT l k).k=4:=h4
       rw[if_neg e] at h2 ⊢;rw[if_pos ⟨h4,hkl⟩];rfl
  · rw[if_neg ht,if_neg (by rintro ⟨_,q⟩;exact ht q.symm)];exact ih t
theorem zU {l:List Rcd} {i:Nat} (hi:i<l.length) (h:∀k (hk:k<l.length),k≤i→dk l k (bE l k) l[k]=0) (h5:l[i].e.k≠5) :
 (l[i].e.p≤cX l-1∧(bj l l[i].e.t i=none∨l[i].e.p≤0))∨∃k,bj l l[i].e.t i=some k∧dD l k≠4∧l[i].e.p=je l k:=by
 have hc:=jX i ab (fun k hk hki=>h k hk ab) l[i].e.t;obtain⟨h0,_,hr⟩:=iX (h i hi (Nat.le_refl _));obtain⟨h1,h2,h3,h4⟩:=hr h5
 have hf:1≤cX l:=by
  have hl:0<l.length:=by omega
  obtain⟨z0,_,_⟩:=iX (h 0 hl (Nat.zero_le _));unfold dI at z0;rw[aQ] at z0;have:=inB_true.1 ((aL aq).1 (z0 _ (.head _)))
  match l,hl with
  | x::r,_=>exact this.1
 unfold gu at h2
 cases hb:bj l l[i].e.t i with
 | none=>
  rw[hb] at hc;rw[hc] at h2;simp only[Option.map_none] at h2;have:=(gR h2).1;simp only[Bool.false_eq_true,if_false] at this;exact .inl ⟨by omega,.inl rfl⟩
 | some k=>
  rw[hb] at hc;rw[hc] at h2;simp only[Option.map_some] at h2;by_cases h4:dD l k=4
  · have e:(jT l k).k=4:=h4
    rw[if_pos e] at h2;have:=(gR h2).1;simp only[if_true] at this;exact .inl ⟨by omega,.inr ab⟩
  · have e:¬(jT l k).k=4:=h4
    rw[if_neg e] at h2
    right
    have h6:=(aL aq).1 h2;rw[beq_iff_eq] at h6;exact⟨k,rfl,h4,h6⟩
open Go.RowKit
section
variable {α:Type} (κ:α→Int)
def bP (l:List α) (i:Int):Option α:=l.find? fun x=>κ x==i
def ju (l:List α) (x:α):List α:=l.filter (fun y=>decide (κ y<κ x)) ++ x::l.filter (fun y=>decide (κ x<κ y))
def pM (l:List α) (i:Int):List α:=l.filter fun y=>decide (κ y≠i)
def bS (l:List α):Prop:=l.Pairwise fun x y=>κ x<κ y
variable {κ}
theorem iv (p:α→Bool) (l:List α) (i:Int) (h:∀x∈l,κ x=i→p x=true):bP κ (l.filter p) i=bP κ l i:=by
 unfold bP
 induction l with
 | nil=>rfl
 | cons x l ih=>
  have ih:=ih fun y hy=>h y (List.mem_cons_of_mem _ hy);rw[List.filter_cons,List.find?_cons];by_cases hx:κ x=i
  · rw[if_pos (h x (List.mem_cons_self ..) hx),List.find?_cons,beq_iff_eq.2 hx]
  · have e:(κ x==i)=false:=by simpa using hx
    rw[e]
    split
    · rw[List.find?_cons,e];exact ih
    · exact ih
theorem cU (l:List α) (i:Int) (h:∀x∈l,κ x≠i):bP κ l i=none:=by
 unfold bP;rw[List.find?_eq_none];intro x hx
 simpa using h x hx
theorem ey {l:List α} {i:Int} {x:α} (h:bP κ l i=some x):x∈l∧κ x=i:=by
 unfold bP at h;exact⟨List.mem_of_find?_eq_some h,by simpa using List.find?_some h⟩
theorem sh (l:List α) (x:α) (i:Int):bP κ (ju κ l x) i=if i=κ x then some x else bP κ l i:=by
 have e:bP κ (ju κ l x) i=(bP κ (l.filter (fun y=>decide (κ y<κ x))) i).or (bP κ (x::l.filter (fun y=>decide (κ x<κ y))) i):=by
  unfold bP ju;rw[List.find?_append]
 rw[e];by_cases hi:i=κ x
 · rw[if_pos hi,cU (l.filter (fun y=>decide (κ y<κ x))) i fun y hy=>by
    have:=List.mem_filter.1 hy;have:=of_decide_eq_true this.2
    omega]
   unfold bP;rw[List.find?_cons,beq_iff_eq.2 hi.symm];rfl
 · rw[if_neg hi]
   have e2:bP κ (x::l.filter (fun y=>decide (κ x<κ y))) i=bP κ (l.filter (fun y=>decide (κ x<κ y))) i:=by
    unfold bP
    have:(κ x==i)=false:=by simpa using fun q=>hi q.symm
    rw[List.find?_cons,this]
   rw[e2];rcases Int.lt_trichotomy i (κ x) with h | h | h
   · rw[iv _ l i fun y _ hy=>decide_eq_true ab,cU (l.filter (fun y=>decide (κ x<κ y))) i fun y hy=>by
      have:=of_decide_eq_true (List.mem_filter.1 hy).2
      omega]
     simp
   · exact absurd h hi
   · rw[cU (l.filter (fun y=>decide (κ y<κ x))) i fun y hy=>by
      have:=of_decide_eq_true (List.mem_filter.1 hy).2
      omega,iv _ l i fun y _ hy=>decide_eq_true ab]
     simp
theorem yN (l:List α) (k i:Int):bP κ (pM κ l k) i=if i=k then none else bP κ l i:=by
 unfold pM;by_cases hi:i=k
 · rw[if_pos hi]
   exact cU _ _ fun y hy=>by
    have:=of_decide_eq_true (List.mem_filter.1 hy).2;omega
 · rw[if_neg hi]
   exact iv _ l i fun y _ hy=>decide_eq_true ab
theorem uK {l:List α} (h:bS κ l) (x:α):bS κ (ju κ l x):=by
 unfold bS ju at *;rw[List.pairwise_append,List.pairwise_cons];refine⟨h.filter _,⟨fun y hy=>of_decide_eq_true (List.mem_filter.1 hy).2,h.filter _⟩,fun y hy z hz=>?_⟩;have h1:=of_decide_eq_true (List.mem_filter.1 hy).2;rcases List.mem_cons.1 hz with rfl | hz
 · exact h1
 · have h2:=of_decide_eq_true (List.mem_filter.1 hz).2
   omega
theorem z6 {l:List α} (h:bS κ l) (k:Int):bS κ (pM κ l k):=h.filter _
theorem ui:bS κ []:=.nil
theorem fu {l:List α} (h:bS κ l) {x:α} (hx:x∈l):bP κ l (κ x)=some x:=by
 unfold bS at h;unfold bP
 induction l with
 | nil=>cases hx
 | cons y l ih=>
  rw[List.pairwise_cons] at h;rcases List.mem_cons.1 hx with rfl | hx
  · rw[List.find?_cons,beq_self_eq_true]
  · have:=h.1 x hx
    have e:(κ y==κ x)=false:=by rw[beq_eq_false_iff_ne];omega
    rw[List.find?_cons,e];exact ih h.2 hx
theorem A9 {a b:List α} (ha:bS κ a) (hb:bS κ b) (h:∀i,bP κ a i=bP κ b i):a=b:=by
 have hm:∀x,x∈a↔x∈b:=fun x=>
  ⟨fun hx=>(ey ((h (κ x)).symm.trans (fu ha hx))).1,fun hx=>(ey ((h (κ x)).trans (fu hb hx))).1⟩
 clear h;unfold bS at ha hb
 induction a generalizing b with
 | nil=>
  cases b with
  | nil=>rfl
  | cons y b=>exact absurd ((hm y).2 (List.mem_cons_self ..)) List.not_mem_nil
 | cons x a ih=>
  cases b with
  | nil=>exact absurd ((hm x).1 (List.mem_cons_self ..)) List.not_mem_nil
  | cons y b=>
   rw[List.pairwise_cons] at ha hb
   have hxy:x=y:=by
    rcases List.mem_cons.1 ((hm x).1 (List.mem_cons_self ..)) with h1 | h1
    · exact h1
    · rcases List.mem_cons.1 ((hm y).2 (List.mem_cons_self ..)) with h2 | h2
      · exact h2.symm
      · have:=hb.1 x h1
        have:=ha.1 y h2;omega
   subst hxy
   congr 1
   refine ih ha.2 hb.2 fun z=>?_;have:=hm z;simp only[List.mem_cons] at this
   constructor
   · intro hz
     rcases this.1 (.inr hz) with rfl | h1
     · have:=ha.1 _ hz;omega
     · exact h1
   · intro hz
     rcases this.2 (.inr hz) with rfl | h1
     · have:=hb.1 _ hz;omega
     · exact h1
theorem nn {a:List α} (ha:bS κ a) {b:List α} (hb:bS κ b) (h:∀x,x∈a↔x∈b):a=b:=
 A9 ha hb fun i=>by
  cases h1:bP κ a i with
  | none=>
   cases h2:bP κ b i with
   | none=>rfl
   | some y=>
    obtain⟨m,e⟩:=ey h2;have:=fu ha ((h y).2 m);rw[e,h1] at this;cases this
  | some x=>
   obtain⟨m,e⟩:=ey h1;have:=fu hb ((h x).1 m);rw[e] at this;exact this.symm
theorem srt_get {l:List α}:bS κ l↔∀k (h:k+1<l.length),κ l[k]<κ l[k+1]:=by
 unfold bS;rw[List.pairwise_iff_getElem]
 constructor
 · intro h k hk;exact h k (k+1) ab hk ab
 · intro h i j hi hj hij
   obtain⟨d,rfl⟩:∃d,j=i+1+d:=⟨j-(i+1),by omega⟩;clear hij
   induction d with
   | zero=>exact h i hj
   | succ d ih=>exact Int.lt_trans (ih ab) (h (i+1+d) hj)
end
def dO (l:List Trn) (i:Int):Option Trn:=bP Trn.i l i
def df (l:List Dty) (g:Int):Option Dty:=bP Dty.g l g
def mv:Trn:=⟨0,0,0,false⟩
def rp (t:Tbl) (x:Rcd):Trn:=⟨x.e.t,x.l,if x.e.k=0 then x.l else if x.e.k=1 then x.e.x else ((dO t.ts x.e.t).getD mv).u,x.e.k==2||((dO t.ts x.e.t).getD mv).c⟩
def jA (t:Tbl) (x:Rcd):List Dty:=if dt x.e=true∧df t.ds x.e.g=none then ju Dty.g t.ds ⟨x.e.g,x.e.f,x.l⟩ else t.ds
def dV (t:Tbl) (x:Rcd):Tbl:=if x.e.k=5 then t else ⟨if x.e.k=4 then pM Trn.i t.ts x.e.t else ju Trn.i t.ts (rp t x),jA t x⟩
structure SrtT (t:Tbl):Prop where
 ts:bS Trn.i t.ts
 ds:bS Dty.g t.ds
theorem ni:SrtT gA:=⟨ui,ui⟩
theorem SrtT.chg {t:Tbl} (h:SrtT t) (x:Rcd):SrtT (dV t x):=by
 unfold dV
 split
 · exact h
 · refine⟨?_,?_⟩
   · split
     · exact z6 h.ts _
     · exact uK h.ts _
   · show bS Dty.g (jA t x)
     unfold jA
     split
     · exact uK h.ds _
     · exact h.ds
theorem SrtT.fold {l:List Rcd}:∀{t:Tbl},SrtT t→SrtT (l.foldl dV t):=by
 induction l with
 | nil=>exact fun h=>h
 | cons x l ih=>exact fun h=>ih (h.chg x)
theorem TblOk.srt {t:Tbl} (h:TblOk t):SrtT t:=⟨srt_get.2 h.tord,srt_get.2 h.dord⟩
def AR (t0:Tbl) (l:List Rcd):Tbl × Int:=if dy (l.foldl dV t0)≠0 then (gA,dy (l.foldl dV t0)) else (l.foldl dV t0,0)
def gO (l:List Rcd) (a:Int):Tbl × Int:=if a=0 then AR gA l else match dX l a with
 | none=>(gA,6)
 | some x=>if x.e.k≠5 then (gA,6) else AR (cM (bl x.e.d)) (l.filter fun y=>decide (a<y.l))
open Go.RowKit
open Go.RowKit
def Cn (p:ByteArray):Int:=num (((bl p).drop 8).take 4) % 2147483648
def ta (p:ByteArray) (n:Int):ByteArray:=qN p 8 (bs (lit n 4))
theorem po {p:ByteArray} {n:Int} (hp:p.size=512):(ta p n).size=512:=by
 have h1:(bs (lit n 4)).size=4:=by rw[fI,jx]
 rw[←aO];unfold ta;rw[uN,List.length_append,List.length_append,List.length_take,List.length_drop,aO,aO,h1,hp];rfl
def nA (n:Int):Int:=bn (bf n 1 2147483647) 2
def iL (p:ByteArray) (plain:Bool) (n:Int) (x:Op):ByteArray × Bool × Int:=
 if ar [bY p,nA n,e8 x]≠0 then (⟨#[]⟩,false,ar [bY p,nA n,e8 x])
 else if plain then (if x.k=2∨x.k=3 then (⟨#[]⟩,false,15) else (ep p x,!(bl (ep p x)==bl p),0))
 else if n≤Cn p then (p,false,0)
 else if dh p x then (ta (ep p x) n,true,0) else (⟨#[]⟩,false,13)
theorem zv {p:ByteArray} {plain:Bool} {n:Int} {x:Op} (hp:p.size=512) (hn:bf n 1 2147483647=true) (hx:e8 x=0) :
 iL p plain n x=if plain then (if x.k=2∨x.k=3 then (⟨#[]⟩,false,15) else (ep p x,!(bl (ep p x)==bl p),0)) else if n≤Cn p then (p,false,0) else if dh p x then (ta (ep p x) n,true,0) else (⟨#[]⟩,false,13):=by
 have e1:nA n=0:=by unfold nA;rw[hn];rfl
 have e3:bY p=0:=by unfold bY;rw[hp];rfl
 have e2:ar [bY p,nA n,e8 x]=0:=by rw[e3,e1,hx];rfl
 unfold iL
 rw[e2,if_neg (fun g=>g rfl)]
open Go.RowKit
def vF (p:Option Pgp) (x:Pgp):Int:=ar [bn (bf x.g 0 600) 2,bn (match p with | none=>true | some y=>decide (y.g<x.g)) 9,bn (x.b.size==512) 10]
def rB (l:List Pgp):Int × Int:=cB (fun i x=>vF (cH l i) x) 0 l
def jk (l:List Pgp):Int:=if 40<l.length then 8 else (rB l).2
def kc (l:List Pgp) (g:Int):Option Pgp:=bP Pgp.g l g
def jo (p:List Pgp) (x:Rcd):Int:=if dt x.e=true then (match kc p x.e.g with | none=>6 | some q=>bn (q.f==x.e.f) 13) else 0
def mD (l:List Rcd) (p:List Pgp):Int:=if jk p≠0 then jk p else (cB (fun _ x=>jo p x) 0 l).2
structure PgpOk (x:Pgp):Prop where
 g:0≤x.g∧x.g≤600
 b:x.b.size=512
structure PgsOk (l:List Pgp):Prop where
 n:l.length≤40
 all:∀k (h:k<l.length),PgpOk l[k]
 srt:bS Pgp.g l
theorem pgpE_zero {p:Option Pgp} {x:Pgp}:vF p x=0↔PgpOk x∧∀y,p=some y→y.g<x.g:=by
 unfold vF;rw[aQ];simp only[List.mem_cons,List.not_mem_nil,or_false,forall_eq_or_imp,forall_eq];rw[aL aq,aL aq,aL aq,inB_true,beq_iff_eq]
 constructor
 · rintro ⟨h1,h2,h3⟩
   refine⟨⟨h1,h3⟩,fun y hy=>?_⟩;subst hy;simpa using h2
 · rintro ⟨⟨h1,h3⟩,h2⟩
   refine⟨h1,?_,h3⟩
   cases p with
   | none=>rfl
   | some y=>simpa using h2 y rfl
theorem pgsE1_zero {l:List Pgp}:jk l=0↔PgsOk l:=by
 unfold jk rB
 constructor
 · intro h
   split at h
   · cases h
   have h:=(cu _ _).1 h;refine⟨by omega,fun k hk=>(pgpE_zero.1 (h k hk)).1,srt_get.2 fun k hk=>?_⟩;exact(pgpE_zero.1 (h (k+1) hk)).2 _ (dT _ _ _)
 · intro h
   rw[if_neg (by have:=h.n;omega),cu];intro k hk;rw[pgpE_zero];refine⟨h.all k hk,fun y hy=>?_⟩
   cases k with
   | zero=>cases hy
   | succ k=>rw[dT _ _ ab] at hy;cases hy;exact srt_get.1 h.srt k hk
def gb (l:List Pgp) (g:Int) (s:ByteArray):List Pgp:=l.map fun q=>if q.g=g then ⟨q.g,q.f,s⟩ else q
theorem eP (l:List Pgp) (g:Int) (s:ByteArray):(gb l g s).length=l.length:=List.length_map ..
theorem su {l:List Pgp} {g:Int} {s:ByteArray} {k:Nat} (hk:k<(gb l g s).length) (hk':k<l.length):(gb l g s)[k]=if l[k].g=g then ⟨l[k].g,l[k].f,s⟩ else l[k]:=by
 have h1:(gb l g s)[k]? = some (if l[k].g=g then ⟨l[k].g,l[k].f,s⟩ else l[k]):=by
  unfold gb;rw[List.getElem?_map,List.getElem?_eq_getElem hk'];rfl
 rw[List.getElem?_eq_getElem hk] at h1;exact Option.some.inj h1
theorem zl (l:List Pgp) (g:Int) (s:ByteArray):(gb l g s).map Pgp.g=l.map Pgp.g:=by
 unfold gb;rw[List.map_map];apply List.map_congr_left;intro q _;show(if q.g=g then (⟨q.g,q.f,s⟩:Pgp) else q).g=q.g
 split<;>rfl
theorem uU {l:List Pgp} (h:PgsOk l) (g:Int) (s:ByteArray) (hs:s.size=512):PgsOk (gb l g s):=by
 refine⟨by rw[eP];exact h.n,fun k hk=>?_,?_⟩
 · have hk':k<l.length:=by rw[eP] at hk;exact hk
   rw[su hk hk'];have h1:=h.all k hk'
   split
   · exact⟨h1.g,hs⟩
   · exact h1
 · have h1:=h.srt
   unfold bS at h1 ⊢;have h2:(l.map Pgp.g).Pairwise (·<·):=List.pairwise_map.2 h1;rw[←zl l g s] at h2;exact List.pairwise_map.1 h2
theorem xr (l:List Pgp) (g:Int) (s:ByteArray) (i:Int):kc (gb l g s) i=if i=g then (kc l g).map (fun q=>⟨q.g,q.f,s⟩) else kc l i:=by
 unfold kc bP gb
 induction l with
 | nil=>simp
 | cons q l ih=>
  rw[List.map_cons,List.find?_cons,List.find?_cons,List.find?_cons];by_cases hq:q.g=g
  · rw[if_pos hq]
    simp only;by_cases hi:i=g
    · have e1:(q.g==i)=true:=by rw[beq_iff_eq];omega
      have e2:(q.g==g)=true:=by rw[beq_iff_eq];omega
      rw[e1,e2,if_pos hi];rfl
    · have e1:(q.g==i)=false:=by rw[beq_eq_false_iff_ne];omega
      rw[e1,if_neg hi];rw[if_neg hi] at ih;exact ih
  · rw[if_neg hq]
    by_cases hi:i=g
    · have e1:(q.g==i)=false:=by rw[beq_eq_false_iff_ne];omega
      have e2:(q.g==g)=false:=by rw[beq_eq_false_iff_ne];omega
      rw[e1,e2];simp only;exact ih
    · by_cases hqi:q.g=i
      · have e1:(q.g==i)=true:=by rw[beq_iff_eq];exact hqi
        rw[e1,if_neg hi]
      · have e1:(q.g==i)=false:=by rw[beq_eq_false_iff_ne];exact hqi
        rw[e1];rw[if_neg hi] at ih ⊢;exact ih
theorem yY {l:List Pgp} (h:bS Pgp.g l) {k:Nat} (hk:k<l.length) (s:ByteArray):gb l l[k].g s=l.set k ⟨l[k].g,l[k].f,s⟩:=by
 unfold bS at h;rw[List.pairwise_iff_getElem] at h;apply List.ext_getElem (by rw[eP,List.length_set]);intro j h1 h2;rw[eP] at h1;have h1':=h1;rw[su (by rw[eP];exact h1') h1',List.getElem_set];by_cases hj:k=j
 · subst hj
   rw[if_pos rfl,if_pos rfl]
 · rw[if_neg hj,if_neg]
   intro q;rcases Nat.lt_or_gt_of_ne hj with h3 | h3
   · have:=h k j hk h1 h3;omega
   · have:=h j k h1 hk h3;omega
def tE (t:Tbl) (x:Rcd):Bool:=dt x.e&&match df t.ds x.e.g with | none=>false | some d=>decide (d.l≤x.l)
def ij (t:Tbl):List Pgp→Int→List Rcd→List Pgp × Int × Int
 | p,n,[]=>(p,n,0)
 | p,n,x::r=>if tE t x=true then (match kc p x.e.g with
  | none=>([],0,0)
  | some q=>if (iL q.b q.f x.l x.e.o).2.2≠0 then ([],0,(iL q.b q.f x.l x.e.o).2.2) else ij t (gb p x.e.g (iL q.b q.f x.l x.e.o).1) (n+n3 (iL q.b q.f x.l x.e.o).2.1) r) else ij t p n r
structure Los where
 j:Nat
 i:Int
 u:Int
def vK:Nat→List Trn→List Los
 | _,[]=>[]
 | j,x::l=>if x.c then vK (j+1) l else ⟨j,x.i,x.u⟩::vK (j+1) l
def Aa:List Los→Option Los
 | []=>none
 | x::l=>match Aa l with
  | none=>some x
  | some y=>if y.u>x.u then some y else some x
structure Stp where
 r:Rcd
 j:Nat
 z:Bool
def vZ (l:List Los) (j:Nat) (u:Int):List Los:=l.map fun x=>if x.j=j then ⟨x.j,x.i,u⟩ else x
def dn (x:Lge):Int:=if x.k=1 then x.x else x.p
def nQ (l:List Rcd):Nat→List Los→List Stp × Int
 | f,us=>match Aa us with
  | none=>([],0)
  | some b=>if b.u=0 then ([],0) else match dX l b.u with
   | none=>([],6)
   | some r=>if dt r.e=true∧r.e.t=b.i then (match f with
    | 0=>([],26)
    | f+1=>if (nQ l f (vZ us b.j (dn r.e))).2≠0 then ([],(nQ l f (vZ us b.j (dn r.e))).2) else (⟨r,b.j,decide (dn r.e=0)⟩::(nQ l f (vZ us b.j (dn r.e))).1,0)) else ([],6)
def BK (l:List Rcd) (t:Tbl):List Stp × Int:=nQ l 100 (vK 0 t.ts)
def CA (l:List Rcd) (t:Tbl):List Int:=((BK l t).1.filter fun s=>s.r.e.k==0).map fun s=>s.r.l
open Go.RowKit Go.Sort
section
variable {α:Type} {f:α→List Value} {n:Nat}
theorem o7 (hf:∀x,(f x).length=n) (l:List α) (k:Nat):(l.flatMap f).drop (k*n)=(l.drop k).flatMap f:=by
 induction l generalizing k with
 | nil=>simp
 | cons x l ih=>
  cases k with
  | zero=>simp
  | succ k=>
   rw[List.flatMap_cons,List.drop_succ_cons,←ih k,Nat.succ_mul,Nat.add_comm,←List.drop_drop,List.drop_left' (hf x)]
theorem vt (hf:∀x,(f x).length=n) (l:List α) (k:Nat):(l.flatMap f).take (k*n)=(l.take k).flatMap f:=by
 induction l generalizing k with
 | nil=>simp
 | cons x l ih=>
  cases k with
  | zero=>simp
  | succ k=>
   rw[List.flatMap_cons,List.take_succ_cons,List.flatMap_cons,←ih k,Nat.succ_mul,Nat.add_comm,List.take_append,List.take_of_length_le (by rw[hf];omega),hf,Nat.add_sub_cancel_left]
theorem o9 (hf:∀x,(f x).length=n) (l:List α) {k:Nat} (hk:k<l.length) {j:Nat} {u:Value} (hu:(f l[k])[j]? = some u):(l.flatMap f)[k*n+j]? = some u:=by
 rw[←List.getElem?_drop,o7 hf,List.drop_eq_getElem_cons hk,List.flatMap_cons,List.getElem?_append_left (List.getElem?_eq_some_iff.1 hu).1];exact hu
theorem aW {X:World} {B b o:Nat} {l:List α} {k:Nat} (hf:∀x,(f x).length=n) (h:Rd X B (some ⟨b,o,none⟩) (l.flatMap f)) (hk:k<l.length):∀(j:Nat) (u:Value),(f l[k])[j]? = some u→X.cell? ⟨b,o+k*n+j,none⟩=some u:=fun j u hu=>by
 obtain⟨b',o',e,_,hc⟩:=h (k*n+j) u (o9 hf l hk hu);injection e with e;injection e with e1 e2;subst e1 e2;rw[Nat.add_assoc];exact hc
end
end Go.Proofs.YtcfdpfmchchkaaaGreatDoor
