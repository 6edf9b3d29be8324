/- Chapter 22 -/
import Derived.Test.YtcfdpfmchchkaaaGreatDoorRcA
namespace Go.Proofs.YtcfdpfmchchkaaaGreatDoor
set_option maxRecDepth 100000
set_option maxHeartbeats 4000000
set_option linter.unusedVariables false
set_option linter.unusedSimpArgs false
open Go.RowKit
def VldH (l:List Rcd) (i:Nat):Prop:=i≤l.length∧∀k (a:k<l.length),k<i→dV l k (cn l k) l[k]=0
section
variable {l:List Rcd} {i:Nat}
theorem VldH.mono (h:VldH l i) {j:Nat} (a:j≤i):VldH l j:=⟨Nat.le_trans a h.1,fun k b c=>h.2 k b ab⟩
theorem VldH.e0 (h:VldH l i) {k:Nat} (c:k<i):1≤(l[k]'(by have:=h.1;omega)).l∧(l[k]'(by have:=h.1;omega)).l≤2147483647∧cD (l[k]'(by have:=h.1;omega)).e=0:=by
 have d:=h.1;have a:=(kA (h.2 k ab c)).1;unfold eu at a;rw[aS] at a;have b:=inB_true.1 ((aD au).1 (a _ (.head _)));exact⟨b.1,b.2,a _ (.tail _ (.tail _ (.head _)))⟩
theorem VldH.step (h:VldH l i) {k:Nat} (a:k+1<i):(l[k]'(by have:=h.1;omega)).l<(l[k+1]'(by have:=h.1;omega)).l:=by
 have b:=h.1;have Y:=(kA (h.2 (k+1) ab a)).1;unfold eu at Y;rw[aS] at Y;have Y:=(aD au).1 (Y _ (.tail _ (.head _)));rw[eX _ _ ab] at Y;exact of_decide_eq_true Y
theorem VldH.asc (h:VldH l i):∀(d j:Nat) (a:j+d+1<i),(l[j]'(by have:=h.1;omega)).l<(l[j+d+1]'(by have:=h.1;omega)).l
 | 0,j,a=>h.step a
 | d+1,j,a=>Int.lt_trans (h.asc d j ab) (h.step (k:=j+d+1) ab)
theorem VldH.lt (h:VldH l i) {j k:Nat} (b:j<k) (a:k<i):(l[j]'(by have:=h.1;omega)).l<(l[k]'(by have:=h.1;omega)).l:=by
 obtain⟨d,rfl⟩:∃d,k=j+d+1:=⟨k-j-1,by omega⟩;exact h.asc d j a
theorem VldH.inj (h:VldH l i) {j k:Nat} (b:j<i) (c:k<i) (e:(l[j]'(by have:=h.1;omega)).l=(l[k]'(by have:=h.1;omega)).l):j=k:=by
 rcases Nat.lt_trichotomy j k with a | a | a
 · have:=h.lt a c;omega
 · exact a
 · have:=h.lt a b;omega
theorem gP {l:List Rcd} (h:0<l.length):dO l=l[0].l:=by
 match l,h with
 | x::r,_=>rfl
theorem VldH.fst (h:VldH l i) {k:Nat} (b:k<i):dO l≤(l[k]'(by have:=h.1;omega)).l:=by
 have c:=h.1;rw[gP ab];rcases Nat.eq_zero_or_pos k with a | a
 · subst a;exact Int.le_refl _
 · exact Int.le_of_lt (h.lt a b)
theorem lN {l:List Rcd} {i:Nat} {n:Int} {u:Rcd} (h:dx (l.take i) n=some u):∃k,∃a:k<l.length,k<i∧l[k]=u∧u.l=n:=by
 unfold dx at h;have c:=List.mem_of_find?_eq_some h;have b:=List.find?_some h;obtain⟨k,a,rfl⟩:=List.getElem_of_mem c;rw[List.length_take] at a;exact⟨k,by omega,by omega,by rw[List.getElem_take],ar b⟩
theorem VldH.fnd (h:VldH l i) {k:Nat} (b:k<i):dx (l.take i) (l[k]'(by have:=h.1;omega)).l=some (l[k]'(by have:=h.1;omega)):=by
 have e:=h.1
 cases hf:dx (l.take i) l[k].l with
 | none=>
  unfold dx at hf;rw[List.find?_eq_none] at hf;have:=hf l[k] (List.mem_iff_getElem.2 ⟨k,by rw[List.length_take];omega,List.getElem_take⟩);simp at this
 | some u=>
  obtain⟨j,d,a,rfl,c⟩:=lN hf;obtain rfl:=h.inj a b c
  rfl
theorem ES (h:VldH l i):∀(k:Nat) (G:k<i),(l[k]'(by have:=h.1;omega)).e.k≠5→∀u,dx (l.take i) (jc l k)=some u→u.e.t=(l[k]'(by have:=h.1;omega)).e.t:=by
 intro k
 induction k using Nat.strongRecOn with
 | ind k ih=>
  intro G M u H;have Q:=h.1
  have s:k<l.length:=by omega
  obtain⟨n,R,f,c,a⟩:=lN H;have O:∀m (hm:m<l.length),m<k→dV l m (cn l m) l[m]=0:=fun m hm A=>h.2 m hm ab;have z:=mA k ab O l[k].e.t;obtain⟨_,_,hr⟩:=kA (h.2 k s G);obtain⟨S,p,h3,P⟩:=hr M;have B:=(h.e0 f).1;rw[c] at B;have D:=h.fst f;rw[c] at D
  have own:∀d,bO l l[k].e.t k=some d→∀u,dx (l.take i) (jc l d)=some u→u.e.t=l[k].e.t:=fun d g u H=>by
   obtain⟨y,x,hx,v,r⟩:=fq g
   have j:l[d]=x:=by rw[List.getElem?_eq_getElem ab] at hx;exact Option.some.inj hx
   have:=ih d y ab (by rw[j];exact v) u H;rw[this,j,r]
  rw[pw s] at a;by_cases k0:l[k].e.k=0
  · rw[if_pos k0] at a
    have:n=k:=h.inj f G (by rw[c];exact a);subst this;rw[c]
  rw[if_neg k0] at a;by_cases F:l[k].e.k=1
  · rw[if_pos F] at a
    have o:=P F;unfold lz at o
    split at o
    · cases o
    rename_i L
    split at o
    · rename_i C
      have:=of_decide_eq_true ((aD au).1 o);omega
    · rename_i w J
      have o:=(aD au).1 o;simp only[Bool.and_eq_true,beq_iff_eq,decide_eq_true_eq] at o;obtain⟨⟨⟨⟨w0,wp⟩,_⟩,_⟩,_⟩:=o;obtain⟨m,hm,A,rfl,b⟩:=lN J
      have E:l[m].e.t=l[k].e.t:=by
       unfold ja at b p
       cases g:bO l l[k].e.t k with
       | none=>
        rw[g] at z;rw[z] at b p;simp only[Option.map_none] at b p;rw[(ju p).2] at b;have:=(h.e0 (k:=m) ab).1;simp only at b
        split at b<;>omega
       | some d=>
        rw[g] at z;rw[z] at b p;simp only[Option.map_some] at b p;by_cases I:(mh l d).k=4
        · rw[if_pos I] at b p
          rw[(ju p).2] at b;have:=(h.e0 (k:=m) ab).1;simp only at b
          split at b<;>omega
        · rw[if_neg I] at b
          have e:l[m].l=jc l d:=b;have:=own d g l[m] (by rw[←e];exact h.fnd ab);exact this
      rcases yX hm (fun q N K=>h.2 q N ab) (by rw[w0];decide) with ⟨T,_⟩ | ⟨d,g,_,hp⟩
      · omega
      · obtain⟨y,x,hx,v,r⟩:=fq g
        have j:l[d]=x:=by rw[List.getElem?_eq_getElem ab] at hx;exact Option.some.inj hx
        rw[qj ab] at hp;have:n=d:=h.inj f ab (by rw[c];omega);subst this;rw[←c,j,r,E]
  rw[if_neg F] at a
  cases g:bO l l[k].e.t k with
  | none=>
   rw[g] at a;simp only at a
   split at a<;>omega
  | some d=>
   rw[g] at a;simp only at a
   split at a
   · refine own d g u ?_
     rw[←a];have:=h.fnd f;rw[c] at this;exact this
   · split at a<;>omega
end
def my (l:List Rcd) (b:Option Nat) (p:Int):Bool:=match b with
 | none=>decide (dO l≤p)&&p != 0
 | some k=>if ey l k=4 then p != 0 else p != jK l k
def cR (l:List Rcd) (b:Option Nat):Int:=match b with
 | none=>0
 | some k=>if ey l k=4 then 0 else ey l k
def mq (l:List Rcd) (b:Option Nat) (p:Int):Int:=match b with
 | none=>if p=0 then 0 else -1
 | some k=>if ey l k=4 then (if p=0 then 0 else -1) else jc l k
def mT (l:List Rcd) (i:Nat) (n:Int) (x:Lge):Int:=if n=0 then 13 else match dx (l.take i) n with
 | none=>if dO l≤x.x then 13 else 0
 | some u=>if u.e.k=0∧u.e.t=x.t∧x.x=u.e.p∧x.g=u.e.g∧x.f=u.e.f∧x.o=fH u.e.o then 0 else 13
def B6 (l:List Rcd) (i:Nat) (x:Lge):Int:=
 if my l (bO l x.t i) x.p=true then 14
 else if cR l (bO l x.t i)=2∧x.k≠4 then 20
 else if (cR l (bO l x.t i)=3∨cR l (bO l x.t i)=1)∧x.k≠1∧x.k≠4 then 20
 else if x.k≠1 then 0
 else mT l i (mq l (bO l x.t i) x.p) x
def CA (l:List Rcd) (i:Nat) (x:Lge):Int:=if x.k=5 then Ft x else if x.t=0 then 2 else B6 l i x
theorem xE {x:Lge} (h:cD x=0):0≤x.k∧x.k≤5:=by
 unfold cD at h;rw[aS] at h;exact inB_true.1 ((aD au).1 (h _ (.head _)))
theorem wO {x:Lge} (h:cD x=0):(0≤x.t∧x.t≤9999)∧(0≤x.p∧x.p≤2147483647)∧(0≤x.x∧x.x≤2147483647)∧(0≤x.g∧x.g≤600):=by
 unfold cD at h;rw[aS] at h;have:=(aD au).1 (h _ (.tail _ (.head _)));unfold jQ at this;rw[Bool.and_eq_true,Bool.and_eq_true,Bool.and_eq_true,inB_true,inB_true,inB_true,inB_true] at this;exact⟨this.1.1.1,this.1.1.2,this.1.2,this.2⟩
theorem Bw {k c:Int} (b:0≤k∧k≤3) (a:0≤c∧c≤4):qP k c=true↔¬((k=2∧c≠4)∨((k=3∨k=1)∧c≠1∧c≠4)):=by
 rcases (show k=0∨k=1∨k=2∨k=3 by omega) with rfl | rfl | rfl | rfl<;>rcases (show c=0∨c=1∨c=2∨c=3∨c=4 by omega) with rfl | rfl | rfl | rfl | rfl<;>decide
theorem De {l:List Rcd} {i:Nat} (h:VldH l i) (c:Chn) (x:Lge) (m:∀u,dx (l.take i) c.u=some u→u.e.t=x.t):lz l i c x=mT l i c.u x:=by
 unfold lz mT
 split
 · rfl
 · cases hf:dx (l.take i) c.u with
   | none=>
    simp only;unfold bF;by_cases hx:x.x<dO l
    · rw[decide_eq_true hx,if_pos rfl,if_neg ab]
    · rw[decide_eq_false hx,if_neg au,if_pos ab]
   | some u=>
    simp only;have:=m u hf;unfold bF;by_cases a:(u.e.k==0&&x.x==u.e.p&&x.g==u.e.g&&x.f==u.e.f&&decide (x.o=fH u.e.o))=true
    · rw[a]
      simp only[Bool.and_eq_true,beq_iff_eq,decide_eq_true_eq] at a;obtain⟨⟨⟨⟨b1,j⟩,d⟩,b4⟩,b⟩:=a;rw[if_pos rfl,if_pos ⟨b1,this,j,d,b4,b⟩]
    · rw[if_neg a,if_neg]
      rintro ⟨b1,j,d,b4,b,n⟩
      apply a;simp only[Bool.and_eq_true,beq_iff_eq,decide_eq_true_eq];exact⟨⟨⟨⟨b1,d⟩,b4⟩,b⟩,n⟩
theorem EY {l:List Rcd} {i:Nat} (V:i<l.length) (h:VldH l i) (D:eu l i l[i]=0):dV l i (cn l i) l[i]=CA l i l[i].e:=by
 unfold dV CA;rw[if_neg (by rw[Classical.not_not];exact D)];by_cases E:l[i].e.k=5
 · rw[if_pos E,if_pos E]
 rw[if_neg E,if_neg E];by_cases ht:l[i].e.t=0
 · rw[if_pos ht,if_pos ht]
 rw[if_neg ht,if_neg ht]
 have H:1≤l[i].l∧cD l[i].e=0:=by
  unfold eu at D;rw[aS] at D;have W:=inB_true.1 ((aD au).1 (D _ (.head _)));exact⟨W.1,D _ (.tail _ (.tail _ (.head _)))⟩
 have L:=xE H.2;have Y:=(wO H.2).2.1
 have hf:1≤dO l:=by
  rcases Nat.eq_zero_or_pos i with m | m
  · subst m;rw[gP V];exact H.1
  · have:=(h.e0 m).1
    rw[gP ab];exact this
 have C:=mA i h.1 h.2 l[i].e.t;obtain⟨x,hx⟩:∃x,x=l[i].e:=⟨_,rfl⟩;rw[←hx] at C E ht L Y ⊢;clear hx H
 have Q:∀n:Int,n≤0→dx (l.take i) n=none:=fun n Z=>by
  cases hq:dx (l.take i) n with
  | none=>rfl
  | some u=>
   obtain⟨k,T,f,rfl,X⟩:=lN hq;have:=(h.e0 f).1;omega
 have A:∀b:Bool,(b=true→True)→∀g:Bool,g=(if b then x.p != 0 else decide (dO l≤x.p)&&x.p != 0) →
  nJ l i (il (dO l) x b) x=if g=true then 14 else if x.k≠1 then 0 else mT l i (if x.p=0 then 0 else -1) x:=fun b _ g r=>by
  unfold nJ il;by_cases d:x.p>(if b then 0 else dO l-1)
  · rw[if_pos d]
    have:g=true:=by
     rw[r]
     cases b
     · simp at d ⊢;omega
     · simp at d ⊢;omega
    rw[this,if_pos rfl];simp[aw]
  · rw[if_neg d]
    have:g=false:=by
     rw[r]
     cases b
     · simp at d ⊢;omega
     · simp at d ⊢;omega
    rw[this,if_neg (show ¬(false=true) by decide)];by_cases s:x.p=0
    · have e0:(if x.p≠0 then (-1:Int) else 0)=0:=if_neg ab
      have z:qP 0 x.k=true:=(Bw ⟨by decide,by decide⟩ ⟨L.1,by omega⟩).2 ab;rw[e0,if_pos s];show aw [0,if (0:Int) = -1 then 0 else bF (qP 0 x.k) 20,if x.k=1 then lz l i ⟨x.p,0,0⟩ x else 0]=_;rw[if_neg (show ¬((0:Int) = -1) by decide),z];by_cases a:x.k=1
      · rw[if_pos a,if_neg (show ¬(x.k≠1) by omega)];rfl
      · rw[if_neg a,if_pos a];rfl
    · have e0:(if x.p≠0 then (-1:Int) else 0) = -1:=if_pos s
      rw[e0,if_neg s];show aw [0,if (-1:Int) = -1 then 0 else bF (qP (-1) x.k) 20,if x.k=1 then lz l i ⟨x.p,-1,-1⟩ x else 0]=_;rw[if_pos rfl];by_cases a:x.k=1
      · rw[if_pos a,if_neg (show ¬(x.k≠1) by omega),De h ⟨x.p,-1,-1⟩ x (fun u I=>by rw[Q (-1) au] at I;cases I)]
        show(if mT l i (-1) x=0 then 0 else mT l i (-1) x)=_
        split
        · rename_i q;exact q.symm
        · rfl
      · rw[if_neg a,if_pos a];rfl
 unfold B6 ja
 cases hb:bO l x.t i with
 | none=>
  rw[hb] at C;rw[C];simp only[Option.map_none];rw[A false (fun _=>trivial) (my l none x.p) rfl];unfold cR mq;simp
 | some k=>
  rw[hb] at C;rw[C];simp only[Option.map_some];by_cases B:ey l k=4
  · have e:(mh l k).k=4:=B
    rw[if_pos e,A true (fun _=>trivial) (my l (some k) x.p) (by unfold my;simp[B])];unfold cR mq;simp[B]
  · have e:¬(mh l k).k=4:=B
    rw[if_neg e];obtain⟨f,y,S,R,J⟩:=fq hb
    have v:k<l.length:=by omega
    have o:l[k]=y:=by rw[List.getElem?_eq_getElem v] at S;exact Option.some.inj S
    have K:=xE (h.e0 f).2.2;have M:=iP v;rw[o] at K M;have w:=Bw (k:=ey l k) (c:=x.k) ab ⟨L.1,by omega⟩
    have F:lz l i (mh l k) x=mT l i (jc l k) x:=De h (mh l k) x fun u I=>by
     have:=ES h k f (by rw[o];exact R) u I;rw[this,o,J]
    unfold nJ my cR mq;simp only[if_neg B];have U:(mh l k).l=jK l k:=rfl;have e2:(mh l k).k=ey l k:=rfl;rw[U,e2];by_cases r:x.p=jK l k
    · have O:(x.p==jK l k)=true:=ar r
      have P:(x.p != jK l k)=false:=by simp[r]
      rw[O,P,if_neg (show ¬ey l k = -1 by omega),if_neg (show ¬(false=true) by decide)];by_cases G:qP (ey l k) x.k=true
      · have j:=w.1 G
        rw[G,if_neg (fun q=>j (.inl q)),if_neg (fun q=>j (.inr q))];by_cases a:x.k=1
        · rw[if_pos a,F,if_neg (show ¬(x.k≠1) by omega)]
          show(if mT l i (jc l k) x=0 then 0 else mT l i (jc l k) x)=_
          split
          · rename_i q;exact q.symm
          · rfl
        · simp[a,aw,bF]
      · have j:(ey l k=2∧x.k≠4)∨((ey l k=3∨ey l k=1)∧x.k≠1∧x.k≠4):=by
         have:=mt w.2 G;exact Classical.not_not.1 this
        have N:qP (ey l k) x.k=false:=ar G;rw[N];rcases j with q | q
        · rw[if_pos q];simp[aw,bF]
        · rw[if_neg ab,if_pos q];simp[aw,bF]
    · have O:(x.p==jK l k)=false:=ar r
      have P:(x.p != jK l k)=true:=by simp[r]
      rw[O,P,if_pos rfl];simp[aw,bF]
open Go.RowKit Go.Sort
theorem sl {x:Op} (h:gr x):(0≤x.k∧x.k≤6)∧(0≤x.e∧x.e≤512)∧x.o.size≤3100∧x.n.size≤3100:=by unfold gr at h;omega
theorem xa (x:Op) (w:World) (h:gj x=0) :
 bz 219 #[gm x] w (.tuple #[gm (fH x),ae 0]):=by
 have f:=(gZ x).1 h;obtain⟨q,m,k,j⟩:=sl f;obtain⟨R,a⟩:∃R,R=fH x:=⟨_,rfl⟩;rw[←a];unfold fH at a;refine aq (N:=46) Tryz.func219 rfl rfl rfl (fun _ Y=>?_);have Z:=St.init w;refine ai (an ?_);refine nb Y rfl rfl Z fun b1 _ _ o Y Z=>na (.agg sU) Y rfl Z fun n _ _ p Y Z=>GO 6 ?_;intro _ Y;refine sv (v:=gm x) Y (ag aa aa (Y.ev rfl) (Z.cellsAll (i:=1) rfl)) fun _ Y=>?_;refine cN Y rfl Z (fY x _ k j) fun _ _ Y Z=>?_;refine GO 9 ?_;intro _ Y;refine ak (Y.ev rfl) (fun g=>?_) (fun g=>?_)
 ·
  exact absurd h (ar g)
 ·
  refine GO 16 ?_;intro _ Y;refine ak (Y.ev rfl) (fun e=>?_) (fun e=>?_)
  ·
   rw[if_pos (ar e)] at a;refine GO 8 ?_;intro _ Y;refine aM Y (wn rfl) ⟨rfl,rfl⟩ (Y.ev rfl) (Y.ev rfl) rfl aa Z (i:=1) rfl rfl rfl fun _ Z=>GO 1 ?_;intro _ Y;refine aM Y (wn rfl) ⟨rfl,rfl⟩ (Y.ev rfl) (Y.ev rfl) rfl aa Z (i:=1) rfl rfl rfl fun _ Z=>GO 10 ?_;intro _ Y;refine aM Y (wn rfl) ⟨rfl,rfl⟩ (Y.ev rfl) (Y.ev rfl) rfl aa Z (i:=1) rfl rfl rfl fun _ Z=>GO 1 ?_;intro _ Y;refine aM Y (wn rfl) ⟨rfl,rfl⟩ (Y.ev rfl) (Y.ev rfl) rfl aa Z (i:=1) rfl rfl rfl fun _ Z=>mM ?_;refine sv Y (ag aa aa (Y.ev rfl) (Z.cellsAll (i:=1) rfl)) fun _ Y=>?_;refine sw Y Z 0 fun _ Z=>?_;refine GO 4 ?_;intro _ Y;refine br Y rfl rfl rfl Z (i:=0) rfl aa aa ?_;exact⟨by rw[a];rfl,Z.below⟩
  ·
   rw[if_neg (ar e)] at a;refine GO 6 ?_;intro _ Y;refine ak (Y.ev rfl) (fun b=>?_) (fun b=>?_)
   ·
    rw[if_pos (ar b)] at a;refine GO 8 ?_;intro _ Y;refine aM Y (wn rfl) ⟨rfl,rfl⟩ (Y.ev rfl) (Y.ev rfl) rfl aa Z (i:=1) rfl rfl rfl fun _ Z=>GO 1 ?_;intro _ Y;refine aM Y (wn rfl) ⟨rfl,rfl⟩ (Y.ev rfl) (Y.ev rfl) rfl aa Z (i:=1) rfl rfl rfl fun _ Z=>GO 10 ?_;intro _ Y;refine aM Y (wn rfl) ⟨rfl,rfl⟩ (Y.ev rfl) (Y.ev rfl) rfl aa Z (i:=1) rfl rfl rfl fun _ Z=>GO 1 ?_;intro _ Y;refine aM Y (wn rfl) ⟨rfl,rfl⟩ (Y.ev rfl) (Y.ev rfl) rfl aa Z (i:=1) rfl rfl rfl fun _ Z=>mM ?_;refine sv Y (ag aa aa (Y.ev rfl) (Z.cellsAll (i:=1) rfl)) fun _ Y=>?_;refine sw Y Z 0 fun _ Z=>?_;refine GO 4 ?_;intro _ Y;refine br Y rfl rfl rfl Z (i:=0) rfl aa aa ?_;exact⟨by rw[a];rfl,Z.below⟩
   ·
    rw[if_neg (ar b)] at a;refine GO 6 ?_;intro _ Y;refine ak (Y.ev rfl) (fun d=>?_) (fun d=>?_)
    ·
     rw[if_pos (ar d)] at a;refine GO 2 ?_;intro _ Y;refine aM Y (wn rfl) ⟨rfl,rfl⟩ (Y.ev rfl) (Y.ev rfl) rfl aa Z (i:=1) rfl rfl rfl fun _ Z=>GO 10 ?_;intro _ Y;refine aM Y (wn rfl) ⟨rfl,rfl⟩ (Y.ev rfl) (Y.ev rfl) rfl aa Z (i:=1) rfl rfl rfl fun _ Z=>GO 1 ?_;intro _ Y;refine aM Y (wn rfl) ⟨rfl,rfl⟩ (Y.ev rfl) (Y.ev rfl) rfl aa Z (i:=1) rfl rfl rfl fun _ Z=>mM ?_;refine sv Y (ag aa aa (Y.ev rfl) (Z.cellsAll (i:=1) rfl)) fun _ Y=>?_;refine sw Y Z 0 fun _ Z=>?_;refine GO 4 ?_;intro _ Y;refine br Y rfl rfl rfl Z (i:=0) rfl aa aa ?_;exact⟨by rw[a];rfl,Z.below⟩
    ·
     rw[if_neg (ar d)] at a;refine GO 6 ?_;intro _ Y;refine ak (Y.ev rfl) (fun c=>?_) (fun c=>?_)
     ·
      rw[if_pos (ar c)] at a;refine GO 2 ?_;intro _ Y;refine aM Y (wn rfl) ⟨rfl,rfl⟩ (Y.ev rfl) (Y.ev rfl) rfl aa Z (i:=1) rfl rfl rfl fun _ Z=>GO 10 ?_;intro _ Y;refine aM Y (wn rfl) ⟨rfl,rfl⟩ (Y.ev rfl) (Y.ev rfl) rfl aa Z (i:=1) rfl rfl rfl fun _ Z=>GO 1 ?_;intro _ Y;refine aM Y (wn rfl) ⟨rfl,rfl⟩ (Y.ev rfl) (Y.ev rfl) rfl aa Z (i:=1) rfl rfl rfl fun _ Z=>mM ?_;refine sv Y (ag aa aa (Y.ev rfl) (Z.cellsAll (i:=1) rfl)) fun _ Y=>?_;refine sw Y Z 0 fun _ Z=>?_;refine GO 4 ?_;intro _ Y;refine br Y rfl rfl rfl Z (i:=0) rfl aa aa ?_;exact⟨by rw[a];rfl,Z.below⟩
     ·
      rw[if_neg (ar c)] at a;refine GO 10 ?_;intro _ Y;refine aM Y (wn rfl) ⟨rfl,rfl⟩ (Y.ev rfl) (Y.ev rfl) rfl aa Z (i:=1) rfl rfl rfl fun _ Z=>GO 1 ?_;intro _ Y;refine aM Y (wn rfl) ⟨rfl,rfl⟩ (Y.ev rfl) (Y.ev rfl) rfl aa Z (i:=1) rfl rfl rfl fun _ Z=>mM ?_;refine sv Y (ag aa aa (Y.ev rfl) (Z.cellsAll (i:=1) rfl)) fun _ Y=>?_;refine sw Y Z 0 fun _ Z=>?_;refine GO 4 ?_;intro _ Y;refine br Y rfl rfl rfl Z (i:=0) rfl aa aa ?_;exact⟨by rw[a];rfl,Z.below⟩
open Go.RowKit Go.Sort
theorem rC (x:Op) (w:World) (h:gj x=0) :
 bz 114 #[gm x] w (gm (fH x)):=by
 have g:=(gZ x).1 h;obtain⟨H,C,G,E⟩:=sl g;have z:=g;unfold gr at z;obtain⟨R,d⟩:∃R,R=fH x:=⟨_,rfl⟩;rw[←d];unfold fH at d;refine aq (N:=58) Tryz.func114 rfl rfl rfl (fun _ Y=>?_);have Z:=St.init w;refine ai (an ?_);refine nb Y rfl rfl Z fun b1 _ _ F Y Z=>na (.agg sU) Y rfl Z fun D _ _ A Y Z=>GO 17 ?_;intro _ Y;refine ak (Y.ev rfl) (fun j=>?_) (fun j=>?_)
 ·
  have y:x.k=1∨x.k=6:=.inl (ar j);refine wp_skip (aj ?_);refine ak (Y.ev rfl) (fun f=>?_) (fun f=>?_)
  ·
   have b:x.e=0∧x.c=0:=by omega
   rw[if_neg ab,if_neg ab,if_neg ab,if_neg ab,b.1,b.2] at d;refine GO 10 ?_;intro _ Y;refine sv Y (ay (zs:=jj) (pl:=jl) aa aa (Y.evs2 rfl) rfl rfl) fun _ Y=>?_;refine sw Y Z 0 fun _ Z=>?_;refine ah (aj (wp_ret (fN (fv ?_))));refine mz Y rfl rfl Z (i:=0) rfl aa aa ?_;exact⟨by rw[d];rfl,Z.below⟩
  ·
   exact absurd (j.symm.trans f) au
 ·
  have k0:x.k≠1:=ar j;refine GO 5 ?_;intro _ Y;refine ak (Y.ev rfl) (fun f=>?_) (fun f=>?_)
  ·
   have y:x.k=1∨x.k=6:=.inr (ar f)
   have b:x.e=0∧x.c=0:=by omega
   rw[if_neg ab,if_neg ab,if_neg ab,if_neg ab,b.1,b.2] at d;refine GO 10 ?_;intro _ Y;refine sv Y (ay (zs:=jj) (pl:=jl) aa aa (Y.evs2 rfl) rfl rfl) fun _ Y=>?_;refine sw Y Z 0 fun _ Z=>?_;refine ah (aj (wp_ret (fN (fv ?_))));refine mz Y rfl rfl Z (i:=0) rfl aa aa ?_;exact⟨by rw[d];rfl,Z.below⟩
  ·
   have B:x.k≠6:=ar f;refine GO 6 ?_;intro _ Y;refine ak (Y.ev rfl) (fun r=>?_) (fun r=>?_)
   ·
    have q:x.k=2:=ar r
    have b:x.c=0∧x.o.size=0:=by omega
    rw[if_pos q,b.1,dQ b.2] at d;refine GO 12 ?_;intro _ Y;refine sv Y (ay (zs:=jj) (pl:=jl) aa aa (Y.evs2 rfl) rfl rfl) fun _ Y=>?_;refine sw Y Z 0 fun _ Z=>?_;refine ah (aj (wp_ret (fN (fv ?_))));refine mz Y rfl rfl Z (i:=0) rfl aa aa ?_;exact⟨by rw[d];rfl,Z.below⟩
   ·
    have q:x.k≠2:=ar r;rw[if_neg q] at d;refine GO 6 ?_;intro _ Y;refine ak (Y.ev rfl) (fun p=>?_) (fun p=>?_)
    ·
     have v:x.k=3:=ar p
     have b:x.c=0∧x.n.size=0:=by omega
     rw[if_pos v,b.1,dQ b.2] at d;refine GO 12 ?_;intro _ Y;refine sv Y (ay (zs:=jj) (pl:=jl) aa aa (Y.evs2 rfl) rfl rfl) fun _ Y=>?_;refine sw Y Z 0 fun _ Z=>?_;refine ah (aj (wp_ret (fN (fv ?_))));refine mz Y rfl rfl Z (i:=0) rfl aa aa ?_;exact⟨by rw[d];rfl,Z.below⟩
    ·
     have v:x.k≠3:=ar p;rw[if_neg v] at d;refine GO 6 ?_;intro _ Y;refine ak (Y.ev rfl) (fun m=>?_) (fun m=>?_)
     ·
      have u:x.k=4:=ar m
      have b:x.e=0∧x.o.size=0∧x.n.size=0:=by omega
      rw[if_pos u,b.1,dQ b.2.1,dQ b.2.2] at d;refine GO 6 ?_;intro _ Y;refine sv Y (ay (zs:=jj) (pl:=jl) aa aa (Y.evs2 rfl) rfl rfl) fun _ Y=>?_;refine sw Y Z 0 fun _ Z=>?_;refine ah (aj (wp_ret (fN (fv ?_))));refine mz Y rfl rfl Z (i:=0) rfl aa aa ?_;exact⟨by rw[d];rfl,Z.below⟩
     ·
      have u:x.k≠4:=ar m;rw[if_neg u] at d;refine GO 6 ?_;intro _ Y;refine ak (Y.ev rfl) (fun s=>?_) (fun s=>?_)
      ·
       have t:x.k=5:=ar s
       have b:x.e=0∧x.o.size=0∧x.n.size=0:=by omega
       rw[if_pos t,b.1,dQ b.2.1,dQ b.2.2] at d;refine GO 6 ?_;intro _ Y;refine sv Y (ay (zs:=jj) (pl:=jl) aa aa (Y.evs2 rfl) rfl rfl) fun _ Y=>?_;refine sw Y Z 0 fun _ Z=>?_;refine ah (aj (wp_ret (fN (fv ?_))));refine mz Y rfl rfl Z (i:=0) rfl aa aa ?_;exact⟨by rw[d];rfl,Z.below⟩
      ·
       have t:x.k≠5:=ar s
       have b:x.o.size=0∧x.n.size=0:=by omega
       rw[if_neg t,dQ b.1,dQ b.2] at d
       have hx:gm x=.agg #[ae x.k,ae x.a,ae x.e,ae x.c,.string ⟨#[]⟩,.string ⟨#[]⟩]:=by unfold gm;rw[dQ b.1,dQ b.2]
       refine wp_skip (ez (aj (ai (an ?_))));refine sv Y (ag aa aa (Y.ev rfl) (Z.cellsAll (i:=1) rfl)) fun _ Y=>?_;refine sw Y Z 0 fun _ Z=>?_;refine ah (aj (wp_ret ?_));refine mz Y rfl rfl Z (i:=0) rfl aa aa ?_;exact⟨by rw[d];exact congrArg _ hx,Z.below⟩
open Go.RowKit Go.Sort
theorem ka (e:Lge) (w:World) (c:e.o.o.size≤3100) (b:e.o.n.size≤3100) (a:e.d.size≤maxLen) :
 bz 154 #[cZ e] w (ae (cD e)):=
 mg e.k e.t e.p e.x e.g e.f e.o e.d w c b a
theorem rq (o:Op) (w:World) :
 Calls Tryz.prog 174 #[gm o] w fun r w'=>r=.returned (.bool (o7 o))∧Below w.heap.size w w':=by
 have hnil:=pa o;obtain⟨Bn,hBn⟩:∃b,o7 o=b:=⟨_,rfl⟩;rw[hBn] at hnil ⊢;clear hBn;unfold gm
 go_enter Tryz.func174,Tryz.ntmps174
 go_wp2
 go_ret
 exact⟨rfl,fh⟩
theorem DN (e:Lge):cD e=if bD e.k 0 5=false then 15 else if jQ e=false then 2 else if hW e=false then 3 else if (1000:Int)<e.d.size then 8 else gj e.o:=by
 unfold cD
 have a:decide ((e.d.size:Int)≤1000)=!decide ((1000:Int)<e.d.size):=by
  by_cases h:(1000:Int)<e.d.size
  · rw[decide_eq_true h,decide_eq_false ab];rfl
  · rw[decide_eq_false h,decide_eq_true ab];rfl
 rw[a]
 cases bD e.k 0 5<;>cases jQ e<;>cases hW e<;>by_cases h:(1000:Int)<e.d.size<;>simp[aw,bF,h]<;>(intro h;exact h.symm)
theorem rf (k t p x g:Int) (f:Bool) (o:Op) (d:ByteArray) (w:World) (ho:o.o.size≤3100) (hn:o.n.size≤3100) (hd:d.size≤maxLen) :
 Calls Tryz.prog 107 #[.agg #[.int .i64 k,.int .i64 t,.int .i64 p,.int .i64 x,.int .i64 g,.bool f,.int .i64 o.k,.int .i64 o.a,.int .i64 o.e,.int .i64 o.c,.string o.o,.string o.n,.string d]] w fun r w'=>r=.returned (.int .i64 (cD ⟨k,t,p,x,g,f,o,d⟩))∧Below w.heap.size w w':=by
 have hE:=fun W=>mD o W ho hn;obtain⟨er,her⟩:∃x,x=gj o:=⟨_,rfl⟩;rw[←her] at hE;unfold gm at hE;have HE:=Lib.hid hE;have HER:=Lib.hid her;unfold maxLen at hd;clear hE her ho hn;have hnil:=fun W=>rq o W;obtain⟨Bn,hBn⟩:∃b,o7 o=b:=⟨_,rfl⟩;rw[hBn] at hnil;unfold gm at hnil;have HNIL:=Lib.hid hnil;obtain⟨Nx,hNx⟩:∃b,(x != 0)=b:=⟨_,rfl⟩;obtain⟨B0,hB0⟩:∃b,(k==0)=b:=⟨_,rfl⟩;obtain⟨B1,hB1⟩:∃b,(k==1)=b:=⟨_,rfl⟩;obtain⟨N1,hN1⟩:∃b,(k != 1)=b:=⟨_,rfl⟩;obtain⟨N5,hN5⟩:∃b,(k != 5)=b:=⟨_,rfl⟩;obtain⟨Ng,hNg⟩:∃b,(g != 0)=b:=⟨_,rfl⟩;obtain⟨Bd,hBd⟩:∃b,d.toList.isEmpty=b:=⟨_,rfl⟩;obtain⟨F,hF⟩:∃F,hW ⟨k,t,p,x,g,f,o,d⟩=F:=⟨_,rfl⟩
 have hF':F=!((N1&&Nx)||(!(B0||B1)&&(Ng||f||!Bn))||(N5&&!Bd)):=by
  have e1:(x==0)=!Nx:=by rw[←hNx,bne,Bool.not_not]
  have e2:(k==1)=!N1:=by rw[←hN1,bne,Bool.not_not]
  have e3:(k==5)=!N5:=by rw[←hN5,bne,Bool.not_not]
  have e4:(g==0)=!Ng:=by rw[←hNg,bne,Bool.not_not]
  have e5:(d.size==0)=Bd:=by rw[←hBd,isEmpty_eq]
  have e6:B1=!N1:=by rw[←hB1,e2]
  rw[←hF,e6,←hB0];unfold hW
  dsimp only
  rw[e1,e2,e3,e4,e5,hBn,hB0]
  cases N1<;>cases Nx<;>cases B0<;>cases Ng<;>cases f<;>cases Bn<;>cases N5<;>cases Bd<;>rfl
 have HF:=Lib.hid hF;have HF':=Lib.hid hF';clear hBn hF hF' hnil;obtain⟨bt,hbt⟩:∃b,b=bD t 0 9999:=⟨_,rfl⟩;obtain⟨bp,hbp⟩:∃b,b=bD p 0 2147483647:=⟨_,rfl⟩;obtain⟨bx,hbx⟩:∃b,b=bD x 0 2147483647:=⟨_,rfl⟩;obtain⟨bg,hbg⟩:∃b,b=bD g 0 600:=⟨_,rfl⟩;obtain⟨bk,hbk⟩:∃b,b=bD k 0 5:=⟨_,rfl⟩;have hK:=fun W=>bu k 0 5 W;have hT:=fun W=>bu t 0 9999 W;have hG:=fun W=>bu g 0 600 W;have hP:=fun W=>ml p W;have hX:=fun W=>ml x W;rw[←hbk] at hK;rw[←hbt] at hT;rw[←hbg] at hG;rw[←hbp] at hP;rw[←hbx] at hX;have HK:=Lib.hid hK;have HT:=Lib.hid hT;have HG:=Lib.hid hG;have HP:=Lib.hid hP;have HX:=Lib.hid hX;obtain⟨R,hR⟩:∃R,R=(bt&&bp&&bx&&bg):=⟨_,rfl⟩
 have hv:cD ⟨k,t,p,x,g,f,o,d⟩=if bk=false then 15 else if R=false then 2 else if F=false then 3 else if (1000:Int)<d.size then 8 else er:=by
  rw[DN,HER.out,hbk,hR,hbt,hbp,hbx,hbg,←HF.out];rfl
 have HV:=Lib.hid hv;have HR:=Lib.hid hR;clear hK hT hG hP hX hv hbt hbp hbx hbg hbk hR;rw[HV.out]
 go_enter Tryz.func107,Tryz.ntmps107
 cases bk
 · go_wp2_with (first | (go_at_call 74;(with_reducible refine(HK.out _).mono ?_);rintro e w' ⟨rfl,rfl⟩))
   go_ret
   exact⟨rfl,fh⟩
 · go_upto_region 3 with (first | (go_at_call 74;(with_reducible refine(HK.out _).mono ?_);rintro e w' ⟨rfl,rfl⟩))
   go_cut [29] (fun s29 wx=>s29=.bool (!R)∧wx=w.alloc (.cells #[.int .i64 k,.int .i64 t,.int .i64 p,.int .i64 x,.int .i64 g,.bool f,.int .i64 o.k,.int .i64 o.a,.int .i64 o.e,.int .i64 o.c,.string o.o,.string o.n,.string d] 143))
   case first=>
    go_wp2_with (first | (go_at_call 74;(with_reducible refine(HT.out _).mono ?_);rintro e w' ⟨rfl,rfl⟩) | (go_at_call 74;(with_reducible refine(HG.out _).mono ?_);rintro e w' ⟨rfl,rfl⟩) | (go_at_call 173;(with_reducible refine(HP.out _).mono ?_);rintro e w' ⟨rfl,rfl⟩) | (go_at_call 173;(with_reducible refine(HX.out _).mono ?_);rintro e w' ⟨rfl,rfl⟩))
    all_goals
     go_meet
     refine⟨congrArg Value.bool ?_,rfl⟩;have Y:=HR.out
     simp_all
   case rest=>
   obtain⟨rfl,rfl⟩:=hcut
   cases R
   · go_wp2
     go_ret
     exact⟨rfl,fh⟩
   · go_upto_region 5 with (fail)
     go_cut [3] (fun s3 wx=>s3=.bool (B0||B1)∧wx=w.alloc (.cells #[.int .i64 k,.int .i64 t,.int .i64 p,.int .i64 x,.int .i64 g,.bool f,.int .i64 o.k,.int .i64 o.a,.int .i64 o.e,.int .i64 o.c,.string o.o,.string o.n,.string d] 143))
     case first=>
      go_wp2_with fail
      all_goals
       go_meet
       refine⟨congrArg Value.bool ?_,rfl⟩
       cases B0<;>cases B1<;>simp_all
     case rest=>
     obtain⟨rfl,rfl⟩:=hcut;obtain⟨Bc,hBc⟩:∃b,(B0||B1)=b:=⟨_,rfl⟩;rw[hBc];have HBc:=Lib.hid hBc;clear hBc
     go_upto_region 6 with (fail)
     go_cut [3,74] (fun _ s74 wx=>s74=.bool (!F)∧Below (w.alloc (.cells #[.int .i64 k,.int .i64 t,.int .i64 p,.int .i64 x,.int .i64 g,.bool f,.int .i64 o.k,.int .i64 o.a,.int .i64 o.e,.int .i64 o.c,.string o.o,.string o.n,.string d] 143)).heap.size (w.alloc (.cells #[.int .i64 k,.int .i64 t,.int .i64 p,.int .i64 x,.int .i64 g,.bool f,.int .i64 o.k,.int .i64 o.a,.int .i64 o.e,.int .i64 o.c,.string o.o,.string o.n,.string d] 143)) wx)
     case first=>
      cases f
      all_goals
       go_wp2_with (first | ((go_at_call 174;(with_reducible refine(HNIL.out _).mono ?_);rintro e W1 ⟨rfl,hbW1⟩;obtain⟨hcW1,hfW1⟩:=cE hbW1);have hsW1:w.heap.size<W1.heap.size:=(by have h:=hbW1.size;(try simp at h);omega)))
       all_goals
        go_meet
        refine⟨congrArg Value.bool ?_,by first | exact hbW1 | exact Below.refl _ _⟩;have Y:=HF'.out;have Y:=HBc.out
        simp_all
     case rest=>
     obtain⟨rfl,hbX⟩:=hcut;obtain⟨hcX,hfX⟩:=cE hbX;have hsX:=hbX.size;simp at hsX;have hsX':=Nat.lt_of_succ_le hsX;have hbX':=(eV (Below.refl _ _) _:Below w.heap.size w (w.alloc (.cells #[.int .i64 k,.int .i64 t,.int .i64 p,.int .i64 x,.int .i64 g,.bool f,.int .i64 o.k,.int .i64 o.a,.int .i64 o.e,.int .i64 o.c,.string o.o,.string o.n,.string d] 143)))
     cases F
     · go_wp2
       go_ret
       exact⟨rfl,fh⟩
     · by_cases h8:(1000:Int)<d.size
       · go_wp2
         go_ret
         exact⟨by simp[h8],fh⟩
       · go_wp2_with (first | (go_at_call 139;(with_reducible refine(HE.out _).mono ?_);rintro e W2 ⟨rfl,hbW2⟩))
         go_ret
         exact⟨by simp[h8],fh⟩
theorem gd (e:Lge) (w:World) (c:e.o.o.size≤3100) (b:e.o.n.size≤3100) (a:e.d.size≤maxLen) :
 bz 107 #[cZ e] w (ae (cD e)):=
 rf e.k e.t e.p e.x e.g e.f e.o e.d w c b a
open Go.RowKit Go.Sort
open Go.RowKit Go.Sort
open Go.RowKit Go.Sort
def iz (x:Op):List Int:=[x.a,x.e,x.c,x.o.size,x.n.size]
def cq (x:Op) (k:Nat):List UInt8:=lit x.k 1 ++ ((iz x).take k).flatMap (fun n=>lit n 2)
def ba (x:Op):List UInt8:=cq x 5 ++ bl x.o ++ bl x.n
theorem ei (x:Op) (k:Nat) (n:Int) (h:(iz x)[k]? = some n):cq x (k+1)=cq x k ++ lit n 2:=by
 unfold cq;obtain⟨a,b⟩:=List.getElem?_eq_some_iff.1 h;rw[List.take_succ_eq_append_getElem a,b,List.flatMap_append,List.append_assoc];simp
theorem dR (x:Op) (k:Nat) (a:k≤5):(cq x k).length=1+2*k:=by
 have:k=0∨k=1∨k=2∨k=3∨k=4∨k=5:=by omega
 rcases this with rfl | rfl | rfl | rfl | rfl | rfl<;>simp[cq,iz,aB]
theorem lW (l m:List UInt8):bs l ++ bs m=bs (l ++ m):=by apply dU;rw[cH];rfl
structure OpPos (x:Op):Prop where
 k:0≤x.k∧x.k≤5000
 a:0≤x.a∧x.a≤5000
 e:0≤x.e∧x.e≤5000
 c:0≤x.c∧x.c≤5000
 o:x.o.size≤3100
 n:x.n.size≤3100
theorem mr {x:Op} (h:gr x):OpPos x:=by unfold gr at h;constructor<;>omega
theorem vG (x:Op) (w:World) (h:OpPos x) :
 Calls Tryz.prog 229 #[gm x] w fun r w'=>r=.returned (.string (bs (ba x)))∧Below w.heap.size w w':=by
 obtain⟨hk,ha,he,hc,ho,hn⟩:=h;obtain⟨K,a,e,c,o,n⟩:=x
 dsimp only at hk ha he hc ho hn
 obtain⟨X,hX⟩:∃X,X=Op.mk K a e c o n:=⟨_,rfl⟩
 have h0:bs (lit K 1)=bs (cq X 0):=by rw[hX];simp[cq]
 have hs:∀j,j≤5→(bs (cq X j)).size=1+2*j:=fun j hj=>by rw[bq,dR X j hj]
 have g0:(iz X)[0]? = some a:=by rw[hX];rfl
 have g1:(iz X)[1]? = some e:=by rw[hX];rfl
 have g2:(iz X)[2]? = some c:=by rw[hX];rfl
 have g3:(iz X)[3]? = some (o.size:Int):=by rw[hX];rfl
 have g4:(iz X)[4]? = some (n.size:Int):=by rw[hX];rfl
 have hfin:bs (cq X 5) ++ o ++ n=bs (ba X):=by
  rw[hX];apply dU;rw[cH,cH];rfl
 have H0:=Lib.hid h0;have HS:=Lib.hid hs;have G0:=Lib.hid g0;have G1:=Lib.hid g1;have G2:=Lib.hid g2;have G3:=Lib.hid g3;have G4:=Lib.hid g4;have HF:=Lib.hid hfin;show Calls Tryz.prog 229 #[.agg #[.int .i64 K,.int .i64 a,.int .i64 e,.int .i64 c,.string o,.string n]] w fun r w'=>r=.returned (.string (bs (ba ⟨K,a,e,c,o,n⟩)))∧Below w.heap.size w w';rw[←hX];clear h0 hs g0 g1 g2 g3 g4 hfin hX;have hL:=fun W=>bj K 1 hk.1 ab ab W;rw[H0.out] at hL;have HL:=Lib.hid hL;clear hL;have hla:=fun W=>bj a 2 ha.1 ab ab W;have hle:=fun W=>bj e 2 he.1 ab ab W;have hlc:=fun W=>bj c 2 hc.1 ab ab W;have hlo:=fun W=>bj (o.size:Int) 2 ab ab ab W;have hln:=fun W=>bj (n.size:Int) 2 ab ab ab W;have HLA:=Lib.hid hla;have HLE:=Lib.hid hle;have HLC:=Lib.hid hlc;have HLO:=Lib.hid hlo;have HLN:=Lib.hid hln;clear hla hle hlc hlo hln
 go_enter Tryz.func229,Tryz.ntmps229
 go_wp2_with (go_at_call 216;refine(HL.out _).mono ?_;rintro e W1 ⟨rfl,hbW1⟩;obtain⟨hcW1,hfW1⟩:=cE hbW1;have hsW1:w.heap.size<W1.heap.size:=(by have h:=hbW1.size;simp at h;omega))
 go_loopw [3,22] (fun s i wr=>∃(k:Nat) (S:ByteArray),k≤5∧i=.int .i64 k∧s=.string S∧S=bs (cq X k)∧Below W1.heap.size W1 wr) (fun _ i _=>5-(intOf i).toNat)
 case atStart=>exact⟨0,_,by omega,rfl,rfl,rfl,Below.refl _ _⟩
 case round=>
  obtain⟨k,S,hk5,rfl,rfl,hS,hb⟩:=hrel
  have hsz:S.size=1+2*k:=by rw[hS];exact HS.out k hk5
  have hsz':S.size≤11:=by omega
  have HSS:=Lib.hid hS
  have hz2:∀m:Int,(bs (lit m 2)).size=2:=fun m=>by rw[bq,aB]
  clear hS
  have:k=0∨k=1∨k=2∨k=3∨k=4∨k=5:=by omega
  rcases this with rfl | rfl | rfl | rfl | rfl | rfl
  · clear hsz
    have hix:∀W,(Instr.index 319 (.agg #[.int .i64 a,.int .i64 e,.int .i64 c,.int .i64 o.size,.int .i64 n.size]) (.int .i64 0)).run Tryz.prog W=.ok (.int .i64 a) W:=fun W=>by kernel_rfl
    go_wp2_with (go_at_call 216;refine(HLA.out _).mono ?_;rintro e W2 ⟨rfl,hbW2⟩)
    go_roundw
    case rel=>exact⟨0+1,_,by omega,by go_num,rfl,(by rw[HSS.out,lW,ei X 0 _ G0.out]),eU hb hbW2⟩
    case measure=>simp[intOf]
  · clear hsz
    have hix:∀W,(Instr.index 319 (.agg #[.int .i64 a,.int .i64 e,.int .i64 c,.int .i64 o.size,.int .i64 n.size]) (.int .i64 1)).run Tryz.prog W=.ok (.int .i64 e) W:=fun W=>by kernel_rfl
    go_wp2_with (go_at_call 216;refine(HLE.out _).mono ?_;rintro e W2 ⟨rfl,hbW2⟩)
    go_roundw
    case rel=>exact⟨1+1,_,by omega,by go_num,rfl,(by rw[HSS.out,lW,ei X 1 _ G1.out]),eU hb hbW2⟩
    case measure=>simp[intOf]
  · clear hsz
    have hix:∀W,(Instr.index 319 (.agg #[.int .i64 a,.int .i64 e,.int .i64 c,.int .i64 o.size,.int .i64 n.size]) (.int .i64 2)).run Tryz.prog W=.ok (.int .i64 c) W:=fun W=>by kernel_rfl
    go_wp2_with (go_at_call 216;refine(HLC.out _).mono ?_;rintro e W2 ⟨rfl,hbW2⟩)
    go_roundw
    case rel=>exact⟨2+1,_,by omega,by go_num,rfl,(by rw[HSS.out,lW,ei X 2 _ G2.out]),eU hb hbW2⟩
    case measure=>simp[intOf]
  · clear hsz
    have hix:∀W,(Instr.index 319 (.agg #[.int .i64 a,.int .i64 e,.int .i64 c,.int .i64 o.size,.int .i64 n.size]) (.int .i64 3)).run Tryz.prog W=.ok (.int .i64 o.size) W:=fun W=>by kernel_rfl
    go_wp2_with (go_at_call 216;refine(HLO.out _).mono ?_;rintro e W2 ⟨rfl,hbW2⟩)
    go_roundw
    case rel=>exact⟨3+1,_,by omega,by go_num,rfl,(by rw[HSS.out,lW,ei X 3 _ G3.out]),eU hb hbW2⟩
    case measure=>simp[intOf]
  · clear hsz
    have hix:∀W,(Instr.index 319 (.agg #[.int .i64 a,.int .i64 e,.int .i64 c,.int .i64 o.size,.int .i64 n.size]) (.int .i64 4)).run Tryz.prog W=.ok (.int .i64 n.size) W:=fun W=>by kernel_rfl
    go_wp2_with (go_at_call 216;refine(HLN.out _).mono ?_;rintro e W2 ⟨rfl,hbW2⟩)
    go_roundw
    case rel=>exact⟨4+1,_,by omega,by go_num,rfl,(by rw[HSS.out,lW,ei X 4 _ G4.out]),eU hb hbW2⟩
    case measure=>simp[intOf]
  · have hfin:S ++ o ++ n=bs (ba X):=by rw[HSS.out];exact HF.out
    have HFIN:=Lib.hid hfin;obtain⟨hcR,hfR⟩:=cE hb;have hso:(S ++ o).size=S.size+o.size:=ByteArray.size_append;clear hfin hsz
    go_wp2
    go_ret
    exact⟨FY HFIN.out,fh⟩
open Go.RowKit Go.Sort
theorem qG (p:ByteArray) (A:Option Addr) (c:Nat) (l:List Op) (w:World) (d:p.size≤maxLen) (b:l.length≤1000) (a:uz l) (hr:Rd w w.heap.size A (opsV l)) :
 bz 149 #[.string p,.slice A l.length c] w (.tuple #[.string (eB p l).1,ae (eB p l).2.1,ae (eB p l).2.2]):=by
 by_cases h:p.size=512∧l.length≤64
 · exact qO p A c l w h.1 h.2 a hr
 · exact pV p A c l w d b h
def jX (p:ByteArray) (x:Op):ByteArray × Int:=if cM p≠0 then (⟨#[]⟩,cM p) else cj p x
theorem rM {p:ByteArray} {x:Op} (h:(cj p x).2≠0):(cj p x).1=⟨#[]⟩:=by
 unfold cj at *;by_cases a:gj x≠0
 · rw[if_pos a]
 · rw[if_neg a] at h ⊢
   cases hf:dY p x
   · rfl
   · rw[hf] at h;exact absurd rfl h
theorem zx (p:ByteArray) (x:Op):(eB p [x]).1=(jX p x).1∧(eB p [x]).2.2=(jX p x).2∧((jX p x).2≠0→(eB p [x]).2.1=0∧(jX p x).1=⟨#[]⟩):=by
 unfold eB jX;by_cases b:cM p≠0
 · rw[if_pos b,if_pos b];exact⟨rfl,rfl,fun _=>⟨rfl,rfl⟩⟩
 · rw[if_neg b,if_neg b,if_neg bm,hQ]
   by_cases a:(cj p x).2≠0
   · rw[if_pos a];exact⟨(rM a).symm,rfl,fun _=>⟨rfl,rM a⟩⟩
   · rw[if_neg a]
     refine⟨rfl,(Classical.not_not.1 a).symm,fun h=>absurd h a⟩
theorem uV (p:ByteArray) (x:Op) (w:World) (hp:p.size≤maxLen) (ho:x.o.size≤3100) (hn:x.n.size≤3100) :
 Calls Tryz.prog 96 #[.string p,gm x] w fun r w'=>r=.returned (.tuple #[.string (jX p x).1,.int .i64 (jX p x).2])∧Below w.heap.size w w':=by
 have hC:∀W (g:Nat),Box W g #[.int .i64 x.k,.int .i64 x.a,.int .i64 x.e,.int .i64 x.c,.string x.o,.string x.n] 141→Calls Tryz.prog 149 #[.string p,.slice (some ⟨g,0,none⟩) 1 1] W fun e w'=>e=.returned (.tuple #[.string (eB p [x]).1,.int .i64 (eB p [x]).2.1,.int .i64 (eB p [x]).2.2])∧Below W.heap.size W w':=fun W g hb=>
  qG p (some ⟨g,0,none⟩) 1 [x] W hp bm (fun j hj=>by
   have:j=0:=by simp at hj;exact hj
   subst this;exact⟨ho,hn⟩) (fun j u hj=>⟨g,0,rfl,hb.lt,by rw[Nat.zero_add,hb.cells j];simpa [opsV,As] using hj⟩)
 obtain⟨h1,h2,h3⟩:=zx p x;rw[h1,h2] at hC;obtain⟨s,hs⟩:∃s,s=(jX p x).1:=⟨_,rfl⟩;obtain⟨er,her⟩:∃e,e=(jX p x).2:=⟨_,rfl⟩;obtain⟨i,hi⟩:∃i,i=(eB p [x]).2.1:=⟨_,rfl⟩;rw[←hs,←her,←hi] at hC;rw[←hs,←her,←hi] at h3;rw[←hs,←her];have HC:=Lib.hid hC;clear hC h1 h2 hs her hi;by_cases h0:er=0
 · have h0':(er != 0)=false:=by simp[h0]
   clear h3 h0;unfold gm
   go_enter Tryz.func96,Tryz.ntmps96
   go_wp2_with (first | (go_at_call 149;(with_reducible refine(HC.out _ _ (by simpa using Box.new (w.alloc (.cells #[.int .i64 x.k,.int .i64 x.a,.int .i64 x.e,.int .i64 x.c,.string x.o,.string x.n] 141)) #[.int .i64 x.k,.int .i64 x.a,.int .i64 x.e,.int .i64 x.c,.string x.o,.string x.n] 141)).mono ?_);rintro e W1 ⟨rfl,hbW1⟩))
   go_ret2
   exact⟨rfl,fh⟩
 · obtain⟨g1,g2⟩:=h3 h0
   have h0':(er != 0)=true:=by simp[h0]
   have h1':((i:Int)==0)=true:=by rw[g1];rfl
   have G2:=Lib.hid g2;clear h3 h0 g1 g2;unfold gm
   go_enter Tryz.func96,Tryz.ntmps96
   go_wp2_with (first | (go_at_call 149;(with_reducible refine(HC.out _ _ (by simpa using Box.new (w.alloc (.cells #[.int .i64 x.k,.int .i64 x.a,.int .i64 x.e,.int .i64 x.c,.string x.o,.string x.n] 141)) #[.int .i64 x.k,.int .i64 x.a,.int .i64 x.e,.int .i64 x.c,.string x.o,.string x.n] 141)).mono ?_);rintro e W1 ⟨rfl,hbW1⟩))
   go_ret2
   exact⟨Fb G2.out.symm rfl,fh⟩
open Go.RowKit Go.Sort
def bK (e:Lge):List UInt8:=lit e.k 1 ++ lit (if e.f then 1 else 0) 1 ++ lit e.t 2 ++ lit e.p 4 ++ lit e.x 4 ++ lit e.g 2 ++ lit (e.d.size:Int) 2 ++ bl e.d ++ ba e.o
def a8 (e:Lge):ByteArray:=if cD e=0 then bs (bK e) else ⟨#[]⟩
theorem kt {e:Lge} (h:cD e=0):(0≤e.k∧e.k≤5)∧jQ e=true∧hW e=true∧e.d.size≤1000∧gr e.o:=by
 have a:=(aS _).1 h;have b:=(aD au).1 (a (bF (bD e.k 0 5) 15) bm);have c:=(aD au).1 (a (bF (jQ e) 2) bm);have j:=(aD au).1 (a (bF (hW e) 3) bm);have f:=(aD au).1 (a (bF (decide ((e.d.size:Int)≤1000)) 8) bm);have g:=a (gj e.o) bm;exact⟨inB_true.1 b,c,j,by have:=of_decide_eq_true f;omega,(gZ _).1 g⟩
theorem j1 {e:Lge} (h:jQ e=true):(0≤e.t∧e.t≤9999)∧(0≤e.p∧e.p≤2147483647)∧(0≤e.x∧e.x≤2147483647)∧(0≤e.g∧e.g≤600):=by
 unfold jQ at h;simp only[Bool.and_eq_true] at h;obtain⟨⟨⟨b,a⟩,h3⟩,c⟩:=h;exact⟨inB_true.1 b,inB_true.1 a,inB_true.1 h3,inB_true.1 c⟩
theorem tQ (k t p x g:Int) (f:Bool) (o:Op) (d:ByteArray) (w:World) (ho:o.o.size≤3100) (hn:o.n.size≤3100) (hd:d.size≤maxLen) :
 Calls Tryz.prog 183 #[.agg #[.int .i64 k,.int .i64 t,.int .i64 p,.int .i64 x,.int .i64 g,.bool f,.int .i64 o.k,.int .i64 o.a,.int .i64 o.e,.int .i64 o.c,.string o.o,.string o.n,.string d]] w fun r w'=>r=.returned (.tuple #[.string (a8 ⟨k,t,p,x,g,f,o,d⟩),.int .i64 (cD ⟨k,t,p,x,g,f,o,d⟩)])∧Below w.heap.size w w':=by
 have hC:=fun W=>mg k t p x g f o d W ho hn hd;by_cases h0:cD ⟨k,t,p,x,g,f,o,d⟩=0
 · obtain⟨⟨k1,k2⟩,hr,_,hd1,hok⟩:=kt h0
   obtain⟨⟨t1,t2⟩,⟨p1,p2⟩,⟨x1,x2⟩,g1,g2⟩:=j1 hr
   dsimp only at k1 k2 t1 t2 p1 p2 x1 x2 g1 g2 hd1 hok
   have hv:a8 ⟨k,t,p,x,g,f,o,d⟩=bs (bK ⟨k,t,p,x,g,f,o,d⟩):=by unfold a8;rw[if_pos h0]
   rw[h0] at hC;rw[h0,hv];have HC:=Lib.hid hC;have HB:=Lib.hid (fun W=>vG o W (mr hok));have HLk:=Lib.hid (fun W=>bj k 1 k1 ab ab W);have HLt:=Lib.hid (fun W=>bj t 2 t1 ab ab W);have HLp:=Lib.hid (fun W=>bj p 4 p1 ab ab W);have HLx:=Lib.hid (fun W=>bj x 4 x1 ab ab W);have HLg:=Lib.hid (fun W=>bj g 2 g1 ab ab W);have HLd:=Lib.hid (fun W=>bj (d.size:Int) 2 ab ab ab W);have HL0:=Lib.hid (fun W=>bj 0 1 ab ab ab W);have HL1:=Lib.hid (fun W=>bj 1 1 ab ab ab W)
   have s1:∀n,(bs (lit n 1)).size=1:=fun n=>by rw[bq,aB]
   have s2:∀n,(bs (lit n 2)).size=2:=fun n=>by rw[bq,aB]
   have s4:∀n,(bs (lit n 4)).size=4:=fun n=>by rw[bq,aB]
   have hob:(bs (ba o)).size≤3000:=by
    have hp:=mr hok
    have e:(bs (ba o)).size=11+o.o.size+o.n.size:=by
     rw[bq];unfold ba;rw[List.length_append,List.length_append,dR _ 5 ab,aP,aP]
    have hq:gr o:=hok;unfold gr at hq;omega
   clear h0 hC hr hok hv ho hn;unfold maxLen at hd;unfold gm at HB
   cases f
   all_goals
    go_enter Tryz.func183,Tryz.ntmps183
    go_wp2_with ((go_at_call 154;(with_reducible refine(HC.out _).mono ?_);rintro e W1 ⟨rfl,hbW1⟩;obtain⟨hcW1,hfW1⟩:=cE hbW1);have hsW1:w.heap.size<W1.heap.size:=(by have h:=hbW1.size;(try simp at h);omega))
    (refine wp_region_quiet_below aa aa ?_;(repeat (go_big_quiet_step ((first | (go_at_call 216;(with_reducible exact Calls.regrown_of (HLk.out _))) | (go_at_call 216;(with_reducible exact Calls.regrown_of (HLt.out _))) | (go_at_call 216;(with_reducible exact Calls.regrown_of (HLp.out _))) | (go_at_call 216;(with_reducible exact Calls.regrown_of (HLx.out _))) | (go_at_call 216;(with_reducible exact Calls.regrown_of (HLg.out _))) | (go_at_call 216;(with_reducible exact Calls.regrown_of (HLd.out _))) | (go_at_call 216;(with_reducible exact Calls.regrown_of (HL0.out _))) | (go_at_call 216;(with_reducible exact Calls.regrown_of (HL1.out _)))))));(with_reducible refine wpQuiet_nil ?_);intro W2 hreg;have hbW2:=bY hreg;clear hreg;obtain⟨hcW2,hfW2⟩:=cE hbW2)
    have hsW2:w.heap.size<W2.heap.size:=by have h:=hbW2.size;(try simp at h);omega
    go_wp2_with fail
    (refine wp_region_quiet_below aa aa ?_;(repeat (go_big_quiet_step ((first | (go_at_call 229;(with_reducible exact Calls.regrown_of (HB.out _)))))));(with_reducible refine wpQuiet_nil ?_);intro W3 hreg;have hbW3:=bY hreg;clear hreg;obtain⟨hcW3,hfW3⟩:=cE hbW3)
    go_wp2_with fail
    go_ret2
    exact⟨Fb (by apply dU;simp only[cH,jJ];rfl) rfl,fh⟩
 · have hv:a8 ⟨k,t,p,x,g,f,o,d⟩=⟨#[]⟩:=by unfold a8;rw[if_neg h0]
   rw[hv];obtain⟨er,her⟩:∃e,e=cD ⟨k,t,p,x,g,f,o,d⟩:=⟨_,rfl⟩;rw[←her] at hC h0 ⊢
   have hz:(er != 0)=true:=by simp[h0]
   have HC:=Lib.hid hC;clear hC h0 hv her
   go_enter Tryz.func183,Tryz.ntmps183
   go_wp2_with ((go_at_call 154;(with_reducible refine(HC.out _).mono ?_);rintro e W1 ⟨rfl,hbW1⟩;obtain⟨hcW1,hfW1⟩:=cE hbW1))
   go_ret2
   exact⟨rfl,fh⟩
theorem pC (e:Lge) (w:World) (c:e.o.o.size≤3100) (b:e.o.n.size≤3100) (a:e.d.size≤maxLen) :
 bz 183 #[cZ e] w (.tuple #[.string (a8 e),ae (cD e)]):=
 tQ e.k e.t e.p e.x e.g e.f e.o e.d w c b a
theorem tr (o:Op) (w:World) (hok:OpPos o) :
 Calls Tryz.prog 190 #[gm o] w fun r w'=>r=.returned (.string (bs (ba o)))∧Below w.heap.size w w':=by
 obtain⟨⟨k1,k2⟩,⟨a1,a2⟩,⟨e1,e2⟩,⟨c1,c2⟩,ho,hn⟩:=hok;have HLk:=Lib.hid (fun W=>bA o.k 1 k1 ab ab W);have HLa:=Lib.hid (fun W=>bA o.a 2 a1 ab ab W);have HLe:=Lib.hid (fun W=>bA o.e 2 e1 ab ab W);have HLc:=Lib.hid (fun W=>bA o.c 2 c1 ab ab W);have HLo:=Lib.hid (fun W=>bA (o.o.size:Int) 2 ab ab ab W);have HLn:=Lib.hid (fun W=>bA (o.n.size:Int) 2 ab ab ab W)
 have s1:∀n,(bs (lit n 1)).size=1:=fun n=>by rw[bq,aB]
 have s2:∀n,(bs (lit n 2)).size=2:=fun n=>by rw[bq,aB]
 unfold gm
 go_enter Tryz.func190,Tryz.ntmps190
 go_wp2_with fail
 (refine wp_region_quiet_below aa aa ?_;(repeat (go_big_quiet_step ((first | (go_at_call 75;(with_reducible exact Calls.regrown_of (HLk.out _))) | (go_at_call 75;(with_reducible exact Calls.regrown_of (HLa.out _))) | (go_at_call 75;(with_reducible exact Calls.regrown_of (HLe.out _))) | (go_at_call 75;(with_reducible exact Calls.regrown_of (HLc.out _))) | (go_at_call 75;(with_reducible exact Calls.regrown_of (HLo.out _))) | (go_at_call 75;(with_reducible exact Calls.regrown_of (HLn.out _)))))));(with_reducible refine wpQuiet_nil ?_);intro W1 hreg;have hbW1:=bY hreg;clear hreg;obtain⟨hcW1,hfW1⟩:=cE hbW1)
 go_wp2_with fail
 go_ret
 exact⟨FY (by apply dU;simp[ba,cq,iz,cH,jJ,List.append_assoc]),fh⟩
theorem ov (k t p x g:Int) (f:Bool) (o:Op) (d:ByteArray) (w:World) (h0:cD ⟨k,t,p,x,g,f,o,d⟩=0) :
 Calls Tryz.prog 120 #[.agg #[.int .i64 k,.int .i64 t,.int .i64 p,.int .i64 x,.int .i64 g,.bool f,.int .i64 o.k,.int .i64 o.a,.int .i64 o.e,.int .i64 o.c,.string o.o,.string o.n,.string d]] w fun r w'=>r=.returned (.string (bs (bK ⟨k,t,p,x,g,f,o,d⟩)))∧Below w.heap.size w w':=by
 obtain⟨⟨k1,k2⟩,hr,_,hd1,hok⟩:=kt h0;obtain⟨⟨t1,t2⟩,⟨p1,p2⟩,⟨x1,x2⟩,g1,g2⟩:=j1 hr
 dsimp only at k1 k2 t1 t2 p1 p2 x1 x2 g1 g2 hd1 hok
 have HB:=Lib.hid (fun W=>tr o W (mr hok));have HF:=Lib.hid (fun W=>xN f W);have HLk:=Lib.hid (fun W=>bA k 1 k1 ab ab W);have HLt:=Lib.hid (fun W=>bA t 2 t1 ab ab W);have HLp:=Lib.hid (fun W=>bA p 4 p1 ab ab W);have HLx:=Lib.hid (fun W=>bA x 4 x1 ab ab W);have HLg:=Lib.hid (fun W=>bA g 2 g1 ab ab W);have HLd:=Lib.hid (fun W=>bA (d.size:Int) 2 ab ab ab W);have HL0:=Lib.hid (fun W=>bA 0 1 ab ab ab W);have HL1:=Lib.hid (fun W=>bA 1 1 ab ab ab W)
 have s1:∀n,(bs (lit n 1)).size=1:=fun n=>by rw[bq,aB]
 have s2:∀n,(bs (lit n 2)).size=2:=fun n=>by rw[bq,aB]
 have s4:∀n,(bs (lit n 4)).size=4:=fun n=>by rw[bq,aB]
 have hob:(bs (ba o)).size≤3000:=by
  have e:(bs (ba o)).size=11+o.o.size+o.n.size:=by
   rw[bq];unfold ba;rw[List.length_append,List.length_append,dR _ 5 ab,aP,aP]
  have hq:gr o:=hok;unfold gr at hq;omega
 clear h0 hr hok;unfold gm at HB
 cases f
 all_goals
  (try simp only[Bool.false_eq_true,if_false,if_true] at HF)
  go_enter Tryz.func120,Tryz.ntmps120
  go_wp2_with fail
  (refine wp_region_quiet_below aa aa ?_;(repeat (go_big_quiet_step ((first | (go_at_call 75;(with_reducible exact Calls.regrown_of (HLk.out _))) | (go_at_call 75;(with_reducible exact Calls.regrown_of (HLt.out _))) | (go_at_call 75;(with_reducible exact Calls.regrown_of (HLp.out _))) | (go_at_call 75;(with_reducible exact Calls.regrown_of (HLx.out _))) | (go_at_call 75;(with_reducible exact Calls.regrown_of (HLg.out _))) | (go_at_call 75;(with_reducible exact Calls.regrown_of (HLd.out _))) | (go_at_call 75;(with_reducible exact Calls.regrown_of (HL0.out _))) | (go_at_call 75;(with_reducible exact Calls.regrown_of (HL1.out _))) | (go_at_call 76;(with_reducible exact Calls.reg_pure (HF.out _))) | (go_at_call 190;(with_reducible exact Calls.regrown_of (HB.out _)))))));(with_reducible refine wpQuiet_nil ?_);intro W2 hreg;have hbW2:=bY hreg;clear hreg;obtain⟨hcW2,hfW2⟩:=cE hbW2)
  go_wp2_with fail
  go_ret
  exact⟨FY (by apply dU;simp only[cH,jJ];rfl),fh⟩
theorem lQ (e:Lge) (w:World) (a:cD e=0) :
 bz 120 #[cZ e] w (.string (bs (bK e))):=
 ov e.k e.t e.p e.x e.g e.f e.o e.d w a
end Go.Proofs.YtcfdpfmchchkaaaGreatDoor
