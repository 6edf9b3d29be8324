/- Chapter 22 -/
import Derived.Test.YtcfdpfmchchkaaaGreatDoorRcA
namespace Go.Proofs.YtcfdpfmchchkaaaGreatDoor
set_option maxRecDepth 100000
set_option maxHeartbeats 4000000
set_option linter.unusedVariables false
set_option linter.unusedSimpArgs false
open Go.RowKit
def VldH (l:List Rcd) (i:Nat):Prop:=i≤l.length∧∀k (a:k<l.length),k<i→ez l k (ct l k) l[k]=0
section
variable {l:List Rcd} {i:Nat}
theorem VldH.mono (h:VldH l i) {j:Nat} (b:j≤i):VldH l j:=⟨Nat.le_trans b h.1,fun k a c=>h.2 k a ab⟩
theorem VldH.e0 (h:VldH l i) {k:Nat} (c:k<i):1≤(l[k]'(by have:=h.1;omega)).l∧(l[k]'(by have:=h.1;omega)).l≤2147483647∧cA (l[k]'(by have:=h.1;omega)).e=0:=by
 have d:=h.1;have a:=(lh (h.2 k ab c)).1;unfold fc at a;rw[aN] at a;have b:=inB_true.1 ((aH au).1 (a _ (.head _)));exact⟨b.1,b.2,a _ (.tail _ (.tail _ (.head _)))⟩
theorem VldH.step (h:VldH l i) {k:Nat} (a:k+1<i):(l[k]'(by have:=h.1;omega)).l<(l[k+1]'(by have:=h.1;omega)).l:=by
 have b:=h.1;have Y:=(lh (h.2 (k+1) ab a)).1;unfold fc at Y;rw[aN] at Y;have Y:=(aH au).1 (Y _ (.tail _ (.head _)));rw[fE _ _ ab] at Y;exact of_decide_eq_true Y
theorem VldH.asc (h:VldH l i):∀(d j:Nat) (a:j+d+1<i),(l[j]'(by have:=h.1;omega)).l<(l[j+d+1]'(by have:=h.1;omega)).l
 | 0,j,a=>h.step a
 | d+1,j,a=>Int.lt_trans (h.asc d j ab) (h.step (k:=j+d+1) ab)
theorem VldH.lt (h:VldH l i) {j k:Nat} (b:j<k) (a:k<i):(l[j]'(by have:=h.1;omega)).l<(l[k]'(by have:=h.1;omega)).l:=by
 obtain⟨d,rfl⟩:∃d,k=j+d+1:=⟨k-j-1,by omega⟩;exact h.asc d j a
theorem VldH.inj (h:VldH l i) {j k:Nat} (b:j<i) (c:k<i) (e:(l[j]'(by have:=h.1;omega)).l=(l[k]'(by have:=h.1;omega)).l):j=k:=by
 rcases Nat.lt_trichotomy j k with a | a | a
 · have:=h.lt a c;omega
 · exact a
 · have:=h.lt a b;omega
theorem iH {l:List Rcd} (h:0<l.length):ej l=l[0].l:=by
 match l,h with
 | x::r,_=>rfl
theorem VldH.fst (h:VldH l i) {k:Nat} (b:k<i):ej l≤(l[k]'(by have:=h.1;omega)).l:=by
 have c:=h.1;rw[iH ab];rcases Nat.eq_zero_or_pos k with a | a
 · subst a;exact Int.le_refl _
 · exact Int.le_of_lt (h.lt a b)
theorem mR {l:List Rcd} {i:Nat} {n:Int} {u:Rcd} (h:cz (l.take i) n=some u):∃k,∃a:k<l.length,k<i∧l[k]=u∧u.l=n:=by
 unfold cz at h;have b:=List.mem_of_find?_eq_some h;have c:=List.find?_some h;obtain⟨k,a,rfl⟩:=List.getElem_of_mem b;rw[List.length_take] at a;exact⟨k,by omega,by omega,by rw[List.getElem_take],al c⟩
theorem VldH.fnd (h:VldH l i) {k:Nat} (b:k<i):cz (l.take i) (l[k]'(by have:=h.1;omega)).l=some (l[k]'(by have:=h.1;omega)):=by
 have e:=h.1
 cases hf:cz (l.take i) l[k].l with
 | none=>
  unfold cz at hf;rw[List.find?_eq_none] at hf;have:=hf l[k] (List.mem_iff_getElem.2 ⟨k,by rw[List.length_take];omega,List.getElem_take⟩);simp at this
 | some u=>
  obtain⟨j,d,a,rfl,c⟩:=mR hf;obtain rfl:=h.inj a b c
  rfl
theorem FA (h:VldH l i):∀(k:Nat) (C:k<i),(l[k]'(by have:=h.1;omega)).e.k≠5→∀u,cz (l.take i) (j8 l k)=some u→u.e.t=(l[k]'(by have:=h.1;omega)).e.t:=by
 intro k
 induction k using Nat.strongRecOn with
 | ind k ih=>
  intro C J u F;have R:=h.1
  have s:k<l.length:=by omega
  obtain⟨n,S,g,c,a⟩:=mR F;have P:∀m (hm:m<l.length),m<k→ez l m (ct l m) l[m]=0:=fun m hm E=>h.2 m hm ab;have z:=mB k ab P l[k].e.t;obtain⟨_,_,hr⟩:=lh (h.2 k s C);obtain⟨Q,p,h3,K⟩:=hr J;have G:=(h.e0 g).1;rw[c] at G;have H:=h.fst g;rw[c] at H
  have own:∀d,bP l l[k].e.t k=some d→∀u,cz (l.take i) (j8 l d)=some u→u.e.t=l[k].e.t:=fun d f u F=>by
   obtain⟨v,x,hx,y,r⟩:=gz f
   have o:l[d]=x:=by rw[List.getElem?_eq_getElem ab] at hx;exact Option.some.inj hx
   have:=ih d v ab (by rw[o];exact y) u F;rw[this,o,r]
  rw[qC s] at a;by_cases k0:l[k].e.k=0
  · rw[if_pos k0] at a
    have:n=k:=h.inj g C (by rw[c];exact a);subst this;rw[c]
  rw[if_neg k0] at a;by_cases A:l[k].e.k=1
  · rw[if_pos A] at a
    have j:=K A;unfold mf at j
    split at j
    · cases j
    rename_i L
    split at j
    · rename_i B
      have:=of_decide_eq_true ((aH au).1 j);omega
    · rename_i w O
      have j:=(aH au).1 j;simp only[Bool.and_eq_true,beq_iff_eq,decide_eq_true_eq] at j;obtain⟨⟨⟨⟨w0,wp⟩,_⟩,_⟩,_⟩:=j;obtain⟨m,hm,E,rfl,b⟩:=mR O
      have D:l[m].e.t=l[k].e.t:=by
       unfold ju at b p
       cases f:bP l l[k].e.t k with
       | none=>
        rw[f] at z;rw[z] at b p;simp only[Option.map_none] at b p;rw[(j6 p).2] at b;have:=(h.e0 (k:=m) ab).1;simp only at b
        split at b<;>omega
       | some d=>
        rw[f] at z;rw[z] at b p;simp only[Option.map_some] at b p;by_cases I:(nI l d).k=4
        · rw[if_pos I] at b p
          rw[(j6 p).2] at b;have:=(h.e0 (k:=m) ab).1;simp only at b
          split at b<;>omega
        · rw[if_neg I] at b
          have e:l[m].l=j8 l d:=b;have:=own d f l[m] (by rw[←e];exact h.fnd ab);exact this
      rcases EG hm (fun q N M=>h.2 q N ab) (by rw[w0];decide) with ⟨T,_⟩ | ⟨d,f,_,hp⟩
      · omega
      · obtain⟨v,x,hx,y,r⟩:=gz f
        have o:l[d]=x:=by rw[List.getElem?_eq_getElem ab] at hx;exact Option.some.inj hx
        rw[qc ab] at hp;have:n=d:=h.inj g ab (by rw[c];omega);subst this;rw[←c,o,r,D]
  rw[if_neg A] at a
  cases f:bP l l[k].e.t k with
  | none=>
   rw[f] at a;simp only at a
   split at a<;>omega
  | some d=>
   rw[f] at a;simp only at a
   split at a
   · refine own d f u ?_
     rw[←a];have:=h.fnd g;rw[c] at this;exact this
   · split at a<;>omega
end
def mP (l:List Rcd) (b:Option Nat) (p:Int):Bool:=match b with
 | none=>decide (ej l≤p)&&p != 0
 | some k=>if eW l k=4 then p != 0 else p != lA l k
def dd (l:List Rcd) (b:Option Nat):Int:=match b with
 | none=>0
 | some k=>if eW l k=4 then 0 else eW l k
def mo (l:List Rcd) (b:Option Nat) (p:Int):Int:=match b with
 | none=>if p=0 then 0 else -1
 | some k=>if eW l k=4 then (if p=0 then 0 else -1) else j8 l k
def nR (l:List Rcd) (i:Nat) (n:Int) (x:Lge):Int:=if n=0 then 13 else match cz (l.take i) n with
 | none=>if ej l≤x.x then 13 else 0
 | some u=>if u.e.k=0∧u.e.t=x.t∧x.x=u.e.p∧x.g=u.e.g∧x.f=u.e.f∧x.o=bO u.e.o then 0 else 13
def D7 (l:List Rcd) (i:Nat) (x:Lge):Int:=
 if mP l (bP l x.t i) x.p=true then 14
 else if dd l (bP l x.t i)=2∧x.k≠4 then 20
 else if (dd l (bP l x.t i)=3∨dd l (bP l x.t i)=1)∧x.k≠1∧x.k≠4 then 20
 else if x.k≠1 then 0
 else nR l i (mo l (bP l x.t i) x.p) x
def DK (l:List Rcd) (i:Nat) (x:Lge):Int:=if x.k=5 then GA x else if x.t=0 then 2 else D7 l i x
theorem xO {x:Lge} (h:cA x=0):0≤x.k∧x.k≤5:=by
 unfold cA at h;rw[aN] at h;exact inB_true.1 ((aH au).1 (h _ (.head _)))
theorem kY {x:Lge} (h:cA x=0):(0≤x.t∧x.t≤9999)∧(0≤x.p∧x.p≤2147483647)∧(0≤x.x∧x.x≤2147483647)∧(0≤x.g∧x.g≤600):=by
 unfold cA at h;rw[aN] at h;have:=(aH au).1 (h _ (.tail _ (.head _)));unfold jn at this;rw[Bool.and_eq_true,Bool.and_eq_true,Bool.and_eq_true,inB_true,inB_true,inB_true,inB_true] at this;exact⟨this.1.1.1,this.1.1.2,this.1.2,this.2⟩
theorem Dr {k c:Int} (a:0≤k∧k≤3) (b:0≤c∧c≤4):rW k c=true↔¬((k=2∧c≠4)∨((k=3∨k=1)∧c≠1∧c≠4)):=by
 rcases (show k=0∨k=1∨k=2∨k=3 by omega) with rfl | rfl | rfl | rfl<;>rcases (show c=0∨c=1∨c=2∨c=3∨c=4 by omega) with rfl | rfl | rfl | rfl | rfl<;>decide
theorem DF {l:List Rcd} {i:Nat} (h:VldH l i) (c:Chn) (x:Lge) (m:∀u,cz (l.take i) c.u=some u→u.e.t=x.t):mf l i c x=nR l i c.u x:=by
 unfold mf nR
 split
 · rfl
 · cases hf:cz (l.take i) c.u with
   | none=>
    simp only;unfold bQ;by_cases hx:x.x<ej l
    · rw[decide_eq_true hx,if_pos rfl,if_neg ab]
    · rw[decide_eq_false hx,if_neg au,if_pos ab]
   | some u=>
    simp only;have:=m u hf;unfold bQ;by_cases a:(u.e.k==0&&x.x==u.e.p&&x.g==u.e.g&&x.f==u.e.f&&decide (x.o=bO u.e.o))=true
    · rw[a]
      simp only[Bool.and_eq_true,beq_iff_eq,decide_eq_true_eq] at a;obtain⟨⟨⟨⟨b1,j⟩,d⟩,b4⟩,b⟩:=a;rw[if_pos rfl,if_pos ⟨b1,this,j,d,b4,b⟩]
    · rw[if_neg a,if_neg]
      rintro ⟨b1,j,d,b4,b,n⟩
      apply a;simp only[Bool.and_eq_true,beq_iff_eq,decide_eq_true_eq];exact⟨⟨⟨⟨b1,d⟩,b4⟩,b⟩,n⟩
theorem FN {l:List Rcd} {i:Nat} (W:i<l.length) (h:VldH l i) (C:fc l i l[i]=0):ez l i (ct l i) l[i]=DK l i l[i].e:=by
 unfold ez DK;rw[if_neg (by rw[Classical.not_not];exact C)];by_cases v:l[i].e.k=5
 · rw[if_pos v,if_pos v]
 rw[if_neg v,if_neg v];by_cases ht:l[i].e.t=0
 · rw[if_pos ht,if_pos ht]
 rw[if_neg ht,if_neg ht]
 have H:1≤l[i].l∧cA l[i].e=0:=by
  unfold fc at C;rw[aN] at C;have X:=inB_true.1 ((aH au).1 (C _ (.head _)));exact⟨X.1,C _ (.tail _ (.tail _ (.head _)))⟩
 have O:=xO H.2;have Y:=(kY H.2).2.1
 have hf:1≤ej l:=by
  rcases Nat.eq_zero_or_pos i with o | o
  · subst o;rw[iH W];exact H.1
  · have:=(h.e0 o).1
    rw[iH ab];exact this
 have z:=mB i h.1 h.2 l[i].e.t;obtain⟨x,hx⟩:∃x,x=l[i].e:=⟨_,rfl⟩;rw[←hx] at z v ht O Y ⊢;clear hx H
 have J:∀n:Int,n≤0→cz (l.take i) n=none:=fun n Z=>by
  cases hq:cz (l.take i) n with
  | none=>rfl
  | some u=>
   obtain⟨k,T,f,rfl,V⟩:=mR hq;have:=(h.e0 f).1;omega
 have B:∀b:Bool,(b=true→True)→∀g:Bool,g=(if b then x.p != 0 else decide (ej l≤x.p)&&x.p != 0) →
  ph l i (ji (ej l) x b) x=if g=true then 14 else if x.k≠1 then 0 else nR l i (if x.p=0 then 0 else -1) x:=fun b _ g r=>by
  unfold ph ji;by_cases d:x.p>(if b then 0 else ej l-1)
  · rw[if_pos d]
    have:g=true:=by
     rw[r]
     cases b
     · simp at d ⊢;omega
     · simp at d ⊢;omega
    rw[this,if_pos rfl];simp[av]
  · rw[if_neg d]
    have:g=false:=by
     rw[r]
     cases b
     · simp at d ⊢;omega
     · simp at d ⊢;omega
    rw[this,if_neg (show ¬(false=true) by decide)];by_cases s:x.p=0
    · have e0:(if x.p≠0 then (-1:Int) else 0)=0:=if_neg ab
      have E:rW 0 x.k=true:=(Dr ⟨by decide,by decide⟩ ⟨O.1,by omega⟩).2 ab;rw[e0,if_pos s];show av [0,if (0:Int) = -1 then 0 else bQ (rW 0 x.k) 20,if x.k=1 then mf l i ⟨x.p,0,0⟩ x else 0]=_;rw[if_neg (show ¬((0:Int) = -1) by decide),E];by_cases a:x.k=1
      · rw[if_pos a,if_neg (show ¬(x.k≠1) by omega)];rfl
      · rw[if_neg a,if_pos a];rfl
    · have e0:(if x.p≠0 then (-1:Int) else 0) = -1:=if_pos s
      rw[e0,if_neg s];show av [0,if (-1:Int) = -1 then 0 else bQ (rW (-1) x.k) 20,if x.k=1 then mf l i ⟨x.p,-1,-1⟩ x else 0]=_;rw[if_pos rfl];by_cases a:x.k=1
      · rw[if_pos a,if_neg (show ¬(x.k≠1) by omega),DF h ⟨x.p,-1,-1⟩ x (fun u I=>by rw[J (-1) au] at I;cases I)]
        show(if nR l i (-1) x=0 then 0 else nR l i (-1) x)=_
        split
        · rename_i q;exact q.symm
        · rfl
      · rw[if_neg a,if_pos a];rfl
 unfold D7 ju
 cases hb:bP l x.t i with
 | none=>
  rw[hb] at z;rw[z];simp only[Option.map_none];rw[B false (fun _=>trivial) (mP l none x.p) rfl];unfold dd mo;simp
 | some k=>
  rw[hb] at z;rw[z];simp only[Option.map_some];by_cases A:eW l k=4
  · have e:(nI l k).k=4:=A
    rw[if_pos e,B true (fun _=>trivial) (mP l (some k) x.p) (by unfold mP;simp[A])];unfold dd mo;simp[A]
  · have e:¬(nI l k).k=4:=A
    rw[if_neg e];obtain⟨f,y,S,P,M⟩:=gz hb
    have D:k<l.length:=by omega
    have m:l[k]=y:=by rw[List.getElem?_eq_getElem D] at S;exact Option.some.inj S
    have N:=xO (h.e0 f).2.2;have K:=jO D;rw[m] at N K;have F:=Dr (k:=eW l k) (c:=x.k) ab ⟨O.1,by omega⟩
    have w:mf l i (nI l k) x=nR l i (j8 l k) x:=DF h (nI l k) x fun u I=>by
     have:=FA h k f (by rw[m];exact P) u I;rw[this,m,M]
    unfold ph mP dd mo;simp only[if_neg A];have U:(nI l k).l=lA l k:=rfl;have e2:(nI l k).k=eW l k:=rfl;rw[U,e2];by_cases r:x.p=lA l k
    · have R:(x.p==lA l k)=true:=al r
      have Q:(x.p != lA l k)=false:=by simp[r]
      rw[R,Q,if_neg (show ¬eW l k = -1 by omega),if_neg (show ¬(false=true) by decide)];by_cases G:rW (eW l k) x.k=true
      · have j:=F.1 G
        rw[G,if_neg (fun q=>j (.inl q)),if_neg (fun q=>j (.inr q))];by_cases a:x.k=1
        · rw[if_pos a,w,if_neg (show ¬(x.k≠1) by omega)]
          show(if nR l i (j8 l k) x=0 then 0 else nR l i (j8 l k) x)=_
          split
          · rename_i q;exact q.symm
          · rfl
        · simp[a,av,bQ]
      · have j:(eW l k=2∧x.k≠4)∨((eW l k=3∨eW l k=1)∧x.k≠1∧x.k≠4):=by
         have:=mt F.2 G;exact Classical.not_not.1 this
        have L:rW (eW l k) x.k=false:=al G;rw[L];rcases j with q | q
        · rw[if_pos q];simp[av,bQ]
        · rw[if_neg ab,if_pos q];simp[av,bQ]
    · have R:(x.p==lA l k)=false:=al r
      have Q:(x.p != lA l k)=true:=by simp[r]
      rw[R,Q,if_pos rfl];simp[av,bQ]
open Go.RowKit Go.Sort
theorem sK {x:Op} (h:fX x):(0≤x.k∧x.k≤6)∧(0≤x.e∧x.e≤512)∧x.o.size≤3100∧x.n.size≤3100:=by unfold fX at h;omega
theorem qG (x:Op) (w:World) (h:gy x=0) :
 bu 219 #[fj x] w (.tuple #[fj (bO x),ae 0]):=by
 have e:=(gv x).1 h;obtain⟨m,n,j,k⟩:=sK e;obtain⟨R,a⟩:∃R,R=bO x:=⟨_,rfl⟩;rw[←a];unfold bO at a;refine an (N:=46) Tryz.func219 rfl rfl rfl (fun _ Y=>?_);have Z:=St.init w;refine aj (aq ?_);refine nb Y rfl rfl Z fun b1 _ _ q Y Z=>na (.agg qo) Y rfl Z fun o _ _ p Y Z=>GO 6 ?_;intro _ Y;refine sv (v:=fj x) Y (ah aa aa (Y.ev rfl) (Z.cellsAll (i:=1) rfl)) fun _ Y=>?_;refine cQ Y rfl Z (gI x _ j k) fun _ _ Y Z=>?_;refine GO 9 ?_;intro _ Y;refine ak (Y.ev rfl) (fun g=>?_) (fun g=>?_)
 ·
  exact absurd h (al g)
 ·
  refine GO 16 ?_;intro _ Y;refine ak (Y.ev rfl) (fun d=>?_) (fun d=>?_)
  ·
   rw[if_pos (al d)] at a;refine GO 8 ?_;intro _ Y;refine aS Y (wn rfl) ⟨rfl,rfl⟩ (Y.ev rfl) (Y.ev rfl) rfl aa Z (i:=1) rfl rfl rfl fun _ Z=>GO 1 ?_;intro _ Y;refine aS Y (wn rfl) ⟨rfl,rfl⟩ (Y.ev rfl) (Y.ev rfl) rfl aa Z (i:=1) rfl rfl rfl fun _ Z=>GO 10 ?_;intro _ Y;refine aS Y (wn rfl) ⟨rfl,rfl⟩ (Y.ev rfl) (Y.ev rfl) rfl aa Z (i:=1) rfl rfl rfl fun _ Z=>GO 1 ?_;intro _ Y;refine aS Y (wn rfl) ⟨rfl,rfl⟩ (Y.ev rfl) (Y.ev rfl) rfl aa Z (i:=1) rfl rfl rfl fun _ Z=>rV ?_;refine sv Y (ah aa aa (Y.ev rfl) (Z.cellsAll (i:=1) rfl)) fun _ Y=>?_;refine sw Y Z 0 fun _ Z=>?_;refine GO 4 ?_;intro _ Y;refine bZ Y rfl rfl rfl Z (i:=0) rfl aa aa ?_;exact⟨by rw[a];rfl,Z.below⟩
  ·
   rw[if_neg (al d)] at a;refine GO 6 ?_;intro _ Y;refine ak (Y.ev rfl) (fun c=>?_) (fun c=>?_)
   ·
    rw[if_pos (al c)] at a;refine GO 8 ?_;intro _ Y;refine aS Y (wn rfl) ⟨rfl,rfl⟩ (Y.ev rfl) (Y.ev rfl) rfl aa Z (i:=1) rfl rfl rfl fun _ Z=>GO 1 ?_;intro _ Y;refine aS Y (wn rfl) ⟨rfl,rfl⟩ (Y.ev rfl) (Y.ev rfl) rfl aa Z (i:=1) rfl rfl rfl fun _ Z=>GO 10 ?_;intro _ Y;refine aS Y (wn rfl) ⟨rfl,rfl⟩ (Y.ev rfl) (Y.ev rfl) rfl aa Z (i:=1) rfl rfl rfl fun _ Z=>GO 1 ?_;intro _ Y;refine aS Y (wn rfl) ⟨rfl,rfl⟩ (Y.ev rfl) (Y.ev rfl) rfl aa Z (i:=1) rfl rfl rfl fun _ Z=>rV ?_;refine sv Y (ah aa aa (Y.ev rfl) (Z.cellsAll (i:=1) rfl)) fun _ Y=>?_;refine sw Y Z 0 fun _ Z=>?_;refine GO 4 ?_;intro _ Y;refine bZ Y rfl rfl rfl Z (i:=0) rfl aa aa ?_;exact⟨by rw[a];rfl,Z.below⟩
   ·
    rw[if_neg (al c)] at a;refine GO 6 ?_;intro _ Y;refine ak (Y.ev rfl) (fun b=>?_) (fun b=>?_)
    ·
     rw[if_pos (al b)] at a;refine GO 2 ?_;intro _ Y;refine aS Y (wn rfl) ⟨rfl,rfl⟩ (Y.ev rfl) (Y.ev rfl) rfl aa Z (i:=1) rfl rfl rfl fun _ Z=>GO 10 ?_;intro _ Y;refine aS Y (wn rfl) ⟨rfl,rfl⟩ (Y.ev rfl) (Y.ev rfl) rfl aa Z (i:=1) rfl rfl rfl fun _ Z=>GO 1 ?_;intro _ Y;refine aS Y (wn rfl) ⟨rfl,rfl⟩ (Y.ev rfl) (Y.ev rfl) rfl aa Z (i:=1) rfl rfl rfl fun _ Z=>rV ?_;refine sv Y (ah aa aa (Y.ev rfl) (Z.cellsAll (i:=1) rfl)) fun _ Y=>?_;refine sw Y Z 0 fun _ Z=>?_;refine GO 4 ?_;intro _ Y;refine bZ Y rfl rfl rfl Z (i:=0) rfl aa aa ?_;exact⟨by rw[a];rfl,Z.below⟩
    ·
     rw[if_neg (al b)] at a;refine GO 6 ?_;intro _ Y;refine ak (Y.ev rfl) (fun f=>?_) (fun f=>?_)
     ·
      rw[if_pos (al f)] at a;refine GO 2 ?_;intro _ Y;refine aS Y (wn rfl) ⟨rfl,rfl⟩ (Y.ev rfl) (Y.ev rfl) rfl aa Z (i:=1) rfl rfl rfl fun _ Z=>GO 10 ?_;intro _ Y;refine aS Y (wn rfl) ⟨rfl,rfl⟩ (Y.ev rfl) (Y.ev rfl) rfl aa Z (i:=1) rfl rfl rfl fun _ Z=>GO 1 ?_;intro _ Y;refine aS Y (wn rfl) ⟨rfl,rfl⟩ (Y.ev rfl) (Y.ev rfl) rfl aa Z (i:=1) rfl rfl rfl fun _ Z=>rV ?_;refine sv Y (ah aa aa (Y.ev rfl) (Z.cellsAll (i:=1) rfl)) fun _ Y=>?_;refine sw Y Z 0 fun _ Z=>?_;refine GO 4 ?_;intro _ Y;refine bZ Y rfl rfl rfl Z (i:=0) rfl aa aa ?_;exact⟨by rw[a];rfl,Z.below⟩
     ·
      rw[if_neg (al f)] at a;refine GO 10 ?_;intro _ Y;refine aS Y (wn rfl) ⟨rfl,rfl⟩ (Y.ev rfl) (Y.ev rfl) rfl aa Z (i:=1) rfl rfl rfl fun _ Z=>GO 1 ?_;intro _ Y;refine aS Y (wn rfl) ⟨rfl,rfl⟩ (Y.ev rfl) (Y.ev rfl) rfl aa Z (i:=1) rfl rfl rfl fun _ Z=>rV ?_;refine sv Y (ah aa aa (Y.ev rfl) (Z.cellsAll (i:=1) rfl)) fun _ Y=>?_;refine sw Y Z 0 fun _ Z=>?_;refine GO 4 ?_;intro _ Y;refine bZ Y rfl rfl rfl Z (i:=0) rfl aa aa ?_;exact⟨by rw[a];rfl,Z.below⟩
open Go.RowKit Go.Sort
theorem lL (x:Op) (w:World) (h:gy x=0) :
 bu 114 #[fj x] w (fj (bO x)):=by
 have g:=(gv x).1 h;obtain⟨A,B,F,G⟩:=sK g;have z:=g;unfold fX at z;obtain⟨R,d⟩:∃R,R=bO x:=⟨_,rfl⟩;rw[←d];unfold bO at d;refine an (N:=58) Tryz.func114 rfl rfl rfl (fun _ Y=>?_);have Z:=St.init w;refine aj (aq ?_);refine nb Y rfl rfl Z fun b1 _ _ D Y Z=>na (.agg qo) Y rfl Z fun C _ _ E Y Z=>GO 17 ?_;intro _ Y;refine ak (Y.ev rfl) (fun j=>?_) (fun j=>?_)
 ·
  have y:x.k=1∨x.k=6:=.inl (al j);refine wp_skip (ai ?_);refine ak (Y.ev rfl) (fun f=>?_) (fun f=>?_)
  ·
   have b:x.e=0∧x.c=0:=by omega
   rw[if_neg ab,if_neg ab,if_neg ab,if_neg ab,b.1,b.2] at d;refine GO 10 ?_;intro _ Y;refine sv Y (az (zs:=j2) (pl:=kj) aa aa (Y.evs2 rfl) rfl rfl) fun _ Y=>?_;refine sw Y Z 0 fun _ Z=>?_;refine ag (ai (wp_ret (gg (eI ?_))));refine ni Y rfl rfl Z (i:=0) rfl aa aa ?_;exact⟨by rw[d];rfl,Z.below⟩
  ·
   exact absurd (j.symm.trans f) au
 ·
  have k0:x.k≠1:=al j;refine GO 5 ?_;intro _ Y;refine ak (Y.ev rfl) (fun f=>?_) (fun f=>?_)
  ·
   have y:x.k=1∨x.k=6:=.inr (al f)
   have b:x.e=0∧x.c=0:=by omega
   rw[if_neg ab,if_neg ab,if_neg ab,if_neg ab,b.1,b.2] at d;refine GO 10 ?_;intro _ Y;refine sv Y (az (zs:=j2) (pl:=kj) aa aa (Y.evs2 rfl) rfl rfl) fun _ Y=>?_;refine sw Y Z 0 fun _ Z=>?_;refine ag (ai (wp_ret (gg (eI ?_))));refine ni Y rfl rfl Z (i:=0) rfl aa aa ?_;exact⟨by rw[d];rfl,Z.below⟩
  ·
   have H:x.k≠6:=al f;refine GO 6 ?_;intro _ Y;refine ak (Y.ev rfl) (fun m=>?_) (fun m=>?_)
   ·
    have p:x.k=2:=al m
    have b:x.c=0∧x.o.size=0:=by omega
    rw[if_pos p,b.1,ep b.2] at d;refine GO 12 ?_;intro _ Y;refine sv Y (az (zs:=j2) (pl:=kj) aa aa (Y.evs2 rfl) rfl rfl) fun _ Y=>?_;refine sw Y Z 0 fun _ Z=>?_;refine ag (ai (wp_ret (gg (eI ?_))));refine ni Y rfl rfl Z (i:=0) rfl aa aa ?_;exact⟨by rw[d];rfl,Z.below⟩
   ·
    have p:x.k≠2:=al m;rw[if_neg p] at d;refine GO 6 ?_;intro _ Y;refine ak (Y.ev rfl) (fun u=>?_) (fun u=>?_)
    ·
     have v:x.k=3:=al u
     have b:x.c=0∧x.n.size=0:=by omega
     rw[if_pos v,b.1,ep b.2] at d;refine GO 12 ?_;intro _ Y;refine sv Y (az (zs:=j2) (pl:=kj) aa aa (Y.evs2 rfl) rfl rfl) fun _ Y=>?_;refine sw Y Z 0 fun _ Z=>?_;refine ag (ai (wp_ret (gg (eI ?_))));refine ni Y rfl rfl Z (i:=0) rfl aa aa ?_;exact⟨by rw[d];rfl,Z.below⟩
    ·
     have v:x.k≠3:=al u;rw[if_neg v] at d;refine GO 6 ?_;intro _ Y;refine ak (Y.ev rfl) (fun q=>?_) (fun q=>?_)
     ·
      have r:x.k=4:=al q
      have b:x.e=0∧x.o.size=0∧x.n.size=0:=by omega
      rw[if_pos r,b.1,ep b.2.1,ep b.2.2] at d;refine GO 6 ?_;intro _ Y;refine sv Y (az (zs:=j2) (pl:=kj) aa aa (Y.evs2 rfl) rfl rfl) fun _ Y=>?_;refine sw Y Z 0 fun _ Z=>?_;refine ag (ai (wp_ret (gg (eI ?_))));refine ni Y rfl rfl Z (i:=0) rfl aa aa ?_;exact⟨by rw[d];rfl,Z.below⟩
     ·
      have r:x.k≠4:=al q;rw[if_neg r] at d;refine GO 6 ?_;intro _ Y;refine ak (Y.ev rfl) (fun s=>?_) (fun s=>?_)
      ·
       have t:x.k=5:=al s
       have b:x.e=0∧x.o.size=0∧x.n.size=0:=by omega
       rw[if_pos t,b.1,ep b.2.1,ep b.2.2] at d;refine GO 6 ?_;intro _ Y;refine sv Y (az (zs:=j2) (pl:=kj) aa aa (Y.evs2 rfl) rfl rfl) fun _ Y=>?_;refine sw Y Z 0 fun _ Z=>?_;refine ag (ai (wp_ret (gg (eI ?_))));refine ni Y rfl rfl Z (i:=0) rfl aa aa ?_;exact⟨by rw[d];rfl,Z.below⟩
      ·
       have t:x.k≠5:=al s
       have b:x.o.size=0∧x.n.size=0:=by omega
       rw[if_neg t,ep b.1,ep b.2] at d
       have hx:fj x=.agg #[ae x.k,ae x.a,ae x.e,ae x.c,.string ⟨#[]⟩,.string ⟨#[]⟩]:=by unfold fj;rw[ep b.1,ep b.2]
       refine wp_skip (eC (ai (aj (aq ?_))));refine sv Y (ah aa aa (Y.ev rfl) (Z.cellsAll (i:=1) rfl)) fun _ Y=>?_;refine sw Y Z 0 fun _ Z=>?_;refine ag (ai (wp_ret ?_));refine ni Y rfl rfl Z (i:=0) rfl aa aa ?_;exact⟨by rw[d];exact congrArg _ hx,Z.below⟩
open Go.RowKit Go.Sort
theorem kW (e:Lge) (w:World) (c:e.o.o.size≤3100) (b:e.o.n.size≤3100) (a:e.d.size≤maxLen) :
 bu 154 #[cy e] w (ae (cA e)):=
 nB e.k e.t e.p e.x e.g e.f e.o e.d w c b a
theorem r7 (o:Op) (w:World) :
 Calls Tryz.prog 174 #[fj o] w fun r w'=>r=.returned (.bool (p6 o))∧Below w.heap.size w w':=by
 have hnil:=qX o;obtain⟨Bn,hBn⟩:∃b,p6 o=b:=⟨_,rfl⟩;rw[hBn] at hnil ⊢;clear hBn;unfold fj
 go_enter Tryz.func174,Tryz.ntmps174
 go_wp2
 go_ret
 exact⟨rfl,du⟩
theorem FC (e:Lge):cA e=if bB e.k 0 5=false then 15 else if jn e=false then 2 else if jb e=false then 3 else if (1000:Int)<e.d.size then 8 else gy e.o:=by
 unfold cA
 have a:decide ((e.d.size:Int)≤1000)=!decide ((1000:Int)<e.d.size):=by
  by_cases h:(1000:Int)<e.d.size
  · rw[decide_eq_true h,decide_eq_false ab];rfl
  · rw[decide_eq_false h,decide_eq_true ab];rfl
 rw[a]
 cases bB e.k 0 5<;>cases jn e<;>cases jb e<;>by_cases h:(1000:Int)<e.d.size<;>simp[av,bQ,h]<;>(intro h;exact h.symm)
theorem r5 (k t p x g:Int) (f:Bool) (o:Op) (d:ByteArray) (w:World) (ho:o.o.size≤3100) (hn:o.n.size≤3100) (hd:d.size≤maxLen) :
 Calls Tryz.prog 107 #[.agg #[.int .i64 k,.int .i64 t,.int .i64 p,.int .i64 x,.int .i64 g,.bool f,.int .i64 o.k,.int .i64 o.a,.int .i64 o.e,.int .i64 o.c,.string o.o,.string o.n,.string d]] w fun r w'=>r=.returned (.int .i64 (cA ⟨k,t,p,x,g,f,o,d⟩))∧Below w.heap.size w w':=by
 have hE:=fun W=>j3 o W ho hn;obtain⟨er,her⟩:∃x,x=gy o:=⟨_,rfl⟩;rw[←her] at hE;unfold fj at hE;have HE:=Lib.hid hE;have HER:=Lib.hid her;unfold maxLen at hd;clear hE her ho hn;have hnil:=fun W=>r7 o W;obtain⟨Bn,hBn⟩:∃b,p6 o=b:=⟨_,rfl⟩;rw[hBn] at hnil;unfold fj at hnil;have HNIL:=Lib.hid hnil;obtain⟨Nx,hNx⟩:∃b,(x != 0)=b:=⟨_,rfl⟩;obtain⟨B0,hB0⟩:∃b,(k==0)=b:=⟨_,rfl⟩;obtain⟨B1,hB1⟩:∃b,(k==1)=b:=⟨_,rfl⟩;obtain⟨N1,hN1⟩:∃b,(k != 1)=b:=⟨_,rfl⟩;obtain⟨N5,hN5⟩:∃b,(k != 5)=b:=⟨_,rfl⟩;obtain⟨Ng,hNg⟩:∃b,(g != 0)=b:=⟨_,rfl⟩;obtain⟨Bd,hBd⟩:∃b,d.toList.isEmpty=b:=⟨_,rfl⟩;obtain⟨F,hF⟩:∃F,jb ⟨k,t,p,x,g,f,o,d⟩=F:=⟨_,rfl⟩
 have hF':F=!((N1&&Nx)||(!(B0||B1)&&(Ng||f||!Bn))||(N5&&!Bd)):=by
  have e1:(x==0)=!Nx:=by rw[←hNx,bne,Bool.not_not]
  have e2:(k==1)=!N1:=by rw[←hN1,bne,Bool.not_not]
  have e3:(k==5)=!N5:=by rw[←hN5,bne,Bool.not_not]
  have e4:(g==0)=!Ng:=by rw[←hNg,bne,Bool.not_not]
  have e5:(d.size==0)=Bd:=by rw[←hBd,isEmpty_eq]
  have e6:B1=!N1:=by rw[←hB1,e2]
  rw[←hF,e6,←hB0];unfold jb
  dsimp only
  rw[e1,e2,e3,e4,e5,hBn,hB0]
  cases N1<;>cases Nx<;>cases B0<;>cases Ng<;>cases f<;>cases Bn<;>cases N5<;>cases Bd<;>rfl
 have HF:=Lib.hid hF;have HF':=Lib.hid hF';clear hBn hF hF' hnil;obtain⟨bt,hbt⟩:∃b,b=bB t 0 9999:=⟨_,rfl⟩;obtain⟨bp,hbp⟩:∃b,b=bB p 0 2147483647:=⟨_,rfl⟩;obtain⟨bx,hbx⟩:∃b,b=bB x 0 2147483647:=⟨_,rfl⟩;obtain⟨bg,hbg⟩:∃b,b=bB g 0 600:=⟨_,rfl⟩;obtain⟨bk,hbk⟩:∃b,b=bB k 0 5:=⟨_,rfl⟩;have hK:=fun W=>br k 0 5 W;have hT:=fun W=>br t 0 9999 W;have hG:=fun W=>br g 0 600 W;have hP:=fun W=>mC p W;have hX:=fun W=>mC x W;rw[←hbk] at hK;rw[←hbt] at hT;rw[←hbg] at hG;rw[←hbp] at hP;rw[←hbx] at hX;have HK:=Lib.hid hK;have HT:=Lib.hid hT;have HG:=Lib.hid hG;have HP:=Lib.hid hP;have HX:=Lib.hid hX;obtain⟨R,hR⟩:∃R,R=(bt&&bp&&bx&&bg):=⟨_,rfl⟩
 have hv:cA ⟨k,t,p,x,g,f,o,d⟩=if bk=false then 15 else if R=false then 2 else if F=false then 3 else if (1000:Int)<d.size then 8 else er:=by
  rw[FC,HER.out,hbk,hR,hbt,hbp,hbx,hbg,←HF.out];rfl
 have HV:=Lib.hid hv;have HR:=Lib.hid hR;clear hK hT hG hP hX hv hbt hbp hbx hbg hbk hR;rw[HV.out]
 go_enter Tryz.func107,Tryz.ntmps107
 cases bk
 · go_wp2_with (first | (go_at_call 74;(with_reducible refine(HK.out _).mono ?_);rintro e w' ⟨rfl,rfl⟩))
   go_ret
   exact⟨rfl,du⟩
 · go_upto_region 3 with (first | (go_at_call 74;(with_reducible refine(HK.out _).mono ?_);rintro e w' ⟨rfl,rfl⟩))
   go_cut [29] (fun s29 wx=>s29=.bool (!R)∧wx=w.alloc (.cells #[.int .i64 k,.int .i64 t,.int .i64 p,.int .i64 x,.int .i64 g,.bool f,.int .i64 o.k,.int .i64 o.a,.int .i64 o.e,.int .i64 o.c,.string o.o,.string o.n,.string d] 143))
   case first=>
    go_wp2_with (first | (go_at_call 74;(with_reducible refine(HT.out _).mono ?_);rintro e w' ⟨rfl,rfl⟩) | (go_at_call 74;(with_reducible refine(HG.out _).mono ?_);rintro e w' ⟨rfl,rfl⟩) | (go_at_call 173;(with_reducible refine(HP.out _).mono ?_);rintro e w' ⟨rfl,rfl⟩) | (go_at_call 173;(with_reducible refine(HX.out _).mono ?_);rintro e w' ⟨rfl,rfl⟩))
    all_goals
     go_meet
     refine⟨congrArg Value.bool ?_,rfl⟩;have Y:=HR.out
     simp_all
   case rest=>
   obtain⟨rfl,rfl⟩:=hcut
   cases R
   · go_wp2
     go_ret
     exact⟨rfl,du⟩
   · go_upto_region 5 with (fail)
     go_cut [3] (fun s3 wx=>s3=.bool (B0||B1)∧wx=w.alloc (.cells #[.int .i64 k,.int .i64 t,.int .i64 p,.int .i64 x,.int .i64 g,.bool f,.int .i64 o.k,.int .i64 o.a,.int .i64 o.e,.int .i64 o.c,.string o.o,.string o.n,.string d] 143))
     case first=>
      go_wp2_with fail
      all_goals
       go_meet
       refine⟨congrArg Value.bool ?_,rfl⟩
       cases B0<;>cases B1<;>simp_all
     case rest=>
     obtain⟨rfl,rfl⟩:=hcut;obtain⟨Bc,hBc⟩:∃b,(B0||B1)=b:=⟨_,rfl⟩;rw[hBc];have HBc:=Lib.hid hBc;clear hBc
     go_upto_region 6 with (fail)
     go_cut [3,74] (fun _ s74 wx=>s74=.bool (!F)∧Below (w.alloc (.cells #[.int .i64 k,.int .i64 t,.int .i64 p,.int .i64 x,.int .i64 g,.bool f,.int .i64 o.k,.int .i64 o.a,.int .i64 o.e,.int .i64 o.c,.string o.o,.string o.n,.string d] 143)).heap.size (w.alloc (.cells #[.int .i64 k,.int .i64 t,.int .i64 p,.int .i64 x,.int .i64 g,.bool f,.int .i64 o.k,.int .i64 o.a,.int .i64 o.e,.int .i64 o.c,.string o.o,.string o.n,.string d] 143)) wx)
     case first=>
      cases f
      all_goals
       go_wp2_with (first | ((go_at_call 174;(with_reducible refine(HNIL.out _).mono ?_);rintro e W1 ⟨rfl,hbW1⟩;obtain⟨hcW1,hfW1⟩:=bH hbW1);have hsW1:w.heap.size<W1.heap.size:=(by have h:=hbW1.size;(try simp at h);omega)))
       all_goals
        go_meet
        refine⟨congrArg Value.bool ?_,by first | exact hbW1 | exact Below.refl _ _⟩;have Y:=HF'.out;have Y:=HBc.out
        simp_all
     case rest=>
     obtain⟨rfl,hbX⟩:=hcut;obtain⟨hcX,hfX⟩:=bH hbX;have hsX:=hbX.size;simp at hsX;have hsX':=Nat.lt_of_succ_le hsX;have hbX':=(eu (Below.refl _ _) _:Below w.heap.size w (w.alloc (.cells #[.int .i64 k,.int .i64 t,.int .i64 p,.int .i64 x,.int .i64 g,.bool f,.int .i64 o.k,.int .i64 o.a,.int .i64 o.e,.int .i64 o.c,.string o.o,.string o.n,.string d] 143)))
     cases F
     · go_wp2
       go_ret
       exact⟨rfl,du⟩
     · by_cases h8:(1000:Int)<d.size
       · go_wp2
         go_ret
         exact⟨by simp[h8],du⟩
       · go_wp2_with (first | (go_at_call 139;(with_reducible refine(HE.out _).mono ?_);rintro e W2 ⟨rfl,hbW2⟩))
         go_ret
         exact⟨by simp[h8],du⟩
theorem kq (e:Lge) (w:World) (c:e.o.o.size≤3100) (b:e.o.n.size≤3100) (a:e.d.size≤maxLen) :
 bu 107 #[cy e] w (ae (cA e)):=
 r5 e.k e.t e.p e.x e.g e.f e.o e.d w c b a
open Go.RowKit Go.Sort
open Go.RowKit Go.Sort
open Go.RowKit Go.Sort
def kg (x:Op):List Int:=[x.a,x.e,x.c,x.o.size,x.n.size]
def dD (x:Op) (k:Nat):List UInt8:=lit x.k 1 ++ ((kg x).take k).flatMap (fun n=>lit n 2)
def dG (x:Op):List UInt8:=dD x 5 ++ bl x.o ++ bl x.n
theorem eE (x:Op) (k:Nat) (n:Int) (h:(kg x)[k]? = some n):dD x (k+1)=dD x k ++ lit n 2:=by
 unfold dD;obtain⟨a,b⟩:=List.getElem?_eq_some_iff.1 h;rw[List.take_succ_eq_append_getElem a,b,List.flatMap_append,List.append_assoc];simp
theorem gx (x:Op) (k:Nat) (a:k≤5):(dD x k).length=1+2*k:=by
 have:k=0∨k=1∨k=2∨k=3∨k=4∨k=5:=by omega
 rcases this with rfl | rfl | rfl | rfl | rfl | rfl<;>simp[dD,kg,cu]
theorem mn (l m:List UInt8):bs l ++ bs m=bs (l ++ m):=by apply gb;rw[db];rfl
structure OpPos (x:Op):Prop where
 k:0≤x.k∧x.k≤5000
 a:0≤x.a∧x.a≤5000
 e:0≤x.e∧x.e≤5000
 c:0≤x.c∧x.c≤5000
 o:x.o.size≤3100
 n:x.n.size≤3100
theorem ry {x:Op} (h:fX x):OpPos x:=by unfold fX at h;constructor<;>omega
theorem w7 (x:Op) (w:World) (h:OpPos x) :
 Calls Tryz.prog 229 #[fj x] w fun r w'=>r=.returned (.string (bs (dG x)))∧Below w.heap.size w w':=by
 obtain⟨hk,ha,he,hc,ho,hn⟩:=h;obtain⟨K,a,e,c,o,n⟩:=x
 dsimp only at hk ha he hc ho hn
 obtain⟨X,hX⟩:∃X,X=Op.mk K a e c o n:=⟨_,rfl⟩
 have h0:bs (lit K 1)=bs (dD X 0):=by rw[hX];simp[dD]
 have hs:∀j,j≤5→(bs (dD X j)).size=1+2*j:=fun j hj=>by rw[cm,gx X j hj]
 have g0:(kg X)[0]? = some a:=by rw[hX];rfl
 have g1:(kg X)[1]? = some e:=by rw[hX];rfl
 have g2:(kg X)[2]? = some c:=by rw[hX];rfl
 have g3:(kg X)[3]? = some (o.size:Int):=by rw[hX];rfl
 have g4:(kg X)[4]? = some (n.size:Int):=by rw[hX];rfl
 have hfin:bs (dD X 5) ++ o ++ n=bs (dG X):=by
  rw[hX];apply gb;rw[db,db];rfl
 have H0:=Lib.hid h0;have HS:=Lib.hid hs;have G0:=Lib.hid g0;have G1:=Lib.hid g1;have G2:=Lib.hid g2;have G3:=Lib.hid g3;have G4:=Lib.hid g4;have HF:=Lib.hid hfin;show Calls Tryz.prog 229 #[.agg #[.int .i64 K,.int .i64 a,.int .i64 e,.int .i64 c,.string o,.string n]] w fun r w'=>r=.returned (.string (bs (dG ⟨K,a,e,c,o,n⟩)))∧Below w.heap.size w w';rw[←hX];clear h0 hs g0 g1 g2 g3 g4 hfin hX;have hL:=fun W=>bh K 1 hk.1 ab ab W;rw[H0.out] at hL;have HL:=Lib.hid hL;clear hL;have hla:=fun W=>bh a 2 ha.1 ab ab W;have hle:=fun W=>bh e 2 he.1 ab ab W;have hlc:=fun W=>bh c 2 hc.1 ab ab W;have hlo:=fun W=>bh (o.size:Int) 2 ab ab ab W;have hln:=fun W=>bh (n.size:Int) 2 ab ab ab W;have HLA:=Lib.hid hla;have HLE:=Lib.hid hle;have HLC:=Lib.hid hlc;have HLO:=Lib.hid hlo;have HLN:=Lib.hid hln;clear hla hle hlc hlo hln
 go_enter Tryz.func229,Tryz.ntmps229
 go_wp2_with (go_at_call 216;refine(HL.out _).mono ?_;rintro e W1 ⟨rfl,hbW1⟩;obtain⟨hcW1,hfW1⟩:=bH hbW1;have hsW1:w.heap.size<W1.heap.size:=(by have h:=hbW1.size;simp at h;omega))
 go_loopw [3,22] (fun s i wr=>∃(k:Nat) (S:ByteArray),k≤5∧i=.int .i64 k∧s=.string S∧S=bs (dD X k)∧Below W1.heap.size W1 wr) (fun _ i _=>5-(intOf i).toNat)
 case atStart=>exact⟨0,_,by omega,rfl,rfl,rfl,Below.refl _ _⟩
 case round=>
  obtain⟨k,S,hk5,rfl,rfl,hS,hb⟩:=hrel
  have hsz:S.size=1+2*k:=by rw[hS];exact HS.out k hk5
  have hsz':S.size≤11:=by omega
  have HSS:=Lib.hid hS
  have hz2:∀m:Int,(bs (lit m 2)).size=2:=fun m=>by rw[cm,cu]
  clear hS
  have:k=0∨k=1∨k=2∨k=3∨k=4∨k=5:=by omega
  rcases this with rfl | rfl | rfl | rfl | rfl | rfl
  · clear hsz
    have hix:∀W,(Instr.index 319 (.agg #[.int .i64 a,.int .i64 e,.int .i64 c,.int .i64 o.size,.int .i64 n.size]) (.int .i64 0)).run Tryz.prog W=.ok (.int .i64 a) W:=fun W=>by kernel_rfl
    go_wp2_with (go_at_call 216;refine(HLA.out _).mono ?_;rintro e W2 ⟨rfl,hbW2⟩)
    go_roundw
    case rel=>exact⟨0+1,_,by omega,by go_num,rfl,(by rw[HSS.out,mn,eE X 0 _ G0.out]),dW hb hbW2⟩
    case measure=>simp[intOf]
  · clear hsz
    have hix:∀W,(Instr.index 319 (.agg #[.int .i64 a,.int .i64 e,.int .i64 c,.int .i64 o.size,.int .i64 n.size]) (.int .i64 1)).run Tryz.prog W=.ok (.int .i64 e) W:=fun W=>by kernel_rfl
    go_wp2_with (go_at_call 216;refine(HLE.out _).mono ?_;rintro e W2 ⟨rfl,hbW2⟩)
    go_roundw
    case rel=>exact⟨1+1,_,by omega,by go_num,rfl,(by rw[HSS.out,mn,eE X 1 _ G1.out]),dW hb hbW2⟩
    case measure=>simp[intOf]
  · clear hsz
    have hix:∀W,(Instr.index 319 (.agg #[.int .i64 a,.int .i64 e,.int .i64 c,.int .i64 o.size,.int .i64 n.size]) (.int .i64 2)).run Tryz.prog W=.ok (.int .i64 c) W:=fun W=>by kernel_rfl
    go_wp2_with (go_at_call 216;refine(HLC.out _).mono ?_;rintro e W2 ⟨rfl,hbW2⟩)
    go_roundw
    case rel=>exact⟨2+1,_,by omega,by go_num,rfl,(by rw[HSS.out,mn,eE X 2 _ G2.out]),dW hb hbW2⟩
    case measure=>simp[intOf]
  · clear hsz
    have hix:∀W,(Instr.index 319 (.agg #[.int .i64 a,.int .i64 e,.int .i64 c,.int .i64 o.size,.int .i64 n.size]) (.int .i64 3)).run Tryz.prog W=.ok (.int .i64 o.size) W:=fun W=>by kernel_rfl
    go_wp2_with (go_at_call 216;refine(HLO.out _).mono ?_;rintro e W2 ⟨rfl,hbW2⟩)
    go_roundw
    case rel=>exact⟨3+1,_,by omega,by go_num,rfl,(by rw[HSS.out,mn,eE X 3 _ G3.out]),dW hb hbW2⟩
    case measure=>simp[intOf]
  · clear hsz
    have hix:∀W,(Instr.index 319 (.agg #[.int .i64 a,.int .i64 e,.int .i64 c,.int .i64 o.size,.int .i64 n.size]) (.int .i64 4)).run Tryz.prog W=.ok (.int .i64 n.size) W:=fun W=>by kernel_rfl
    go_wp2_with (go_at_call 216;refine(HLN.out _).mono ?_;rintro e W2 ⟨rfl,hbW2⟩)
    go_roundw
    case rel=>exact⟨4+1,_,by omega,by go_num,rfl,(by rw[HSS.out,mn,eE X 4 _ G4.out]),dW hb hbW2⟩
    case measure=>simp[intOf]
  · have hfin:S ++ o ++ n=bs (dG X):=by rw[HSS.out];exact HF.out
    have HFIN:=Lib.hid hfin;obtain⟨hcR,hfR⟩:=bH hb;have hso:(S ++ o).size=S.size+o.size:=ByteArray.size_append;clear hfin hsz
    go_wp2
    go_ret
    exact⟨xt HFIN.out,du⟩
open Go.RowKit Go.Sort
theorem ru (p:ByteArray) (A:Option Addr) (c:Nat) (l:List Op) (w:World) (d:p.size≤maxLen) (b:l.length≤1000) (a:xp l) (hr:Rd w w.heap.size A (opsV l)) :
 bu 149 #[.string p,.slice A l.length c] w (.tuple #[.string (eZ p l).1,ae (eZ p l).2.1,ae (eZ p l).2.2]):=by
 by_cases h:p.size=512∧l.length≤64
 · exact sr p A c l w h.1 h.2 a hr
 · exact qm p A c l w d b h
def jM (p:ByteArray) (x:Op):ByteArray × Int:=if cI p≠0 then (⟨#[]⟩,cI p) else bz p x
theorem tx {p:ByteArray} {x:Op} (h:(bz p x).2≠0):(bz p x).1=⟨#[]⟩:=by
 unfold bz at *;by_cases a:gy x≠0
 · rw[if_pos a]
 · rw[if_neg a] at h ⊢
   cases hf:cR p x
   · rfl
   · rw[hf] at h;exact absurd rfl h
theorem Ae (p:ByteArray) (x:Op):(eZ p [x]).1=(jM p x).1∧(eZ p [x]).2.2=(jM p x).2∧((jM p x).2≠0→(eZ p [x]).2.1=0∧(jM p x).1=⟨#[]⟩):=by
 unfold eZ jM;by_cases b:cI p≠0
 · rw[if_pos b,if_pos b];exact⟨rfl,rfl,fun _=>⟨rfl,rfl⟩⟩
 · rw[if_neg b,if_neg b,if_neg bw,je]
   by_cases a:(bz p x).2≠0
   · rw[if_pos a];exact⟨(tx a).symm,rfl,fun _=>⟨rfl,tx a⟩⟩
   · rw[if_neg a]
     refine⟨rfl,(Classical.not_not.1 a).symm,fun h=>absurd h a⟩
theorem pa (p:ByteArray) (x:Op) (w:World) (hp:p.size≤maxLen) (ho:x.o.size≤3100) (hn:x.n.size≤3100) :
 Calls Tryz.prog 96 #[.string p,fj x] w fun r w'=>r=.returned (.tuple #[.string (jM p x).1,.int .i64 (jM p x).2])∧Below w.heap.size w w':=by
 have hC:∀W (g:Nat),Box W g #[.int .i64 x.k,.int .i64 x.a,.int .i64 x.e,.int .i64 x.c,.string x.o,.string x.n] 141→Calls Tryz.prog 149 #[.string p,.slice (some ⟨g,0,none⟩) 1 1] W fun e w'=>e=.returned (.tuple #[.string (eZ p [x]).1,.int .i64 (eZ p [x]).2.1,.int .i64 (eZ p [x]).2.2])∧Below W.heap.size W w':=fun W g hb=>
  ru p (some ⟨g,0,none⟩) 1 [x] W hp bw (fun j hj=>by
   have:j=0:=by simp at hj;exact hj
   subst this;exact⟨ho,hn⟩) (fun j u hj=>⟨g,0,rfl,hb.lt,by rw[Nat.zero_add,hb.cells j];simpa [opsV,AT] using hj⟩)
 obtain⟨h1,h2,h3⟩:=Ae p x;rw[h1,h2] at hC;obtain⟨s,hs⟩:∃s,s=(jM p x).1:=⟨_,rfl⟩;obtain⟨er,her⟩:∃e,e=(jM p x).2:=⟨_,rfl⟩;obtain⟨i,hi⟩:∃i,i=(eZ p [x]).2.1:=⟨_,rfl⟩;rw[←hs,←her,←hi] at hC;rw[←hs,←her,←hi] at h3;rw[←hs,←her];have HC:=Lib.hid hC;clear hC h1 h2 hs her hi;by_cases h0:er=0
 · have h0':(er != 0)=false:=by simp[h0]
   clear h3 h0;unfold fj
   go_enter Tryz.func96,Tryz.ntmps96
   go_wp2_with (first | (go_at_call 149;(with_reducible refine(HC.out _ _ (by simpa using Box.new (w.alloc (.cells #[.int .i64 x.k,.int .i64 x.a,.int .i64 x.e,.int .i64 x.c,.string x.o,.string x.n] 141)) #[.int .i64 x.k,.int .i64 x.a,.int .i64 x.e,.int .i64 x.c,.string x.o,.string x.n] 141)).mono ?_);rintro e W1 ⟨rfl,hbW1⟩))
   go_ret2
   exact⟨rfl,du⟩
 · obtain⟨g1,g2⟩:=h3 h0
   have h0':(er != 0)=true:=by simp[h0]
   have h1':((i:Int)==0)=true:=by rw[g1];rfl
   have G2:=Lib.hid g2;clear h3 h0 g1 g2;unfold fj
   go_enter Tryz.func96,Tryz.ntmps96
   go_wp2_with (first | (go_at_call 149;(with_reducible refine(HC.out _ _ (by simpa using Box.new (w.alloc (.cells #[.int .i64 x.k,.int .i64 x.a,.int .i64 x.e,.int .i64 x.c,.string x.o,.string x.n] 141)) #[.int .i64 x.k,.int .i64 x.a,.int .i64 x.e,.int .i64 x.c,.string x.o,.string x.n] 141)).mono ?_);rintro e W1 ⟨rfl,hbW1⟩))
   go_ret2
   exact⟨yG G2.out.symm rfl,du⟩
open Go.RowKit Go.Sort
def jT (e:Lge):List UInt8:=lit e.k 1 ++ lit (if e.f then 1 else 0) 1 ++ lit e.t 2 ++ lit e.p 4 ++ lit e.x 4 ++ lit e.g 2 ++ lit (e.d.size:Int) 2 ++ bl e.d ++ dG e.o
def aQ (e:Lge):ByteArray:=if cA e=0 then bs (jT e) else ⟨#[]⟩
theorem oy {e:Lge} (h:cA e=0):(0≤e.k∧e.k≤5)∧jn e=true∧jb e=true∧e.d.size≤1000∧fX e.o:=by
 have a:=(aN _).1 h;have b:=(aH au).1 (a (bQ (bB e.k 0 5) 15) bw);have g:=(aH au).1 (a (bQ (jn e) 2) bw);have j:=(aH au).1 (a (bQ (jb e) 3) bw);have c:=(aH au).1 (a (bQ (decide ((e.d.size:Int)≤1000)) 8) bw);have f:=a (gy e.o) bw;exact⟨inB_true.1 b,g,j,by have:=of_decide_eq_true c;omega,(gv _).1 f⟩
theorem oS {e:Lge} (h:jn e=true):(0≤e.t∧e.t≤9999)∧(0≤e.p∧e.p≤2147483647)∧(0≤e.x∧e.x≤2147483647)∧(0≤e.g∧e.g≤600):=by
 unfold jn at h;simp only[Bool.and_eq_true] at h;obtain⟨⟨⟨a,c⟩,h3⟩,b⟩:=h;exact⟨inB_true.1 a,inB_true.1 c,inB_true.1 h3,inB_true.1 b⟩
theorem uM (k t p x g:Int) (f:Bool) (o:Op) (d:ByteArray) (w:World) (ho:o.o.size≤3100) (hn:o.n.size≤3100) (hd:d.size≤maxLen) :
 Calls Tryz.prog 183 #[.agg #[.int .i64 k,.int .i64 t,.int .i64 p,.int .i64 x,.int .i64 g,.bool f,.int .i64 o.k,.int .i64 o.a,.int .i64 o.e,.int .i64 o.c,.string o.o,.string o.n,.string d]] w fun r w'=>r=.returned (.tuple #[.string (aQ ⟨k,t,p,x,g,f,o,d⟩),.int .i64 (cA ⟨k,t,p,x,g,f,o,d⟩)])∧Below w.heap.size w w':=by
 have hC:=fun W=>nB k t p x g f o d W ho hn hd;by_cases h0:cA ⟨k,t,p,x,g,f,o,d⟩=0
 · obtain⟨⟨k1,k2⟩,hr,_,hd1,hok⟩:=oy h0
   obtain⟨⟨t1,t2⟩,⟨p1,p2⟩,⟨x1,x2⟩,g1,g2⟩:=oS hr
   dsimp only at k1 k2 t1 t2 p1 p2 x1 x2 g1 g2 hd1 hok
   have hv:aQ ⟨k,t,p,x,g,f,o,d⟩=bs (jT ⟨k,t,p,x,g,f,o,d⟩):=by unfold aQ;rw[if_pos h0]
   rw[h0] at hC;rw[h0,hv];have HC:=Lib.hid hC;have HB:=Lib.hid (fun W=>w7 o W (ry hok));have HLk:=Lib.hid (fun W=>bh k 1 k1 ab ab W);have HLt:=Lib.hid (fun W=>bh t 2 t1 ab ab W);have HLp:=Lib.hid (fun W=>bh p 4 p1 ab ab W);have HLx:=Lib.hid (fun W=>bh x 4 x1 ab ab W);have HLg:=Lib.hid (fun W=>bh g 2 g1 ab ab W);have HLd:=Lib.hid (fun W=>bh (d.size:Int) 2 ab ab ab W);have HL0:=Lib.hid (fun W=>bh 0 1 ab ab ab W);have HL1:=Lib.hid (fun W=>bh 1 1 ab ab ab W)
   have s1:∀n,(bs (lit n 1)).size=1:=fun n=>by rw[cm,cu]
   have s2:∀n,(bs (lit n 2)).size=2:=fun n=>by rw[cm,cu]
   have s4:∀n,(bs (lit n 4)).size=4:=fun n=>by rw[cm,cu]
   have hob:(bs (dG o)).size≤3000:=by
    have hp:=ry hok
    have e:(bs (dG o)).size=11+o.o.size+o.n.size:=by
     rw[cm];unfold dG;rw[List.length_append,List.length_append,gx _ 5 ab,aO,aO]
    have hq:fX o:=hok;unfold fX at hq;omega
   clear h0 hC hr hok hv ho hn;unfold maxLen at hd;unfold fj at HB
   cases f
   all_goals
    go_enter Tryz.func183,Tryz.ntmps183
    go_wp2_with ((go_at_call 154;(with_reducible refine(HC.out _).mono ?_);rintro e W1 ⟨rfl,hbW1⟩;obtain⟨hcW1,hfW1⟩:=bH hbW1);have hsW1:w.heap.size<W1.heap.size:=(by have h:=hbW1.size;(try simp at h);omega))
    (refine wp_region_quiet_below aa aa ?_;(repeat (go_big_quiet_step ((first | (go_at_call 216;(with_reducible exact Calls.regrown_of (HLk.out _))) | (go_at_call 216;(with_reducible exact Calls.regrown_of (HLt.out _))) | (go_at_call 216;(with_reducible exact Calls.regrown_of (HLp.out _))) | (go_at_call 216;(with_reducible exact Calls.regrown_of (HLx.out _))) | (go_at_call 216;(with_reducible exact Calls.regrown_of (HLg.out _))) | (go_at_call 216;(with_reducible exact Calls.regrown_of (HLd.out _))) | (go_at_call 216;(with_reducible exact Calls.regrown_of (HL0.out _))) | (go_at_call 216;(with_reducible exact Calls.regrown_of (HL1.out _)))))));(with_reducible refine wpQuiet_nil ?_);intro W2 hreg;have hbW2:=a7 hreg;clear hreg;obtain⟨hcW2,hfW2⟩:=bH hbW2)
    have hsW2:w.heap.size<W2.heap.size:=by have h:=hbW2.size;(try simp at h);omega
    go_wp2_with fail
    (refine wp_region_quiet_below aa aa ?_;(repeat (go_big_quiet_step ((first | (go_at_call 229;(with_reducible exact Calls.regrown_of (HB.out _)))))));(with_reducible refine wpQuiet_nil ?_);intro W3 hreg;have hbW3:=a7 hreg;clear hreg;obtain⟨hcW3,hfW3⟩:=bH hbW3)
    go_wp2_with fail
    go_ret2
    exact⟨yG (by apply gb;simp only[db,qu];rfl) rfl,du⟩
 · have hv:aQ ⟨k,t,p,x,g,f,o,d⟩=⟨#[]⟩:=by unfold aQ;rw[if_neg h0]
   rw[hv];obtain⟨er,her⟩:∃e,e=cA ⟨k,t,p,x,g,f,o,d⟩:=⟨_,rfl⟩;rw[←her] at hC h0 ⊢
   have hz:(er != 0)=true:=by simp[h0]
   have HC:=Lib.hid hC;clear hC h0 hv her
   go_enter Tryz.func183,Tryz.ntmps183
   go_wp2_with ((go_at_call 154;(with_reducible refine(HC.out _).mono ?_);rintro e W1 ⟨rfl,hbW1⟩;obtain⟨hcW1,hfW1⟩:=bH hbW1))
   go_ret2
   exact⟨rfl,du⟩
theorem qZ (e:Lge) (w:World) (c:e.o.o.size≤3100) (b:e.o.n.size≤3100) (a:e.d.size≤maxLen) :
 bu 183 #[cy e] w (.tuple #[.string (aQ e),ae (cA e)]):=
 uM e.k e.t e.p e.x e.g e.f e.o e.d w c b a
theorem uV (o:Op) (w:World) (hok:OpPos o) :
 Calls Tryz.prog 190 #[fj o] w fun r w'=>r=.returned (.string (bs (dG o)))∧Below w.heap.size w w':=by
 obtain⟨⟨k1,k2⟩,⟨a1,a2⟩,⟨e1,e2⟩,⟨c1,c2⟩,ho,hn⟩:=hok;have HLk:=Lib.hid (fun W=>cv o.k 1 k1 ab ab W);have HLa:=Lib.hid (fun W=>cv o.a 2 a1 ab ab W);have HLe:=Lib.hid (fun W=>cv o.e 2 e1 ab ab W);have HLc:=Lib.hid (fun W=>cv o.c 2 c1 ab ab W);have HLo:=Lib.hid (fun W=>cv (o.o.size:Int) 2 ab ab ab W);have HLn:=Lib.hid (fun W=>cv (o.n.size:Int) 2 ab ab ab W)
 have s1:∀n,(bs (lit n 1)).size=1:=fun n=>by rw[cm,cu]
 have s2:∀n,(bs (lit n 2)).size=2:=fun n=>by rw[cm,cu]
 unfold fj
 go_enter Tryz.func190,Tryz.ntmps190
 go_wp2_with fail
 (refine wp_region_quiet_below aa aa ?_;(repeat (go_big_quiet_step ((first | (go_at_call 75;(with_reducible exact Calls.regrown_of (HLk.out _))) | (go_at_call 75;(with_reducible exact Calls.regrown_of (HLa.out _))) | (go_at_call 75;(with_reducible exact Calls.regrown_of (HLe.out _))) | (go_at_call 75;(with_reducible exact Calls.regrown_of (HLc.out _))) | (go_at_call 75;(with_reducible exact Calls.regrown_of (HLo.out _))) | (go_at_call 75;(with_reducible exact Calls.regrown_of (HLn.out _)))))));(with_reducible refine wpQuiet_nil ?_);intro W1 hreg;have hbW1:=a7 hreg;clear hreg;obtain⟨hcW1,hfW1⟩:=bH hbW1)
 go_wp2_with fail
 go_ret
 exact⟨xt (by apply gb;simp[dG,dD,kg,db,qu,List.append_assoc]),du⟩
theorem pJ (k t p x g:Int) (f:Bool) (o:Op) (d:ByteArray) (w:World) (h0:cA ⟨k,t,p,x,g,f,o,d⟩=0) :
 Calls Tryz.prog 120 #[.agg #[.int .i64 k,.int .i64 t,.int .i64 p,.int .i64 x,.int .i64 g,.bool f,.int .i64 o.k,.int .i64 o.a,.int .i64 o.e,.int .i64 o.c,.string o.o,.string o.n,.string d]] w fun r w'=>r=.returned (.string (bs (jT ⟨k,t,p,x,g,f,o,d⟩)))∧Below w.heap.size w w':=by
 obtain⟨⟨k1,k2⟩,hr,_,hd1,hok⟩:=oy h0;obtain⟨⟨t1,t2⟩,⟨p1,p2⟩,⟨x1,x2⟩,g1,g2⟩:=oS hr
 dsimp only at k1 k2 t1 t2 p1 p2 x1 x2 g1 g2 hd1 hok
 have HB:=Lib.hid (fun W=>uV o W (ry hok));have HF:=Lib.hid (fun W=>nj f W);have HLk:=Lib.hid (fun W=>cv k 1 k1 ab ab W);have HLt:=Lib.hid (fun W=>cv t 2 t1 ab ab W);have HLp:=Lib.hid (fun W=>cv p 4 p1 ab ab W);have HLx:=Lib.hid (fun W=>cv x 4 x1 ab ab W);have HLg:=Lib.hid (fun W=>cv g 2 g1 ab ab W);have HLd:=Lib.hid (fun W=>cv (d.size:Int) 2 ab ab ab W);have HL0:=Lib.hid (fun W=>cv 0 1 ab ab ab W);have HL1:=Lib.hid (fun W=>cv 1 1 ab ab ab W)
 have s1:∀n,(bs (lit n 1)).size=1:=fun n=>by rw[cm,cu]
 have s2:∀n,(bs (lit n 2)).size=2:=fun n=>by rw[cm,cu]
 have s4:∀n,(bs (lit n 4)).size=4:=fun n=>by rw[cm,cu]
 have hob:(bs (dG o)).size≤3000:=by
  have e:(bs (dG o)).size=11+o.o.size+o.n.size:=by
   rw[cm];unfold dG;rw[List.length_append,List.length_append,gx _ 5 ab,aO,aO]
  have hq:fX o:=hok;unfold fX at hq;omega
 clear h0 hr hok;unfold fj at HB
 cases f
 all_goals
  (try simp only[Bool.false_eq_true,if_false,if_true] at HF)
  go_enter Tryz.func120,Tryz.ntmps120
  go_wp2_with fail
  (refine wp_region_quiet_below aa aa ?_;(repeat (go_big_quiet_step ((first | (go_at_call 75;(with_reducible exact Calls.regrown_of (HLk.out _))) | (go_at_call 75;(with_reducible exact Calls.regrown_of (HLt.out _))) | (go_at_call 75;(with_reducible exact Calls.regrown_of (HLp.out _))) | (go_at_call 75;(with_reducible exact Calls.regrown_of (HLx.out _))) | (go_at_call 75;(with_reducible exact Calls.regrown_of (HLg.out _))) | (go_at_call 75;(with_reducible exact Calls.regrown_of (HLd.out _))) | (go_at_call 75;(with_reducible exact Calls.regrown_of (HL0.out _))) | (go_at_call 75;(with_reducible exact Calls.regrown_of (HL1.out _))) | (go_at_call 76;(with_reducible exact Calls.reg_pure (HF.out _))) | (go_at_call 190;(with_reducible exact Calls.regrown_of (HB.out _)))))));(with_reducible refine wpQuiet_nil ?_);intro W2 hreg;have hbW2:=a7 hreg;clear hreg;obtain⟨hcW2,hfW2⟩:=bH hbW2)
  go_wp2_with fail
  go_ret
  exact⟨xt (by apply gb;simp only[db,qu];rfl),du⟩
theorem nG (e:Lge) (w:World) (a:cA e=0) :
 bu 120 #[cy e] w (.string (bs (jT e))):=
 pJ e.k e.t e.p e.x e.g e.f e.o e.d w a
end Go.Proofs.YtcfdpfmchchkaaaGreatDoor
