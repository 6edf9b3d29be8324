/-
  Chapter 22: the reference's way to check a history is the program's. No program in sight.
  Chapter 21: inverses.
-/
import Derived.Test.YtcfdpfmchchkaaaGreatDoorRcA
namespace Go.Proofs.YtcfdpfmchchkaaaGreatDoor
set_option maxHeartbeats 1000000
set_option maxRecDepth 4000
set_option linter.unusedVariables false
set_option linter.unusedSimpArgs false
open Go.RowKit
def VldH (l:List Rcd) (i:Nat):Prop:=i≤l.length∧∀k (hk:k<l.length),k<i→dk l k (bE l k) l[k]=0
section
variable {l:List Rcd} {i:Nat}
theorem VldH.mono (h:VldH l i) {j:Nat} (hj:j≤i):VldH l j:=⟨Nat.le_trans hj h.1,fun k hk h1=>h.2 k hk ab⟩
theorem VldH.e0 (h:VldH l i) {k:Nat} (hk:k<i):1≤(l[k]'(by have:=h.1;omega)).l∧(l[k]'(by have:=h.1;omega)).l≤2147483647∧dF (l[k]'(by have:=h.1;omega)).e=0:=by
 have hl:=h.1;have h1:=(iX (h.2 k ab hk)).1;unfold dI at h1;rw[aQ] at h1;have h2:=inB_true.1 ((aL aq).1 (h1 _ (.head _)));exact⟨h2.1,h2.2,h1 _ (.tail _ (.tail _ (.head _)))⟩
theorem VldH.step (h:VldH l i) {k:Nat} (hk:k+1<i):(l[k]'(by have:=h.1;omega)).l<(l[k+1]'(by have:=h.1;omega)).l:=by
 have hl:=h.1;have Y:=(iX (h.2 (k+1) ab hk)).1;unfold dI at Y;rw[aQ] at Y;have Y:=(aL aq).1 (Y _ (.tail _ (.head _)));rw[dT _ _ ab] at Y;exact of_decide_eq_true Y
theorem VldH.asc (h:VldH l i):∀(d j:Nat) (hj:j+d+1<i),(l[j]'(by have:=h.1;omega)).l<(l[j+d+1]'(by have:=h.1;omega)).l
 | 0,j,hj=>h.step hj
 | d+1,j,hj=>Int.lt_trans (h.asc d j ab) (h.step (k:=j+d+1) ab)
theorem VldH.lt (h:VldH l i) {j k:Nat} (hj:j<k) (hk:k<i):(l[j]'(by have:=h.1;omega)).l<(l[k]'(by have:=h.1;omega)).l:=by
 obtain⟨d,rfl⟩:∃d,k=j+d+1:=⟨k-j-1,by omega⟩;exact h.asc d j hk
theorem VldH.inj (h:VldH l i) {j k:Nat} (hj:j<i) (hk:k<i) (e:(l[j]'(by have:=h.1;omega)).l=(l[k]'(by have:=h.1;omega)).l):j=k:=by
 rcases Nat.lt_trichotomy j k with h1 | h1 | h1
 · have:=h.lt h1 hk;omega
 · exact h1
 · have:=h.lt h1 hj;omega
theorem fm {l:List Rcd} (h:0<l.length):cX l=l[0].l:=by
 match l,h with
 | x::r,_=>rfl
theorem VldH.fst (h:VldH l i) {k:Nat} (hk:k<i):cX l≤(l[k]'(by have:=h.1;omega)).l:=by
 have hl:=h.1;rw[fm ab];rcases Nat.eq_zero_or_pos k with h0 | h0
 · subst h0;exact Int.le_refl _
 · exact Int.le_of_lt (h.lt h0 hk)
theorem j6 {l:List Rcd} {i:Nat} {n:Int} {u:Rcd} (h:dX (l.take i) n=some u):∃k,∃hk:k<l.length,k<i∧l[k]=u∧u.l=n:=by
 unfold dX at h;have h1:=List.mem_of_find?_eq_some h;have h2:=List.find?_some h;obtain⟨k,hk,rfl⟩:=List.getElem_of_mem h1;rw[List.length_take] at hk;exact⟨k,by omega,by omega,by rw[List.getElem_take],by simpa using h2⟩
theorem VldH.fnd (h:VldH l i) {k:Nat} (hk:k<i):dX (l.take i) (l[k]'(by have:=h.1;omega)).l=some (l[k]'(by have:=h.1;omega)):=by
 have hl:=h.1
 cases hf:dX (l.take i) l[k].l with
 | none=>
  unfold dX at hf;rw[List.find?_eq_none] at hf;have:=hf l[k] (List.mem_iff_getElem.2 ⟨k,by rw[List.length_take];omega,List.getElem_take⟩);simp at this
 | some u=>
  obtain⟨j,hj,hji,rfl,he⟩:=j6 hf;obtain rfl:=h.inj hji hk he
  rfl
theorem Al (h:VldH l i):∀(k:Nat) (hk:k<i),(l[k]'(by have:=h.1;omega)).e.k≠5→∀u,dX (l.take i) (gN l k)=some u→u.e.t=(l[k]'(by have:=h.1;omega)).e.t:=by
 intro k
 induction k using Nat.strongRecOn with
 | ind k ih=>
  intro hk h5 u hu;have hl:=h.1
  have hkl:k<l.length:=by omega
  obtain⟨n,hn,hni,hnu,hul⟩:=j6 hu;have hv:∀m (hm:m<l.length),m<k→dk l m (bE l m) l[m]=0:=fun m hm hmk=>h.2 m hm ab;have hc:=jX k ab hv l[k].e.t;obtain⟨_,_,hr⟩:=iX (h.2 k hkl hk);obtain⟨h1,h2,h3,h4⟩:=hr h5;have hun:=(h.e0 hni).1;rw[hnu] at hun;have huf:=h.fst hni;rw[hnu] at huf
  have own:∀k',bj l l[k].e.t k=some k'→∀u,dX (l.take i) (gN l k')=some u→u.e.t=l[k].e.t:=fun k' hb u hu=>by
   obtain⟨hk',x,hx,hx5,hxt⟩:=eO hb
   have hxe:l[k']=x:=by rw[List.getElem?_eq_getElem ab] at hx;exact Option.some.inj hx
   have:=ih k' hk' ab (by rw[hxe];exact hx5) u hu;rw[this,hxe,hxt]
  rw[mV hkl] at hul;by_cases k0:l[k].e.k=0
  · rw[if_pos k0] at hul
    have:n=k:=h.inj hni hk (by rw[hnu];exact hul);subst this;rw[hnu]
  rw[if_neg k0] at hul;by_cases k1:l[k].e.k=1
  · rw[if_pos k1] at hul
    have hU:=h4 k1;unfold jl at hU
    split at hU
    · cases hU
    rename_i hcu
    split at hU
    · rename_i hnone
      have:=of_decide_eq_true ((aL aq).1 hU);omega
    · rename_i w hw
      have hU:=(aL aq).1 hU;simp only[Bool.and_eq_true,beq_iff_eq,decide_eq_true_eq] at hU;obtain⟨⟨⟨⟨w0,wp⟩,_⟩,_⟩,_⟩:=hU;obtain⟨m,hm,hmk,rfl,hwl⟩:=j6 hw
      have hwt:l[m].e.t=l[k].e.t:=by
       unfold gu at hwl h2
       cases hb:bj l l[k].e.t k with
       | none=>
        rw[hb] at hc;rw[hc] at hwl h2;simp only[Option.map_none] at hwl h2;rw[(gR h2).2] at hwl;have:=(h.e0 (k:=m) ab).1;simp only at hwl
        split at hwl<;>omega
       | some k'=>
        rw[hb] at hc;rw[hc] at hwl h2;simp only[Option.map_some] at hwl h2;by_cases e4:(jT l k').k=4
        · rw[if_pos e4] at hwl h2
          rw[(gR h2).2] at hwl;have:=(h.e0 (k:=m) ab).1;simp only at hwl
          split at hwl<;>omega
        · rw[if_neg e4] at hwl
          have e:l[m].l=gN l k':=hwl;have:=own k' hb l[m] (by rw[←e];exact h.fnd ab);exact this
      rcases zU hm (fun q hq hqm=>h.2 q hq ab) (by rw[w0];decide) with ⟨p1,_⟩ | ⟨k',hb,_,hp⟩
      · omega
      · obtain⟨hk',x,hx,hx5,hxt⟩:=eO hb
        have hxe:l[k']=x:=by rw[List.getElem?_eq_getElem ab] at hx;exact Option.some.inj hx
        rw[mQ ab] at hp;have:n=k':=h.inj hni ab (by rw[hnu];omega);subst this;rw[←hnu,hxe,hxt,hwt]
  rw[if_neg k1] at hul
  cases hb:bj l l[k].e.t k with
  | none=>
   rw[hb] at hul;simp only at hul
   split at hul<;>omega
  | some k'=>
   rw[hb] at hul;simp only at hul
   split at hul
   · refine own k' hb u ?_
     rw[←hul];have:=h.fnd hni;rw[hnu] at this;exact this
   · split at hul<;>omega
end
def kp (l:List Rcd) (b:Option Nat) (p:Int):Bool:=match b with
 | none=>decide (cX l≤p)&&p != 0
 | some k=>if dD l k=4 then p != 0 else p != je l k
def cm (l:List Rcd) (b:Option Nat):Int:=match b with
 | none=>0
 | some k=>if dD l k=4 then 0 else dD l k
def jY (l:List Rcd) (b:Option Nat) (p:Int):Int:=match b with
 | none=>if p=0 then 0 else -1
 | some k=>if dD l k=4 then (if p=0 then 0 else -1) else gN l k
def kM (l:List Rcd) (i:Nat) (n:Int) (x:Lge):Int:=if n=0 then 13 else match dX (l.take i) n with
 | none=>if cX l≤x.x then 13 else 0
 | some u=>if u.e.k=0∧u.e.t=x.t∧x.x=u.e.p∧x.g=u.e.g∧x.f=u.e.f∧x.o=fR u.e.o then 0 else 13
def yJ (l:List Rcd) (i:Nat) (x:Lge):Int:=
 if kp l (bj l x.t i) x.p=true then 14
 else if cm l (bj l x.t i)=2∧x.k≠4 then 20
 else if (cm l (bj l x.t i)=3∨cm l (bj l x.t i)=1)∧x.k≠1∧x.k≠4 then 20
 else if x.k≠1 then 0
 else kM l i (jY l (bj l x.t i) x.p) x
def w4 (l:List Rcd) (i:Nat) (x:Lge):Int:=if x.k=5 then Ce x else if x.t=0 then 2 else yJ l i x
theorem tA {x:Lge} (h:dF x=0):0≤x.k∧x.k≤5:=by
 unfold dF at h;rw[aQ] at h;exact inB_true.1 ((aL aq).1 (h _ (.head _)))
theorem tK {x:Lge} (h:dF x=0):(0≤x.t∧x.t≤9999)∧(0≤x.p∧x.p≤2147483647)∧(0≤x.x∧x.x≤2147483647)∧(0≤x.g∧x.g≤600):=by
 unfold dF at h;rw[aQ] at h;have:=(aL aq).1 (h _ (.tail _ (.head _)));unfold qn at this;rw[Bool.and_eq_true,Bool.and_eq_true,Bool.and_eq_true,inB_true,inB_true,inB_true,inB_true] at this;exact⟨this.1.1.1,this.1.1.2,this.1.2,this.2⟩
theorem xL {k c:Int} (hk:0≤k∧k≤3) (hc:0≤c∧c≤4):nU k c=true↔¬((k=2∧c≠4)∨((k=3∨k=1)∧c≠1∧c≠4)):=by
 rcases (show k=0∨k=1∨k=2∨k=3 by omega) with rfl | rfl | rfl | rfl<;>rcases (show c=0∨c=1∨c=2∨c=3∨c=4 by omega) with rfl | rfl | rfl | rfl | rfl<;>decide
theorem yL {l:List Rcd} {i:Nat} (h:VldH l i) (c:Chn) (x:Lge) (ho:∀u,dX (l.take i) c.u=some u→u.e.t=x.t):jl l i c x=kM l i c.u x:=by
 unfold jl kM
 split
 · rfl
 · cases hf:dX (l.take i) c.u with
   | none=>
    simp only;unfold bn;by_cases hx:x.x<cX l
    · rw[decide_eq_true hx,if_pos rfl,if_neg ab]
    · rw[decide_eq_false hx,if_neg aq,if_pos ab]
   | some u=>
    simp only;have:=ho u hf;unfold bn;by_cases hb:(u.e.k==0&&x.x==u.e.p&&x.g==u.e.g&&x.f==u.e.f&&decide (x.o=fR u.e.o))=true
    · rw[hb]
      simp only[Bool.and_eq_true,beq_iff_eq,decide_eq_true_eq] at hb;obtain⟨⟨⟨⟨b1,b2⟩,b3⟩,b4⟩,b5⟩:=hb;rw[if_pos rfl,if_pos ⟨b1,this,b2,b3,b4,b5⟩]
    · rw[if_neg hb,if_neg]
      rintro ⟨b1,b2,b3,b4,b5,b6⟩
      apply hb;simp only[Bool.and_eq_true,beq_iff_eq,decide_eq_true_eq];exact⟨⟨⟨⟨b1,b3⟩,b4⟩,b5⟩,b6⟩
theorem AV {l:List Rcd} {i:Nat} (hi:i<l.length) (h:VldH l i) (h0:dI l i l[i]=0):dk l i (bE l i) l[i]=w4 l i l[i].e:=by
 unfold dk w4;rw[if_neg (by rw[Classical.not_not];exact h0)];by_cases h5:l[i].e.k=5
 · rw[if_pos h5,if_pos h5]
 rw[if_neg h5,if_neg h5];by_cases ht:l[i].e.t=0
 · rw[if_pos ht,if_pos ht]
 rw[if_neg ht,if_neg ht]
 have he:1≤l[i].l∧dF l[i].e=0:=by
  unfold dI at h0;rw[aQ] at h0;have h2:=inB_true.1 ((aL aq).1 (h0 _ (.head _)));exact⟨h2.1,h0 _ (.tail _ (.tail _ (.head _)))⟩
 have hk:=tA he.2;have hp:=(tK he.2).2.1
 have hf:1≤cX l:=by
  rcases Nat.eq_zero_or_pos i with hi0 | hi0
  · subst hi0;rw[fm hi];exact he.1
  · have:=(h.e0 hi0).1
    rw[fm ab];exact this
 have hc:=jX i h.1 h.2 l[i].e.t;obtain⟨x,hx⟩:∃x,x=l[i].e:=⟨_,rfl⟩;rw[←hx] at hc h5 ht hk hp ⊢;clear hx he
 have nof:∀n:Int,n≤0→dX (l.take i) n=none:=fun n hn=>by
  cases hq:dX (l.take i) n with
  | none=>rfl
  | some u=>
   obtain⟨k,hk',hki,rfl,hul⟩:=j6 hq;have:=(h.e0 hki).1;omega
 have beg:∀b:Bool,(b=true→True)→∀g:Bool,g=(if b then x.p != 0 else decide (cX l≤x.p)&&x.p != 0) →
  lK l i (fY (cX l) x b) x=if g=true then 14 else if x.k≠1 then 0 else kM l i (if x.p=0 then 0 else -1) x:=fun b _ g hg=>by
  unfold lK fY;by_cases hpm:x.p>(if b then 0 else cX l-1)
  · rw[if_pos hpm]
    have:g=true:=by
     rw[hg]
     cases b
     · simp at hpm ⊢;omega
     · simp at hpm ⊢;omega
    rw[this,if_pos rfl];simp[ar]
  · rw[if_neg hpm]
    have:g=false:=by
     rw[hg]
     cases b
     · simp at hpm ⊢;omega
     · simp at hpm ⊢;omega
    rw[this,if_neg (show ¬(false=true) by decide)];by_cases hp0:x.p=0
    · have e0:(if x.p≠0 then (-1:Int) else 0)=0:=if_neg ab
      have hfol:nU 0 x.k=true:=(xL ⟨by decide,by decide⟩ ⟨hk.1,by omega⟩).2 ab;rw[e0,if_pos hp0];show ar [0,if (0:Int) = -1 then 0 else bn (nU 0 x.k) 20,if x.k=1 then jl l i ⟨x.p,0,0⟩ x else 0]=_;rw[if_neg (show ¬((0:Int) = -1) by decide),hfol];by_cases hk1:x.k=1
      · rw[if_pos hk1,if_neg (show ¬(x.k≠1) by omega)];rfl
      · rw[if_neg hk1,if_pos hk1];rfl
    · have e0:(if x.p≠0 then (-1:Int) else 0) = -1:=if_pos hp0
      rw[e0,if_neg hp0];show ar [0,if (-1:Int) = -1 then 0 else bn (nU (-1) x.k) 20,if x.k=1 then jl l i ⟨x.p,-1,-1⟩ x else 0]=_;rw[if_pos rfl];by_cases hk1:x.k=1
      · rw[if_pos hk1,if_neg (show ¬(x.k≠1) by omega),yL h ⟨x.p,-1,-1⟩ x (fun u hu=>by rw[nof (-1) aq] at hu;cases hu)]
        show(if kM l i (-1) x=0 then 0 else kM l i (-1) x)=_
        split
        · rename_i q;exact q.symm
        · rfl
      · rw[if_neg hk1,if_pos hk1];rfl
 unfold yJ gu
 cases hb:bj l x.t i with
 | none=>
  rw[hb] at hc;rw[hc];simp only[Option.map_none];rw[beg false (fun _=>trivial) (kp l none x.p) rfl];unfold cm jY;simp
 | some k=>
  rw[hb] at hc;rw[hc];simp only[Option.map_some];by_cases h4:dD l k=4
  · have e:(jT l k).k=4:=h4
    rw[if_pos e,beg true (fun _=>trivial) (kp l (some k) x.p) (by unfold kp;simp[h4])];unfold cm jY;simp[h4]
  · have e:¬(jT l k).k=4:=h4
    rw[if_neg e];obtain⟨hki,y,hy,hy5,hyt⟩:=eO hb
    have hkl:k<l.length:=by omega
    have hye:l[k]=y:=by rw[List.getElem?_eq_getElem hkl] at hy;exact Option.some.inj hy
    have hkk:=tA (h.e0 hki).2.2;have hkn:=gi hkl;rw[hye] at hkk hkn;have hfe:=xL (k:=dD l k) (c:=x.k) ab ⟨hk.1,by omega⟩
    have hund:jl l i (jT l k) x=kM l i (gN l k) x:=yL h (jT l k) x fun u hu=>by
     have:=Al h k hki (by rw[hye];exact hy5) u hu;rw[this,hye,hyt]
    unfold lK kp cm jY;simp only[if_neg h4];have e1:(jT l k).l=je l k:=rfl;have e2:(jT l k).k=dD l k:=rfl;rw[e1,e2];by_cases hg:x.p=je l k
    · have g1:(x.p==je l k)=true:=by simpa using hg
      have g2:(x.p != je l k)=false:=by simp[hg]
      rw[g1,g2,if_neg (show ¬dD l k = -1 by omega),if_neg (show ¬(false=true) by decide)];by_cases hs:nU (dD l k) x.k=true
      · have hs2:=hfe.1 hs
        rw[hs,if_neg (fun q=>hs2 (.inl q)),if_neg (fun q=>hs2 (.inr q))];by_cases hk1:x.k=1
        · rw[if_pos hk1,hund,if_neg (show ¬(x.k≠1) by omega)]
          show(if kM l i (gN l k) x=0 then 0 else kM l i (gN l k) x)=_
          split
          · rename_i q;exact q.symm
          · rfl
        · simp[hk1,ar,bn]
      · have hs2:(dD l k=2∧x.k≠4)∨((dD l k=3∨dD l k=1)∧x.k≠1∧x.k≠4):=by
         have:=mt hfe.2 hs;exact Classical.not_not.1 this
        have hs3:nU (dD l k) x.k=false:=by simpa using hs
        rw[hs3];rcases hs2 with q | q
        · rw[if_pos q];simp[ar,bn]
        · rw[if_neg ab,if_pos q];simp[ar,bn]
    · have g1:(x.p==je l k)=false:=by simpa using hg
      have g2:(x.p != je l k)=true:=by simp[hg]
      rw[g1,g2,if_pos rfl];simp[ar,bn]
open Go.RowKit Go.Sort
theorem oI {x:Op} (h:kT x):(0≤x.k∧x.k≤6)∧(0≤x.e∧x.e≤512)∧x.o.size≤3100∧x.n.size≤3100:=by unfold kT at h;omega
theorem tH (x:Op) (w:World) (h:e8 x=0) :
 Calls Tryz.prog 219 #[fC x] w fun r w'=>r=.returned (.tuple #[fC (fR x),.int .i64 0])∧Below w.heap.size w w':=by
 have hok:=(jc x).1 h;obtain⟨hk,he,ho,hn⟩:=oI hok;obtain⟨R,hR⟩:∃R,R=fR x:=⟨_,rfl⟩;rw[←hR];unfold fR at hR;refine al (N:=46) Tryz.func219 rfl rfl rfl (fun _ Y=>?_);have Z:=St.init w;refine ah (ao ?_);refine nb Y rfl rfl Z fun b1 _ _ Zf Y Z=>?_;refine na (.agg #[.int .i64 0,.int .i64 0,.int .i64 0,.int .i64 0,.string ⟨#[]⟩,.string ⟨#[]⟩]) Y rfl Z fun b2 _ _ Zg Y Z=>?_;refine GO 6 ?_;intro _ Y;refine sv (v:=fC x) Y (ai aa aa (Y.ev rfl) (Z.cellsAll (i:=1) rfl)) fun _ Y=>?_;refine cE Y rfl Z (eQ x _ ho hn) fun _ _ Y Z=>?_;refine GO 9 ?_;intro _ Y;refine ak (Y.ev rfl) (fun Ze=>?_) (fun Ze=>?_)
 ·
  exact absurd h (by simpa using Ze)
 ·
  refine GO 16 ?_;intro _ Y;refine ak (Y.ev rfl) (fun Za=>?_) (fun Za=>?_)
  ·
   rw[if_pos (by simpa using Za)] at hR;refine GO 8 ?_;intro _ Y;refine aN Y (wn rfl) ⟨rfl,rfl⟩ (Y.ev rfl) (Y.ev rfl) rfl aa Z (i:=1) rfl rfl rfl fun _ Z=>?_;refine GO 1 ?_;intro _ Y;refine aN Y (wn rfl) ⟨rfl,rfl⟩ (Y.ev rfl) (Y.ev rfl) rfl aa Z (i:=1) rfl rfl rfl fun _ Z=>?_;refine GO 10 ?_;intro _ Y;refine aN Y (wn rfl) ⟨rfl,rfl⟩ (Y.ev rfl) (Y.ev rfl) rfl aa Z (i:=1) rfl rfl rfl fun _ Z=>?_;refine GO 1 ?_;intro _ Y;refine aN Y (wn rfl) ⟨rfl,rfl⟩ (Y.ev rfl) (Y.ev rfl) rfl aa Z (i:=1) rfl rfl rfl fun _ Z=>?_;refine pk ?_;refine sv Y (ai aa aa (Y.ev rfl) (Z.cellsAll (i:=1) rfl)) fun _ Y=>?_;refine sw Y Z 0 fun _ Z=>?_;refine GO 4 ?_;intro _ Y;refine bo Y rfl rfl rfl Z (i:=0) rfl aa aa ?_;exact⟨by rw[hR];rfl,Z.below⟩
  ·
   rw[if_neg (by simpa using Za)] at hR;refine GO 6 ?_;intro _ Y;refine ak (Y.ev rfl) (fun Zb=>?_) (fun Zb=>?_)
   ·
    rw[if_pos (by simpa using Zb)] at hR;refine GO 8 ?_;intro _ Y;refine aN Y (wn rfl) ⟨rfl,rfl⟩ (Y.ev rfl) (Y.ev rfl) rfl aa Z (i:=1) rfl rfl rfl fun _ Z=>?_;refine GO 1 ?_;intro _ Y;refine aN Y (wn rfl) ⟨rfl,rfl⟩ (Y.ev rfl) (Y.ev rfl) rfl aa Z (i:=1) rfl rfl rfl fun _ Z=>?_;refine GO 10 ?_;intro _ Y;refine aN Y (wn rfl) ⟨rfl,rfl⟩ (Y.ev rfl) (Y.ev rfl) rfl aa Z (i:=1) rfl rfl rfl fun _ Z=>?_;refine GO 1 ?_;intro _ Y;refine aN Y (wn rfl) ⟨rfl,rfl⟩ (Y.ev rfl) (Y.ev rfl) rfl aa Z (i:=1) rfl rfl rfl fun _ Z=>?_;refine pk ?_;refine sv Y (ai aa aa (Y.ev rfl) (Z.cellsAll (i:=1) rfl)) fun _ Y=>?_;refine sw Y Z 0 fun _ Z=>?_;refine GO 4 ?_;intro _ Y;refine bo Y rfl rfl rfl Z (i:=0) rfl aa aa ?_;exact⟨by rw[hR];rfl,Z.below⟩
   ·
    rw[if_neg (by simpa using Zb)] at hR;refine GO 6 ?_;intro _ Y;refine ak (Y.ev rfl) (fun Zc=>?_) (fun Zc=>?_)
    ·
     rw[if_pos (by simpa using Zc)] at hR;refine GO 2 ?_;intro _ Y;refine aN Y (wn rfl) ⟨rfl,rfl⟩ (Y.ev rfl) (Y.ev rfl) rfl aa Z (i:=1) rfl rfl rfl fun _ Z=>?_;refine GO 10 ?_;intro _ Y;refine aN Y (wn rfl) ⟨rfl,rfl⟩ (Y.ev rfl) (Y.ev rfl) rfl aa Z (i:=1) rfl rfl rfl fun _ Z=>?_;refine GO 1 ?_;intro _ Y;refine aN Y (wn rfl) ⟨rfl,rfl⟩ (Y.ev rfl) (Y.ev rfl) rfl aa Z (i:=1) rfl rfl rfl fun _ Z=>?_;refine pk ?_;refine sv Y (ai aa aa (Y.ev rfl) (Z.cellsAll (i:=1) rfl)) fun _ Y=>?_;refine sw Y Z 0 fun _ Z=>?_;refine GO 4 ?_;intro _ Y;refine bo Y rfl rfl rfl Z (i:=0) rfl aa aa ?_;exact⟨by rw[hR];rfl,Z.below⟩
    ·
     rw[if_neg (by simpa using Zc)] at hR;refine GO 6 ?_;intro _ Y;refine ak (Y.ev rfl) (fun Zd=>?_) (fun Zd=>?_)
     ·
      rw[if_pos (by simpa using Zd)] at hR;refine GO 2 ?_;intro _ Y;refine aN Y (wn rfl) ⟨rfl,rfl⟩ (Y.ev rfl) (Y.ev rfl) rfl aa Z (i:=1) rfl rfl rfl fun _ Z=>?_;refine GO 10 ?_;intro _ Y;refine aN Y (wn rfl) ⟨rfl,rfl⟩ (Y.ev rfl) (Y.ev rfl) rfl aa Z (i:=1) rfl rfl rfl fun _ Z=>?_;refine GO 1 ?_;intro _ Y;refine aN Y (wn rfl) ⟨rfl,rfl⟩ (Y.ev rfl) (Y.ev rfl) rfl aa Z (i:=1) rfl rfl rfl fun _ Z=>?_;refine pk ?_;refine sv Y (ai aa aa (Y.ev rfl) (Z.cellsAll (i:=1) rfl)) fun _ Y=>?_;refine sw Y Z 0 fun _ Z=>?_;refine GO 4 ?_;intro _ Y;refine bo Y rfl rfl rfl Z (i:=0) rfl aa aa ?_;exact⟨by rw[hR];rfl,Z.below⟩
     ·
      rw[if_neg (by simpa using Zd)] at hR;refine GO 10 ?_;intro _ Y;refine aN Y (wn rfl) ⟨rfl,rfl⟩ (Y.ev rfl) (Y.ev rfl) rfl aa Z (i:=1) rfl rfl rfl fun _ Z=>?_;refine GO 1 ?_;intro _ Y;refine aN Y (wn rfl) ⟨rfl,rfl⟩ (Y.ev rfl) (Y.ev rfl) rfl aa Z (i:=1) rfl rfl rfl fun _ Z=>?_;refine pk ?_;refine sv Y (ai aa aa (Y.ev rfl) (Z.cellsAll (i:=1) rfl)) fun _ Y=>?_;refine sw Y Z 0 fun _ Z=>?_;refine GO 4 ?_;intro _ Y;refine bo Y rfl rfl rfl Z (i:=0) rfl aa aa ?_;exact⟨by rw[hR];rfl,Z.below⟩
end Go.Proofs.YtcfdpfmchchkaaaGreatDoor
