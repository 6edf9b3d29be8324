/-
  Chapter 22: the reference's way to check a history is the program's. No program in sight.
  Chapter 21: inverses.
-/
import Derived.Test.YtcfdpfmchchkaaaGreatDoorRcA
namespace Go.Proofs.YtcfdpfmchchkaaaGreatDoor
set_option maxRecDepth 100000
set_option maxHeartbeats 1000000
set_option linter.unusedVariables false
set_option linter.unusedSimpArgs false
open Go.RowKit
def VldH (l:List Rcd) (i:Nat):Prop:=i≤l.length∧∀k (hk:k<l.length),k<i→dB l k (bL l k) l[k]=0
section
variable {l:List Rcd} {i:Nat}
theorem VldH.mono (h:VldH l i) {j:Nat} (hj:j≤i):VldH l j:=⟨Nat.le_trans hj h.1,fun k hk h1=>h.2 k hk ab⟩
theorem VldH.e0 (h:VldH l i) {k:Nat} (hk:k<i):1≤(l[k]'(by have:=h.1;omega)).l∧(l[k]'(by have:=h.1;omega)).l≤2147483647∧dC (l[k]'(by have:=h.1;omega)).e=0:=by
 have hl:=h.1;have h1:=(jh (h.2 k ab hk)).1;unfold dY at h1;rw[aX] at h1;have h2:=inB_true.1 ((aQ aq).1 (h1 _ (.head _)));exact⟨h2.1,h2.2,h1 _ (.tail _ (.tail _ (.head _)))⟩
theorem VldH.step (h:VldH l i) {k:Nat} (hk:k+1<i):(l[k]'(by have:=h.1;omega)).l<(l[k+1]'(by have:=h.1;omega)).l:=by
 have hl:=h.1;have Y:=(jh (h.2 (k+1) ab hk)).1;unfold dY at Y;rw[aX] at Y;have Y:=(aQ aq).1 (Y _ (.tail _ (.head _)));rw[ek _ _ ab] at Y;exact of_decide_eq_true Y
theorem VldH.asc (h:VldH l i):∀(d j:Nat) (hj:j+d+1<i),(l[j]'(by have:=h.1;omega)).l<(l[j+d+1]'(by have:=h.1;omega)).l
 | 0,j,hj=>h.step hj
 | d+1,j,hj=>Int.lt_trans (h.asc d j ab) (h.step (k:=j+d+1) ab)
theorem VldH.lt (h:VldH l i) {j k:Nat} (hj:j<k) (hk:k<i):(l[j]'(by have:=h.1;omega)).l<(l[k]'(by have:=h.1;omega)).l:=by
 obtain⟨d,rfl⟩:∃d,k=j+d+1:=⟨k-j-1,by omega⟩;exact h.asc d j hk
theorem VldH.inj (h:VldH l i) {j k:Nat} (hj:j<i) (hk:k<i) (e:(l[j]'(by have:=h.1;omega)).l=(l[k]'(by have:=h.1;omega)).l):j=k:=by
 rcases Nat.lt_trichotomy j k with h1 | h1 | h1
 · have:=h.lt h1 hk;omega
 · exact h1
 · have:=h.lt h1 hj;omega
theorem fM {l:List Rcd} (h:0<l.length):dk l=l[0].l:=by
 match l,h with
 | x::r,_=>rfl
theorem VldH.fst (h:VldH l i) {k:Nat} (hk:k<i):dk l≤(l[k]'(by have:=h.1;omega)).l:=by
 have hl:=h.1;rw[fM ab];rcases Nat.eq_zero_or_pos k with h0 | h0
 · subst h0;exact Int.le_refl _
 · exact Int.le_of_lt (h.lt h0 hk)
theorem ki {l:List Rcd} {i:Nat} {n:Int} {u:Rcd} (h:ew (l.take i) n=some u):∃k,∃hk:k<l.length,k<i∧l[k]=u∧u.l=n:=by
 unfold ew at h;have h1:=List.mem_of_find?_eq_some h;have h2:=List.find?_some h;obtain⟨k,hk,rfl⟩:=List.getElem_of_mem h1;rw[List.length_take] at hk;exact⟨k,by omega,by omega,by rw[List.getElem_take],by simpa using h2⟩
theorem VldH.fnd (h:VldH l i) {k:Nat} (hk:k<i):ew (l.take i) (l[k]'(by have:=h.1;omega)).l=some (l[k]'(by have:=h.1;omega)):=by
 have hl:=h.1
 cases hf:ew (l.take i) l[k].l with
 | none=>
  unfold ew at hf;rw[List.find?_eq_none] at hf;have:=hf l[k] (List.mem_iff_getElem.2 ⟨k,by rw[List.length_take];omega,List.getElem_take⟩);simp at this
 | some u=>
  obtain⟨j,hj,hji,rfl,he⟩:=ki hf;obtain rfl:=h.inj hji hk he
  rfl
theorem BF (h:VldH l i):∀(k:Nat) (hk:k<i),(l[k]'(by have:=h.1;omega)).e.k≠5→∀u,ew (l.take i) (ir l k)=some u→u.e.t=(l[k]'(by have:=h.1;omega)).e.t:=by
 intro k
 induction k using Nat.strongRecOn with
 | ind k ih=>
  intro hk h5 u hu;have hl:=h.1
  have hkl:k<l.length:=by omega
  obtain⟨n,hn,hni,hnu,hul⟩:=ki hu;have hv:∀m (hm:m<l.length),m<k→dB l m (bL l m) l[m]=0:=fun m hm hmk=>h.2 m hm ab;have hc:=j5 k ab hv l[k].e.t;obtain⟨_,_,hr⟩:=jh (h.2 k hkl hk);obtain⟨h1,h2,h3,h4⟩:=hr h5;have hun:=(h.e0 hni).1;rw[hnu] at hun;have huf:=h.fst hni;rw[hnu] at huf
  have own:∀k',bw l l[k].e.t k=some k'→∀u,ew (l.take i) (ir l k')=some u→u.e.t=l[k].e.t:=fun k' hb u hu=>by
   obtain⟨hk',x,hx,hx5,hxt⟩:=fc hb
   have hxe:l[k']=x:=by rw[List.getElem?_eq_getElem ab] at hx;exact Option.some.inj hx
   have:=ih k' hk' ab (by rw[hxe];exact hx5) u hu;rw[this,hxe,hxt]
  rw[ni hkl] at hul;by_cases k0:l[k].e.k=0
  · rw[if_pos k0] at hul
    have:n=k:=h.inj hni hk (by rw[hnu];exact hul);subst this;rw[hnu]
  rw[if_neg k0] at hul;by_cases k1:l[k].e.k=1
  · rw[if_pos k1] at hul
    have hU:=h4 k1;unfold jK at hU
    split at hU
    · cases hU
    rename_i hcu
    split at hU
    · rename_i hnone
      have:=of_decide_eq_true ((aQ aq).1 hU);omega
    · rename_i w hw
      have hU:=(aQ aq).1 hU;simp only[Bool.and_eq_true,beq_iff_eq,decide_eq_true_eq] at hU;obtain⟨⟨⟨⟨w0,wp⟩,_⟩,_⟩,_⟩:=hU;obtain⟨m,hm,hmk,rfl,hwl⟩:=ki hw
      have hwt:l[m].e.t=l[k].e.t:=by
       unfold gL at hwl h2
       cases hb:bw l l[k].e.t k with
       | none=>
        rw[hb] at hc;rw[hc] at hwl h2;simp only[Option.map_none] at hwl h2;rw[(iu h2).2] at hwl;have:=(h.e0 (k:=m) ab).1;simp only at hwl
        split at hwl<;>omega
       | some k'=>
        rw[hb] at hc;rw[hc] at hwl h2;simp only[Option.map_some] at hwl h2;by_cases e4:(kJ l k').k=4
        · rw[if_pos e4] at hwl h2
          rw[(iu h2).2] at hwl;have:=(h.e0 (k:=m) ab).1;simp only at hwl
          split at hwl<;>omega
        · rw[if_neg e4] at hwl
          have e:l[m].l=ir l k':=hwl;have:=own k' hb l[m] (by rw[←e];exact h.fnd ab);exact this
      rcases BH hm (fun q hq hqm=>h.2 q hq ab) (by rw[w0];decide) with ⟨p1,_⟩ | ⟨k',hb,_,hp⟩
      · omega
      · obtain⟨hk',x,hx,hx5,hxt⟩:=fc hb
        have hxe:l[k']=x:=by rw[List.getElem?_eq_getElem ab] at hx;exact Option.some.inj hx
        rw[nf ab] at hp;have:n=k':=h.inj hni ab (by rw[hnu];omega);subst this;rw[←hnu,hxe,hxt,hwt]
  rw[if_neg k1] at hul
  cases hb:bw l l[k].e.t k with
  | none=>
   rw[hb] at hul;simp only at hul
   split at hul<;>omega
  | some k'=>
   rw[hb] at hul;simp only at hul
   split at hul
   · refine own k' hb u ?_
     rw[←hul];have:=h.fnd hni;rw[hnu] at this;exact this
   · split at hul<;>omega
end
def kn (l:List Rcd) (b:Option Nat) (p:Int):Bool:=match b with
 | none=>decide (dk l≤p)&&p != 0
 | some k=>if dS l k=4 then p != 0 else p != jt l k
def cB (l:List Rcd) (b:Option Nat):Int:=match b with
 | none=>0
 | some k=>if dS l k=4 then 0 else dS l k
def kv (l:List Rcd) (b:Option Nat) (p:Int):Int:=match b with
 | none=>if p=0 then 0 else -1
 | some k=>if dS l k=4 then (if p=0 then 0 else -1) else ir l k
def lv (l:List Rcd) (i:Nat) (n:Int) (x:Lge):Int:=if n=0 then 13 else match ew (l.take i) n with
 | none=>if dk l≤x.x then 13 else 0
 | some u=>if u.e.k=0∧u.e.t=x.t∧x.x=u.e.p∧x.g=u.e.g∧x.f=u.e.f∧x.o=jD u.e.o then 0 else 13
def zU (l:List Rcd) (i:Nat) (x:Lge):Int:=
 if kn l (bw l x.t i) x.p=true then 14
 else if cB l (bw l x.t i)=2∧x.k≠4 then 20
 else if (cB l (bw l x.t i)=3∨cB l (bw l x.t i)=1)∧x.k≠1∧x.k≠4 then 20
 else if x.k≠1 then 0
 else lv l i (kv l (bw l x.t i) x.p) x
def Ae (l:List Rcd) (i:Nat) (x:Lge):Int:=if x.k=5 then CP x else if x.t=0 then 2 else zU l i x
theorem tK {x:Lge} (h:dC x=0):0≤x.k∧x.k≤5:=by
 unfold dC at h;rw[aX] at h;exact inB_true.1 ((aQ aq).1 (h _ (.head _)))
theorem s9 {x:Lge} (h:dC x=0):(0≤x.t∧x.t≤9999)∧(0≤x.p∧x.p≤2147483647)∧(0≤x.x∧x.x≤2147483647)∧(0≤x.g∧x.g≤600):=by
 unfold dC at h;rw[aX] at h;have:=(aQ aq).1 (h _ (.tail _ (.head _)));unfold pM at this;rw[Bool.and_eq_true,Bool.and_eq_true,Bool.and_eq_true,inB_true,inB_true,inB_true,inB_true] at this;exact⟨this.1.1.1,this.1.1.2,this.1.2,this.2⟩
theorem xX {k c:Int} (hk:0≤k∧k≤3) (hc:0≤c∧c≤4):ov k c=true↔¬((k=2∧c≠4)∨((k=3∨k=1)∧c≠1∧c≠4)):=by
 rcases (show k=0∨k=1∨k=2∨k=3 by omega) with rfl | rfl | rfl | rfl<;>rcases (show c=0∨c=1∨c=2∨c=3∨c=4 by omega) with rfl | rfl | rfl | rfl | rfl<;>decide
theorem AA {l:List Rcd} {i:Nat} (h:VldH l i) (c:Chn) (x:Lge) (ho:∀u,ew (l.take i) c.u=some u→u.e.t=x.t):jK l i c x=lv l i c.u x:=by
 unfold jK lv
 split
 · rfl
 · cases hf:ew (l.take i) c.u with
   | none=>
    simp only;unfold aS;by_cases hx:x.x<dk l
    · rw[decide_eq_true hx,if_pos rfl,if_neg ab]
    · rw[decide_eq_false hx,if_neg aq,if_pos ab]
   | some u=>
    simp only;have:=ho u hf;unfold aS;by_cases hb:(u.e.k==0&&x.x==u.e.p&&x.g==u.e.g&&x.f==u.e.f&&decide (x.o=jD u.e.o))=true
    · rw[hb]
      simp only[Bool.and_eq_true,beq_iff_eq,decide_eq_true_eq] at hb;obtain⟨⟨⟨⟨b1,b2⟩,b3⟩,b4⟩,b5⟩:=hb;rw[if_pos rfl,if_pos ⟨b1,this,b2,b3,b4,b5⟩]
    · rw[if_neg hb,if_neg]
      rintro ⟨b1,b2,b3,b4,b5,b6⟩
      apply hb;simp only[Bool.and_eq_true,beq_iff_eq,decide_eq_true_eq];exact⟨⟨⟨⟨b1,b3⟩,b4⟩,b5⟩,b6⟩
theorem Ck {l:List Rcd} {i:Nat} (hi:i<l.length) (h:VldH l i) (h0:dY l i l[i]=0):dB l i (bL l i) l[i]=Ae l i l[i].e:=by
 unfold dB Ae;rw[if_neg (by rw[Classical.not_not];exact h0)];by_cases h5:l[i].e.k=5
 · rw[if_pos h5,if_pos h5]
 rw[if_neg h5,if_neg h5];by_cases ht:l[i].e.t=0
 · rw[if_pos ht,if_pos ht]
 rw[if_neg ht,if_neg ht]
 have he:1≤l[i].l∧dC l[i].e=0:=by
  unfold dY at h0;rw[aX] at h0;have h2:=inB_true.1 ((aQ aq).1 (h0 _ (.head _)));exact⟨h2.1,h0 _ (.tail _ (.tail _ (.head _)))⟩
 have hk:=tK he.2;have hp:=(s9 he.2).2.1
 have hf:1≤dk l:=by
  rcases Nat.eq_zero_or_pos i with hi0 | hi0
  · subst hi0;rw[fM hi];exact he.1
  · have:=(h.e0 hi0).1
    rw[fM ab];exact this
 have hc:=j5 i h.1 h.2 l[i].e.t;obtain⟨x,hx⟩:∃x,x=l[i].e:=⟨_,rfl⟩;rw[←hx] at hc h5 ht hk hp ⊢;clear hx he
 have nof:∀n:Int,n≤0→ew (l.take i) n=none:=fun n hn=>by
  cases hq:ew (l.take i) n with
  | none=>rfl
  | some u=>
   obtain⟨k,hk',hki,rfl,hul⟩:=ki hq;have:=(h.e0 hki).1;omega
 have beg:∀b:Bool,(b=true→True)→∀g:Bool,g=(if b then x.p != 0 else decide (dk l≤x.p)&&x.p != 0) →
  lW l i (gv (dk l) x b) x=if g=true then 14 else if x.k≠1 then 0 else lv l i (if x.p=0 then 0 else -1) x:=fun b _ g hg=>by
  unfold lW gv;by_cases hpm:x.p>(if b then 0 else dk l-1)
  · rw[if_pos hpm]
    have:g=true:=by
     rw[hg]
     cases b
     · simp at hpm ⊢;omega
     · simp at hpm ⊢;omega
    rw[this,if_pos rfl];simp[au]
  · rw[if_neg hpm]
    have:g=false:=by
     rw[hg]
     cases b
     · simp at hpm ⊢;omega
     · simp at hpm ⊢;omega
    rw[this,if_neg (show ¬(false=true) by decide)];by_cases hp0:x.p=0
    · have e0:(if x.p≠0 then (-1:Int) else 0)=0:=if_neg ab
      have hfol:ov 0 x.k=true:=(xX ⟨by decide,by decide⟩ ⟨hk.1,by omega⟩).2 ab;rw[e0,if_pos hp0];show au [0,if (0:Int) = -1 then 0 else aS (ov 0 x.k) 20,if x.k=1 then jK l i ⟨x.p,0,0⟩ x else 0]=_;rw[if_neg (show ¬((0:Int) = -1) by decide),hfol];by_cases hk1:x.k=1
      · rw[if_pos hk1,if_neg (show ¬(x.k≠1) by omega)];rfl
      · rw[if_neg hk1,if_pos hk1];rfl
    · have e0:(if x.p≠0 then (-1:Int) else 0) = -1:=if_pos hp0
      rw[e0,if_neg hp0];show au [0,if (-1:Int) = -1 then 0 else aS (ov (-1) x.k) 20,if x.k=1 then jK l i ⟨x.p,-1,-1⟩ x else 0]=_;rw[if_pos rfl];by_cases hk1:x.k=1
      · rw[if_pos hk1,if_neg (show ¬(x.k≠1) by omega),AA h ⟨x.p,-1,-1⟩ x (fun u hu=>by rw[nof (-1) aq] at hu;cases hu)]
        show(if lv l i (-1) x=0 then 0 else lv l i (-1) x)=_
        split
        · rename_i q;exact q.symm
        · rfl
      · rw[if_neg hk1,if_pos hk1];rfl
 unfold zU gL
 cases hb:bw l x.t i with
 | none=>
  rw[hb] at hc;rw[hc];simp only[Option.map_none];rw[beg false (fun _=>trivial) (kn l none x.p) rfl];unfold cB kv;simp
 | some k=>
  rw[hb] at hc;rw[hc];simp only[Option.map_some];by_cases h4:dS l k=4
  · have e:(kJ l k).k=4:=h4
    rw[if_pos e,beg true (fun _=>trivial) (kn l (some k) x.p) (by unfold kn;simp[h4])];unfold cB kv;simp[h4]
  · have e:¬(kJ l k).k=4:=h4
    rw[if_neg e];obtain⟨hki,y,hy,hy5,hyt⟩:=fc hb
    have hkl:k<l.length:=by omega
    have hye:l[k]=y:=by rw[List.getElem?_eq_getElem hkl] at hy;exact Option.some.inj hy
    have hkk:=tK (h.e0 hki).2.2;have hkn:=gS hkl;rw[hye] at hkk hkn;have hfe:=xX (k:=dS l k) (c:=x.k) ab ⟨hk.1,by omega⟩
    have hund:jK l i (kJ l k) x=lv l i (ir l k) x:=AA h (kJ l k) x fun u hu=>by
     have:=BF h k hki (by rw[hye];exact hy5) u hu;rw[this,hye,hyt]
    unfold lW kn cB kv;simp only[if_neg h4];have e1:(kJ l k).l=jt l k:=rfl;have e2:(kJ l k).k=dS l k:=rfl;rw[e1,e2];by_cases hg:x.p=jt l k
    · have g1:(x.p==jt l k)=true:=by simpa using hg
      have g2:(x.p != jt l k)=false:=by simp[hg]
      rw[g1,g2,if_neg (show ¬dS l k = -1 by omega),if_neg (show ¬(false=true) by decide)];by_cases hs:ov (dS l k) x.k=true
      · have hs2:=hfe.1 hs
        rw[hs,if_neg (fun q=>hs2 (.inl q)),if_neg (fun q=>hs2 (.inr q))];by_cases hk1:x.k=1
        · rw[if_pos hk1,hund,if_neg (show ¬(x.k≠1) by omega)]
          show(if lv l i (ir l k) x=0 then 0 else lv l i (ir l k) x)=_
          split
          · rename_i q;exact q.symm
          · rfl
        · simp[hk1,au,aS]
      · have hs2:(dS l k=2∧x.k≠4)∨((dS l k=3∨dS l k=1)∧x.k≠1∧x.k≠4):=by
         have:=mt hfe.2 hs;exact Classical.not_not.1 this
        have hs3:ov (dS l k) x.k=false:=by simpa using hs
        rw[hs3];rcases hs2 with q | q
        · rw[if_pos q];simp[au,aS]
        · rw[if_neg ab,if_pos q];simp[au,aS]
    · have g1:(x.p==jt l k)=false:=by simpa using hg
      have g2:(x.p != jt l k)=true:=by simp[hg]
      rw[g1,g2,if_pos rfl];simp[au,aS]
open Go.RowKit Go.Sort
theorem vz (a e c:Int) (o n:ByteArray) (w:World) (ho:o.size≤3100) (hn:n.size≤3100) (he0:0≤e) (he1:e≤512) (h:dp ⟨0,a,e,c,o,n⟩=0) :
 Calls Tryz.prog 219 #[.agg #[.int .i64 0,.int .i64 a,.int .i64 e,.int .i64 c,.string o,.string n]] w fun r w'=>r=.returned (.tuple #[.agg #[.int .i64 0,.int .i64 a,.int .i64 e,.int .i64 c,.string n,.string o],.int .i64 0])∧Below w.heap.size w w':=by
 have hE:=fun W=>cp ⟨0,a,e,c,o,n⟩ W ho hn;rw[h] at hE;have HE:=Lib.hid hE;clear hE h;unfold gA at HE
 go_enter Tryz.func219,Tryz.ntmps219
 go_wp2_with (first | (go_at_call 144;(with_reducible refine(HE.out _).mono ?_);rintro e W1 ⟨rfl,hbW1⟩;have hb1:Below w.heap.size w W1:=bu;have ho1:Box W1 w.heap.size #[.int .i64 0,.int .i64 a,.int .i64 e,.int .i64 c,.string o,.string n] 141:=(((Box.new w #[.int .i64 0,.int .i64 a,.int .i64 e,.int .i64 c,.string o,.string n] 141).old _).below hbW1);have hr1:Box W1 (w.heap.size+1) #[.int .i64 0,.int .i64 0,.int .i64 0,.int .i64 0,.string ⟨#[]⟩,.string ⟨#[]⟩] 141:=(by have h:=(Box.new (w.alloc (.cells #[.int .i64 0,.int .i64 a,.int .i64 e,.int .i64 c,.string o,.string n] 141)) #[.int .i64 0,.int .i64 0,.int .i64 0,.int .i64 0,.string ⟨#[]⟩,.string ⟨#[]⟩] 141).below hbW1;rw[World.size_alloc] at h;exact h);have hx1:=ho1.cells;clear hbW1) | (refine az rfl 9 (.tmp 43) (.tmp 40) rfl rfl w.heap.size 4 (.string n) rfl rfl rfl aa w hb1 (Nat.le_refl _) 141 _ ho1 (by show 4<6;omega) ?_;intro W2 hb2 ho2 hk2;have ho2:Box W2 w.heap.size #[.int .i64 0,.int .i64 a,.int .i64 e,.int .i64 c,.string n,.string n] 141:=ho2;have hr2:=hk2 _ _ _ ab hr1;have hx2:=ho2.cells;clear hb1 ho1 hx1 hr1 hk2) | (refine az rfl 9 (.tmp 44) (.tmp 42) rfl rfl w.heap.size 5 (.string o) rfl rfl rfl aa w hb2 (Nat.le_refl _) 141 _ ho2 (by show 5<6;omega) ?_;intro W3 hb3 ho3 hk3;have ho3:Box W3 w.heap.size #[.int .i64 0,.int .i64 a,.int .i64 e,.int .i64 c,.string n,.string o] 141:=ho3;have hr3:=hk3 _ _ _ ab hr2;have hx3:=ho3.cells;clear hb2 ho2 hx2 hr2 hk3) | (refine ai rfl 141 (.tmp 2) (.tmp 45) rfl rfl (w.heap.size+1) #[.int .i64 0,.int .i64 a,.int .i64 e,.int .i64 c,.string n,.string o] rfl rfl w hb3 (Nat.le_succ _) 141 #[.int .i64 0,.int .i64 0,.int .i64 0,.int .i64 0,.string ⟨#[]⟩,.string ⟨#[]⟩] hr3 aa aa aa ?_;intro W9 hb9 hr9 _))
 exact bodyPost_ret (results_cell_tmp Tryz.results219 _ W9 (w.heap.size+1) 141 _ _ _ rfl rfl hr9 Tryz.underlying141 rfl aa) rfl ⟨rfl,hb9⟩
theorem w8 (a e c:Int) (o n:ByteArray) (w:World) (ho:o.size≤3100) (hn:n.size≤3100) (he0:0≤e) (he1:e≤512) (h:dp ⟨1,a,e,c,o,n⟩=0) :
 Calls Tryz.prog 219 #[.agg #[.int .i64 1,.int .i64 a,.int .i64 e,.int .i64 c,.string o,.string n]] w fun r w'=>r=.returned (.tuple #[.agg #[.int .i64 1,.int .i64 a,.int .i64 e,.int .i64 c,.string n,.string o],.int .i64 0])∧Below w.heap.size w w':=by
 have hE:=fun W=>cp ⟨1,a,e,c,o,n⟩ W ho hn;rw[h] at hE;have HE:=Lib.hid hE;clear hE h;unfold gA at HE
 go_enter Tryz.func219,Tryz.ntmps219
 go_wp2_with (first | (go_at_call 144;(with_reducible refine(HE.out _).mono ?_);rintro e W1 ⟨rfl,hbW1⟩;have hb1:Below w.heap.size w W1:=bu;have ho1:Box W1 w.heap.size #[.int .i64 1,.int .i64 a,.int .i64 e,.int .i64 c,.string o,.string n] 141:=(((Box.new w #[.int .i64 1,.int .i64 a,.int .i64 e,.int .i64 c,.string o,.string n] 141).old _).below hbW1);have hr1:Box W1 (w.heap.size+1) #[.int .i64 0,.int .i64 0,.int .i64 0,.int .i64 0,.string ⟨#[]⟩,.string ⟨#[]⟩] 141:=(by have h:=(Box.new (w.alloc (.cells #[.int .i64 1,.int .i64 a,.int .i64 e,.int .i64 c,.string o,.string n] 141)) #[.int .i64 0,.int .i64 0,.int .i64 0,.int .i64 0,.string ⟨#[]⟩,.string ⟨#[]⟩] 141).below hbW1;rw[World.size_alloc] at h;exact h);have hx1:=ho1.cells;clear hbW1) | (refine az rfl 9 (.tmp 43) (.tmp 40) rfl rfl w.heap.size 4 (.string n) rfl rfl rfl aa w hb1 (Nat.le_refl _) 141 _ ho1 (by show 4<6;omega) ?_;intro W2 hb2 ho2 hk2;have ho2:Box W2 w.heap.size #[.int .i64 1,.int .i64 a,.int .i64 e,.int .i64 c,.string n,.string n] 141:=ho2;have hr2:=hk2 _ _ _ ab hr1;have hx2:=ho2.cells;clear hb1 ho1 hx1 hr1 hk2) | (refine az rfl 9 (.tmp 44) (.tmp 42) rfl rfl w.heap.size 5 (.string o) rfl rfl rfl aa w hb2 (Nat.le_refl _) 141 _ ho2 (by show 5<6;omega) ?_;intro W3 hb3 ho3 hk3;have ho3:Box W3 w.heap.size #[.int .i64 1,.int .i64 a,.int .i64 e,.int .i64 c,.string n,.string o] 141:=ho3;have hr3:=hk3 _ _ _ ab hr2;have hx3:=ho3.cells;clear hb2 ho2 hx2 hr2 hk3) | (refine ai rfl 141 (.tmp 2) (.tmp 45) rfl rfl (w.heap.size+1) #[.int .i64 1,.int .i64 a,.int .i64 e,.int .i64 c,.string n,.string o] rfl rfl w hb3 (Nat.le_succ _) 141 #[.int .i64 0,.int .i64 0,.int .i64 0,.int .i64 0,.string ⟨#[]⟩,.string ⟨#[]⟩] hr3 aa aa aa ?_;intro W9 hb9 hr9 _))
 exact bodyPost_ret (results_cell_tmp Tryz.results219 _ W9 (w.heap.size+1) 141 _ _ _ rfl rfl hr9 Tryz.underlying141 rfl aa) rfl ⟨rfl,hb9⟩
theorem wo (a e c:Int) (o n:ByteArray) (w:World) (ho:o.size≤3100) (hn:n.size≤3100) (he0:0≤e) (he1:e≤512) (h:dp ⟨6,a,e,c,o,n⟩=0) :
 Calls Tryz.prog 219 #[.agg #[.int .i64 6,.int .i64 a,.int .i64 e,.int .i64 c,.string o,.string n]] w fun r w'=>r=.returned (.tuple #[.agg #[.int .i64 6,.int .i64 a,.int .i64 e,.int .i64 c,.string n,.string o],.int .i64 0])∧Below w.heap.size w w':=by
 have hE:=fun W=>cp ⟨6,a,e,c,o,n⟩ W ho hn;rw[h] at hE;have HE:=Lib.hid hE;clear hE h;unfold gA at HE
 go_enter Tryz.func219,Tryz.ntmps219
 go_wp2_with (first | (go_at_call 144;(with_reducible refine(HE.out _).mono ?_);rintro e W1 ⟨rfl,hbW1⟩;have hb1:Below w.heap.size w W1:=bu;have ho1:Box W1 w.heap.size #[.int .i64 6,.int .i64 a,.int .i64 e,.int .i64 c,.string o,.string n] 141:=(((Box.new w #[.int .i64 6,.int .i64 a,.int .i64 e,.int .i64 c,.string o,.string n] 141).old _).below hbW1);have hr1:Box W1 (w.heap.size+1) #[.int .i64 0,.int .i64 0,.int .i64 0,.int .i64 0,.string ⟨#[]⟩,.string ⟨#[]⟩] 141:=(by have h:=(Box.new (w.alloc (.cells #[.int .i64 6,.int .i64 a,.int .i64 e,.int .i64 c,.string o,.string n] 141)) #[.int .i64 0,.int .i64 0,.int .i64 0,.int .i64 0,.string ⟨#[]⟩,.string ⟨#[]⟩] 141).below hbW1;rw[World.size_alloc] at h;exact h);have hx1:=ho1.cells;clear hbW1) | (refine az rfl 9 (.tmp 43) (.tmp 40) rfl rfl w.heap.size 4 (.string n) rfl rfl rfl aa w hb1 (Nat.le_refl _) 141 _ ho1 (by show 4<6;omega) ?_;intro W2 hb2 ho2 hk2;have ho2:Box W2 w.heap.size #[.int .i64 6,.int .i64 a,.int .i64 e,.int .i64 c,.string n,.string n] 141:=ho2;have hr2:=hk2 _ _ _ ab hr1;have hx2:=ho2.cells;clear hb1 ho1 hx1 hr1 hk2) | (refine az rfl 9 (.tmp 44) (.tmp 42) rfl rfl w.heap.size 5 (.string o) rfl rfl rfl aa w hb2 (Nat.le_refl _) 141 _ ho2 (by show 5<6;omega) ?_;intro W3 hb3 ho3 hk3;have ho3:Box W3 w.heap.size #[.int .i64 6,.int .i64 a,.int .i64 e,.int .i64 c,.string n,.string o] 141:=ho3;have hr3:=hk3 _ _ _ ab hr2;have hx3:=ho3.cells;clear hb2 ho2 hx2 hr2 hk3) | (refine ai rfl 141 (.tmp 2) (.tmp 45) rfl rfl (w.heap.size+1) #[.int .i64 6,.int .i64 a,.int .i64 e,.int .i64 c,.string n,.string o] rfl rfl w hb3 (Nat.le_succ _) 141 #[.int .i64 0,.int .i64 0,.int .i64 0,.int .i64 0,.string ⟨#[]⟩,.string ⟨#[]⟩] hr3 aa aa aa ?_;intro W9 hb9 hr9 _))
 exact bodyPost_ret (results_cell_tmp Tryz.results219 _ W9 (w.heap.size+1) 141 _ _ _ rfl rfl hr9 Tryz.underlying141 rfl aa) rfl ⟨rfl,hb9⟩
theorem xv (a e c:Int) (o n:ByteArray) (w:World) (ho:o.size≤3100) (hn:n.size≤3100) (he0:0≤e) (he1:e≤512) (h:dp ⟨2,a,e,c,o,n⟩=0) :
 Calls Tryz.prog 219 #[.agg #[.int .i64 2,.int .i64 a,.int .i64 e,.int .i64 c,.string o,.string n]] w fun r w'=>r=.returned (.tuple #[.agg #[.int .i64 3,.int .i64 a,.int .i64 (e+n.size),.int .i64 c,.string n,.string o],.int .i64 0])∧Below w.heap.size w w':=by
 have hE:=fun W=>cp ⟨2,a,e,c,o,n⟩ W ho hn;rw[h] at hE;have HE:=Lib.hid hE;clear hE h;unfold gA at HE
 go_enter Tryz.func219,Tryz.ntmps219
 go_wp2_with (first | (go_at_call 144;(with_reducible refine(HE.out _).mono ?_);rintro e W1 ⟨rfl,hbW1⟩;have hb1:Below w.heap.size w W1:=bu;have ho1:Box W1 w.heap.size #[.int .i64 2,.int .i64 a,.int .i64 e,.int .i64 c,.string o,.string n] 141:=(((Box.new w #[.int .i64 2,.int .i64 a,.int .i64 e,.int .i64 c,.string o,.string n] 141).old _).below hbW1);have hr1:Box W1 (w.heap.size+1) #[.int .i64 0,.int .i64 0,.int .i64 0,.int .i64 0,.string ⟨#[]⟩,.string ⟨#[]⟩] 141:=(by have h:=(Box.new (w.alloc (.cells #[.int .i64 2,.int .i64 a,.int .i64 e,.int .i64 c,.string o,.string n] 141)) #[.int .i64 0,.int .i64 0,.int .i64 0,.int .i64 0,.string ⟨#[]⟩,.string ⟨#[]⟩] 141).below hbW1;rw[World.size_alloc] at h;exact h);have hx1:=ho1.cells;clear hbW1) | (refine az rfl 3 (.tmp 21) (.const (.int .i64 3)) rfl rfl w.heap.size 0 (.int .i64 3) rfl rfl rfl aa w hb1 (Nat.le_refl _) 141 _ ho1 (by show 0<6;omega) ?_;intro W2 hb2 ho2 hk2;have ho2:Box W2 w.heap.size #[.int .i64 3,.int .i64 a,.int .i64 e,.int .i64 c,.string o,.string n] 141:=ho2;have hr2:=hk2 _ _ _ ab hr1;have hx2:=ho2.cells;clear hb1 ho1 hx1 hr1 hk2) | (refine az rfl 3 (.tmp 22) (.tmp 20) rfl rfl w.heap.size 2 (.int .i64 (e+n.size)) rfl rfl rfl aa w hb2 (Nat.le_refl _) 141 _ ho2 (by show 2<6;omega) ?_;intro W3 hb3 ho3 hk3;have ho3:Box W3 w.heap.size #[.int .i64 3,.int .i64 a,.int .i64 (e+n.size),.int .i64 c,.string o,.string n] 141:=ho3;have hr3:=hk3 _ _ _ ab hr2;have hx3:=ho3.cells;clear hb2 ho2 hx2 hr2 hk3) | (refine az rfl 9 (.tmp 43) (.tmp 40) rfl rfl w.heap.size 4 (.string n) rfl rfl rfl aa w hb3 (Nat.le_refl _) 141 _ ho3 (by show 4<6;omega) ?_;intro W4 hb4 ho4 hk4;have ho4:Box W4 w.heap.size #[.int .i64 3,.int .i64 a,.int .i64 (e+n.size),.int .i64 c,.string n,.string n] 141:=ho4;have hr4:=hk4 _ _ _ ab hr3;have hx4:=ho4.cells;clear hb3 ho3 hx3 hr3 hk4) | (refine az rfl 9 (.tmp 44) (.tmp 42) rfl rfl w.heap.size 5 (.string o) rfl rfl rfl aa w hb4 (Nat.le_refl _) 141 _ ho4 (by show 5<6;omega) ?_;intro W5 hb5 ho5 hk5;have ho5:Box W5 w.heap.size #[.int .i64 3,.int .i64 a,.int .i64 (e+n.size),.int .i64 c,.string n,.string o] 141:=ho5;have hr5:=hk5 _ _ _ ab hr4;have hx5:=ho5.cells;clear hb4 ho4 hx4 hr4 hk5) | (refine ai rfl 141 (.tmp 2) (.tmp 45) rfl rfl (w.heap.size+1) #[.int .i64 3,.int .i64 a,.int .i64 (e+n.size),.int .i64 c,.string n,.string o] rfl rfl w hb5 (Nat.le_succ _) 141 #[.int .i64 0,.int .i64 0,.int .i64 0,.int .i64 0,.string ⟨#[]⟩,.string ⟨#[]⟩] hr5 aa aa aa ?_;intro W9 hb9 hr9 _))
 exact bodyPost_ret (results_cell_tmp Tryz.results219 _ W9 (w.heap.size+1) 141 _ _ _ rfl rfl hr9 Tryz.underlying141 rfl aa) rfl ⟨rfl,hb9⟩
theorem xm (a e c:Int) (o n:ByteArray) (w:World) (ho:o.size≤3100) (hn:n.size≤3100) (he0:0≤e) (he1:e≤512) (h:dp ⟨3,a,e,c,o,n⟩=0) :
 Calls Tryz.prog 219 #[.agg #[.int .i64 3,.int .i64 a,.int .i64 e,.int .i64 c,.string o,.string n]] w fun r w'=>r=.returned (.tuple #[.agg #[.int .i64 2,.int .i64 a,.int .i64 (e-o.size),.int .i64 c,.string n,.string o],.int .i64 0])∧Below w.heap.size w w':=by
 have hE:=fun W=>cp ⟨3,a,e,c,o,n⟩ W ho hn;rw[h] at hE;have HE:=Lib.hid hE;clear hE h;unfold gA at HE
 go_enter Tryz.func219,Tryz.ntmps219
 go_wp2_with (first | (go_at_call 144;(with_reducible refine(HE.out _).mono ?_);rintro e W1 ⟨rfl,hbW1⟩;have hb1:Below w.heap.size w W1:=bu;have ho1:Box W1 w.heap.size #[.int .i64 3,.int .i64 a,.int .i64 e,.int .i64 c,.string o,.string n] 141:=(((Box.new w #[.int .i64 3,.int .i64 a,.int .i64 e,.int .i64 c,.string o,.string n] 141).old _).below hbW1);have hr1:Box W1 (w.heap.size+1) #[.int .i64 0,.int .i64 0,.int .i64 0,.int .i64 0,.string ⟨#[]⟩,.string ⟨#[]⟩] 141:=(by have h:=(Box.new (w.alloc (.cells #[.int .i64 3,.int .i64 a,.int .i64 e,.int .i64 c,.string o,.string n] 141)) #[.int .i64 0,.int .i64 0,.int .i64 0,.int .i64 0,.string ⟨#[]⟩,.string ⟨#[]⟩] 141).below hbW1;rw[World.size_alloc] at h;exact h);have hx1:=ho1.cells;clear hbW1) | (refine az rfl 3 (.tmp 31) (.const (.int .i64 2)) rfl rfl w.heap.size 0 (.int .i64 2) rfl rfl rfl aa w hb1 (Nat.le_refl _) 141 _ ho1 (by show 0<6;omega) ?_;intro W2 hb2 ho2 hk2;have ho2:Box W2 w.heap.size #[.int .i64 2,.int .i64 a,.int .i64 e,.int .i64 c,.string o,.string n] 141:=ho2;have hr2:=hk2 _ _ _ ab hr1;have hx2:=ho2.cells;clear hb1 ho1 hx1 hr1 hk2) | (refine az rfl 3 (.tmp 32) (.tmp 30) rfl rfl w.heap.size 2 (.int .i64 (e-o.size)) rfl rfl rfl aa w hb2 (Nat.le_refl _) 141 _ ho2 (by show 2<6;omega) ?_;intro W3 hb3 ho3 hk3;have ho3:Box W3 w.heap.size #[.int .i64 2,.int .i64 a,.int .i64 (e-o.size),.int .i64 c,.string o,.string n] 141:=ho3;have hr3:=hk3 _ _ _ ab hr2;have hx3:=ho3.cells;clear hb2 ho2 hx2 hr2 hk3) | (refine az rfl 9 (.tmp 43) (.tmp 40) rfl rfl w.heap.size 4 (.string n) rfl rfl rfl aa w hb3 (Nat.le_refl _) 141 _ ho3 (by show 4<6;omega) ?_;intro W4 hb4 ho4 hk4;have ho4:Box W4 w.heap.size #[.int .i64 2,.int .i64 a,.int .i64 (e-o.size),.int .i64 c,.string n,.string n] 141:=ho4;have hr4:=hk4 _ _ _ ab hr3;have hx4:=ho4.cells;clear hb3 ho3 hx3 hr3 hk4) | (refine az rfl 9 (.tmp 44) (.tmp 42) rfl rfl w.heap.size 5 (.string o) rfl rfl rfl aa w hb4 (Nat.le_refl _) 141 _ ho4 (by show 5<6;omega) ?_;intro W5 hb5 ho5 hk5;have ho5:Box W5 w.heap.size #[.int .i64 2,.int .i64 a,.int .i64 (e-o.size),.int .i64 c,.string n,.string o] 141:=ho5;have hr5:=hk5 _ _ _ ab hr4;have hx5:=ho5.cells;clear hb4 ho4 hx4 hr4 hk5) | (refine ai rfl 141 (.tmp 2) (.tmp 45) rfl rfl (w.heap.size+1) #[.int .i64 2,.int .i64 a,.int .i64 (e-o.size),.int .i64 c,.string n,.string o] rfl rfl w hb5 (Nat.le_succ _) 141 #[.int .i64 0,.int .i64 0,.int .i64 0,.int .i64 0,.string ⟨#[]⟩,.string ⟨#[]⟩] hr5 aa aa aa ?_;intro W9 hb9 hr9 _))
 exact bodyPost_ret (results_cell_tmp Tryz.results219 _ W9 (w.heap.size+1) 141 _ _ _ rfl rfl hr9 Tryz.underlying141 rfl aa) rfl ⟨rfl,hb9⟩
theorem vJ (a e c:Int) (o n:ByteArray) (w:World) (ho:o.size≤3100) (hn:n.size≤3100) (he0:0≤e) (he1:e≤512) (h:dp ⟨4,a,e,c,o,n⟩=0) :
 Calls Tryz.prog 219 #[.agg #[.int .i64 4,.int .i64 a,.int .i64 e,.int .i64 c,.string o,.string n]] w fun r w'=>r=.returned (.tuple #[.agg #[.int .i64 5,.int .i64 a,.int .i64 e,.int .i64 c,.string n,.string o],.int .i64 0])∧Below w.heap.size w w':=by
 have hE:=fun W=>cp ⟨4,a,e,c,o,n⟩ W ho hn;rw[h] at hE;have HE:=Lib.hid hE;clear hE h;unfold gA at HE
 go_enter Tryz.func219,Tryz.ntmps219
 go_wp2_with (first | (go_at_call 144;(with_reducible refine(HE.out _).mono ?_);rintro e W1 ⟨rfl,hbW1⟩;have hb1:Below w.heap.size w W1:=bu;have ho1:Box W1 w.heap.size #[.int .i64 4,.int .i64 a,.int .i64 e,.int .i64 c,.string o,.string n] 141:=(((Box.new w #[.int .i64 4,.int .i64 a,.int .i64 e,.int .i64 c,.string o,.string n] 141).old _).below hbW1);have hr1:Box W1 (w.heap.size+1) #[.int .i64 0,.int .i64 0,.int .i64 0,.int .i64 0,.string ⟨#[]⟩,.string ⟨#[]⟩] 141:=(by have h:=(Box.new (w.alloc (.cells #[.int .i64 4,.int .i64 a,.int .i64 e,.int .i64 c,.string o,.string n] 141)) #[.int .i64 0,.int .i64 0,.int .i64 0,.int .i64 0,.string ⟨#[]⟩,.string ⟨#[]⟩] 141).below hbW1;rw[World.size_alloc] at h;exact h);have hx1:=ho1.cells;clear hbW1) | (refine az rfl 3 (.tmp 35) (.const (.int .i64 5)) rfl rfl w.heap.size 0 (.int .i64 5) rfl rfl rfl aa w hb1 (Nat.le_refl _) 141 _ ho1 (by show 0<6;omega) ?_;intro W2 hb2 ho2 hk2;have ho2:Box W2 w.heap.size #[.int .i64 5,.int .i64 a,.int .i64 e,.int .i64 c,.string o,.string n] 141:=ho2;have hr2:=hk2 _ _ _ ab hr1;have hx2:=ho2.cells;clear hb1 ho1 hx1 hr1 hk2) | (refine az rfl 9 (.tmp 43) (.tmp 40) rfl rfl w.heap.size 4 (.string n) rfl rfl rfl aa w hb2 (Nat.le_refl _) 141 _ ho2 (by show 4<6;omega) ?_;intro W3 hb3 ho3 hk3;have ho3:Box W3 w.heap.size #[.int .i64 5,.int .i64 a,.int .i64 e,.int .i64 c,.string n,.string n] 141:=ho3;have hr3:=hk3 _ _ _ ab hr2;have hx3:=ho3.cells;clear hb2 ho2 hx2 hr2 hk3) | (refine az rfl 9 (.tmp 44) (.tmp 42) rfl rfl w.heap.size 5 (.string o) rfl rfl rfl aa w hb3 (Nat.le_refl _) 141 _ ho3 (by show 5<6;omega) ?_;intro W4 hb4 ho4 hk4;have ho4:Box W4 w.heap.size #[.int .i64 5,.int .i64 a,.int .i64 e,.int .i64 c,.string n,.string o] 141:=ho4;have hr4:=hk4 _ _ _ ab hr3;have hx4:=ho4.cells;clear hb3 ho3 hx3 hr3 hk4) | (refine ai rfl 141 (.tmp 2) (.tmp 45) rfl rfl (w.heap.size+1) #[.int .i64 5,.int .i64 a,.int .i64 e,.int .i64 c,.string n,.string o] rfl rfl w hb4 (Nat.le_succ _) 141 #[.int .i64 0,.int .i64 0,.int .i64 0,.int .i64 0,.string ⟨#[]⟩,.string ⟨#[]⟩] hr4 aa aa aa ?_;intro W9 hb9 hr9 _))
 exact bodyPost_ret (results_cell_tmp Tryz.results219 _ W9 (w.heap.size+1) 141 _ _ _ rfl rfl hr9 Tryz.underlying141 rfl aa) rfl ⟨rfl,hb9⟩
theorem xq (a e c:Int) (o n:ByteArray) (w:World) (ho:o.size≤3100) (hn:n.size≤3100) (he0:0≤e) (he1:e≤512) (h:dp ⟨5,a,e,c,o,n⟩=0) :
 Calls Tryz.prog 219 #[.agg #[.int .i64 5,.int .i64 a,.int .i64 e,.int .i64 c,.string o,.string n]] w fun r w'=>r=.returned (.tuple #[.agg #[.int .i64 4,.int .i64 a,.int .i64 e,.int .i64 c,.string n,.string o],.int .i64 0])∧Below w.heap.size w w':=by
 have hE:=fun W=>cp ⟨5,a,e,c,o,n⟩ W ho hn;rw[h] at hE;have HE:=Lib.hid hE;clear hE h;unfold gA at HE
 go_enter Tryz.func219,Tryz.ntmps219
 go_wp2_with (first | (go_at_call 144;(with_reducible refine(HE.out _).mono ?_);rintro e W1 ⟨rfl,hbW1⟩;have hb1:Below w.heap.size w W1:=bu;have ho1:Box W1 w.heap.size #[.int .i64 5,.int .i64 a,.int .i64 e,.int .i64 c,.string o,.string n] 141:=(((Box.new w #[.int .i64 5,.int .i64 a,.int .i64 e,.int .i64 c,.string o,.string n] 141).old _).below hbW1);have hr1:Box W1 (w.heap.size+1) #[.int .i64 0,.int .i64 0,.int .i64 0,.int .i64 0,.string ⟨#[]⟩,.string ⟨#[]⟩] 141:=(by have h:=(Box.new (w.alloc (.cells #[.int .i64 5,.int .i64 a,.int .i64 e,.int .i64 c,.string o,.string n] 141)) #[.int .i64 0,.int .i64 0,.int .i64 0,.int .i64 0,.string ⟨#[]⟩,.string ⟨#[]⟩] 141).below hbW1;rw[World.size_alloc] at h;exact h);have hx1:=ho1.cells;clear hbW1) | (refine az rfl 3 (.tmp 38) (.const (.int .i64 4)) rfl rfl w.heap.size 0 (.int .i64 4) rfl rfl rfl aa w hb1 (Nat.le_refl _) 141 _ ho1 (by show 0<6;omega) ?_;intro W2 hb2 ho2 hk2;have ho2:Box W2 w.heap.size #[.int .i64 4,.int .i64 a,.int .i64 e,.int .i64 c,.string o,.string n] 141:=ho2;have hr2:=hk2 _ _ _ ab hr1;have hx2:=ho2.cells;clear hb1 ho1 hx1 hr1 hk2) | (refine az rfl 9 (.tmp 43) (.tmp 40) rfl rfl w.heap.size 4 (.string n) rfl rfl rfl aa w hb2 (Nat.le_refl _) 141 _ ho2 (by show 4<6;omega) ?_;intro W3 hb3 ho3 hk3;have ho3:Box W3 w.heap.size #[.int .i64 4,.int .i64 a,.int .i64 e,.int .i64 c,.string n,.string n] 141:=ho3;have hr3:=hk3 _ _ _ ab hr2;have hx3:=ho3.cells;clear hb2 ho2 hx2 hr2 hk3) | (refine az rfl 9 (.tmp 44) (.tmp 42) rfl rfl w.heap.size 5 (.string o) rfl rfl rfl aa w hb3 (Nat.le_refl _) 141 _ ho3 (by show 5<6;omega) ?_;intro W4 hb4 ho4 hk4;have ho4:Box W4 w.heap.size #[.int .i64 4,.int .i64 a,.int .i64 e,.int .i64 c,.string n,.string o] 141:=ho4;have hr4:=hk4 _ _ _ ab hr3;have hx4:=ho4.cells;clear hb3 ho3 hx3 hr3 hk4) | (refine ai rfl 141 (.tmp 2) (.tmp 45) rfl rfl (w.heap.size+1) #[.int .i64 4,.int .i64 a,.int .i64 e,.int .i64 c,.string n,.string o] rfl rfl w hb4 (Nat.le_succ _) 141 #[.int .i64 0,.int .i64 0,.int .i64 0,.int .i64 0,.string ⟨#[]⟩,.string ⟨#[]⟩] hr4 aa aa aa ?_;intro W9 hb9 hr9 _))
 exact bodyPost_ret (results_cell_tmp Tryz.results219 _ W9 (w.heap.size+1) 141 _ _ _ rfl rfl hr9 Tryz.underlying141 rfl aa) rfl ⟨rfl,hb9⟩
end Go.Proofs.YtcfdpfmchchkaaaGreatDoor
