/- Chapter 22 -/
import Derived.Test.YtcfdpfmchchkaaaGreatDoorRcF
namespace Go.Proofs.YtcfdpfmchchkaaaGreatDoor
set_option maxRecDepth 100000
set_option maxHeartbeats 2000000
set_option linter.unusedVariables false
set_option linter.unusedSimpArgs false
open Go.RowKit Go.Sort Go.Shelf
theorem vF (x:Pgp) (n:Int) (w:World):bz 148 #[xg x,ae n] w (ae (IntKind.i64.wrap (x.g-n))):=by
 refine aq (N:=9) Tryz.func148 rfl rfl rfl (fun _ Y=>?_);have Z:=St.init w;refine ai (an ?_);refine nb Y rfl rfl Z fun b _ _ a Y Z=>GO 8 ?_;intro _ Y;refine sv Y (sV (Y.ev rfl) (Y.ev rfl)) fun _ Y=>?_;refine GO 4 ?_;intro _ Y;refine aI Y rfl rfl ?_;exact⟨rfl,Z.below⟩
theorem FU {x n:Int} (hx:0≤x∧x≤600) (a:I6 n):(IntKind.i64.wrap (x-n)=0↔x=n)∧(0≤n∧n≤600→IntKind.i64.wrap (x-n)=x-n):=by
 unfold I6 at a;rw[IntKind.wrap_i64]
 constructor
 · omega
 · intro h;omega
def zB (l:List Pgp) (n:Int) (i:Nat):Bool:=match l[i]? with | some x=>IntKind.i64.wrap (x.g-n)==0 | none=>false
theorem EO (l:List Pgp) (F:cC Pgp.g l) (a:∀x∈l,0≤x.g∧x.g≤600) (A:Option Addr) (c:Nat) (n:Int) (z:I6 n) (w:World) (hr:Rd w w.heap.size A (l.flatMap cS)) (G:l.length≤1000) :
 Calls Tryz.prog 147 #[.slice A l.length c,ae n,.func (.func 148) #[] #[]] w fun e M=>∃i:Nat,e=.returned (.tuple #[ae i,.bool (lI Pgp.g l n)])∧(lI Pgp.g l n=true→i=jN Pgp.g l n)∧Below w.heap.size w M:=by
 have I:=List.pairwise_iff_getElem.1 F;refine aq (N:=49) Tryz.func147 rfl rfl rfl (fun _ Y=>?_);have Z:=St.init w;refine GO 16 ?_;intro _ d;refine GO 6 ?_;intro _ Y;refine aY Y Z [8,7,6,0,1,2] (fun (q:Nat × Nat)=>[(9,ae (q.1:Nat)),(10,ae (q.2:Nat))]) (fun (q:Nat × Nat)=>q.1≤q.2∧q.2≤l.length∧(0≤n∧n≤600→(∀k (a:k<l.length),k<q.1→l[k].g<n)∧(∀k (a:k<l.length),q.2≤k→n≤l[k].g))) (fun (q:Nat × Nat) L=>L) (fun (q:Nat × Nat)=>q.2-q.1) ((0,l.length)) (⟨Nat.zero_le _,Nat.le_refl _,fun _=>⟨fun k _ h=>absurd h (Nat.not_lt_zero _),fun k a h=>by omega⟩⟩) bN (Z) ?_;intro q _ _ p Y Z;refine GO 8 ?_;intro _ Y;refine ak (Y.ev rfl) (fun y=>?_) (fun y=>?_)
 ·
  have S:q.1<q.2:=by have:=of_decide_eq_true y;omega
  have O:=p.2.1;obtain⟨b,o,rfl,hB,_⟩:=hr.opened (aQ bZ au ab)
  have hm:(q.1+q.2) / 2<l.length:=by omega
  have C:=a _ (List.getElem_mem hm);obtain⟨j,s⟩:=FU C z;refine GO 8 ?_;intro _ Y;refine sv Y (cA aa Tryz.underlying215 (Y.ev rfl) (wrap_u64 ab)) fun _ Y=>?_;refine sv Y (qp (n:=1) (Y.ev rfl) (Y.ev rfl) rfl ab) fun _ Y=>?_;refine sv Y (aA (v':=ae (((q.1+q.2) / 2:Nat):Int)) (congrArg _ ab) (cA aa ew (Y.ev rfl) (de ab))) fun _ Y=>?_;refine GO 8 ?_;intro _ Y;refine sv Y (av (i:=(q.1+q.2) / 2) (sz:=3) tA aa (Y.ev rfl) (Y.ev rfl) ab ab rfl) fun _ Y=>?_;refine sv (v:=xg l[(q.1+q.2) / 2]) Y (ag aa aa (Y.ev rfl) (aZ bZ (Z.rd0 hr) hm)) fun _ Y=>?_;refine GO 1 ?_;intro _ Y;refine dk Y (wn rfl) (cQ bc (Y.ev rfl) (Y.evs rfl) rfl) rfl rfl Z (vF _ _ _) fun _ _ Y Z=>GO 3 ?_;intro _ Y;refine ak (Y.ev rfl) (fun u=>?_) (fun u=>?_)
  ·
   have hx:0≤n∧n≤600→l[(q.1+q.2) / 2].g<n:=fun d=>by have:=of_decide_eq_true u;rw[s d] at this;omega
   have B:0≤n∧n≤600→∀k (a:k<l.length),k≤(q.1+q.2) / 2→l[k].g<n:=fun d k a f=>by
    have hx:=hx d;rcases Nat.lt_or_eq_of_le f with h | h
    · have:=I k _ a hm h;omega
    · subst h;exact hx
   refine GO 7 ?_;intro _ Y;exact⟨((q.1+q.2) / 2+1,q.2),(by show q.2-((q.1+q.2) / 2+1)<q.2-q.1;omega),⟨by show(q.1+q.2) / 2+1≤q.2;omega,p.2.1,fun d=>⟨fun k a f=>B d k a (by have:k<(q.1+q.2) / 2+1:=f;omega),(p.2.2 d).2⟩⟩,Y.re bN,Z⟩
  ·
   have hx:0≤n∧n≤600→n≤l[(q.1+q.2) / 2].g:=fun d=>by have:=of_decide_eq_false u;rw[s d] at this;omega
   have D:0≤n∧n≤600→∀k (a:k<l.length),(q.1+q.2) / 2≤k→n≤l[k].g:=fun d k a f=>by
    have hx:=hx d;rcases Nat.lt_or_eq_of_le f with h | h
    · have:=I _ k hm a h;omega
    · subst h;exact hx
   refine GO 6 ?_;intro _ Y;exact⟨(q.1,(q.1+q.2) / 2),(by show(q.1+q.2) / 2-q.1<q.2-q.1;omega),⟨by show q.1≤(q.1+q.2) / 2;omega,by show(q.1+q.2) / 2≤l.length;omega,fun d=>⟨(p.2.2 d).1,fun k a f=>D d k a f⟩⟩,Y.re bN,Z⟩
 ·
  have R:q.1=q.2:=by have:=of_decide_eq_false y;have:=p.1;omega
  refine GO 12 ?_;intro _ Y;apply bo (x:=zB l n q.1) Y Z 39 rfl 9 48
  case ht=>
   intro t
   have m:q.1<l.length:=by have:=of_decide_eq_true t;omega
   obtain⟨b,o,rfl,hB,_⟩:=hr.opened (aQ bZ au ab);refine GO 3 ?_;intro _ Y;refine sy Y (av (i:=q.1) (sz:=3) tA aa (Y.ev rfl) (Y.ev rfl) ab ab rfl) fun _ Y=>?_;refine aT (v:=xg l[q.1]) Y (ao Y _ rfl rfl rfl t) (ag aa aa (Y.ev rfl) (aZ bZ (Z.rd0 hr) m)) rfl rfl fun _ Y=>GO 1 ?_;intro _ Y;refine dk Y (ao Y _ rfl rfl rfl t) (cQ bc (Y.ev rfl) (Y.evs rfl) rfl) rfl rfl Z (vF _ _ _) fun _ _ Y Z=>sy Y (aA (v':=.bool (zB l n q.1)) (congrArg Value.bool (by unfold zB;rw[List.getElem?_eq_getElem m])) (eI (Y.ev rfl) (Y.ev rfl))) fun _ Y=>?_;refine GO 1 ?_;intro _ Y;exact ah ⟨Y.midE 8,Z⟩
  case hf=>
   intro t;refine GO 9 ?_;intro _ Y;exact ah ⟨Y.midE 8,Z⟩
  case h=>
   rintro Q T ⟨U,J⟩
   refine GO 5 ?_;intro _ Y;refine cd Y rfl rfl rfl ?_
   have e:(decide ((q.1:Int)<(l.length:Int))&&zB l n q.1)=lI Pgp.g l n∧(lI Pgp.g l n=true→q.1=jN Pgp.g l n):=by
    by_cases d:0≤n∧n≤600
    · obtain⟨P,K⟩:=p.2.2 d
      obtain⟨hb1,E⟩:=yE F (n:=n) (i:=q.1) (by have:=p.2.1;omega) P (fun a=>K q.1 a ab);refine⟨?_,fun _=>hb1.symm⟩;unfold lI;rw[E];by_cases h:q.1<l.length
      · rw[decide_eq_true ab,dif_pos h,Bool.true_and]
        unfold zB;rw[List.getElem?_eq_getElem h];have j:=(FU (a _ (List.getElem_mem h)) z).1;by_cases r:l[q.1].g=n
        · rw[if_pos r];simp only[];rw[j.2 r];rfl
        · rw[if_neg r];simp only[];rw[beq_eq_false_iff_ne.2 (fun e=>r (j.1 e))];rfl
      · rw[dif_neg h,decide_eq_false ab];rfl
    · have H:lI Pgp.g l n=false:=by
       unfold lI;rw[dI l n (fun x hx r=>d (by rw[←r];exact a x hx))];rfl
      refine⟨?_,fun h=>by rw[H] at h;cases h⟩;rw[H];unfold zB;by_cases h:q.1<l.length
      · rw[List.getElem?_eq_getElem h]
        have j:=(FU (a _ (List.getElem_mem h)) z).1;simp only[];rw[beq_eq_false_iff_ne.2 (fun e=>d (by rw[←j.1 e];exact a _ (List.getElem_mem h)))];simp
      · rw[List.getElem?_eq_none ab];simp
   exact⟨q.1,by rw[←e.1],e.2,J.below⟩
def pj (A:Option Addr) (l:List Pgp) (n:Int):Option Addr:=if lI Pgp.g l n=true then A.map (fun a=>⟨a.block,a.off+jN Pgp.g l n*3,none⟩) else none
theorem xt (l:List Pgp) (f:cC Pgp.g l) (p:∀x∈l,0≤x.g∧x.g≤600) (A:Option Addr) (c:Nat) (n:Int) (j:I6 n) (w:World) (hr:Rd w w.heap.size A (l.flatMap cS)) (a:l.length≤1000) :
 bz 95 #[.slice A l.length c,ae n] w (.pointer (pj A l n)):=by
 refine aq (N:=18) Tryz.func95 rfl rfl rfl (fun _ Y=>?_);have Z:=St.init w;refine GO 9 ?_;intro _ Y;refine FL Y (wn rfl) (az bc (Y.evs rfl) rfl) rfl rfl Z (EO l f p A c n j _ (Z.rd0 hr) a) fun q _ _ Y m Z=>GO 14 ?_;intro _ Y;refine ak (Y.ev rfl) (fun e=>?_) (fun e=>?_)
 ·
  have d:lI Pgp.g l n=false:=ar e;refine GO 7 ?_;intro _ Y;refine aI Y rfl rfl ?_;exact⟨by unfold pj;rw[d];rfl,Z.below⟩
 ·
  have d:lI Pgp.g l n=true:=ar e;have h:=m d;obtain⟨k,_,_⟩:=kE f d;rw[h] at Y;obtain⟨b,o,rfl,hB,_⟩:=hr.opened (aQ bZ au ab);refine GO 6 ?_;intro _ Y;refine sv Y (av (i:=jN Pgp.g l n) (sz:=3) tA aa (Y.ev rfl) (Y.ev rfl) ab ab rfl) fun _ Y=>?_;refine GO 4 ?_;intro _ Y;refine aI Y rfl rfl ?_;exact⟨by unfold pj;rw[if_pos d];rfl,Z.below⟩
theorem pO {l:List Pgp} (d:cC Pgp.g l) {A:Option Addr} {n:Int} {w:World} {B:Nat} (hr:Rd w B A (l.flatMap cS)) (h:(pj A l n).isNone=false):∃b o,A=some ⟨b,o,none⟩∧∃a:jN Pgp.g l n<l.length,l[jN Pgp.g l n].g=n∧lu l n=some l[jN Pgp.g l n]∧pj A l n=some ⟨b,o+jN Pgp.g l n*3,none⟩:=by
 have c:lI Pgp.g l n=true:=by
  unfold pj at h
  split at h
  · assumption
  · cases h
 obtain⟨a,f,e⟩:=kE d c;obtain⟨b,o,rfl,_⟩:=hr.opened (aQ bZ au ab);exact⟨b,o,rfl,a,f,e,by unfold pj;rw[if_pos c];rfl⟩
theorem AY {l:List Pgp} {A:Option Addr} {n:Int} {w:World} {B:Nat} (hr:Rd w B A (l.flatMap cS)) (h:(pj A l n).isNone=true):lu l n=none:=by
 rcases Nat.eq_zero_or_pos l.length with a | a
 · rw[List.eq_nil_of_length_eq_zero a];rfl
 · obtain⟨b,o,rfl,_⟩:=hr.opened (aQ bZ au a)
   unfold pj at h
   split at h
   · cases h
   · rename_i c
     unfold lI at c
     rwa [Bool.not_eq_true,Option.isSome_eq_false_iff,Option.isNone_iff_eq_none] at c
def AL (l:List Pgp) (i:Nat):Bool:=match dv l i with
 | none=>true
 | some y=>match l[i]? with | none=>true | some x=>decide (y.g<x.g)
theorem zw (p:List Pgp) (A:Option Addr) (c i b:Nat) (T:TypeId) (w:World) (l:Box w b #[.slice A p.length c] T) (hr:Rd w w.heap.size A (p.flatMap cS)) (m:i<p.length) (v:p.length≤100) :
 bz 201 #[ae i,xg p[i],.pointer (some ⟨b,0,none⟩)] w (ae (AE (dv p i) p[i])):=by
 obtain⟨r,o',rfl,_⟩:=hr.opened (aQ bZ au ab);refine aq (N:=32) Tryz.func201 rfl rfl rfl (fun _ g=>?_);have Z:=St.init w;refine ai (an ?_);refine nb g rfl rfl Z fun b4 _ _ s Y Z=>GO 4 ?_;intro _ Y;apply aK Y (fA 23) _ aa
 case h=>
  refine GO 2 ?_;intro _ Y;refine gp Y rfl (fun X a=>ca _ _ _ _) fun _ Y=>?_;refine gp Y rfl (fun X a=>aW _ _ _) fun _ Y=>?_;refine GO 3 ?_;intro _ Y;apply fF (x:=AL p i) Y 12 rfl 11 23
  case hf=>
   intro n
   have j:i≠0:=by simp only[beq_eq_false_iff_ne] at n;omega
   have d:i-1<p.length:=by omega
   have k:dv p i=some p[i-1]:=by unfold dv;rw[if_neg j,List.getElem?_eq_getElem d]
   refine qy Y (fun X a=>(lx (Y.ev rfl) (Box.cells (l.below (Z.grow a).below) 0))) fun _ Y=>?_;refine GO 2 ?_;intro _ Y;refine qy Y (fun X a=>(pB aa (Y.ev rfl) (Y.ev rfl))) fun _ Y=>?_;refine qy Y (fun X a=>(av (i:=i-1) (sz:=3) tA aa (Y.ev rfl) (Y.ev rfl) ab ab rfl)) fun _ Y=>?_;refine qy Y (fun X a=>(fy 0 (Y.ev rfl))) fun _ Y=>?_;refine qy Y (fun X a=>(lx (Y.ev rfl) ((aZ bZ ((Z.grow a).rd0 hr) d) 0 _ rfl))) fun _ Y=>?_;refine GO 2 ?_;intro _ Y;refine qy Y (fun X a=>(aA (v':=.bool (AL p i)) (congrArg Value.bool (by unfold AL;rw[k,List.getElem?_eq_getElem m])) (mW (Y.ev rfl) (Y.ev rfl)))) fun _ Y=>?_;refine GO 1 ?_;intro _ Y;exact ax (Y.midE 10)
  case ht=>
   intro n;refine GO 11 ?_;intro _ Y;exact ax (Y.midE 10)
  case h=>
   intro _ Y;refine gp Y rfl (fun X a=>aW _ _ _) fun _ Y=>?_;refine GO 5 ?_;intro _ Y;refine aV fun _ o u=>?_;have Z:=Z.grow o;refine cU Y rfl (aW _ _ _) fun _ Y=>?_;refine bV Y (wn rfl) (f:=fun b=>.slice (some ⟨b,0,none⟩) 3 3) (bb cT aa aa (Y.evs2 rfl) rfl rfl rfl au au) rfl rfl Z fun q _ _ t Y Z=>cU Y rfl (gn (Z.at_ (i:=0) rfl)) fun _ Y=>?_;refine GO 4 ?_;intro _ Y;refine aI Y rfl rfl ?_;refine⟨?_,Z.below⟩
   have e:((i:Int)==0||AL p i)=AL p i:=by
    rcases Nat.eq_zero_or_pos i with g | g
    · subst g;rfl
    · rw[show((i:Int)==0)=false by rw[beq_eq_false_iff_ne];omega];rfl
   rw[e]
   have e2:((p[i].b.size:Int)==512)=(p[i].b.size==512):=by rw[Bool.eq_iff_iff,beq_iff_eq,beq_iff_eq];omega
   rw[e2];unfold AE AL;rw[List.getElem?_eq_getElem m]
   cases dv p i<;>rfl
 case hB=>kernel_rfl
 case hst=>rfl
theorem zS (p:List Pgp) (m:cC Pgp.g p) (u:∀x∈p,0≤x.g∧x.g≤600) (A:Option Addr) (c k b:Nat) (T:TypeId) (x:Rcd) (hx:I6 x.e.g) (w:World) (l:Box w b #[.slice A p.length c] T) (hr:Rd w w.heap.size A (p.flatMap cS)) (B:p.length≤100) :
 bz 202 #[ae k,gV x,.pointer (some ⟨b,0,none⟩)] w (ae (kI p x)):=by
 refine aq (N:=27) Tryz.func202 rfl rfl rfl (fun _ Y=>?_);have Z:=St.init w;refine ai (an ?_);refine nb Y rfl rfl Z fun b4 _ _ y a Z=>GO 7 ?_;intro _ Y;refine sv (v:=cZ x.e) Y (ag aa aa (Y.ev rfl) (Z.cellsOf (i:=0) rfl 1 13)) fun _ Y=>?_;refine cN Y rfl Z (ki _ _) fun _ _ Y Z=>?_;refine GO 3 ?_;intro _ Y;refine ak (Y.ev rfl) (fun j=>?_) (fun j=>?_)
 ·
  have a:eh x.e=false:=ar j;refine GO 7 ?_;intro _ Y;refine aI Y rfl rfl ?_;exact⟨by unfold kI;rw[a];rfl,Z.below⟩
 ·
  have a:eh x.e=true:=ar j;refine wp_skip (aj (ai (an ?_)));refine sv Y (lx (Y.ev rfl) (Box.cells (l.below Z.below) 0)) fun _ Y=>?_;refine GO 1 ?_;intro _ Y;refine vf Y 4 5 fun _ Y=>?_;refine GO 1 ?_;intro _ Y;refine cN Y rfl Z (xt p m u A c x.e.g hx _ (Z.rd0 hr) ab) fun _ _ Y Z=>?_;refine GO 7 ?_;intro _ Y;refine sv Y (mi Tryz.underlying168 aa (Y.ev rfl) (Y.ev rfl)) fun _ Y=>?_;refine ah (aj ?_);refine ak (Y.ev rfl) (fun f=>?_) (fun f=>?_)
  ·
   have r:=AY hr f;refine GO 7 ?_;intro _ Y;refine aI Y rfl rfl ?_;exact⟨by unfold kI;rw[if_pos a,r],Z.below⟩
  ·
   obtain⟨n,o',rfl,t,C,s,o⟩:=pO m hr f;refine wp_skip (aj (ai ?_));apply aK Y (fA 7) _ aa
   case h=>
    refine qv Y (fun X d=>aA (v':=.pointer (some ⟨n,o'+jN Pgp.g p x.e.g*3,none⟩)) (congrArg Value.pointer o) (bQ (Y.ev rfl))) fun _ Y=>?_;refine GO 1 ?_;intro _ Y;refine qv Y (fun X d=>fy 1 (Y.ev rfl)) fun _ Y=>?_;refine qv Y (fun X d=>lx (Y.ev rfl) ((aZ bZ ((Z.grow d).rd0 hr) t) 1 _ rfl)) fun _ Y=>?_;refine GO 1 ?_;intro _ Y;refine qv Y (fun X d=>fx 5 6 (Y.ev rfl)) fun _ Y=>?_;refine GO 2 ?_;intro _ Y;refine aV fun _ q z=>?_;have Z:=Z.grow q;refine sv Y (yW xx (Y.ev rfl) (Y.ev rfl)) fun _ Y=>?_;refine cU Y rfl (aW _ _ _) fun _ Y=>?_;refine GO 4 ?_;intro _ Y;refine aI Y rfl rfl ?_;exact⟨by unfold kI;rw[if_pos a,s],Z.below⟩
   case hB=>kernel_rfl
   case hst=>rfl
theorem DR (p:List Pgp) (l:List Rcd) (A:Option Addr) (c:Nat) (B:Option Addr) (d:Nat) (w:World) (hr:Rd w w.heap.size A (p.flatMap cS)) (t:Rd w w.heap.size B (l.flatMap cm)) (s:l.length≤1000) (hx:∀x∈l,I6 x.e.g) :
 bz 133 #[.slice A p.length c,.slice B l.length d] w (ae (oh l p)):=by
 refine aq (N:=26) Tryz.func133 rfl rfl rfl (fun _ Y=>?_);have Z:=St.init w;refine ai (an ?_);refine nb Y rfl rfl Z fun j _ _ u Y Z=>GO 11 ?_;intro _ Y;refine ak (Y.ev rfl) (fun q=>?_) (fun q=>?_)
 ·
  have r:40<p.length:=by have:=of_decide_eq_true q;omega
  have e0:kS p=8:=by unfold kS;rw[if_pos r]
  refine GO 7 ?_;intro _ Y;refine aI Y rfl rfl ?_;exact⟨by unfold oh;rw[if_pos (by rw[e0];decide),e0];(try rfl),Z.below⟩
 ·
  have r:¬40<p.length:=by have:=of_decide_eq_false q;omega
  have e0:kS p=(tZ p).2:=by unfold kS;rw[if_neg r]
  refine GO 5 ?_;intro _ Y;refine sv Y (fo (Y.evs rfl) (Y.evs rfl)) fun _ Y=>?_;refine cN Y rfl Z (uL (fun i x=>AE (dv p i) x) p A c 201 [.pointer (some ⟨j,0,none⟩)] _ (Z.rd0 hr) ab bc (fun X a k b _=>zw p A c k j _ X (Box.below (Z.at_ (i:=0) rfl) a) ((Z.rd0 hr).below' a) b ab)) fun _ _ Y Z=>?_;refine GO 14 ?_;intro _ Y;refine ak (Y.ev rfl) (fun n=>?_) (fun n=>?_)
  ·
   have m:kS p≠0:=by rw[e0];unfold tZ;simpa using n
   refine GO 8 ?_;intro _ Y;refine aI Y rfl rfl ?_;exact⟨by unfold oh;rw[if_pos m,e0];(try rfl),Z.below⟩
  ·
   have m:kS p=0:=by rw[e0];unfold tZ;simpa using n
   have f:=pgsE1_zero.1 m
   have o:∀x∈p,0≤x.g∧x.g≤600:=fun x hx=>by
    obtain⟨k,b,rfl⟩:=List.getElem_of_mem hx;exact(f.all k b).g
   refine GO 5 ?_;intro _ Y;refine sv Y (fo (Y.evs rfl) (Y.evs rfl)) fun _ Y=>?_;refine cN Y rfl Z (uI (fun _ x=>kI p x) l B d 202 [.pointer (some ⟨j,0,none⟩)] _ (Z.rd0 t) s bc (fun X a k b _=>zS p f.srt o A c k j _ l[k] (hx _ (List.getElem_mem b)) X (Box.below (Z.at_ (i:=0) rfl) a) ((Z.rd0 hr).below' a) ab)) fun _ _ Y Z=>?_;refine GO 13 ?_;intro _ Y;refine aI Y rfl rfl ?_;exact⟨by unfold oh;rw[if_neg (fun h=>h m)];(try rfl),Z.below⟩
theorem j2 (p:List Pgp) (l:List Rcd) (A:Option Addr) (c:Nat) (B:Option Addr) (d:Nat) (w:World) (hr:Rd w w.heap.size A (p.flatMap cS)) (a:Rd w w.heap.size B (l.flatMap cm)) (b:l.length≤1000) (hx:∀x∈l,I6 x.e.g) :
 bz 81 #[.slice B l.length d,.slice A p.length c] w (ae (oh l p)):=by
 refine aq (N:=8) Tryz.func81 rfl rfl rfl (fun _ Y=>?_);have Z:=St.init w;refine GO 9 ?_;intro _ Y;refine cN Y rfl Z (DR p l A c B d _ (Z.rd0 hr) (Z.rd0 a) b hx) fun _ _ Y Z=>?_;refine GO 4 ?_;intro _ Y;refine aI Y rfl rfl ?_;exact⟨rfl,Z.below⟩
open Go.RowKit Go.Sort
theorem first2_z {a b:Int}:aw [a,b]=0↔a=0∧b=0:=by
 simp only[aw]
 by_cases h:a=0<;>by_cases h':b=0<;>simp[h,h']
theorem mO {k:IntKind} {a b:ByteArray} {c d:Bool} {e f:Int} (h:a=b) (h':c=d) (g:e=f):Ending.returned (.tuple #[.string a,.bool c,.int k e])=.returned (.tuple #[.string b,.bool d,.int k f]):=by rw[h,h',g]
theorem CB {p:ByteArray} {plain:Bool} {n:Int} {x:Op} {a:Int} (h:aw [cM p,uH n,gj x]=a) (b:a≠0):j6 p plain n x=(⟨#[]⟩,false,a):=by
 unfold j6
 have e:aw [cM p,pS n,gj x]=a:=h;rw[e,if_pos b]
theorem xp (p:ByteArray) (plain:Bool) (n:Int) (x:Op) (w:World) (hp:p.size≤maxLen) (ho:x.o.size≤3100) (hn:x.n.size≤3100) :
 Calls Tryz.prog 134 #[.string p,.bool plain,.int .i64 n,gm x] w fun r w'=>r=.returned (.tuple #[.string (j6 p plain n x).1,.bool (j6 p plain n x).2.1,.int .i64 (j6 p plain n x).2.2])∧Below w.heap.size w w':=by
 have hE:=fun W=>fY x W ho hn;have HP:=Lib.hid (fun W=>ib p W hp);have HN:=Lib.hid (fun W=>qM n W);by_cases h0:aw [cM p,uH n,gj x]=0
 · have hz:=(aS _).1 h0
   have z1:cM p=0:=hz _ bm;have z2:uH n=0:=hz _ bm;have z3:gj x=0:=hz _ bm;have hps:=pageE_zero.1 z1;have hok:=(gZ x).1 z3;have hin:bD n 1 2147483647=true:=(aD au).1 z2;have hin':=inB_true.1 hin;have hval:=Cr (plain:=plain) hps hin z3;have hA:=fun W=>r6 p x W hps hok;have hL:=fun W=>Ap p W hps;have hWL:=fun W=>nW (fC p x) n W (iE hps hok) ab ab
   have h1:(aw [cM p,uH n,gj x] != 0)=false:=by rw[h0];rfl
   obtain⟨q,hq⟩:∃q,q=fC p x:=⟨_,rfl⟩;obtain⟨f,hf⟩:∃f,f=dY p x:=⟨_,rfl⟩;obtain⟨m,hm⟩:∃m,m=DL p:=⟨_,rfl⟩;have hm':FJ p=m:=hm.symm;have hwl:xr q n=EP q n:=rfl;rw[hm',←hq,←hf,hwl] at hval;rw[←hq,←hf] at hA;rw[←hm] at hL;rw[←hq] at hWL;rw[hval];obtain⟨e1,he1⟩:∃e,e=cM p:=⟨_,rfl⟩;obtain⟨e2,he2⟩:∃e,e=uH n:=⟨_,rfl⟩;obtain⟨e3,he3⟩:∃e,e=gj x:=⟨_,rfl⟩;have hP:=HP.out;have hN:=HN.out;rw[←he1] at hP h1;rw[←he2] at hN h1;rw[←he3] at hE h1;have HE:=Lib.hid hE;have HP:=Lib.hid hP;have HN:=Lib.hid hN;have HA:=Lib.hid hA;have HL:=Lib.hid hL;have HWL:=Lib.hid hWL;clear hE hP hN hA hL hWL h0 hz z1 z2 z3 hps hok hin hin' hval hq hf hm hm' hwl he1 he2 he3;unfold gm at *
   cases plain
   · by_cases hle:n≤m
     · go_enter Tryz.func134,Tryz.ntmps134
       go_wp2_with fail
       (refine cP 6 aa aa ?_;simp only[List.take_succ_cons,List.take_zero,List.drop_succ_cons,List.drop_zero];(repeat (go_big_quiet_step ((first | (go_at_call 150;exact Calls.reg_pure (HP.out _)) | (go_at_call 203;exact Calls.reg_pure (HN.out _)) | (go_at_call 144;(with_reducible exact Calls.regrown_of (HE.out _)))))));(with_reducible refine wpQuiet_nil ?_);intro W1 hreg;have hbW1:=bY hreg;clear hreg;obtain⟨hcW1,hfW1⟩:=cE hbW1)
       have hsW1:w.heap.size<W1.heap.size:=by have h:=hbW1.size;simp at h;omega
       go_wp2_with (first | (go_at_call 143;refine(bH [_,_,_] W1 bm).mono ?_;rintro e w' ⟨rfl,rfl⟩) | (go_at_call 204;(with_reducible refine(HL.out _).mono ?_);rintro e W2 ⟨rfl,hbW2⟩;obtain⟨hcW2,hfW2⟩:=cE hbW2))
       go_ret3
       exact⟨mO rfl rfl rfl,fh⟩
     · cases f
       all_goals
        go_enter Tryz.func134,Tryz.ntmps134
        go_wp2_with fail
        (refine cP 6 aa aa ?_;simp only[List.take_succ_cons,List.take_zero,List.drop_succ_cons,List.drop_zero];(repeat (go_big_quiet_step ((first | (go_at_call 150;exact Calls.reg_pure (HP.out _)) | (go_at_call 203;exact Calls.reg_pure (HN.out _)) | (go_at_call 144;(with_reducible exact Calls.regrown_of (HE.out _)))))));(with_reducible refine wpQuiet_nil ?_);intro W1 hreg;have hbW1:=bY hreg;clear hreg;obtain⟨hcW1,hfW1⟩:=cE hbW1)
        have hsW1:w.heap.size<W1.heap.size:=by have h:=hbW1.size;simp at h;omega
        go_wp2_with (first | (go_at_call 143;refine(bH [_,_,_] W1 bm).mono ?_;rintro e w' ⟨rfl,rfl⟩) | ((go_at_call 204;(with_reducible refine(HL.out _).mono ?_);rintro e W2 ⟨rfl,hbW2⟩;obtain⟨hcW2,hfW2⟩:=cE hbW2);have hsW2:w.heap.size<W2.heap.size:=(by have h:=hbW2.size;(try simp at h);omega)) | (go_at_call 205;(with_reducible refine(HA.out _).mono ?_);rintro e W3 ⟨rfl,hbW3⟩;obtain⟨hcW3,hfW3⟩:=cE hbW3) | (go_at_call 153;(with_reducible refine(HWL.out _).mono ?_);rintro e W4 ⟨rfl,hbW4⟩;obtain⟨hcW4,hfW4⟩:=cE hbW4))
        go_ret3
        exact⟨mO rfl rfl rfl,fh⟩
   · obtain⟨d,hd⟩:∃d,d=(!(bl q==bl p)):=⟨_,rfl⟩
     rw[←hd,if_pos rfl];have HD:=Lib.hid hd;clear hd;by_cases hk:x.k=2∨x.k=3
     · rw[if_pos hk]
       cases hk2:(x.k==2)
       · have hk3:(x.k==3)=true:=by
          rcases hk with h | h
          · rw[h] at hk2;cases hk2
          · rw[h];rfl
         clear hk
         go_enter Tryz.func134,Tryz.ntmps134
         go_wp2_with fail
         (refine cP 6 aa aa ?_;simp only[List.take_succ_cons,List.take_zero,List.drop_succ_cons,List.drop_zero];(repeat (go_big_quiet_step ((first | (go_at_call 150;exact Calls.reg_pure (HP.out _)) | (go_at_call 203;exact Calls.reg_pure (HN.out _)) | (go_at_call 144;(with_reducible exact Calls.regrown_of (HE.out _)))))));(with_reducible refine wpQuiet_nil ?_);intro W1 hreg;have hbW1:=bY hreg;clear hreg;obtain⟨hcW1,hfW1⟩:=cE hbW1)
         have hsW1:w.heap.size<W1.heap.size:=by have h:=hbW1.size;simp at h;omega
         go_wp2_with (first | (go_at_call 143;refine(bH [_,_,_] W1 bm).mono ?_;rintro e w' ⟨rfl,rfl⟩) | (go_at_call 205;(with_reducible refine(HA.out _).mono ?_);rintro e W3 ⟨rfl,hbW3⟩;obtain⟨hcW3,hfW3⟩:=cE hbW3))
         go_ret3
         exact⟨mO rfl rfl rfl,fh⟩
       · clear hk
         go_enter Tryz.func134,Tryz.ntmps134
         go_wp2_with fail
         (refine cP 6 aa aa ?_;simp only[List.take_succ_cons,List.take_zero,List.drop_succ_cons,List.drop_zero];(repeat (go_big_quiet_step ((first | (go_at_call 150;exact Calls.reg_pure (HP.out _)) | (go_at_call 203;exact Calls.reg_pure (HN.out _)) | (go_at_call 144;(with_reducible exact Calls.regrown_of (HE.out _)))))));(with_reducible refine wpQuiet_nil ?_);intro W1 hreg;have hbW1:=bY hreg;clear hreg;obtain⟨hcW1,hfW1⟩:=cE hbW1)
         have hsW1:w.heap.size<W1.heap.size:=by have h:=hbW1.size;simp at h;omega
         go_wp2_with (first | (go_at_call 143;refine(bH [_,_,_] W1 bm).mono ?_;rintro e w' ⟨rfl,rfl⟩) | (go_at_call 205;(with_reducible refine(HA.out _).mono ?_);rintro e W3 ⟨rfl,hbW3⟩;obtain⟨hcW3,hfW3⟩:=cE hbW3))
         go_ret3
         exact⟨mO rfl rfl rfl,fh⟩
     · rw[if_neg hk]
       have hk2:(x.k==2)=false:=by rw[beq_eq_false_iff_ne];exact fun h=>hk (.inl h)
       have hk3:(x.k==3)=false:=by rw[beq_eq_false_iff_ne];exact fun h=>hk (.inr h)
       clear hk
       go_enter Tryz.func134,Tryz.ntmps134
       go_wp2_with fail
       (refine cP 6 aa aa ?_;simp only[List.take_succ_cons,List.take_zero,List.drop_succ_cons,List.drop_zero];(repeat (go_big_quiet_step ((first | (go_at_call 150;exact Calls.reg_pure (HP.out _)) | (go_at_call 203;exact Calls.reg_pure (HN.out _)) | (go_at_call 144;(with_reducible exact Calls.regrown_of (HE.out _)))))));(with_reducible refine wpQuiet_nil ?_);intro W1 hreg;have hbW1:=bY hreg;clear hreg;obtain⟨hcW1,hfW1⟩:=cE hbW1)
       have hsW1:w.heap.size<W1.heap.size:=by have h:=hbW1.size;simp at h;omega
       go_wp2_with (first | (go_at_call 143;refine(bH [_,_,_] W1 bm).mono ?_;rintro e w' ⟨rfl,rfl⟩) | (go_at_call 205;(with_reducible refine(HA.out _).mono ?_);rintro e W3 ⟨rfl,hbW3⟩;obtain⟨hcW3,hfW3⟩:=cE hbW3))
       go_ret3
       exact⟨mO rfl (by rw[HD.out,←toList_eq,←toList_eq]) rfl,fh⟩
 · obtain⟨er,her⟩:∃e,aw [cM p,uH n,gj x]=e:=⟨_,rfl⟩
   have hne:er≠0:=fun h=>h0 (her.trans h);rw[CB her hne];obtain⟨e1,he1⟩:∃e,e=cM p:=⟨_,rfl⟩;obtain⟨e2,he2⟩:∃e,e=uH n:=⟨_,rfl⟩;obtain⟨e3,he3⟩:∃e,e=gj x:=⟨_,rfl⟩;have hP:=HP.out;have hN:=HN.out;rw[←he1] at hP her;rw[←he2] at hN her;rw[←he3] at hE her
   have h1:(aw [e1,e2,e3] != 0)=true:=by rw[her];simp[hne]
   have HE:=Lib.hid hE;have HP:=Lib.hid hP;have HN:=Lib.hid hN;have HER:=Lib.hid her;clear hE hP hN h0 her hne he1 he2 he3;unfold gm at *
   go_enter Tryz.func134,Tryz.ntmps134
   go_wp2_with fail
   (refine cP 6 aa aa ?_;simp only[List.take_succ_cons,List.take_zero,List.drop_succ_cons,List.drop_zero];(repeat (go_big_quiet_step ((first | (go_at_call 150;exact Calls.reg_pure (HP.out _)) | (go_at_call 203;exact Calls.reg_pure (HN.out _)) | (go_at_call 144;(with_reducible exact Calls.regrown_of (HE.out _)))))));(with_reducible refine wpQuiet_nil ?_);intro W1 hreg;have hbW1:=bY hreg;clear hreg;obtain⟨hcW1,hfW1⟩:=cE hbW1)
   go_wp2_with (first | (go_at_call 143;refine(bH [_,_,_] W1 bm).mono ?_;rintro e w' ⟨rfl,rfl⟩))
   go_ret3
   exact⟨mO rfl rfl HER.out,fh⟩
def F4 (p:ByteArray) (n:Int):Int:=aw [cM p,bF (bD n 0 2147483647) 2]
theorem ud (p:ByteArray) (n:Int) (w:World) (hp:p.size≤maxLen) :
 Calls Tryz.prog 97 #[.string p,.int .i64 n] w fun r w'=>r=.returned (.tuple #[.string (if F4 p n=0 then EP p n else ⟨#[]⟩),.int .i64 (F4 p n)])∧Below w.heap.size w w':=by
 have HP:=Lib.hid (fun W=>ib p W hp);by_cases z1:F4 p n=0
 · have hz:=first2_z.1 z1
   have hin:=inB_true.1 ((aD au).1 hz.2);have hL:=fun W=>nW p n W (pageE_zero.1 hz.1) ab ab;rw[z1,if_pos rfl]
   have h1:(aw [cM p,bF (bD n 0 2147483647) 2] != 0)=false:=by
    have:aw [cM p,bF (bD n 0 2147483647) 2]=0:=z1;rw[this];rfl
   have HL:=Lib.hid hL;clear hz hin z1 hL
   go_enter Tryz.func97,Tryz.ntmps97
   go_wp2_with (first | (go_at_call 150;(with_reducible refine(HP.out _).mono ?_);rintro e w' ⟨rfl,rfl⟩) | (go_at_call 152;refine(bn _ _ _ _).mono ?_;rintro e w' ⟨rfl,rfl⟩) | (go_at_call 151;refine(aE _ _ _).mono ?_;rintro e w' ⟨rfl,rfl⟩) | (go_at_call 143;refine(bH [_,_] w bm).mono ?_;rintro e w' ⟨rfl,rfl⟩) | (go_at_call 153;(with_reducible refine(HL.out _).mono ?_);rintro e W1 ⟨rfl,hbW1⟩;obtain⟨hcW1,hfW1⟩:=cE hbW1))
   go_ret2
   exact⟨rfl,fh⟩
 · rw[if_neg z1]
   have h1:(aw [cM p,bF (bD n 0 2147483647) 2] != 0)=true:=by
    rw[bne_iff_ne];exact z1
   clear z1
   go_enter Tryz.func97,Tryz.ntmps97
   go_wp2_with (first | (go_at_call 150;(with_reducible refine(HP.out _).mono ?_);rintro e w' ⟨rfl,rfl⟩) | (go_at_call 152;refine(bn _ _ _ _).mono ?_;rintro e w' ⟨rfl,rfl⟩) | (go_at_call 151;refine(aE _ _ _).mono ?_;rintro e w' ⟨rfl,rfl⟩) | (go_at_call 143;refine(bH [_,_] w bm).mono ?_;rintro e w' ⟨rfl,rfl⟩))
   go_ret2
   exact⟨rfl,fh⟩
open Go.RowKit Go.Sort Go.Shelf
theorem oW (l:List Pgp):(l.flatMap cS).length=l.length*3:=by rw[iH bZ,Nat.mul_comm]
theorem BR (l:List Pgp):∀u∈l.flatMap cS,u.oneCell'=true:=fun u a=>by
 obtain⟨x,_,hx⟩:=List.mem_flatMap.1 a;exact Dt x u hx
theorem vt (A:Option Addr) (c:Nat) (w:World) :
 Calls Tryz.prog 82 #[.slice A 0 c] w fun e b=>∃a,e=.returned (.slice a 0 0)∧b.ownsRow w.heap.size 111 3 (.slice a 0 0) 0 []∧Below w.heap.size w b:=by
 refine aq (N:=8) Tryz.func82 rfl rfl rfl (fun _ Y=>?_);have Z:=St.init w;refine GO 9 ?_;intro _ Y;refine sv Y (oI ke aa (Y.ev rfl) (Y.ev rfl)) fun _ Y=>?_;refine ah (aj ?_);refine ak (Y.ev rfl) (fun d=>?_) (fun d=>?_)
 ·
  refine GO 7 ?_;intro _ Y;refine aI Y rfl rfl ?_;exact⟨none,rfl,World.ownsRow_nil _ _ _ _,Z.below⟩
 ·
  refine wp_skip (aj (ai (an ?_)));refine cX (zc:=vn) (sz:=3) Y (wn rfl) ⟨rfl,rfl⟩ rfl ke aa aa rfl rfl rfl (Y.evs2 rfl) rfl rfl rfl Z fun f _ _ g Y Z=>GO 1 ?_;intro _ Y;refine k5 (sz:=3) Y (wn rfl) ⟨rfl,rfl⟩ rfl ke aa (Y.ev rfl) (Y.ev rfl) fun _ Y=>GO 4 ?_;intro _ Y;refine aI Y rfl rfl ?_;have Z:=Z.toRow (i:=0) (n:=0) (sz:=3) rfl rfl au;exact⟨_,rfl,Z.ownB (i:=0) rfl,Z.below⟩
theorem py (l:List Pgp) (A:Option Addr) (c:Nat) (w:World) (hr:Rd w w.heap.size A (l.flatMap cS)) (h:l.length≤1000) :
 Calls Tryz.prog 82 #[.slice A l.length c] w fun e g=>∃d k,e=.returned (.slice d l.length k)∧g.ownsRow w.heap.size 111 3 (.slice d l.length k) l.length (l.flatMap cS)∧Below w.heap.size w g:=by
 rcases Nat.eq_zero_or_pos l.length with f | f
 · have a:l=[]:=List.eq_nil_of_length_eq_zero f
   subst a;exact(vt A c w).mono fun e g ⟨d,p,m,r⟩=>⟨d,0,p,m,r⟩
 refine aq (N:=8) Tryz.func82 rfl rfl rfl (fun _ f=>?_);have Z:=St.init w;refine GO 9 ?_;intro _ Y;refine sv Y (oI ke aa (Y.ev rfl) (Y.ev rfl)) fun _ Y=>?_;refine ah (aj ?_);refine ak (Y.ev rfl) (fun j=>?_) (fun j=>?_)
 ·
  exfalso
  obtain⟨b,o,rfl,_⟩:=hr.opened (by rw[oW];omega)
  cases j
 ·
  refine wp_skip (aj (ai (an ?_)));refine cX (zc:=vn) (sz:=3) Y (wn rfl) ⟨rfl,rfl⟩ rfl ke aa aa rfl rfl rfl (Y.evs2 rfl) rfl rfl rfl Z fun s _ _ u Y Z=>GO 1 ?_;intro _ Y;have Z:=Z.toRow (i:=0) (n:=0) (sz:=3) rfl rfl au;refine bP (z:=.agg #[ae 0,.bool false,.string ⟨#[]⟩]) (sz:=3) (bytes:=32) Y (wn rfl) ⟨rfl,rfl⟩ rfl ke aa rfl rfl (Y.ev rfl) (Y.ev rfl) Z (i:=0) rfl (Z.rd0 hr) (oW l) (BR l) ⟨ab,by decide⟩ fun t v _ _ Y Z=>?_;refine GO 4 ?_;intro _ Y;refine aI Y rfl rfl ?_;have q:=Z.ownB (i:=0) rfl;rw[Nat.zero_add] at q;exact⟨_,_,by rw[Nat.zero_add],q,Z.below⟩
theorem St.rdBase {M:List Nat} {w X:World} {L:List Ent} {B:Nat} (h:St M w X L) (c:∀b∈M,B≤b) (hB:B≤w.heap.size) {A:Option Addr} {xs:List Value} (hr:Rd w B A xs):Rd X B A xs:=fun j u d=>by
 obtain⟨b,o,f,e,h3⟩:=hr j u d;exact⟨b,o,f,e,(World.cell?_of_block (w:=w) (a:=⟨b,o+j,none⟩) (h.block b ab (fun hm=>by have:=c b hm;omega))).trans h3⟩
theorem AU {q:ByteArray} {f:Bool} {n:Int} {x:Op} (c:q.size=512) (h:(j6 q f n x).2.2=0):(j6 q f n x).1.size=512:=by
 unfold j6 at h ⊢
 split at h
 · rename_i a;exact absurd h a
 · rename_i a
   rw[if_neg a];have d:aw [cM q,pS n,gj x]=0:=ar a;rw[aS] at d;have e:=(gZ x).1 (d _ (.tail _ (.tail _ (.head _))))
   split at h
   · rename_i b
     rw[if_pos b]
     split at h
     · cases h
     · rename_i h3;rw[if_neg h3];exact iE c e
   · rename_i b
     rw[if_neg b]
     split at h
     · rename_i h3;rw[if_pos h3];exact c
     · rename_i h3
       rw[if_neg h3]
       split at h
       · rename_i g;rw[if_pos g];exact rX (iE c e)
       · cases h
theorem Be (t:Tbl) (x:Rcd):((!eh x.e||!(dS t.ds x.e.g).isSome)||decide (x.l<((dS t.ds x.e.g).getD ⟨0,false,0⟩).l))=!wJ t x:=by
 unfold wJ
 cases eh x.e with
 | false=>rfl
 | true=>
  cases dS t.ds x.e.g with
  | none=>rfl
  | some d=>
   show decide (x.l<d.l)=!decide (d.l≤x.l);by_cases h:x.l<d.l
   · rw[decide_eq_true h,decide_eq_false ab];rfl
   · rw[decide_eq_false h,decide_eq_true ab];rfl
theorem sE {l:List Pgp} (h:cC Pgp.g l) {k:Nat} (a:k<l.length) (s:ByteArray):(gW l l[k].g s).flatMap cS=(l.flatMap cS).take (k*3+2) ++ [.string s] ++ (l.flatMap cS).drop (k*3+2+1):=by
 rw[CJ h a]
 have d:l=l.take k ++ l[k]::l.drop (k+1):=by rw[←List.drop_eq_getElem_cons a,List.take_append_drop]
 have c:(l.set k ⟨l[k].g,l[k].f,s⟩)=l.take k ++ ⟨l[k].g,l[k].f,s⟩::l.drop (k+1):=List.set_eq_take_append_cons_drop .. |>.trans (by rw[if_pos a])
 have h3:((l.take k).flatMap cS).length=k*3:=by rw[oW,List.length_take];omega
 have e:l.flatMap cS=(l.take k).flatMap cS ++ ([Value.int .i64 l[k].g,.bool l[k].f] ++ (Value.string l[k].b::(l.drop (k+1)).flatMap cS)):=by
  conv=>lhs;rw[d]
  rw[List.flatMap_append,List.flatMap_cons];rfl
 rw[c,List.flatMap_append,List.flatMap_cons,e]
 have i:((l.take k).flatMap cS ++ ([Value.int .i64 l[k].g,.bool l[k].f] ++ (Value.string l[k].b::(l.drop (k+1)).flatMap cS))).take (k*3+2)=(l.take k).flatMap cS ++ [Value.int .i64 l[k].g,.bool l[k].f]:=by
  rw[List.take_append,h3,List.take_of_length_le ab]
  congr 1
  rw[show k*3+2-k*3=2 by omega];rfl
 have e2:((l.take k).flatMap cS ++ ([Value.int .i64 l[k].g,.bool l[k].f] ++ (Value.string l[k].b::(l.drop (k+1)).flatMap cS))).drop (k*3+2+1)=(l.drop (k+1)).flatMap cS:=by
  rw[List.drop_append,h3,List.drop_of_length_le ab,List.nil_append,show k*3+2+1-k*3=3 by omega];rfl
 rw[i,e2,List.append_assoc,List.append_assoc];rfl
theorem sq {l:List Pgp} {A:Option Addr} {n:Int} {w:World} {B:Nat} (c:cC Pgp.g l) (hr:Rd w B A (l.flatMap cS)) {y:Pgp} (h:lu l n=some y):(pj A l n).isNone=false:=by
 have a:lI Pgp.g l n=true:=by unfold lI;rw[show cF Pgp.g l n=some y from h];rfl
 obtain⟨d,_,_⟩:=kE c a;obtain⟨b,o,rfl,_⟩:=hr.opened (aQ bZ au ab);unfold pj;rw[if_pos a];rfl
theorem ym {w:World} {d sz n c b o:Nat} {T:TypeId} {xs:List Value} (h:w.ownsRow d T sz (.slice (some ⟨b,o,none⟩) n c) n xs):o=0:=by
 rcases h.2 with ⟨a,_⟩ | ⟨g,cap,cur,a,_⟩
 · cases a
 · injection a with a
   injection a with a;injection a
theorem yB {p:List Pgp} {x:Rcd} (h:kI p x=0) (a:eh x.e=true):∃q,lu p x.e.g=some q∧q.f=x.e.f:=by
 unfold kI at h;rw[if_pos a] at h
 cases hq:lu p x.e.g with
 | none=>rw[hq] at h;cases h
 | some q=>
  rw[hq] at h;exact⟨q,rfl,by simpa using (aD au).1 h⟩
theorem mX (p:List Pgp) (g:Int) (s:ByteArray) (x:Rcd):kI (gW p g s) x=kI p x:=by
 unfold kI
 split
 · rw[Bs]
   by_cases h:x.e.g=g
   · subst h
     rw[if_pos rfl]
     cases lu p x.e.g<;>rfl
   · rw[if_neg h]
 · rfl
theorem EZ {t:Tbl} {x:Rcd} (h:wJ t x=true):eh x.e=true:=by
 unfold wJ at h;exact(Bool.and_eq_true_iff.1 h).1
structure RdoS where
 j:Nat
 p:List Pgp
 n:Int
theorem BU (t:Tbl) (U:Option Addr) (tc:Nat) (T:Option Addr) (td:Nat) (p:List Pgp) (A:Option Addr) (c:Nat) (l:List Rcd) (B:Option Addr) (d:Nat) (I:Nat) (w:World) (y:I≤w.heap.size)
 (ho:w.ownsRow I 111 3 (.slice A p.length c) p.length (p.flatMap cS)) (hq:Rd w I B (l.flatMap cm)) (Vc:Rd w I U (t.ts.flatMap cc)) (Jy:Rd w I T (t.ds.flatMap cw)) (hs:SrtT t) (Vd:t.ts.length≤1000∧t.ds.length≤1000)
 (hp:PgsOk p) (hl:l.length≤1000) (hx:∀x∈l,FewE x.e∧I6 x.e.g) (hf:∀x∈l,kI p x=0) :
 Calls Tryz.prog 83 #[.slice A p.length c,.slice B l.length d,bW t U tc T td] w fun e w'=>∃p':List Pgp,e=.returned (.tuple #[ae (jL t p 0 l).2.1,ae (jL t p 0 l).2.2])∧(p'.length=p.length∧((jL t p 0 l).2.2=0→p'=(jL t p 0 l).1))∧St (Value.slice A p.length c).ownBlock.toList w w' [.row (.slice A p.length c) p.length 111 3 (p'.flatMap cS)]:=by
 have V:∀b∈(Value.slice A p.length c).ownBlock.toList,I≤b:=fun b hb=>(World.ownsRow.lt ho b (ar hb)).1;have P:=a6 ho (Nat.zero_le _);refine aq (N:=87) Tryz.func83 rfl rfl rfl (fun _ Y=>?_);have Z:=St.initO P;refine ai (an ?_);refine nb Y rfl rfl Z fun b5 _ _ Zq Y Z=>GO 6 ?_;intro _ Y;refine sv (v:=bW t U tc T td) Y (ag aa aa (Y.ev rfl) (Z.cellsAll (i:=0) rfl)) fun _ Y=>?_;refine df Y (wn rfl) (az bc (Y.evs rfl) rfl) rfl rfl Z (n0 t U tc T td _ ((Z.rdBase V y Vc).mono (Nat.le_trans y Z.size)) ((Z.rdBase V y Jy).mono (Nat.le_trans y Z.size)) hs Vd) fun Ve _ _ Y Z=>GO 1 ?_;intro _ Y;refine sv Y (fy 1 (Y.ev rfl)) fun _ Y=>?_;refine sv Y (lx (Y.ev rfl) (Z.cell (i:=0) (j:=1) rfl rfl)) fun _ Y=>?_;refine GO 17 ?_;intro _ Y;refine aY Y Z [24,23,8,0] (fun (q:RdoS)=>[(25,ae q.j),(9,ae q.n)]) (fun (q:RdoS)=>q.j≤l.length∧jL t p 0 l=jL t q.p q.n (l.drop q.j)∧PgsOk q.p∧q.p.length=p.length∧0≤q.n∧q.n≤q.j∧(∀x∈l,kI q.p x=0)) (fun q L=>L.set 4 (.row (.slice A p.length c) p.length 111 3 (q.p.flatMap cS))) (fun (q:RdoS)=>l.length-q.j) (⟨0,p,0⟩) (⟨Nat.zero_le _,rfl,hp,rfl,Int.le_refl 0,Int.le_refl 0,hf⟩) bN (Z) ?_;intro q _ _ Zc Y Z;refine GO 6 ?_;intro _ Y;refine ak (Y.ev rfl) (fun Zd=>?_) (fun Zd=>?_)
 ·
  have r:q.j<l.length:=by have:=of_decide_eq_true Zd;omega
  obtain⟨b5,o5,rfl,Vf,_⟩:=hq.opened (aQ aO au ab);have Vb:l.drop q.j=l[q.j]::l.drop (q.j+1):=List.drop_eq_getElem_cons r;obtain⟨Q,Jv⟩:=hx _ (List.getElem_mem r);obtain⟨-,a,m,C,M,Vi,E⟩:=Zc;rw[Vb,jL] at a
  have Jx:∀x∈q.p,0≤x.g∧x.g≤600:=fun x hx=>by
   obtain⟨k,hk,rfl⟩:=List.getElem_of_mem hx;exact(m.all k hk).g
  refine wp_skip (aj (ai (wp_block (ai (an ?_)))));refine sv Y (av (i:=q.j) (sz:=14) gk aa (Y.ev rfl) (Y.ev rfl) ab ab rfl) fun _ Y=>?_;refine sv (v:=gV l[q.j]) Y (ag aa aa (Y.ev rfl) (aZ aO (Z.rdBase V y hq) r)) fun _ Y=>?_;refine na (.agg qU) Y rfl Z fun Vj _ _ Zm Y Z=>sw Y Z 0 fun _ Z=>?_;refine GO 6 ?_;intro _ Y;refine vf Y 4 5 fun _ Y=>?_;refine GO 1 ?_;intro _ Y;refine sv Y (aA (v':=.tuple #[fV ((dS t.ds l[q.j].e.g).getD ⟨0,false,0⟩),.bool (dS t.ds l[q.j].e.g).isSome]) (by unfold ru;cases dS t.ds l[q.j].e.g<;>rfl) (pH (z:=.agg ln) pq ew aa (Y.ev rfl) (Y.ev rfl) (Z.at_ (i:=2) rfl))) fun _ Y=>?_;refine GO 3 ?_;intro _ Y;refine na (.agg ln) Y rfl Z fun Vl _ _ Zn Y Z=>sw Y Z 0 fun _ Z=>?_;refine GO 7 ?_;intro _ Y;refine sv (v:=cZ l[q.j].e) Y (ag aa aa (Y.ev rfl) (Z.cellsOf (i:=1) rfl 1 13)) fun _ Y=>?_;refine cN Y rfl Z (ki _ _) fun _ _ Y Z=>?_;refine GO 2 ?_;intro _ Y;apply bI (x:=!(dS t.ds l[q.j].e.g).isSome) Y Z 41 rfl 3 44
  case hf=>
   intro Ze;refine GO 3 ?_;intro _ Y;exact ah ⟨Y.midE 2,Z⟩
  case ht=>
   intro Ze;refine GO 3 ?_;intro _ Y;exact ah ⟨Y.midE 2,Z⟩
  case h=>
   rintro Vh Zr ⟨Zs,Zf⟩
   refine GO 1 ?_;intro _ Y;apply bI (x:=decide (l[q.j].l<((dS t.ds l[q.j].e.g).getD ⟨0,false,0⟩).l)) Y Zf 45 rfl 6 51
   case hf=>
    intro Zg;refine GO 6 ?_;intro _ Y;exact ah ⟨Y.midE 5,Zf⟩
   case ht=>
    intro Zg;refine GO 6 ?_;intro _ Y;exact ah ⟨Y.midE 5,Zf⟩
   case h=>
    rintro Vg Zt ⟨Zo,Zh⟩
    refine ah (aj ?_);refine ak (Zo.ev rfl) (fun R=>?_) (fun R=>?_)
    ·
     have u:wJ t l[q.j]=false:=by rw[Be] at R;simpa using R
     rw[if_neg (by rw[u];decide)] at a;refine GO 9 ?_;intro _ Y;exact⟨⟨q.j+1,q.p,q.n⟩,(by show l.length-(q.j+1)<l.length-q.j;omega),⟨r,a,m,C,M,by show q.n≤((q.j+1:Nat):Int);omega,E⟩,Y.re bN,(Zh.sub (aL 124))⟩
    ·
     have u:wJ t l[q.j]=true:=by rw[Be] at R;simpa using R
     rw[if_pos u] at a;obtain⟨qq,H,Vk⟩:=yB (E _ (List.getElem_mem r)) (EZ u);refine GO 6 ?_;intro _ Y;refine vf Y 4 5 fun _ Y=>?_;refine GO 1 ?_;intro _ Y;refine cN Y rfl Zh (C▸xt q.p m.srt Jx A c l[q.j].e.g Jv _ (Zh.rdOf (i:=6) rfl) (by have:=m.n;omega)) fun _ _ Y Z=>?_;refine GO 1 ?_;intro _ Zi;obtain⟨W,o',rfl,K,q1,q2,J⟩:=pO m.srt (Z.rdOf (i:=6) rfl) (sq m.srt (Z.rdOf (i:=6) rfl) H);obtain rfl:o'=0:=ym P;rw[Nat.zero_add] at J;generalize jN Pgp.g q.p l[q.j].e.g=k at K q1 q2 J
     have Jw:qq=q.p[k]:=by rw[q2] at H;injection H with e;exact e.symm
     subst Jw;rw[q2] at a;simp only[] at a;have Zb:=(m.all k K).b;refine ah (aj (ai ?_));apply aK Zi (fA 20) _ aa
     case h=>
      refine qv Zi (fun X D=>aA (v':=.pointer (some ⟨W,k*3,none⟩)) (congrArg Value.pointer J) (bQ (Zi.ev rfl))) fun _ Y=>?_;refine GO 1 ?_;intro _ Y;refine qv Y (fun X D=>fy 2 (Y.ev rfl)) fun _ Y=>?_;refine qv Y (fun X D=>lx (Y.ev rfl) (by have:=(aZ bZ ((Z.grow D).rdOf (i:=6) rfl) K) 2 _ rfl;rw[Nat.zero_add] at this;exact this)) fun _ Y=>?_;refine qv Y (fun X D=>aA (v':=.pointer (some ⟨W,k*3,none⟩)) (congrArg Value.pointer J) (bQ (Y.ev rfl))) fun _ Y=>?_;refine GO 1 ?_;intro _ Y;refine qv Y (fun X D=>fy 1 (Y.ev rfl)) fun _ Y=>?_;refine qv Y (fun X D=>lx (Y.ev rfl) (by have:=(aZ bZ ((Z.grow D).rdOf (i:=6) rfl) K) 1 _ rfl;rw[Nat.zero_add] at this;exact this)) fun _ Y=>?_;refine GO 3 ?_;intro _ Y;refine qv Y (fun X D=>fx 6 7 (Y.ev rfl)) fun _ Y=>?_;refine qv (v:=gm l[q.j].e.o) Y (fun X D=>ag aa aa (Y.ev rfl) ((Z.grow D).cellsOf (i:=1) rfl 7 6)) fun _ Y=>?_;refine jM Y rfl (fun X D=>xp q.p[k].b q.p[k].f l[q.j].l l[q.j].e.o _ (by rw[Zb];decide) Q.o Q.n) fun _ Y=>?_;refine GO 7 ?_;intro _ Y;refine aV fun _ Zj Zp=>?_;have Z:=Z.grow Zj;refine GO 10 ?_;intro _ Y;refine ak (Y.ev rfl) (fun Zk=>?_) (fun Zk=>?_)
      ·
       have O:(j6 q.p[k].b q.p[k].f l[q.j].l l[q.j].e.o).2.2≠0:=ar Zk;rw[if_pos O] at a;refine GO 14 ?_;intro _ Y;refine cd Y rfl rfl rfl ?_;exact⟨q.p,by rw[a];(try rfl),⟨C,fun h=>absurd h (by rw[a];exact O)⟩,(Z.sub (aL 64))⟩
      ·
       have O:(j6 q.p[k].b q.p[k].f l[q.j].l l[q.j].e.o).2.2=0:=ar Zk;rw[if_neg (fun h=>h O)] at a;obtain⟨s,S⟩:∃s,s=(j6 q.p[k].b q.p[k].f l[q.j].l l[q.j].e.o).1:=⟨_,rfl⟩
       have Va:s.size=512:=by rw[S];exact AU Zb O
       have F:=yP m l[q.j].e.g s Va;have G:=sE m.srt K s;rw[q1] at G;rw[←S] at a Y;refine wp_skip (aj (ai (an ?_)));refine sv Y (aA (v':=.pointer (some ⟨W,k*3,none⟩)) (congrArg Value.pointer J) (bQ (Y.ev rfl))) fun _ Y=>?_;refine GO 2 ?_;intro _ Y;refine sv Y (fy 2 (Y.ev rfl)) fun _ Y=>?_;refine mY Y (wn rfl) ⟨rfl,rfl⟩ (Y.ev rfl) (Y.ev rfl) rfl aa Z (i:=6) rfl rfl (by show k*3+2+1≤p.length*3;omega) fun _ Z=>GO 7 ?_;intro _ Y;refine ak (Y.ev rfl) (fun Zl=>?_) (fun Zl=>?_)
       ·
        refine GO 12 ?_;intro _ Y;exact⟨⟨q.j+1,gW q.p l[q.j].e.g s,q.n+1⟩,(by show l.length-(q.j+1)<l.length-q.j;omega),⟨r,by rw[Zl] at a;exact a,F,by rw[gb];exact C,by show 0≤q.n+1;omega,by show q.n+1≤((q.j+1:Nat):Int);omega,fun x hx=>by rw[mX];exact E x hx⟩,Y.re bN,(by show St _ w _ [_,_,_,_,.row _ _ _ _ ((gW q.p l[q.j].e.g s).flatMap cS)];rw[G];exact(Z.sub (aL 124)))⟩
       ·
        refine GO 8 ?_;intro _ Y;exact⟨⟨q.j+1,gW q.p l[q.j].e.g s,q.n⟩,(by show l.length-(q.j+1)<l.length-q.j;omega),⟨r,by rw[Zl] at a;rw[show q.n=q.n+ir false by show q.n=q.n+0;omega];exact a,F,by rw[gb];exact C,M,by show q.n≤((q.j+1:Nat):Int);omega,fun x hx=>by rw[mX];exact E x hx⟩,Y.re bN,(by show St _ w _ [_,_,_,_,.row _ _ _ _ ((gW q.p l[q.j].e.g s).flatMap cS)];rw[G];exact(Z.sub (aL 124)))⟩
     case hB=>kernel_rfl
     case hst=>rfl
 ·
  have Jz:l.length≤q.j:=by have:=of_decide_eq_false Zd;omega
  have a:=Zc.2.1;rw[List.drop_of_length_le Jz,jL] at a;refine GO 13 ?_;intro _ Y;refine cd Y rfl rfl rfl ?_;exact⟨q.p,by rw[a];(try rfl),⟨Zc.2.2.2.1,fun _=>by rw[a]⟩,(Z.sub (aL 16))⟩
theorem oZ {t:Tbl}:∀{l:List Rcd} {p:List Pgp} {n:Int},(jL t p n l).2.2≠0→(jL t p n l).1=[]∧(jL t p n l).2.1=0
 | [],_,_,h=>absurd rfl h
 | x::r,p,n,h=>by
  rw[jL] at h ⊢
  split
  · rename_i a
    rw[if_pos a] at h
    cases hq:lu p x.e.g with
    | none=>exact⟨rfl,rfl⟩
    | some q=>
     rw[hq] at h;simp only[] at h ⊢
     split
     · exact⟨rfl,rfl⟩
     · rename_i b
       rw[if_neg b] at h;exact oZ h
  · rename_i a
    rw[if_neg a] at h;exact oZ h
def uP (l:List Rcd) (t:Tbl) (p:List Pgp):Int:=aw [(eA l).2,dz t,oh l p]
def j8 (l:List Rcd) (t:Tbl) (p:List Pgp):List Pgp × Int × Int:=if uP l t p≠0 then ([],0,uP l t p) else jL t p 0 l
theorem C9 {l:List Rcd} {p:List Pgp} (h:oh l p=0):PgsOk p∧∀x∈l,kI p x=0:=by
 unfold oh at h
 split at h
 · rename_i a;exact absurd h a
 · rename_i a
   refine⟨pgsE1_zero.1 (ar a),fun x hx=>?_⟩;obtain⟨k,b,rfl⟩:=List.getElem_of_mem hx;exact(cY _ _).1 h k b
theorem tu (l:List Rcd) (B:Option Addr) (d:Nat) (t:Tbl) (s:Option Addr) (y:Nat) (r:Option Addr) (u:Nat) (p:List Pgp) (A:Option Addr) (c:Nat) (w:World)
 (hr:Rd w w.heap.size A (p.flatMap cS)) (L:Rd w w.heap.size B (l.flatMap cm)) (E:Rd w w.heap.size s (t.ts.flatMap cc)) (z:Rd w w.heap.size r (t.ds.flatMap cw)) (J:l.length≤1000) (hc:l.length≤d) (K:p.length≤1000) (hF:FolT w) (hx:∀x∈l,FewE x.e∧I6 x.e.g) :
 Calls Tryz.prog 29 #[.slice B l.length d,bW t s y r u,.slice A p.length c] w fun e w'=>∃i:Option Addr × Nat,e=.returned (.tuple #[.slice i.1 (j8 l t p).1.length i.2,ae (j8 l t p).2.1,ae (j8 l t p).2.2]) ∧
  St [] w w' [.row (.slice i.1 (j8 l t p).1.length i.2) (j8 l t p).1.length 111 3 ((j8 l t p).1.flatMap cS)]:=by
 refine aq (N:=39) Tryz.func29 rfl rfl rfl (fun _ Y=>?_);have Z:=St.init w;refine ai (an ?_);refine nb Y rfl rfl Z fun b4 _ _ Zg Y Z=>GO 7 ?_;intro _ Y;apply aK Y (fA 6) _ aa
 case h=>
  refine GO 1 ?_;intro _ Y;refine jM Y rfl (fun X o=>fb l B d _ ((Z.grow o).rd0 L) J hc (hF.below (Z.grow o).below) (fun x hm=>(hx x hm).1)) fun _ Y=>?_;refine qv (v:=bW t s y r u) Y (fun X o=>ag aa aa (Y.ev rfl) ((Z.grow o).cellsAll (i:=0) rfl)) fun _ Y=>?_;refine jM Y rfl (fun X o=>da t s y r u _ ((Z.grow o).rd0 E) ((Z.grow o).rd0 z)) fun _ Y=>?_;refine GO 3 ?_;intro _ Y;refine aV fun _ R Ze=>?_;have Z:=Z.grow R;refine cN Y rfl Z (j2 p l A c B d _ (Z.rd0 hr) (Z.rd0 L) J (fun x hm=>(hx x hm).2)) fun _ _ Y Z=>?_;refine bV Y (wn rfl) (f:=fun b=>.slice (some ⟨b,0,none⟩) 3 3) (bb cT aa aa (Y.evs2 rfl) rfl rfl rfl au au) rfl rfl Z fun Jv _ _ Zf Y Z=>cU Y rfl (gn (Z.at_ (i:=0) rfl)) fun _ Y=>?_;refine GO 9 ?_;intro _ Y;refine ak (Y.ev rfl) (fun H=>?_) (fun H=>?_)
  ·
   have M:uP l t p≠0:=by unfold uP;simpa using H
   have k:j8 l t p=([],0,uP l t p):=by unfold j8;rw[if_pos M]
   refine GO 10 ?_;intro _ Y;refine lE Y rfl rfl rfl rfl ?_;refine⟨(none,0),by rw[k];rfl,?_⟩;rw[k];exact(Z.sub (List.nil_sublist _)).nilRow 111 3
  ·
   have O:uP l t p=0:=by unfold uP;simpa using H
   have k:j8 l t p=jL t p 0 l:=by unfold j8;rw[if_neg (fun h=>h O)]
   have a:=O;unfold uP at a;rw[aS] at a;have V:=a (dz t) bm;obtain⟨W,g2⟩:=C9 (a (oh l p) bm);have q:=tblE_zero.1 V;have Q:=q.n;have T:=q.m;refine GO 5 ?_;intro _ Y;refine oU Y (wn rfl) (az bc (Y.evs rfl) rfl) rfl rfl Z (py p A c _ (Z.rd0 hr) K) (Nat.le_refl _) fun F D _ _ Y Z=>GO 7 ?_;intro _ Y;refine sv (v:=bW t s y r u) Y (ag aa aa (Y.ev rfl) (Z.cellsAll (i:=2) rfl)) fun _ Y=>?_;refine gD Y (wn rfl) (az bc (Y.evs rfl) rfl) rfl rfl Z (i:=0) rfl oQ (BU t s y r u p F D l B d w.heap.size _ Z.size (Z.ownB (i:=0) rfl) (L.below Z.below) (E.below Z.below) (z.below Z.below) q.srt ab W J hx g2) fun U _ _ Y P Z=>?_;refine GO 14 ?_;intro _ Y;refine ak (Y.ev rfl) (fun I=>?_) (fun I=>?_)
   ·
    have G:(jL t p 0 l).2.2≠0:=ar I;obtain⟨u1,S⟩:=oZ G;refine GO 10 ?_;intro _ Y;refine lE Y rfl rfl rfl rfl ?_;refine⟨(none,0),by rw[k,u1,S];rfl,?_⟩;rw[k,u1];exact(Z.sub (List.nil_sublist _)).nilRow 111 3
   ·
    have G:(jL t p 0 l).2.2=0:=ar I;have C:=P.2 G;have j:=P.1;refine GO 12 ?_;intro _ Y;refine lE Y rfl rfl rfl rfl ?_;refine⟨(F,D),by rw[k,←C,j,G];rfl,?_⟩;rw[k,←C,j];exact(Z.sub (aL 1))
 case hB=>kernel_rfl
 case hst=>rfl
end Go.Proofs.YtcfdpfmchchkaaaGreatDoor
