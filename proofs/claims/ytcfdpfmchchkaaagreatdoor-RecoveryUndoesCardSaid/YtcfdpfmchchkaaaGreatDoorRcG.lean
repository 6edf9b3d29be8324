/- Chapter 22 -/
import Derived.Test.YtcfdpfmchchkaaaGreatDoorRcF
namespace Go.Proofs.YtcfdpfmchchkaaaGreatDoor
set_option maxRecDepth 100000
set_option maxHeartbeats 2000000
set_option linter.unusedVariables false
set_option linter.unusedSimpArgs false
open Go.RowKit Go.Sort Go.Shelf
theorem vX (x:Pgp) (n:Int) (w:World):bu 148 #[uT x,ae n] w (ae (IntKind.i64.wrap (x.g-n))):=by
 refine an (N:=9) Tryz.func148 rfl rfl rfl (fun _ Y=>?_);have Z:=St.init w;refine aj (aq ?_);refine nb Y rfl rfl Z fun b _ _ a Y Z=>GO 8 ?_;intro _ Y;refine sv Y (ur (Y.ev rfl) (Y.ev rfl)) fun _ Y=>?_;refine GO 4 ?_;intro _ Y;refine aC Y rfl rfl ?_;exact⟨rfl,Z.below⟩
theorem Ho {x n:Int} (hx:0≤x∧x≤600) (a:I6 n):(IntKind.i64.wrap (x-n)=0↔x=n)∧(0≤n∧n≤600→IntKind.i64.wrap (x-n)=x-n):=by
 unfold I6 at a;rw[IntKind.wrap_i64]
 constructor
 · omega
 · intro h;omega
def zB (l:List Pgp) (n:Int) (i:Nat):Bool:=match l[i]? with | some x=>IntKind.i64.wrap (x.g-n)==0 | none=>false
theorem EZ (l:List Pgp) (H:cH Pgp.g l) (a:∀x∈l,0≤x.g∧x.g≤600) (A:Option Addr) (c:Nat) (n:Int) (C:I6 n) (w:World) (hr:Rd w w.heap.size A (l.flatMap bX)) (F:l.length≤1000) :
 Calls Tryz.prog 147 #[.slice A l.length c,ae n,.func (.func 148) #[] #[]] w fun e S=>∃i:Nat,e=.returned (.tuple #[ae i,.bool (nC Pgp.g l n)])∧(nC Pgp.g l n=true→i=jU Pgp.g l n)∧Below w.heap.size w S:=by
 have I:=List.pairwise_iff_getElem.1 H;refine an (N:=49) Tryz.func147 rfl rfl rfl (fun _ Y=>?_);have Z:=St.init w;refine GO 16 ?_;intro _ d;refine GO 6 ?_;intro _ Y;refine aV Y Z [8,7,6,0,1,2] (fun (q:Nat × Nat)=>[(9,ae (q.1:Nat)),(10,ae (q.2:Nat))]) (fun (q:Nat × Nat)=>q.1≤q.2∧q.2≤l.length∧(0≤n∧n≤600→(∀k (a:k<l.length),k<q.1→l[k].g<n)∧(∀k (a:k<l.length),q.2≤k→n≤l[k].g))) (fun (q:Nat × Nat) L=>L) (fun (q:Nat × Nat)=>q.2-q.1) ((0,l.length)) (⟨Nat.zero_le _,Nat.le_refl _,fun _=>⟨fun k _ h=>absurd h (Nat.not_lt_zero _),fun k a h=>by omega⟩⟩) bC (Z) ?_;intro q _ _ p Y Z;refine GO 8 ?_;intro _ Y;refine ak (Y.ev rfl) (fun u=>?_) (fun u=>?_)
 ·
  have K:q.1<q.2:=by have:=of_decide_eq_true u;omega
  have P:=p.2.1;obtain⟨b,o,rfl,hB,_⟩:=hr.opened (aF aY au ab)
  have hm:(q.1+q.2) / 2<l.length:=by omega
  have y:=a _ (List.getElem_mem hm);obtain⟨j,s⟩:=Ho y C;refine GO 8 ?_;intro _ Y;refine sv Y (cD aa Tryz.underlying215 (Y.ev rfl) (wrap_u64 ab)) fun _ Y=>?_;refine sv Y (qh (n:=1) (Y.ev rfl) (Y.ev rfl) rfl ab) fun _ Y=>?_;refine sv Y (aA (v':=ae (((q.1+q.2) / 2:Nat):Int)) (congrArg _ ab) (cD aa eO (Y.ev rfl) (dz ab))) fun _ Y=>?_;refine GO 8 ?_;intro _ Y;refine sv Y (ar (i:=(q.1+q.2) / 2) (sz:=3) tW aa (Y.ev rfl) (Y.ev rfl) ab ab rfl) fun _ Y=>?_;refine sv (v:=uT l[(q.1+q.2) / 2]) Y (ah aa aa (Y.ev rfl) (aL aY (Z.rd0 hr) hm)) fun _ Y=>?_;refine GO 1 ?_;intro _ Y;refine dO Y (wn rfl) (cG a6 (Y.ev rfl) (Y.evs rfl) rfl) rfl rfl Z (vX _ _ _) fun _ _ Y Z=>GO 3 ?_;intro _ Y;refine ak (Y.ev rfl) (fun D=>?_) (fun D=>?_)
  ·
   have hx:0≤n∧n≤600→l[(q.1+q.2) / 2].g<n:=fun d=>by have:=of_decide_eq_true D;rw[s d] at this;omega
   have E:0≤n∧n≤600→∀k (a:k<l.length),k≤(q.1+q.2) / 2→l[k].g<n:=fun d k a f=>by
    have hx:=hx d;rcases Nat.lt_or_eq_of_le f with h | h
    · have:=I k _ a hm h;omega
    · subst h;exact hx
   refine GO 7 ?_;intro _ Y;exact⟨((q.1+q.2) / 2+1,q.2),(by show q.2-((q.1+q.2) / 2+1)<q.2-q.1;omega),⟨by show(q.1+q.2) / 2+1≤q.2;omega,p.2.1,fun d=>⟨fun k a f=>E d k a (by have:k<(q.1+q.2) / 2+1:=f;omega),(p.2.2 d).2⟩⟩,Y.re bC,Z⟩
  ·
   have hx:0≤n∧n≤600→n≤l[(q.1+q.2) / 2].g:=fun d=>by have:=of_decide_eq_false D;rw[s d] at this;omega
   have B:0≤n∧n≤600→∀k (a:k<l.length),(q.1+q.2) / 2≤k→n≤l[k].g:=fun d k a f=>by
    have hx:=hx d;rcases Nat.lt_or_eq_of_le f with h | h
    · have:=I _ k hm a h;omega
    · subst h;exact hx
   refine GO 6 ?_;intro _ Y;exact⟨(q.1,(q.1+q.2) / 2),(by show(q.1+q.2) / 2-q.1<q.2-q.1;omega),⟨by show q.1≤(q.1+q.2) / 2;omega,by show(q.1+q.2) / 2≤l.length;omega,fun d=>⟨(p.2.2 d).1,fun k a f=>B d k a f⟩⟩,Y.re bC,Z⟩
 ·
  have J:q.1=q.2:=by have:=of_decide_eq_false u;have:=p.1;omega
  refine GO 12 ?_;intro _ Y;apply a8 (x:=zB l n q.1) Y Z 39 rfl 9 48
  case ht=>
   intro t
   have m:q.1<l.length:=by have:=of_decide_eq_true t;omega
   obtain⟨b,o,rfl,hB,_⟩:=hr.opened (aF aY au ab);refine GO 3 ?_;intro _ Y;refine sy Y (ar (i:=q.1) (sz:=3) tW aa (Y.ev rfl) (Y.ev rfl) ab ab rfl) fun _ Y=>?_;refine aU (v:=uT l[q.1]) Y (ao Y _ rfl rfl rfl t) (ah aa aa (Y.ev rfl) (aL aY (Z.rd0 hr) m)) rfl rfl fun _ Y=>GO 1 ?_;intro _ Y;refine dO Y (ao Y _ rfl rfl rfl t) (cG a6 (Y.ev rfl) (Y.evs rfl) rfl) rfl rfl Z (vX _ _ _) fun _ _ Y Z=>sy Y (aA (v':=.bool (zB l n q.1)) (congrArg Value.bool (by unfold zB;rw[List.getElem?_eq_getElem m])) (eV (Y.ev rfl) (Y.ev rfl))) fun _ Y=>?_;refine GO 1 ?_;intro _ Y;exact ag ⟨Y.midE 8,Z⟩
  case hf=>
   intro t;refine GO 9 ?_;intro _ Y;exact ag ⟨Y.midE 8,Z⟩
  case h=>
   rintro M U ⟨T,O⟩
   refine GO 5 ?_;intro _ Y;refine bU Y rfl rfl rfl ?_
   have e:(decide ((q.1:Int)<(l.length:Int))&&zB l n q.1)=nC Pgp.g l n∧(nC Pgp.g l n=true→q.1=jU Pgp.g l n):=by
    by_cases d:0≤n∧n≤600
    · obtain⟨Q,R⟩:=p.2.2 d
      obtain⟨hb1,z⟩:=zq H (n:=n) (i:=q.1) (by have:=p.2.1;omega) Q (fun a=>R q.1 a ab);refine⟨?_,fun _=>hb1.symm⟩;unfold nC;rw[z];by_cases h:q.1<l.length
      · rw[decide_eq_true ab,dif_pos h,Bool.true_and]
        unfold zB;rw[List.getElem?_eq_getElem h];have j:=(Ho (a _ (List.getElem_mem h)) C).1;by_cases r:l[q.1].g=n
        · rw[if_pos r];simp only[];rw[j.2 r];rfl
        · rw[if_neg r];simp only[];rw[beq_eq_false_iff_ne.2 (fun e=>r (j.1 e))];rfl
      · rw[dif_neg h,decide_eq_false ab];rfl
    · have G:nC Pgp.g l n=false:=by
       unfold nC;rw[ef l n (fun x hx r=>d (by rw[←r];exact a x hx))];rfl
      refine⟨?_,fun h=>by rw[G] at h;cases h⟩;rw[G];unfold zB;by_cases h:q.1<l.length
      · rw[List.getElem?_eq_getElem h]
        have j:=(Ho (a _ (List.getElem_mem h)) C).1;simp only[];rw[beq_eq_false_iff_ne.2 (fun e=>d (by rw[←j.1 e];exact a _ (List.getElem_mem h)))];simp
      · rw[List.getElem?_eq_none ab];simp
   exact⟨q.1,by rw[←e.1],e.2,O.below⟩
def qn (A:Option Addr) (l:List Pgp) (n:Int):Option Addr:=if nC Pgp.g l n=true then A.map (fun a=>⟨a.block,a.off+jU Pgp.g l n*3,none⟩) else none
theorem tP (l:List Pgp) (f:cH Pgp.g l) (h:∀x∈l,0≤x.g∧x.g≤600) (A:Option Addr) (c:Nat) (n:Int) (m:I6 n) (w:World) (hr:Rd w w.heap.size A (l.flatMap bX)) (a:l.length≤1000) :
 bu 95 #[.slice A l.length c,ae n] w (.pointer (qn A l n)):=by
 refine an (N:=18) Tryz.func95 rfl rfl rfl (fun _ Y=>?_);have Z:=St.init w;refine GO 9 ?_;intro _ Y;refine Hm Y (wn rfl) (aw a6 (Y.evs rfl) rfl) rfl rfl Z (EZ l f h A c n m _ (Z.rd0 hr) a) fun q _ _ Y k Z=>GO 14 ?_;intro _ Y;refine ak (Y.ev rfl) (fun e=>?_) (fun e=>?_)
 ·
  have d:nC Pgp.g l n=false:=al e;refine GO 7 ?_;intro _ Y;refine aC Y rfl rfl ?_;exact⟨by unfold qn;rw[d];rfl,Z.below⟩
 ·
  have d:nC Pgp.g l n=true:=al e;have j:=k d;obtain⟨p,_,_⟩:=lk f d;rw[j] at Y;obtain⟨b,o,rfl,hB,_⟩:=hr.opened (aF aY au ab);refine GO 6 ?_;intro _ Y;refine sv Y (ar (i:=jU Pgp.g l n) (sz:=3) tW aa (Y.ev rfl) (Y.ev rfl) ab ab rfl) fun _ Y=>?_;refine GO 4 ?_;intro _ Y;refine aC Y rfl rfl ?_;exact⟨by unfold qn;rw[if_pos d];rfl,Z.below⟩
theorem mv {l:List Pgp} (e:cH Pgp.g l) {A:Option Addr} {n:Int} {w:World} {B:Nat} (hr:Rd w B A (l.flatMap bX)) (h:(qn A l n).isNone=false):∃b o,A=some ⟨b,o,none⟩∧∃c:jU Pgp.g l n<l.length,l[jU Pgp.g l n].g=n∧ib l n=some l[jU Pgp.g l n]∧qn A l n=some ⟨b,o+jU Pgp.g l n*3,none⟩:=by
 have a:nC Pgp.g l n=true:=by
  unfold qn at h
  split at h
  · assumption
  · cases h
 obtain⟨c,d,f⟩:=lk e a;obtain⟨b,o,rfl,_⟩:=hr.opened (aF aY au ab);exact⟨b,o,rfl,c,d,f,by unfold qn;rw[if_pos a];rfl⟩
theorem DG {l:List Pgp} {A:Option Addr} {n:Int} {w:World} {B:Nat} (hr:Rd w B A (l.flatMap bX)) (h:(qn A l n).isNone=true):ib l n=none:=by
 rcases Nat.eq_zero_or_pos l.length with a | a
 · rw[List.eq_nil_of_length_eq_zero a];rfl
 · obtain⟨b,o,rfl,_⟩:=hr.opened (aF aY au a)
   unfold qn at h
   split at h
   · cases h
   · rename_i c
     unfold nC at c
     rwa [Bool.not_eq_true,Option.isSome_eq_false_iff,Option.isNone_iff_eq_none] at c
def Bf (l:List Pgp) (i:Nat):Bool:=match da l i with
 | none=>true
 | some y=>match l[i]? with | none=>true | some x=>decide (y.g<x.g)
theorem Bl (p:List Pgp) (A:Option Addr) (c i b:Nat) (T:TypeId) (w:World) (l:Box w b #[.slice A p.length c] T) (hr:Rd w w.heap.size A (p.flatMap bX)) (m:i<p.length) (s:p.length≤100) :
 bu 201 #[ae i,uT p[i],.pointer (some ⟨b,0,none⟩)] w (ae (kA (da p i) p[i])):=by
 obtain⟨b',o',rfl,_⟩:=hr.opened (aF aY au ab);refine an (N:=32) Tryz.func201 rfl rfl rfl (fun _ g=>?_);have Z:=St.init w;refine aj (aq ?_);refine nb g rfl rfl Z fun b4 _ _ t Y Z=>GO 4 ?_;intro _ Y;apply aK Y (fK 23) _ aa
 case h=>
  refine GO 2 ?_;intro _ Y;refine iW Y rfl (fun X a=>cg _ _ _ _) fun _ Y=>?_;refine iW Y rfl (fun X a=>aX _ _ _) fun _ Y=>?_;refine GO 3 ?_;intro _ Y;apply fZ (x:=Bf p i) Y 12 rfl 11 23
  case hf=>
   intro n
   have k:i≠0:=by simp only[beq_eq_false_iff_ne] at n;omega
   have d:i-1<p.length:=by omega
   have j:da p i=some p[i-1]:=by unfold da;rw[if_neg k,List.getElem?_eq_getElem d]
   refine qy Y (fun X a=>(lx (Y.ev rfl) (Box.cells (l.below (Z.grow a).below) 0))) fun _ Y=>?_;refine GO 2 ?_;intro _ Y;refine qy Y (fun X a=>(rn aa (Y.ev rfl) (Y.ev rfl))) fun _ Y=>?_;refine qy Y (fun X a=>(ar (i:=i-1) (sz:=3) tW aa (Y.ev rfl) (Y.ev rfl) ab ab rfl)) fun _ Y=>?_;refine qy Y (fun X a=>(fy 0 (Y.ev rfl))) fun _ Y=>?_;refine qy Y (fun X a=>(lx (Y.ev rfl) ((aL aY ((Z.grow a).rd0 hr) d) 0 _ rfl))) fun _ Y=>?_;refine GO 2 ?_;intro _ Y;refine qy Y (fun X a=>(aA (v':=.bool (Bf p i)) (congrArg Value.bool (by unfold Bf;rw[j,List.getElem?_eq_getElem m])) (nY (Y.ev rfl) (Y.ev rfl)))) fun _ Y=>?_;refine GO 1 ?_;intro _ Y;exact ax (Y.midE 10)
  case ht=>
   intro n;refine GO 11 ?_;intro _ Y;exact ax (Y.midE 10)
  case h=>
   intro _ Y;refine iW Y rfl (fun X a=>aX _ _ _) fun _ Y=>?_;refine GO 5 ?_;intro _ Y;refine aT fun _ o r=>?_;have Z:=Z.grow o;refine dn Y rfl (aX _ _ _) fun _ Y=>?_;refine bV Y (wn rfl) (f:=fun b=>.slice (some ⟨b,0,none⟩) 3 3) (ba dt aa aa (Y.evs2 rfl) rfl rfl rfl au au) rfl rfl Z fun q _ _ u Y Z=>dn Y rfl (fk (Z.at_ (i:=0) rfl)) fun _ Y=>?_;refine GO 4 ?_;intro _ Y;refine aC Y rfl rfl ?_;refine⟨?_,Z.below⟩
   have e:((i:Int)==0||Bf p i)=Bf p i:=by
    rcases Nat.eq_zero_or_pos i with g | g
    · subst g;rfl
    · rw[show((i:Int)==0)=false by rw[beq_eq_false_iff_ne];omega];rfl
   rw[e]
   have e2:((p[i].b.size:Int)==512)=(p[i].b.size==512):=by rw[Bool.eq_iff_iff,beq_iff_eq,beq_iff_eq];omega
   rw[e2];unfold kA Bf;rw[List.getElem?_eq_getElem m]
   cases da p i<;>rfl
 case hB=>kernel_rfl
 case hst=>rfl
theorem Ai (p:List Pgp) (m:cH Pgp.g p) (o:∀x∈p,0≤x.g∧x.g≤600) (A:Option Addr) (c k b:Nat) (T:TypeId) (x:Rcd) (hx:I6 x.e.g) (w:World) (l:Box w b #[.slice A p.length c] T) (hr:Rd w w.heap.size A (p.flatMap bX)) (u:p.length≤100) :
 bu 202 #[ae k,iR x,.pointer (some ⟨b,0,none⟩)] w (ae (fW p x)):=by
 refine an (N:=27) Tryz.func202 rfl rfl rfl (fun _ Y=>?_);have Z:=St.init w;refine aj (aq ?_);refine nb Y rfl rfl Z fun b4 _ _ y a Z=>GO 7 ?_;intro _ Y;refine sv (v:=cy x.e) Y (ah aa aa (Y.ev rfl) (Z.cellsOf (i:=0) rfl 1 13)) fun _ Y=>?_;refine cQ Y rfl Z (jR _ _) fun _ _ Y Z=>?_;refine GO 3 ?_;intro _ Y;refine ak (Y.ev rfl) (fun j=>?_) (fun j=>?_)
 ·
  have a:cb x.e=false:=al j;refine GO 7 ?_;intro _ Y;refine aC Y rfl rfl ?_;exact⟨by unfold fW;rw[a];rfl,Z.below⟩
 ·
  have a:cb x.e=true:=al j;refine wp_skip (ai (aj (aq ?_)));refine sv Y (lx (Y.ev rfl) (Box.cells (l.below Z.below) 0)) fun _ Y=>?_;refine GO 1 ?_;intro _ Y;refine vf Y 4 5 fun _ Y=>?_;refine GO 1 ?_;intro _ Y;refine cQ Y rfl Z (tP p m o A c x.e.g hx _ (Z.rd0 hr) ab) fun _ _ Y Z=>?_;refine GO 7 ?_;intro _ Y;refine sv Y (mZ Tryz.underlying168 aa (Y.ev rfl) (Y.ev rfl)) fun _ Y=>?_;refine ag (ai ?_);refine ak (Y.ev rfl) (fun f=>?_) (fun f=>?_)
  ·
   have s:=DG hr f;refine GO 7 ?_;intro _ Y;refine aC Y rfl rfl ?_;exact⟨by unfold fW;rw[if_pos a,s],Z.below⟩
  ·
   obtain⟨b',o',rfl,r,B,t,q⟩:=mv m hr f;refine wp_skip (ai (aj ?_));apply aK Y (fK 7) _ aa
   case h=>
    refine qv Y (fun X d=>aA (v':=.pointer (some ⟨b',o'+jU Pgp.g p x.e.g*3,none⟩)) (congrArg Value.pointer q) (bD (Y.ev rfl))) fun _ Y=>?_;refine GO 1 ?_;intro _ Y;refine qv Y (fun X d=>fy 1 (Y.ev rfl)) fun _ Y=>?_;refine qv Y (fun X d=>lx (Y.ev rfl) ((aL aY ((Z.grow d).rd0 hr) r) 1 _ rfl)) fun _ Y=>?_;refine GO 1 ?_;intro _ Y;refine qv Y (fun X d=>fx 5 6 (Y.ev rfl)) fun _ Y=>?_;refine GO 2 ?_;intro _ Y;refine aT fun _ n z=>?_;have Z:=Z.grow n;refine sv Y (y6 tX (Y.ev rfl) (Y.ev rfl)) fun _ Y=>?_;refine dn Y rfl (aX _ _ _) fun _ Y=>?_;refine GO 4 ?_;intro _ Y;refine aC Y rfl rfl ?_;exact⟨by unfold fW;rw[if_pos a,t],Z.below⟩
   case hB=>kernel_rfl
   case hst=>rfl
theorem FJ (p:List Pgp) (l:List Rcd) (A:Option Addr) (c:Nat) (B:Option Addr) (d:Nat) (w:World) (hr:Rd w w.heap.size A (p.flatMap bX)) (t:Rd w w.heap.size B (l.flatMap cB)) (s:l.length≤1000) (hx:∀x∈l,I6 x.e.g) :
 bu 133 #[.slice A p.length c,.slice B l.length d] w (ae (ik l p)):=by
 refine an (N:=26) Tryz.func133 rfl rfl rfl (fun _ Y=>?_);have Z:=St.init w;refine aj (aq ?_);refine nb Y rfl rfl Z fun j _ _ u Y Z=>GO 11 ?_;intro _ Y;refine ak (Y.ev rfl) (fun q=>?_) (fun q=>?_)
 ·
  have o:40<p.length:=by have:=of_decide_eq_true q;omega
  have e0:jx p=8:=by unfold jx;rw[if_pos o]
  refine GO 7 ?_;intro _ Y;refine aC Y rfl rfl ?_;exact⟨by unfold ik;rw[if_pos (by rw[e0];decide),e0];(try rfl),Z.below⟩
 ·
  have o:¬40<p.length:=by have:=of_decide_eq_false q;omega
  have e0:jx p=(sR p).2:=by unfold jx;rw[if_neg o]
  refine GO 5 ?_;intro _ Y;refine sv Y (fm (Y.evs rfl) (Y.evs rfl)) fun _ Y=>?_;refine cQ Y rfl Z (wD (fun i x=>kA (da p i) x) p A c 201 [.pointer (some ⟨j,0,none⟩)] _ (Z.rd0 hr) ab a6 (fun X b k a _=>Bl p A c k j _ X (Box.below (Z.at_ (i:=0) rfl) b) ((Z.rd0 hr).below' b) a ab)) fun _ _ Y Z=>?_;refine GO 14 ?_;intro _ Y;refine ak (Y.ev rfl) (fun n=>?_) (fun n=>?_)
  ·
   have m:jx p≠0:=by rw[e0];unfold sR;simpa using n
   refine GO 8 ?_;intro _ Y;refine aC Y rfl rfl ?_;exact⟨by unfold ik;rw[if_pos m,e0];(try rfl),Z.below⟩
  ·
   have m:jx p=0:=by rw[e0];unfold sR;simpa using n
   have f:=pgsE1_zero.1 m
   have r:∀x∈p,0≤x.g∧x.g≤600:=fun x hx=>by
    obtain⟨k,a,rfl⟩:=List.getElem_of_mem hx;exact(f.all k a).g
   refine GO 5 ?_;intro _ Y;refine sv Y (fm (Y.evs rfl) (Y.evs rfl)) fun _ Y=>?_;refine cQ Y rfl Z (wN (fun _ x=>fW p x) l B d 202 [.pointer (some ⟨j,0,none⟩)] _ (Z.rd0 t) s a6 (fun X b k a _=>Ai p f.srt r A c k j _ l[k] (hx _ (List.getElem_mem a)) X (Box.below (Z.at_ (i:=0) rfl) b) ((Z.rd0 hr).below' b) ab)) fun _ _ Y Z=>?_;refine GO 13 ?_;intro _ Y;refine aC Y rfl rfl ?_;exact⟨by unfold ik;rw[if_neg (fun h=>h m)];(try rfl),Z.below⟩
theorem iJ (p:List Pgp) (l:List Rcd) (A:Option Addr) (c:Nat) (B:Option Addr) (d:Nat) (w:World) (hr:Rd w w.heap.size A (p.flatMap bX)) (a:Rd w w.heap.size B (l.flatMap cB)) (b:l.length≤1000) (hx:∀x∈l,I6 x.e.g) :
 bu 81 #[.slice B l.length d,.slice A p.length c] w (ae (ik l p)):=by
 refine an (N:=8) Tryz.func81 rfl rfl rfl (fun _ Y=>?_);have Z:=St.init w;refine GO 9 ?_;intro _ Y;refine cQ Y rfl Z (FJ p l A c B d _ (Z.rd0 hr) (Z.rd0 a) b hx) fun _ _ Y Z=>?_;refine GO 4 ?_;intro _ Y;refine aC Y rfl rfl ?_;exact⟨rfl,Z.below⟩
open Go.RowKit Go.Sort
theorem first2_z {a b:Int}:av [a,b]=0↔a=0∧b=0:=by
 simp only[av]
 by_cases h:a=0<;>by_cases h':b=0<;>simp[h,h']
theorem oF {k:IntKind} {a b:ByteArray} {c d:Bool} {e f:Int} (h:a=b) (h':c=d) (g:e=f):Ending.returned (.tuple #[.string a,.bool c,.int k e])=.returned (.tuple #[.string b,.bool d,.int k f]):=by rw[h,h',g]
theorem Cz {p:ByteArray} {plain:Bool} {n:Int} {x:Op} {a:Int} (h:av [cI p,wP n,gy x]=a) (b:a≠0):kX p plain n x=(⟨#[]⟩,false,a):=by
 unfold kX
 have e:av [cI p,qR n,gy x]=a:=h;rw[e,if_pos b]
theorem x9 (p:ByteArray) (plain:Bool) (n:Int) (x:Op) (w:World) (hp:p.size≤maxLen) (ho:x.o.size≤3100) (hn:x.n.size≤3100) :
 Calls Tryz.prog 134 #[.string p,.bool plain,.int .i64 n,fj x] w fun r w'=>r=.returned (.tuple #[.string (kX p plain n x).1,.bool (kX p plain n x).2.1,.int .i64 (kX p plain n x).2.2])∧Below w.heap.size w w':=by
 have hE:=fun W=>gI x W ho hn;have HP:=Lib.hid (fun W=>iZ p W hp);have HN:=Lib.hid (fun W=>r4 n W);by_cases h0:av [cI p,wP n,gy x]=0
 · have hz:=(aN _).1 h0
   have z1:cI p=0:=hz _ bw;have z2:wP n=0:=hz _ bw;have z3:gy x=0:=hz _ bw;have hps:=pageE_zero.1 z1;have hok:=(gv x).1 z3;have hin:bB n 1 2147483647=true:=(aH au).1 z2;have hin':=inB_true.1 hin;have hval:=Dq (plain:=plain) hps hin z3;have hA:=fun W=>sC p x W hps hok;have hL:=fun W=>AL p W hps;have hWL:=fun W=>oI (ew p x) n W (jK hps hok) ab ab
   have h1:(av [cI p,wP n,gy x] != 0)=false:=by rw[h0];rfl
   obtain⟨q,hq⟩:∃q,q=ew p x:=⟨_,rfl⟩;obtain⟨f,hf⟩:∃f,f=cR p x:=⟨_,rfl⟩;obtain⟨m,hm⟩:∃m,m=Fj p:=⟨_,rfl⟩;have hm':Hl p=m:=hm.symm;have hwl:xV q n=zF q n:=rfl;rw[hm',←hq,←hf,hwl] at hval;rw[←hq,←hf] at hA;rw[←hm] at hL;rw[←hq] at hWL;rw[hval];obtain⟨e1,he1⟩:∃e,e=cI p:=⟨_,rfl⟩;obtain⟨e2,he2⟩:∃e,e=wP n:=⟨_,rfl⟩;obtain⟨e3,he3⟩:∃e,e=gy x:=⟨_,rfl⟩;have hP:=HP.out;have hN:=HN.out;rw[←he1] at hP h1;rw[←he2] at hN h1;rw[←he3] at hE h1;have HE:=Lib.hid hE;have HP:=Lib.hid hP;have HN:=Lib.hid hN;have HA:=Lib.hid hA;have HL:=Lib.hid hL;have HWL:=Lib.hid hWL;clear hE hP hN hA hL hWL h0 hz z1 z2 z3 hps hok hin hin' hval hq hf hm hm' hwl he1 he2 he3;unfold fj at *
   cases plain
   · by_cases hle:n≤m
     · go_enter Tryz.func134,Tryz.ntmps134
       go_wp2_with fail
       (refine cq 6 aa aa ?_;simp only[List.take_succ_cons,List.take_zero,List.drop_succ_cons,List.drop_zero];(repeat (go_big_quiet_step ((first | (go_at_call 150;exact Calls.reg_pure (HP.out _)) | (go_at_call 203;exact Calls.reg_pure (HN.out _)) | (go_at_call 144;(with_reducible exact Calls.regrown_of (HE.out _)))))));(with_reducible refine wpQuiet_nil ?_);intro W1 hreg;have hbW1:=a7 hreg;clear hreg;obtain⟨hcW1,hfW1⟩:=bH hbW1)
       have hsW1:w.heap.size<W1.heap.size:=by have h:=hbW1.size;simp at h;omega
       go_wp2_with (first | (go_at_call 143;refine(bJ [_,_,_] W1 bw).mono ?_;rintro e w' ⟨rfl,rfl⟩) | (go_at_call 204;(with_reducible refine(HL.out _).mono ?_);rintro e W2 ⟨rfl,hbW2⟩;obtain⟨hcW2,hfW2⟩:=bH hbW2))
       go_ret3
       exact⟨oF rfl rfl rfl,du⟩
     · cases f
       all_goals
        go_enter Tryz.func134,Tryz.ntmps134
        go_wp2_with fail
        (refine cq 6 aa aa ?_;simp only[List.take_succ_cons,List.take_zero,List.drop_succ_cons,List.drop_zero];(repeat (go_big_quiet_step ((first | (go_at_call 150;exact Calls.reg_pure (HP.out _)) | (go_at_call 203;exact Calls.reg_pure (HN.out _)) | (go_at_call 144;(with_reducible exact Calls.regrown_of (HE.out _)))))));(with_reducible refine wpQuiet_nil ?_);intro W1 hreg;have hbW1:=a7 hreg;clear hreg;obtain⟨hcW1,hfW1⟩:=bH hbW1)
        have hsW1:w.heap.size<W1.heap.size:=by have h:=hbW1.size;simp at h;omega
        go_wp2_with (first | (go_at_call 143;refine(bJ [_,_,_] W1 bw).mono ?_;rintro e w' ⟨rfl,rfl⟩) | ((go_at_call 204;(with_reducible refine(HL.out _).mono ?_);rintro e W2 ⟨rfl,hbW2⟩;obtain⟨hcW2,hfW2⟩:=bH hbW2);have hsW2:w.heap.size<W2.heap.size:=(by have h:=hbW2.size;(try simp at h);omega)) | (go_at_call 205;(with_reducible refine(HA.out _).mono ?_);rintro e W3 ⟨rfl,hbW3⟩;obtain⟨hcW3,hfW3⟩:=bH hbW3) | (go_at_call 153;(with_reducible refine(HWL.out _).mono ?_);rintro e W4 ⟨rfl,hbW4⟩;obtain⟨hcW4,hfW4⟩:=bH hbW4))
        go_ret3
        exact⟨oF rfl rfl rfl,du⟩
   · obtain⟨d,hd⟩:∃d,d=(!(bl q==bl p)):=⟨_,rfl⟩
     rw[←hd,if_pos rfl];have HD:=Lib.hid hd;clear hd;by_cases hk:x.k=2∨x.k=3
     · rw[if_pos hk]
       cases hk2:(x.k==2)
       · have hk3:(x.k==3)=true:=by
          rcases hk with h | h
          · rw[h] at hk2;cases hk2
          · rw[h];rfl
         clear hk
         go_enter Tryz.func134,Tryz.ntmps134
         go_wp2_with fail
         (refine cq 6 aa aa ?_;simp only[List.take_succ_cons,List.take_zero,List.drop_succ_cons,List.drop_zero];(repeat (go_big_quiet_step ((first | (go_at_call 150;exact Calls.reg_pure (HP.out _)) | (go_at_call 203;exact Calls.reg_pure (HN.out _)) | (go_at_call 144;(with_reducible exact Calls.regrown_of (HE.out _)))))));(with_reducible refine wpQuiet_nil ?_);intro W1 hreg;have hbW1:=a7 hreg;clear hreg;obtain⟨hcW1,hfW1⟩:=bH hbW1)
         have hsW1:w.heap.size<W1.heap.size:=by have h:=hbW1.size;simp at h;omega
         go_wp2_with (first | (go_at_call 143;refine(bJ [_,_,_] W1 bw).mono ?_;rintro e w' ⟨rfl,rfl⟩) | (go_at_call 205;(with_reducible refine(HA.out _).mono ?_);rintro e W3 ⟨rfl,hbW3⟩;obtain⟨hcW3,hfW3⟩:=bH hbW3))
         go_ret3
         exact⟨oF rfl rfl rfl,du⟩
       · clear hk
         go_enter Tryz.func134,Tryz.ntmps134
         go_wp2_with fail
         (refine cq 6 aa aa ?_;simp only[List.take_succ_cons,List.take_zero,List.drop_succ_cons,List.drop_zero];(repeat (go_big_quiet_step ((first | (go_at_call 150;exact Calls.reg_pure (HP.out _)) | (go_at_call 203;exact Calls.reg_pure (HN.out _)) | (go_at_call 144;(with_reducible exact Calls.regrown_of (HE.out _)))))));(with_reducible refine wpQuiet_nil ?_);intro W1 hreg;have hbW1:=a7 hreg;clear hreg;obtain⟨hcW1,hfW1⟩:=bH hbW1)
         have hsW1:w.heap.size<W1.heap.size:=by have h:=hbW1.size;simp at h;omega
         go_wp2_with (first | (go_at_call 143;refine(bJ [_,_,_] W1 bw).mono ?_;rintro e w' ⟨rfl,rfl⟩) | (go_at_call 205;(with_reducible refine(HA.out _).mono ?_);rintro e W3 ⟨rfl,hbW3⟩;obtain⟨hcW3,hfW3⟩:=bH hbW3))
         go_ret3
         exact⟨oF rfl rfl rfl,du⟩
     · rw[if_neg hk]
       have hk2:(x.k==2)=false:=by rw[beq_eq_false_iff_ne];exact fun h=>hk (.inl h)
       have hk3:(x.k==3)=false:=by rw[beq_eq_false_iff_ne];exact fun h=>hk (.inr h)
       clear hk
       go_enter Tryz.func134,Tryz.ntmps134
       go_wp2_with fail
       (refine cq 6 aa aa ?_;simp only[List.take_succ_cons,List.take_zero,List.drop_succ_cons,List.drop_zero];(repeat (go_big_quiet_step ((first | (go_at_call 150;exact Calls.reg_pure (HP.out _)) | (go_at_call 203;exact Calls.reg_pure (HN.out _)) | (go_at_call 144;(with_reducible exact Calls.regrown_of (HE.out _)))))));(with_reducible refine wpQuiet_nil ?_);intro W1 hreg;have hbW1:=a7 hreg;clear hreg;obtain⟨hcW1,hfW1⟩:=bH hbW1)
       have hsW1:w.heap.size<W1.heap.size:=by have h:=hbW1.size;simp at h;omega
       go_wp2_with (first | (go_at_call 143;refine(bJ [_,_,_] W1 bw).mono ?_;rintro e w' ⟨rfl,rfl⟩) | (go_at_call 205;(with_reducible refine(HA.out _).mono ?_);rintro e W3 ⟨rfl,hbW3⟩;obtain⟨hcW3,hfW3⟩:=bH hbW3))
       go_ret3
       exact⟨oF rfl (by rw[HD.out,←toList_eq,←toList_eq]) rfl,du⟩
 · obtain⟨er,her⟩:∃e,av [cI p,wP n,gy x]=e:=⟨_,rfl⟩
   have hne:er≠0:=fun h=>h0 (her.trans h);rw[Cz her hne];obtain⟨e1,he1⟩:∃e,e=cI p:=⟨_,rfl⟩;obtain⟨e2,he2⟩:∃e,e=wP n:=⟨_,rfl⟩;obtain⟨e3,he3⟩:∃e,e=gy x:=⟨_,rfl⟩;have hP:=HP.out;have hN:=HN.out;rw[←he1] at hP her;rw[←he2] at hN her;rw[←he3] at hE her
   have h1:(av [e1,e2,e3] != 0)=true:=by rw[her];simp[hne]
   have HE:=Lib.hid hE;have HP:=Lib.hid hP;have HN:=Lib.hid hN;have HER:=Lib.hid her;clear hE hP hN h0 her hne he1 he2 he3;unfold fj at *
   go_enter Tryz.func134,Tryz.ntmps134
   go_wp2_with fail
   (refine cq 6 aa aa ?_;simp only[List.take_succ_cons,List.take_zero,List.drop_succ_cons,List.drop_zero];(repeat (go_big_quiet_step ((first | (go_at_call 150;exact Calls.reg_pure (HP.out _)) | (go_at_call 203;exact Calls.reg_pure (HN.out _)) | (go_at_call 144;(with_reducible exact Calls.regrown_of (HE.out _)))))));(with_reducible refine wpQuiet_nil ?_);intro W1 hreg;have hbW1:=a7 hreg;clear hreg;obtain⟨hcW1,hfW1⟩:=bH hbW1)
   go_wp2_with (first | (go_at_call 143;refine(bJ [_,_,_] W1 bw).mono ?_;rintro e w' ⟨rfl,rfl⟩))
   go_ret3
   exact⟨oF rfl rfl HER.out,du⟩
def Fi (p:ByteArray) (n:Int):Int:=av [cI p,bQ (bB n 0 2147483647) 2]
theorem oL (p:ByteArray) (n:Int) (w:World) (hp:p.size≤maxLen) :
 Calls Tryz.prog 97 #[.string p,.int .i64 n] w fun r w'=>r=.returned (.tuple #[.string (if Fi p n=0 then zF p n else ⟨#[]⟩),.int .i64 (Fi p n)])∧Below w.heap.size w w':=by
 have HP:=Lib.hid (fun W=>iZ p W hp);by_cases z1:Fi p n=0
 · have hz:=first2_z.1 z1
   have hin:=inB_true.1 ((aH au).1 hz.2);have hL:=fun W=>oI p n W (pageE_zero.1 hz.1) ab ab;rw[z1,if_pos rfl]
   have h1:(av [cI p,bQ (bB n 0 2147483647) 2] != 0)=false:=by
    have:av [cI p,bQ (bB n 0 2147483647) 2]=0:=z1;rw[this];rfl
   have HL:=Lib.hid hL;clear hz hin z1 hL
   go_enter Tryz.func97,Tryz.ntmps97
   go_wp2_with (first | (go_at_call 150;(with_reducible refine(HP.out _).mono ?_);rintro e w' ⟨rfl,rfl⟩) | (go_at_call 152;refine(bf _ _ _ _).mono ?_;rintro e w' ⟨rfl,rfl⟩) | (go_at_call 151;refine(aJ _ _ _).mono ?_;rintro e w' ⟨rfl,rfl⟩) | (go_at_call 143;refine(bJ [_,_] w bw).mono ?_;rintro e w' ⟨rfl,rfl⟩) | (go_at_call 153;(with_reducible refine(HL.out _).mono ?_);rintro e W1 ⟨rfl,hbW1⟩;obtain⟨hcW1,hfW1⟩:=bH hbW1))
   go_ret2
   exact⟨rfl,du⟩
 · rw[if_neg z1]
   have h1:(av [cI p,bQ (bB n 0 2147483647) 2] != 0)=true:=by
    rw[bne_iff_ne];exact z1
   clear z1
   go_enter Tryz.func97,Tryz.ntmps97
   go_wp2_with (first | (go_at_call 150;(with_reducible refine(HP.out _).mono ?_);rintro e w' ⟨rfl,rfl⟩) | (go_at_call 152;refine(bf _ _ _ _).mono ?_;rintro e w' ⟨rfl,rfl⟩) | (go_at_call 151;refine(aJ _ _ _).mono ?_;rintro e w' ⟨rfl,rfl⟩) | (go_at_call 143;refine(bJ [_,_] w bw).mono ?_;rintro e w' ⟨rfl,rfl⟩))
   go_ret2
   exact⟨rfl,du⟩
open Go.RowKit Go.Sort Go.Shelf
theorem rl (l:List Pgp):(l.flatMap bX).length=l.length*3:=by rw[jS aY,Nat.mul_comm]
theorem Dx (l:List Pgp):∀u∈l.flatMap bX,u.oneCell'=true:=fun u a=>by
 obtain⟨x,_,hx⟩:=List.mem_flatMap.1 a;exact wJ x u hx
theorem xf (A:Option Addr) (c:Nat) (w:World) :
 Calls Tryz.prog 82 #[.slice A 0 c] w fun e b=>∃a,e=.returned (.slice a 0 0)∧b.ownsRow w.heap.size 111 3 (.slice a 0 0) 0 []∧Below w.heap.size w b:=by
 refine an (N:=8) Tryz.func82 rfl rfl rfl (fun _ Y=>?_);have Z:=St.init w;refine GO 9 ?_;intro _ Y;refine sv Y (pN en aa (Y.ev rfl) (Y.ev rfl)) fun _ Y=>?_;refine ag (ai ?_);refine ak (Y.ev rfl) (fun d=>?_) (fun d=>?_)
 ·
  refine GO 7 ?_;intro _ Y;refine aC Y rfl rfl ?_;exact⟨none,rfl,World.ownsRow_nil _ _ _ _,Z.below⟩
 ·
  refine wp_skip (ai (aj (aq ?_)));refine dc (zc:=s8) (sz:=3) Y (wn rfl) ⟨rfl,rfl⟩ rfl en aa aa rfl rfl rfl (Y.evs2 rfl) rfl rfl rfl Z fun g _ _ f Y Z=>GO 1 ?_;intro _ Y;refine lT (sz:=3) Y (wn rfl) ⟨rfl,rfl⟩ rfl en aa (Y.ev rfl) (Y.ev rfl) fun _ Y=>GO 4 ?_;intro _ Y;refine aC Y rfl rfl ?_;have Z:=Z.toRow (i:=0) (n:=0) (sz:=3) rfl rfl au;exact⟨_,rfl,Z.ownB (i:=0) rfl,Z.below⟩
theorem l9 (l:List Pgp) (A:Option Addr) (c:Nat) (w:World) (hr:Rd w w.heap.size A (l.flatMap bX)) (j:l.length≤1000) :
 Calls Tryz.prog 82 #[.slice A l.length c] w fun e f=>∃d c',e=.returned (.slice d l.length c')∧f.ownsRow w.heap.size 111 3 (.slice d l.length c') l.length (l.flatMap bX)∧Below w.heap.size w f:=by
 rcases Nat.eq_zero_or_pos l.length with g | g
 · have a:l=[]:=List.eq_nil_of_length_eq_zero g
   subst a;exact(xf A c w).mono fun e f ⟨d,m,p,k⟩=>⟨d,0,m,p,k⟩
 refine an (N:=8) Tryz.func82 rfl rfl rfl (fun _ g=>?_);have Z:=St.init w;refine GO 9 ?_;intro _ Y;refine sv Y (pN en aa (Y.ev rfl) (Y.ev rfl)) fun _ Y=>?_;refine ag (ai ?_);refine ak (Y.ev rfl) (fun h=>?_) (fun h=>?_)
 ·
  exfalso
  obtain⟨b,o,rfl,_⟩:=hr.opened (by rw[rl];omega)
  cases h
 ·
  refine wp_skip (ai (aj (aq ?_)));refine dc (zc:=s8) (sz:=3) Y (wn rfl) ⟨rfl,rfl⟩ rfl en aa aa rfl rfl rfl (Y.evs2 rfl) rfl rfl rfl Z fun s _ _ t Y Z=>GO 1 ?_;intro _ Y;have Z:=Z.toRow (i:=0) (n:=0) (sz:=3) rfl rfl au;refine bS (z:=.agg GK) (sz:=3) (bytes:=32) Y (wn rfl) ⟨rfl,rfl⟩ rfl en aa rfl rfl (Y.ev rfl) (Y.ev rfl) Z (i:=0) rfl (Z.rd0 hr) (rl l) (Dx l) ⟨ab,by decide⟩ fun u r _ _ Y Z=>?_;refine GO 4 ?_;intro _ Y;refine aC Y rfl rfl ?_;have q:=Z.ownB (i:=0) rfl;rw[Nat.zero_add] at q;exact⟨_,_,by rw[Nat.zero_add],q,Z.below⟩
theorem St.rdBase {M:List Nat} {w X:World} {L:List Ent} {B:Nat} (h:St M w X L) (d:∀b∈M,B≤b) (hB:B≤w.heap.size) {A:Option Addr} {xs:List Value} (hr:Rd w B A xs):Rd X B A xs:=fun j u f=>by
 obtain⟨b,o,c,e,h3⟩:=hr j u f;exact⟨b,o,c,e,(World.cell?_of_block (w:=w) (a:=⟨b,o+j,none⟩) (h.block b ab (fun hm=>by have:=d b hm;omega))).trans h3⟩
theorem zY {q:ByteArray} {f:Bool} {n:Int} {x:Op} (b:q.size=512) (h:(kX q f n x).2.2=0):(kX q f n x).1.size=512:=by
 unfold kX at h ⊢
 split at h
 · rename_i a;exact absurd h a
 · rename_i a
   rw[if_neg a];have e:av [cI q,qR n,gy x]=0:=al a;rw[aN] at e;have d:=(gv x).1 (e _ (.tail _ (.tail _ (.head _))))
   split at h
   · rename_i c
     rw[if_pos c]
     split at h
     · cases h
     · rename_i h3;rw[if_neg h3];exact jK b d
   · rename_i c
     rw[if_neg c]
     split at h
     · rename_i h3;rw[if_pos h3];exact b
     · rename_i h3
       rw[if_neg h3]
       split at h
       · rename_i g;rw[if_pos g];exact nZ (jK b d)
       · cases h
theorem BU (t:Tbl) (x:Rcd):((!cb x.e||!(ey t.ds x.e.g).isSome)||decide (x.l<((ey t.ds x.e.g).getD ⟨0,false,0⟩).l))=!ye t x:=by
 unfold ye
 cases cb x.e with
 | false=>rfl
 | true=>
  cases ey t.ds x.e.g with
  | none=>rfl
  | some d=>
   show decide (x.l<d.l)=!decide (d.l≤x.l);by_cases h:x.l<d.l
   · rw[decide_eq_true h,decide_eq_false ab];rfl
   · rw[decide_eq_false h,decide_eq_true ab];rfl
theorem jP {l:List Pgp} (h:cH Pgp.g l) {k:Nat} (a:k<l.length) (s:ByteArray):(eY l l[k].g s).flatMap bX=(l.flatMap bX).take (k*3+2) ++ [.string s] ++ (l.flatMap bX).drop (k*3+2+1):=by
 rw[B7 h a]
 have c:l=l.take k ++ l[k]::l.drop (k+1):=by rw[←List.drop_eq_getElem_cons a,List.take_append_drop]
 have i:(l.set k ⟨l[k].g,l[k].f,s⟩)=l.take k ++ ⟨l[k].g,l[k].f,s⟩::l.drop (k+1):=List.set_eq_take_append_cons_drop .. |>.trans (by rw[if_pos a])
 have h3:((l.take k).flatMap bX).length=k*3:=by rw[rl,List.length_take];omega
 have d:l.flatMap bX=(l.take k).flatMap bX ++ ([Value.int .i64 l[k].g,.bool l[k].f] ++ (Value.string l[k].b::(l.drop (k+1)).flatMap bX)):=by
  conv=>lhs;rw[c]
  rw[List.flatMap_append,List.flatMap_cons];rfl
 rw[i,List.flatMap_append,List.flatMap_cons,d]
 have e:((l.take k).flatMap bX ++ ([Value.int .i64 l[k].g,.bool l[k].f] ++ (Value.string l[k].b::(l.drop (k+1)).flatMap bX))).take (k*3+2)=(l.take k).flatMap bX ++ [Value.int .i64 l[k].g,.bool l[k].f]:=by
  rw[List.take_append,h3,List.take_of_length_le ab]
  congr 1
  rw[show k*3+2-k*3=2 by omega];rfl
 have e2:((l.take k).flatMap bX ++ ([Value.int .i64 l[k].g,.bool l[k].f] ++ (Value.string l[k].b::(l.drop (k+1)).flatMap bX))).drop (k*3+2+1)=(l.drop (k+1)).flatMap bX:=by
  rw[List.drop_append,h3,List.drop_of_length_le ab,List.nil_append,show k*3+2+1-k*3=3 by omega];rfl
 rw[e,e2,List.append_assoc,List.append_assoc];rfl
theorem ow {l:List Pgp} {A:Option Addr} {n:Int} {w:World} {B:Nat} (c:cH Pgp.g l) (hr:Rd w B A (l.flatMap bX)) {y:Pgp} (h:ib l n=some y):(qn A l n).isNone=false:=by
 have a:nC Pgp.g l n=true:=by unfold nC;rw[show cF Pgp.g l n=some y from h];rfl
 obtain⟨d,_,_⟩:=lk c a;obtain⟨b,o,rfl,_⟩:=hr.opened (aF aY au ab);unfold qn;rw[if_pos a];rfl
theorem lg {w:World} {d sz n c b o:Nat} {T:TypeId} {xs:List Value} (h:w.ownsRow d T sz (.slice (some ⟨b,o,none⟩) n c) n xs):o=0:=by
 rcases h.2 with ⟨a,_⟩ | ⟨g,cap,cur,a,_⟩
 · cases a
 · injection a with a
   injection a with a;injection a
theorem nw {p:List Pgp} {x:Rcd} (h:fW p x=0) (a:cb x.e=true):∃q,ib p x.e.g=some q∧q.f=x.e.f:=by
 unfold fW at h;rw[if_pos a] at h
 cases hq:ib p x.e.g with
 | none=>rw[hq] at h;cases h
 | some q=>
  rw[hq] at h;exact⟨q,rfl,by simpa using (aH au).1 h⟩
theorem lv (p:List Pgp) (g:Int) (s:ByteArray) (x:Rcd):fW (eY p g s) x=fW p x:=by
 unfold fW
 split
 · rw[Dt]
   by_cases h:x.e.g=g
   · subst h
     rw[if_pos rfl]
     cases ib p x.e.g<;>rfl
   · rw[if_neg h]
 · rfl
theorem ES {t:Tbl} {x:Rcd} (h:ye t x=true):cb x.e=true:=by
 unfold ye at h;exact(Bool.and_eq_true_iff.1 h).1
structure RdoS where
 j:Nat
 p:List Pgp
 n:Int
theorem DJ (t:Tbl) (U:Option Addr) (tc:Nat) (T:Option Addr) (td:Nat) (p:List Pgp) (A:Option Addr) (c:Nat) (l:List Rcd) (B:Option Addr) (d:Nat) (I:Nat) (w:World) (D:I≤w.heap.size)
 (ho:w.ownsRow I 111 3 (.slice A p.length c) p.length (p.flatMap bX)) (hq:Rd w I B (l.flatMap cB)) (Jz:Rd w I U (t.ts.flatMap bW)) (Vb:Rd w I T (t.ds.flatMap cN)) (hs:SrtT t) (Va:t.ts.length≤1000∧t.ds.length≤1000)
 (hp:PgsOk p) (hl:l.length≤1000) (hx:∀x∈l,FewE x.e∧I6 x.e.g) (hf:∀x∈l,fW p x=0) :
 Calls Tryz.prog 83 #[.slice A p.length c,.slice B l.length d,cc t U tc T td] w fun e w'=>∃p':List Pgp,e=.returned (.tuple #[ae (kD t p 0 l).2.1,ae (kD t p 0 l).2.2])∧(p'.length=p.length∧((kD t p 0 l).2.2=0→p'=(kD t p 0 l).1))∧St (Value.slice A p.length c).ownBlock.toList w w' [.row (.slice A p.length c) p.length 111 3 (p'.flatMap bX)]:=by
 have hM:∀b∈(Value.slice A p.length c).ownBlock.toList,I≤b:=fun b hb=>(World.ownsRow.lt ho b (al hb)).1;have O:=aZ ho (Nat.zero_le _);refine an (N:=87) Tryz.func83 rfl rfl rfl (fun _ Y=>?_);have Z:=St.initO O;refine aj (aq ?_);refine nb Y rfl rfl Z fun b5 _ _ Zq Y Z=>GO 6 ?_;intro _ Y;refine sv (v:=cc t U tc T td) Y (ah aa aa (Y.ev rfl) (Z.cellsAll (i:=0) rfl)) fun _ Y=>?_;refine cT Y (wn rfl) (aw a6 (Y.evs rfl) rfl) rfl rfl Z (oX t U tc T td _ ((Z.rdBase hM D Jz).mono (Nat.le_trans D Z.size)) ((Z.rdBase hM D Vb).mono (Nat.le_trans D Z.size)) hs Va) fun Vj _ _ Y Z=>GO 1 ?_;intro _ Y;refine sv Y (fy 1 (Y.ev rfl)) fun _ Y=>?_;refine sv Y (lx (Y.ev rfl) (Z.cell (i:=0) (j:=1) rfl rfl)) fun _ Y=>?_;refine GO 17 ?_;intro _ Y;refine aV Y Z [24,23,8,0] (fun (q:RdoS)=>[(25,ae q.j),(9,ae q.n)]) (fun (q:RdoS)=>q.j≤l.length∧kD t p 0 l=kD t q.p q.n (l.drop q.j)∧PgsOk q.p∧q.p.length=p.length∧0≤q.n∧q.n≤q.j∧(∀x∈l,fW q.p x=0)) (fun q L=>L.set 4 (.row (.slice A p.length c) p.length 111 3 (q.p.flatMap bX))) (fun (q:RdoS)=>l.length-q.j) (⟨0,p,0⟩) (⟨Nat.zero_le _,rfl,hp,rfl,Int.le_refl 0,Int.le_refl 0,hf⟩) bC (Z) ?_;intro q _ _ V Y Z;refine GO 6 ?_;intro _ Y;refine ak (Y.ev rfl) (fun Zd=>?_) (fun Zd=>?_)
 ·
  have r:q.j<l.length:=by have:=of_decide_eq_true Zd;omega
  obtain⟨b5,o5,rfl,Vk,_⟩:=hq.opened (aF aI au ab);have Vc:l.drop q.j=l[q.j]::l.drop (q.j+1):=List.drop_eq_getElem_cons r;obtain⟨S,Jy⟩:=hx _ (List.getElem_mem r);obtain⟨-,a,m,y,R,Vg,E⟩:=V;rw[Vc,kD] at a
  have Jw:∀x∈q.p,0≤x.g∧x.g≤600:=fun x hx=>by
   obtain⟨k,hk,rfl⟩:=List.getElem_of_mem hx;exact(m.all k hk).g
  refine wp_skip (ai (aj (wp_block (aj (aq ?_)))));refine sv Y (ar (i:=q.j) (sz:=14) gO aa (Y.ev rfl) (Y.ev rfl) ab ab rfl) fun _ Y=>?_;refine sv (v:=iR l[q.j]) Y (ah aa aa (Y.ev rfl) (aL aI (Z.rdBase hM D hq) r)) fun _ Y=>?_;refine na (.agg mi) Y rfl Z fun Vh _ _ Zm Y Z=>sw Y Z 0 fun _ Z=>?_;refine GO 6 ?_;intro _ Y;refine vf Y 4 5 fun _ Y=>?_;refine GO 1 ?_;intro _ Y;refine sv Y (aA (v':=.tuple #[iL ((ey t.ds l[q.j].e.g).getD ⟨0,false,0⟩),.bool (ey t.ds l[q.j].e.g).isSome]) (by unfold sq;cases ey t.ds l[q.j].e.g<;>rfl) (rm (z:=.agg oz) qA eO aa (Y.ev rfl) (Y.ev rfl) (Z.at_ (i:=2) rfl))) fun _ Y=>?_;refine GO 3 ?_;intro _ Y;refine na (.agg oz) Y rfl Z fun Ve _ _ Zn Y Z=>sw Y Z 0 fun _ Z=>?_;refine GO 7 ?_;intro _ Y;refine sv (v:=cy l[q.j].e) Y (ah aa aa (Y.ev rfl) (Z.cellsOf (i:=1) rfl 1 13)) fun _ Y=>?_;refine cQ Y rfl Z (jR _ _) fun _ _ Y Z=>?_;refine GO 2 ?_;intro _ Y;apply bI (x:=!(ey t.ds l[q.j].e.g).isSome) Y Z 41 rfl 3 44
  case hf=>
   intro Ze;refine GO 3 ?_;intro _ Y;exact ag ⟨Y.midE 2,Z⟩
  case ht=>
   intro Ze;refine GO 3 ?_;intro _ Y;exact ag ⟨Y.midE 2,Z⟩
  case h=>
   rintro Vd Zr ⟨Zs,Zf⟩
   refine GO 1 ?_;intro _ Y;apply bI (x:=decide (l[q.j].l<((ey t.ds l[q.j].e.g).getD ⟨0,false,0⟩).l)) Y Zf 45 rfl 6 51
   case hf=>
    intro Zg;refine GO 6 ?_;intro _ Y;exact ag ⟨Y.midE 5,Zf⟩
   case ht=>
    intro Zg;refine GO 6 ?_;intro _ Y;exact ag ⟨Y.midE 5,Zf⟩
   case h=>
    rintro Vf Zt ⟨Zo,Zh⟩
    refine ag (ai ?_);refine ak (Zo.ev rfl) (fun K=>?_) (fun K=>?_)
    ·
     have u:ye t l[q.j]=false:=by rw[BU] at K;simpa using K
     rw[if_neg (by rw[u];decide)] at a;refine GO 9 ?_;intro _ Y;exact⟨⟨q.j+1,q.p,q.n⟩,(by show l.length-(q.j+1)<l.length-q.j;omega),⟨r,a,m,y,R,by show q.n≤((q.j+1:Nat):Int);omega,E⟩,Y.re bC,(Zh.sub (aB 124))⟩
    ·
     have u:ye t l[q.j]=true:=by rw[BU] at K;simpa using K
     rw[if_pos u] at a;obtain⟨qq,G,Vi⟩:=nw (E _ (List.getElem_mem r)) (ES u);refine GO 6 ?_;intro _ Y;refine vf Y 4 5 fun _ Y=>?_;refine GO 1 ?_;intro _ Y;refine cQ Y rfl Zh (y▸tP q.p m.srt Jw A c l[q.j].e.g Jy _ (Zh.rdOf (i:=6) rfl) (by have:=m.n;omega)) fun _ _ Y Z=>?_;refine GO 1 ?_;intro _ Zi;obtain⟨b',o',rfl,Q,q1,q2,P⟩:=mv m.srt (Z.rdOf (i:=6) rfl) (ow m.srt (Z.rdOf (i:=6) rfl) G);obtain rfl:o'=0:=lg O;rw[Nat.zero_add] at P;generalize jU Pgp.g q.p l[q.j].e.g=k at Q q1 q2 P
     have Jv:qq=q.p[k]:=by rw[q2] at G;injection G with e;exact e.symm
     subst Jv;rw[q2] at a;simp only[] at a;have Zb:=(m.all k Q).b;refine ag (ai (aj ?_));apply aK Zi (fK 20) _ aa
     case h=>
      refine qv Zi (fun X C=>aA (v':=.pointer (some ⟨b',k*3,none⟩)) (congrArg Value.pointer P) (bD (Zi.ev rfl))) fun _ Y=>?_;refine GO 1 ?_;intro _ Y;refine qv Y (fun X C=>fy 2 (Y.ev rfl)) fun _ Y=>?_;refine qv Y (fun X C=>lx (Y.ev rfl) (by have:=(aL aY ((Z.grow C).rdOf (i:=6) rfl) Q) 2 _ rfl;rw[Nat.zero_add] at this;exact this)) fun _ Y=>?_;refine qv Y (fun X C=>aA (v':=.pointer (some ⟨b',k*3,none⟩)) (congrArg Value.pointer P) (bD (Y.ev rfl))) fun _ Y=>?_;refine GO 1 ?_;intro _ Y;refine qv Y (fun X C=>fy 1 (Y.ev rfl)) fun _ Y=>?_;refine qv Y (fun X C=>lx (Y.ev rfl) (by have:=(aL aY ((Z.grow C).rdOf (i:=6) rfl) Q) 1 _ rfl;rw[Nat.zero_add] at this;exact this)) fun _ Y=>?_;refine GO 3 ?_;intro _ Y;refine qv Y (fun X C=>fx 6 7 (Y.ev rfl)) fun _ Y=>?_;refine qv (v:=fj l[q.j].e.o) Y (fun X C=>ah aa aa (Y.ev rfl) ((Z.grow C).cellsOf (i:=1) rfl 7 6)) fun _ Y=>?_;refine nH Y rfl (fun X C=>x9 q.p[k].b q.p[k].f l[q.j].l l[q.j].e.o _ (by rw[Zb];decide) S.o S.n) fun _ Y=>?_;refine GO 7 ?_;intro _ Y;refine aT fun _ Zj Zp=>?_;have Z:=Z.grow Zj;refine GO 10 ?_;intro _ Y;refine ak (Y.ev rfl) (fun Zk=>?_) (fun Zk=>?_)
      ·
       have M:(kX q.p[k].b q.p[k].f l[q.j].l l[q.j].e.o).2.2≠0:=al Zk;rw[if_pos M] at a;refine GO 14 ?_;intro _ Y;refine bU Y rfl rfl rfl ?_;exact⟨q.p,by rw[a];(try rfl),⟨y,fun h=>absurd h (by rw[a];exact M)⟩,(Z.sub (aB 64))⟩
      ·
       have M:(kX q.p[k].b q.p[k].f l[q.j].l l[q.j].e.o).2.2=0:=al Zk;rw[if_neg (fun h=>h M)] at a;obtain⟨s,J⟩:∃s,s=(kX q.p[k].b q.p[k].f l[q.j].l l[q.j].e.o).1:=⟨_,rfl⟩
       have Jx:s.size=512:=by rw[J];exact zY Zb M
       have F:=pV m l[q.j].e.g s Jx;have H:=jP m.srt Q s;rw[q1] at H;rw[←J] at a Y;refine wp_skip (ai (aj (aq ?_)));refine sv Y (aA (v':=.pointer (some ⟨b',k*3,none⟩)) (congrArg Value.pointer P) (bD (Y.ev rfl))) fun _ Y=>?_;refine GO 2 ?_;intro _ Y;refine sv Y (fy 2 (Y.ev rfl)) fun _ Y=>?_;refine fB Y (wn rfl) ⟨rfl,rfl⟩ (Y.ev rfl) (Y.ev rfl) rfl aa Z (i:=6) rfl rfl (by show k*3+2+1≤p.length*3;omega) fun _ Z=>GO 7 ?_;intro _ Y;refine ak (Y.ev rfl) (fun Zl=>?_) (fun Zl=>?_)
       ·
        refine GO 12 ?_;intro _ Y;exact⟨⟨q.j+1,eY q.p l[q.j].e.g s,q.n+1⟩,(by show l.length-(q.j+1)<l.length-q.j;omega),⟨r,by rw[Zl] at a;exact a,F,by rw[eB];exact y,by show 0≤q.n+1;omega,by show q.n+1≤((q.j+1:Nat):Int);omega,fun x hx=>by rw[lv];exact E x hx⟩,Y.re bC,(by show St _ w _ [_,_,_,_,.row _ _ _ _ ((eY q.p l[q.j].e.g s).flatMap bX)];rw[H];exact(Z.sub (aB 124)))⟩
       ·
        refine GO 8 ?_;intro _ Y;exact⟨⟨q.j+1,eY q.p l[q.j].e.g s,q.n⟩,(by show l.length-(q.j+1)<l.length-q.j;omega),⟨r,by rw[Zl] at a;rw[show q.n=q.n+sh false by show q.n=q.n+0;omega];exact a,F,by rw[eB];exact y,R,by show q.n≤((q.j+1:Nat):Int);omega,fun x hx=>by rw[lv];exact E x hx⟩,Y.re bC,(by show St _ w _ [_,_,_,_,.row _ _ _ _ ((eY q.p l[q.j].e.g s).flatMap bX)];rw[H];exact(Z.sub (aB 124)))⟩
     case hB=>kernel_rfl
     case hst=>rfl
 ·
  have W:l.length≤q.j:=by have:=of_decide_eq_false Zd;omega
  have a:=V.2.1;rw[List.drop_of_length_le W,kD] at a;refine GO 13 ?_;intro _ Y;refine bU Y rfl rfl rfl ?_;exact⟨q.p,by rw[a];(try rfl),⟨V.2.2.2.1,fun _=>by rw[a]⟩,(Z.sub (aB 16))⟩
theorem qK {t:Tbl}:∀{l:List Rcd} {p:List Pgp} {n:Int},(kD t p n l).2.2≠0→(kD t p n l).1=[]∧(kD t p n l).2.1=0
 | [],_,_,h=>absurd rfl h
 | x::r,p,n,h=>by
  rw[kD] at h ⊢
  split
  · rename_i a
    rw[if_pos a] at h
    cases hq:ib p x.e.g with
    | none=>exact⟨rfl,rfl⟩
    | some q=>
     rw[hq] at h;simp only[] at h ⊢
     split
     · exact⟨rfl,rfl⟩
     · rename_i b
       rw[if_neg b] at h;exact qK h
  · rename_i a
    rw[if_neg a] at h;exact qK h
def vw (l:List Rcd) (t:Tbl) (p:List Pgp):Int:=av [(fh l).2,cZ t,ik l p]
def kO (l:List Rcd) (t:Tbl) (p:List Pgp):List Pgp × Int × Int:=if vw l t p≠0 then ([],0,vw l t p) else kD t p 0 l
theorem um {l:List Rcd} {p:List Pgp} (h:ik l p=0):PgsOk p∧∀x∈l,fW p x=0:=by
 unfold ik at h
 split at h
 · rename_i a;exact absurd h a
 · rename_i a
   refine⟨pgsE1_zero.1 (al a),fun x hx=>?_⟩;obtain⟨k,b,rfl⟩:=List.getElem_of_mem hx;exact(cK _ _).1 h k b
theorem tT (l:List Rcd) (B:Option Addr) (d:Nat) (t:Tbl) (s:Option Addr) (E:Nat) (r:Option Addr) (u:Nat) (p:List Pgp) (A:Option Addr) (c:Nat) (w:World)
 (hr:Rd w w.heap.size A (p.flatMap bX)) (L:Rd w w.heap.size B (l.flatMap cB)) (D:Rd w w.heap.size s (t.ts.flatMap bW)) (F:Rd w w.heap.size r (t.ds.flatMap cN)) (J:l.length≤1000) (R:l.length≤d) (H:p.length≤1000) (hF:FolT w) (hx:∀x∈l,FewE x.e∧I6 x.e.g) :
 Calls Tryz.prog 29 #[.slice B l.length d,cc t s E r u,.slice A p.length c] w fun e S=>∃i:Option Addr × Nat,e=.returned (.tuple #[.slice i.1 (kO l t p).1.length i.2,ae (kO l t p).2.1,ae (kO l t p).2.2]) ∧
  St [] w S [.row (.slice i.1 (kO l t p).1.length i.2) (kO l t p).1.length 111 3 ((kO l t p).1.flatMap bX)]:=by
 refine an (N:=39) Tryz.func29 rfl rfl rfl (fun _ Y=>?_);have Z:=St.init w;refine aj (aq ?_);refine nb Y rfl rfl Z fun b4 _ _ Zg Y Z=>GO 7 ?_;intro _ Y;apply aK Y (fK 6) _ aa
 case h=>
  refine GO 1 ?_;intro _ Y;refine nH Y rfl (fun X k=>fR l B d _ ((Z.grow k).rd0 L) J R (hF.below (Z.grow k).below) (fun x hm=>(hx x hm).1)) fun _ Y=>?_;refine qv (v:=cc t s E r u) Y (fun X k=>ah aa aa (Y.ev rfl) ((Z.grow k).cellsAll (i:=0) rfl)) fun _ Y=>?_;refine nH Y rfl (fun X k=>dp t s E r u _ ((Z.grow k).rd0 D) ((Z.grow k).rd0 F)) fun _ Y=>?_;refine GO 3 ?_;intro _ Y;refine aT fun _ Q Ze=>?_;have Z:=Z.grow Q;refine cQ Y rfl Z (iJ p l A c B d _ (Z.rd0 hr) (Z.rd0 L) J (fun x hm=>(hx x hm).2)) fun _ _ Y Z=>?_;refine bV Y (wn rfl) (f:=fun b=>.slice (some ⟨b,0,none⟩) 3 3) (ba dt aa aa (Y.evs2 rfl) rfl rfl rfl au au) rfl rfl Z fun T _ _ Zf Y Z=>dn Y rfl (fk (Z.at_ (i:=0) rfl)) fun _ Y=>?_;refine GO 9 ?_;intro _ Y;refine ak (Y.ev rfl) (fun I=>?_) (fun I=>?_)
  ·
   have hne:vw l t p≠0:=by unfold vw;simpa using I
   have o:kO l t p=([],0,vw l t p):=by unfold kO;rw[if_pos hne]
   refine GO 10 ?_;intro _ Y;refine mh Y rfl rfl rfl rfl ?_;refine⟨(none,0),by rw[o];rfl,?_⟩;rw[o];exact(Z.sub (List.nil_sublist _)).nilRow 111 3
  ·
   have M:vw l t p=0:=by unfold vw;simpa using I
   have o:kO l t p=kD t p 0 l:=by unfold kO;rw[if_neg (fun h=>h M)]
   have a:=M;unfold vw at a;rw[aN] at a;have V:=a (cZ t) bw;obtain⟨g1,g2⟩:=um (a (ik l p) bw);have q:=tblE_zero.1 V;have W:=q.n;have U:=q.m;refine GO 5 ?_;intro _ Y;refine nP Y (wn rfl) (aw a6 (Y.evs rfl) rfl) rfl rfl Z (l9 p A c _ (Z.rd0 hr) H) (Nat.le_refl _) fun y C _ _ Y Z=>GO 7 ?_;intro _ Y;refine sv (v:=cc t s E r u) Y (ah aa aa (Y.ev rfl) (Z.cellsAll (i:=2) rfl)) fun _ Y=>?_;refine jd Y (wn rfl) (aw a6 (Y.evs rfl) rfl) rfl rfl Z (i:=0) rfl uS (DJ t s E r u p y C l B d w.heap.size _ Z.size (Z.ownB (i:=0) rfl) (L.below Z.below) (D.below Z.below) (F.below Z.below) q.srt ab g1 J hx g2) fun Jv _ _ Y O Z=>?_;refine GO 14 ?_;intro _ Y;refine ak (Y.ev rfl) (fun K=>?_) (fun K=>?_)
   ·
    have G:(kD t p 0 l).2.2≠0:=al K;obtain⟨u1,P⟩:=qK G;refine GO 10 ?_;intro _ Y;refine mh Y rfl rfl rfl rfl ?_;refine⟨(none,0),by rw[o,u1,P];rfl,?_⟩;rw[o,u1];exact(Z.sub (List.nil_sublist _)).nilRow 111 3
   ·
    have G:(kD t p 0 l).2.2=0:=al K;have z:=O.2 G;have j:=O.1;refine GO 12 ?_;intro _ Y;refine mh Y rfl rfl rfl rfl ?_;refine⟨(y,C),by rw[o,←z,j,G];rfl,?_⟩;rw[o,←z,j];exact(Z.sub (aB 1))
 case hB=>kernel_rfl
 case hst=>rfl
end Go.Proofs.YtcfdpfmchchkaaaGreatDoor
