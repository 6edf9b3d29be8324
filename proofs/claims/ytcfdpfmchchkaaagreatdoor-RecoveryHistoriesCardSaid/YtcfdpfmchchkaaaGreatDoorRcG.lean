/-
  Chapter 22: pages by their numbers; the error of pages.
  Chapter 21: redoing an operation; the numbers of pages.
  Chapter 22: pages redone.
-/
import Derived.Test.YtcfdpfmchchkaaaGreatDoorRcF
namespace Go.Proofs.YtcfdpfmchchkaaaGreatDoor
set_option maxRecDepth 100000
set_option maxHeartbeats 2000000
set_option linter.unusedVariables false
set_option linter.unusedSimpArgs false
open Go.RowKit Go.Sort Go.Shelf
theorem ra (x:Pgp) (n:Int) (w:World):Calls Tryz.prog 148 #[sO x,.int .i64 n] w fun e w'=>e=.returned (.int .i64 (IntKind.i64.wrap (x.g-n)))∧Below w.heap.size w w':=by
 refine al (N:=9) Tryz.func148 rfl rfl rfl (fun _ Y=>?_);have Z:=St.init w;refine ah (ao ?_);refine nb Y rfl rfl Z fun b2 _ _ Za Y Z=>?_;refine GO 8 ?_;intro _ Y;refine sv Y (p6 (Y.ev rfl) (Y.ev rfl)) fun _ Y=>?_;refine GO 4 ?_;intro _ Y;refine aD Y rfl rfl ?_;exact⟨rfl,Z.below⟩
theorem BP {x n:Int} (hx:0≤x∧x≤600) (hn:I6 n):(IntKind.i64.wrap (x-n)=0↔x=n)∧(0≤n∧n≤600→IntKind.i64.wrap (x-n)=x-n):=by
 unfold I6 at hn;rw[IntKind.wrap_i64]
 constructor
 · omega
 · intro h;omega
def zB (l:List Pgp) (n:Int) (i:Nat):Bool:=match l[i]? with | some x=>IntKind.i64.wrap (x.g-n)==0 | none=>false
theorem Ac (l:List Pgp) (hs:bS Pgp.g l) (hk:∀x∈l,0≤x.g∧x.g≤600) (A:Option Addr) (c:Nat) (n:Int) (hn:I6 n) (w:World) (hr:Rd w w.heap.size A (l.flatMap cx)) (hlen:l.length≤1000) :
 Calls Tryz.prog 147 #[.slice A l.length c,.int .i64 n,.func (.func 148) #[] #[]] w fun e w'=>∃i:Nat,e=.returned (.tuple #[.int .i64 i,.bool (km Pgp.g l n)])∧(km Pgp.g l n=true→i=il Pgp.g l n)∧Below w.heap.size w w':=by
 have hp:=List.pairwise_iff_getElem.1 hs;refine al (N:=49) Tryz.func147 rfl rfl rfl (fun _ Y=>?_);have Z:=St.init w;refine GO 16 ?_;intro _ h6;refine GO 6 ?_;intro _ Y;refine aY Y Z [8,7,6,0,1,2] (fun (q:Nat × Nat)=>[(9,.int .i64 (q.1:Nat)),(10,.int .i64 (q.2:Nat))]) (fun (q:Nat × Nat)=>q.1≤q.2∧q.2≤l.length∧(0≤n∧n≤600→(∀k (hk:k<l.length),k<q.1→l[k].g<n)∧(∀k (hk:k<l.length),q.2≤k→n≤l[k].g))) (fun (q:Nat × Nat) L=>L) (fun (q:Nat × Nat)=>q.2-q.1) ((0,l.length)) (⟨Nat.zero_le _,Nat.le_refl _,fun _=>⟨fun k _ h=>absurd h (Nat.not_lt_zero _),fun k hk h=>by omega⟩⟩) bz (Z) ?_;intro q _ _ Zb Y Z;refine GO 8 ?_;intro _ Y;refine ak (Y.ev rfl) (fun Zc=>?_) (fun Zc=>?_)
 ·
  have hlt:q.1<q.2:=by have:=of_decide_eq_true Zc;omega
  have hq2:=Zb.2.1;obtain⟨b,o,rfl,hB,_⟩:=hr.opened (aK br aq ab)
  have hm:(q.1+q.2) / 2<l.length:=by omega
  have hkm:=hk _ (List.getElem_mem hm);obtain⟨hw1,hw2⟩:=BP hkm hn;refine GO 8 ?_;intro _ Y;refine sv Y (bN aa Tryz.underlying215 (Y.ev rfl) (wrap_u64 ab)) fun _ Y=>?_;refine sv Y (mX (n:=1) (Y.ev rfl) (Y.ev rfl) rfl ab) fun _ Y=>?_;refine sv Y (aw (v':=.int .i64 (((q.1+q.2) / 2:Nat):Int)) (congrArg _ ab) (bN aa Tryz.underlying3 (Y.ev rfl) (cA ab))) fun _ Y=>?_;refine GO 8 ?_;intro _ Y;refine sv Y (au (i:=(q.1+q.2) / 2) (sz:=3) Tryz.underlying151 aa (Y.ev rfl) (Y.ev rfl) ab ab rfl) fun _ Y=>?_;refine sv (v:=sO l[(q.1+q.2) / 2]) Y (ai aa aa (Y.ev rfl) (aW br (Z.rd0 hr) hm)) fun _ Y=>?_;refine GO 1 ?_;intro _ Y;refine dg Y (wn rfl) (cz a8 (Y.ev rfl) (Y.evs rfl) rfl) rfl rfl Z (ra _ _ _) fun _ _ Y Z=>?_;refine GO 3 ?_;intro _ Y;refine ak (Y.ev rfl) (fun Zd=>?_) (fun Zd=>?_)
  ·
   have hx:0≤n∧n≤600→l[(q.1+q.2) / 2].g<n:=fun h6=>by have:=of_decide_eq_true Zd;rw[hw2 h6] at this;omega
   have hlo:0≤n∧n≤600→∀k (hk:k<l.length),k≤(q.1+q.2) / 2→l[k].g<n:=fun h6 k hk hki=>by
    have hx:=hx h6;rcases Nat.lt_or_eq_of_le hki with h | h
    · have:=hp k _ hk hm h;omega
    · subst h;exact hx
   refine GO 7 ?_;intro _ Y;exact⟨((q.1+q.2) / 2+1,q.2),(by show q.2-((q.1+q.2) / 2+1)<q.2-q.1;omega),⟨by show(q.1+q.2) / 2+1≤q.2;omega,Zb.2.1,fun h6=>⟨fun k hk hki=>hlo h6 k hk (by have:k<(q.1+q.2) / 2+1:=hki;omega),(Zb.2.2 h6).2⟩⟩,Y.re bz,Z⟩
  ·
   have hx:0≤n∧n≤600→n≤l[(q.1+q.2) / 2].g:=fun h6=>by have:=of_decide_eq_false Zd;rw[hw2 h6] at this;omega
   have hhi:0≤n∧n≤600→∀k (hk:k<l.length),(q.1+q.2) / 2≤k→n≤l[k].g:=fun h6 k hk hki=>by
    have hx:=hx h6;rcases Nat.lt_or_eq_of_le hki with h | h
    · have:=hp _ k hm hk h;omega
    · subst h;exact hx
   refine GO 6 ?_;intro _ Y;exact⟨(q.1,(q.1+q.2) / 2),(by show(q.1+q.2) / 2-q.1<q.2-q.1;omega),⟨by show q.1≤(q.1+q.2) / 2;omega,by show(q.1+q.2) / 2≤l.length;omega,fun h6=>⟨(Zb.2.2 h6).1,fun k hk hki=>hhi h6 k hk hki⟩⟩,Y.re bz,Z⟩
 ·
  have hge:q.1=q.2:=by have:=of_decide_eq_false Zc;have:=Zb.1;omega
  refine GO 12 ?_;intro _ Y;apply aZ (x:=zB l n q.1) Y Z 39 rfl 9 48
  case ht=>
   intro Za
   have hlt1:q.1<l.length:=by have:=of_decide_eq_true Za;omega
   obtain⟨b,o,rfl,hB,_⟩:=hr.opened (aK br aq ab);refine GO 3 ?_;intro _ Y;refine sy Y (au (i:=q.1) (sz:=3) Tryz.underlying151 aa (Y.ev rfl) (Y.ev rfl) ab ab rfl) fun _ Y=>?_;refine aI (v:=sO l[q.1]) Y (aj Y _ rfl rfl rfl Za) (ai aa aa (Y.ev rfl) (aW br (Z.rd0 hr) hlt1)) rfl rfl fun _ Y=>?_;refine GO 1 ?_;intro _ Y;refine dg Y (aj Y _ rfl rfl rfl Za) (cz a8 (Y.ev rfl) (Y.evs rfl) rfl) rfl rfl Z (ra _ _ _) fun _ _ Y Z=>?_;refine sy Y (aw (v':=.bool (zB l n q.1)) (congrArg Value.bool (by unfold zB;rw[List.getElem?_eq_getElem hlt1])) (dE (Y.ev rfl) (Y.ev rfl))) fun _ Y=>?_;refine GO 1 ?_;intro _ Y;exact ae ⟨Y.midE 8,Z⟩
  case hf=>
   intro Za;refine GO 9 ?_;intro _ Y;exact ae ⟨Y.midE 8,Z⟩
  case h=>
   rintro a56 Zf ⟨Zg,Ze⟩
   refine GO 5 ?_;intro _ Y;refine bC Y rfl rfl rfl ?_
   have e:(decide ((q.1:Int)<(l.length:Int))&&zB l n q.1)=km Pgp.g l n∧(km Pgp.g l n=true→q.1=il Pgp.g l n):=by
    by_cases h6:0≤n∧n≤600
    · obtain⟨f1,f2⟩:=Zb.2.2 h6
      obtain⟨hb1,hb2⟩:=uF hs (n:=n) (i:=q.1) (by have:=Zb.2.1;omega) f1 (fun hk=>f2 q.1 hk ab);refine⟨?_,fun _=>hb1.symm⟩;unfold km;rw[hb2];by_cases h:q.1<l.length
      · rw[decide_eq_true ab,dif_pos h,Bool.true_and]
        unfold zB;rw[List.getElem?_eq_getElem h];have hw1:=(BP (hk _ (List.getElem_mem h)) hn).1;by_cases he:l[q.1].g=n
        · rw[if_pos he];simp only[];rw[hw1.2 he];rfl
        · rw[if_neg he];simp only[];rw[beq_eq_false_iff_ne.2 (fun e=>he (hw1.1 e))];rfl
      · rw[dif_neg h,decide_eq_false ab];rfl
    · have hb:km Pgp.g l n=false:=by
       unfold km;rw[cU l n (fun x hx he=>h6 (by rw[←he];exact hk x hx))];rfl
      refine⟨?_,fun h=>by rw[hb] at h;cases h⟩;rw[hb];unfold zB;by_cases h:q.1<l.length
      · rw[List.getElem?_eq_getElem h]
        have hw1:=(BP (hk _ (List.getElem_mem h)) hn).1;simp only[];rw[beq_eq_false_iff_ne.2 (fun e=>h6 (by rw[←hw1.1 e];exact hk _ (List.getElem_mem h)))];simp
      · rw[List.getElem?_eq_none ab];simp
   exact⟨q.1,by rw[←e.1],e.2,Ze.below⟩
def mw (A:Option Addr) (l:List Pgp) (n:Int):Option Addr:=if km Pgp.g l n=true then A.map (fun a=>⟨a.block,a.off+il Pgp.g l n*3,none⟩) else none
theorem s9 (l:List Pgp) (hs:bS Pgp.g l) (hk:∀x∈l,0≤x.g∧x.g≤600) (A:Option Addr) (c:Nat) (n:Int) (hn:I6 n) (w:World) (hr:Rd w w.heap.size A (l.flatMap cx)) (hlen:l.length≤1000) :
 Calls Tryz.prog 95 #[.slice A l.length c,.int .i64 n] w fun e w'=>e=.returned (.pointer (mw A l n))∧Below w.heap.size w w':=by
 refine al (N:=18) Tryz.func95 rfl rfl rfl (fun _ Y=>?_);have Z:=St.init w;refine GO 9 ?_;intro _ Y;refine B2 Y (wn rfl) (ax a8 (Y.evs rfl) rfl) rfl rfl Z (Ac l hs hk A c n hn _ (Z.rd0 hr) hlen) fun p10 _ _ Y Za Z=>?_;refine GO 14 ?_;intro _ Y;refine ak (Y.ev rfl) (fun Zb=>?_) (fun Zb=>?_)
 ·
  have hb:km Pgp.g l n=false:=by simpa using Zb
  refine GO 7 ?_;intro _ Y;refine aD Y rfl rfl ?_;exact⟨by unfold mw;rw[hb];rfl,Z.below⟩
 ·
  have hb:km Pgp.g l n=true:=by simpa using Zb
  have hi:=Za hb;obtain⟨hkk,_,_⟩:=i7 hs hb;rw[hi] at Y;obtain⟨b,o,rfl,hB,_⟩:=hr.opened (aK br aq ab);refine GO 6 ?_;intro _ Y;refine sv Y (au (i:=il Pgp.g l n) (sz:=3) Tryz.underlying151 aa (Y.ev rfl) (Y.ev rfl) ab ab rfl) fun _ Y=>?_;refine GO 4 ?_;intro _ Y;refine aD Y rfl rfl ?_;exact⟨by unfold mw;rw[if_pos hb];rfl,Z.below⟩
theorem mE {l:List Pgp} (hs:bS Pgp.g l) {A:Option Addr} {n:Int} {w:World} {B:Nat} (hr:Rd w B A (l.flatMap cx)) (h:(mw A l n).isNone=false):∃b o,A=some ⟨b,o,none⟩∧∃hk:il Pgp.g l n<l.length,l[il Pgp.g l n].g=n∧kc l n=some l[il Pgp.g l n]∧mw A l n=some ⟨b,o+il Pgp.g l n*3,none⟩:=by
 have hb:km Pgp.g l n=true:=by
  unfold mw at h
  split at h
  · assumption
  · cases h
 obtain⟨hk,h1,h2⟩:=i7 hs hb;obtain⟨b,o,rfl,_⟩:=hr.opened (aK br aq ab);exact⟨b,o,rfl,hk,h1,h2,by unfold mw;rw[if_pos hb];rfl⟩
theorem xQ {l:List Pgp} {A:Option Addr} {n:Int} {w:World} {B:Nat} (hr:Rd w B A (l.flatMap cx)) (h:(mw A l n).isNone=true):kc l n=none:=by
 rcases Nat.eq_zero_or_pos l.length with h0 | h0
 · rw[List.eq_nil_of_length_eq_zero h0];rfl
 · obtain⟨b,o,rfl,_⟩:=hr.opened (aK br aq h0)
   unfold mw at h
   split at h
   · cases h
   · rename_i hb
     unfold km at hb
     rwa [Bool.not_eq_true,Option.isSome_eq_false_iff,Option.isNone_iff_eq_none] at hb
def vV (l:List Pgp) (i:Nat):Bool:=match cH l i with
 | none=>true
 | some y=>match l[i]? with | none=>true | some x=>decide (y.g<x.g)
theorem wK (p:List Pgp) (A:Option Addr) (c i b:Nat) (T:TypeId) (w:World) (hbx:Box w b #[.slice A p.length c] T) (hr:Rd w w.heap.size A (p.flatMap cx)) (hi:i<p.length) (hl:p.length≤100) :
 Calls Tryz.prog 201 #[.int .i64 i,sO p[i],.pointer (some ⟨b,0,none⟩)] w fun e w'=>e=.returned (.int .i64 (vF (cH p i) p[i]))∧Below w.heap.size w w':=by
 obtain⟨b',o',rfl,_⟩:=hr.opened (aK br aq ab);refine al (N:=32) Tryz.func201 rfl rfl rfl (fun _ h0=>?_);have Z:=St.init w;refine ah (ao ?_);refine nb h0 rfl rfl Z fun b4 _ _ Ze Y Z=>?_;refine GO 4 ?_;intro _ Y;apply aH Y (eZ 23) _ aa
 case h=>
  refine GO 2 ?_;intro _ Y;refine gd Y rfl (fun X hX=>bu _ _ _ _) fun _ Y=>?_;refine gd Y rfl (fun X hX=>aJ _ _ _) fun _ Y=>?_;refine GO 3 ?_;intro _ Y;apply fa (x:=vV p i) Y 12 rfl 11 23
  case hf=>
   intro Za
   have hi0:i≠0:=by simp only[beq_eq_false_iff_ne] at Za;omega
   have hi1:i-1<p.length:=by omega
   have hbf:cH p i=some p[i-1]:=by unfold cH;rw[if_neg hi0,List.getElem?_eq_getElem hi1]
   refine qy Y (fun X hX=>(lx (Y.ev rfl) (Box.cells (hbx.below (Z.grow hX).below) 0))) fun _ Y=>?_;refine GO 2 ?_;intro _ Y;refine qy Y (fun X hX=>(nf aa (Y.ev rfl) (Y.ev rfl))) fun _ Y=>?_;refine qy Y (fun X hX=>(au (i:=i-1) (sz:=3) Tryz.underlying151 aa (Y.ev rfl) (Y.ev rfl) ab ab rfl)) fun _ Y=>?_;refine qy Y (fun X hX=>(fy 0 (Y.ev rfl))) fun _ Y=>?_;refine qy Y (fun X hX=>(lx (Y.ev rfl) ((aW br ((Z.grow hX).rd0 hr) hi1) 0 _ rfl))) fun _ Y=>?_;refine GO 2 ?_;intro _ Y;refine qy Y (fun X hX=>(aw (v':=.bool (vV p i)) (congrArg Value.bool (by unfold vV;rw[hbf,List.getElem?_eq_getElem hi])) (kU (Y.ev rfl) (Y.ev rfl)))) fun _ Y=>?_;refine GO 1 ?_;intro _ Y;exact av (Y.midE 10)
  case ht=>
   intro Za;refine GO 11 ?_;intro _ Y;exact av (Y.midE 10)
  case h=>
   intro _ Y;refine gd Y rfl (fun X hX=>aJ _ _ _) fun _ Y=>?_;refine GO 5 ?_;intro _ Y;refine aP fun _ Zb Zc=>?_;have Z:=Z.grow Zb;refine cC Y rfl (aJ _ _ _) fun _ Y=>?_;refine bw Y (wn rfl) (f:=fun b=>.slice (some ⟨b,0,none⟩) 3 3) (aX Tryz.underlying214 aa aa (Y.evs2 rfl) rfl rfl rfl aq aq) rfl rfl Z fun b30 _ _ Zd Y Z=>?_;refine cC Y rfl (eY (Z.at_ (i:=0) rfl)) fun _ Y=>?_;refine GO 4 ?_;intro _ Y;refine aD Y rfl rfl ?_;refine⟨?_,Z.below⟩
   have e:((i:Int)==0||vV p i)=vV p i:=by
    rcases Nat.eq_zero_or_pos i with h0 | h0
    · subst h0;rfl
    · rw[show((i:Int)==0)=false by rw[beq_eq_false_iff_ne];omega];rfl
   rw[e]
   have e2:((p[i].b.size:Int)==512)=(p[i].b.size==512):=by rw[Bool.eq_iff_iff,beq_iff_eq,beq_iff_eq];omega
   rw[e2];unfold vF vV;rw[List.getElem?_eq_getElem hi]
   cases cH p i<;>rfl
 case hB=>kernel_rfl
 case hst=>rfl
theorem we (p:List Pgp) (hs:bS Pgp.g p) (hk:∀x∈p,0≤x.g∧x.g≤600) (A:Option Addr) (c k b:Nat) (T:TypeId) (x:Rcd) (hx:I6 x.e.g) (w:World) (hbx:Box w b #[.slice A p.length c] T) (hr:Rd w w.heap.size A (p.flatMap cx)) (hl:p.length≤100) :
 Calls Tryz.prog 202 #[.int .i64 k,ff x,.pointer (some ⟨b,0,none⟩)] w fun e w'=>e=.returned (.int .i64 (jo p x))∧Below w.heap.size w w':=by
 refine al (N:=27) Tryz.func202 rfl rfl rfl (fun _ Y=>?_);have Z:=St.init w;refine ah (ao ?_);refine nb Y rfl rfl Z fun b4 _ _ Ze h1 Z=>?_;refine GO 7 ?_;intro _ Y;refine sv (v:=cY x.e) Y (ai aa aa (Y.ev rfl) (Z.cellsOf (i:=0) rfl 1 13)) fun _ Y=>?_;refine cE Y rfl Z (iN _ _) fun _ _ Y Z=>?_;refine GO 3 ?_;intro _ Y;refine ak (Y.ev rfl) (fun Za=>?_) (fun Za=>?_)
 ·
  have h1:dt x.e=false:=by simpa using Za
  refine GO 7 ?_;intro _ Y;refine aD Y rfl rfl ?_;exact⟨by unfold jo;rw[h1];rfl,Z.below⟩
 ·
  have h1:dt x.e=true:=by simpa using Za
  refine wp_skip (ag (ah (ao ?_)));refine sv Y (lx (Y.ev rfl) (Box.cells (hbx.below Z.below) 0)) fun _ Y=>?_;refine GO 1 ?_;intro _ Y;refine vf Y 4 5 fun _ Y=>?_;refine GO 1 ?_;intro _ Y;refine cE Y rfl Z (s9 p hs hk A c x.e.g hx _ (Z.rd0 hr) ab) fun _ _ Y Z=>?_;refine GO 7 ?_;intro _ Y;refine sv Y (lY Tryz.underlying168 aa (Y.ev rfl) (Y.ev rfl)) fun _ Y=>?_;refine ae (ag ?_);refine ak (Y.ev rfl) (fun Zb=>?_) (fun Zb=>?_)
  ·
   have hn:=xQ hr Zb;refine GO 7 ?_;intro _ Y;refine aD Y rfl rfl ?_;exact⟨by unfold jo;rw[if_pos h1,hn],Z.below⟩
  ·
   obtain⟨b',o',rfl,qk,q1,q2,q3⟩:=mE hs hr Zb;refine wp_skip (ag (ah ?_));apply aH Y (eZ 7) _ aa
   case h=>
    refine qv Y (fun X hX=>aw (v':=.pointer (some ⟨b',o'+il Pgp.g p x.e.g*3,none⟩)) (congrArg Value.pointer q3) (bc (Y.ev rfl))) fun _ Y=>?_;refine GO 1 ?_;intro _ Y;refine qv Y (fun X hX=>fy 1 (Y.ev rfl)) fun _ Y=>?_;refine qv Y (fun X hX=>lx (Y.ev rfl) ((aW br ((Z.grow hX).rd0 hr) qk) 1 _ rfl)) fun _ Y=>?_;refine GO 1 ?_;intro _ Y;refine qv Y (fun X hX=>fx 5 6 (Y.ev rfl)) fun _ Y=>?_;refine GO 2 ?_;intro _ Y;refine aP fun _ Zc Zd=>?_;have Z:=Z.grow Zc;refine sv Y (uV Tryz.underlying4 (Y.ev rfl) (Y.ev rfl)) fun _ Y=>?_;refine cC Y rfl (aJ _ _ _) fun _ Y=>?_;refine GO 4 ?_;intro _ Y;refine aD Y rfl rfl ?_;exact⟨by unfold jo;rw[if_pos h1,q2],Z.below⟩
   case hB=>kernel_rfl
   case hst=>rfl
theorem zP (p:List Pgp) (l:List Rcd) (A:Option Addr) (c:Nat) (B:Option Addr) (d:Nat) (w:World) (hr:Rd w w.heap.size A (p.flatMap cx)) (hq:Rd w w.heap.size B (l.flatMap bA)) (hl:l.length≤1000) (hx:∀x∈l,I6 x.e.g) :
 Calls Tryz.prog 133 #[.slice A p.length c,.slice B l.length d] w fun e w'=>e=.returned (.int .i64 (mD l p))∧Below w.heap.size w w':=by
 refine al (N:=26) Tryz.func133 rfl rfl rfl (fun _ Y=>?_);have Z:=St.init w;refine ah (ao ?_);refine nb Y rfl rfl Z fun b2 _ _ Zc Y Z=>?_;refine GO 11 ?_;intro _ Y;refine ak (Y.ev rfl) (fun Za=>?_) (fun Za=>?_)
 ·
  have r0:40<p.length:=by have:=of_decide_eq_true Za;omega
  have e0:jk p=8:=by unfold jk;rw[if_pos r0]
  refine GO 7 ?_;intro _ Y;refine aD Y rfl rfl ?_;exact⟨by unfold mD;rw[if_pos (by rw[e0];decide),e0];(try rfl),Z.below⟩
 ·
  have r0:¬40<p.length:=by have:=of_decide_eq_false Za;omega
  have e0:jk p=(rB p).2:=by unfold jk;rw[if_neg r0]
  refine GO 5 ?_;intro _ Y;refine sv Y (eL (Y.evs rfl) (Y.evs rfl)) fun _ Y=>?_;refine cE Y rfl Z (rL (fun i x=>vF (cH p i) x) p A c 201 [.pointer (some ⟨b2,0,none⟩)] _ (Z.rd0 hr) ab a8 (fun X hX k hk _=>wK p A c k b2 _ X (Box.below (Z.at_ (i:=0) rfl) hX) ((Z.rd0 hr).below' hX) hk ab)) fun _ _ Y Z=>?_;refine GO 14 ?_;intro _ Y;refine ak (Y.ev rfl) (fun Zb=>?_) (fun Zb=>?_)
  ·
   have r1:jk p≠0:=by rw[e0];unfold rB;simpa using Zb
   refine GO 8 ?_;intro _ Y;refine aD Y rfl rfl ?_;exact⟨by unfold mD;rw[if_pos r1,e0];(try rfl),Z.below⟩
  ·
   have r1:jk p=0:=by rw[e0];unfold rB;simpa using Zb
   have hok:=pgsE1_zero.1 r1
   have hkk:∀x∈p,0≤x.g∧x.g≤600:=fun x hx=>by
    obtain⟨k,hk,rfl⟩:=List.getElem_of_mem hx;exact(hok.all k hk).g
   refine GO 5 ?_;intro _ Y;refine sv Y (eL (Y.evs rfl) (Y.evs rfl)) fun _ Y=>?_;refine cE Y rfl Z (rD (fun _ x=>jo p x) l B d 202 [.pointer (some ⟨b2,0,none⟩)] _ (Z.rd0 hq) hl a8 (fun X hX k hk _=>we p hok.srt hkk A c k b2 _ l[k] (hx _ (List.getElem_mem hk)) X (Box.below (Z.at_ (i:=0) rfl) hX) ((Z.rd0 hr).below' hX) ab)) fun _ _ Y Z=>?_;refine GO 13 ?_;intro _ Y;refine aD Y rfl rfl ?_;exact⟨by unfold mD;rw[if_neg (fun h=>h r1)];(try rfl),Z.below⟩
theorem iG (p:List Pgp) (l:List Rcd) (A:Option Addr) (c:Nat) (B:Option Addr) (d:Nat) (w:World) (hr:Rd w w.heap.size A (p.flatMap cx)) (hq:Rd w w.heap.size B (l.flatMap bA)) (hl:l.length≤1000) (hx:∀x∈l,I6 x.e.g) :
 Calls Tryz.prog 81 #[.slice B l.length d,.slice A p.length c] w fun e w'=>e=.returned (.int .i64 (mD l p))∧Below w.heap.size w w':=by
 refine al (N:=8) Tryz.func81 rfl rfl rfl (fun _ Y=>?_);have Z:=St.init w;refine GO 9 ?_;intro _ Y;refine cE Y rfl Z (zP p l A c B d _ (Z.rd0 hr) (Z.rd0 hq) hl hx) fun _ _ Y Z=>?_;refine GO 4 ?_;intro _ Y;refine aD Y rfl rfl ?_;exact⟨rfl,Z.below⟩
open Go.RowKit Go.Sort
theorem first2_z {a b:Int}:ar [a,b]=0↔a=0∧b=0:=by
 simp only[ar]
 by_cases h:a=0<;>by_cases h':b=0<;>simp[h,h']
theorem kL {k:IntKind} {a b:ByteArray} {c d:Bool} {e f:Int} (h:a=b) (h':c=d) (h'':e=f):Ending.returned (.tuple #[.string a,.bool c,.int k e])=.returned (.tuple #[.string b,.bool d,.int k f]):=by rw[h,h',h'']
theorem xw {p:ByteArray} {plain:Bool} {n:Int} {x:Op} {er:Int} (h:ar [bY p,qU n,e8 x]=er) (h0:er≠0):iL p plain n x=(⟨#[]⟩,false,er):=by
 unfold iL
 have e:ar [bY p,nA n,e8 x]=er:=h;rw[e,if_pos h0]
theorem tP (p:ByteArray) (plain:Bool) (n:Int) (x:Op) (w:World) (hp:p.size≤maxLen) (ho:x.o.size≤3100) (hn:x.n.size≤3100) :
 Calls Tryz.prog 134 #[.string p,.bool plain,.int .i64 n,fC x] w fun r w'=>r=.returned (.tuple #[.string (iL p plain n x).1,.bool (iL p plain n x).2.1,.int .i64 (iL p plain n x).2.2])∧Below w.heap.size w w':=by
 have hE:=fun W=>eQ x W ho hn;have HP:=Lib.hid (fun W=>fJ p W hp);have HN:=Lib.hid (fun W=>nO n W);by_cases h0:ar [bY p,qU n,e8 x]=0
 · have hz:=(aQ _).1 h0
   have z1:bY p=0:=hz _ a7;have z2:qU n=0:=hz _ a7;have z3:e8 x=0:=hz _ a7;have hps:=pageE_zero.1 z1;have hok:=(jc x).1 z3;have hin:bf n 1 2147483647=true:=(aL aq).1 z2;have hin':=inB_true.1 hin;have hval:=zv (plain:=plain) hps hin z3;have hA:=fun W=>ou p x W hps hok;have hL:=fun W=>wT p W hps;have hWL:=fun W=>lu (ep p x) n W (gg hps hok) ab ab
   have h1:(ar [bY p,qU n,e8 x] != 0)=false:=by rw[h0];rfl
   obtain⟨q,hq⟩:∃q,q=ep p x:=⟨_,rfl⟩;obtain⟨f,hf⟩:∃f,f=dh p x:=⟨_,rfl⟩;obtain⟨m,hm⟩:∃m,m=AE p:=⟨_,rfl⟩;have hm':Cn p=m:=hm.symm;have hwl:ta q n=zK q n:=rfl;rw[hm',←hq,←hf,hwl] at hval;rw[←hq,←hf] at hA;rw[←hm] at hL;rw[←hq] at hWL;rw[hval];obtain⟨e1,he1⟩:∃e,e=bY p:=⟨_,rfl⟩;obtain⟨e2,he2⟩:∃e,e=qU n:=⟨_,rfl⟩;obtain⟨e3,he3⟩:∃e,e=e8 x:=⟨_,rfl⟩;have hP:=HP.out;have hN:=HN.out;rw[←he1] at hP h1;rw[←he2] at hN h1;rw[←he3] at hE h1;have HE:=Lib.hid hE;have HP:=Lib.hid hP;have HN:=Lib.hid hN;have HA:=Lib.hid hA;have HL:=Lib.hid hL;have HWL:=Lib.hid hWL;clear hE hP hN hA hL hWL h0 hz z1 z2 z3 hps hok hin hin' hval hq hf hm hm' hwl he1 he2 he3;unfold fC at *
   cases plain
   · by_cases hle:n≤m
     · go_enter Tryz.func134,Tryz.ntmps134
       go_wp2_with fail
       (refine cj 6 aa aa ?_;simp only[List.take_succ_cons,List.take_zero,List.drop_succ_cons,List.drop_zero];(repeat (go_big_quiet_step ((first | (go_at_call 150;exact Calls.reg_pure (HP.out _)) | (go_at_call 203;exact Calls.reg_pure (HN.out _)) | (go_at_call 144;(with_reducible exact Calls.regrown_of (HE.out _)))))));(with_reducible refine wpQuiet_nil ?_);intro W1 hreg;have hbW1:=cp hreg;clear hreg;obtain⟨hcW1,hfW1⟩:=cL hbW1)
       have hsW1:w.heap.size<W1.heap.size:=by have h:=hbW1.size;simp at h;omega
       go_wp2_with (first | (go_at_call 143;refine(bh [_,_,_] W1 a7).mono ?_;rintro e w' ⟨rfl,rfl⟩) | (go_at_call 204;(with_reducible refine(HL.out _).mono ?_);rintro e W2 ⟨rfl,hbW2⟩;obtain⟨hcW2,hfW2⟩:=cL hbW2))
       go_ret3
       exact⟨kL rfl rfl rfl,fb⟩
     · cases f
       all_goals
        go_enter Tryz.func134,Tryz.ntmps134
        go_wp2_with fail
        (refine cj 6 aa aa ?_;simp only[List.take_succ_cons,List.take_zero,List.drop_succ_cons,List.drop_zero];(repeat (go_big_quiet_step ((first | (go_at_call 150;exact Calls.reg_pure (HP.out _)) | (go_at_call 203;exact Calls.reg_pure (HN.out _)) | (go_at_call 144;(with_reducible exact Calls.regrown_of (HE.out _)))))));(with_reducible refine wpQuiet_nil ?_);intro W1 hreg;have hbW1:=cp hreg;clear hreg;obtain⟨hcW1,hfW1⟩:=cL hbW1)
        have hsW1:w.heap.size<W1.heap.size:=by have h:=hbW1.size;simp at h;omega
        go_wp2_with (first | (go_at_call 143;refine(bh [_,_,_] W1 a7).mono ?_;rintro e w' ⟨rfl,rfl⟩) | ((go_at_call 204;(with_reducible refine(HL.out _).mono ?_);rintro e W2 ⟨rfl,hbW2⟩;obtain⟨hcW2,hfW2⟩:=cL hbW2);have hsW2:w.heap.size<W2.heap.size:=(by have h:=hbW2.size;(try simp at h);omega)) | (go_at_call 205;(with_reducible refine(HA.out _).mono ?_);rintro e W3 ⟨rfl,hbW3⟩;obtain⟨hcW3,hfW3⟩:=cL hbW3) | (go_at_call 153;(with_reducible refine(HWL.out _).mono ?_);rintro e W4 ⟨rfl,hbW4⟩;obtain⟨hcW4,hfW4⟩:=cL hbW4))
        go_ret3
        exact⟨kL rfl rfl rfl,fb⟩
   · obtain⟨d,hd⟩:∃d,d=(!(bl q==bl p)):=⟨_,rfl⟩
     rw[←hd,if_pos rfl];have HD:=Lib.hid hd;clear hd;by_cases hk:x.k=2∨x.k=3
     · rw[if_pos hk]
       cases hk2:(x.k==2)
       · have hk3:(x.k==3)=true:=by
          rcases hk with h | h
          · rw[h] at hk2;cases hk2
          · rw[h];rfl
         clear hk
         go_enter Tryz.func134,Tryz.ntmps134
         go_wp2_with fail
         (refine cj 6 aa aa ?_;simp only[List.take_succ_cons,List.take_zero,List.drop_succ_cons,List.drop_zero];(repeat (go_big_quiet_step ((first | (go_at_call 150;exact Calls.reg_pure (HP.out _)) | (go_at_call 203;exact Calls.reg_pure (HN.out _)) | (go_at_call 144;(with_reducible exact Calls.regrown_of (HE.out _)))))));(with_reducible refine wpQuiet_nil ?_);intro W1 hreg;have hbW1:=cp hreg;clear hreg;obtain⟨hcW1,hfW1⟩:=cL hbW1)
         have hsW1:w.heap.size<W1.heap.size:=by have h:=hbW1.size;simp at h;omega
         go_wp2_with (first | (go_at_call 143;refine(bh [_,_,_] W1 a7).mono ?_;rintro e w' ⟨rfl,rfl⟩) | (go_at_call 205;(with_reducible refine(HA.out _).mono ?_);rintro e W3 ⟨rfl,hbW3⟩;obtain⟨hcW3,hfW3⟩:=cL hbW3))
         go_ret3
         exact⟨kL rfl rfl rfl,fb⟩
       · clear hk
         go_enter Tryz.func134,Tryz.ntmps134
         go_wp2_with fail
         (refine cj 6 aa aa ?_;simp only[List.take_succ_cons,List.take_zero,List.drop_succ_cons,List.drop_zero];(repeat (go_big_quiet_step ((first | (go_at_call 150;exact Calls.reg_pure (HP.out _)) | (go_at_call 203;exact Calls.reg_pure (HN.out _)) | (go_at_call 144;(with_reducible exact Calls.regrown_of (HE.out _)))))));(with_reducible refine wpQuiet_nil ?_);intro W1 hreg;have hbW1:=cp hreg;clear hreg;obtain⟨hcW1,hfW1⟩:=cL hbW1)
         have hsW1:w.heap.size<W1.heap.size:=by have h:=hbW1.size;simp at h;omega
         go_wp2_with (first | (go_at_call 143;refine(bh [_,_,_] W1 a7).mono ?_;rintro e w' ⟨rfl,rfl⟩) | (go_at_call 205;(with_reducible refine(HA.out _).mono ?_);rintro e W3 ⟨rfl,hbW3⟩;obtain⟨hcW3,hfW3⟩:=cL hbW3))
         go_ret3
         exact⟨kL rfl rfl rfl,fb⟩
     · rw[if_neg hk]
       have hk2:(x.k==2)=false:=by rw[beq_eq_false_iff_ne];exact fun h=>hk (.inl h)
       have hk3:(x.k==3)=false:=by rw[beq_eq_false_iff_ne];exact fun h=>hk (.inr h)
       clear hk
       go_enter Tryz.func134,Tryz.ntmps134
       go_wp2_with fail
       (refine cj 6 aa aa ?_;simp only[List.take_succ_cons,List.take_zero,List.drop_succ_cons,List.drop_zero];(repeat (go_big_quiet_step ((first | (go_at_call 150;exact Calls.reg_pure (HP.out _)) | (go_at_call 203;exact Calls.reg_pure (HN.out _)) | (go_at_call 144;(with_reducible exact Calls.regrown_of (HE.out _)))))));(with_reducible refine wpQuiet_nil ?_);intro W1 hreg;have hbW1:=cp hreg;clear hreg;obtain⟨hcW1,hfW1⟩:=cL hbW1)
       have hsW1:w.heap.size<W1.heap.size:=by have h:=hbW1.size;simp at h;omega
       go_wp2_with (first | (go_at_call 143;refine(bh [_,_,_] W1 a7).mono ?_;rintro e w' ⟨rfl,rfl⟩) | (go_at_call 205;(with_reducible refine(HA.out _).mono ?_);rintro e W3 ⟨rfl,hbW3⟩;obtain⟨hcW3,hfW3⟩:=cL hbW3))
       go_ret3
       exact⟨kL rfl (by rw[HD.out,←toList_eq,←toList_eq]) rfl,fb⟩
 · obtain⟨er,her⟩:∃e,ar [bY p,qU n,e8 x]=e:=⟨_,rfl⟩
   have hne:er≠0:=fun h=>h0 (her.trans h);rw[xw her hne];obtain⟨e1,he1⟩:∃e,e=bY p:=⟨_,rfl⟩;obtain⟨e2,he2⟩:∃e,e=qU n:=⟨_,rfl⟩;obtain⟨e3,he3⟩:∃e,e=e8 x:=⟨_,rfl⟩;have hP:=HP.out;have hN:=HN.out;rw[←he1] at hP her;rw[←he2] at hN her;rw[←he3] at hE her
   have h1:(ar [e1,e2,e3] != 0)=true:=by rw[her];simp[hne]
   have HE:=Lib.hid hE;have HP:=Lib.hid hP;have HN:=Lib.hid hN;have HER:=Lib.hid her;clear hE hP hN h0 her hne he1 he2 he3;unfold fC at *
   go_enter Tryz.func134,Tryz.ntmps134
   go_wp2_with fail
   (refine cj 6 aa aa ?_;simp only[List.take_succ_cons,List.take_zero,List.drop_succ_cons,List.drop_zero];(repeat (go_big_quiet_step ((first | (go_at_call 150;exact Calls.reg_pure (HP.out _)) | (go_at_call 203;exact Calls.reg_pure (HN.out _)) | (go_at_call 144;(with_reducible exact Calls.regrown_of (HE.out _)))))));(with_reducible refine wpQuiet_nil ?_);intro W1 hreg;have hbW1:=cp hreg;clear hreg;obtain⟨hcW1,hfW1⟩:=cL hbW1)
   go_wp2_with (first | (go_at_call 143;refine(bh [_,_,_] W1 a7).mono ?_;rintro e w' ⟨rfl,rfl⟩))
   go_ret3
   exact⟨kL rfl rfl HER.out,fb⟩
def Cf (p:ByteArray) (n:Int):Int:=ar [bY p,bn (bf n 0 2147483647) 2]
theorem rP (p:ByteArray) (n:Int) (w:World) (hp:p.size≤maxLen) :
 Calls Tryz.prog 97 #[.string p,.int .i64 n] w fun r w'=>r=.returned (.tuple #[.string (if Cf p n=0 then zK p n else ⟨#[]⟩),.int .i64 (Cf p n)])∧Below w.heap.size w w':=by
 have HP:=Lib.hid (fun W=>fJ p W hp);by_cases z1:Cf p n=0
 · have hz:=first2_z.1 z1
   have hin:=inB_true.1 ((aL aq).1 hz.2);have hL:=fun W=>lu p n W (pageE_zero.1 hz.1) ab ab;rw[z1,if_pos rfl]
   have h1:(ar [bY p,bn (bf n 0 2147483647) 2] != 0)=false:=by
    have:ar [bY p,bn (bf n 0 2147483647) 2]=0:=z1;rw[this];rfl
   have HL:=Lib.hid hL;clear hz hin z1 hL
   go_enter Tryz.func97,Tryz.ntmps97
   go_wp2_with (first | (go_at_call 150;(with_reducible refine(HP.out _).mono ?_);rintro e w' ⟨rfl,rfl⟩) | (go_at_call 152;refine(aT _ _ _ _).mono ?_;rintro e w' ⟨rfl,rfl⟩) | (go_at_call 151;refine(aA _ _ _).mono ?_;rintro e w' ⟨rfl,rfl⟩) | (go_at_call 143;refine(bh [_,_] w a7).mono ?_;rintro e w' ⟨rfl,rfl⟩) | (go_at_call 153;(with_reducible refine(HL.out _).mono ?_);rintro e W1 ⟨rfl,hbW1⟩;obtain⟨hcW1,hfW1⟩:=cL hbW1))
   go_ret2
   exact⟨rfl,fb⟩
 · rw[if_neg z1]
   have h1:(ar [bY p,bn (bf n 0 2147483647) 2] != 0)=true:=by
    rw[bne_iff_ne];exact z1
   clear z1
   go_enter Tryz.func97,Tryz.ntmps97
   go_wp2_with (first | (go_at_call 150;(with_reducible refine(HP.out _).mono ?_);rintro e w' ⟨rfl,rfl⟩) | (go_at_call 152;refine(aT _ _ _ _).mono ?_;rintro e w' ⟨rfl,rfl⟩) | (go_at_call 151;refine(aA _ _ _).mono ?_;rintro e w' ⟨rfl,rfl⟩) | (go_at_call 143;refine(bh [_,_] w a7).mono ?_;rintro e w' ⟨rfl,rfl⟩))
   go_ret2
   exact⟨rfl,fb⟩
open Go.RowKit Go.Sort Go.Shelf
theorem mO (l:List Pgp):(l.flatMap cx).length=l.length*3:=by rw[jW br,Nat.mul_comm]
theorem y8 (l:List Pgp):∀u∈l.flatMap cx,u.oneCell'=true:=fun u hu=>by
 obtain⟨x,_,hx⟩:=List.mem_flatMap.1 hu;exact xJ x u hx
theorem r7 (A:Option Addr) (c:Nat) (w:World) :
 Calls Tryz.prog 82 #[.slice A 0 c] w fun e w'=>∃A',e=.returned (.slice A' 0 0)∧w'.ownsRow w.heap.size 111 3 (.slice A' 0 0) 0 []∧Below w.heap.size w w':=by
 refine al (N:=8) Tryz.func82 rfl rfl rfl (fun _ Y=>?_);have Z:=St.init w;refine GO 9 ?_;intro _ Y;refine sv Y (uQ Tryz.underlying48 aa (Y.ev rfl) (Y.ev rfl)) fun _ Y=>?_;refine ae (ag ?_);refine ak (Y.ev rfl) (fun Za=>?_) (fun Za=>?_)
 ·
  refine GO 7 ?_;intro _ Y;refine aD Y rfl rfl ?_;exact⟨none,rfl,World.ownsRow_nil _ _ _ _,Z.below⟩
 ·
  refine wp_skip (ag (ah (ao ?_)));refine dd (zc:=[.int .i64 0,.bool false,.string ⟨#[]⟩]) (sz:=3) Y (wn rfl) ⟨rfl,rfl⟩ rfl Tryz.underlying48 aa aa rfl rfl rfl (Y.evs2 rfl) rfl rfl rfl Z fun b5 _ _ Zb Y Z=>?_;refine GO 1 ?_;intro _ Y;refine mo (sz:=3) Y (wn rfl) ⟨rfl,rfl⟩ rfl Tryz.underlying48 aa (Y.ev rfl) (Y.ev rfl) fun _ Y=>?_;refine GO 4 ?_;intro _ Y;refine aD Y rfl rfl ?_;have Z:=Z.toRow (i:=0) (n:=0) (sz:=3) rfl rfl aq;exact⟨_,rfl,Z.ownB (i:=0) rfl,Z.below⟩
theorem mK (l:List Pgp) (A:Option Addr) (c:Nat) (w:World) (hr:Rd w w.heap.size A (l.flatMap cx)) (hlen:l.length≤1000) :
 Calls Tryz.prog 82 #[.slice A l.length c] w fun e w'=>∃A' c',e=.returned (.slice A' l.length c')∧w'.ownsRow w.heap.size 111 3 (.slice A' l.length c') l.length (l.flatMap cx)∧Below w.heap.size w w':=by
 rcases Nat.eq_zero_or_pos l.length with h0 | h0
 · have hnil:l=[]:=List.eq_nil_of_length_eq_zero h0
   subst hnil;exact(r7 A c w).mono fun e w' ⟨A',he,ho,hb⟩=>⟨A',0,he,ho,hb⟩
 refine al (N:=8) Tryz.func82 rfl rfl rfl (fun _ h0=>?_);have Z:=St.init w;refine GO 9 ?_;intro _ Y;refine sv Y (uQ Tryz.underlying48 aa (Y.ev rfl) (Y.ev rfl)) fun _ Y=>?_;refine ae (ag ?_);refine ak (Y.ev rfl) (fun Za=>?_) (fun Za=>?_)
 ·
  exfalso
  obtain⟨b,o,rfl,_⟩:=hr.opened (by rw[mO];omega)
  cases Za
 ·
  refine wp_skip (ag (ah (ao ?_)));refine dd (zc:=[.int .i64 0,.bool false,.string ⟨#[]⟩]) (sz:=3) Y (wn rfl) ⟨rfl,rfl⟩ rfl Tryz.underlying48 aa aa rfl rfl rfl (Y.evs2 rfl) rfl rfl rfl Z fun b5 _ _ Zb Y Z=>?_;refine GO 1 ?_;intro _ Y;have Z:=Z.toRow (i:=0) (n:=0) (sz:=3) rfl rfl aq;refine bG (z:=.agg #[.int .i64 0,.bool false,.string ⟨#[]⟩]) (sz:=3) (bytes:=32) Y (wn rfl) ⟨rfl,rfl⟩ rfl Tryz.underlying48 aa rfl rfl (Y.ev rfl) (Y.ev rfl) Z (i:=0) rfl (Z.rd0 hr) (mO l) (y8 l) ⟨ab,by decide⟩ fun A7 c7 _ _ Y Z=>?_;refine GO 4 ?_;intro _ Y;refine aD Y rfl rfl ?_;have q:=Z.ownB (i:=0) rfl;rw[Nat.zero_add] at q;exact⟨_,_,by rw[Nat.zero_add],q,Z.below⟩
theorem St.rdBase {M:List Nat} {w X:World} {L:List Ent} {B:Nat} (h:St M w X L) (hM:∀b∈M,B≤b) (hB:B≤w.heap.size) {A:Option Addr} {xs:List Value} (hr:Rd w B A xs):Rd X B A xs:=fun j u hj=>by
 obtain⟨b,o,h1,h2,h3⟩:=hr j u hj;exact⟨b,o,h1,h2,(World.cell?_of_block (w:=w) (a:=⟨b,o+j,none⟩) (h.block b ab (fun hm=>by have:=hM b hm;omega))).trans h3⟩
theorem u7 {q:ByteArray} {f:Bool} {n:Int} {x:Op} (hq:q.size=512) (h:(iL q f n x).2.2=0):(iL q f n x).1.size=512:=by
 unfold iL at h ⊢
 split at h
 · rename_i h1;exact absurd h h1
 · rename_i h1
   rw[if_neg h1]
   have hz:ar [bY q,nA n,e8 x]=0:=by simpa using h1
   rw[aQ] at hz;have ho:=(jc x).1 (hz _ (.tail _ (.tail _ (.head _))))
   split at h
   · rename_i h2
     rw[if_pos h2]
     split at h
     · cases h
     · rename_i h3;rw[if_neg h3];exact gg hq ho
   · rename_i h2
     rw[if_neg h2]
     split at h
     · rename_i h3;rw[if_pos h3];exact hq
     · rename_i h3
       rw[if_neg h3]
       split at h
       · rename_i h4;rw[if_pos h4];exact po (gg hq ho)
       · cases h
theorem w9 (t:Tbl) (x:Rcd):((!dt x.e||!(df t.ds x.e.g).isSome)||decide (x.l<((df t.ds x.e.g).getD ⟨0,false,0⟩).l))=!tE t x:=by
 unfold tE
 cases dt x.e with
 | false=>rfl
 | true=>
  cases df t.ds x.e.g with
  | none=>rfl
  | some d=>
   show decide (x.l<d.l)=!decide (d.l≤x.l);by_cases h:x.l<d.l
   · rw[decide_eq_true h,decide_eq_false ab];rfl
   · rw[decide_eq_false h,decide_eq_true ab];rfl
theorem oV {l:List Pgp} (h:bS Pgp.g l) {k:Nat} (hk:k<l.length) (s:ByteArray):(gb l l[k].g s).flatMap cx=(l.flatMap cx).take (k*3+2) ++ [.string s] ++ (l.flatMap cx).drop (k*3+2+1):=by
 rw[yY h hk]
 have h1:l=l.take k ++ l[k]::l.drop (k+1):=by rw[←List.drop_eq_getElem_cons hk,List.take_append_drop]
 have h2:(l.set k ⟨l[k].g,l[k].f,s⟩)=l.take k ++ ⟨l[k].g,l[k].f,s⟩::l.drop (k+1):=List.set_eq_take_append_cons_drop .. |>.trans (by rw[if_pos hk])
 have h3:((l.take k).flatMap cx).length=k*3:=by rw[mO,List.length_take];omega
 have h4:l.flatMap cx=(l.take k).flatMap cx ++ ([Value.int .i64 l[k].g,.bool l[k].f] ++ (Value.string l[k].b::(l.drop (k+1)).flatMap cx)):=by
  conv=>lhs;rw[h1]
  rw[List.flatMap_append,List.flatMap_cons];rfl
 rw[h2,List.flatMap_append,List.flatMap_cons,h4]
 have e1:((l.take k).flatMap cx ++ ([Value.int .i64 l[k].g,.bool l[k].f] ++ (Value.string l[k].b::(l.drop (k+1)).flatMap cx))).take (k*3+2)=(l.take k).flatMap cx ++ [Value.int .i64 l[k].g,.bool l[k].f]:=by
  rw[List.take_append,h3,List.take_of_length_le ab]
  congr 1
  rw[show k*3+2-k*3=2 by omega];rfl
 have e2:((l.take k).flatMap cx ++ ([Value.int .i64 l[k].g,.bool l[k].f] ++ (Value.string l[k].b::(l.drop (k+1)).flatMap cx))).drop (k*3+2+1)=(l.drop (k+1)).flatMap cx:=by
  rw[List.drop_append,h3,List.drop_of_length_le ab,List.nil_append,show k*3+2+1-k*3=3 by omega];rfl
 rw[e1,e2,List.append_assoc,List.append_assoc];rfl
theorem ov {l:List Pgp} {A:Option Addr} {n:Int} {w:World} {B:Nat} (hs:bS Pgp.g l) (hr:Rd w B A (l.flatMap cx)) {y:Pgp} (h:kc l n=some y):(mw A l n).isNone=false:=by
 have hb:km Pgp.g l n=true:=by unfold km;rw[show bP Pgp.g l n=some y from h];rfl
 obtain⟨hk,_,_⟩:=i7 hs hb;obtain⟨b,o,rfl,_⟩:=hr.opened (aK br aq ab);unfold mw;rw[if_pos hb];rfl
theorem uh {w:World} {base sz n c b o:Nat} {T:TypeId} {xs:List Value} (h:w.ownsRow base T sz (.slice (some ⟨b,o,none⟩) n c) n xs):o=0:=by
 rcases h.2 with ⟨h1,_⟩ | ⟨g,cap,cur,h1,_⟩
 · cases h1
 · injection h1 with h1
   injection h1 with h1;injection h1
theorem ur {p:List Pgp} {x:Rcd} (h:jo p x=0) (ho:dt x.e=true):∃q,kc p x.e.g=some q∧q.f=x.e.f:=by
 unfold jo at h;rw[if_pos ho] at h
 cases hq:kc p x.e.g with
 | none=>rw[hq] at h;cases h
 | some q=>
  rw[hq] at h;exact⟨q,rfl,by simpa using (aL aq).1 h⟩
theorem kE (p:List Pgp) (g:Int) (s:ByteArray) (x:Rcd):jo (gb p g s) x=jo p x:=by
 unfold jo
 split
 · rw[xr]
   by_cases h:x.e.g=g
   · subst h
     rw[if_pos rfl]
     cases kc p x.e.g<;>rfl
   · rw[if_neg h]
 · rfl
theorem AN {t:Tbl} {x:Rcd} (h:tE t x=true):dt x.e=true:=by
 unfold tE at h;exact(Bool.and_eq_true_iff.1 h).1
structure RdoS where
 j:Nat
 p:List Pgp
 n:Int
theorem xU (t:Tbl) (TA:Option Addr) (tc:Nat) (TB:Option Addr) (td:Nat) (p:List Pgp) (A:Option Addr) (c:Nat) (l:List Rcd) (B:Option Addr) (d:Nat) (B0:Nat) (w:World) (hB0:B0≤w.heap.size)
 (ho:w.ownsRow B0 111 3 (.slice A p.length c) p.length (p.flatMap cx)) (hq:Rd w B0 B (l.flatMap bA)) (ht1:Rd w B0 TA (t.ts.flatMap cd)) (ht2:Rd w B0 TB (t.ds.flatMap cK)) (hs:SrtT t) (htl:t.ts.length≤1000∧t.ds.length≤1000)
 (hp:PgsOk p) (hl:l.length≤1000) (hx:∀x∈l,FewE x.e∧I6 x.e.g) (hf:∀x∈l,jo p x=0) :
 Calls Tryz.prog 83 #[.slice A p.length c,.slice B l.length d,cv t TA tc TB td] w fun e w'=>∃p':List Pgp,e=.returned (.tuple #[.int .i64 (ij t p 0 l).2.1,.int .i64 (ij t p 0 l).2.2])∧(p'.length=p.length∧((ij t p 0 l).2.2=0→p'=(ij t p 0 l).1))∧St (Value.slice A p.length c).ownBlock.toList w w' [.row (.slice A p.length c) p.length 111 3 (p'.flatMap cx)]:=by
 have hM:∀b∈(Value.slice A p.length c).ownBlock.toList,B0≤b:=fun b hb=>(World.ownsRow.lt ho b (by simpa using hb)).1;have ho':=bW ho (Nat.zero_le _);refine al (N:=87) Tryz.func83 rfl rfl rfl (fun _ Y=>?_);have Z:=St.initO ho';refine ah (ao ?_);refine nb Y rfl rfl Z fun b5 _ _ Zq Y Z=>?_;refine GO 6 ?_;intro _ Y;refine sv (v:=cv t TA tc TB td) Y (ai aa aa (Y.ev rfl) (Z.cellsAll (i:=0) rfl)) fun _ Y=>?_;refine cO Y (wn rfl) (ax a8 (Y.evs rfl) rfl) rfl rfl Z (lG t TA tc TB td _ ((Z.rdBase hM hB0 ht1).mono (Nat.le_trans hB0 Z.size)) ((Z.rdBase hM hB0 ht2).mono (Nat.le_trans hB0 Z.size)) hs htl) fun p19 _ _ Y Z=>?_;refine GO 1 ?_;intro _ Y;refine sv Y (fy 1 (Y.ev rfl)) fun _ Y=>?_;refine sv Y (lx (Y.ev rfl) (Z.cell (i:=0) (j:=1) rfl rfl)) fun _ Y=>?_;refine GO 17 ?_;intro _ Y;refine aY Y Z [24,23,8,0] (fun (q:RdoS)=>[(25,.int .i64 q.j),(9,.int .i64 q.n)]) (fun (q:RdoS)=>q.j≤l.length∧ij t p 0 l=ij t q.p q.n (l.drop q.j)∧PgsOk q.p∧q.p.length=p.length∧0≤q.n∧q.n≤q.j∧(∀x∈l,jo q.p x=0)) (fun q L=>L.set 4 (.row (.slice A p.length c) p.length 111 3 (q.p.flatMap cx))) (fun (q:RdoS)=>l.length-q.j) (⟨0,p,0⟩) (⟨Nat.zero_le _,rfl,hp,rfl,Int.le_refl 0,Int.le_refl 0,hf⟩) bz (Z) ?_;intro q _ _ Zc Y Z;refine GO 6 ?_;intro _ Y;refine ak (Y.ev rfl) (fun Zd=>?_) (fun Zd=>?_)
 ·
  have hlt:q.j<l.length:=by have:=of_decide_eq_true Zd;omega
  obtain⟨b5,o5,rfl,hB5,_⟩:=hq.opened (aK aB aq ab);have hdr:l.drop q.j=l[q.j]::l.drop (q.j+1):=List.drop_eq_getElem_cons hlt;obtain⟨hxe,hxg⟩:=hx _ (List.getElem_mem hlt);obtain⟨-,hun,hpo,hpl,hn0,hnj,hfo⟩:=Zc;rw[hdr,ij] at hun
  have hkk:∀x∈q.p,0≤x.g∧x.g≤600:=fun x hx=>by
   obtain⟨k,hk,rfl⟩:=List.getElem_of_mem hx;exact(hpo.all k hk).g
  refine wp_skip (ag (ah (wp_block (ah (ao ?_)))));refine sv Y (au (i:=q.j) (sz:=14) Tryz.underlying180 aa (Y.ev rfl) (Y.ev rfl) ab ab rfl) fun _ Y=>?_;refine sv (v:=ff l[q.j]) Y (ai aa aa (Y.ev rfl) (aW aB (Z.rdBase hM hB0 hq) hlt)) fun _ Y=>?_;refine na (.agg #[.int .i64 0,.int .i64 0,.int .i64 0,.int .i64 0,.int .i64 0,.int .i64 0,.bool false,.int .i64 0,.int .i64 0,.int .i64 0,.int .i64 0,.string ⟨#[]⟩,.string ⟨#[]⟩,.string ⟨#[]⟩]) Y rfl Z fun b11 _ _ Zm Y Z=>?_;refine sw Y Z 0 fun _ Z=>?_;refine GO 6 ?_;intro _ Y;refine vf Y 4 5 fun _ Y=>?_;refine GO 1 ?_;intro _ Y;refine sv Y (aw (v':=.tuple #[fF ((df t.ds l[q.j].e.g).getD ⟨0,false,0⟩),.bool (df t.ds l[q.j].e.g).isSome]) (by unfold nM;cases df t.ds l[q.j].e.g<;>rfl) (mM (z:=.agg #[.int .i64 0,.bool false,.int .i64 0]) Tryz.underlying226 Tryz.underlying3 aa (Y.ev rfl) (Y.ev rfl) (Z.at_ (i:=2) rfl))) fun _ Y=>?_;refine GO 3 ?_;intro _ Y;refine na (.agg #[.int .i64 0,.bool false,.int .i64 0]) Y rfl Z fun b12 _ _ Zn Y Z=>?_;refine sw Y Z 0 fun _ Z=>?_;refine GO 7 ?_;intro _ Y;refine sv (v:=cY l[q.j].e) Y (ai aa aa (Y.ev rfl) (Z.cellsOf (i:=1) rfl 1 13)) fun _ Y=>?_;refine cE Y rfl Z (iN _ _) fun _ _ Y Z=>?_;refine GO 2 ?_;intro _ Y;apply bm (x:=!(df t.ds l[q.j].e.g).isSome) Y Z 41 rfl 3 44
  case hf=>
   intro Ze;refine GO 3 ?_;intro _ Y;exact ae ⟨Y.midE 2,Z⟩
  case ht=>
   intro Ze;refine GO 3 ?_;intro _ Y;exact ae ⟨Y.midE 2,Z⟩
  case h=>
   rintro a42 Zr ⟨Zs,Zf⟩
   refine GO 1 ?_;intro _ Y;apply bm (x:=decide (l[q.j].l<((df t.ds l[q.j].e.g).getD ⟨0,false,0⟩).l)) Y Zf 45 rfl 6 51
   case hf=>
    intro Zg;refine GO 6 ?_;intro _ Y;exact ae ⟨Y.midE 5,Zf⟩
   case ht=>
    intro Zg;refine GO 6 ?_;intro _ Y;exact ae ⟨Y.midE 5,Zf⟩
   case h=>
    rintro a56 Zt ⟨Zo,Zh⟩
    refine ae (ag ?_);refine ak (Zo.ev rfl) (fun Za=>?_) (fun Za=>?_)
    ·
     have hdue:tE t l[q.j]=false:=by rw[w9] at Za;simpa using Za
     rw[if_neg (by rw[hdue];decide)] at hun;refine GO 9 ?_;intro _ Y;exact⟨⟨q.j+1,q.p,q.n⟩,(by show l.length-(q.j+1)<l.length-q.j;omega),⟨hlt,hun,hpo,hpl,hn0,by show q.n≤((q.j+1:Nat):Int);omega,hfo⟩,Y.re bz,(Zh.sub (.cons _ (.cons _ (.cons_cons _ (.cons_cons _ (.cons_cons _ (.cons_cons _ (.cons_cons _ .slnil))))))))⟩
    ·
     have hdue:tE t l[q.j]=true:=by rw[w9] at Za;simpa using Za
     rw[if_pos hdue] at hun;obtain⟨qq,hqq,hqf⟩:=ur (hfo _ (List.getElem_mem hlt)) (AN hdue);refine GO 6 ?_;intro _ Y;refine vf Y 4 5 fun _ Y=>?_;refine GO 1 ?_;intro _ Y;refine cE Y rfl Zh (hpl▸s9 q.p hpo.srt hkk A c l[q.j].e.g hxg _ (Zh.rdOf (i:=6) rfl) (by have:=hpo.n;omega)) fun _ _ Y Z=>?_;refine GO 1 ?_;intro _ Zi;obtain⟨b',o',rfl,qk,q1,q2,q3⟩:=mE hpo.srt (Z.rdOf (i:=6) rfl) (ov hpo.srt (Z.rdOf (i:=6) rfl) hqq);obtain rfl:o'=0:=uh ho';rw[Nat.zero_add] at q3;generalize il Pgp.g q.p l[q.j].e.g=k at qk q1 q2 q3
     have hq9:qq=q.p[k]:=by rw[q2] at hqq;injection hqq with e;exact e.symm
     subst hq9;rw[q2] at hun;simp only[] at hun;have Zb:=(hpo.all k qk).b;refine ae (ag (ah ?_));apply aH Zi (eZ 20) _ aa
     case h=>
      refine qv Zi (fun X hX=>aw (v':=.pointer (some ⟨b',k*3,none⟩)) (congrArg Value.pointer q3) (bc (Zi.ev rfl))) fun _ Y=>?_;refine GO 1 ?_;intro _ Y;refine qv Y (fun X hX=>fy 2 (Y.ev rfl)) fun _ Y=>?_;refine qv Y (fun X hX=>lx (Y.ev rfl) (by have:=(aW br ((Z.grow hX).rdOf (i:=6) rfl) qk) 2 _ rfl;rw[Nat.zero_add] at this;exact this)) fun _ Y=>?_;refine qv Y (fun X hX=>aw (v':=.pointer (some ⟨b',k*3,none⟩)) (congrArg Value.pointer q3) (bc (Y.ev rfl))) fun _ Y=>?_;refine GO 1 ?_;intro _ Y;refine qv Y (fun X hX=>fy 1 (Y.ev rfl)) fun _ Y=>?_;refine qv Y (fun X hX=>lx (Y.ev rfl) (by have:=(aW br ((Z.grow hX).rdOf (i:=6) rfl) qk) 1 _ rfl;rw[Nat.zero_add] at this;exact this)) fun _ Y=>?_;refine GO 3 ?_;intro _ Y;refine qv Y (fun X hX=>fx 6 7 (Y.ev rfl)) fun _ Y=>?_;refine qv (v:=fC l[q.j].e.o) Y (fun X hX=>ai aa aa (Y.ev rfl) ((Z.grow hX).cellsOf (i:=1) rfl 7 6)) fun _ Y=>?_;refine lT Y rfl (fun X hX=>tP q.p[k].b q.p[k].f l[q.j].l l[q.j].e.o _ (by rw[Zb];decide) hxe.o hxe.n) fun _ Y=>?_;refine GO 7 ?_;intro _ Y;refine aP fun _ Zj Zp=>?_;have Z:=Z.grow Zj;refine GO 10 ?_;intro _ Y;refine ak (Y.ev rfl) (fun Zk=>?_) (fun Zk=>?_)
      ·
       have he:(iL q.p[k].b q.p[k].f l[q.j].l l[q.j].e.o).2.2≠0:=by simpa using Zk
       rw[if_pos he] at hun;refine GO 14 ?_;intro _ Y;refine bC Y rfl rfl rfl ?_;exact⟨q.p,by rw[hun];(try rfl),⟨hpl,fun h=>absurd h (by rw[hun];exact he)⟩,(Z.sub (.cons _ (.cons _ (.cons _ (.cons _ (.cons _ (.cons _ (.cons_cons _ .slnil))))))))⟩
      ·
       have he:(iL q.p[k].b q.p[k].f l[q.j].l l[q.j].e.o).2.2=0:=by simpa using Zk
       rw[if_neg (fun h=>h he)] at hun;obtain⟨s,hsq⟩:∃s,s=(iL q.p[k].b q.p[k].f l[q.j].l l[q.j].e.o).1:=⟨_,rfl⟩
       have hs5:s.size=512:=by rw[hsq];exact u7 Zb he
       have hpo2:=uU hpo l[q.j].e.g s hs5;have hfl:=oV hpo.srt qk s;rw[q1] at hfl;rw[←hsq] at hun Y;refine wp_skip (ag (ah (ao ?_)));refine sv Y (aw (v':=.pointer (some ⟨b',k*3,none⟩)) (congrArg Value.pointer q3) (bc (Y.ev rfl))) fun _ Y=>?_;refine GO 2 ?_;intro _ Y;refine sv Y (fy 2 (Y.ev rfl)) fun _ Y=>?_;refine o3 Y (wn rfl) ⟨rfl,rfl⟩ (Y.ev rfl) (Y.ev rfl) rfl aa Z (i:=6) rfl rfl (by show k*3+2+1≤p.length*3;omega) fun _ Z=>?_;refine GO 7 ?_;intro _ Y;refine ak (Y.ev rfl) (fun Zl=>?_) (fun Zl=>?_)
       ·
        refine GO 12 ?_;intro _ Y;exact⟨⟨q.j+1,gb q.p l[q.j].e.g s,q.n+1⟩,(by show l.length-(q.j+1)<l.length-q.j;omega),⟨hlt,by rw[Zl] at hun;exact hun,hpo2,by rw[eP];exact hpl,by show 0≤q.n+1;omega,by show q.n+1≤((q.j+1:Nat):Int);omega,fun x hx=>by rw[kE];exact hfo x hx⟩,Y.re bz,(by show St _ w _ [_,_,_,_,.row _ _ _ _ ((gb q.p l[q.j].e.g s).flatMap cx)];rw[hfl];exact(Z.sub (.cons _ (.cons _ (.cons_cons _ (.cons_cons _ (.cons_cons _ (.cons_cons _ (.cons_cons _ .slnil)))))))))⟩
       ·
        refine GO 8 ?_;intro _ Y;exact⟨⟨q.j+1,gb q.p l[q.j].e.g s,q.n⟩,(by show l.length-(q.j+1)<l.length-q.j;omega),⟨hlt,by rw[Zl] at hun;rw[show q.n=q.n+n3 false by show q.n=q.n+0;omega];exact hun,hpo2,by rw[eP];exact hpl,hn0,by show q.n≤((q.j+1:Nat):Int);omega,fun x hx=>by rw[kE];exact hfo x hx⟩,Y.re bz,(by show St _ w _ [_,_,_,_,.row _ _ _ _ ((gb q.p l[q.j].e.g s).flatMap cx)];rw[hfl];exact(Z.sub (.cons _ (.cons _ (.cons_cons _ (.cons_cons _ (.cons_cons _ (.cons_cons _ (.cons_cons _ .slnil)))))))))⟩
     case hB=>kernel_rfl
     case hst=>rfl
 ·
  have hge:l.length≤q.j:=by have:=of_decide_eq_false Zd;omega
  have hun:=Zc.2.1;rw[List.drop_of_length_le hge,ij] at hun;refine GO 13 ?_;intro _ Y;refine bC Y rfl rfl rfl ?_;exact⟨q.p,by rw[hun];(try rfl),⟨Zc.2.2.2.1,fun _=>by rw[hun]⟩,(Z.sub (.cons _ (.cons _ (.cons _ (.cons _ (.cons_cons _ .slnil))))))⟩
theorem mH {t:Tbl}:∀{l:List Rcd} {p:List Pgp} {n:Int},(ij t p n l).2.2≠0→(ij t p n l).1=[]∧(ij t p n l).2.1=0
 | [],_,_,h=>absurd rfl h
 | x::r,p,n,h=>by
  rw[ij] at h ⊢
  split
  · rename_i hd
    rw[if_pos hd] at h
    cases hq:kc p x.e.g with
    | none=>exact⟨rfl,rfl⟩
    | some q=>
     rw[hq] at h;simp only[] at h ⊢
     split
     · exact⟨rfl,rfl⟩
     · rename_i he
       rw[if_neg he] at h;exact mH h
  · rename_i hd
    rw[if_neg hd] at h;exact mH h
def sa (l:List Rcd) (t:Tbl) (p:List Pgp):Int:=ar [(dW l).2,dy t,mD l p]
def iH (l:List Rcd) (t:Tbl) (p:List Pgp):List Pgp × Int × Int:=if sa l t p≠0 then ([],0,sa l t p) else ij t p 0 l
theorem xx {l:List Rcd} {p:List Pgp} (h:mD l p=0):PgsOk p∧∀x∈l,jo p x=0:=by
 unfold mD at h
 split at h
 · rename_i h1;exact absurd h h1
 · rename_i h1
   refine⟨pgsE1_zero.1 (by simpa using h1),fun x hx=>?_⟩;obtain⟨k,hk,rfl⟩:=List.getElem_of_mem hx;exact(cu _ _).1 h k hk
theorem pI (l:List Rcd) (B:Option Addr) (d:Nat) (t:Tbl) (TA:Option Addr) (tc:Nat) (TB:Option Addr) (td:Nat) (p:List Pgp) (A:Option Addr) (c:Nat) (w:World)
 (hr:Rd w w.heap.size A (p.flatMap cx)) (hq:Rd w w.heap.size B (l.flatMap bA)) (ht1:Rd w w.heap.size TA (t.ts.flatMap cd)) (ht2:Rd w w.heap.size TB (t.ds.flatMap cK)) (hl:l.length≤1000) (hc:l.length≤d) (hpl:p.length≤1000) (hF:FolT w) (hx:∀x∈l,FewE x.e∧I6 x.e.g) :
 Calls Tryz.prog 29 #[.slice B l.length d,cv t TA tc TB td,.slice A p.length c] w fun e w'=>∃i:Option Addr × Nat,e=.returned (.tuple #[.slice i.1 (iH l t p).1.length i.2,.int .i64 (iH l t p).2.1,.int .i64 (iH l t p).2.2]) ∧
  St [] w w' [.row (.slice i.1 (iH l t p).1.length i.2) (iH l t p).1.length 111 3 ((iH l t p).1.flatMap cx)]:=by
 refine al (N:=39) Tryz.func29 rfl rfl rfl (fun _ Y=>?_);have Z:=St.init w;refine ah (ao ?_);refine nb Y rfl rfl Z fun b4 _ _ Zg Y Z=>?_;refine GO 7 ?_;intro _ Y;apply aH Y (eZ 6) _ aa
 case h=>
  refine GO 1 ?_;intro _ Y;refine lT Y rfl (fun X hX=>dZ l B d _ ((Z.grow hX).rd0 hq) hl hc (hF.below (Z.grow hX).below) (fun x hm=>(hx x hm).1)) fun _ Y=>?_;refine qv (v:=cv t TA tc TB td) Y (fun X hX=>ai aa aa (Y.ev rfl) ((Z.grow hX).cellsAll (i:=0) rfl)) fun _ Y=>?_;refine lT Y rfl (fun X hX=>cQ t TA tc TB td _ ((Z.grow hX).rd0 ht1) ((Z.grow hX).rd0 ht2)) fun _ Y=>?_;refine GO 3 ?_;intro _ Y;refine aP fun _ Zb Ze=>?_;have Z:=Z.grow Zb;refine cE Y rfl Z (iG p l A c B d _ (Z.rd0 hr) (Z.rd0 hq) hl (fun x hm=>(hx x hm).2)) fun _ _ Y Z=>?_;refine bw Y (wn rfl) (f:=fun b=>.slice (some ⟨b,0,none⟩) 3 3) (aX Tryz.underlying214 aa aa (Y.evs2 rfl) rfl rfl rfl aq aq) rfl rfl Z fun b20 _ _ Zf Y Z=>?_;refine cC Y rfl (eY (Z.at_ (i:=0) rfl)) fun _ Y=>?_;refine GO 9 ?_;intro _ Y;refine ak (Y.ev rfl) (fun Zc=>?_) (fun Zc=>?_)
  ·
   have hne:sa l t p≠0:=by unfold sa;simpa using Zc
   have e1:iH l t p=([],0,sa l t p):=by unfold iH;rw[if_pos hne]
   refine GO 10 ?_;intro _ Y;refine jU Y rfl rfl rfl rfl ?_;refine⟨(none,0),by rw[e1];rfl,?_⟩;rw[e1];exact(Z.sub (List.nil_sublist _)).nilRow 111 3
  ·
   have hz:sa l t p=0:=by unfold sa;simpa using Zc
   have e1:iH l t p=ij t p 0 l:=by unfold iH;rw[if_neg (fun h=>h hz)]
   have hz2:=hz;unfold sa at hz2;rw[aQ] at hz2;have z2:=hz2 (dy t) a7;obtain⟨g1,g2⟩:=xx (hz2 (mD l p) a7);have htk:=tblE_zero.1 z2;have htn:=htk.n;have htm:=htk.m;refine GO 5 ?_;intro _ Y;refine kI Y (wn rfl) (ax a8 (Y.evs rfl) rfl) rfl rfl Z (mK p A c _ (Z.rd0 hr) hpl) (Nat.le_refl _) fun A26 c26 _ _ Y Z=>?_;refine GO 7 ?_;intro _ Y;refine sv (v:=cv t TA tc TB td) Y (ai aa aa (Y.ev rfl) (Z.cellsAll (i:=2) rfl)) fun _ Y=>?_;refine fM Y (wn rfl) (ax a8 (Y.evs rfl) rfl) rfl rfl Z (i:=0) rfl qh (xU t TA tc TB td p A26 c26 l B d w.heap.size _ Z.size (Z.ownB (i:=0) rfl) (hq.below Z.below) (ht1.below Z.below) (ht2.below Z.below) htk.srt ab g1 hl hx g2) fun p31 _ _ Y Za Z=>?_;refine GO 14 ?_;intro _ Y;refine ak (Y.ev rfl) (fun Zd=>?_) (fun Zd=>?_)
   ·
    have he:(ij t p 0 l).2.2≠0:=by simpa using Zd
    obtain⟨u1,u2⟩:=mH he;refine GO 10 ?_;intro _ Y;refine jU Y rfl rfl rfl rfl ?_;refine⟨(none,0),by rw[e1,u1,u2];rfl,?_⟩;rw[e1,u1];exact(Z.sub (List.nil_sublist _)).nilRow 111 3
   ·
    have he:(ij t p 0 l).2.2=0:=by simpa using Zd
    have hpe:=Za.2 he;have hple:=Za.1;refine GO 12 ?_;intro _ Y;refine jU Y rfl rfl rfl rfl ?_;refine⟨(A26,c26),by rw[e1,←hpe,hple,he];rfl,?_⟩;rw[e1,←hpe,hple];exact(Z.sub (.cons_cons _ (.cons _ (.cons _ .slnil))))
 case hB=>kernel_rfl
 case hst=>rfl
end Go.Proofs.YtcfdpfmchchkaaaGreatDoor
