/- Chapter 20 -/
import Derived.Test.YtcfdpfmchchkaaaGreatDoorOpA
namespace Go.Proofs.YtcfdpfmchchkaaaGreatDoor
set_option maxHeartbeats 1000000
set_option linter.unusedVariables false
set_option linter.unusedSimpArgs false
open Go.RowKit Go.Sort
def oC (x:RstP):Value:=.agg #[ae x.s,ae x.c,ae x.o]
def ik (x:RecP):Value:=.agg #[ae x.l,ae x.s,.string x.b]
theorem B3 (n c:Int) (w:World) (b:0≤n) (g:n≤1000000000000) (f:1≤c) (h3:c≤1000000) :
 fZ 246 #[ae n,ae c] w (ae ((n+c-1) / c*c)):=by
 have a:0≤(n+c-1) / c:=Int.ediv_nonneg ab ab;have e:(n+c-1) / c*c≤n+c-1:=Int.ediv_mul_le _ ab;have d:0≤(n+c-1) / c*c:=Int.mul_nonneg a ab;refine aq (N:=13) Tryz.func246 rfl rfl rfl (fun _ b=>?_);have h:=St.init w;refine GO 12 ?_;intro _ Y;refine sv Y (lA (Y.ev rfl) (Y.ev rfl) ab) fun _ Y=>?_;refine GO 1 ?_;intro _ Y;refine sv Y (gg (Y.ev rfl) (Y.ev rfl) ab) fun _ Y=>?_;refine GO 4 ?_;intro _ Y;refine aI Y rfl rfl ?_;exact⟨rfl,rfl⟩
theorem xw (n:Int) (w:World) (a:0≤n) (b:n≤1000000) :
 fZ 245 #[ae n] w (ae (kb n)):=by
 refine aq (N:=6) Tryz.func245 rfl rfl rfl (fun _ a=>?_);have c:=St.init w;refine GO 9 ?_;intro _ Y;refine cU Y rfl (B3 _ _ _ ab ab ab ab) fun _ Y=>?_;refine GO 4 ?_;intro _ Y;refine aI Y rfl rfl ?_;exact⟨by unfold kb;congr 2;omega,rfl⟩
theorem qw (n:Int) (w:World) (a:0≤n) (b:n≤1000000000) :
 fZ 222 #[ae n] w (ae (cp n)):=by
 refine aq (N:=5) Tryz.func222 rfl rfl rfl (fun _ a=>?_);have c:=St.init w;refine GO 8 ?_;intro _ Y;refine cU Y rfl (B3 _ _ _ ab ab ab ab) fun _ Y=>?_;refine GO 4 ?_;intro _ Y;refine aI Y rfl rfl ?_;exact⟨by unfold cp;congr 2;omega,rfl⟩
theorem lk (n:Int) (w:World) :
 fZ 221 #[ae n] w (.bool (n.tmod 448==0)):=by
 refine aq (N:=6) Tryz.func221 rfl rfl rfl (fun _ Y=>?_);have a:=St.init w;refine GO 8 ?_;intro _ Y;refine sv Y (yh (Y.ev rfl) (Y.ev rfl) au) fun _ Y=>?_;refine GO 5 ?_;intro _ Y;refine aI Y rfl rfl ?_;exact⟨rfl,rfl⟩
theorem js (x:RecP) (w:World) (c:1≤x.l) (d:x.l≤1000000000) (a:x.b.size≤100000) :
 bz 220 #[ik x] w (ae (dG x)):=by
 have f:0≤kb x.b.size∧kb x.b.size≤1000000:=by unfold kb;omega
 refine aq (N:=11) Tryz.func220 rfl rfl rfl (fun _ c=>?_);have Z:=St.init w;refine ai (an ?_);refine nb c rfl rfl Z fun b1 _ _ i d Z=>GO 4 ?_;intro _ a;apply aK a (fA 7) _ aa
 case h=>
  refine GO 6 ?_;intro _ Y;refine gp Y rfl (fun X j=>xw _ _ ab ab) fun _ Y=>?_;refine ax ?_;refine aV fun _ e g=>?_;have Z:=Z.grow e;refine GO 5 ?_;intro _ Y;refine aI Y rfl rfl ?_;exact⟨rfl,Z.below⟩
 case hB=>kernel_rfl
 case hst=>rfl
theorem tJ (n:Int) (w:World) :
 fZ 161 #[ae n] w (ae (j3 n)):=by
 refine aq (N:=6) Tryz.func161 rfl rfl rfl (fun _ Y=>?_);have a:=St.init w;refine GO 8 ?_;intro _ Y;refine cU Y rfl (cG _ _ _ _) fun _ Y=>?_;refine cU Y rfl (aH _ _ _) fun _ Y=>?_;refine GO 4 ?_;intro _ Y;refine aI Y rfl rfl ?_;exact⟨rfl,rfl⟩
theorem nK (x:RstP) (w:World) :
 bz 162 #[oC x] w (ae (fK x)):=by
 refine aq (N:=19) Tryz.func162 rfl rfl rfl (fun _ Y=>?_);have Z:=St.init w;refine ai (an ?_);refine nb Y rfl rfl Z fun b1 _ _ l Y Z=>GO 7 ?_;intro _ Y;refine cU Y rfl (cG _ _ _ _) fun _ Y=>?_;refine GO 1 ?_;intro _ Y;apply bo Y Z 7 rfl 4 11
 case ht=>
  intro c;refine GO 2 ?_;intro _ Y;refine ct Y (ao Y _ rfl rfl rfl c) (az bc (Y.evs rfl) rfl) rfl rfl (cG _ _ _ _) fun _ Y=>GO 1 ?_;intro _ Y;exact ah ⟨Y.midE 3,Z⟩
 case hf=>
  intro c;refine GO 4 ?_;intro _ Y;exact ah ⟨Y.midE 3,Z⟩
 case h=>
  rintro e k ⟨i,a⟩
  refine GO 1 ?_;intro _ Y;apply bo Y a 12 rfl 4 16
  case ht=>
   intro b;refine GO 2 ?_;intro _ Y;refine ct Y (ao Y _ rfl rfl rfl b) (az bc (Y.evs rfl) rfl) rfl rfl (cG _ _ _ _) fun _ Y=>GO 1 ?_;intro _ Y;exact ah ⟨Y.midE 3,a⟩
  case hf=>
   intro b;refine GO 4 ?_;intro _ Y;exact ah ⟨Y.midE 3,a⟩
  case h=>
   rintro d g ⟨j,f⟩
   refine GO 6 ?_;intro _ Y;refine cU Y rfl (aH _ _ _) fun _ Y=>?_;refine GO 4 ?_;intro _ Y;refine aI Y rfl rfl ?_;exact⟨rfl,f.below⟩
open Go.RowKit Go.Sort
def recC (x:RecP):List Value:=[ae x.l,ae x.s,.string x.b]
def aJ (l:List RecP):List Value:=l.flatMap recC
def a7 (r:RngP) (A:Option Addr) (c:Nat):Value:=.agg #[ae r.pg,ae r.r.s,ae r.r.c,ae r.r.o,ae r.e.s,ae r.e.c,ae r.e.o,.slice A r.rs.length c,ae r.nx]
theorem bw (l:List RecP):(aJ l).length=l.length*3:=by
 induction l with
 | nil=>rfl
 | cons x l ih=>simp[aJ,recC] at ih ⊢;omega
theorem sa:∀(l:List RecP) (k:Nat) (h:k<l.length) (j:Nat) (u:Value),(recC l[k])[j]? = some u→(aJ l)[k*3+j]? = some u
 | x::l,0,h,j,u,hu=>by
  have a:j<3:=(List.getElem?_eq_some_iff.1 hu).1;show(recC x ++ aJ l)[0*3+j]? = some u;rw[Nat.zero_mul,Nat.zero_add,List.getElem?_append_left (by exact a)];exact hu
 | x::l,k+1,h,j,u,hu=>by
  show(recC x ++ aJ l)[(k+1)*3+j]? = some u;have b:(recC x).length=3:=rfl;rw[List.getElem?_append_right ab,b,show(k+1)*3+j-3=k*3+j by omega];exact sa l k (ar h) j u hu
theorem recAt {X:World} {B b o:Nat} {l:List RecP} {k:Nat} (h:Rd X B (some ⟨b,o,none⟩) (aJ l)) (c:k<l.length):∀(j:Nat) (u:Value),[Value.int .i64 l[k].l,ae l[k].s,.string l[k].b][j]? = some u→X.cell? ⟨b,o+k*3+j,none⟩=some u:=fun j u d=>by
 obtain⟨f,o',e,_,a⟩:=h (k*3+j) u (sa l k c j u d);injection e with e;injection e with e1 e2;subst e1 e2;rw[Nat.add_assoc];exact a
theorem gL {X:World} {b:Nat} {a e2:Int} {T:TypeId} (c:Box X b #[ae a,ae e2] T):fZ 160 #[.slice (some ⟨b,0,none⟩) 2 2] X (ae (aw [a,e2])):=
 ft b 0 [a,e2] X bm (fun k d=>by
  rw[Nat.zero_add,Box.cells c k]
  have:k=0∨k=1:=by simp at d;omega
  rcases this with rfl | rfl<;>rfl)
theorem fe {X:World} {b:Nat} {a e2 e3:Int} {T:TypeId} (d:Box X b #[ae a,ae e2,ae e3] T):fZ 160 #[.slice (some ⟨b,0,none⟩) 3 3] X (ae (aw [a,e2,e3])):=
 ft b 0 [a,e2,e3] X bm (fun k c=>by
  rw[Nat.zero_add,Box.cells d k]
  have:k=0∨k=1∨k=2:=by simp at c;omega
  rcases this with rfl | rfl | rfl<;>rfl)
theorem jZ {X:World} {b:Nat} {c e2 e3 a:Int} {T:TypeId} (e:Box X b #[ae c,ae e2,ae e3,ae a] T):fZ 160 #[.slice (some ⟨b,0,none⟩) 4 4] X (ae (aw [c,e2,e3,a])):=
 ft b 0 [c,e2,e3,a] X bm (fun k d=>by
  rw[Nat.zero_add,Box.cells e k]
  have:k=0∨k=1∨k=2∨k=3:=by simp at d;omega
  rcases this with rfl | rfl | rfl | rfl<;>rfl)
theorem dq {X:World} {b:Nat} {a e2:Int} {T:TypeId} (c:Box X b #[ae a,ae e2] T):fZ 63 #[.slice (some ⟨b,0,none⟩) 2 2] X (ae (aw [a,e2])):=
 gR b 0 [a,e2] X bm (fun k d=>by
  rw[Nat.zero_add,Box.cells c k]
  have:k=0∨k=1:=by simp at d;omega
  rcases this with rfl | rfl<;>rfl)
theorem gn {X:World} {b:Nat} {a e2 e3:Int} {T:TypeId} (d:Box X b #[ae a,ae e2,ae e3] T):fZ 63 #[.slice (some ⟨b,0,none⟩) 3 3] X (ae (aw [a,e2,e3])):=
 gR b 0 [a,e2,e3] X bm (fun k c=>by
  rw[Nat.zero_add,Box.cells d k]
  have:k=0∨k=1∨k=2:=by simp at c;omega
  rcases this with rfl | rfl | rfl<;>rfl)
theorem mb {b:ByteArray}:b=⟨#[]⟩↔b.size=0:=by
 constructor
 · rintro rfl;rfl
 · intro h;exact dU (List.eq_nil_of_length_eq_zero (by rw[aP];exact h))
theorem Ff (b:ByteArray):aw [bF (!decide (b=⟨#[]⟩)) 17,bF (decide ((b.size:Int)≤3000)) 8]=if b.size=0 then 17 else if 3000<b.size then 8 else 0:=by
 simp only[aw,bF];by_cases h:b.size=0
 · simp[h,mb]
 · by_cases a:3000<b.size
   · have h3:¬((b.size:Int)≤3000):=by omega
     simp[h,mb,a,h3]
   · have h3:((b.size:Int)≤3000):=by omega
     simp[h,mb,a,h3]
theorem wv (p q:Bool) (a b:Int) (c:a≠0):aw [bF p a,bF q b]=if p=false then a else if q=false then b else 0:=by
 cases p<;>cases q<;>simp[aw,bF,c]<;>(intro h;exact h.symm)
theorem sY (p q r:Bool) (a b c:Int) (e:a≠0) (d:b≠0):aw [bF p a,bF q b,bF r c]=if p=false then a else if q=false then b else bF r c:=by
 cases p<;>cases q<;>cases r<;>simp[aw,bF,e,d]<;>(intro h;exact h.symm)
theorem xm {o q:Int} {x:RecP} (a:x.b.size≠0) (c:¬3000<x.b.size):eC o q none x=aw [bF (x.l==o&&decide (o≥1)&&(o-1) % 8==0) 9,bF (bD x.s 1 q) 2]:=by
 rw[wv _ _ _ _ au];unfold eC fu seqB;rw[if_neg a,if_neg c];simp only[bF,ge_iff_le,if_true]
theorem zR {o q:Int} {x y:RecP} (f:x.b.size≠0) (g:¬3000<x.b.size) (hx:-9223372036854775808≤x.l∧x.l<9223372036854775808) (a:0≤dG y) (h:dG y<1000000000000) :
 eC o q (some y) x=aw [bF (IntKind.i64.wrap (x.l-1)==dG y||IntKind.i64.wrap (x.l-1)==cp (dG y)) 9,bF (bD x.s 1 q) 2,bF (x.s==y.s||(decide (x.s>y.s)&&(IntKind.i64.wrap (x.l-1)).tmod 448==0)) 9]:=by
 rw[sY _ _ _ _ _ _ au au];unfold eC fu seqB;rw[if_neg f,if_neg g]
 have d:0≤cp (dG y)∧cp (dG y)<2000000000000:=by unfold cp;omega
 have c:∀e:Int,0≤e→e<2000000000000→(IntKind.i64.wrap (x.l-1)==e)=(x.l-1==e):=fun e i k=>by
  rw[Bool.eq_iff_iff,beq_iff_eq,beq_iff_eq,IntKind.wrap_i64];omega
 simp only[c _ a ab,c _ d.1 d.2]
 cases ho:(x.l-1==dG y||x.l-1==cp (dG y)) with
 | false=>rfl
 | true=>
  have j:0≤x.l-1∧x.l-1<2000000000000:=by
   rw[Bool.or_eq_true,beq_iff_eq,beq_iff_eq] at ho;omega
  have e:IntKind.i64.wrap (x.l-1)=x.l-1:=de ab;rw[e,Int.tmod_eq_emod_of_nonneg j.1]
def Bfr (y:RecP):Prop:=1≤y.l∧y.l≤500000000∧y.b.size≤3000
theorem Bfr.bd {y:RecP} (h:Bfr y):0≤dG y∧dG y≤600000000∧0≤cp (dG y)∧cp (dG y)≤700000000∧1≤dG y:=by
 obtain⟨b,a,h3⟩:=h;unfold cp dG kb;omega
theorem ri (r:RngP) (A:Option Addr) (c i:Nat) (w:World) (hr:Rd w w.heap.size A (aJ r.rs)) (v:i<r.rs.length) (hx:-9223372036854775808≤r.rs[i].l∧r.rs[i].l<9223372036854775808) (U:∀y,bS r.rs i=some y→Bfr y) (ho:0≤r.r.o∧r.r.o≤100000000) (u:r.rs.length≤1000) :
 bz 167 #[a7 r A c,ae i] w (ae (eC r.r.o r.r.s (bS r.rs i) r.rs[i])):=by
 obtain⟨b,o,rfl,hB,_⟩:=hr.opened (by rw[bw];omega);refine aq (N:=104) Tryz.func167 rfl rfl rfl (fun _ Y=>?_);have Z:=St.init w;refine ai (an ?_);refine nb Y rfl rfl Z fun b2 _ _ Zz Y Z=>?_;refine GO 5 ?_;intro _ q;refine vf q 7 7 fun _ Y=>?_;refine GO 2 ?_;intro _ Y;refine sv Y (av (i:=i) (sz:=3) cv aa (Y.ev rfl) (Y.ev rfl) rfl v rfl) fun _ Y=>?_;refine sv Y (ag aa aa (Y.ev rfl) (recAt (Z.rd0 hr) v)) fun _ Y=>?_;refine na (.agg ia) Y rfl Z fun V _ _ Qa Y Z=>?_;refine sw Y Z 0 fun _ Z=>?_;refine GO 6 ?_;intro _ Y;refine sv Y (sV (Y.ev rfl) (Y.ev rfl)) fun _ Y=>?_;refine GO 5 ?_;intro _ Y;apply aK Y (fA 8) _ aa
 case h=>
  refine GO 3 ?_;intro _ Y;refine gp Y rfl (fun X hX=>aH _ _ _) fun _ Y=>?_;refine GO 5 ?_;intro _ Y;refine aV fun _ K Zo=>?_;have Z:=Z.grow K;refine cU Y rfl (aH _ _ _) fun _ Y=>?_;refine bV Y (wn rfl) (f:=fun b=>.slice (some ⟨b,0,none⟩) 2 2) (bb cT aa aa (Y.evs2 rfl) rfl rfl rfl au au) rfl rfl Z fun Q _ _ W Y Z=>cU Y rfl (gL (Z.at_ (i:=0) rfl)) fun _ Y=>?_;refine GO 9 ?_;intro _ Y;refine ak (Y.ev rfl) (fun a=>?_) (fun a=>?_)
  ·
   refine GO 8 ?_;intro _ Y;refine aI Y rfl rfl ?_;refine⟨?_,Z.below⟩;rw[Ff] at a ⊢
   congr 2
   unfold eC;simp only[bne_iff_ne,ne_eq] at a
   split
   · rfl
   · rename_i h
     rw[if_neg h] at a
     split
     · rfl
     · rename_i q;rw[if_neg q] at a;exact absurd rfl a
  ·
   rw[Ff] at a
   have d:r.rs[i].b.size≠0∧¬3000<r.rs[i].b.size:=by
    simp only[bne_eq_false_iff_eq] at a
    split at a
    · cases a
    · split at a
      · cases a
      · exact⟨by assumption,by assumption⟩
   refine GO 7 ?_;intro _ Y;refine vf Y 0 1 fun _ Y=>?_;refine GO 1 ?_;intro _ Y;refine cU Y rfl (cG _ _ _ _) fun _ Y=>?_;refine cU Y rfl (aH _ _ _) fun _ Y=>?_;refine GO 10 ?_;intro _ Y;refine ak (Y.ev rfl) (fun p=>?_) (fun p=>?_)
   ·
    refine GO 3 ?_;intro _ Y;refine vf Y 2 3 fun _ Y=>?_;refine GO 11 ?_;intro _ Y;apply bo Y Z 51 rfl 3 54
    case ht=>
     intro G;refine GO 3 ?_;intro _ Y;exact ah ⟨Y.midE 2,Z⟩
    case hf=>
     intro G;refine GO 3 ?_;intro _ Y;exact ah ⟨Y.midE 2,Z⟩
    case h=>
     rintro M Qb ⟨Qc,t⟩
     refine GO 1 ?_;intro _ Y;apply bo Y t 55 rfl 5 60
     case ht=>
      intro C;refine GO 2 ?_;intro _ Y;refine sy Y (kY (Y.ev rfl) (Y.ev rfl) (by rw[Bool.and_eq_true,decide_eq_true_eq] at C;omega)) fun _ Y=>?_;refine GO 2 ?_;intro _ Y;exact ah ⟨Y.midE 4,t⟩
     case hf=>
      intro C;refine GO 5 ?_;intro _ Y;exact ah ⟨Y.midE 4,t⟩
     case h=>
      rintro I Qd ⟨O,T⟩
      refine cU O rfl (aH _ _ _) fun _ Y=>?_;refine GO 1 ?_;intro _ Y;refine bV Y (wn rfl) (f:=fun b=>.slice (some ⟨b,0,none⟩) 2 2) (bb cT aa aa (Y.evs2 rfl) rfl rfl rfl au au) rfl rfl T fun L _ _ Zs Y Z=>cU Y rfl (gL (Z.at_ (i:=0) rfl)) fun _ Y=>?_;refine GO 5 ?_;intro _ Y;refine aI Y rfl rfl ?_;refine⟨?_,Z.below⟩
      have g:i=0:=by simp only[beq_iff_eq] at p;omega
      have e:bS r.rs i=none:=by unfold bS;rw[if_pos g]
      rw[e,xm d.1 d.2]
   ·
    have g:i≠0:=by simp only[beq_eq_false_iff_ne] at p;omega
    have k:i-1<r.rs.length:=by omega
    have e:bS r.rs i=some r.rs[i-1]:=by unfold bS;rw[if_neg g,List.getElem?_eq_getElem k]
    have m:=U _ e;have j:=m.bd;refine wp_skip (aj (ai (an ?_)));refine vf Y 7 7 fun _ Y=>?_;refine GO 3 ?_;intro _ Y;refine sv Y (av (i:=i-1) (sz:=3) cv aa (Y.ev rfl) (Y.ev rfl) ab ab rfl) fun _ Y=>?_;refine sv Y (ag aa aa (Y.ev rfl) (recAt (Z.rd0 hr) k)) fun _ Y=>?_;refine na (.agg ia) Y rfl Z fun R _ _ Zt Y Z=>sw Y Z 0 fun _ Z=>?_;refine mM ?_;refine sv Y (ag aa aa (Y.ev rfl) (Z.cellsAll (i:=0) rfl)) fun _ Y=>?_;refine cN Y rfl Z (js _ _ m.1 (by have:=m.2.1;omega) (by have:=m.2.2;omega)) fun _ _ Y Z=>?_;refine GO 11 ?_;intro _ Y;apply bI Y Z 78 rfl 10 88
    case hf=>
     intro J;refine GO 6 ?_;intro _ Y;apply bo Y Z 84 rfl 3 87
     case ht=>
      intro z;refine GO 1 ?_;intro _ Y;refine ct Y (ao Y _ rfl rfl rfl z) (az bc (Y.evs rfl) rfl) rfl rfl (lk _ _) fun _ Y=>GO 1 ?_;intro _ Y;exact ah ⟨Y.midE 2,Z⟩
     case hf=>
      intro z;refine GO 3 ?_;intro _ Y;exact ah ⟨Y.midE 2,Z⟩
     case h=>
      rintro E Zu ⟨Zv,P⟩
      refine GO 1 ?_;intro _ Y;exact ah ⟨Y.midE 7,P⟩
    case ht=>
     intro J;refine GO 6 ?_;intro _ Y;refine cg Y (aC Y _ rfl rfl rfl) rfl rfl fun _ Y=>cg Y (aC Y _ rfl rfl rfl) rfl rfl fun _ Y=>GO 2 ?_;intro _ Y;exact ah ⟨Y.midE 9,Z⟩
    case h=>
     rintro B Zw ⟨Zx,n⟩
     refine GO 9 ?_;intro _ Y;apply bI Y n 92 rfl 5 97
     case hf=>
      intro x;refine GO 2 ?_;intro _ Y;refine ct Y (ao Y _ rfl rfl rfl x) (az bc (Y.evs rfl) rfl) rfl rfl (qw _ _ j.1 ab) fun _ Y=>?_;refine GO 2 ?_;intro _ Y;exact ah ⟨Y.midE 4,n⟩
     case ht=>
      intro x;refine GO 5 ?_;intro _ Y;exact ah ⟨Y.midE 4,n⟩
     case h=>
      rintro F Zy ⟨S,H⟩
      refine cU S rfl (aH _ _ _) fun _ Y=>?_;refine GO 2 ?_;intro _ Y;refine cU Y rfl (aH _ _ _) fun _ Y=>?_;refine bV Y (wn rfl) (f:=fun b=>.slice (some ⟨b,0,none⟩) 3 3) (bb cT aa aa (Y.evs2 rfl) rfl rfl rfl au au) rfl rfl H fun D _ _ Zn Y Z=>cU Y rfl (fe (Z.at_ (i:=0) rfl)) fun _ Y=>?_;refine GO 4 ?_;intro _ Y;refine aI Y rfl rfl ?_;refine⟨?_,Z.below⟩;rw[e,zR d.1 d.2 hx j.1 ab]
 case hB=>kernel_rfl
 case hst=>rfl
open Go.RowKit Go.Sort
theorem lD {l:List RecP} (h:l≠[]):l.getLast? = some (l[l.length-1]'(by have:=List.length_pos_iff.2 h;omega)):=by
 rw[List.getLast?_eq_getElem?,List.getElem?_eq_getElem]
theorem sG (r:RngP) (A:Option Addr) (c:Nat) (w:World) (hr:Rd w w.heap.size A (aJ r.rs)) (n:∀y,r.rs.getLast? = some y→Bfr y) (l:r.rs=[]∨(1≤r.r.o∧r.r.o≤100000000)) (j:r.rs.length≤1000) :
 bz 168 #[a7 r A c] w (.tuple #[ae (cL r).1,ae (cL r).2]):=by
 refine aq (N:=29) Tryz.func168 rfl rfl rfl (fun _ Y=>?_);have Z:=St.init w;refine ai (an ?_);refine nb Y rfl rfl Z fun b1 _ _ p Y Z=>GO 7 ?_;intro _ Y;refine vf Y 7 7 fun _ Y=>?_;refine GO 5 ?_;intro _ Y;refine ak (Y.ev rfl) (fun g=>?_) (fun g=>?_)
 ·
  have e:r.rs=[]:=by simp only[beq_iff_eq] at g;exact List.eq_nil_of_length_eq_zero ab
  refine GO 8 ?_;intro _ Y;refine cd Y rfl rfl rfl ?_;exact⟨by unfold cL;rw[e];rfl,Z.below⟩
 ·
  have d:r.rs≠[]:=by intro h;rw[h] at g;simp at g
  replace l:=l.resolve_left d;have k:=List.length_pos_iff.2 d;have a:=lD d;have f:=n _ a;have m:=f.bd;obtain⟨b,o,rfl,hB,_⟩:=hr.opened (by rw[bw];omega);refine GO 5 ?_;intro _ Y;refine vf Y 2 3 fun _ Y=>?_;refine GO 2 ?_;intro _ Y;refine sv Y (lA (Y.ev rfl) (Y.ev rfl) ab) fun _ Y=>?_;refine GO 6 ?_;intro _ Y;refine vf Y 7 7 fun _ Y=>?_;refine GO 1 ?_;intro _ Y;refine vf Y 7 7 fun _ Y=>?_;refine GO 3 ?_;intro _ Y;refine sv Y (av (i:=r.rs.length-1) (sz:=3) cv aa (Y.ev rfl) (Y.ev rfl) ab ab rfl) fun _ Y=>?_;refine sv Y (ag aa aa (Y.ev rfl) (recAt (Z.rd0 hr) ab)) fun _ Y=>?_;refine cN Y rfl Z (js (r.rs[r.rs.length-1]) _ f.1 (by have:=f.2.1;omega) (by have:=f.2.2;omega)) fun _ _ Y Z=>?_;refine GO 1 ?_;intro _ Y;refine sv Y (lA (Y.ev rfl) (Y.ev rfl) ab) fun _ Y=>?_;refine GO 8 ?_;intro _ Y;refine cd Y rfl rfl rfl ?_;exact⟨by unfold cL;rw[a],Z.below⟩
theorem we (r:RngP) (A:Option Addr) (c:Nat) (w:World) (hr:Rd w w.heap.size A (aJ r.rs)) (C:∀y,r.rs.getLast? = some y→Bfr y) (H:0≤r.r.o∧r.r.o≤100000000) (z:0≤r.nx∧r.nx≤100000000) (m:r.rs.length≤1000) :
 bz 169 #[a7 r A c] w (ae (fI r)):=by
 have d:r.nx.tmod 448=r.nx % 448:=Int.tmod_eq_emod_of_nonneg z.1;refine aq (N:=59) Tryz.func169 rfl rfl rfl (fun _ Y=>?_);have Z:=St.init w;refine ai (an ?_);refine nb Y rfl rfl Z fun b1 _ _ D Y Z=>GO 5 ?_;intro _ Y;refine vf Y 7 7 fun _ Y=>?_;refine GO 12 ?_;intro _ Y;refine ak (Y.ev rfl) (fun j=>?_) (fun j=>?_)
 ·
  have f:r.rs=[]:=by simp only[beq_iff_eq] at j;exact List.eq_nil_of_length_eq_zero ab
  refine ai (an ?_);refine vf Y 8 8 fun _ Y=>?_;refine GO 2 ?_;intro _ Y;refine vf Y 2 3 fun _ Y=>?_;refine GO 4 ?_;intro _ Y;apply bo Y Z 19 rfl 4 23
  case ht=>
   intro s;refine sy Y (fx 8 8 (Y.ev rfl)) fun _ Y=>?_;refine GO 1 ?_;intro _ Y;refine ct Y (ao Y _ rfl rfl rfl s) (az bc (Y.evs rfl) rfl) rfl rfl (lk _ _) fun _ Y=>GO 1 ?_;intro _ Y;exact ah ⟨Y.midE 3,Z⟩
  case hf=>
   intro s;refine GO 4 ?_;intro _ Y;exact ah ⟨Y.midE 3,Z⟩
  case h=>
   rintro u F ⟨B,t⟩
   refine cU B rfl (aH _ _ _) fun _ Y=>?_;refine GO 5 ?_;intro _ Y;refine aI Y rfl rfl ?_;exact⟨by unfold fI;rw[f,d];rfl,t.below⟩
 ·
  have g:r.rs≠[]:=by intro h;rw[h] at j;simp at j
  have q:=List.length_pos_iff.2 g;have a:=lD g;have k:=C _ a;have l:=k.bd;obtain⟨b,o,rfl,hB,_⟩:=hr.opened (by rw[bw];omega);refine wp_skip (aj (ai (an ?_)));refine vf Y 7 7 fun _ Y=>?_;refine GO 3 ?_;intro _ Y;refine sv Y (av (i:=r.rs.length-1) (sz:=3) cv aa (Y.ev rfl) (Y.ev rfl) ab ab rfl) fun _ Y=>?_;refine sv Y (ag aa aa (Y.ev rfl) (recAt (Z.rd0 hr) ab)) fun _ Y=>?_;refine na (.agg ia) Y rfl Z fun b4 _ _ G Y Z=>?_;refine sw Y Z 0 fun _ Z=>?_;refine mM ?_;refine sv Y (ag aa aa (Y.ev rfl) (Z.cellsAll (i:=0) rfl)) fun _ Y=>?_;refine cN Y rfl Z (js (r.rs[r.rs.length-1]) _ k.1 (by have:=k.2.1;omega) (by have:=k.2.2;omega)) fun _ _ Y Z=>?_;refine GO 4 ?_;intro _ Y;apply aK Y (fA 24) _ aa
  case h=>
   refine qv Y (fun X e=>fx 8 8 (Y.ev rfl)) fun _ Y=>?_;refine GO 4 ?_;intro _ Y;apply fF Y 37 rfl 6 43
   case hf=>
    intro n;refine qy Y (fun X e=>(fx 8 8 (Y.ev rfl))) fun _ Y=>?_;refine GO 2 ?_;intro _ Y;refine oL Y (ao Y _ rfl rfl rfl n) rfl rfl (fun X=>(az bc (Y.evs rfl) rfl)) (fun X e=>qw _ _ l.1 ab) fun _ Y=>?_;refine GO 2 ?_;intro _ Y;exact ax (Y.midE 5)
   case ht=>
    intro n;refine GO 6 ?_;intro _ Y;exact ax (Y.midE 5)
   case h=>
    intro _ Y;refine GO 1 ?_;intro _ Y;apply j4 Y 44 rfl 12 56
    case ht=>
     intro v;refine GO 3 ?_;intro _ Y;refine qy Y (fun X e=>(fx 0 1 (Y.ev rfl))) fun _ Y=>?_;refine GO 3 ?_;intro _ Y;apply fF Y 51 rfl 4 55
     case hf=>
      intro p;refine qy Y (fun X e=>(fx 8 8 (Y.ev rfl))) fun _ Y=>?_;refine GO 1 ?_;intro _ Y;refine oL Y (ao Y _ rfl rfl rfl p) rfl rfl (fun X=>(az bc (Y.evs rfl) rfl)) (fun X e=>lk _ _) fun _ Y=>GO 1 ?_;intro _ Y;exact ax (Y.midE 3)
     case ht=>
      intro p;refine GO 4 ?_;intro _ Y;exact ax (Y.midE 3)
     case h=>
      intro _ Y;refine GO 1 ?_;intro _ Y;exact ax (Y.midE 8)
    case hf=>
     intro v;refine GO 7 ?_;intro _ Y;refine mn Y (aC Y _ rfl rfl rfl) rfl rfl fun _ Y=>mn Y (aC Y _ rfl rfl rfl) rfl rfl fun _ Y=>mn Y (aC Y _ rfl rfl rfl) rfl rfl fun _ Y=>GO 2 ?_;intro _ Y;exact ax (Y.midE 11)
    case h=>
     intro _ Y;refine ax ?_;refine aV fun _ x E=>?_;have Z:=Z.grow x;refine GO 6 ?_;intro _ Y;refine cU Y rfl (aH _ _ _) fun _ Y=>?_;refine GO 4 ?_;intro _ Y;refine aI Y rfl rfl ?_;exact⟨by unfold fI;rw[a,d],Z.below⟩
  case hB=>kernel_rfl
  case hst=>rfl
def oD (g:RecP→Bool) (l:List RecP):Int:=match l.findIdx? g with | some i=>i | none=>-1
theorem Br {g:RecP→Bool} {l:List RecP} {j:Nat} (h:j<l.length) (c:g l[j]=true) (b:∀k (a:k<l.length),k<j→g l[k]=false):oD g l=j:=by
 unfold oD;rw[List.findIdx?_eq_some_iff_getElem.2 ⟨h,c,fun k a=>by rw[b k ab a];simp⟩]
theorem Aq {g:RecP→Bool} {l:List RecP} (b:∀k (a:k<l.length),g l[k]=false):oD g l = -1:=by
 unfold oD;rw[List.findIdx?_eq_none_iff.2 (fun x hx=>by obtain⟨k,a,rfl⟩:=List.getElem_of_mem hx;exact b k a)]
theorem CI (g:RecP→Bool) (l:List RecP):decide (oD g l≥0)=l.any g:=by
 unfold oD
 cases h:l.findIdx? g with
 | none=>
  rw[List.findIdx?_eq_none_iff] at h
  have:l.any g=false:=by rw[List.any_eq_false];intro x hx;rw[h x hx];simp
  rw[this];rfl
 | some i=>
  rw[List.findIdx?_eq_some_iff_getElem] at h;obtain⟨b,a,_⟩:=h;have:l.any g=true:=List.any_eq_true.2 ⟨l[i],List.getElem_mem b,a⟩;rw[this];simp
theorem iL (g:RecP→Bool) (l:List RecP) (A:Option Addr) (c:Nat) (f:FuncId) (d:List Value) (w:World) (hr:Rd w w.heap.size A (aJ l)) (u:l.length≤1000) (t:∀(vs:Array Value) (W:World),(callFunc f vs).run Tryz.prog W=.ok (.enter f vs) W)
 (r:∀X,Below w.heap.size w X→∀x∈l,Calls Tryz.prog f ([ik x] ++ d).toArray X fun e X'=>e=.returned (.bool (g x))∧Below X.heap.size X X') :
 bz 231 #[.slice A l.length c,.func (.func f) #[] d.toArray] w (ae (oD g l)):=by
 refine aq (N:=19) Tryz.func231 rfl rfl rfl (fun _ Y=>?_);have Z:=St.init w;refine GO 14 ?_;intro _ Y;refine aY Y Z [7,0,1] (fun (j:Nat)=>[(8,ae j)]) (fun (j:Nat)=>j≤l.length∧∀k (m:k<l.length),k<j→g l[k]=false) (fun (j:Nat) L=>L) (fun (j:Nat)=>l.length-j) (0) (⟨Nat.zero_le _,fun k _ h=>by omega⟩) bN (Z) ?_;intro j _ _ s Y Z;refine GO 6 ?_;intro _ Y;refine ak (Y.ev rfl) (fun n=>?_) (fun n=>?_)
 ·
  have a:j<l.length:=by have:=of_decide_eq_true n;omega
  obtain⟨b,o,rfl,hB,_⟩:=hr.opened (by rw[bw];omega);refine GO 15 ?_;intro _ Y;refine sv Y (av (i:=j) (sz:=3) cv aa (Y.ev rfl) (Y.ev rfl) ab ab rfl) fun _ Y=>?_;refine sv Y (ag aa aa (Y.ev rfl) (recAt (Z.rd0 hr) a)) fun _ Y=>?_;refine dk Y (wn rfl) (cQ t (Y.ev rfl) (Y.evs rfl) rfl) rfl rfl Z (r _ Z.below l[j] (List.getElem_mem _)) fun _ _ Y Z=>?_;refine ah (aj ?_);refine ak (Y.ev rfl) (fun p=>?_) (fun p=>?_)
  ·
   refine GO 12 ?_;intro _ Y;refine aI Y rfl rfl ?_;exact⟨by rw[Br a p s.2],Z.below⟩
  ·
   refine GO 8 ?_;intro _ Y;exact⟨j+1,by omega,⟨a,fun k m h=>(Nat.lt_or_ge k j).elim (fun q=>s.2 k m q) (fun q=>by(obtain rfl:k=j:=by omega);exact p)⟩,Y.re bN,Z⟩
 ·
  have v:l.length≤j:=by have:=of_decide_eq_false n;omega
  refine GO 11 ?_;intro _ Y;refine aI Y rfl rfl ?_;exact⟨by rw[Aq (fun k m=>s.2 k m ab)],Z.below⟩
theorem n9 (g:RecP→Bool) (l:List RecP) (A:Option Addr) (c:Nat) (f:FuncId) (a:List Value) (w:World) (hr:Rd w w.heap.size A (aJ l)) (b:l.length≤1000) (h:∀(vs:Array Value) (W:World),(callFunc f vs).run Tryz.prog W=.ok (.enter f vs) W)
 (d:∀X,Below w.heap.size w X→∀x∈l,Calls Tryz.prog f ([ik x] ++ a).toArray X fun e X'=>e=.returned (.bool (g x))∧Below X.heap.size X X') :
 bz 223 #[.slice A l.length c,.func (.func f) #[] a.toArray] w (.bool (l.any g)):=by
 refine aq (N:=9) Tryz.func223 rfl rfl rfl (fun _ Y=>?_);have Z:=St.init w;refine GO 9 ?_;intro _ Y;refine cN Y rfl Z (iL g l A c f a _ (Z.rd0 hr) b h (fun X i x hx=>d X (eU Z.below i) x hx)) fun _ _ Y Z=>?_;refine GO 5 ?_;intro _ Y;refine aI Y rfl rfl ?_;exact⟨by rw[←CI],Z.below⟩
theorem Cm (x:RecP) (n:Int) (b:Nat) (T:TypeId) (w:World) (a:Box w b #[ae n] T) :
 bz 224 #[ik x,.pointer (some ⟨b,0,none⟩)] w (.bool (x.l==n)):=by
 refine aq (N:=8) Tryz.func224 rfl rfl rfl (fun _ Y=>?_);have Z:=St.init w;refine ai (an ?_);refine nb Y rfl rfl Z fun d _ _ c Y Z=>GO 7 ?_;intro _ Y;refine sv Y (lx (Y.ev rfl) (qn (a.below Z.below) rfl)) fun _ Y=>?_;refine GO 5 ?_;intro _ Y;refine aI Y rfl rfl ?_;exact⟨rfl,Z.below⟩
theorem tI (l:List RecP) (A:Option Addr) (c:Nat) (n f:Int) (w:World) (hr:Rd w w.heap.size A (aJ l)) (a:l.length≤1000) :
 bz 170 #[.slice A l.length c,ae n,ae f] w (.bool (decide (n≥f)&&ec l n)):=by
 refine aq (N:=15) Tryz.func170 rfl rfl rfl (fun _ Y=>?_);have Z:=St.init w;refine ai (an ?_);refine nb Y rfl rfl Z fun b4 _ _ m Y Z=>GO 9 ?_;intro _ Y;apply bo Y Z 10 rfl 4 14
 case ht=>
  intro b;refine GO 1 ?_;intro _ Y;refine sy Y (fo (Y.evs rfl) (Y.evs rfl)) fun _ Y=>?_;refine dk Y (ao Y _ rfl rfl rfl b) (az bc (Y.evs rfl) rfl) rfl rfl Z (n9 (fun x=>x.l==n) l A c 224 [.pointer (some ⟨b4,0,none⟩)] _ (Z.rd0 hr) a bc (fun X e x _=>Cm x n b4 _ X (Box.below (Z.at_ (i:=0) rfl) e))) fun _ _ Y Z=>GO 1 ?_;intro _ Y;exact ah ⟨Y.midE 3,Z⟩
 case hf=>
  intro b;refine GO 4 ?_;intro _ Y;exact ah ⟨Y.midE 3,Z⟩
 case h=>
  rintro g k ⟨j,d⟩
  refine GO 4 ?_;intro _ Y;refine aI Y rfl rfl ?_;exact⟨rfl,d.below⟩
open Go.RowKit Go.Sort
theorem vg (g:Nat→RecP→Int) (l:List RecP) (A:Option Addr) (c:Nat) (f:FuncId) (n:List Value) (w:World) (hr:Rd w w.heap.size A (aJ l)) (v:l.length≤1000) (u:∀(vs:Array Value) (W:World),(callFunc f vs).run Tryz.prog W=.ok (.enter f vs) W)
 (t:∀X,Below w.heap.size w X→∀(k:Nat) (d:k<l.length),(∀m (hm:m<l.length),m<k→g m l[m]=0)→Calls Tryz.prog f ([ae k,ik l[k]] ++ n).toArray X fun e X'=>e=.returned (ae (g k l[k]))∧Below X.heap.size X X') :
 bz 165 #[.slice A l.length c,.func (.func f) #[] n.toArray] w (.tuple #[ae (di g 0 l).1,ae (di g 0 l).2]):=by
 refine aq (N:=25) Tryz.func165 rfl rfl rfl (fun _ Y=>?_);have Z:=St.init w;refine GO 3 ?_;intro _ Y;refine GO 6 ?_;intro _ Y;refine GO 6 ?_;intro _ Y;refine aY Y Z [10,9,1] (fun (j:Nat)=>[(11,ae j)]) (fun (j:Nat)=>j≤l.length∧∀k (d:k<l.length),k<j→g k l[k]=0) (fun (j:Nat) L=>L) (fun (j:Nat)=>l.length-j) (0) (⟨Nat.zero_le _,fun k _ h=>by omega⟩) bN (Z) ?_;intro j _ _ p Y Z;refine GO 6 ?_;intro _ Y;refine ak (Y.ev rfl) (fun r=>?_) (fun r=>?_)
 ·
  have a:j<l.length:=by have:=of_decide_eq_true r;omega
  obtain⟨b,o,rfl,hB,_⟩:=hr.opened (by rw[bw];omega);refine GO 7 ?_;intro _ Y;refine sv Y (av (i:=j) (sz:=3) cv aa (Y.ev rfl) (Y.ev rfl) ab ab rfl) fun _ Y=>?_;refine sv Y (ag aa aa (Y.ev rfl) (recAt (Z.rd0 hr) a)) fun _ Y=>?_;refine na (.agg ia) Y rfl Z fun z _ _ y Y Z=>?_;refine GO 1 ?_;intro _ Y;refine sw Y Z 0 fun _ Z=>?_;refine GO 6 ?_;intro _ Y;refine sv Y (ag aa aa (Y.ev rfl) (Z.cellsAll (i:=0) rfl)) fun _ Y=>?_;refine dk Y (wn rfl) (cQ u (Y.ev rfl) (Y.evs rfl) rfl) rfl rfl Z (t _ Z.below j a p.2) fun _ _ Y Z=>?_;refine GO 9 ?_;intro _ Y;refine ak (Y.ev rfl) (fun s=>?_) (fun s=>?_)
  ·
   refine GO 14 ?_;intro _ Y;refine cd Y rfl rfl rfl ?_;have Y:g j l[j]≠0:=ar s;have Y:=dB g l 0 j a (fun k d h=>by rw[Nat.zero_add];exact p.2 k d h) (by rw[Nat.zero_add];exact Y);exact⟨by rw[Y,Nat.zero_add],Z.below⟩
  ·
   refine GO 8 ?_;intro _ Y;exact⟨j+1,by omega,⟨a,fun k d h=>(Nat.lt_or_ge k j).elim (fun q=>p.2 k d q) (fun q=>by(obtain rfl:k=j:=by omega);simpa using s)⟩,Y.re bN,Z.sub (aL 0)⟩
 ·
  have x:l.length≤j:=by have:=of_decide_eq_false r;omega
  refine GO 12 ?_;intro _ Y;refine cd Y rfl rfl rfl ?_;exact⟨by rw[dc g l 0 (fun k d=>by rw[Nat.zero_add];exact p.2 k d ab)],Z.below⟩
def GW (r:RngP) (A:Option Addr) (c:Nat):List Value:=[ae r.pg,ae r.r.s,ae r.r.c,ae r.r.o,ae r.e.s,ae r.e.c,ae r.e.o,.slice A r.rs.length c,ae r.nx]
theorem CG (r:RngP) (A:Option Addr) (c i:Nat) (b:Nat) (T:TypeId) (w:World) (d:Box w b (GW r A c).toArray T) (hr:Rd w w.heap.size A (aJ r.rs)) (e:i<r.rs.length) (hx:I6 r.rs[i].l) (g:∀y,bS r.rs i=some y→Bfr y) (f:0≤r.r.o∧r.r.o≤100000000) (a:r.rs.length≤1000) :
 bz 166 #[ae i,ik r.rs[i],.pointer (some ⟨b,0,none⟩)] w (ae (eC r.r.o r.r.s (bS r.rs i) r.rs[i])):=by
 refine aq (N:=9) Tryz.func166 rfl rfl rfl (fun _ Y=>?_);have Z:=St.init w;refine ai (an ?_);refine nb Y rfl rfl Z fun b4 _ _ h Y Z=>GO 5 ?_;intro _ Y;refine sv Y (ag aa aa (Y.ev rfl) (Ep (d.below Z.below))) fun _ Y=>?_;refine GO 1 ?_;intro _ Y;refine cN Y rfl Z (ri r A c i _ (Z.rd0 hr) e hx g f a) fun _ _ Y Z=>?_;refine GO 4 ?_;intro _ Y;refine aI Y rfl rfl ?_;exact⟨rfl,Z.below⟩
theorem jy (x y:RstP):jO [ae x.s,ae x.c,ae x.o] [ae y.s,ae y.c,ae y.o]=decide (x=y):=by
 obtain⟨a,b,c⟩:=x;obtain⟨d,f,e⟩:=y;rw[Bool.eq_iff_iff,decide_eq_true_eq,RstP.mk.injEq];simp[jO,s7]
theorem FI (r:RngP) (f:r.r.o≤100000000) (b:r.rs.length≤1000) (k:Nat) (d:k<r.rs.length) (h:∀m (hm:m<r.rs.length),m<k→eC r.r.o r.r.s (bS r.rs m) r.rs[m]=0):∀y,bS r.rs k=some y→Bfr y:=by
 intro y a
 cases k with
 | zero=>simp[bS] at a
 | succ k=>
  rw[eQ d] at a;injection a with a;subst a;obtain⟨c,g,h3⟩:=mu r f k ab fun m hm e=>h m hm ab;exact⟨c,by omega,h3⟩
theorem uc (r:RngP) (e:r.r.o≤100000000) (c:r.rs.length≤1000) (h:∀m (hm:m<r.rs.length),eC r.r.o r.r.s (bS r.rs m) r.rs[m]=0):∀y,r.rs.getLast? = some y→Bfr y:=by
 intro y a;rcases Nat.eq_zero_or_pos r.rs.length with b | b
 · rw[List.eq_nil_of_length_eq_zero b] at a;cases a
 · rw[List.getLast?_eq_getElem?,List.getElem?_eq_getElem ab] at a
   injection a with a;subst a;obtain⟨d,f,h3⟩:=mu r e (r.rs.length-1) ab fun m hm _=>h m hm;exact⟨d,by omega,h3⟩
theorem CR (r:RngP) (h:∀m (hm:m<r.rs.length),eC r.r.o r.r.s (bS r.rs m) r.rs[m]=0):r.rs=[]∨1≤r.r.o:=by
 rcases Nat.eq_zero_or_pos r.rs.length with a | a
 · exact .inl (List.eq_nil_of_length_eq_zero a)
 · right
   have b:=(recE_zero.1 (h 0 a)).2.2.1;unfold bS fu at b;simp only[if_true,Bool.and_eq_true,beq_iff_eq,decide_eq_true_eq] at b;omega
theorem kN (r:RngP) (A:Option Addr) (c:Nat) (w:World) (hr:Rd w w.heap.size A (aJ r.rs)) (d:r.rs.length≤1000) (hx:∀x∈r.rs,I6 x.l) :
 bz 105 #[a7 r A c] w (.tuple #[ae (bJ r).1,ae (bJ r).2]):=by
 refine aq (N:=96) Tryz.func105 rfl rfl rfl (fun _ Y=>?_);have Z:=St.init w;refine ai (an ?_);refine nb Y rfl rfl Z fun b1 _ _ Zs P Z=>GO 1 ?_;intro _ z;refine GO 4 ?_;intro _ Y;apply aK Y (fA 5) _ aa
 case h=>
  refine GO 1 ?_;intro _ Y;refine GO 1 ?_;intro _ I;refine gp I rfl (fun X a=>tJ _ _) fun _ Y=>?_;refine GO 1 ?_;intro _ Y;refine qv Y (fun X a=>ag aa aa (Y.ev rfl) ((Z.grow a).cellsOf (i:=0) rfl 1 3)) fun _ Y=>?_;refine ax ?_;refine aV fun _ Zl Zt=>?_;have Z:=Z.grow Zl;refine cN Y rfl Z (nK r.r _) fun _ _ Y Z=>?_;refine bV Y (wn rfl) (f:=fun b=>.slice (some ⟨b,0,none⟩) 2 2) (bb cT aa aa (Y.evs2 rfl) rfl rfl rfl au au) rfl rfl Z fun W _ _ Zm Y p=>cU Y rfl (gL (p.at_ (i:=0) rfl)) fun _ Y=>?_;refine GO 6 ?_;intro _ Y;refine vf Y 4 4 fun _ Y=>?_;refine sv Y (ag aa aa (Y.ev rfl) (p.cellsOf (i:=1) rfl 4 3)) fun _ Y=>?_;refine sv Y (ay (zs:=jV) (pl:=fE) aa aa (Y.evs2 rfl) rfl rfl) fun _ Y=>?_;refine sv Y (h7 (ks:=[.i .i64,.i .i64,.i .i64]) aa vi aa (Y.ev rfl) (Y.ev rfl) rfl rfl) fun _ q=>?_;refine ah (aj ?_);refine eb q p [(4,ae (aw [j3 r.pg,fK r.r,jP r]))] [3,2,1] ?_ (fun _ _ Y Z=>?_)
  ·
   refine ak (q.ev rfl) (fun H=>?_) (fun H=>?_)
   ·
    apply aK q (fA 13) _ aa
    case h=>
     refine GO 1 ?_;intro _ Y;refine qv Y (fun X a=>fx 4 4 (Y.ev rfl)) fun _ Y=>?_;refine qv Y (fun X a=>ag aa aa (Y.ev rfl) ((p.grow a).cellsOf (i:=1) rfl 4 3)) fun _ Y=>?_;refine jM Y rfl (fun X a=>nK r.e _) fun _ Y=>?_;refine qv Y (fun X a=>fx 4 4 (Y.ev rfl)) fun _ Y=>?_;refine qv Y (fun X a=>fx 0 4 (Y.ev rfl)) fun _ Y=>?_;refine GO 2 ?_;intro _ Y;refine qv Y (fun X a=>fx 0 1 (Y.ev rfl)) fun _ Y=>?_;refine GO 1 ?_;intro _ Y;refine qv Y (fun X a=>sV (Y.ev rfl) (Y.ev rfl)) fun _ Y=>?_;refine GO 1 ?_;intro _ Y;refine gp Y rfl (fun X a=>aH _ _ _) fun _ Y=>?_;refine ax ?_;refine aV fun _ V Zn=>?_;have Z:=p.grow V;refine bV Y (wn rfl) (f:=fun b=>.slice (some ⟨b,0,none⟩) 3 3) (bb cT aa aa (Y.evs2 rfl) rfl rfl rfl au au) rfl rfl Z fun Jv _ _ Zo Y Z=>cU Y rfl (fe (Z.at_ (i:=0) rfl)) fun _ Y=>?_;refine GO 3 ?_;intro _ Y
     have G:r.e≠rst0:=by
      have t:(!jO [ae r.e.s,ae r.e.c,ae r.e.o] [ae rst0.s,ae rst0.c,ae rst0.o])=true:=H;rw[jy] at t;simpa using t
     have e2:aw [aw [j3 r.pg,fK r.r],fK r.e,bF (r.e.s==IntKind.i64.wrap (r.r.s-1)) 9]=aw [j3 r.pg,fK r.r,jP r]:=by
      rw[vm];unfold jP;rw[if_neg G];simp only[aw]
      by_cases P:j3 r.pg=0<;>by_cases z:fK r.r=0<;>simp only[P,z,if_true,if_false]
      have Y:qb r.r=true:=by unfold fK at z;exact(aD au).1 z
      have Y:=tw Y;rw[de ab]
      by_cases I:fK r.e=0<;>simp[I]
     rw[e2] at Y;exact⟨Y.re bN,Z.sub (aL 6)⟩
    case hB=>kernel_rfl
    case hst=>rfl
   ·
    refine wp_skip (aj ?_)
    have G:r.e=rst0:=by
     have t:(!jO [ae r.e.s,ae r.e.c,ae r.e.o] [ae rst0.s,ae rst0.c,ae rst0.o])=false:=H;rw[jy] at t;simpa using t
    have e2:aw [j3 r.pg,fK r.r]=aw [j3 r.pg,fK r.r,jP r]:=by
     unfold jP;rw[if_pos G,tO]
    rw[e2] at q;exact⟨q.re bN,p⟩
  ·
   have J:aw [aw [j3 r.pg,fK r.r,jP r],bF (bD r.nx 0 100000000&&r.nx % 8==0) 2,bF (decide ((r.rs.length:Int)≤100)) 8]=eS r:=by
    rw[tM];unfold eS jr;have:decide ((r.rs.length:Int)≤100)=decide (r.rs.length≤100):=decide_eq_decide.2 ab;rw[this]
   refine aj (ai ?_);apply aK Y (fA 16) _ aa
   case h=>
    refine GO 1 ?_;intro _ Y;refine qv Y (fun X a=>fx 8 8 (Y.ev rfl)) fun _ Y=>?_;refine GO 1 ?_;intro _ Y;refine gp Y rfl (fun X a=>cG _ _ _ _) fun _ Y=>?_;refine GO 1 ?_;intro _ Y;apply j4 Y 40 rfl 5 45
    case ht=>
     intro L;refine qy Y (fun X a=>(fx 8 8 (Y.ev rfl))) fun _ Y=>?_;refine GO 1 ?_;intro _ Y;refine qy Y (fun X a=>(kY (Y.ev rfl) (Y.ev rfl) (by have:=L;rw[inB_true] at this;omega))) fun _ Y=>?_;refine GO 2 ?_;intro _ Y;exact ax (Y.midE 4)
    case hf=>
     intro L;refine GO 5 ?_;intro _ Y;exact ax (Y.midE 4)
    case h=>
     intro _ Y;refine gp Y rfl (fun X a=>aH _ _ _) fun _ Y=>?_;refine qv Y (fun X a=>fx 7 7 (Y.ev rfl)) fun _ Y=>?_;refine GO 3 ?_;intro _ Y;refine gp Y rfl (fun X a=>aH _ _ _) fun _ Y=>?_;refine ax ?_;refine aV fun _ R Zp=>?_;have Z:=Z.grow R;refine bV Y (wn rfl) (f:=fun b=>.slice (some ⟨b,0,none⟩) 3 3) (bb cT aa aa (Y.evs2 rfl) rfl rfl rfl au au) rfl rfl Z fun T _ _ Zq Y Z=>cU Y rfl (fe (Z.at_ (i:=0) rfl)) fun _ Y=>?_;refine GO 10 ?_;intro _ Y;refine ak (Y.ev rfl) (fun C=>?_) (fun C=>?_)
     ·
      have K:eS r≠0:=by rw[←J];simpa using C
      refine GO 9 ?_;intro _ Y;refine cd Y rfl rfl rfl ?_;refine⟨?_,Z.below⟩;rw[J];unfold bJ;rw[if_pos K]
     ·
      have E:eS r=0:=by rw[←J];simpa using C
      have y:=head_iff.1 E;have v:=y.rr.2.2;have u:=y.nx;have U:=y.pg;refine wp_skip (aj (ai (ai (an ?_))));refine vf Y 7 7 fun _ Y=>?_;refine GO 1 ?_;intro _ Y;refine sv Y (fo (Y.evs rfl) (Y.evs rfl)) fun _ Y=>?_;refine cN Y rfl Z (vg (fun k x=>eC r.r.o r.r.s (bS r.rs k) x) r.rs A c 166 [.pointer (some ⟨b1,0,none⟩)] _ (Z.rd0 hr) d bc (fun X a k M D=>CG r A c k b1 _ X (Box.below (Z.at_ (i:=2) rfl) a) ((Z.rd0 hr).below' a) M (hx _ (List.getElem_mem _)) (FI r v.2 d k M D) v d)) fun _ _ Y Z=>?_;refine GO 13 ?_;intro _ Y;refine ak (Y.ev rfl) (fun B=>?_) (fun B=>?_)
      ·
       have j:(j7 r).2≠0:=by unfold j7;simpa using B
       refine GO 10 ?_;intro _ Y;refine cd Y rfl rfl rfl ?_;refine⟨?_,Z.below⟩;unfold bJ;rw[if_neg (ar E),if_pos j];rfl
      ·
       have j:(j7 r).2=0:=by unfold j7;simpa using B
       have n:∀m (hm:m<r.rs.length),eC r.r.o r.r.s (bS r.rs m) r.rs[m]=0:=fun m hm=>by
        have:=jA _ _ _ j m hm;rw[Nat.zero_add] at this;exact this
       have g:=uc r v.2 d n;have F:r.rs=[]∨(1≤r.r.o∧r.r.o≤100000000):=(CR r n).imp_right fun h=>⟨h,v.2⟩;refine wp_skip (aj (ai (an ?_)));refine sv Y (ag aa aa (Y.ev rfl) (Z.cellsAll (i:=2) rfl)) fun _ Y=>?_;refine cN Y rfl Z (sG r A c _ (Z.rd0 hr) g F d) fun _ _ Y Z=>?_;refine GO 8 ?_;intro _ Y;apply aK Y (fA 20) _ aa
       case h=>
        refine qv Y (fun X a=>ag aa aa (Y.ev rfl) ((Z.grow a).cellsAll (i:=2) rfl)) fun _ Y=>?_;refine jM Y rfl (fun X a=>we r A c _ ((Z.grow a).rd0 hr) g v ⟨u.1,u.2.1⟩ d) fun _ Y=>?_;refine GO 1 ?_;intro _ Y;refine qv Y (fun X a=>fx 1 2 (Y.ev rfl)) fun _ Y=>?_;refine GO 3 ?_;intro _ Y;apply fF Y 79 rfl 7 86
        case hf=>
         intro O;refine qy Y (fun X a=>(fx 7 7 (Y.ev rfl))) fun _ Y=>?_;refine GO 2 ?_;intro _ Y;refine qy Y (fun X a=>(fx 1 2 (Y.ev rfl))) fun _ Y=>?_;refine GO 1 ?_;intro _ Y;refine k9 Y (ao Y _ rfl rfl rfl O) rfl rfl (fun X=>(az bc (Y.evs rfl) rfl)) (fun X a=>tI r.rs A c r.r.c 0 _ ((Z.grow a).rd0 hr) d) fun _ Y=>GO 1 ?_;intro _ Y;exact ax (Y.midE 6)
        case ht=>
         intro O;refine GO 7 ?_;intro _ Y;exact ax (Y.midE 6)
        case h=>
         intro _ Y;refine gp Y rfl (fun X a=>aH _ _ _) fun _ Y=>?_;refine GO 6 ?_;intro _ Y;refine aV fun _ S Zk=>?_;have Z:=Z.grow S;refine cU Y rfl (aH _ _ _) fun _ Y=>?_;refine bV Y (wn rfl) (f:=fun b=>.slice (some ⟨b,0,none⟩) 3 3) (bb cT aa aa (Y.evs2 rfl) rfl rfl rfl au au) rfl rfl Z fun Q _ _ Zr Y Z=>cU Y rfl (fe (Z.at_ (i:=0) rfl)) fun _ Y=>?_;refine GO 5 ?_;intro _ Y;refine cd Y rfl rfl rfl ?_;refine⟨?_,Z.below⟩;unfold bJ;rw[if_neg (ar E),if_neg (ar j)];unfold jH;have:decide (r.r.c≥0)=true:=decide_eq_true y.rr.2.1.1;rw[this,Bool.true_and]
       case hB=>kernel_rfl
       case hst=>rfl
   case hB=>kernel_rfl
   case hst=>rfl
 case hB=>kernel_rfl
 case hst=>rfl
theorem nU (r:RngP) (A:Option Addr) (c:Nat) (w:World) (hr:Rd w w.heap.size A (aJ r.rs)) (a:r.rs.length≤1000) (hx:∀x∈r.rs,I6 x.l) :
 bz 230 #[a7 r A c] w (ae (bJ r).2):=by
 refine aq (N:=11) Tryz.func230 rfl rfl rfl (fun _ Y=>?_);have Z:=St.init w;refine ai (an ?_);refine nb Y rfl rfl Z fun b1 _ _ b Y Z=>GO 5 ?_;intro _ Y;refine sv Y (ag aa aa (Y.ev rfl) (Z.cellsAll (i:=0) rfl)) fun _ Y=>?_;refine cN Y rfl Z (kN r A c _ (Z.rd0 hr) a hx) fun _ _ Y Z=>?_;refine GO 14 ?_;intro _ Y;refine aI Y rfl rfl ?_;exact⟨rfl,Z.below⟩
structure OkP (r:RngP):Prop where
 h:HeadP r
 all:∀m (hm:m<r.rs.length),eC r.r.o r.r.s (bS r.rs m) r.rs[m]=0
 t:jH r=0
theorem ok_iff {r:RngP}:(bJ r).2=0↔OkP r:=by
 unfold bJ
 constructor
 · intro h
   by_cases b:eS r=0
   · rw[if_neg (ar b)] at h
     by_cases a:(j7 r).2=0
     · rw[if_neg (ar a)] at h
       exact⟨head_iff.1 b,fun m hm=>by
        have:=jA _ _ _ a m hm
        rw[Nat.zero_add] at this;exact this,h⟩
     · rw[if_pos a] at h;exact absurd h a
   · rw[if_pos b] at h;exact absurd h b
 · intro h
   rw[if_neg (by simpa using head_iff.2 h.h)]
   have a:(j7 r).2=0:=by unfold j7;rw[dc _ _ _ (fun k c=>by rw[Nat.zero_add];exact h.all k c)]
   rw[if_neg (ar a)];exact h.t
theorem OkP.o {r:RngP} (h:OkP r):r.rs=[]∨(1≤r.r.o∧r.r.o≤100000000):=(CR r h.all).imp_right fun q=>⟨q,h.h.rr.2.2.2⟩
theorem OkP.rcd {r:RngP} (h:OkP r) (k:Nat) (a:k<r.rs.length):1≤r.rs[k].l∧r.rs[k].l≤100000000+k*4000∧r.rs[k].b.size≤3000:=mu r h.h.rr.2.2.2 k a fun m hm _=>h.all m hm
def wP (l:List RecP) (n:Int):Option RecP:=l.find? fun x=>x.l==n
end Go.Proofs.YtcfdpfmchchkaaaGreatDoor
