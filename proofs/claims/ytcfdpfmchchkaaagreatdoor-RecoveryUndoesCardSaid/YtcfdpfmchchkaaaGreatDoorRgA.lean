/- Chapter 20 -/
import Derived.Test.YtcfdpfmchchkaaaGreatDoorOpA
namespace Go.Proofs.YtcfdpfmchchkaaaGreatDoor
set_option maxHeartbeats 1000000
set_option linter.unusedVariables false
set_option linter.unusedSimpArgs false
open Go.RowKit Go.Sort
def sb (x:RstP):Value:=.agg #[ae x.s,ae x.c,ae x.o]
def l8 (x:RecP):Value:=.agg #[ae x.l,ae x.s,.string x.b]
theorem BK (n c:Int) (w:World) (e:0≤n) (f:n≤1000000000000) (h:1≤c) (h3:c≤1000000) :
 gQ 246 #[ae n,ae c] w (ae ((n+c-1) / c*c)):=by
 have a:0≤(n+c-1) / c:=Int.ediv_nonneg ab ab;have d:(n+c-1) / c*c≤n+c-1:=Int.ediv_mul_le _ ab;have b:0≤(n+c-1) / c*c:=Int.mul_nonneg a ab;refine an (N:=13) Tryz.func246 rfl rfl rfl (fun _ e=>?_);have g:=St.init w;refine GO 12 ?_;intro _ Y;refine sv Y (ma (Y.ev rfl) (Y.ev rfl) ab) fun _ Y=>?_;refine GO 1 ?_;intro _ Y;refine sv Y (gT (Y.ev rfl) (Y.ev rfl) ab) fun _ Y=>?_;refine GO 4 ?_;intro _ Y;refine aC Y rfl rfl ?_;exact⟨rfl,rfl⟩
theorem xS (n:Int) (w:World) (a:0≤n) (b:n≤1000000) :
 gQ 245 #[ae n] w (ae (kQ n)):=by
 refine an (N:=6) Tryz.func245 rfl rfl rfl (fun _ a=>?_);have c:=St.init w;refine GO 9 ?_;intro _ Y;refine dn Y rfl (BK _ _ _ ab ab ab ab) fun _ Y=>?_;refine GO 4 ?_;intro _ Y;refine aC Y rfl rfl ?_;exact⟨by unfold kQ;congr 2;omega,rfl⟩
theorem wF (n:Int) (w:World) (a:0≤n) (b:n≤1000000000) :
 gQ 222 #[ae n] w (ae (gp n)):=by
 refine an (N:=5) Tryz.func222 rfl rfl rfl (fun _ a=>?_);have c:=St.init w;refine GO 8 ?_;intro _ Y;refine dn Y rfl (BK _ _ _ ab ab ab ab) fun _ Y=>?_;refine GO 4 ?_;intro _ Y;refine aC Y rfl rfl ?_;exact⟨by unfold gp;congr 2;omega,rfl⟩
theorem l4 (n:Int) (w:World) :
 gQ 221 #[ae n] w (.bool (n.tmod 448==0)):=by
 refine an (N:=6) Tryz.func221 rfl rfl rfl (fun _ Y=>?_);have a:=St.init w;refine GO 8 ?_;intro _ Y;refine sv Y (ze (Y.ev rfl) (Y.ev rfl) au) fun _ Y=>?_;refine GO 5 ?_;intro _ Y;refine aC Y rfl rfl ?_;exact⟨rfl,rfl⟩
theorem kf (x:RecP) (w:World) (c:1≤x.l) (e:x.l≤1000000000) (a:x.b.size≤100000) :
 bu 220 #[l8 x] w (ae (fb x)):=by
 have j:0≤kQ x.b.size∧kQ x.b.size≤1000000:=by unfold kQ;omega
 refine an (N:=11) Tryz.func220 rfl rfl rfl (fun _ c=>?_);have Z:=St.init w;refine aj (aq ?_);refine nb c rfl rfl Z fun b1 _ _ g e Z=>GO 4 ?_;intro _ a;apply aK a (fK 7) _ aa
 case h=>
  refine GO 6 ?_;intro _ Y;refine iW Y rfl (fun X f=>xS _ _ ab ab) fun _ Y=>?_;refine ax ?_;refine aT fun _ d i=>?_;have Z:=Z.grow d;refine GO 5 ?_;intro _ Y;refine aC Y rfl rfl ?_;exact⟨rfl,Z.below⟩
 case hB=>kernel_rfl
 case hst=>rfl
theorem uj (n:Int) (w:World) :
 gQ 161 #[ae n] w (ae (kJ n)):=by
 refine an (N:=6) Tryz.func161 rfl rfl rfl (fun _ Y=>?_);have a:=St.init w;refine GO 8 ?_;intro _ Y;refine dn Y rfl (cL _ _ _ _) fun _ Y=>?_;refine dn Y rfl (aP _ _ _) fun _ Y=>?_;refine GO 4 ?_;intro _ Y;refine aC Y rfl rfl ?_;exact⟨rfl,rfl⟩
theorem oH (x:RstP) (w:World) :
 bu 162 #[sb x] w (ae (gl x)):=by
 refine an (N:=19) Tryz.func162 rfl rfl rfl (fun _ Y=>?_);have Z:=St.init w;refine aj (aq ?_);refine nb Y rfl rfl Z fun b1 _ _ l Y Z=>GO 7 ?_;intro _ Y;refine dn Y rfl (cL _ _ _ _) fun _ Y=>?_;refine GO 1 ?_;intro _ Y;apply a8 Y Z 7 rfl 4 11
 case ht=>
  intro c;refine GO 2 ?_;intro _ Y;refine cx Y (ao Y _ rfl rfl rfl c) (aw a6 (Y.evs rfl) rfl) rfl rfl (cL _ _ _ _) fun _ Y=>GO 1 ?_;intro _ Y;exact ag ⟨Y.midE 3,Z⟩
 case hf=>
  intro c;refine GO 4 ?_;intro _ Y;exact ag ⟨Y.midE 3,Z⟩
 case h=>
  rintro e g ⟨j,a⟩
  refine GO 1 ?_;intro _ Y;apply a8 Y a 12 rfl 4 16
  case ht=>
   intro b;refine GO 2 ?_;intro _ Y;refine cx Y (ao Y _ rfl rfl rfl b) (aw a6 (Y.evs rfl) rfl) rfl rfl (cL _ _ _ _) fun _ Y=>GO 1 ?_;intro _ Y;exact ag ⟨Y.midE 3,a⟩
  case hf=>
   intro b;refine GO 4 ?_;intro _ Y;exact ag ⟨Y.midE 3,a⟩
  case h=>
   rintro d i ⟨k,f⟩
   refine GO 6 ?_;intro _ Y;refine dn Y rfl (aP _ _ _) fun _ Y=>?_;refine GO 4 ?_;intro _ Y;refine aC Y rfl rfl ?_;exact⟨rfl,f.below⟩
open Go.RowKit Go.Sort
def recC (x:RecP):List Value:=[ae x.l,ae x.s,.string x.b]
def aW (l:List RecP):List Value:=l.flatMap recC
def bm (r:RngP) (A:Option Addr) (c:Nat):Value:=.agg #[ae r.pg,ae r.r.s,ae r.r.c,ae r.r.o,ae r.e.s,ae r.e.c,ae r.e.o,.slice A r.rs.length c,ae r.nx]
theorem bF (l:List RecP):(aW l).length=l.length*3:=by
 induction l with
 | nil=>rfl
 | cons x l ih=>simp[aW,recC] at ih ⊢;omega
theorem tF:∀(l:List RecP) (k:Nat) (h:k<l.length) (j:Nat) (u:Value),(recC l[k])[j]? = some u→(aW l)[k*3+j]? = some u
 | x::l,0,h,j,u,hu=>by
  have a:j<3:=(List.getElem?_eq_some_iff.1 hu).1;show(recC x ++ aW l)[0*3+j]? = some u;rw[Nat.zero_mul,Nat.zero_add,List.getElem?_append_left (by exact a)];exact hu
 | x::l,k+1,h,j,u,hu=>by
  show(recC x ++ aW l)[(k+1)*3+j]? = some u;have b:(recC x).length=3:=rfl;rw[List.getElem?_append_right ab,b,show(k+1)*3+j-3=k*3+j by omega];exact tF l k (al h) j u hu
theorem recAt {X:World} {B b o:Nat} {l:List RecP} {k:Nat} (h:Rd X B (some ⟨b,o,none⟩) (aW l)) (a:k<l.length):∀(j:Nat) (u:Value),[Value.int .i64 l[k].l,ae l[k].s,.string l[k].b][j]? = some u→X.cell? ⟨b,o+k*3+j,none⟩=some u:=fun j u c=>by
 obtain⟨b',o',e,_,d⟩:=h (k*3+j) u (tF l k a j u c);injection e with e;injection e with e1 e2;subst e1 e2;rw[Nat.add_assoc];exact d
theorem iz {X:World} {b:Nat} {a e2:Int} {T:TypeId} (c:Box X b #[ae a,ae e2] T):gQ 160 #[.slice (some ⟨b,0,none⟩) 2 2] X (ae (av [a,e2])):=
 fS b 0 [a,e2] X bw (fun k d=>by
  rw[Nat.zero_add,Box.cells c k]
  have:k=0∨k=1:=by simp at d;omega
  rcases this with rfl | rfl<;>rfl)
theorem fO {X:World} {b:Nat} {a e2 e3:Int} {T:TypeId} (c:Box X b #[ae a,ae e2,ae e3] T):gQ 160 #[.slice (some ⟨b,0,none⟩) 3 3] X (ae (av [a,e2,e3])):=
 fS b 0 [a,e2,e3] X bw (fun k d=>by
  rw[Nat.zero_add,Box.cells c k]
  have:k=0∨k=1∨k=2:=by simp at d;omega
  rcases this with rfl | rfl | rfl<;>rfl)
theorem qp {X:World} {b:Nat} {c e2 e3 a:Int} {T:TypeId} (d:Box X b #[ae c,ae e2,ae e3,ae a] T):gQ 160 #[.slice (some ⟨b,0,none⟩) 4 4] X (ae (av [c,e2,e3,a])):=
 fS b 0 [c,e2,e3,a] X bw (fun k e=>by
  rw[Nat.zero_add,Box.cells d k]
  have:k=0∨k=1∨k=2∨k=3:=by simp at e;omega
  rcases this with rfl | rfl | rfl | rfl<;>rfl)
theorem ei {X:World} {b:Nat} {a e2:Int} {T:TypeId} (c:Box X b #[ae a,ae e2] T):gQ 63 #[.slice (some ⟨b,0,none⟩) 2 2] X (ae (av [a,e2])):=
 il b 0 [a,e2] X bw (fun k d=>by
  rw[Nat.zero_add,Box.cells c k]
  have:k=0∨k=1:=by simp at d;omega
  rcases this with rfl | rfl<;>rfl)
theorem fk {X:World} {b:Nat} {a e2 e3:Int} {T:TypeId} (c:Box X b #[ae a,ae e2,ae e3] T):gQ 63 #[.slice (some ⟨b,0,none⟩) 3 3] X (ae (av [a,e2,e3])):=
 il b 0 [a,e2,e3] X bw (fun k d=>by
  rw[Nat.zero_add,Box.cells c k]
  have:k=0∨k=1∨k=2:=by simp at d;omega
  rcases this with rfl | rfl | rfl<;>rfl)
theorem nF {b:ByteArray}:b=⟨#[]⟩↔b.size=0:=by
 constructor
 · rintro rfl;rfl
 · intro h;exact gb (List.eq_nil_of_length_eq_zero (by rw[aO];exact h))
theorem Gk (b:ByteArray):av [bQ (!decide (b=⟨#[]⟩)) 17,bQ (decide ((b.size:Int)≤3000)) 8]=if b.size=0 then 17 else if 3000<b.size then 8 else 0:=by
 simp only[av,bQ];by_cases h:b.size=0
 · simp[h,nF]
 · by_cases a:3000<b.size
   · have h3:¬((b.size:Int)≤3000):=by omega
     simp[h,nF,a,h3]
   · have h3:((b.size:Int)≤3000):=by omega
     simp[h,nF,a,h3]
theorem xI (p q:Bool) (a b:Int) (c:a≠0):av [bQ p a,bQ q b]=if p=false then a else if q=false then b else 0:=by
 cases p<;>cases q<;>simp[av,bQ,c]<;>(intro h;exact h.symm)
theorem uv (p q r:Bool) (a b c:Int) (e:a≠0) (d:b≠0):av [bQ p a,bQ q b,bQ r c]=if p=false then a else if q=false then b else bQ r c:=by
 cases p<;>cases q<;>cases r<;>simp[av,bQ,e,d]<;>(intro h;exact h.symm)
theorem xT {o q:Int} {x:RecP} (c:x.b.size≠0) (a:¬3000<x.b.size):fe o q none x=av [bQ (x.l==o&&decide (o≥1)&&(o-1) % 8==0) 9,bQ (bB x.s 1 q) 2]:=by
 rw[xI _ _ _ _ au];unfold fe gR seqB;rw[if_neg c,if_neg a];simp only[bQ,ge_iff_le,if_true]
theorem Bs {o q:Int} {x y:RecP} (j:x.b.size≠0) (f:¬3000<x.b.size) (hx:-9223372036854775808≤x.l∧x.l<9223372036854775808) (a:0≤fb y) (h:fb y<1000000000000) :
 fe o q (some y) x=av [bQ (IntKind.i64.wrap (x.l-1)==fb y||IntKind.i64.wrap (x.l-1)==gp (fb y)) 9,bQ (bB x.s 1 q) 2,bQ (x.s==y.s||(decide (x.s>y.s)&&(IntKind.i64.wrap (x.l-1)).tmod 448==0)) 9]:=by
 rw[uv _ _ _ _ _ _ au au];unfold fe gR seqB;rw[if_neg j,if_neg f]
 have d:0≤gp (fb y)∧gp (fb y)<2000000000000:=by unfold gp;omega
 have c:∀e:Int,0≤e→e<2000000000000→(IntKind.i64.wrap (x.l-1)==e)=(x.l-1==e):=fun e g i=>by
  rw[Bool.eq_iff_iff,beq_iff_eq,beq_iff_eq,IntKind.wrap_i64];omega
 simp only[c _ a ab,c _ d.1 d.2]
 cases ho:(x.l-1==fb y||x.l-1==gp (fb y)) with
 | false=>rfl
 | true=>
  have k:0≤x.l-1∧x.l-1<2000000000000:=by
   rw[Bool.or_eq_true,beq_iff_eq,beq_iff_eq] at ho;omega
  have e:IntKind.i64.wrap (x.l-1)=x.l-1:=dz ab;rw[e,Int.tmod_eq_emod_of_nonneg k.1]
def Bfr (y:RecP):Prop:=1≤y.l∧y.l≤500000000∧y.b.size≤3000
theorem Bfr.bd {y:RecP} (h:Bfr y):0≤fb y∧fb y≤600000000∧0≤gp (fb y)∧gp (fb y)≤700000000∧1≤fb y:=by
 obtain⟨a,b,h3⟩:=h;unfold gp fb kQ;omega
theorem sk (r:RngP) (A:Option Addr) (c i:Nat) (w:World) (hr:Rd w w.heap.size A (aW r.rs)) (x:i<r.rs.length) (hx:-9223372036854775808≤r.rs[i].l∧r.rs[i].l<9223372036854775808) (O:∀y,cd r.rs i=some y→Bfr y) (ho:0≤r.r.o∧r.r.o≤100000000) (B:r.rs.length≤1000) :
 bu 167 #[bm r A c,ae i] w (ae (fe r.r.o r.r.s (cd r.rs i) r.rs[i])):=by
 obtain⟨b,o,rfl,hB,_⟩:=hr.opened (by rw[bF];omega);refine an (N:=104) Tryz.func167 rfl rfl rfl (fun _ Y=>?_);have Z:=St.init w;refine aj (aq ?_);refine nb Y rfl rfl Z fun b2 _ _ V Y Z=>?_;refine GO 5 ?_;intro _ t;refine vf t 7 7 fun _ Y=>?_;refine GO 2 ?_;intro _ Y;refine sv Y (ar (i:=i) (sz:=3) dv aa (Y.ev rfl) (Y.ev rfl) rfl x rfl) fun _ Y=>?_;refine sv Y (ah aa aa (Y.ev rfl) (recAt (Z.rd0 hr) x)) fun _ Y=>?_;refine na (.agg kr) Y rfl Z fun b5 _ _ W Y Z=>?_;refine sw Y Z 0 fun _ Z=>?_;refine GO 6 ?_;intro _ Y;refine sv Y (ur (Y.ev rfl) (Y.ev rfl)) fun _ Y=>?_;refine GO 5 ?_;intro _ Y;apply aK Y (fK 8) _ aa
 case h=>
  refine GO 3 ?_;intro _ Y;refine iW Y rfl (fun X hX=>aP _ _ _) fun _ Y=>?_;refine GO 5 ?_;intro _ Y;refine aT fun _ P Zo=>?_;have Z:=Z.grow P;refine dn Y rfl (aP _ _ _) fun _ Y=>?_;refine bV Y (wn rfl) (f:=fun b=>.slice (some ⟨b,0,none⟩) 2 2) (ba dt aa aa (Y.evs2 rfl) rfl rfl rfl au au) rfl rfl Z fun K _ _ Zp Y Z=>dn Y rfl (iz (Z.at_ (i:=0) rfl)) fun _ Y=>?_;refine GO 9 ?_;intro _ Y;refine ak (Y.ev rfl) (fun a=>?_) (fun a=>?_)
  ·
   refine GO 8 ?_;intro _ Y;refine aC Y rfl rfl ?_;refine⟨?_,Z.below⟩;rw[Gk] at a ⊢
   congr 2
   unfold fe;simp only[bne_iff_ne,ne_eq] at a
   split
   · rfl
   · rename_i h
     rw[if_neg h] at a
     split
     · rfl
     · rename_i t;rw[if_neg t] at a;exact absurd rfl a
  ·
   rw[Gk] at a
   have e:r.rs[i].b.size≠0∧¬3000<r.rs[i].b.size:=by
    simp only[bne_eq_false_iff_eq] at a
    split at a
    · cases a
    · split at a
      · cases a
      · exact⟨by assumption,by assumption⟩
   refine GO 7 ?_;intro _ Y;refine vf Y 0 1 fun _ Y=>?_;refine GO 1 ?_;intro _ Y;refine dn Y rfl (cL _ _ _ _) fun _ Y=>?_;refine dn Y rfl (aP _ _ _) fun _ Y=>?_;refine GO 10 ?_;intro _ Y;refine ak (Y.ev rfl) (fun p=>?_) (fun p=>?_)
   ·
    refine GO 3 ?_;intro _ Y;refine vf Y 2 3 fun _ Y=>?_;refine GO 11 ?_;intro _ Y;apply a8 Y Z 51 rfl 3 54
    case ht=>
     intro R;refine GO 3 ?_;intro _ Y;exact ag ⟨Y.midE 2,Z⟩
    case hf=>
     intro R;refine GO 3 ?_;intro _ Y;exact ag ⟨Y.midE 2,Z⟩
    case h=>
     rintro H Qb ⟨Qc,n⟩
     refine GO 1 ?_;intro _ Y;apply a8 Y n 55 rfl 5 60
     case ht=>
      intro u;refine GO 2 ?_;intro _ Y;refine sy Y (lV (Y.ev rfl) (Y.ev rfl) (by rw[Bool.and_eq_true,decide_eq_true_eq] at u;omega)) fun _ Y=>?_;refine GO 2 ?_;intro _ Y;exact ag ⟨Y.midE 4,n⟩
     case hf=>
      intro u;refine GO 5 ?_;intro _ Y;exact ag ⟨Y.midE 4,n⟩
     case h=>
      rintro U Qd ⟨M,L⟩
      refine dn M rfl (aP _ _ _) fun _ Y=>?_;refine GO 1 ?_;intro _ Y;refine bV Y (wn rfl) (f:=fun b=>.slice (some ⟨b,0,none⟩) 2 2) (ba dt aa aa (Y.evs2 rfl) rfl rfl rfl au au) rfl rfl L fun T _ _ Zs Y Z=>dn Y rfl (iz (Z.at_ (i:=0) rfl)) fun _ Y=>?_;refine GO 5 ?_;intro _ Y;refine aC Y rfl rfl ?_;refine⟨?_,Z.below⟩
      have g:i=0:=by simp only[beq_iff_eq] at p;omega
      have d:cd r.rs i=none:=by unfold cd;rw[if_pos g]
      rw[d,xT e.1 e.2]
   ·
    have g:i≠0:=by simp only[beq_eq_false_iff_ne] at p;omega
    have k:i-1<r.rs.length:=by omega
    have d:cd r.rs i=some r.rs[i-1]:=by unfold cd;rw[if_neg g,List.getElem?_eq_getElem k]
    have m:=O _ d;have j:=m.bd;refine wp_skip (ai (aj (aq ?_)));refine vf Y 7 7 fun _ Y=>?_;refine GO 3 ?_;intro _ Y;refine sv Y (ar (i:=i-1) (sz:=3) dv aa (Y.ev rfl) (Y.ev rfl) ab ab rfl) fun _ Y=>?_;refine sv Y (ah aa aa (Y.ev rfl) (recAt (Z.rd0 hr) k)) fun _ Y=>?_;refine na (.agg kr) Y rfl Z fun I _ _ Zt Y Z=>sw Y Z 0 fun _ Z=>?_;refine rV ?_;refine sv Y (ah aa aa (Y.ev rfl) (Z.cellsAll (i:=0) rfl)) fun _ Y=>?_;refine cQ Y rfl Z (kf _ _ m.1 (by have:=m.2.1;omega) (by have:=m.2.2;omega)) fun _ _ Y Z=>?_;refine GO 11 ?_;intro _ Y;apply bI Y Z 78 rfl 10 88
    case hf=>
     intro Q;refine GO 6 ?_;intro _ Y;apply a8 Y Z 84 rfl 3 87
     case ht=>
      intro E;refine GO 1 ?_;intro _ Y;refine cx Y (ao Y _ rfl rfl rfl E) (aw a6 (Y.evs rfl) rfl) rfl rfl (l4 _ _) fun _ Y=>GO 1 ?_;intro _ Y;exact ag ⟨Y.midE 2,Z⟩
     case hf=>
      intro E;refine GO 3 ?_;intro _ Y;exact ag ⟨Y.midE 2,Z⟩
     case h=>
      rintro D Zu ⟨Zv,S⟩
      refine GO 1 ?_;intro _ Y;exact ag ⟨Y.midE 7,S⟩
    case ht=>
     intro Q;refine GO 6 ?_;intro _ Y;refine cw Y (aE Y _ rfl rfl rfl) rfl rfl fun _ Y=>cw Y (aE Y _ rfl rfl rfl) rfl rfl fun _ Y=>GO 2 ?_;intro _ Y;exact ag ⟨Y.midE 9,Z⟩
    case h=>
     rintro C Zw ⟨Zx,q⟩
     refine GO 9 ?_;intro _ Y;apply bI Y q 92 rfl 5 97
     case hf=>
      intro v;refine GO 2 ?_;intro _ Y;refine cx Y (ao Y _ rfl rfl rfl v) (aw a6 (Y.evs rfl) rfl) rfl rfl (wF _ _ j.1 ab) fun _ Y=>?_;refine GO 2 ?_;intro _ Y;exact ag ⟨Y.midE 4,q⟩
     case ht=>
      intro v;refine GO 5 ?_;intro _ Y;exact ag ⟨Y.midE 4,q⟩
     case h=>
      rintro z Zy ⟨J,G⟩
      refine dn J rfl (aP _ _ _) fun _ Y=>?_;refine GO 2 ?_;intro _ Y;refine dn Y rfl (aP _ _ _) fun _ Y=>?_;refine bV Y (wn rfl) (f:=fun b=>.slice (some ⟨b,0,none⟩) 3 3) (ba dt aa aa (Y.evs2 rfl) rfl rfl rfl au au) rfl rfl G fun F _ _ Zn Y Z=>dn Y rfl (fO (Z.at_ (i:=0) rfl)) fun _ Y=>?_;refine GO 4 ?_;intro _ Y;refine aC Y rfl rfl ?_;refine⟨?_,Z.below⟩;rw[d,Bs e.1 e.2 hx j.1 ab]
 case hB=>kernel_rfl
 case hst=>rfl
open Go.RowKit Go.Sort
theorem mQ {l:List RecP} (h:l≠[]):l.getLast? = some (l[l.length-1]'(by have:=List.length_pos_iff.2 h;omega)):=by
 rw[List.getLast?_eq_getElem?,List.getElem?_eq_getElem]
theorem sY (r:RngP) (A:Option Addr) (c:Nat) (w:World) (hr:Rd w w.heap.size A (aW r.rs)) (l:∀y,r.rs.getLast? = some y→Bfr y) (k:r.rs=[]∨(1≤r.r.o∧r.r.o≤100000000)) (j:r.rs.length≤1000) :
 bu 168 #[bm r A c] w (.tuple #[ae (eL r).1,ae (eL r).2]):=by
 refine an (N:=29) Tryz.func168 rfl rfl rfl (fun _ Y=>?_);have Z:=St.init w;refine aj (aq ?_);refine nb Y rfl rfl Z fun b1 _ _ n Y Z=>GO 7 ?_;intro _ Y;refine vf Y 7 7 fun _ Y=>?_;refine GO 5 ?_;intro _ Y;refine ak (Y.ev rfl) (fun f=>?_) (fun f=>?_)
 ·
  have d:r.rs=[]:=by simp only[beq_iff_eq] at f;exact List.eq_nil_of_length_eq_zero ab
  refine GO 8 ?_;intro _ Y;refine bU Y rfl rfl rfl ?_;exact⟨by unfold eL;rw[d];rfl,Z.below⟩
 ·
  have hne:r.rs≠[]:=by intro h;rw[h] at f;simp at f
  replace k:=k.resolve_left hne;have g:=List.length_pos_iff.2 hne;have a:=mQ hne;have e:=l _ a;have m:=e.bd;obtain⟨b,o,rfl,hB,_⟩:=hr.opened (by rw[bF];omega);refine GO 5 ?_;intro _ Y;refine vf Y 2 3 fun _ Y=>?_;refine GO 2 ?_;intro _ Y;refine sv Y (ma (Y.ev rfl) (Y.ev rfl) ab) fun _ Y=>?_;refine GO 6 ?_;intro _ Y;refine vf Y 7 7 fun _ Y=>?_;refine GO 1 ?_;intro _ Y;refine vf Y 7 7 fun _ Y=>?_;refine GO 3 ?_;intro _ Y;refine sv Y (ar (i:=r.rs.length-1) (sz:=3) dv aa (Y.ev rfl) (Y.ev rfl) ab ab rfl) fun _ Y=>?_;refine sv Y (ah aa aa (Y.ev rfl) (recAt (Z.rd0 hr) ab)) fun _ Y=>?_;refine cQ Y rfl Z (kf (r.rs[r.rs.length-1]) _ e.1 (by have:=e.2.1;omega) (by have:=e.2.2;omega)) fun _ _ Y Z=>?_;refine GO 1 ?_;intro _ Y;refine sv Y (ma (Y.ev rfl) (Y.ev rfl) ab) fun _ Y=>?_;refine GO 8 ?_;intro _ Y;refine bU Y rfl rfl rfl ?_;exact⟨by unfold eL;rw[a],Z.below⟩
theorem vk (r:RngP) (A:Option Addr) (c:Nat) (w:World) (hr:Rd w w.heap.size A (aW r.rs)) (v:∀y,r.rs.getLast? = some y→Bfr y) (F:0≤r.r.o∧r.r.o≤100000000) (B:0≤r.nx∧r.nx≤100000000) (p:r.rs.length≤1000) :
 bu 169 #[bm r A c] w (ae (gK r)):=by
 have f:r.nx.tmod 448=r.nx % 448:=Int.tmod_eq_emod_of_nonneg B.1;refine an (N:=59) Tryz.func169 rfl rfl rfl (fun _ Y=>?_);have Z:=St.init w;refine aj (aq ?_);refine nb Y rfl rfl Z fun b1 _ _ E Y Z=>GO 5 ?_;intro _ Y;refine vf Y 7 7 fun _ Y=>?_;refine GO 12 ?_;intro _ Y;refine ak (Y.ev rfl) (fun j=>?_) (fun j=>?_)
 ·
  have d:r.rs=[]:=by simp only[beq_iff_eq] at j;exact List.eq_nil_of_length_eq_zero ab
  refine aj (aq ?_);refine vf Y 8 8 fun _ Y=>?_;refine GO 2 ?_;intro _ Y;refine vf Y 2 3 fun _ Y=>?_;refine GO 4 ?_;intro _ Y;apply a8 Y Z 19 rfl 4 23
  case ht=>
   intro q;refine sy Y (fx 8 8 (Y.ev rfl)) fun _ Y=>?_;refine GO 1 ?_;intro _ Y;refine cx Y (ao Y _ rfl rfl rfl q) (aw a6 (Y.evs rfl) rfl) rfl rfl (l4 _ _) fun _ Y=>GO 1 ?_;intro _ Y;exact ag ⟨Y.midE 3,Z⟩
  case hf=>
   intro q;refine GO 4 ?_;intro _ Y;exact ag ⟨Y.midE 3,Z⟩
  case h=>
   rintro s G ⟨t,z⟩
   refine dn t rfl (aP _ _ _) fun _ Y=>?_;refine GO 5 ?_;intro _ Y;refine aC Y rfl rfl ?_;exact⟨by unfold gK;rw[d,f];rfl,z.below⟩
 ·
  have hne:r.rs≠[]:=by intro h;rw[h] at j;simp at j
  have m:=List.length_pos_iff.2 hne;have a:=mQ hne;have g:=v _ a;have k:=g.bd;obtain⟨b,o,rfl,hB,_⟩:=hr.opened (by rw[bF];omega);refine wp_skip (ai (aj (aq ?_)));refine vf Y 7 7 fun _ Y=>?_;refine GO 3 ?_;intro _ Y;refine sv Y (ar (i:=r.rs.length-1) (sz:=3) dv aa (Y.ev rfl) (Y.ev rfl) ab ab rfl) fun _ Y=>?_;refine sv Y (ah aa aa (Y.ev rfl) (recAt (Z.rd0 hr) ab)) fun _ Y=>?_;refine na (.agg kr) Y rfl Z fun b4 _ _ D Y Z=>?_;refine sw Y Z 0 fun _ Z=>?_;refine rV ?_;refine sv Y (ah aa aa (Y.ev rfl) (Z.cellsAll (i:=0) rfl)) fun _ Y=>?_;refine cQ Y rfl Z (kf (r.rs[r.rs.length-1]) _ g.1 (by have:=g.2.1;omega) (by have:=g.2.2;omega)) fun _ _ Y Z=>?_;refine GO 4 ?_;intro _ Y;apply aK Y (fK 24) _ aa
  case h=>
   refine qv Y (fun X e=>fx 8 8 (Y.ev rfl)) fun _ Y=>?_;refine GO 4 ?_;intro _ Y;apply fZ Y 37 rfl 6 43
   case hf=>
    intro n;refine qy Y (fun X e=>(fx 8 8 (Y.ev rfl))) fun _ Y=>?_;refine GO 2 ?_;intro _ Y;refine pM Y (ao Y _ rfl rfl rfl n) rfl rfl (fun X=>(aw a6 (Y.evs rfl) rfl)) (fun X e=>wF _ _ k.1 ab) fun _ Y=>?_;refine GO 2 ?_;intro _ Y;exact ax (Y.midE 5)
   case ht=>
    intro n;refine GO 6 ?_;intro _ Y;exact ax (Y.midE 5)
   case h=>
    intro _ Y;refine GO 1 ?_;intro _ Y;apply kV Y 44 rfl 12 56
    case ht=>
     intro u;refine GO 3 ?_;intro _ Y;refine qy Y (fun X e=>(fx 0 1 (Y.ev rfl))) fun _ Y=>?_;refine GO 3 ?_;intro _ Y;apply fZ Y 51 rfl 4 55
     case hf=>
      intro l;refine qy Y (fun X e=>(fx 8 8 (Y.ev rfl))) fun _ Y=>?_;refine GO 1 ?_;intro _ Y;refine pM Y (ao Y _ rfl rfl rfl l) rfl rfl (fun X=>(aw a6 (Y.evs rfl) rfl)) (fun X e=>l4 _ _) fun _ Y=>GO 1 ?_;intro _ Y;exact ax (Y.midE 3)
     case ht=>
      intro l;refine GO 4 ?_;intro _ Y;exact ax (Y.midE 3)
     case h=>
      intro _ Y;refine GO 1 ?_;intro _ Y;exact ax (Y.midE 8)
    case hf=>
     intro u;refine GO 7 ?_;intro _ Y;refine nv Y (aE Y _ rfl rfl rfl) rfl rfl fun _ Y=>nv Y (aE Y _ rfl rfl rfl) rfl rfl fun _ Y=>nv Y (aE Y _ rfl rfl rfl) rfl rfl fun _ Y=>GO 2 ?_;intro _ Y;exact ax (Y.midE 11)
    case h=>
     intro _ Y;refine ax ?_;refine aT fun _ x C=>?_;have Z:=Z.grow x;refine GO 6 ?_;intro _ Y;refine dn Y rfl (aP _ _ _) fun _ Y=>?_;refine GO 4 ?_;intro _ Y;refine aC Y rfl rfl ?_;exact⟨by unfold gK;rw[a,f],Z.below⟩
  case hB=>kernel_rfl
  case hst=>rfl
def yn (g:RecP→Bool) (l:List RecP):Int:=match l.findIdx? g with | some i=>i | none=>-1
theorem DP {g:RecP→Bool} {l:List RecP} {j:Nat} (h:j<l.length) (b:g l[j]=true) (c:∀k (a:k<l.length),k<j→g l[k]=false):yn g l=j:=by
 unfold yn;rw[List.findIdx?_eq_some_iff_getElem.2 ⟨h,b,fun k a=>by rw[c k ab a];simp⟩]
theorem AN {g:RecP→Bool} {l:List RecP} (b:∀k (a:k<l.length),g l[k]=false):yn g l = -1:=by
 unfold yn;rw[List.findIdx?_eq_none_iff.2 (fun x hx=>by obtain⟨k,a,rfl⟩:=List.getElem_of_mem hx;exact b k a)]
theorem Cw (g:RecP→Bool) (l:List RecP):decide (yn g l≥0)=l.any g:=by
 unfold yn
 cases h:l.findIdx? g with
 | none=>
  rw[List.findIdx?_eq_none_iff] at h
  have:l.any g=false:=by rw[List.any_eq_false];intro x hx;rw[h x hx];simp
  rw[this];rfl
 | some i=>
  rw[List.findIdx?_eq_some_iff_getElem] at h;obtain⟨a,b,_⟩:=h;have:l.any g=true:=List.any_eq_true.2 ⟨l[i],List.getElem_mem a,b⟩;rw[this];simp
theorem oD (g:RecP→Bool) (l:List RecP) (A:Option Addr) (c:Nat) (f:FuncId) (d:List Value) (w:World) (hr:Rd w w.heap.size A (aW l)) (u:l.length≤1000) (s:∀(vs:Array Value) (W:World),(callFunc f vs).run Tryz.prog W=.ok (.enter f vs) W)
 (r:∀X,Below w.heap.size w X→∀x∈l,Calls Tryz.prog f ([l8 x] ++ d).toArray X fun e X'=>e=.returned (.bool (g x))∧Below X.heap.size X X') :
 bu 231 #[.slice A l.length c,.func (.func f) #[] d.toArray] w (ae (yn g l)):=by
 refine an (N:=19) Tryz.func231 rfl rfl rfl (fun _ Y=>?_);have Z:=St.init w;refine GO 14 ?_;intro _ Y;refine aV Y Z [7,0,1] (fun (j:Nat)=>[(8,ae j)]) (fun (j:Nat)=>j≤l.length∧∀k (m:k<l.length),k<j→g l[k]=false) (fun (j:Nat) L=>L) (fun (j:Nat)=>l.length-j) (0) (⟨Nat.zero_le _,fun k _ h=>by omega⟩) bC (Z) ?_;intro j _ _ t Y Z;refine GO 6 ?_;intro _ Y;refine ak (Y.ev rfl) (fun p=>?_) (fun p=>?_)
 ·
  have a:j<l.length:=by have:=of_decide_eq_true p;omega
  obtain⟨b,o,rfl,hB,_⟩:=hr.opened (by rw[bF];omega);refine GO 15 ?_;intro _ Y;refine sv Y (ar (i:=j) (sz:=3) dv aa (Y.ev rfl) (Y.ev rfl) ab ab rfl) fun _ Y=>?_;refine sv Y (ah aa aa (Y.ev rfl) (recAt (Z.rd0 hr) a)) fun _ Y=>?_;refine dO Y (wn rfl) (cG s (Y.ev rfl) (Y.evs rfl) rfl) rfl rfl Z (r _ Z.below l[j] (List.getElem_mem _)) fun _ _ Y Z=>?_;refine ag (ai ?_);refine ak (Y.ev rfl) (fun n=>?_) (fun n=>?_)
  ·
   refine GO 12 ?_;intro _ Y;refine aC Y rfl rfl ?_;exact⟨by rw[DP a n t.2],Z.below⟩
  ·
   refine GO 8 ?_;intro _ Y;exact⟨j+1,by omega,⟨a,fun k m h=>(Nat.lt_or_ge k j).elim (fun q=>t.2 k m q) (fun q=>by(obtain rfl:k=j:=by omega);exact n)⟩,Y.re bC,Z⟩
 ·
  have v:l.length≤j:=by have:=of_decide_eq_false p;omega
  refine GO 11 ?_;intro _ Y;refine aC Y rfl rfl ?_;exact⟨by rw[AN (fun k m=>t.2 k m ab)],Z.below⟩
theorem pA (g:RecP→Bool) (l:List RecP) (A:Option Addr) (c:Nat) (f:FuncId) (a:List Value) (w:World) (hr:Rd w w.heap.size A (aW l)) (b:l.length≤1000) (h:∀(vs:Array Value) (W:World),(callFunc f vs).run Tryz.prog W=.ok (.enter f vs) W)
 (d:∀X,Below w.heap.size w X→∀x∈l,Calls Tryz.prog f ([l8 x] ++ a).toArray X fun e X'=>e=.returned (.bool (g x))∧Below X.heap.size X X') :
 bu 223 #[.slice A l.length c,.func (.func f) #[] a.toArray] w (.bool (l.any g)):=by
 refine an (N:=9) Tryz.func223 rfl rfl rfl (fun _ Y=>?_);have Z:=St.init w;refine GO 9 ?_;intro _ Y;refine cQ Y rfl Z (oD g l A c f a _ (Z.rd0 hr) b h (fun X i x hx=>d X (dW Z.below i) x hx)) fun _ _ Y Z=>?_;refine GO 5 ?_;intro _ Y;refine aC Y rfl rfl ?_;exact⟨by rw[←Cw],Z.below⟩
theorem Dv (x:RecP) (n:Int) (b:Nat) (T:TypeId) (w:World) (a:Box w b #[ae n] T) :
 bu 224 #[l8 x,.pointer (some ⟨b,0,none⟩)] w (.bool (x.l==n)):=by
 refine an (N:=8) Tryz.func224 rfl rfl rfl (fun _ Y=>?_);have Z:=St.init w;refine aj (aq ?_);refine nb Y rfl rfl Z fun d _ _ c Y Z=>GO 7 ?_;intro _ Y;refine sv Y (lx (Y.ev rfl) (vH (a.below Z.below) rfl)) fun _ Y=>?_;refine GO 5 ?_;intro _ Y;refine aC Y rfl rfl ?_;exact⟨rfl,Z.below⟩
theorem Fo (l:List RecP) (A:Option Addr) (c:Nat) (n f:Int) (w:World) (hr:Rd w w.heap.size A (aW l)) (a:l.length≤1000) :
 bu 170 #[.slice A l.length c,ae n,ae f] w (.bool (decide (n≥f)&&pF l n)):=by
 refine an (N:=15) Tryz.func170 rfl rfl rfl (fun _ Y=>?_);have Z:=St.init w;refine aj (aq ?_);refine nb Y rfl rfl Z fun b4 _ _ j Y Z=>GO 9 ?_;intro _ Y;apply a8 Y Z 10 rfl 4 14
 case ht=>
  intro b;refine GO 1 ?_;intro _ Y;refine sy Y (fm (Y.evs rfl) (Y.evs rfl)) fun _ Y=>?_;refine dO Y (ao Y _ rfl rfl rfl b) (aw a6 (Y.evs rfl) rfl) rfl rfl Z (pA (fun x=>x.l==n) l A c 224 [.pointer (some ⟨b4,0,none⟩)] _ (Z.rd0 hr) a a6 (fun X d x _=>Dv x n b4 _ X (Box.below (Z.at_ (i:=0) rfl) d))) fun _ _ Y Z=>GO 1 ?_;intro _ Y;exact ag ⟨Y.midE 3,Z⟩
 case hf=>
  intro b;refine GO 4 ?_;intro _ Y;exact ag ⟨Y.midE 3,Z⟩
 case h=>
  rintro e k ⟨m,g⟩
  refine GO 4 ?_;intro _ Y;refine aC Y rfl rfl ?_;exact⟨rfl,g.below⟩
open Go.RowKit Go.Sort
theorem xh (g:Nat→RecP→Int) (l:List RecP) (A:Option Addr) (c:Nat) (f:FuncId) (n:List Value) (w:World) (hr:Rd w w.heap.size A (aW l)) (v:l.length≤1000) (u:∀(vs:Array Value) (W:World),(callFunc f vs).run Tryz.prog W=.ok (.enter f vs) W)
 (t:∀X,Below w.heap.size w X→∀(k:Nat) (d:k<l.length),(∀m (hm:m<l.length),m<k→g m l[m]=0)→Calls Tryz.prog f ([ae k,l8 l[k]] ++ n).toArray X fun e X'=>e=.returned (ae (g k l[k]))∧Below X.heap.size X X') :
 bu 165 #[.slice A l.length c,.func (.func f) #[] n.toArray] w (.tuple #[ae (df g 0 l).1,ae (df g 0 l).2]):=by
 refine an (N:=25) Tryz.func165 rfl rfl rfl (fun _ Y=>?_);have Z:=St.init w;refine GO 3 ?_;intro _ Y;refine GO 6 ?_;intro _ Y;refine GO 6 ?_;intro _ Y;refine aV Y Z [10,9,1] (fun (j:Nat)=>[(11,ae j)]) (fun (j:Nat)=>j≤l.length∧∀k (d:k<l.length),k<j→g k l[k]=0) (fun (j:Nat) L=>L) (fun (j:Nat)=>l.length-j) (0) (⟨Nat.zero_le _,fun k _ h=>by omega⟩) bC (Z) ?_;intro j _ _ p Y Z;refine GO 6 ?_;intro _ Y;refine ak (Y.ev rfl) (fun s=>?_) (fun s=>?_)
 ·
  have a:j<l.length:=by have:=of_decide_eq_true s;omega
  obtain⟨b,o,rfl,hB,_⟩:=hr.opened (by rw[bF];omega);refine GO 7 ?_;intro _ Y;refine sv Y (ar (i:=j) (sz:=3) dv aa (Y.ev rfl) (Y.ev rfl) ab ab rfl) fun _ Y=>?_;refine sv Y (ah aa aa (Y.ev rfl) (recAt (Z.rd0 hr) a)) fun _ Y=>?_;refine na (.agg kr) Y rfl Z fun z _ _ y Y Z=>?_;refine GO 1 ?_;intro _ Y;refine sw Y Z 0 fun _ Z=>?_;refine GO 6 ?_;intro _ Y;refine sv Y (ah aa aa (Y.ev rfl) (Z.cellsAll (i:=0) rfl)) fun _ Y=>?_;refine dO Y (wn rfl) (cG u (Y.ev rfl) (Y.evs rfl) rfl) rfl rfl Z (t _ Z.below j a p.2) fun _ _ Y Z=>?_;refine GO 9 ?_;intro _ Y;refine ak (Y.ev rfl) (fun r=>?_) (fun r=>?_)
  ·
   refine GO 14 ?_;intro _ Y;refine bU Y rfl rfl rfl ?_;have Y:g j l[j]≠0:=al r;have Y:=dU g l 0 j a (fun k d h=>by rw[Nat.zero_add];exact p.2 k d h) (by rw[Nat.zero_add];exact Y);exact⟨by rw[Y,Nat.zero_add],Z.below⟩
  ·
   refine GO 8 ?_;intro _ Y;exact⟨j+1,by omega,⟨a,fun k d h=>(Nat.lt_or_ge k j).elim (fun q=>p.2 k d q) (fun q=>by(obtain rfl:k=j:=by omega);simpa using r)⟩,Y.re bC,Z.sub (aB 0)⟩
 ·
  have x:l.length≤j:=by have:=of_decide_eq_false s;omega
  refine GO 12 ?_;intro _ Y;refine bU Y rfl rfl rfl ?_;exact⟨by rw[dx g l 0 (fun k d=>by rw[Nat.zero_add];exact p.2 k d ab)],Z.below⟩
def Hy (r:RngP) (A:Option Addr) (c:Nat):List Value:=[ae r.pg,ae r.r.s,ae r.r.c,ae r.r.o,ae r.e.s,ae r.e.c,ae r.e.o,.slice A r.rs.length c,ae r.nx]
theorem Dh (r:RngP) (A:Option Addr) (c i:Nat) (b:Nat) (T:TypeId) (w:World) (d:Box w b (Hy r A c).toArray T) (hr:Rd w w.heap.size A (aW r.rs)) (e:i<r.rs.length) (hx:I6 r.rs[i].l) (f:∀y,cd r.rs i=some y→Bfr y) (g:0≤r.r.o∧r.r.o≤100000000) (a:r.rs.length≤1000) :
 bu 166 #[ae i,l8 r.rs[i],.pointer (some ⟨b,0,none⟩)] w (ae (fe r.r.o r.r.s (cd r.rs i) r.rs[i])):=by
 refine an (N:=9) Tryz.func166 rfl rfl rfl (fun _ Y=>?_);have Z:=St.init w;refine aj (aq ?_);refine nb Y rfl rfl Z fun b4 _ _ h Y Z=>GO 5 ?_;intro _ Y;refine sv Y (ah aa aa (Y.ev rfl) (EC (d.below Z.below))) fun _ Y=>?_;refine GO 1 ?_;intro _ Y;refine cQ Y rfl Z (sk r A c i _ (Z.rd0 hr) e hx f g a) fun _ _ Y Z=>?_;refine GO 4 ?_;intro _ Y;refine aC Y rfl rfl ?_;exact⟨rfl,Z.below⟩
theorem ki (x y:RstP):kP [ae x.s,ae x.c,ae x.o] [ae y.s,ae y.c,ae y.o]=decide (x=y):=by
 obtain⟨a,b,c⟩:=x;obtain⟨a',b',c'⟩:=y;rw[Bool.eq_iff_iff,decide_eq_true_eq,RstP.mk.injEq];simp[kP,vY]
theorem Gr (r:RngP) (f:r.r.o≤100000000) (b:r.rs.length≤1000) (k:Nat) (e:k<r.rs.length) (h:∀m (hm:m<r.rs.length),m<k→fe r.r.o r.r.s (cd r.rs m) r.rs[m]=0):∀y,cd r.rs k=some y→Bfr y:=by
 intro y a
 cases k with
 | zero=>simp[cd] at a
 | succ k=>
  rw[oG e] at a;injection a with a;subst a;obtain⟨c,g,h3⟩:=mI r f k ab fun m hm d=>h m hm ab;exact⟨c,by omega,h3⟩
theorem wj (r:RngP) (e:r.r.o≤100000000) (b:r.rs.length≤1000) (h:∀m (hm:m<r.rs.length),fe r.r.o r.r.s (cd r.rs m) r.rs[m]=0):∀y,r.rs.getLast? = some y→Bfr y:=by
 intro y a;rcases Nat.eq_zero_or_pos r.rs.length with c | c
 · rw[List.eq_nil_of_length_eq_zero c] at a;cases a
 · rw[List.getLast?_eq_getElem?,List.getElem?_eq_getElem ab] at a
   injection a with a;subst a;obtain⟨d,f,h3⟩:=mI r e (r.rs.length-1) ab fun m hm _=>h m hm;exact⟨d,by omega,h3⟩
theorem CW (r:RngP) (h:∀m (hm:m<r.rs.length),fe r.r.o r.r.s (cd r.rs m) r.rs[m]=0):r.rs=[]∨1≤r.r.o:=by
 rcases Nat.eq_zero_or_pos r.rs.length with a | a
 · exact .inl (List.eq_nil_of_length_eq_zero a)
 · right
   have b:=(recE_zero.1 (h 0 a)).2.2.1;unfold cd gR at b;simp only[if_true,Bool.and_eq_true,beq_iff_eq,decide_eq_true_eq] at b;omega
theorem lK (r:RngP) (A:Option Addr) (c:Nat) (w:World) (hr:Rd w w.heap.size A (aW r.rs)) (d:r.rs.length≤1000) (hx:∀x∈r.rs,I6 x.l) :
 bu 105 #[bm r A c] w (.tuple #[ae (cn r).1,ae (cn r).2]):=by
 refine an (N:=96) Tryz.func105 rfl rfl rfl (fun _ Y=>?_);have Z:=St.init w;refine aj (aq ?_);refine nb Y rfl rfl Z fun b1 _ _ Zs M Z=>GO 1 ?_;intro _ y;refine GO 4 ?_;intro _ Y;apply aK Y (fK 5) _ aa
 case h=>
  refine GO 1 ?_;intro _ Y;refine GO 1 ?_;intro _ C;refine iW C rfl (fun X a=>uj _ _) fun _ Y=>?_;refine GO 1 ?_;intro _ Y;refine qv Y (fun X a=>ah aa aa (Y.ev rfl) ((Z.grow a).cellsOf (i:=0) rfl 1 3)) fun _ Y=>?_;refine ax ?_;refine aT fun _ V Zt=>?_;have Z:=Z.grow V;refine cQ Y rfl Z (oH r.r _) fun _ _ Y Z=>?_;refine bV Y (wn rfl) (f:=fun b=>.slice (some ⟨b,0,none⟩) 2 2) (ba dt aa aa (Y.evs2 rfl) rfl rfl rfl au au) rfl rfl Z fun W _ _ Zm Y p=>dn Y rfl (iz (p.at_ (i:=0) rfl)) fun _ Y=>?_;refine GO 6 ?_;intro _ Y;refine vf Y 4 4 fun _ Y=>?_;refine sv Y (ah aa aa (Y.ev rfl) (p.cellsOf (i:=1) rfl 4 3)) fun _ Y=>?_;refine sv Y (az (zs:=lJ) (pl:=fY) aa aa (Y.evs2 rfl) rfl rfl) fun _ Y=>?_;refine sv Y (ke (ks:=[.i .i64,.i .i64,.i .i64]) aa xg aa (Y.ev rfl) (Y.ev rfl) rfl rfl) fun _ q=>?_;refine ag (ai ?_);refine dY q p [(4,ae (av [kJ r.pg,gl r.r,kC r]))] [3,2,1] ?_ (fun _ _ Y Z=>?_)
  ·
   refine ak (q.ev rfl) (fun H=>?_) (fun H=>?_)
   ·
    apply aK q (fK 13) _ aa
    case h=>
     refine GO 1 ?_;intro _ Y;refine qv Y (fun X a=>fx 4 4 (Y.ev rfl)) fun _ Y=>?_;refine qv Y (fun X a=>ah aa aa (Y.ev rfl) ((p.grow a).cellsOf (i:=1) rfl 4 3)) fun _ Y=>?_;refine nH Y rfl (fun X a=>oH r.e _) fun _ Y=>?_;refine qv Y (fun X a=>fx 4 4 (Y.ev rfl)) fun _ Y=>?_;refine qv Y (fun X a=>fx 0 4 (Y.ev rfl)) fun _ Y=>?_;refine GO 2 ?_;intro _ Y;refine qv Y (fun X a=>fx 0 1 (Y.ev rfl)) fun _ Y=>?_;refine GO 1 ?_;intro _ Y;refine qv Y (fun X a=>ur (Y.ev rfl) (Y.ev rfl)) fun _ Y=>?_;refine GO 1 ?_;intro _ Y;refine iW Y rfl (fun X a=>aP _ _ _) fun _ Y=>?_;refine ax ?_;refine aT fun _ P Zn=>?_;have Z:=p.grow P;refine bV Y (wn rfl) (f:=fun b=>.slice (some ⟨b,0,none⟩) 3 3) (ba dt aa aa (Y.evs2 rfl) rfl rfl rfl au au) rfl rfl Z fun U _ _ Zo Y Z=>dn Y rfl (fO (Z.at_ (i:=0) rfl)) fun _ Y=>?_;refine GO 3 ?_;intro _ Y
     have F:r.e≠rst0:=by
      have u:(!kP [ae r.e.s,ae r.e.c,ae r.e.o] [ae rst0.s,ae rst0.c,ae rst0.o])=true:=H;rw[ki] at u;simpa using u
     have e2:av [av [kJ r.pg,gl r.r],gl r.e,bQ (r.e.s==IntKind.i64.wrap (r.r.s-1)) 9]=av [kJ r.pg,gl r.r,kC r]:=by
      rw[xn];unfold kC;rw[if_neg F];simp only[av]
      by_cases M:kJ r.pg=0<;>by_cases y:gl r.r=0<;>simp only[M,y,if_true,if_false]
      have Y:r9 r.r=true:=by unfold gl at y;exact(aH au).1 y
      have Y:=uB Y;rw[dz ab]
      by_cases C:gl r.e=0<;>simp[C]
     rw[e2] at Y;exact⟨Y.re bC,Z.sub (aB 6)⟩
    case hB=>kernel_rfl
    case hst=>rfl
   ·
    refine wp_skip (ai ?_)
    have F:r.e=rst0:=by
     have u:(!kP [ae r.e.s,ae r.e.c,ae r.e.o] [ae rst0.s,ae rst0.c,ae rst0.o])=false:=H;rw[ki] at u;simpa using u
    have e2:av [kJ r.pg,gl r.r]=av [kJ r.pg,gl r.r,kC r]:=by
     unfold kC;rw[if_pos F,ux]
    rw[e2] at q;exact⟨q.re bC,p⟩
  ·
   have D:av [av [kJ r.pg,gl r.r,kC r],bQ (bB r.nx 0 100000000&&r.nx % 8==0) 2,bQ (decide ((r.rs.length:Int)≤100)) 8]=fD r:=by
    rw[ud];unfold fD kB;have:decide ((r.rs.length:Int)≤100)=decide (r.rs.length≤100):=decide_eq_decide.2 ab;rw[this]
   refine ai (aj ?_);apply aK Y (fK 16) _ aa
   case h=>
    refine GO 1 ?_;intro _ Y;refine qv Y (fun X a=>fx 8 8 (Y.ev rfl)) fun _ Y=>?_;refine GO 1 ?_;intro _ Y;refine iW Y rfl (fun X a=>cL _ _ _ _) fun _ Y=>?_;refine GO 1 ?_;intro _ Y;apply kV Y 40 rfl 5 45
    case ht=>
     intro K;refine qy Y (fun X a=>(fx 8 8 (Y.ev rfl))) fun _ Y=>?_;refine GO 1 ?_;intro _ Y;refine qy Y (fun X a=>(lV (Y.ev rfl) (Y.ev rfl) (by have:=K;rw[inB_true] at this;omega))) fun _ Y=>?_;refine GO 2 ?_;intro _ Y;exact ax (Y.midE 4)
    case hf=>
     intro K;refine GO 5 ?_;intro _ Y;exact ax (Y.midE 4)
    case h=>
     intro _ Y;refine iW Y rfl (fun X a=>aP _ _ _) fun _ Y=>?_;refine qv Y (fun X a=>fx 7 7 (Y.ev rfl)) fun _ Y=>?_;refine GO 3 ?_;intro _ Y;refine iW Y rfl (fun X a=>aP _ _ _) fun _ Y=>?_;refine ax ?_;refine aT fun _ Zh Zp=>?_;have Z:=Z.grow Zh;refine bV Y (wn rfl) (f:=fun b=>.slice (some ⟨b,0,none⟩) 3 3) (ba dt aa aa (Y.evs2 rfl) rfl rfl rfl au au) rfl rfl Z fun Q _ _ Zq Y Z=>dn Y rfl (fO (Z.at_ (i:=0) rfl)) fun _ Y=>?_;refine GO 10 ?_;intro _ Y;refine ak (Y.ev rfl) (fun G=>?_) (fun G=>?_)
     ·
      have hne:fD r≠0:=by rw[←D];simpa using G
      refine GO 9 ?_;intro _ Y;refine bU Y rfl rfl rfl ?_;refine⟨?_,Z.below⟩;rw[D];unfold cn;rw[if_pos hne]
     ·
      have E:fD r=0:=by rw[←D];simpa using G
      have z:=head_iff.1 E;have v:=z.rr.2.2;have t:=z.nx;have R:=z.pg;refine wp_skip (ai (aj (aj (aq ?_))));refine vf Y 7 7 fun _ Y=>?_;refine GO 1 ?_;intro _ Y;refine sv Y (fm (Y.evs rfl) (Y.evs rfl)) fun _ Y=>?_;refine cQ Y rfl Z (xh (fun k x=>fe r.r.o r.r.s (cd r.rs k) x) r.rs A c 166 [.pointer (some ⟨b1,0,none⟩)] _ (Z.rd0 hr) d a6 (fun X a k O J=>Dh r A c k b1 _ X (Box.below (Z.at_ (i:=2) rfl) a) ((Z.rd0 hr).below' a) O (hx _ (List.getElem_mem _)) (Gr r v.2 d k O J) v d)) fun _ _ Y Z=>?_;refine GO 13 ?_;intro _ Y;refine ak (Y.ev rfl) (fun I=>?_) (fun I=>?_)
      ·
       have j:(kH r).2≠0:=by unfold kH;simpa using I
       refine GO 10 ?_;intro _ Y;refine bU Y rfl rfl rfl ?_;refine⟨?_,Z.below⟩;unfold cn;rw[if_neg (al E),if_pos j];rfl
      ·
       have j:(kH r).2=0:=by unfold kH;simpa using I
       have n:∀m (hm:m<r.rs.length),fe r.r.o r.r.s (cd r.rs m) r.rs[m]=0:=fun m hm=>by
        have:=j0 _ _ _ j m hm;rw[Nat.zero_add] at this;exact this
       have g:=wj r v.2 d n;have B:r.rs=[]∨(1≤r.r.o∧r.r.o≤100000000):=(CW r n).imp_right fun h=>⟨h,v.2⟩;refine wp_skip (ai (aj (aq ?_)));refine sv Y (ah aa aa (Y.ev rfl) (Z.cellsAll (i:=2) rfl)) fun _ Y=>?_;refine cQ Y rfl Z (sY r A c _ (Z.rd0 hr) g B d) fun _ _ Y Z=>?_;refine GO 8 ?_;intro _ Y;apply aK Y (fK 20) _ aa
       case h=>
        refine qv Y (fun X a=>ah aa aa (Y.ev rfl) ((Z.grow a).cellsAll (i:=2) rfl)) fun _ Y=>?_;refine nH Y rfl (fun X a=>vk r A c _ ((Z.grow a).rd0 hr) g v ⟨t.1,t.2.1⟩ d) fun _ Y=>?_;refine GO 1 ?_;intro _ Y;refine qv Y (fun X a=>fx 1 2 (Y.ev rfl)) fun _ Y=>?_;refine GO 3 ?_;intro _ Y;apply fZ Y 79 rfl 7 86
        case hf=>
         intro L;refine qy Y (fun X a=>(fx 7 7 (Y.ev rfl))) fun _ Y=>?_;refine GO 2 ?_;intro _ Y;refine qy Y (fun X a=>(fx 1 2 (Y.ev rfl))) fun _ Y=>?_;refine GO 1 ?_;intro _ Y;refine me Y (ao Y _ rfl rfl rfl L) rfl rfl (fun X=>(aw a6 (Y.evs rfl) rfl)) (fun X a=>Fo r.rs A c r.r.c 0 _ ((Z.grow a).rd0 hr) d) fun _ Y=>GO 1 ?_;intro _ Y;exact ax (Y.midE 6)
        case ht=>
         intro L;refine GO 7 ?_;intro _ Y;exact ax (Y.midE 6)
        case h=>
         intro _ Y;refine iW Y rfl (fun X a=>aP _ _ _) fun _ Y=>?_;refine GO 6 ?_;intro _ Y;refine aT fun _ T Zk=>?_;have Z:=Z.grow T;refine dn Y rfl (aP _ _ _) fun _ Y=>?_;refine bV Y (wn rfl) (f:=fun b=>.slice (some ⟨b,0,none⟩) 3 3) (ba dt aa aa (Y.evs2 rfl) rfl rfl rfl au au) rfl rfl Z fun S _ _ Zr Y Z=>dn Y rfl (fO (Z.at_ (i:=0) rfl)) fun _ Y=>?_;refine GO 5 ?_;intro _ Y;refine bU Y rfl rfl rfl ?_;refine⟨?_,Z.below⟩;unfold cn;rw[if_neg (al E),if_neg (al j)];unfold kS;have:decide (r.r.c≥0)=true:=decide_eq_true z.rr.2.1.1;rw[this,Bool.true_and]
       case hB=>kernel_rfl
       case hst=>rfl
   case hB=>kernel_rfl
   case hst=>rfl
 case hB=>kernel_rfl
 case hst=>rfl
theorem xq (r:RngP) (A:Option Addr) (c:Nat) (w:World) (hr:Rd w w.heap.size A (aW r.rs)) (a:r.rs.length≤1000) (hx:∀x∈r.rs,I6 x.l) :
 bu 230 #[bm r A c] w (ae (cn r).2):=by
 refine an (N:=11) Tryz.func230 rfl rfl rfl (fun _ Y=>?_);have Z:=St.init w;refine aj (aq ?_);refine nb Y rfl rfl Z fun b1 _ _ b Y Z=>GO 5 ?_;intro _ Y;refine sv Y (ah aa aa (Y.ev rfl) (Z.cellsAll (i:=0) rfl)) fun _ Y=>?_;refine cQ Y rfl Z (lK r A c _ (Z.rd0 hr) a hx) fun _ _ Y Z=>?_;refine GO 14 ?_;intro _ Y;refine aC Y rfl rfl ?_;exact⟨rfl,Z.below⟩
structure OkP (r:RngP):Prop where
 h:HeadP r
 all:∀m (hm:m<r.rs.length),fe r.r.o r.r.s (cd r.rs m) r.rs[m]=0
 t:kS r=0
theorem ok_iff {r:RngP}:(cn r).2=0↔OkP r:=by
 unfold cn
 constructor
 · intro h
   by_cases b:fD r=0
   · rw[if_neg (al b)] at h
     by_cases a:(kH r).2=0
     · rw[if_neg (al a)] at h
       exact⟨head_iff.1 b,fun m hm=>by
        have:=j0 _ _ _ a m hm
        rw[Nat.zero_add] at this;exact this,h⟩
     · rw[if_pos a] at h;exact absurd h a
   · rw[if_pos b] at h;exact absurd h b
 · intro h
   rw[if_neg (by simpa using head_iff.2 h.h)]
   have a:(kH r).2=0:=by unfold kH;rw[dx _ _ _ (fun k c=>by rw[Nat.zero_add];exact h.all k c)]
   rw[if_neg (al a)];exact h.t
theorem OkP.o {r:RngP} (h:OkP r):r.rs=[]∨(1≤r.r.o∧r.r.o≤100000000):=(CW r h.all).imp_right fun q=>⟨q,h.h.rr.2.2.2⟩
theorem OkP.rcd {r:RngP} (h:OkP r) (k:Nat) (a:k<r.rs.length):1≤r.rs[k].l∧r.rs[k].l≤100000000+k*4000∧r.rs[k].b.size≤3000:=mI r h.h.rr.2.2.2 k a fun m hm _=>h.all m hm
def xC (l:List RecP) (n:Int):Option RecP:=l.find? fun x=>x.l==n
end Go.Proofs.YtcfdpfmchchkaaaGreatDoor
