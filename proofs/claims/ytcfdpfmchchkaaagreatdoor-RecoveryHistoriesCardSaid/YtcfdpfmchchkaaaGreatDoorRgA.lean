/-
  Chapter 20: small functions of logs.
  Chapter 20: the error of a record, of the next position; whether a log has a record.
  Chapter 20: logs checked.
  Chapter 20: logs checked.
-/
import Derived.Test.YtcfdpfmchchkaaaGreatDoorOpA
namespace Go.Proofs.YtcfdpfmchchkaaaGreatDoor
set_option maxHeartbeats 1000000
set_option linter.unusedVariables false
set_option linter.unusedSimpArgs false
open Go.RowKit Go.Sort
def vS (x:RstP):Value:=.agg #[.int .i64 x.s,.int .i64 x.c,.int .i64 x.o]
def pS (x:RecP):Value:=.agg #[.int .i64 x.l,.int .i64 x.s,.string x.b]
theorem yq (n c:Int) (w:World) (h0:0≤n) (h1:n≤1000000000000) (h2:1≤c) (h3:c≤1000000) :
 Calls Tryz.prog 246 #[.int .i64 n,.int .i64 c] w fun e w'=>e=.returned (.int .i64 ((n+c-1) / c*c))∧w=w':=by
 have hd0:0≤(n+c-1) / c:=Int.ediv_nonneg ab ab;have hd1:(n+c-1) / c*c≤n+c-1:=Int.ediv_mul_le _ ab;have hd2:0≤(n+c-1) / c*c:=Int.mul_nonneg hd0 ab;refine ao (N:=13) Tryz.func246 rfl rfl rfl (fun _ h0=>?_);have S0:=St.init w;refine GO 12 ?_;intro _ Y;refine sv Y (qm (Y.ev rfl) (Y.ev rfl) ab) fun _ Y=>?_;refine GO 1 ?_;intro _ Y;refine sv Y (ff (Y.ev rfl) (Y.ev rfl) ab) fun _ Y=>?_;refine GO 4 ?_;intro _ Y;refine aF Y rfl rfl ?_;exact⟨rfl,rfl⟩
theorem tu (n:Int) (w:World) (h0:0≤n) (h1:n≤1000000) :
 Calls Tryz.prog 245 #[.int .i64 n] w fun e w'=>e=.returned (.int .i64 (nu n))∧w=w':=by
 refine ao (N:=6) Tryz.func245 rfl rfl rfl (fun _ h0=>?_);have S0:=St.init w;refine GO 9 ?_;intro _ Y;refine cI Y rfl (yq _ _ _ ab ab ab ab) fun _ Y=>?_;refine GO 4 ?_;intro _ Y;refine aF Y rfl rfl ?_;exact⟨by unfold nu;congr 2;omega,rfl⟩
theorem qw (n:Int) (w:World) (h0:0≤n) (h1:n≤1000000000) :
 Calls Tryz.prog 222 #[.int .i64 n] w fun e w'=>e=.returned (.int .i64 (fa n))∧w=w':=by
 refine ao (N:=5) Tryz.func222 rfl rfl rfl (fun _ h0=>?_);have S0:=St.init w;refine GO 8 ?_;intro _ Y;refine cI Y rfl (yq _ _ _ ab ab ab ab) fun _ Y=>?_;refine GO 4 ?_;intro _ Y;refine aF Y rfl rfl ?_;exact⟨by unfold fa;congr 2;omega,rfl⟩
theorem jA (n:Int) (w:World) :
 Calls Tryz.prog 221 #[.int .i64 n] w fun e w'=>e=.returned (.bool (n.tmod 448==0))∧w=w':=by
 refine ao (N:=6) Tryz.func221 rfl rfl rfl (fun _ Y=>?_);have S0:=St.init w;refine GO 8 ?_;intro _ Y;refine sv Y (uu (Y.ev rfl) (Y.ev rfl) ar) fun _ Y=>?_;refine GO 5 ?_;intro _ Y;refine aF Y rfl rfl ?_;exact⟨rfl,rfl⟩
theorem jB (x:RecP) (w:World) (h0:1≤x.l) (h1:x.l≤1000000000) (h2:x.b.size≤100000) :
 Calls Tryz.prog 220 #[pS x] w fun e w'=>e=.returned (.int .i64 (eE x))∧Below w.heap.size w w':=by
 have hz:0≤nu x.b.size∧nu x.b.size≤1000000:=by unfold nu;omega
 refine ao (N:=11) Tryz.func220 rfl rfl rfl (fun _ h0=>?_);have Z:=St.init w;refine ai (aq ?_);refine nb h0 rfl rfl Z fun b1 _ _ Zc h1 Z=>?_;refine GO 4 ?_;intro _ h2;apply aL h2 (fA 7) _ aa
 case h=>
  refine GO 6 ?_;intro _ Y;refine gm Y rfl (fun X hX=>tu _ _ ab ab) fun _ Y=>?_;refine aw ?_;refine aS fun _ Za Zb=>?_;have Z:=Z.grow Za;refine GO 5 ?_;intro _ Y;refine aF Y rfl rfl ?_;exact⟨rfl,Z.below⟩
 case hB=>kernel_rfl
 case hst=>rfl
theorem pU (n:Int) (w:World) :
 Calls Tryz.prog 161 #[.int .i64 n] w fun e w'=>e=.returned (.int .i64 (iy n))∧w=w':=by
 refine ao (N:=6) Tryz.func161 rfl rfl rfl (fun _ Y=>?_);have S0:=St.init w;refine GO 8 ?_;intro _ Y;refine cI Y rfl (bY _ _ _ _) fun _ Y=>?_;refine cI Y rfl (aO _ _ _) fun _ Y=>?_;refine GO 4 ?_;intro _ Y;refine aF Y rfl rfl ?_;exact⟨rfl,rfl⟩
theorem lE (x:RstP) (w:World) :
 Calls Tryz.prog 162 #[vS x] w fun e w'=>e=.returned (.int .i64 (eN x))∧Below w.heap.size w w':=by
 refine ao (N:=19) Tryz.func162 rfl rfl rfl (fun _ Y=>?_);have Z:=St.init w;refine ai (aq ?_);refine nb Y rfl rfl Z fun b1 _ _ Ze Y Z=>?_;refine GO 7 ?_;intro _ Y;refine cI Y rfl (bY _ _ _ _) fun _ Y=>?_;refine GO 1 ?_;intro _ Y;apply aZ Y Z 7 rfl 4 11
 case ht=>
  intro Zc;refine GO 2 ?_;intro _ Y;refine bN Y (aj Y _ rfl rfl rfl Zc) (ax a8 (Y.evs rfl) rfl) rfl rfl (bY _ _ _ _) fun _ Y=>?_;refine GO 1 ?_;intro _ Y;exact ae ⟨Y.midE 3,Z⟩
 case hf=>
  intro Zc;refine GO 4 ?_;intro _ Y;exact ae ⟨Y.midE 3,Z⟩
 case h=>
  rintro a15 Zf ⟨Zg,Zb⟩
  refine GO 1 ?_;intro _ Y;apply aZ Y Zb 12 rfl 4 16
  case ht=>
   intro Za;refine GO 2 ?_;intro _ Y;refine bN Y (aj Y _ rfl rfl rfl Za) (ax a8 (Y.evs rfl) rfl) rfl rfl (bY _ _ _ _) fun _ Y=>?_;refine GO 1 ?_;intro _ Y;exact ae ⟨Y.midE 3,Zb⟩
  case hf=>
   intro Za;refine GO 4 ?_;intro _ Y;exact ae ⟨Y.midE 3,Zb⟩
  case h=>
   rintro a25 Zh ⟨Zi,Zd⟩
   refine GO 6 ?_;intro _ Y;refine cI Y rfl (aO _ _ _) fun _ Y=>?_;refine GO 4 ?_;intro _ Y;refine aF Y rfl rfl ?_;exact⟨rfl,Zd.below⟩
open Go.RowKit Go.Sort
def recC (x:RecP):List Value:=[.int .i64 x.l,.int .i64 x.s,.string x.b]
def cj (l:List RecP):List Value:=l.flatMap recC
def cQ (r:RngP) (A:Option Addr) (c:Nat):Value:=.agg #[.int .i64 r.pg,.int .i64 r.r.s,.int .i64 r.r.c,.int .i64 r.r.o,.int .i64 r.e.s,.int .i64 r.e.c,.int .i64 r.e.o,.slice A r.rs.length c,.int .i64 r.nx]
theorem bE (l:List RecP):(cj l).length=l.length*3:=by
 induction l with
 | nil=>rfl
 | cons x l ih=>simp[cj,recC] at ih ⊢;omega
theorem ou:∀(l:List RecP) (k:Nat) (h:k<l.length) (j:Nat) (u:Value),(recC l[k])[j]? = some u→(cj l)[k*3+j]? = some u
 | x::l,0,h,j,u,hu=>by
  have hj:j<3:=(List.getElem?_eq_some_iff.1 hu).1;show(recC x ++ cj l)[0*3+j]? = some u;rw[Nat.zero_mul,Nat.zero_add,List.getElem?_append_left (by exact hj)];exact hu
 | x::l,k+1,h,j,u,hu=>by
  show(recC x ++ cj l)[(k+1)*3+j]? = some u;have hl:(recC x).length=3:=rfl;rw[List.getElem?_append_right ab,hl,show(k+1)*3+j-3=k*3+j by omega];exact ou l k (by simpa using h) j u hu
theorem recAt {X:World} {B b o:Nat} {l:List RecP} {k:Nat} (h:Rd X B (some ⟨b,o,none⟩) (cj l)) (hk:k<l.length):∀(j:Nat) (u:Value),[Value.int .i64 l[k].l,.int .i64 l[k].s,.string l[k].b][j]? = some u→X.cell? ⟨b,o+k*3+j,none⟩=some u:=fun j u hu=>by
 obtain⟨b',o',e,_,hc⟩:=h (k*3+j) u (ou l k hk j u hu);injection e with e;injection e with e1 e2;subst e1 e2;rw[Nat.add_assoc];exact hc
theorem fC {X:World} {b:Nat} {e1 e2:Int} {T:TypeId} (hb:Box X b #[.int .i64 e1,.int .i64 e2] T):Calls Tryz.prog 160 #[.slice (some ⟨b,0,none⟩) 2 2] X fun e w'=>e=.returned (.int .i64 (au [e1,e2]))∧X=w':=
 fP b 0 [e1,e2] X a7 (fun k hk=>by
  rw[Nat.zero_add,Box.cells hb k]
  have:k=0∨k=1:=by simp at hk;omega
  rcases this with rfl | rfl<;>rfl)
theorem ep {X:World} {b:Nat} {e1 e2 e3:Int} {T:TypeId} (hb:Box X b #[.int .i64 e1,.int .i64 e2,.int .i64 e3] T):Calls Tryz.prog 160 #[.slice (some ⟨b,0,none⟩) 3 3] X fun e w'=>e=.returned (.int .i64 (au [e1,e2,e3]))∧X=w':=
 fP b 0 [e1,e2,e3] X a7 (fun k hk=>by
  rw[Nat.zero_add,Box.cells hb k]
  have:k=0∨k=1∨k=2:=by simp at hk;omega
  rcases this with rfl | rfl | rfl<;>rfl)
theorem dd {X:World} {b:Nat} {e1 e2:Int} {T:TypeId} (hb:Box X b #[.int .i64 e1,.int .i64 e2] T):Calls Tryz.prog 63 #[.slice (some ⟨b,0,none⟩) 2 2] X fun e w'=>e=.returned (.int .i64 (au [e1,e2]))∧X=w':=
 fB b 0 [e1,e2] X a7 (fun k hk=>by
  rw[Nat.zero_add,Box.cells hb k]
  have:k=0∨k=1:=by simp at hk;omega
  rcases this with rfl | rfl<;>rfl)
theorem fg {X:World} {b:Nat} {e1 e2 e3:Int} {T:TypeId} (hb:Box X b #[.int .i64 e1,.int .i64 e2,.int .i64 e3] T):Calls Tryz.prog 63 #[.slice (some ⟨b,0,none⟩) 3 3] X fun e w'=>e=.returned (.int .i64 (au [e1,e2,e3]))∧X=w':=
 fB b 0 [e1,e2,e3] X a7 (fun k hk=>by
  rw[Nat.zero_add,Box.cells hb k]
  have:k=0∨k=1∨k=2:=by simp at hk;omega
  rcases this with rfl | rfl | rfl<;>rfl)
theorem mv {b:ByteArray}:b=⟨#[]⟩↔b.size=0:=by
 constructor
 · rintro rfl;rfl
 · intro h;exact jE (List.eq_nil_of_length_eq_zero (by rw[aN];exact h))
theorem BD (b:ByteArray):au [bo (!decide (b=⟨#[]⟩)) 17,bo (decide ((b.size:Int)≤3000)) 8]=if b.size=0 then 17 else if 3000<b.size then 8 else 0:=by
 simp only[au,bo];by_cases h:b.size=0
 · simp[h,mv]
 · by_cases h2:3000<b.size
   · have h3:¬((b.size:Int)≤3000):=by omega
     simp[h,mv,h2,h3]
   · have h3:((b.size:Int)≤3000):=by omega
     simp[h,mv,h2,h3]
theorem tf (p q:Bool) (a b:Int) (ha:a≠0):au [bo p a,bo q b]=if p=false then a else if q=false then b else 0:=by
 cases p<;>cases q<;>simp[au,bo,ha]<;>(intro h;exact h.symm)
theorem pH (p q r:Bool) (a b c:Int) (ha:a≠0) (hb:b≠0):au [bo p a,bo q b,bo r c]=if p=false then a else if q=false then b else bo r c:=by
 cases p<;>cases q<;>cases r<;>simp[au,bo,ha,hb]<;>(intro h;exact h.symm)
theorem tp {o q:Int} {x:RecP} (h0:x.b.size≠0) (h1:¬3000<x.b.size):ed o q none x=au [bo (x.l==o&&decide (o≥1)&&(o-1) % 8==0) 9,bo (bb x.s 1 q) 2]:=by
 rw[tf _ _ _ _ ar];unfold ed gB seqB;rw[if_neg h0,if_neg h1];simp only[bo,ge_iff_le,if_true]
theorem wG {o q:Int} {x y:RecP} (h0:x.b.size≠0) (h1:¬3000<x.b.size) (hx:-9223372036854775808≤x.l∧x.l<9223372036854775808) (hy0:0≤eE y) (hy1:eE y<1000000000000) :
 ed o q (some y) x=au [bo (IntKind.i64.wrap (x.l-1)==eE y||IntKind.i64.wrap (x.l-1)==fa (eE y)) 9,bo (bb x.s 1 q) 2,bo (x.s==y.s||(decide (x.s>y.s)&&(IntKind.i64.wrap (x.l-1)).tmod 448==0)) 9]:=by
 rw[pH _ _ _ _ _ _ ar ar];unfold ed gB seqB;rw[if_neg h0,if_neg h1]
 have hn:0≤fa (eE y)∧fa (eE y)<2000000000000:=by unfold fa;omega
 have hw:∀e:Int,0≤e→e<2000000000000→(IntKind.i64.wrap (x.l-1)==e)=(x.l-1==e):=fun e he0 he1=>by
  rw[Bool.eq_iff_iff,beq_iff_eq,beq_iff_eq,IntKind.wrap_i64];omega
 simp only[hw _ hy0 ab,hw _ hn.1 hn.2]
 cases ho:(x.l-1==eE y||x.l-1==fa (eE y)) with
 | false=>rfl
 | true=>
  have hp:0≤x.l-1∧x.l-1<2000000000000:=by
   rw[Bool.or_eq_true,beq_iff_eq,beq_iff_eq] at ho;omega
  have e:IntKind.i64.wrap (x.l-1)=x.l-1:=cG ab;rw[e,Int.tmod_eq_emod_of_nonneg hp.1]
def Bfr (y:RecP):Prop:=1≤y.l∧y.l≤500000000∧y.b.size≤3000
theorem Bfr.bd {y:RecP} (h:Bfr y):0≤eE y∧eE y≤600000000∧0≤fa (eE y)∧fa (eE y)≤700000000∧1≤eE y:=by
 obtain⟨h1,h2,h3⟩:=h;unfold fa eE nu;omega
theorem nS (r:RngP) (A:Option Addr) (c i:Nat) (w:World) (hr:Rd w w.heap.size A (cj r.rs)) (hi:i<r.rs.length) (hx:-9223372036854775808≤r.rs[i].l∧r.rs[i].l<9223372036854775808) (hb:∀y,cn r.rs i=some y→Bfr y) (ho:0≤r.r.o∧r.r.o≤100000000) (hlen:r.rs.length≤1000) :
 Calls Tryz.prog 167 #[cQ r A c,.int .i64 i] w fun e w'=>e=.returned (.int .i64 (ed r.r.o r.r.s (cn r.rs i) r.rs[i]))∧Below w.heap.size w w':=by
 obtain⟨b,o,rfl,hB,_⟩:=hr.opened (by rw[bE];omega);refine ao (N:=104) Tryz.func167 rfl rfl rfl (fun _ Y=>?_);have Z:=St.init w;refine ai (aq ?_);refine nb Y rfl rfl Z fun b2 _ _ Zz Y Z=>?_;refine GO 5 ?_;intro _ h2;refine vf h2 7 7 fun _ Y=>?_;refine GO 2 ?_;intro _ Y;refine sv Y (av (i:=i) (sz:=3) Tryz.underlying71 aa (Y.ev rfl) (Y.ev rfl) rfl hi rfl) fun _ Y=>?_;refine sv Y (ah aa aa (Y.ev rfl) (recAt (Z.rd0 hr) hi)) fun _ Y=>?_;refine na (.agg #[.int .i64 0,.int .i64 0,.string ⟨#[]⟩]) Y rfl Z fun b5 _ _ Qa Y Z=>?_;refine sw Y Z 0 fun _ Z=>?_;refine GO 6 ?_;intro _ Y;refine sv Y (pN (Y.ev rfl) (Y.ev rfl)) fun _ Y=>?_;refine GO 5 ?_;intro _ Y;apply aL Y (fA 8) _ aa
 case h=>
  refine GO 3 ?_;intro _ Y;refine gm Y rfl (fun X hX=>aO _ _ _) fun _ Y=>?_;refine GO 5 ?_;intro _ Y;refine aS fun _ Zf Zo=>?_;have Z:=Z.grow Zf;refine cI Y rfl (aO _ _ _) fun _ Y=>?_;refine bz Y (wn rfl) (f:=fun b=>.slice (some ⟨b,0,none⟩) 2 2) (aX Tryz.underlying214 aa aa (Y.evs2 rfl) rfl rfl rfl ar ar) rfl rfl Z fun b30 _ _ Zp Y Z=>?_;refine cI Y rfl (fC (Z.at_ (i:=0) rfl)) fun _ Y=>?_;refine GO 9 ?_;intro _ Y;refine ak (Y.ev rfl) (fun Za=>?_) (fun Za=>?_)
  ·
   refine GO 8 ?_;intro _ Y;refine aF Y rfl rfl ?_;refine⟨?_,Z.below⟩;rw[BD] at Za ⊢
   congr 2
   unfold ed;simp only[bne_iff_ne,ne_eq] at Za
   split
   · rfl
   · rename_i h
     rw[if_neg h] at Za
     split
     · rfl
     · rename_i h2;rw[if_neg h2] at Za;exact absurd rfl Za
  ·
   rw[BD] at Za
   have hsz:r.rs[i].b.size≠0∧¬3000<r.rs[i].b.size:=by
    simp only[bne_eq_false_iff_eq] at Za
    split at Za
    · cases Za
    · split at Za
      · cases Za
      · exact⟨by assumption,by assumption⟩
   refine GO 7 ?_;intro _ Y;refine vf Y 0 1 fun _ Y=>?_;refine GO 1 ?_;intro _ Y;refine cI Y rfl (bY _ _ _ _) fun _ Y=>?_;refine cI Y rfl (aO _ _ _) fun _ Y=>?_;refine GO 10 ?_;intro _ Y;refine ak (Y.ev rfl) (fun Zg=>?_) (fun Zg=>?_)
   ·
    refine GO 3 ?_;intro _ Y;refine vf Y 2 3 fun _ Y=>?_;refine GO 11 ?_;intro _ Y;apply aZ Y Z 51 rfl 3 54
    case ht=>
     intro Zh;refine GO 3 ?_;intro _ Y;exact ae ⟨Y.midE 2,Z⟩
    case hf=>
     intro Zh;refine GO 3 ?_;intro _ Y;exact ae ⟨Y.midE 2,Z⟩
    case h=>
     rintro a56 Qb ⟨Qc,Zi⟩
     refine GO 1 ?_;intro _ Y;apply aZ Y Zi 55 rfl 5 60
     case ht=>
      intro Zc;refine GO 2 ?_;intro _ Y;refine sy Y (kP (Y.ev rfl) (Y.ev rfl) (by rw[Bool.and_eq_true,decide_eq_true_eq] at Zc;omega)) fun _ Y=>?_;refine GO 2 ?_;intro _ Y;exact ae ⟨Y.midE 4,Zi⟩
     case hf=>
      intro Zc;refine GO 5 ?_;intro _ Y;exact ae ⟨Y.midE 4,Zi⟩
     case h=>
      rintro a68 Qd ⟨Zq,Zr⟩
      refine cI Zq rfl (aO _ _ _) fun _ Y=>?_;refine GO 1 ?_;intro _ Y;refine bz Y (wn rfl) (f:=fun b=>.slice (some ⟨b,0,none⟩) 2 2) (aX Tryz.underlying214 aa aa (Y.evs2 rfl) rfl rfl rfl ar ar) rfl rfl Zr fun b63 _ _ Zs Y Z=>?_;refine cI Y rfl (fC (Z.at_ (i:=0) rfl)) fun _ Y=>?_;refine GO 5 ?_;intro _ Y;refine aF Y rfl rfl ?_;refine⟨?_,Z.below⟩
      have hi0:i=0:=by simp only[beq_iff_eq] at Zg;omega
      have hbf:cn r.rs i=none:=by unfold cn;rw[if_pos hi0]
      rw[hbf,tp hsz.1 hsz.2]
   ·
    have hi0:i≠0:=by simp only[beq_eq_false_iff_ne] at Zg;omega
    have hi1:i-1<r.rs.length:=by omega
    have hbf:cn r.rs i=some r.rs[i-1]:=by unfold cn;rw[if_neg hi0,List.getElem?_eq_getElem hi1]
    have hy:=hb _ hbf;have hbd:=hy.bd;refine wp_skip (ag (ai (aq ?_)));refine vf Y 7 7 fun _ Y=>?_;refine GO 3 ?_;intro _ Y;refine sv Y (av (i:=i-1) (sz:=3) Tryz.underlying71 aa (Y.ev rfl) (Y.ev rfl) ab ab rfl) fun _ Y=>?_;refine sv Y (ah aa aa (Y.ev rfl) (recAt (Z.rd0 hr) hi1)) fun _ Y=>?_;refine na (.agg #[.int .i64 0,.int .i64 0,.string ⟨#[]⟩]) Y rfl Z fun b10 _ _ Zt Y Z=>?_;refine sw Y Z 0 fun _ Z=>?_;refine pb ?_;refine sv Y (ah aa aa (Y.ev rfl) (Z.cellsAll (i:=0) rfl)) fun _ Y=>?_;refine cT Y rfl Z (jB _ _ hy.1 (by have:=hy.2.1;omega) (by have:=hy.2.2;omega)) fun _ _ Y Z=>?_;refine GO 11 ?_;intro _ Y;apply bn Y Z 78 rfl 10 88
    case hf=>
     intro Zj;refine GO 6 ?_;intro _ Y;apply aZ Y Z 84 rfl 3 87
     case ht=>
      intro Zd;refine GO 1 ?_;intro _ Y;refine bN Y (aj Y _ rfl rfl rfl Zd) (ax a8 (Y.evs rfl) rfl) rfl rfl (jA _ _) fun _ Y=>?_;refine GO 1 ?_;intro _ Y;exact ae ⟨Y.midE 2,Z⟩
     case hf=>
      intro Zd;refine GO 3 ?_;intro _ Y;exact ae ⟨Y.midE 2,Z⟩
     case h=>
      rintro a103 Zu ⟨Zv,Zk⟩
      refine GO 1 ?_;intro _ Y;exact ae ⟨Y.midE 7,Zk⟩
    case ht=>
     intro Zj;refine GO 6 ?_;intro _ Y;refine bK Y (az Y _ rfl rfl rfl) rfl rfl fun _ Y=>?_;refine bK Y (az Y _ rfl rfl rfl) rfl rfl fun _ Y=>?_;refine GO 2 ?_;intro _ Y;exact ae ⟨Y.midE 9,Z⟩
    case h=>
     rintro a115 Zw ⟨Zx,Zb⟩
     refine GO 9 ?_;intro _ Y;apply bn Y Zb 92 rfl 5 97
     case hf=>
      intro Ze;refine GO 2 ?_;intro _ Y;refine bN Y (aj Y _ rfl rfl rfl Ze) (ax a8 (Y.evs rfl) rfl) rfl rfl (qw _ _ hbd.1 ab) fun _ Y=>?_;refine GO 2 ?_;intro _ Y;exact ae ⟨Y.midE 4,Zb⟩
     case ht=>
      intro Ze;refine GO 5 ?_;intro _ Y;exact ae ⟨Y.midE 4,Zb⟩
     case h=>
      rintro a131 Zy ⟨Zl,Zm⟩
      refine cI Zl rfl (aO _ _ _) fun _ Y=>?_;refine GO 2 ?_;intro _ Y;refine cI Y rfl (aO _ _ _) fun _ Y=>?_;refine bz Y (wn rfl) (f:=fun b=>.slice (some ⟨b,0,none⟩) 3 3) (aX Tryz.underlying214 aa aa (Y.evs2 rfl) rfl rfl rfl ar ar) rfl rfl Zm fun b102 _ _ Zn Y Z=>?_;refine cI Y rfl (ep (Z.at_ (i:=0) rfl)) fun _ Y=>?_;refine GO 4 ?_;intro _ Y;refine aF Y rfl rfl ?_;refine⟨?_,Z.below⟩;rw[hbf,wG hsz.1 hsz.2 hx hbd.1 ab]
 case hB=>kernel_rfl
 case hst=>rfl
open Go.RowKit Go.Sort
theorem jK {l:List RecP} (h:l≠[]):l.getLast? = some (l[l.length-1]'(by have:=List.length_pos_iff.2 h;omega)):=by
 rw[List.getLast?_eq_getElem?,List.getElem?_eq_getElem]
theorem uT (r:RngP) (A:Option Addr) (c:Nat) (w:World) (hr:Rd w w.heap.size A (cj r.rs)) (hb:∀y,r.rs.getLast? = some y→Bfr y) (ho:r.rs=[]∨(1≤r.r.o∧r.r.o≤100000000)) (hlen:r.rs.length≤1000) :
 Calls Tryz.prog 168 #[cQ r A c] w fun e w'=>e=.returned (.tuple #[.int .i64 (fH r).1,.int .i64 (fH r).2])∧Below w.heap.size w w':=by
 refine ao (N:=29) Tryz.func168 rfl rfl rfl (fun _ Y=>?_);have Z:=St.init w;refine ai (aq ?_);refine nb Y rfl rfl Z fun b1 _ _ Zb Y Z=>?_;refine GO 7 ?_;intro _ Y;refine vf Y 7 7 fun _ Y=>?_;refine GO 5 ?_;intro _ Y;refine ak (Y.ev rfl) (fun Za=>?_) (fun Za=>?_)
 ·
  have hnil:r.rs=[]:=by simp only[beq_iff_eq] at Za;exact List.eq_nil_of_length_eq_zero ab
  refine GO 8 ?_;intro _ Y;refine bW Y rfl rfl rfl ?_;exact⟨by unfold fH;rw[hnil];rfl,Z.below⟩
 ·
  have hne:r.rs≠[]:=by intro h;rw[h] at Za;simp at Za
  replace ho:=ho.resolve_left hne;have hpos:=List.length_pos_iff.2 hne;have hlast:=jK hne;have hy:=hb _ hlast;have hbd:=hy.bd;obtain⟨b,o,rfl,hB,_⟩:=hr.opened (by rw[bE];omega);refine GO 5 ?_;intro _ Y;refine vf Y 2 3 fun _ Y=>?_;refine GO 2 ?_;intro _ Y;refine sv Y (qm (Y.ev rfl) (Y.ev rfl) ab) fun _ Y=>?_;refine GO 6 ?_;intro _ Y;refine vf Y 7 7 fun _ Y=>?_;refine GO 1 ?_;intro _ Y;refine vf Y 7 7 fun _ Y=>?_;refine GO 3 ?_;intro _ Y;refine sv Y (av (i:=r.rs.length-1) (sz:=3) Tryz.underlying71 aa (Y.ev rfl) (Y.ev rfl) ab ab rfl) fun _ Y=>?_;refine sv Y (ah aa aa (Y.ev rfl) (recAt (Z.rd0 hr) ab)) fun _ Y=>?_;refine cT Y rfl Z (jB (r.rs[r.rs.length-1]) _ hy.1 (by have:=hy.2.1;omega) (by have:=hy.2.2;omega)) fun _ _ Y Z=>?_;refine GO 1 ?_;intro _ Y;refine sv Y (qm (Y.ev rfl) (Y.ev rfl) ab) fun _ Y=>?_;refine GO 8 ?_;intro _ Y;refine bW Y rfl rfl rfl ?_;exact⟨by unfold fH;rw[hlast],Z.below⟩
theorem rR (r:RngP) (A:Option Addr) (c:Nat) (w:World) (hr:Rd w w.heap.size A (cj r.rs)) (hb:∀y,r.rs.getLast? = some y→Bfr y) (ho:0≤r.r.o∧r.r.o≤100000000) (hn:0≤r.nx∧r.nx≤100000000) (hlen:r.rs.length≤1000) :
 Calls Tryz.prog 169 #[cQ r A c] w fun e w'=>e=.returned (.int .i64 (fz r))∧Below w.heap.size w w':=by
 have htm:r.nx.tmod 448=r.nx % 448:=Int.tmod_eq_emod_of_nonneg hn.1;refine ao (N:=59) Tryz.func169 rfl rfl rfl (fun _ Y=>?_);have Z:=St.init w;refine ai (aq ?_);refine nb Y rfl rfl Z fun b1 _ _ Zj Y Z=>?_;refine GO 5 ?_;intro _ Y;refine vf Y 7 7 fun _ Y=>?_;refine GO 12 ?_;intro _ Y;refine ak (Y.ev rfl) (fun Zd=>?_) (fun Zd=>?_)
 ·
  have hnil:r.rs=[]:=by simp only[beq_iff_eq] at Zd;exact List.eq_nil_of_length_eq_zero ab
  refine ai (aq ?_);refine vf Y 8 8 fun _ Y=>?_;refine GO 2 ?_;intro _ Y;refine vf Y 2 3 fun _ Y=>?_;refine GO 4 ?_;intro _ Y;apply aZ Y Z 19 rfl 4 23
  case ht=>
   intro Za;refine sy Y (fx 8 8 (Y.ev rfl)) fun _ Y=>?_;refine GO 1 ?_;intro _ Y;refine bN Y (aj Y _ rfl rfl rfl Za) (ax a8 (Y.evs rfl) rfl) rfl rfl (jA _ _) fun _ Y=>?_;refine GO 1 ?_;intro _ Y;exact ae ⟨Y.midE 3,Z⟩
  case hf=>
   intro Za;refine GO 4 ?_;intro _ Y;exact ae ⟨Y.midE 3,Z⟩
  case h=>
   rintro a25 Zk ⟨Zg,Zh⟩
   refine cI Zg rfl (aO _ _ _) fun _ Y=>?_;refine GO 5 ?_;intro _ Y;refine aF Y rfl rfl ?_;exact⟨by unfold fz;rw[hnil,htm];rfl,Zh.below⟩
 ·
  have hne:r.rs≠[]:=by intro h;rw[h] at Zd;simp at Zd
  have hpos:=List.length_pos_iff.2 hne;have hlast:=jK hne;have hy:=hb _ hlast;have hbd:=hy.bd;obtain⟨b,o,rfl,hB,_⟩:=hr.opened (by rw[bE];omega);refine wp_skip (ag (ai (aq ?_)));refine vf Y 7 7 fun _ Y=>?_;refine GO 3 ?_;intro _ Y;refine sv Y (av (i:=r.rs.length-1) (sz:=3) Tryz.underlying71 aa (Y.ev rfl) (Y.ev rfl) ab ab rfl) fun _ Y=>?_;refine sv Y (ah aa aa (Y.ev rfl) (recAt (Z.rd0 hr) ab)) fun _ Y=>?_;refine na (.agg #[.int .i64 0,.int .i64 0,.string ⟨#[]⟩]) Y rfl Z fun b4 _ _ Zl Y Z=>?_;refine sw Y Z 0 fun _ Z=>?_;refine pb ?_;refine sv Y (ah aa aa (Y.ev rfl) (Z.cellsAll (i:=0) rfl)) fun _ Y=>?_;refine cT Y rfl Z (jB (r.rs[r.rs.length-1]) _ hy.1 (by have:=hy.2.1;omega) (by have:=hy.2.2;omega)) fun _ _ Y Z=>?_;refine GO 4 ?_;intro _ Y;apply aL Y (fA 24) _ aa
  case h=>
   refine qv Y (fun X hX=>fx 8 8 (Y.ev rfl)) fun _ Y=>?_;refine GO 4 ?_;intro _ Y;apply fh Y 37 rfl 6 43
   case hf=>
    intro Zb;refine qy Y (fun X hX=>(fx 8 8 (Y.ev rfl))) fun _ Y=>?_;refine GO 2 ?_;intro _ Y;refine l5 Y (aj Y _ rfl rfl rfl Zb) rfl rfl (fun X=>(ax a8 (Y.evs rfl) rfl)) (fun X hX=>qw _ _ hbd.1 ab) fun _ Y=>?_;refine GO 2 ?_;intro _ Y;exact aw (Y.midE 5)
   case ht=>
    intro Zb;refine GO 6 ?_;intro _ Y;exact aw (Y.midE 5)
   case h=>
    intro _ Y;refine GO 1 ?_;intro _ Y;apply iO Y 44 rfl 12 56
    case ht=>
     intro Ze;refine GO 3 ?_;intro _ Y;refine qy Y (fun X hX=>(fx 0 1 (Y.ev rfl))) fun _ Y=>?_;refine GO 3 ?_;intro _ Y;apply fh Y 51 rfl 4 55
     case hf=>
      intro Zc;refine qy Y (fun X hX=>(fx 8 8 (Y.ev rfl))) fun _ Y=>?_;refine GO 1 ?_;intro _ Y;refine l5 Y (aj Y _ rfl rfl rfl Zc) rfl rfl (fun X=>(ax a8 (Y.evs rfl) rfl)) (fun X hX=>jA _ _) fun _ Y=>?_;refine GO 1 ?_;intro _ Y;exact aw (Y.midE 3)
     case ht=>
      intro Zc;refine GO 4 ?_;intro _ Y;exact aw (Y.midE 3)
     case h=>
      intro _ Y;refine GO 1 ?_;intro _ Y;exact aw (Y.midE 8)
    case hf=>
     intro Ze;refine GO 7 ?_;intro _ Y;refine jW Y (az Y _ rfl rfl rfl) rfl rfl fun _ Y=>?_;refine jW Y (az Y _ rfl rfl rfl) rfl rfl fun _ Y=>?_;refine jW Y (az Y _ rfl rfl rfl) rfl rfl fun _ Y=>?_;refine GO 2 ?_;intro _ Y;exact aw (Y.midE 11)
    case h=>
     intro _ Y;refine aw ?_;refine aS fun _ Zf Zi=>?_;have Z:=Z.grow Zf;refine GO 6 ?_;intro _ Y;refine cI Y rfl (aO _ _ _) fun _ Y=>?_;refine GO 4 ?_;intro _ Y;refine aF Y rfl rfl ?_;exact⟨by unfold fz;rw[hlast,htm],Z.below⟩
  case hB=>kernel_rfl
  case hst=>rfl
def tT (g:RecP→Bool) (l:List RecP):Int:=match l.findIdx? g with | some i=>i | none=>-1
theorem yB {g:RecP→Bool} {l:List RecP} {j:Nat} (h:j<l.length) (h1:g l[j]=true) (h2:∀k (hk:k<l.length),k<j→g l[k]=false):tT g l=j:=by
 unfold tT;rw[List.findIdx?_eq_some_iff_getElem.2 ⟨h,h1,fun k hk=>by rw[h2 k ab hk];simp⟩]
theorem uX {g:RecP→Bool} {l:List RecP} (h2:∀k (hk:k<l.length),g l[k]=false):tT g l = -1:=by
 unfold tT;rw[List.findIdx?_eq_none_iff.2 (fun x hx=>by obtain⟨k,hk,rfl⟩:=List.getElem_of_mem hx;exact h2 k hk)]
theorem yE (g:RecP→Bool) (l:List RecP):decide (tT g l≥0)=l.any g:=by
 unfold tT
 cases h:l.findIdx? g with
 | none=>
  rw[List.findIdx?_eq_none_iff] at h
  have:l.any g=false:=by rw[List.any_eq_false];intro x hx;rw[h x hx];simp
  rw[this];rfl
 | some i=>
  rw[List.findIdx?_eq_some_iff_getElem] at h;obtain⟨h1,h2,_⟩:=h;have:l.any g=true:=List.any_eq_true.2 ⟨l[i],List.getElem_mem h1,h2⟩;rw[this];simp
theorem lh (g:RecP→Bool) (l:List RecP) (A:Option Addr) (c:Nat) (f:FuncId) (cap:List Value) (w:World) (hr:Rd w w.heap.size A (cj l)) (hlen:l.length≤1000) (hfc:∀(vs:Array Value) (W:World),(callFunc f vs).run Tryz.prog W=.ok (.enter f vs) W)
 (hcl:∀X,Below w.heap.size w X→∀x∈l,Calls Tryz.prog f ([pS x] ++ cap).toArray X fun e X'=>e=.returned (.bool (g x))∧Below X.heap.size X X') :
 Calls Tryz.prog 231 #[.slice A l.length c,.func (.func f) #[] cap.toArray] w fun e w'=>e=.returned (.int .i64 (tT g l))∧Below w.heap.size w w':=by
 refine ao (N:=19) Tryz.func231 rfl rfl rfl (fun _ Y=>?_);have Z:=St.init w;refine GO 14 ?_;intro _ Y;refine aY Y Z [7,0,1] (fun (j:Nat)=>[(8,.int .i64 j)]) (fun (j:Nat)=>j≤l.length∧∀k (hk:k<l.length),k<j→g l[k]=false) (fun (j:Nat) L=>L) (fun (j:Nat)=>l.length-j) (0) (⟨Nat.zero_le _,fun k _ h=>by omega⟩) bD (Z) ?_;intro j _ _ Za Y Z;refine GO 6 ?_;intro _ Y;refine ak (Y.ev rfl) (fun Zb=>?_) (fun Zb=>?_)
 ·
  have hlt:j<l.length:=by have:=of_decide_eq_true Zb;omega
  obtain⟨b,o,rfl,hB,_⟩:=hr.opened (by rw[bE];omega);refine GO 15 ?_;intro _ Y;refine sv Y (av (i:=j) (sz:=3) Tryz.underlying71 aa (Y.ev rfl) (Y.ev rfl) ab ab rfl) fun _ Y=>?_;refine sv Y (ah aa aa (Y.ev rfl) (recAt (Z.rd0 hr) hlt)) fun _ Y=>?_;refine dp Y (wn rfl) (cF hfc (Y.ev rfl) (Y.evs rfl) rfl) rfl rfl Z (hcl _ Z.below l[j] (List.getElem_mem _)) fun _ _ Y Z=>?_;refine ae (ag ?_);refine ak (Y.ev rfl) (fun Zc=>?_) (fun Zc=>?_)
  ·
   refine GO 12 ?_;intro _ Y;refine aF Y rfl rfl ?_;exact⟨by rw[yB hlt Zc Za.2],Z.below⟩
  ·
   refine GO 8 ?_;intro _ Y;exact⟨j+1,by omega,⟨hlt,fun k hk h=>(Nat.lt_or_ge k j).elim (fun q=>Za.2 k hk q) (fun q=>by(obtain rfl:k=j:=by omega);exact Zc)⟩,Y.re bD,Z⟩
 ·
  have hge:l.length≤j:=by have:=of_decide_eq_false Zb;omega
  refine GO 11 ?_;intro _ Y;refine aF Y rfl rfl ?_;exact⟨by rw[uX (fun k hk=>Za.2 k hk ab)],Z.below⟩
theorem lM (g:RecP→Bool) (l:List RecP) (A:Option Addr) (c:Nat) (f:FuncId) (cap:List Value) (w:World) (hr:Rd w w.heap.size A (cj l)) (hlen:l.length≤1000) (hfc:∀(vs:Array Value) (W:World),(callFunc f vs).run Tryz.prog W=.ok (.enter f vs) W)
 (hcl:∀X,Below w.heap.size w X→∀x∈l,Calls Tryz.prog f ([pS x] ++ cap).toArray X fun e X'=>e=.returned (.bool (g x))∧Below X.heap.size X X') :
 Calls Tryz.prog 223 #[.slice A l.length c,.func (.func f) #[] cap.toArray] w fun e w'=>e=.returned (.bool (l.any g))∧Below w.heap.size w w':=by
 refine ao (N:=9) Tryz.func223 rfl rfl rfl (fun _ Y=>?_);have Z:=St.init w;refine GO 9 ?_;intro _ Y;refine cT Y rfl Z (lh g l A c f cap _ (Z.rd0 hr) hlen hfc (fun X hX x hx=>hcl X (kL Z.below hX) x hx)) fun _ _ Y Z=>?_;refine GO 5 ?_;intro _ Y;refine aF Y rfl rfl ?_;exact⟨by rw[←yE],Z.below⟩
theorem zn (x:RecP) (n:Int) (b:Nat) (T:TypeId) (w:World) (hb:Box w b #[.int .i64 n] T) :
 Calls Tryz.prog 224 #[pS x,.pointer (some ⟨b,0,none⟩)] w fun e w'=>e=.returned (.bool (x.l==n))∧Below w.heap.size w w':=by
 refine ao (N:=8) Tryz.func224 rfl rfl rfl (fun _ Y=>?_);have Z:=St.init w;refine ai (aq ?_);refine nb Y rfl rfl Z fun b2 _ _ Za Y Z=>?_;refine GO 7 ?_;intro _ Y;refine sv Y (lx (Y.ev rfl) (qS (hb.below Z.below) rfl)) fun _ Y=>?_;refine GO 5 ?_;intro _ Y;refine aF Y rfl rfl ?_;exact⟨rfl,Z.below⟩
theorem z8 (l:List RecP) (A:Option Addr) (c:Nat) (n f:Int) (w:World) (hr:Rd w w.heap.size A (cj l)) (hlen:l.length≤1000) :
 Calls Tryz.prog 170 #[.slice A l.length c,.int .i64 n,.int .i64 f] w fun e w'=>e=.returned (.bool (decide (n≥f)&&n9 l n))∧Below w.heap.size w w':=by
 refine ao (N:=15) Tryz.func170 rfl rfl rfl (fun _ Y=>?_);have Z:=St.init w;refine ai (aq ?_);refine nb Y rfl rfl Z fun b4 _ _ Zc Y Z=>?_;refine GO 9 ?_;intro _ Y;apply aZ Y Z 10 rfl 4 14
 case ht=>
  intro Za;refine GO 1 ?_;intro _ Y;refine sy Y (eU (Y.evs rfl) (Y.evs rfl)) fun _ Y=>?_;refine dp Y (aj Y _ rfl rfl rfl Za) (ax a8 (Y.evs rfl) rfl) rfl rfl Z (lM (fun x=>x.l==n) l A c 224 [.pointer (some ⟨b4,0,none⟩)] _ (Z.rd0 hr) hlen a8 (fun X hX x _=>zn x n b4 _ X (Box.below (Z.at_ (i:=0) rfl) hX))) fun _ _ Y Z=>?_;refine GO 1 ?_;intro _ Y;exact ae ⟨Y.midE 3,Z⟩
 case hf=>
  intro Za;refine GO 4 ?_;intro _ Y;exact ae ⟨Y.midE 3,Z⟩
 case h=>
  rintro a15 Zd ⟨Ze,Zb⟩
  refine GO 4 ?_;intro _ Y;refine aF Y rfl rfl ?_;exact⟨rfl,Zb.below⟩
open Go.RowKit Go.Sort
theorem si (g:Nat→RecP→Int) (l:List RecP) (A:Option Addr) (c:Nat) (f:FuncId) (cap:List Value) (w:World) (hr:Rd w w.heap.size A (cj l)) (hlen:l.length≤1000) (hfc:∀(vs:Array Value) (W:World),(callFunc f vs).run Tryz.prog W=.ok (.enter f vs) W)
 (hcl:∀X,Below w.heap.size w X→∀(k:Nat) (hk:k<l.length),(∀m (hm:m<l.length),m<k→g m l[m]=0)→Calls Tryz.prog f ([.int .i64 k,pS l[k]] ++ cap).toArray X fun e X'=>e=.returned (.int .i64 (g k l[k]))∧Below X.heap.size X X') :
 Calls Tryz.prog 165 #[.slice A l.length c,.func (.func f) #[] cap.toArray] w fun e w'=>e=.returned (.tuple #[.int .i64 (cH g 0 l).1,.int .i64 (cH g 0 l).2])∧Below w.heap.size w w':=by
 refine ao (N:=25) Tryz.func165 rfl rfl rfl (fun _ Y=>?_);have Z:=St.init w;refine GO 3 ?_;intro _ Y;refine GO 6 ?_;intro _ Y;refine GO 6 ?_;intro _ Y;refine aY Y Z [10,9,1] (fun (j:Nat)=>[(11,.int .i64 j)]) (fun (j:Nat)=>j≤l.length∧∀k (hk:k<l.length),k<j→g k l[k]=0) (fun (j:Nat) L=>L) (fun (j:Nat)=>l.length-j) (0) (⟨Nat.zero_le _,fun k _ h=>by omega⟩) bD (Z) ?_;intro j _ _ Za Y Z;refine GO 6 ?_;intro _ Y;refine ak (Y.ev rfl) (fun Zb=>?_) (fun Zb=>?_)
 ·
  have hlt:j<l.length:=by have:=of_decide_eq_true Zb;omega
  obtain⟨b,o,rfl,hB,_⟩:=hr.opened (by rw[bE];omega);refine GO 7 ?_;intro _ Y;refine sv Y (av (i:=j) (sz:=3) Tryz.underlying71 aa (Y.ev rfl) (Y.ev rfl) ab ab rfl) fun _ Y=>?_;refine sv Y (ah aa aa (Y.ev rfl) (recAt (Z.rd0 hr) hlt)) fun _ Y=>?_;refine na (.agg #[.int .i64 0,.int .i64 0,.string ⟨#[]⟩]) Y rfl Z fun b7 _ _ Zd Y Z=>?_;refine GO 1 ?_;intro _ Y;refine sw Y Z 0 fun _ Z=>?_;refine GO 6 ?_;intro _ Y;refine sv Y (ah aa aa (Y.ev rfl) (Z.cellsAll (i:=0) rfl)) fun _ Y=>?_;refine dp Y (wn rfl) (cF hfc (Y.ev rfl) (Y.evs rfl) rfl) rfl rfl Z (hcl _ Z.below j hlt Za.2) fun _ _ Y Z=>?_;refine GO 9 ?_;intro _ Y;refine ak (Y.ev rfl) (fun Zc=>?_) (fun Zc=>?_)
  ·
   refine GO 14 ?_;intro _ Y;refine bW Y rfl rfl rfl ?_
   have Y:g j l[j]≠0:=by simpa using Zc
   have Y:=cX g l 0 j hlt (fun k hk h=>by rw[Nat.zero_add];exact Za.2 k hk h) (by rw[Nat.zero_add];exact Y);exact⟨by rw[Y,Nat.zero_add],Z.below⟩
  ·
   refine GO 8 ?_;intro _ Y;exact⟨j+1,by omega,⟨hlt,fun k hk h=>(Nat.lt_or_ge k j).elim (fun q=>Za.2 k hk q) (fun q=>by(obtain rfl:k=j:=by omega);simpa using Zc)⟩,Y.re bD,Z.sub (.cons _ .slnil)⟩
 ·
  have hge:l.length≤j:=by have:=of_decide_eq_false Zb;omega
  refine GO 12 ?_;intro _ Y;refine bW Y rfl rfl rfl ?_;exact⟨by rw[cU g l 0 (fun k hk=>by rw[Nat.zero_add];exact Za.2 k hk ab)],Z.below⟩
def CR (r:RngP) (A:Option Addr) (c:Nat):List Value:=[.int .i64 r.pg,.int .i64 r.r.s,.int .i64 r.r.c,.int .i64 r.r.o,.int .i64 r.e.s,.int .i64 r.e.c,.int .i64 r.e.o,.slice A r.rs.length c,.int .i64 r.nx]
theorem xJ (r:RngP) (A:Option Addr) (c i:Nat) (b:Nat) (T:TypeId) (w:World) (hbx:Box w b (CR r A c).toArray T) (hr:Rd w w.heap.size A (cj r.rs)) (hi:i<r.rs.length) (hx:I6 r.rs[i].l) (hb:∀y,cn r.rs i=some y→Bfr y) (ho:0≤r.r.o∧r.r.o≤100000000) (hlen:r.rs.length≤1000) :
 Calls Tryz.prog 166 #[.int .i64 i,pS r.rs[i],.pointer (some ⟨b,0,none⟩)] w fun e w'=>e=.returned (.int .i64 (ed r.r.o r.r.s (cn r.rs i) r.rs[i]))∧Below w.heap.size w w':=by
 refine ao (N:=9) Tryz.func166 rfl rfl rfl (fun _ Y=>?_);have Z:=St.init w;refine ai (aq ?_);refine nb Y rfl rfl Z fun b4 _ _ Za Y Z=>?_;refine GO 5 ?_;intro _ Y;refine sv Y (ah aa aa (Y.ev rfl) (AA (hbx.below Z.below))) fun _ Y=>?_;refine GO 1 ?_;intro _ Y;refine cT Y rfl Z (nS r A c i _ (Z.rd0 hr) hi hx hb ho hlen) fun _ _ Y Z=>?_;refine GO 4 ?_;intro _ Y;refine aF Y rfl rfl ?_;exact⟨rfl,Z.below⟩
theorem lY (x y:RstP):kZ [.int .i64 x.s,.int .i64 x.c,.int .i64 x.o] [.int .i64 y.s,.int .i64 y.c,.int .i64 y.o]=decide (x=y):=by
 obtain⟨a,b,c⟩:=x;obtain⟨a',b',c'⟩:=y;rw[Bool.eq_iff_iff,decide_eq_true_eq,RstP.mk.injEq];simp[kZ,sT]
theorem Cj (r:RngP) (ho:r.r.o≤100000000) (hlen:r.rs.length≤1000) (k:Nat) (hk:k<r.rs.length) (h:∀m (hm:m<r.rs.length),m<k→ed r.r.o r.r.s (cn r.rs m) r.rs[m]=0):∀y,cn r.rs k=some y→Bfr y:=by
 intro y hy
 cases k with
 | zero=>simp[cn] at hy
 | succ k=>
  rw[o4 hk] at hy;injection hy with hy;subst hy;obtain⟨h1,h2,h3⟩:=lX r ho k ab fun m hm hmk=>h m hm ab;exact⟨h1,by omega,h3⟩
theorem rZ (r:RngP) (ho:r.r.o≤100000000) (hlen:r.rs.length≤1000) (h:∀m (hm:m<r.rs.length),ed r.r.o r.r.s (cn r.rs m) r.rs[m]=0):∀y,r.rs.getLast? = some y→Bfr y:=by
 intro y hy;rcases Nat.eq_zero_or_pos r.rs.length with h0 | h0
 · rw[List.eq_nil_of_length_eq_zero h0] at hy;cases hy
 · rw[List.getLast?_eq_getElem?,List.getElem?_eq_getElem ab] at hy
   injection hy with hy;subst hy;obtain⟨h1,h2,h3⟩:=lX r ho (r.rs.length-1) ab fun m hm _=>h m hm;exact⟨h1,by omega,h3⟩
theorem xA (r:RngP) (h:∀m (hm:m<r.rs.length),ed r.r.o r.r.s (cn r.rs m) r.rs[m]=0):r.rs=[]∨1≤r.r.o:=by
 rcases Nat.eq_zero_or_pos r.rs.length with h0 | h0
 · exact .inl (List.eq_nil_of_length_eq_zero h0)
 · right
   have h1:=(recE_zero.1 (h 0 h0)).2.2.1;unfold cn gB at h1;simp only[if_true,Bool.and_eq_true,beq_iff_eq,decide_eq_true_eq] at h1;omega
theorem nX (r:RngP) (A:Option Addr) (c:Nat) (w:World) (hr:Rd w w.heap.size A (cj r.rs)) (hlen:r.rs.length≤1000) (hx:∀x∈r.rs,I6 x.l) :
 Calls Tryz.prog 105 #[cQ r A c] w fun e w'=>e=.returned (.tuple #[.int .i64 (dq r).1,.int .i64 (dq r).2])∧Below w.heap.size w w':=by
 refine ao (N:=96) Tryz.func105 rfl rfl rfl (fun _ Y=>?_);have Z:=St.init w;refine ai (aq ?_);refine nb Y rfl rfl Z fun b1 _ _ Zs h1 Z=>?_;refine GO 1 ?_;intro _ h2;refine GO 4 ?_;intro _ Y;apply aL Y (fA 5) _ aa
 case h=>
  refine GO 1 ?_;intro _ Y;refine GO 1 ?_;intro _ h5;refine gm h5 rfl (fun X hX=>pU _ _) fun _ Y=>?_;refine GO 1 ?_;intro _ Y;refine qv Y (fun X hX=>ah aa aa (Y.ev rfl) ((Z.grow hX).cellsOf (i:=0) rfl 1 3)) fun _ Y=>?_;refine aw ?_;refine aS fun _ Zl Zt=>?_;have Z:=Z.grow Zl;refine cT Y rfl Z (lE r.r _) fun _ _ Y Z=>?_;refine bz Y (wn rfl) (f:=fun b=>.slice (some ⟨b,0,none⟩) 2 2) (aX Tryz.underlying214 aa aa (Y.evs2 rfl) rfl rfl rfl ar ar) rfl rfl Z fun b15 _ _ Zm Y Za=>?_;refine cI Y rfl (fC (Za.at_ (i:=0) rfl)) fun _ Y=>?_;refine GO 6 ?_;intro _ Y;refine vf Y 4 4 fun _ Y=>?_;refine sv Y (ah aa aa (Y.ev rfl) (Za.cellsOf (i:=1) rfl 4 3)) fun _ Y=>?_;refine sv Y (ay (zs:=[.int .i64 0,.int .i64 0,.int .i64 0]) (pl:=[(0,1),(1,1),(2,1)]) aa aa (Y.evs2 rfl) rfl rfl) fun _ Y=>?_;refine sv Y (l6 (ks:=[.i .i64,.i .i64,.i .i64]) aa Tryz.underlying70 aa (Y.ev rfl) (Y.ev rfl) rfl rfl) fun _ Zb=>?_;refine ae (ag ?_);refine dN Zb Za [(4,.int .i64 (au [iy r.pg,eN r.r,iu r]))] [3,2,1] ?_ (fun _ _ Y Z=>?_)
  ·
   refine ak (Zb.ev rfl) (fun Zf=>?_) (fun Zf=>?_)
   ·
    apply aL Zb (fA 13) _ aa
    case h=>
     refine GO 1 ?_;intro _ Y;refine qv Y (fun X hX=>fx 4 4 (Y.ev rfl)) fun _ Y=>?_;refine qv Y (fun X hX=>ah aa aa (Y.ev rfl) ((Za.grow hX).cellsOf (i:=1) rfl 4 3)) fun _ Y=>?_;refine nF Y rfl (fun X hX=>lE r.e _) fun _ Y=>?_;refine qv Y (fun X hX=>fx 4 4 (Y.ev rfl)) fun _ Y=>?_;refine qv Y (fun X hX=>fx 0 4 (Y.ev rfl)) fun _ Y=>?_;refine GO 2 ?_;intro _ Y;refine qv Y (fun X hX=>fx 0 1 (Y.ev rfl)) fun _ Y=>?_;refine GO 1 ?_;intro _ Y;refine qv Y (fun X hX=>pN (Y.ev rfl) (Y.ev rfl)) fun _ Y=>?_;refine GO 1 ?_;intro _ Y;refine gm Y rfl (fun X hX=>aO _ _ _) fun _ Y=>?_;refine aw ?_;refine aS fun _ Zg Zn=>?_;have Z:=Za.grow Zg;refine bz Y (wn rfl) (f:=fun b=>.slice (some ⟨b,0,none⟩) 3 3) (aX Tryz.underlying214 aa aa (Y.evs2 rfl) rfl rfl rfl ar ar) rfl rfl Z fun b34 _ _ Zo Y Z=>?_;refine cI Y rfl (ep (Z.at_ (i:=0) rfl)) fun _ Y=>?_;refine GO 3 ?_;intro _ Y
     have he:r.e≠rst0:=by
      have e1:(!kZ [.int .i64 r.e.s,.int .i64 r.e.c,.int .i64 r.e.o] [.int .i64 rst0.s,.int .i64 rst0.c,.int .i64 rst0.o])=true:=Zf;rw[lY] at e1;simpa using e1
     have e2:au [au [iy r.pg,eN r.r],eN r.e,bo (r.e.s==IntKind.i64.wrap (r.r.s-1)) 9]=au [iy r.pg,eN r.r,iu r]:=by
      rw[rV];unfold iu;rw[if_neg he];simp only[au]
      by_cases h1:iy r.pg=0<;>by_cases h2:eN r.r=0<;>simp only[h1,h2,if_true,if_false]
      have Y:nY r.r=true:=by unfold eN at h2;exact(aM ar).1 h2
      have Y:=pT Y;rw[cG ab]
      by_cases h5:eN r.e=0<;>simp[h5]
     rw[e2] at Y;exact⟨Y.re bD,Z.sub (.cons _ (.cons_cons _ (.cons_cons _ .slnil)))⟩
    case hB=>kernel_rfl
    case hst=>rfl
   ·
    refine wp_skip (ag ?_)
    have he:r.e=rst0:=by
     have e1:(!kZ [.int .i64 r.e.s,.int .i64 r.e.c,.int .i64 r.e.o] [.int .i64 rst0.s,.int .i64 rst0.c,.int .i64 rst0.o])=false:=Zf;rw[lY] at e1;simpa using e1
    have e2:au [iy r.pg,eN r.r]=au [iy r.pg,eN r.r,iu r]:=by
     unfold iu;rw[if_pos he,qn]
    rw[e2] at Zb;exact⟨Zb.re bD,Za⟩
  ·
   have hd:au [au [iy r.pg,eN r.r,iu r],bo (bb r.nx 0 100000000&&r.nx % 8==0) 2,bo (decide ((r.rs.length:Int)≤100)) 8]=ez r:=by
    rw[qo];unfold ez ir;have:decide ((r.rs.length:Int)≤100)=decide (r.rs.length≤100):=decide_eq_decide.2 ab;rw[this]
   refine ag (ai ?_);apply aL Y (fA 16) _ aa
   case h=>
    refine GO 1 ?_;intro _ Y;refine qv Y (fun X hX=>fx 8 8 (Y.ev rfl)) fun _ Y=>?_;refine GO 1 ?_;intro _ Y;refine gm Y rfl (fun X hX=>bY _ _ _ _) fun _ Y=>?_;refine GO 1 ?_;intro _ Y;apply iO Y 40 rfl 5 45
    case ht=>
     intro Zc;refine qy Y (fun X hX=>(fx 8 8 (Y.ev rfl))) fun _ Y=>?_;refine GO 1 ?_;intro _ Y;refine qy Y (fun X hX=>(kP (Y.ev rfl) (Y.ev rfl) (by have:=Zc;rw[inB_true] at this;omega))) fun _ Y=>?_;refine GO 2 ?_;intro _ Y;exact aw (Y.midE 4)
    case hf=>
     intro Zc;refine GO 5 ?_;intro _ Y;exact aw (Y.midE 4)
    case h=>
     intro _ Y;refine gm Y rfl (fun X hX=>aO _ _ _) fun _ Y=>?_;refine qv Y (fun X hX=>fx 7 7 (Y.ev rfl)) fun _ Y=>?_;refine GO 3 ?_;intro _ Y;refine gm Y rfl (fun X hX=>aO _ _ _) fun _ Y=>?_;refine aw ?_;refine aS fun _ Zh Zp=>?_;have Z:=Z.grow Zh;refine bz Y (wn rfl) (f:=fun b=>.slice (some ⟨b,0,none⟩) 3 3) (aX Tryz.underlying214 aa aa (Y.evs2 rfl) rfl rfl rfl ar ar) rfl rfl Z fun b52 _ _ Zq Y Z=>?_;refine cI Y rfl (ep (Z.at_ (i:=0) rfl)) fun _ Y=>?_;refine GO 10 ?_;intro _ Y;refine ak (Y.ev rfl) (fun Zi=>?_) (fun Zi=>?_)
     ·
      have hne:ez r≠0:=by rw[←hd];simpa using Zi
      refine GO 9 ?_;intro _ Y;refine bW Y rfl rfl rfl ?_;refine⟨?_,Z.below⟩;rw[hd];unfold dq;rw[if_pos hne]
     ·
      have hz:ez r=0:=by rw[←hd];simpa using Zi
      have hH:=head_iff.1 hz;have ho:=hH.rr.2.2;have hnx:=hH.nx;have hpg:=hH.pg;refine wp_skip (ag (ai (ai (aq ?_))));refine vf Y 7 7 fun _ Y=>?_;refine GO 1 ?_;intro _ Y;refine sv Y (eU (Y.evs rfl) (Y.evs rfl)) fun _ Y=>?_;refine cT Y rfl Z (si (fun k x=>ed r.r.o r.r.s (cn r.rs k) x) r.rs A c 166 [.pointer (some ⟨b1,0,none⟩)] _ (Z.rd0 hr) hlen a8 (fun X hX k hk hz'=>xJ r A c k b1 _ X (Box.below (Z.at_ (i:=2) rfl) hX) ((Z.rd0 hr).below' hX) hk (hx _ (List.getElem_mem _)) (Cj r ho.2 hlen k hk hz') ho hlen)) fun _ _ Y Z=>?_;refine GO 13 ?_;intro _ Y;refine ak (Y.ev rfl) (fun Zj=>?_) (fun Zj=>?_)
      ·
       have hre:(lu r).2≠0:=by unfold lu;simpa using Zj
       refine GO 10 ?_;intro _ Y;refine bW Y rfl rfl rfl ?_;refine⟨?_,Z.below⟩;unfold dq;rw[if_neg (by simpa using hz),if_pos hre];rfl
      ·
       have hre:(lu r).2=0:=by unfold lu;simpa using Zj
       have hall:∀m (hm:m<r.rs.length),ed r.r.o r.r.s (cn r.rs m) r.rs[m]=0:=fun m hm=>by
        have:=jG _ _ _ hre m hm;rw[Nat.zero_add] at this;exact this
       have hlast:=rZ r ho.2 hlen hall;have ho1:r.rs=[]∨(1≤r.r.o∧r.r.o≤100000000):=(xA r hall).imp_right fun h=>⟨h,ho.2⟩;refine wp_skip (ag (ai (aq ?_)));refine sv Y (ah aa aa (Y.ev rfl) (Z.cellsAll (i:=2) rfl)) fun _ Y=>?_;refine cT Y rfl Z (uT r A c _ (Z.rd0 hr) hlast ho1 hlen) fun _ _ Y Z=>?_;refine GO 8 ?_;intro _ Y;apply aL Y (fA 20) _ aa
       case h=>
        refine qv Y (fun X hX=>ah aa aa (Y.ev rfl) ((Z.grow hX).cellsAll (i:=2) rfl)) fun _ Y=>?_;refine nF Y rfl (fun X hX=>rR r A c _ ((Z.grow hX).rd0 hr) hlast ho ⟨hnx.1,hnx.2.1⟩ hlen) fun _ Y=>?_;refine GO 1 ?_;intro _ Y;refine qv Y (fun X hX=>fx 1 2 (Y.ev rfl)) fun _ Y=>?_;refine GO 3 ?_;intro _ Y;apply fh Y 79 rfl 7 86
        case hf=>
         intro Zd;refine qy Y (fun X hX=>(fx 7 7 (Y.ev rfl))) fun _ Y=>?_;refine GO 2 ?_;intro _ Y;refine qy Y (fun X hX=>(fx 1 2 (Y.ev rfl))) fun _ Y=>?_;refine GO 1 ?_;intro _ Y;refine nh Y (aj Y _ rfl rfl rfl Zd) rfl rfl (fun X=>(ax a8 (Y.evs rfl) rfl)) (fun X hX=>z8 r.rs A c r.r.c 0 _ ((Z.grow hX).rd0 hr) hlen) fun _ Y=>?_;refine GO 1 ?_;intro _ Y;exact aw (Y.midE 6)
        case ht=>
         intro Zd;refine GO 7 ?_;intro _ Y;exact aw (Y.midE 6)
        case h=>
         intro _ Y;refine gm Y rfl (fun X hX=>aO _ _ _) fun _ Y=>?_;refine GO 6 ?_;intro _ Y;refine aS fun _ Ze Zk=>?_;have Z:=Z.grow Ze;refine cI Y rfl (aO _ _ _) fun _ Y=>?_;refine bz Y (wn rfl) (f:=fun b=>.slice (some ⟨b,0,none⟩) 3 3) (aX Tryz.underlying214 aa aa (Y.evs2 rfl) rfl rfl rfl ar ar) rfl rfl Z fun b94 _ _ Zr Y Z=>?_;refine cI Y rfl (ep (Z.at_ (i:=0) rfl)) fun _ Y=>?_;refine GO 5 ?_;intro _ Y;refine bW Y rfl rfl rfl ?_;refine⟨?_,Z.below⟩;unfold dq;rw[if_neg (by simpa using hz),if_neg (by simpa using hre)];unfold jm;have:decide (r.r.c≥0)=true:=decide_eq_true hH.rr.2.1.1;rw[this,Bool.true_and]
       case hB=>kernel_rfl
       case hst=>rfl
   case hB=>kernel_rfl
   case hst=>rfl
 case hB=>kernel_rfl
 case hst=>rfl
structure OkP (r:RngP):Prop where
 h:HeadP r
 all:∀m (hm:m<r.rs.length),ed r.r.o r.r.s (cn r.rs m) r.rs[m]=0
 t:jm r=0
theorem OkP.o {r:RngP} (h:OkP r):r.rs=[]∨(1≤r.r.o∧r.r.o≤100000000):=(xA r h.all).imp_right fun q=>⟨q,h.h.rr.2.2.2⟩
def sG (l:List RecP) (n:Int):Option RecP:=l.find? fun x=>x.l==n
end Go.Proofs.YtcfdpfmchchkaaaGreatDoor
