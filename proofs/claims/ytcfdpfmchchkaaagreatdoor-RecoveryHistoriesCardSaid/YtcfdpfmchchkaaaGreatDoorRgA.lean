/-
  Chapter 20: small functions of logs.
  Chapter 20: the error of a record, of the next position; whether a log has a record.
  Chapter 20: logs checked.
  Chapter 20: logs checked.
-/
import Derived.Test.YtcfdpfmchchkaaaGreatDoorOpA
namespace Go.Proofs.YtcfdpfmchchkaaaGreatDoor
set_option maxHeartbeats 1000000
set_option linter.unusedVariables false
set_option linter.unusedSimpArgs false
open Go.RowKit Go.Sort
def vl (x:RstP):Value:=.agg #[.int .i64 x.s,.int .i64 x.c,.int .i64 x.o]
def pJ (x:RecP):Value:=.agg #[.int .i64 x.l,.int .i64 x.s,.string x.b]
theorem yd (n c:Int) (w:World) (h0:0≤n) (h1:n≤1000000000000) (h2:1≤c) (h3:c≤1000000) :
 Calls Tryz.prog 246 #[.int .i64 n,.int .i64 c] w fun e w'=>e=.returned (.int .i64 ((n+c-1) / c*c))∧w=w':=by
 have hd0:0≤(n+c-1) / c:=Int.ediv_nonneg ab ab;have hd1:(n+c-1) / c*c≤n+c-1:=Int.ediv_mul_le _ ab;have hd2:0≤(n+c-1) / c*c:=Int.mul_nonneg hd0 ab;refine al (N:=13) Tryz.func246 rfl rfl rfl (fun _ h0=>?_);have S0:=St.init w;refine GO 12 ?_;intro _ Y;refine sv Y (jE (Y.ev rfl) (Y.ev rfl) ab) fun _ Y=>?_;refine GO 1 ?_;intro _ Y;refine sv Y (eW (Y.ev rfl) (Y.ev rfl) ab) fun _ Y=>?_;refine GO 4 ?_;intro _ Y;refine aD Y rfl rfl ?_;exact⟨rfl,rfl⟩
theorem tG (n:Int) (w:World) (h0:0≤n) (h1:n≤1000000) :
 Calls Tryz.prog 245 #[.int .i64 n] w fun e w'=>e=.returned (.int .i64 (nj n))∧w=w':=by
 refine al (N:=6) Tryz.func245 rfl rfl rfl (fun _ h0=>?_);have S0:=St.init w;refine GO 9 ?_;intro _ Y;refine cC Y rfl (yd _ _ _ ab ab ab ab) fun _ Y=>?_;refine GO 4 ?_;intro _ Y;refine aD Y rfl rfl ?_;exact⟨by unfold nj;congr 2;omega,rfl⟩
theorem rj (n:Int) (w:World) (h0:0≤n) (h1:n≤1000000000) :
 Calls Tryz.prog 222 #[.int .i64 n] w fun e w'=>e=.returned (.int .i64 (eU n))∧w=w':=by
 refine al (N:=5) Tryz.func222 rfl rfl rfl (fun _ h0=>?_);have S0:=St.init w;refine GO 8 ?_;intro _ Y;refine cC Y rfl (yd _ _ _ ab ab ab ab) fun _ Y=>?_;refine GO 4 ?_;intro _ Y;refine aD Y rfl rfl ?_;exact⟨by unfold eU;congr 2;omega,rfl⟩
theorem jq (n:Int) (w:World) :
 Calls Tryz.prog 221 #[.int .i64 n] w fun e w'=>e=.returned (.bool (n.tmod 448==0))∧w=w':=by
 refine al (N:=6) Tryz.func221 rfl rfl rfl (fun _ Y=>?_);have S0:=St.init w;refine GO 8 ?_;intro _ Y;refine sv Y (uz (Y.ev rfl) (Y.ev rfl) aq) fun _ Y=>?_;refine GO 5 ?_;intro _ Y;refine aD Y rfl rfl ?_;exact⟨rfl,rfl⟩
theorem jv (x:RecP) (w:World) (h0:1≤x.l) (h1:x.l≤1000000000) (h2:x.b.size≤100000) :
 Calls Tryz.prog 220 #[pJ x] w fun e w'=>e=.returned (.int .i64 (ew x))∧Below w.heap.size w w':=by
 have hz:0≤nj x.b.size∧nj x.b.size≤1000000:=by unfold nj;omega
 refine al (N:=11) Tryz.func220 rfl rfl rfl (fun _ h0=>?_);have Z:=St.init w;refine ah (ao ?_);refine nb h0 rfl rfl Z fun b1 _ _ Zc h1 Z=>?_;refine GO 4 ?_;intro _ h2;apply aH h2 (eZ 7) _ aa
 case h=>
  refine GO 6 ?_;intro _ Y;refine gd Y rfl (fun X hX=>tG _ _ ab ab) fun _ Y=>?_;refine av ?_;refine aP fun _ Za Zb=>?_;have Z:=Z.grow Za;refine GO 5 ?_;intro _ Y;refine aD Y rfl rfl ?_;exact⟨rfl,Z.below⟩
 case hB=>kernel_rfl
 case hst=>rfl
theorem qe (n:Int) (w:World) :
 Calls Tryz.prog 161 #[.int .i64 n] w fun e w'=>e=.returned (.int .i64 (iD n))∧w=w':=by
 refine al (N:=6) Tryz.func161 rfl rfl rfl (fun _ Y=>?_);have S0:=St.init w;refine GO 8 ?_;intro _ Y;refine cC Y rfl (bV _ _ _ _) fun _ Y=>?_;refine cC Y rfl (aM _ _ _) fun _ Y=>?_;refine GO 4 ?_;intro _ Y;refine aD Y rfl rfl ?_;exact⟨rfl,rfl⟩
theorem lE (x:RstP) (w:World) :
 Calls Tryz.prog 162 #[vl x] w fun e w'=>e=.returned (.int .i64 (eI x))∧Below w.heap.size w w':=by
 refine al (N:=19) Tryz.func162 rfl rfl rfl (fun _ Y=>?_);have Z:=St.init w;refine ah (ao ?_);refine nb Y rfl rfl Z fun b1 _ _ Ze Y Z=>?_;refine GO 7 ?_;intro _ Y;refine cC Y rfl (bV _ _ _ _) fun _ Y=>?_;refine GO 1 ?_;intro _ Y;apply aZ Y Z 7 rfl 4 11
 case ht=>
  intro Zc;refine GO 2 ?_;intro _ Y;refine bJ Y (aj Y _ rfl rfl rfl Zc) (ax a8 (Y.evs rfl) rfl) rfl rfl (bV _ _ _ _) fun _ Y=>?_;refine GO 1 ?_;intro _ Y;exact ae ⟨Y.midE 3,Z⟩
 case hf=>
  intro Zc;refine GO 4 ?_;intro _ Y;exact ae ⟨Y.midE 3,Z⟩
 case h=>
  rintro a15 Zf ⟨Zg,Zb⟩
  refine GO 1 ?_;intro _ Y;apply aZ Y Zb 12 rfl 4 16
  case ht=>
   intro Za;refine GO 2 ?_;intro _ Y;refine bJ Y (aj Y _ rfl rfl rfl Za) (ax a8 (Y.evs rfl) rfl) rfl rfl (bV _ _ _ _) fun _ Y=>?_;refine GO 1 ?_;intro _ Y;exact ae ⟨Y.midE 3,Zb⟩
  case hf=>
   intro Za;refine GO 4 ?_;intro _ Y;exact ae ⟨Y.midE 3,Zb⟩
  case h=>
   rintro a25 Zh ⟨Zi,Zd⟩
   refine GO 6 ?_;intro _ Y;refine cC Y rfl (aM _ _ _) fun _ Y=>?_;refine GO 4 ?_;intro _ Y;refine aD Y rfl rfl ?_;exact⟨rfl,Zd.below⟩
open Go.RowKit Go.Sort
def recC (x:RecP):List Value:=[.int .i64 x.l,.int .i64 x.s,.string x.b]
def cc (l:List RecP):List Value:=l.flatMap recC
def cJ (r:RngP) (A:Option Addr) (c:Nat):Value:=.agg #[.int .i64 r.pg,.int .i64 r.r.s,.int .i64 r.r.c,.int .i64 r.r.o,.int .i64 r.e.s,.int .i64 r.e.c,.int .i64 r.e.o,.slice A r.rs.length c,.int .i64 r.nx]
theorem bB (l:List RecP):(cc l).length=l.length*3:=by
 induction l with
 | nil=>rfl
 | cons x l ih=>simp[cc,recC] at ih ⊢;omega
theorem oF:∀(l:List RecP) (k:Nat) (h:k<l.length) (j:Nat) (u:Value),(recC l[k])[j]? = some u→(cc l)[k*3+j]? = some u
 | x::l,0,h,j,u,hu=>by
  have hj:j<3:=(List.getElem?_eq_some_iff.1 hu).1;show(recC x ++ cc l)[0*3+j]? = some u;rw[Nat.zero_mul,Nat.zero_add,List.getElem?_append_left (by exact hj)];exact hu
 | x::l,k+1,h,j,u,hu=>by
  show(recC x ++ cc l)[(k+1)*3+j]? = some u;have hl:(recC x).length=3:=rfl;rw[List.getElem?_append_right ab,hl,show(k+1)*3+j-3=k*3+j by omega];exact oF l k (by simpa using h) j u hu
theorem recAt {X:World} {B b o:Nat} {l:List RecP} {k:Nat} (h:Rd X B (some ⟨b,o,none⟩) (cc l)) (hk:k<l.length):∀(j:Nat) (u:Value),[Value.int .i64 l[k].l,.int .i64 l[k].s,.string l[k].b][j]? = some u→X.cell? ⟨b,o+k*3+j,none⟩=some u:=fun j u hu=>by
 obtain⟨b',o',e,_,hc⟩:=h (k*3+j) u (oF l k hk j u hu);injection e with e;injection e with e1 e2;subst e1 e2;rw[Nat.add_assoc];exact hc
theorem fv {X:World} {b:Nat} {e1 e2:Int} {T:TypeId} (hb:Box X b #[.int .i64 e1,.int .i64 e2] T):Calls Tryz.prog 160 #[.slice (some ⟨b,0,none⟩) 2 2] X fun e w'=>e=.returned (.int .i64 (ar [e1,e2]))∧X=w':=
 fH b 0 [e1,e2] X a7 (fun k hk=>by
  rw[Nat.zero_add,Box.cells hb k]
  have:k=0∨k=1:=by simp at hk;omega
  rcases this with rfl | rfl<;>rfl)
theorem ej {X:World} {b:Nat} {e1 e2 e3:Int} {T:TypeId} (hb:Box X b #[.int .i64 e1,.int .i64 e2,.int .i64 e3] T):Calls Tryz.prog 160 #[.slice (some ⟨b,0,none⟩) 3 3] X fun e w'=>e=.returned (.int .i64 (ar [e1,e2,e3]))∧X=w':=
 fH b 0 [e1,e2,e3] X a7 (fun k hk=>by
  rw[Nat.zero_add,Box.cells hb k]
  have:k=0∨k=1∨k=2:=by simp at hk;omega
  rcases this with rfl | rfl | rfl<;>rfl)
theorem cZ {X:World} {b:Nat} {e1 e2:Int} {T:TypeId} (hb:Box X b #[.int .i64 e1,.int .i64 e2] T):Calls Tryz.prog 63 #[.slice (some ⟨b,0,none⟩) 2 2] X fun e w'=>e=.returned (.int .i64 (ar [e1,e2]))∧X=w':=
 fw b 0 [e1,e2] X a7 (fun k hk=>by
  rw[Nat.zero_add,Box.cells hb k]
  have:k=0∨k=1:=by simp at hk;omega
  rcases this with rfl | rfl<;>rfl)
theorem eY {X:World} {b:Nat} {e1 e2 e3:Int} {T:TypeId} (hb:Box X b #[.int .i64 e1,.int .i64 e2,.int .i64 e3] T):Calls Tryz.prog 63 #[.slice (some ⟨b,0,none⟩) 3 3] X fun e w'=>e=.returned (.int .i64 (ar [e1,e2,e3]))∧X=w':=
 fw b 0 [e1,e2,e3] X a7 (fun k hk=>by
  rw[Nat.zero_add,Box.cells hb k]
  have:k=0∨k=1∨k=2:=by simp at hk;omega
  rcases this with rfl | rfl | rfl<;>rfl)
theorem mW {b:ByteArray}:b=⟨#[]⟩↔b.size=0:=by
 constructor
 · rintro rfl;rfl
 · intro h;exact im (List.eq_nil_of_length_eq_zero (by rw[aO];exact h))
theorem BB (b:ByteArray):ar [bn (!decide (b=⟨#[]⟩)) 17,bn (decide ((b.size:Int)≤3000)) 8]=if b.size=0 then 17 else if 3000<b.size then 8 else 0:=by
 simp only[ar,bn];by_cases h:b.size=0
 · simp[h,mW]
 · by_cases h2:3000<b.size
   · have h3:¬((b.size:Int)≤3000):=by omega
     simp[h,mW,h2,h3]
   · have h3:((b.size:Int)≤3000):=by omega
     simp[h,mW,h2,h3]
theorem tm (p q:Bool) (a b:Int) (ha:a≠0):ar [bn p a,bn q b]=if p=false then a else if q=false then b else 0:=by
 cases p<;>cases q<;>simp[ar,bn,ha]<;>(intro h;exact h.symm)
theorem p8 (p q r:Bool) (a b c:Int) (ha:a≠0) (hb:b≠0):ar [bn p a,bn q b,bn r c]=if p=false then a else if q=false then b else bn r c:=by
 cases p<;>cases q<;>cases r<;>simp[ar,bn,ha,hb]<;>(intro h;exact h.symm)
theorem tV {o q:Int} {x:RecP} (h0:x.b.size≠0) (h1:¬3000<x.b.size):dY o q none x=ar [bn (x.l==o&&decide (o≥1)&&(o-1) % 8==0) 9,bn (bf x.s 1 q) 2]:=by
 rw[tm _ _ _ _ aq];unfold dY gp seqB;rw[if_neg h0,if_neg h1];simp only[bn,ge_iff_le,if_true]
theorem va {o q:Int} {x y:RecP} (h0:x.b.size≠0) (h1:¬3000<x.b.size) (hx:-9223372036854775808≤x.l∧x.l<9223372036854775808) (hy0:0≤ew y) (hy1:ew y<1000000000000) :
 dY o q (some y) x=ar [bn (IntKind.i64.wrap (x.l-1)==ew y||IntKind.i64.wrap (x.l-1)==eU (ew y)) 9,bn (bf x.s 1 q) 2,bn (x.s==y.s||(decide (x.s>y.s)&&(IntKind.i64.wrap (x.l-1)).tmod 448==0)) 9]:=by
 rw[p8 _ _ _ _ _ _ aq aq];unfold dY gp seqB;rw[if_neg h0,if_neg h1]
 have hn:0≤eU (ew y)∧eU (ew y)<2000000000000:=by unfold eU;omega
 have hw:∀e:Int,0≤e→e<2000000000000→(IntKind.i64.wrap (x.l-1)==e)=(x.l-1==e):=fun e he0 he1=>by
  rw[Bool.eq_iff_iff,beq_iff_eq,beq_iff_eq,IntKind.wrap_i64];omega
 simp only[hw _ hy0 ab,hw _ hn.1 hn.2]
 cases ho:(x.l-1==ew y||x.l-1==eU (ew y)) with
 | false=>rfl
 | true=>
  have hp:0≤x.l-1∧x.l-1<2000000000000:=by
   rw[Bool.or_eq_true,beq_iff_eq,beq_iff_eq] at ho;omega
  have e:IntKind.i64.wrap (x.l-1)=x.l-1:=cA ab;rw[e,Int.tmod_eq_emod_of_nonneg hp.1]
def Bfr (y:RecP):Prop:=1≤y.l∧y.l≤500000000∧y.b.size≤3000
theorem Bfr.bd {y:RecP} (h:Bfr y):0≤ew y∧ew y≤600000000∧0≤eU (ew y)∧eU (ew y)≤700000000∧1≤ew y:=by
 obtain⟨h1,h2,h3⟩:=h;unfold eU ew nj;omega
theorem nF (r:RngP) (A:Option Addr) (c i:Nat) (w:World) (hr:Rd w w.heap.size A (cc r.rs)) (hi:i<r.rs.length) (hx:-9223372036854775808≤r.rs[i].l∧r.rs[i].l<9223372036854775808) (hb:∀y,cg r.rs i=some y→Bfr y) (ho:0≤r.r.o∧r.r.o≤100000000) (hlen:r.rs.length≤1000) :
 Calls Tryz.prog 167 #[cJ r A c,.int .i64 i] w fun e w'=>e=.returned (.int .i64 (dY r.r.o r.r.s (cg r.rs i) r.rs[i]))∧Below w.heap.size w w':=by
 obtain⟨b,o,rfl,hB,_⟩:=hr.opened (by rw[bB];omega);refine al (N:=104) Tryz.func167 rfl rfl rfl (fun _ Y=>?_);have Z:=St.init w;refine ah (ao ?_);refine nb Y rfl rfl Z fun b2 _ _ Zz Y Z=>?_;refine GO 5 ?_;intro _ h2;refine vf h2 7 7 fun _ Y=>?_;refine GO 2 ?_;intro _ Y;refine sv Y (au (i:=i) (sz:=3) Tryz.underlying71 aa (Y.ev rfl) (Y.ev rfl) rfl hi rfl) fun _ Y=>?_;refine sv Y (ai aa aa (Y.ev rfl) (recAt (Z.rd0 hr) hi)) fun _ Y=>?_;refine na (.agg #[.int .i64 0,.int .i64 0,.string ⟨#[]⟩]) Y rfl Z fun b5 _ _ Qa Y Z=>?_;refine sw Y Z 0 fun _ Z=>?_;refine GO 6 ?_;intro _ Y;refine sv Y (p6 (Y.ev rfl) (Y.ev rfl)) fun _ Y=>?_;refine GO 5 ?_;intro _ Y;apply aH Y (eZ 8) _ aa
 case h=>
  refine GO 3 ?_;intro _ Y;refine gd Y rfl (fun X hX=>aM _ _ _) fun _ Y=>?_;refine GO 5 ?_;intro _ Y;refine aP fun _ Zf Zo=>?_;have Z:=Z.grow Zf;refine cC Y rfl (aM _ _ _) fun _ Y=>?_;refine bw Y (wn rfl) (f:=fun b=>.slice (some ⟨b,0,none⟩) 2 2) (aX Tryz.underlying214 aa aa (Y.evs2 rfl) rfl rfl rfl aq aq) rfl rfl Z fun b30 _ _ Zp Y Z=>?_;refine cC Y rfl (fv (Z.at_ (i:=0) rfl)) fun _ Y=>?_;refine GO 9 ?_;intro _ Y;refine ak (Y.ev rfl) (fun Za=>?_) (fun Za=>?_)
  ·
   refine GO 8 ?_;intro _ Y;refine aD Y rfl rfl ?_;refine⟨?_,Z.below⟩;rw[BB] at Za ⊢
   congr 2
   unfold dY;simp only[bne_iff_ne,ne_eq] at Za
   split
   · rfl
   · rename_i h
     rw[if_neg h] at Za
     split
     · rfl
     · rename_i h2;rw[if_neg h2] at Za;exact absurd rfl Za
  ·
   rw[BB] at Za
   have hsz:r.rs[i].b.size≠0∧¬3000<r.rs[i].b.size:=by
    simp only[bne_eq_false_iff_eq] at Za
    split at Za
    · cases Za
    · split at Za
      · cases Za
      · exact⟨by assumption,by assumption⟩
   refine GO 7 ?_;intro _ Y;refine vf Y 0 1 fun _ Y=>?_;refine GO 1 ?_;intro _ Y;refine cC Y rfl (bV _ _ _ _) fun _ Y=>?_;refine cC Y rfl (aM _ _ _) fun _ Y=>?_;refine GO 10 ?_;intro _ Y;refine ak (Y.ev rfl) (fun Zg=>?_) (fun Zg=>?_)
   ·
    refine GO 3 ?_;intro _ Y;refine vf Y 2 3 fun _ Y=>?_;refine GO 11 ?_;intro _ Y;apply aZ Y Z 51 rfl 3 54
    case ht=>
     intro Zh;refine GO 3 ?_;intro _ Y;exact ae ⟨Y.midE 2,Z⟩
    case hf=>
     intro Zh;refine GO 3 ?_;intro _ Y;exact ae ⟨Y.midE 2,Z⟩
    case h=>
     rintro a56 Qb ⟨Qc,Zi⟩
     refine GO 1 ?_;intro _ Y;apply aZ Y Zi 55 rfl 5 60
     case ht=>
      intro Zc;refine GO 2 ?_;intro _ Y;refine sy Y (js (Y.ev rfl) (Y.ev rfl) (by rw[Bool.and_eq_true,decide_eq_true_eq] at Zc;omega)) fun _ Y=>?_;refine GO 2 ?_;intro _ Y;exact ae ⟨Y.midE 4,Zi⟩
     case hf=>
      intro Zc;refine GO 5 ?_;intro _ Y;exact ae ⟨Y.midE 4,Zi⟩
     case h=>
      rintro a68 Qd ⟨Zq,Zr⟩
      refine cC Zq rfl (aM _ _ _) fun _ Y=>?_;refine GO 1 ?_;intro _ Y;refine bw Y (wn rfl) (f:=fun b=>.slice (some ⟨b,0,none⟩) 2 2) (aX Tryz.underlying214 aa aa (Y.evs2 rfl) rfl rfl rfl aq aq) rfl rfl Zr fun b63 _ _ Zs Y Z=>?_;refine cC Y rfl (fv (Z.at_ (i:=0) rfl)) fun _ Y=>?_;refine GO 5 ?_;intro _ Y;refine aD Y rfl rfl ?_;refine⟨?_,Z.below⟩
      have hi0:i=0:=by simp only[beq_iff_eq] at Zg;omega
      have hbf:cg r.rs i=none:=by unfold cg;rw[if_pos hi0]
      rw[hbf,tV hsz.1 hsz.2]
   ·
    have hi0:i≠0:=by simp only[beq_eq_false_iff_ne] at Zg;omega
    have hi1:i-1<r.rs.length:=by omega
    have hbf:cg r.rs i=some r.rs[i-1]:=by unfold cg;rw[if_neg hi0,List.getElem?_eq_getElem hi1]
    have hy:=hb _ hbf;have hbd:=hy.bd;refine wp_skip (ag (ah (ao ?_)));refine vf Y 7 7 fun _ Y=>?_;refine GO 3 ?_;intro _ Y;refine sv Y (au (i:=i-1) (sz:=3) Tryz.underlying71 aa (Y.ev rfl) (Y.ev rfl) ab ab rfl) fun _ Y=>?_;refine sv Y (ai aa aa (Y.ev rfl) (recAt (Z.rd0 hr) hi1)) fun _ Y=>?_;refine na (.agg #[.int .i64 0,.int .i64 0,.string ⟨#[]⟩]) Y rfl Z fun b10 _ _ Zt Y Z=>?_;refine sw Y Z 0 fun _ Z=>?_;refine pk ?_;refine sv Y (ai aa aa (Y.ev rfl) (Z.cellsAll (i:=0) rfl)) fun _ Y=>?_;refine cE Y rfl Z (jv _ _ hy.1 (by have:=hy.2.1;omega) (by have:=hy.2.2;omega)) fun _ _ Y Z=>?_;refine GO 11 ?_;intro _ Y;apply bm Y Z 78 rfl 10 88
    case hf=>
     intro Zj;refine GO 6 ?_;intro _ Y;apply aZ Y Z 84 rfl 3 87
     case ht=>
      intro Zd;refine GO 1 ?_;intro _ Y;refine bJ Y (aj Y _ rfl rfl rfl Zd) (ax a8 (Y.evs rfl) rfl) rfl rfl (jq _ _) fun _ Y=>?_;refine GO 1 ?_;intro _ Y;exact ae ⟨Y.midE 2,Z⟩
     case hf=>
      intro Zd;refine GO 3 ?_;intro _ Y;exact ae ⟨Y.midE 2,Z⟩
     case h=>
      rintro a103 Zu ⟨Zv,Zk⟩
      refine GO 1 ?_;intro _ Y;exact ae ⟨Y.midE 7,Zk⟩
    case ht=>
     intro Zj;refine GO 6 ?_;intro _ Y;refine bI Y (az Y _ rfl rfl rfl) rfl rfl fun _ Y=>?_;refine bI Y (az Y _ rfl rfl rfl) rfl rfl fun _ Y=>?_;refine GO 2 ?_;intro _ Y;exact ae ⟨Y.midE 9,Z⟩
    case h=>
     rintro a115 Zw ⟨Zx,Zb⟩
     refine GO 9 ?_;intro _ Y;apply bm Y Zb 92 rfl 5 97
     case hf=>
      intro Ze;refine GO 2 ?_;intro _ Y;refine bJ Y (aj Y _ rfl rfl rfl Ze) (ax a8 (Y.evs rfl) rfl) rfl rfl (rj _ _ hbd.1 ab) fun _ Y=>?_;refine GO 2 ?_;intro _ Y;exact ae ⟨Y.midE 4,Zb⟩
     case ht=>
      intro Ze;refine GO 5 ?_;intro _ Y;exact ae ⟨Y.midE 4,Zb⟩
     case h=>
      rintro a131 Zy ⟨Zl,Zm⟩
      refine cC Zl rfl (aM _ _ _) fun _ Y=>?_;refine GO 2 ?_;intro _ Y;refine cC Y rfl (aM _ _ _) fun _ Y=>?_;refine bw Y (wn rfl) (f:=fun b=>.slice (some ⟨b,0,none⟩) 3 3) (aX Tryz.underlying214 aa aa (Y.evs2 rfl) rfl rfl rfl aq aq) rfl rfl Zm fun b102 _ _ Zn Y Z=>?_;refine cC Y rfl (ej (Z.at_ (i:=0) rfl)) fun _ Y=>?_;refine GO 4 ?_;intro _ Y;refine aD Y rfl rfl ?_;refine⟨?_,Z.below⟩;rw[hbf,va hsz.1 hsz.2 hx hbd.1 ab]
 case hB=>kernel_rfl
 case hst=>rfl
open Go.RowKit Go.Sort
theorem kn {l:List RecP} (h:l≠[]):l.getLast? = some (l[l.length-1]'(by have:=List.length_pos_iff.2 h;omega)):=by
 rw[List.getLast?_eq_getElem?,List.getElem?_eq_getElem]
theorem wS (r:RngP) (A:Option Addr) (c:Nat) (w:World) (hr:Rd w w.heap.size A (cc r.rs)) (hb:∀y,r.rs.getLast? = some y→Bfr y) (ho:r.rs=[]∨(1≤r.r.o∧r.r.o≤100000000)) (hlen:r.rs.length≤1000) :
 Calls Tryz.prog 168 #[cJ r A c] w fun e w'=>e=.returned (.tuple #[.int .i64 (fz r).1,.int .i64 (fz r).2])∧Below w.heap.size w w':=by
 refine al (N:=29) Tryz.func168 rfl rfl rfl (fun _ Y=>?_);have Z:=St.init w;refine ah (ao ?_);refine nb Y rfl rfl Z fun b1 _ _ Zb Y Z=>?_;refine GO 7 ?_;intro _ Y;refine vf Y 7 7 fun _ Y=>?_;refine GO 5 ?_;intro _ Y;refine ak (Y.ev rfl) (fun Za=>?_) (fun Za=>?_)
 ·
  have hnil:r.rs=[]:=by simp only[beq_iff_eq] at Za;exact List.eq_nil_of_length_eq_zero ab
  refine GO 8 ?_;intro _ Y;refine bC Y rfl rfl rfl ?_;exact⟨by unfold fz;rw[hnil];rfl,Z.below⟩
 ·
  have hne:r.rs≠[]:=by intro h;rw[h] at Za;simp at Za
  replace ho:=ho.resolve_left hne;have hpos:=List.length_pos_iff.2 hne;have hlast:=kn hne;have hy:=hb _ hlast;have hbd:=hy.bd;obtain⟨b,o,rfl,hB,_⟩:=hr.opened (by rw[bB];omega);refine GO 5 ?_;intro _ Y;refine vf Y 2 3 fun _ Y=>?_;refine GO 2 ?_;intro _ Y;refine sv Y (jE (Y.ev rfl) (Y.ev rfl) ab) fun _ Y=>?_;refine GO 6 ?_;intro _ Y;refine vf Y 7 7 fun _ Y=>?_;refine GO 1 ?_;intro _ Y;refine vf Y 7 7 fun _ Y=>?_;refine GO 3 ?_;intro _ Y;refine sv Y (au (i:=r.rs.length-1) (sz:=3) Tryz.underlying71 aa (Y.ev rfl) (Y.ev rfl) ab ab rfl) fun _ Y=>?_;refine sv Y (ai aa aa (Y.ev rfl) (recAt (Z.rd0 hr) ab)) fun _ Y=>?_;refine cE Y rfl Z (jv (r.rs[r.rs.length-1]) _ hy.1 (by have:=hy.2.1;omega) (by have:=hy.2.2;omega)) fun _ _ Y Z=>?_;refine GO 1 ?_;intro _ Y;refine sv Y (jE (Y.ev rfl) (Y.ev rfl) ab) fun _ Y=>?_;refine GO 8 ?_;intro _ Y;refine bC Y rfl rfl rfl ?_;exact⟨by unfold fz;rw[hlast],Z.below⟩
theorem se (r:RngP) (A:Option Addr) (c:Nat) (w:World) (hr:Rd w w.heap.size A (cc r.rs)) (hb:∀y,r.rs.getLast? = some y→Bfr y) (ho:0≤r.r.o∧r.r.o≤100000000) (hn:0≤r.nx∧r.nx≤100000000) (hlen:r.rs.length≤1000) :
 Calls Tryz.prog 169 #[cJ r A c] w fun e w'=>e=.returned (.int .i64 (fA r))∧Below w.heap.size w w':=by
 have htm:r.nx.tmod 448=r.nx % 448:=Int.tmod_eq_emod_of_nonneg hn.1;refine al (N:=59) Tryz.func169 rfl rfl rfl (fun _ Y=>?_);have Z:=St.init w;refine ah (ao ?_);refine nb Y rfl rfl Z fun b1 _ _ Zj Y Z=>?_;refine GO 5 ?_;intro _ Y;refine vf Y 7 7 fun _ Y=>?_;refine GO 12 ?_;intro _ Y;refine ak (Y.ev rfl) (fun Zd=>?_) (fun Zd=>?_)
 ·
  have hnil:r.rs=[]:=by simp only[beq_iff_eq] at Zd;exact List.eq_nil_of_length_eq_zero ab
  refine ah (ao ?_);refine vf Y 8 8 fun _ Y=>?_;refine GO 2 ?_;intro _ Y;refine vf Y 2 3 fun _ Y=>?_;refine GO 4 ?_;intro _ Y;apply aZ Y Z 19 rfl 4 23
  case ht=>
   intro Za;refine sy Y (fx 8 8 (Y.ev rfl)) fun _ Y=>?_;refine GO 1 ?_;intro _ Y;refine bJ Y (aj Y _ rfl rfl rfl Za) (ax a8 (Y.evs rfl) rfl) rfl rfl (jq _ _) fun _ Y=>?_;refine GO 1 ?_;intro _ Y;exact ae ⟨Y.midE 3,Z⟩
  case hf=>
   intro Za;refine GO 4 ?_;intro _ Y;exact ae ⟨Y.midE 3,Z⟩
  case h=>
   rintro a25 Zk ⟨Zg,Zh⟩
   refine cC Zg rfl (aM _ _ _) fun _ Y=>?_;refine GO 5 ?_;intro _ Y;refine aD Y rfl rfl ?_;exact⟨by unfold fA;rw[hnil,htm];rfl,Zh.below⟩
 ·
  have hne:r.rs≠[]:=by intro h;rw[h] at Zd;simp at Zd
  have hpos:=List.length_pos_iff.2 hne;have hlast:=kn hne;have hy:=hb _ hlast;have hbd:=hy.bd;obtain⟨b,o,rfl,hB,_⟩:=hr.opened (by rw[bB];omega);refine wp_skip (ag (ah (ao ?_)));refine vf Y 7 7 fun _ Y=>?_;refine GO 3 ?_;intro _ Y;refine sv Y (au (i:=r.rs.length-1) (sz:=3) Tryz.underlying71 aa (Y.ev rfl) (Y.ev rfl) ab ab rfl) fun _ Y=>?_;refine sv Y (ai aa aa (Y.ev rfl) (recAt (Z.rd0 hr) ab)) fun _ Y=>?_;refine na (.agg #[.int .i64 0,.int .i64 0,.string ⟨#[]⟩]) Y rfl Z fun b4 _ _ Zl Y Z=>?_;refine sw Y Z 0 fun _ Z=>?_;refine pk ?_;refine sv Y (ai aa aa (Y.ev rfl) (Z.cellsAll (i:=0) rfl)) fun _ Y=>?_;refine cE Y rfl Z (jv (r.rs[r.rs.length-1]) _ hy.1 (by have:=hy.2.1;omega) (by have:=hy.2.2;omega)) fun _ _ Y Z=>?_;refine GO 4 ?_;intro _ Y;apply aH Y (eZ 24) _ aa
  case h=>
   refine qv Y (fun X hX=>fx 8 8 (Y.ev rfl)) fun _ Y=>?_;refine GO 4 ?_;intro _ Y;apply fa Y 37 rfl 6 43
   case hf=>
    intro Zb;refine qy Y (fun X hX=>(fx 8 8 (Y.ev rfl))) fun _ Y=>?_;refine GO 2 ?_;intro _ Y;refine lZ Y (aj Y _ rfl rfl rfl Zb) rfl rfl (fun X=>(ax a8 (Y.evs rfl) rfl)) (fun X hX=>rj _ _ hbd.1 ab) fun _ Y=>?_;refine GO 2 ?_;intro _ Y;exact av (Y.midE 5)
   case ht=>
    intro Zb;refine GO 6 ?_;intro _ Y;exact av (Y.midE 5)
   case h=>
    intro _ Y;refine GO 1 ?_;intro _ Y;apply iF Y 44 rfl 12 56
    case ht=>
     intro Ze;refine GO 3 ?_;intro _ Y;refine qy Y (fun X hX=>(fx 0 1 (Y.ev rfl))) fun _ Y=>?_;refine GO 3 ?_;intro _ Y;apply fa Y 51 rfl 4 55
     case hf=>
      intro Zc;refine qy Y (fun X hX=>(fx 8 8 (Y.ev rfl))) fun _ Y=>?_;refine GO 1 ?_;intro _ Y;refine lZ Y (aj Y _ rfl rfl rfl Zc) rfl rfl (fun X=>(ax a8 (Y.evs rfl) rfl)) (fun X hX=>jq _ _) fun _ Y=>?_;refine GO 1 ?_;intro _ Y;exact av (Y.midE 3)
     case ht=>
      intro Zc;refine GO 4 ?_;intro _ Y;exact av (Y.midE 3)
     case h=>
      intro _ Y;refine GO 1 ?_;intro _ Y;exact av (Y.midE 8)
    case hf=>
     intro Ze;refine GO 7 ?_;intro _ Y;refine jK Y (az Y _ rfl rfl rfl) rfl rfl fun _ Y=>?_;refine jK Y (az Y _ rfl rfl rfl) rfl rfl fun _ Y=>?_;refine jK Y (az Y _ rfl rfl rfl) rfl rfl fun _ Y=>?_;refine GO 2 ?_;intro _ Y;exact av (Y.midE 11)
    case h=>
     intro _ Y;refine av ?_;refine aP fun _ Zf Zi=>?_;have Z:=Z.grow Zf;refine GO 6 ?_;intro _ Y;refine cC Y rfl (aM _ _ _) fun _ Y=>?_;refine GO 4 ?_;intro _ Y;refine aD Y rfl rfl ?_;exact⟨by unfold fA;rw[hlast,htm],Z.below⟩
  case hB=>kernel_rfl
  case hst=>rfl
def sM (g:RecP→Bool) (l:List RecP):Int:=match l.findIdx? g with | some i=>i | none=>-1
theorem wW {g:RecP→Bool} {l:List RecP} {j:Nat} (h:j<l.length) (h1:g l[j]=true) (h2:∀k (hk:k<l.length),k<j→g l[k]=false):sM g l=j:=by
 unfold sM;rw[List.findIdx?_eq_some_iff_getElem.2 ⟨h,h1,fun k hk=>by rw[h2 k ab hk];simp⟩]
theorem vN {g:RecP→Bool} {l:List RecP} (h2:∀k (hk:k<l.length),g l[k]=false):sM g l = -1:=by
 unfold sM;rw[List.findIdx?_eq_none_iff.2 (fun x hx=>by obtain⟨k,hk,rfl⟩:=List.getElem_of_mem hx;exact h2 k hk)]
theorem xD (g:RecP→Bool) (l:List RecP):decide (sM g l≥0)=l.any g:=by
 unfold sM
 cases h:l.findIdx? g with
 | none=>
  rw[List.findIdx?_eq_none_iff] at h
  have:l.any g=false:=by rw[List.any_eq_false];intro x hx;rw[h x hx];simp
  rw[this];rfl
 | some i=>
  rw[List.findIdx?_eq_some_iff_getElem] at h;obtain⟨h1,h2,_⟩:=h;have:l.any g=true:=List.any_eq_true.2 ⟨l[i],List.getElem_mem h1,h2⟩;rw[this];simp
theorem kH (g:RecP→Bool) (l:List RecP) (A:Option Addr) (c:Nat) (f:FuncId) (cap:List Value) (w:World) (hr:Rd w w.heap.size A (cc l)) (hlen:l.length≤1000) (hfc:∀(vs:Array Value) (W:World),(callFunc f vs).run Tryz.prog W=.ok (.enter f vs) W)
 (hcl:∀X,Below w.heap.size w X→∀x∈l,Calls Tryz.prog f ([pJ x] ++ cap).toArray X fun e X'=>e=.returned (.bool (g x))∧Below X.heap.size X X') :
 Calls Tryz.prog 231 #[.slice A l.length c,.func (.func f) #[] cap.toArray] w fun e w'=>e=.returned (.int .i64 (sM g l))∧Below w.heap.size w w':=by
 refine al (N:=19) Tryz.func231 rfl rfl rfl (fun _ Y=>?_);have Z:=St.init w;refine GO 14 ?_;intro _ Y;refine aY Y Z [7,0,1] (fun (j:Nat)=>[(8,.int .i64 j)]) (fun (j:Nat)=>j≤l.length∧∀k (hk:k<l.length),k<j→g l[k]=false) (fun (j:Nat) L=>L) (fun (j:Nat)=>l.length-j) (0) (⟨Nat.zero_le _,fun k _ h=>by omega⟩) bz (Z) ?_;intro j _ _ Za Y Z;refine GO 6 ?_;intro _ Y;refine ak (Y.ev rfl) (fun Zb=>?_) (fun Zb=>?_)
 ·
  have hlt:j<l.length:=by have:=of_decide_eq_true Zb;omega
  obtain⟨b,o,rfl,hB,_⟩:=hr.opened (by rw[bB];omega);refine GO 15 ?_;intro _ Y;refine sv Y (au (i:=j) (sz:=3) Tryz.underlying71 aa (Y.ev rfl) (Y.ev rfl) ab ab rfl) fun _ Y=>?_;refine sv Y (ai aa aa (Y.ev rfl) (recAt (Z.rd0 hr) hlt)) fun _ Y=>?_;refine dg Y (wn rfl) (cz hfc (Y.ev rfl) (Y.evs rfl) rfl) rfl rfl Z (hcl _ Z.below l[j] (List.getElem_mem _)) fun _ _ Y Z=>?_;refine ae (ag ?_);refine ak (Y.ev rfl) (fun Zc=>?_) (fun Zc=>?_)
  ·
   refine GO 12 ?_;intro _ Y;refine aD Y rfl rfl ?_;exact⟨by rw[wW hlt Zc Za.2],Z.below⟩
  ·
   refine GO 8 ?_;intro _ Y;exact⟨j+1,by omega,⟨hlt,fun k hk h=>(Nat.lt_or_ge k j).elim (fun q=>Za.2 k hk q) (fun q=>by(obtain rfl:k=j:=by omega);exact Zc)⟩,Y.re bz,Z⟩
 ·
  have hge:l.length≤j:=by have:=of_decide_eq_false Zb;omega
  refine GO 11 ?_;intro _ Y;refine aD Y rfl rfl ?_;exact⟨by rw[vN (fun k hk=>Za.2 k hk ab)],Z.below⟩
theorem lQ (g:RecP→Bool) (l:List RecP) (A:Option Addr) (c:Nat) (f:FuncId) (cap:List Value) (w:World) (hr:Rd w w.heap.size A (cc l)) (hlen:l.length≤1000) (hfc:∀(vs:Array Value) (W:World),(callFunc f vs).run Tryz.prog W=.ok (.enter f vs) W)
 (hcl:∀X,Below w.heap.size w X→∀x∈l,Calls Tryz.prog f ([pJ x] ++ cap).toArray X fun e X'=>e=.returned (.bool (g x))∧Below X.heap.size X X') :
 Calls Tryz.prog 223 #[.slice A l.length c,.func (.func f) #[] cap.toArray] w fun e w'=>e=.returned (.bool (l.any g))∧Below w.heap.size w w':=by
 refine al (N:=9) Tryz.func223 rfl rfl rfl (fun _ Y=>?_);have Z:=St.init w;refine GO 9 ?_;intro _ Y;refine cE Y rfl Z (kH g l A c f cap _ (Z.rd0 hr) hlen hfc (fun X hX x hx=>hcl X (kS Z.below hX) x hx)) fun _ _ Y Z=>?_;refine GO 5 ?_;intro _ Y;refine aD Y rfl rfl ?_;exact⟨by rw[←xD],Z.below⟩
theorem yr (x:RecP) (n:Int) (b:Nat) (T:TypeId) (w:World) (hb:Box w b #[.int .i64 n] T) :
 Calls Tryz.prog 224 #[pJ x,.pointer (some ⟨b,0,none⟩)] w fun e w'=>e=.returned (.bool (x.l==n))∧Below w.heap.size w w':=by
 refine al (N:=8) Tryz.func224 rfl rfl rfl (fun _ Y=>?_);have Z:=St.init w;refine ah (ao ?_);refine nb Y rfl rfl Z fun b2 _ _ Za Y Z=>?_;refine GO 7 ?_;intro _ Y;refine sv Y (lx (Y.ev rfl) (rO (hb.below Z.below) rfl)) fun _ Y=>?_;refine GO 5 ?_;intro _ Y;refine aD Y rfl rfl ?_;exact⟨rfl,Z.below⟩
theorem Ao (l:List RecP) (A:Option Addr) (c:Nat) (n f:Int) (w:World) (hr:Rd w w.heap.size A (cc l)) (hlen:l.length≤1000) :
 Calls Tryz.prog 170 #[.slice A l.length c,.int .i64 n,.int .i64 f] w fun e w'=>e=.returned (.bool (decide (n≥f)&&nX l n))∧Below w.heap.size w w':=by
 refine al (N:=15) Tryz.func170 rfl rfl rfl (fun _ Y=>?_);have Z:=St.init w;refine ah (ao ?_);refine nb Y rfl rfl Z fun b4 _ _ Zc Y Z=>?_;refine GO 9 ?_;intro _ Y;apply aZ Y Z 10 rfl 4 14
 case ht=>
  intro Za;refine GO 1 ?_;intro _ Y;refine sy Y (eL (Y.evs rfl) (Y.evs rfl)) fun _ Y=>?_;refine dg Y (aj Y _ rfl rfl rfl Za) (ax a8 (Y.evs rfl) rfl) rfl rfl Z (lQ (fun x=>x.l==n) l A c 224 [.pointer (some ⟨b4,0,none⟩)] _ (Z.rd0 hr) hlen a8 (fun X hX x _=>yr x n b4 _ X (Box.below (Z.at_ (i:=0) rfl) hX))) fun _ _ Y Z=>?_;refine GO 1 ?_;intro _ Y;exact ae ⟨Y.midE 3,Z⟩
 case hf=>
  intro Za;refine GO 4 ?_;intro _ Y;exact ae ⟨Y.midE 3,Z⟩
 case h=>
  rintro a15 Zd ⟨Ze,Zb⟩
  refine GO 4 ?_;intro _ Y;refine aD Y rfl rfl ?_;exact⟨rfl,Zb.below⟩
open Go.RowKit Go.Sort
theorem qw (g:Nat→RecP→Int) (l:List RecP) (A:Option Addr) (c:Nat) (f:FuncId) (cap:List Value) (w:World) (hr:Rd w w.heap.size A (cc l)) (hlen:l.length≤1000) (hfc:∀(vs:Array Value) (W:World),(callFunc f vs).run Tryz.prog W=.ok (.enter f vs) W)
 (hcl:∀X,Below w.heap.size w X→∀(k:Nat) (hk:k<l.length),(∀m (hm:m<l.length),m<k→g m l[m]=0)→Calls Tryz.prog f ([.int .i64 k,pJ l[k]] ++ cap).toArray X fun e X'=>e=.returned (.int .i64 (g k l[k]))∧Below X.heap.size X X') :
 Calls Tryz.prog 165 #[.slice A l.length c,.func (.func f) #[] cap.toArray] w fun e w'=>e=.returned (.tuple #[.int .i64 (cB g 0 l).1,.int .i64 (cB g 0 l).2])∧Below w.heap.size w w':=by
 refine al (N:=25) Tryz.func165 rfl rfl rfl (fun _ Y=>?_);have Z:=St.init w;refine GO 3 ?_;intro _ Y;refine GO 6 ?_;intro _ Y;refine GO 6 ?_;intro _ Y;refine aY Y Z [10,9,1] (fun (j:Nat)=>[(11,.int .i64 j)]) (fun (j:Nat)=>j≤l.length∧∀k (hk:k<l.length),k<j→g k l[k]=0) (fun (j:Nat) L=>L) (fun (j:Nat)=>l.length-j) (0) (⟨Nat.zero_le _,fun k _ h=>by omega⟩) bz (Z) ?_;intro j _ _ Za Y Z;refine GO 6 ?_;intro _ Y;refine ak (Y.ev rfl) (fun Zb=>?_) (fun Zb=>?_)
 ·
  have hlt:j<l.length:=by have:=of_decide_eq_true Zb;omega
  obtain⟨b,o,rfl,hB,_⟩:=hr.opened (by rw[bB];omega);refine GO 7 ?_;intro _ Y;refine sv Y (au (i:=j) (sz:=3) Tryz.underlying71 aa (Y.ev rfl) (Y.ev rfl) ab ab rfl) fun _ Y=>?_;refine sv Y (ai aa aa (Y.ev rfl) (recAt (Z.rd0 hr) hlt)) fun _ Y=>?_;refine na (.agg #[.int .i64 0,.int .i64 0,.string ⟨#[]⟩]) Y rfl Z fun b7 _ _ Zd Y Z=>?_;refine GO 1 ?_;intro _ Y;refine sw Y Z 0 fun _ Z=>?_;refine GO 6 ?_;intro _ Y;refine sv Y (ai aa aa (Y.ev rfl) (Z.cellsAll (i:=0) rfl)) fun _ Y=>?_;refine dg Y (wn rfl) (cz hfc (Y.ev rfl) (Y.evs rfl) rfl) rfl rfl Z (hcl _ Z.below j hlt Za.2) fun _ _ Y Z=>?_;refine GO 9 ?_;intro _ Y;refine ak (Y.ev rfl) (fun Zc=>?_) (fun Zc=>?_)
  ·
   refine GO 14 ?_;intro _ Y;refine bC Y rfl rfl rfl ?_
   have Y:g j l[j]≠0:=by simpa using Zc
   have Y:=cP g l 0 j hlt (fun k hk h=>by rw[Nat.zero_add];exact Za.2 k hk h) (by rw[Nat.zero_add];exact Y);exact⟨by rw[Y,Nat.zero_add],Z.below⟩
  ·
   refine GO 8 ?_;intro _ Y;exact⟨j+1,by omega,⟨hlt,fun k hk h=>(Nat.lt_or_ge k j).elim (fun q=>Za.2 k hk q) (fun q=>by(obtain rfl:k=j:=by omega);simpa using Zc)⟩,Y.re bz,Z.sub (.cons _ .slnil)⟩
 ·
  have hge:l.length≤j:=by have:=of_decide_eq_false Zb;omega
  refine GO 12 ?_;intro _ Y;refine bC Y rfl rfl rfl ?_;exact⟨by rw[cN g l 0 (fun k hk=>by rw[Nat.zero_add];exact Za.2 k hk ab)],Z.below⟩
def Cv (r:RngP) (A:Option Addr) (c:Nat):List Value:=[.int .i64 r.pg,.int .i64 r.r.s,.int .i64 r.r.c,.int .i64 r.r.o,.int .i64 r.e.s,.int .i64 r.e.c,.int .i64 r.e.o,.slice A r.rs.length c,.int .i64 r.nx]
theorem yg (r:RngP) (A:Option Addr) (c i:Nat) (b:Nat) (T:TypeId) (w:World) (hbx:Box w b (Cv r A c).toArray T) (hr:Rd w w.heap.size A (cc r.rs)) (hi:i<r.rs.length) (hx:I6 r.rs[i].l) (hb:∀y,cg r.rs i=some y→Bfr y) (ho:0≤r.r.o∧r.r.o≤100000000) (hlen:r.rs.length≤1000) :
 Calls Tryz.prog 166 #[.int .i64 i,pJ r.rs[i],.pointer (some ⟨b,0,none⟩)] w fun e w'=>e=.returned (.int .i64 (dY r.r.o r.r.s (cg r.rs i) r.rs[i]))∧Below w.heap.size w w':=by
 refine al (N:=9) Tryz.func166 rfl rfl rfl (fun _ Y=>?_);have Z:=St.init w;refine ah (ao ?_);refine nb Y rfl rfl Z fun b4 _ _ Za Y Z=>?_;refine GO 5 ?_;intro _ Y;refine sv Y (ai aa aa (Y.ev rfl) (AY (hbx.below Z.below))) fun _ Y=>?_;refine GO 1 ?_;intro _ Y;refine cE Y rfl Z (nF r A c i _ (Z.rd0 hr) hi hx hb ho hlen) fun _ _ Y Z=>?_;refine GO 4 ?_;intro _ Y;refine aD Y rfl rfl ?_;exact⟨rfl,Z.below⟩
theorem l9 (x y:RstP):kO [.int .i64 x.s,.int .i64 x.c,.int .i64 x.o] [.int .i64 y.s,.int .i64 y.c,.int .i64 y.o]=decide (x=y):=by
 obtain⟨a,b,c⟩:=x;obtain⟨a',b',c'⟩:=y;rw[Bool.eq_iff_iff,decide_eq_true_eq,RstP.mk.injEq];simp[kO,sJ]
theorem BX (r:RngP) (ho:r.r.o≤100000000) (hlen:r.rs.length≤1000) (k:Nat) (hk:k<r.rs.length) (h:∀m (hm:m<r.rs.length),m<k→dY r.r.o r.r.s (cg r.rs m) r.rs[m]=0):∀y,cg r.rs k=some y→Bfr y:=by
 intro y hy
 cases k with
 | zero=>simp[cg] at hy
 | succ k=>
  rw[oz hk] at hy;injection hy with hy;subst hy;obtain⟨h1,h2,h3⟩:=l7 r ho k ab fun m hm hmk=>h m hm ab;exact⟨h1,by omega,h3⟩
theorem qZ (r:RngP) (ho:r.r.o≤100000000) (hlen:r.rs.length≤1000) (h:∀m (hm:m<r.rs.length),dY r.r.o r.r.s (cg r.rs m) r.rs[m]=0):∀y,r.rs.getLast? = some y→Bfr y:=by
 intro y hy;rcases Nat.eq_zero_or_pos r.rs.length with h0 | h0
 · rw[List.eq_nil_of_length_eq_zero h0] at hy;cases hy
 · rw[List.getLast?_eq_getElem?,List.getElem?_eq_getElem ab] at hy
   injection hy with hy;subst hy;obtain⟨h1,h2,h3⟩:=l7 r ho (r.rs.length-1) ab fun m hm _=>h m hm;exact⟨h1,by omega,h3⟩
theorem zg (r:RngP) (h:∀m (hm:m<r.rs.length),dY r.r.o r.r.s (cg r.rs m) r.rs[m]=0):r.rs=[]∨1≤r.r.o:=by
 rcases Nat.eq_zero_or_pos r.rs.length with h0 | h0
 · exact .inl (List.eq_nil_of_length_eq_zero h0)
 · right
   have h1:=(recE_zero.1 (h 0 h0)).2.2.1;unfold cg gp at h1;simp only[if_true,Bool.and_eq_true,beq_iff_eq,decide_eq_true_eq] at h1;omega
theorem nG (r:RngP) (A:Option Addr) (c:Nat) (w:World) (hr:Rd w w.heap.size A (cc r.rs)) (hlen:r.rs.length≤1000) (hx:∀x∈r.rs,I6 x.l) :
 Calls Tryz.prog 105 #[cJ r A c] w fun e w'=>e=.returned (.tuple #[.int .i64 (de r).1,.int .i64 (de r).2])∧Below w.heap.size w w':=by
 refine al (N:=96) Tryz.func105 rfl rfl rfl (fun _ Y=>?_);have Z:=St.init w;refine ah (ao ?_);refine nb Y rfl rfl Z fun b1 _ _ Zs h1 Z=>?_;refine GO 1 ?_;intro _ h2;refine GO 4 ?_;intro _ Y;apply aH Y (eZ 5) _ aa
 case h=>
  refine GO 1 ?_;intro _ Y;refine GO 1 ?_;intro _ h5;refine gd h5 rfl (fun X hX=>qe _ _) fun _ Y=>?_;refine GO 1 ?_;intro _ Y;refine qv Y (fun X hX=>ai aa aa (Y.ev rfl) ((Z.grow hX).cellsOf (i:=0) rfl 1 3)) fun _ Y=>?_;refine av ?_;refine aP fun _ Zl Zt=>?_;have Z:=Z.grow Zl;refine cE Y rfl Z (lE r.r _) fun _ _ Y Z=>?_;refine bw Y (wn rfl) (f:=fun b=>.slice (some ⟨b,0,none⟩) 2 2) (aX Tryz.underlying214 aa aa (Y.evs2 rfl) rfl rfl rfl aq aq) rfl rfl Z fun b15 _ _ Zm Y Za=>?_;refine cC Y rfl (fv (Za.at_ (i:=0) rfl)) fun _ Y=>?_;refine GO 6 ?_;intro _ Y;refine vf Y 4 4 fun _ Y=>?_;refine sv Y (ai aa aa (Y.ev rfl) (Za.cellsOf (i:=1) rfl 4 3)) fun _ Y=>?_;refine sv Y (ay (zs:=[.int .i64 0,.int .i64 0,.int .i64 0]) (pl:=[(0,1),(1,1),(2,1)]) aa aa (Y.evs2 rfl) rfl rfl) fun _ Y=>?_;refine sv Y (l4 (ks:=[.i .i64,.i .i64,.i .i64]) aa Tryz.underlying70 aa (Y.ev rfl) (Y.ev rfl) rfl rfl) fun _ Zb=>?_;refine ae (ag ?_);refine dJ Zb Za [(4,.int .i64 (ar [iD r.pg,eI r.r,ie r]))] [3,2,1] ?_ (fun _ _ Y Z=>?_)
  ·
   refine ak (Zb.ev rfl) (fun Zf=>?_) (fun Zf=>?_)
   ·
    apply aH Zb (eZ 13) _ aa
    case h=>
     refine GO 1 ?_;intro _ Y;refine qv Y (fun X hX=>fx 4 4 (Y.ev rfl)) fun _ Y=>?_;refine qv Y (fun X hX=>ai aa aa (Y.ev rfl) ((Za.grow hX).cellsOf (i:=1) rfl 4 3)) fun _ Y=>?_;refine lT Y rfl (fun X hX=>lE r.e _) fun _ Y=>?_;refine qv Y (fun X hX=>fx 4 4 (Y.ev rfl)) fun _ Y=>?_;refine qv Y (fun X hX=>fx 0 4 (Y.ev rfl)) fun _ Y=>?_;refine GO 2 ?_;intro _ Y;refine qv Y (fun X hX=>fx 0 1 (Y.ev rfl)) fun _ Y=>?_;refine GO 1 ?_;intro _ Y;refine qv Y (fun X hX=>p6 (Y.ev rfl) (Y.ev rfl)) fun _ Y=>?_;refine GO 1 ?_;intro _ Y;refine gd Y rfl (fun X hX=>aM _ _ _) fun _ Y=>?_;refine av ?_;refine aP fun _ Zg Zn=>?_;have Z:=Za.grow Zg;refine bw Y (wn rfl) (f:=fun b=>.slice (some ⟨b,0,none⟩) 3 3) (aX Tryz.underlying214 aa aa (Y.evs2 rfl) rfl rfl rfl aq aq) rfl rfl Z fun b34 _ _ Zo Y Z=>?_;refine cC Y rfl (ej (Z.at_ (i:=0) rfl)) fun _ Y=>?_;refine GO 3 ?_;intro _ Y
     have he:r.e≠rst0:=by
      have e1:(!kO [.int .i64 r.e.s,.int .i64 r.e.c,.int .i64 r.e.o] [.int .i64 rst0.s,.int .i64 rst0.c,.int .i64 rst0.o])=true:=Zf;rw[l9] at e1;simpa using e1
     have e2:ar [ar [iD r.pg,eI r.r],eI r.e,bn (r.e.s==IntKind.i64.wrap (r.r.s-1)) 9]=ar [iD r.pg,eI r.r,ie r]:=by
      rw[rY];unfold ie;rw[if_neg he];simp only[ar]
      by_cases h1:iD r.pg=0<;>by_cases h2:eI r.r=0<;>simp only[h1,h2,if_true,if_false]
      have Y:nZ r.r=true:=by unfold eI at h2;exact(aL aq).1 h2
      have Y:=pX Y;rw[cA ab]
      by_cases h5:eI r.e=0<;>simp[h5]
     rw[e2] at Y;exact⟨Y.re bz,Z.sub (.cons _ (.cons_cons _ (.cons_cons _ .slnil)))⟩
    case hB=>kernel_rfl
    case hst=>rfl
   ·
    refine wp_skip (ag ?_)
    have he:r.e=rst0:=by
     have e1:(!kO [.int .i64 r.e.s,.int .i64 r.e.c,.int .i64 r.e.o] [.int .i64 rst0.s,.int .i64 rst0.c,.int .i64 rst0.o])=false:=Zf;rw[l9] at e1;simpa using e1
    have e2:ar [iD r.pg,eI r.r]=ar [iD r.pg,eI r.r,ie r]:=by
     unfold ie;rw[if_pos he,pS]
    rw[e2] at Zb;exact⟨Zb.re bz,Za⟩
  ·
   have hd:ar [ar [iD r.pg,eI r.r,ie r],bn (bf r.nx 0 100000000&&r.nx % 8==0) 2,bn (decide ((r.rs.length:Int)≤100)) 8]=ei r:=by
    rw[qp];unfold ei ig;have:decide ((r.rs.length:Int)≤100)=decide (r.rs.length≤100):=decide_eq_decide.2 ab;rw[this]
   refine ag (ah ?_);apply aH Y (eZ 16) _ aa
   case h=>
    refine GO 1 ?_;intro _ Y;refine qv Y (fun X hX=>fx 8 8 (Y.ev rfl)) fun _ Y=>?_;refine GO 1 ?_;intro _ Y;refine gd Y rfl (fun X hX=>bV _ _ _ _) fun _ Y=>?_;refine GO 1 ?_;intro _ Y;apply iF Y 40 rfl 5 45
    case ht=>
     intro Zc;refine qy Y (fun X hX=>(fx 8 8 (Y.ev rfl))) fun _ Y=>?_;refine GO 1 ?_;intro _ Y;refine qy Y (fun X hX=>(js (Y.ev rfl) (Y.ev rfl) (by have:=Zc;rw[inB_true] at this;omega))) fun _ Y=>?_;refine GO 2 ?_;intro _ Y;exact av (Y.midE 4)
    case hf=>
     intro Zc;refine GO 5 ?_;intro _ Y;exact av (Y.midE 4)
    case h=>
     intro _ Y;refine gd Y rfl (fun X hX=>aM _ _ _) fun _ Y=>?_;refine qv Y (fun X hX=>fx 7 7 (Y.ev rfl)) fun _ Y=>?_;refine GO 3 ?_;intro _ Y;refine gd Y rfl (fun X hX=>aM _ _ _) fun _ Y=>?_;refine av ?_;refine aP fun _ Zh Zp=>?_;have Z:=Z.grow Zh;refine bw Y (wn rfl) (f:=fun b=>.slice (some ⟨b,0,none⟩) 3 3) (aX Tryz.underlying214 aa aa (Y.evs2 rfl) rfl rfl rfl aq aq) rfl rfl Z fun b52 _ _ Zq Y Z=>?_;refine cC Y rfl (ej (Z.at_ (i:=0) rfl)) fun _ Y=>?_;refine GO 10 ?_;intro _ Y;refine ak (Y.ev rfl) (fun Zi=>?_) (fun Zi=>?_)
     ·
      have hne:ei r≠0:=by rw[←hd];simpa using Zi
      refine GO 9 ?_;intro _ Y;refine bC Y rfl rfl rfl ?_;refine⟨?_,Z.below⟩;rw[hd];unfold de;rw[if_pos hne]
     ·
      have hz:ei r=0:=by rw[←hd];simpa using Zi
      have hH:=head_iff.1 hz;have ho:=hH.rr.2.2;have hnx:=hH.nx;have hpg:=hH.pg;refine wp_skip (ag (ah (ah (ao ?_))));refine vf Y 7 7 fun _ Y=>?_;refine GO 1 ?_;intro _ Y;refine sv Y (eL (Y.evs rfl) (Y.evs rfl)) fun _ Y=>?_;refine cE Y rfl Z (qw (fun k x=>dY r.r.o r.r.s (cg r.rs k) x) r.rs A c 166 [.pointer (some ⟨b1,0,none⟩)] _ (Z.rd0 hr) hlen a8 (fun X hX k hk hz'=>yg r A c k b1 _ X (Box.below (Z.at_ (i:=2) rfl) hX) ((Z.rd0 hr).below' hX) hk (hx _ (List.getElem_mem _)) (BX r ho.2 hlen k hk hz') ho hlen)) fun _ _ Y Z=>?_;refine GO 13 ?_;intro _ Y;refine ak (Y.ev rfl) (fun Zj=>?_) (fun Zj=>?_)
      ·
       have hre:(lv r).2≠0:=by unfold lv;simpa using Zj
       refine GO 10 ?_;intro _ Y;refine bC Y rfl rfl rfl ?_;refine⟨?_,Z.below⟩;unfold de;rw[if_neg (by simpa using hz),if_pos hre];rfl
      ·
       have hre:(lv r).2=0:=by unfold lv;simpa using Zj
       have hall:∀m (hm:m<r.rs.length),dY r.r.o r.r.s (cg r.rs m) r.rs[m]=0:=fun m hm=>by
        have:=jm _ _ _ hre m hm;rw[Nat.zero_add] at this;exact this
       have hlast:=qZ r ho.2 hlen hall;have ho1:r.rs=[]∨(1≤r.r.o∧r.r.o≤100000000):=(zg r hall).imp_right fun h=>⟨h,ho.2⟩;refine wp_skip (ag (ah (ao ?_)));refine sv Y (ai aa aa (Y.ev rfl) (Z.cellsAll (i:=2) rfl)) fun _ Y=>?_;refine cE Y rfl Z (wS r A c _ (Z.rd0 hr) hlast ho1 hlen) fun _ _ Y Z=>?_;refine GO 8 ?_;intro _ Y;apply aH Y (eZ 20) _ aa
       case h=>
        refine qv Y (fun X hX=>ai aa aa (Y.ev rfl) ((Z.grow hX).cellsAll (i:=2) rfl)) fun _ Y=>?_;refine lT Y rfl (fun X hX=>se r A c _ ((Z.grow hX).rd0 hr) hlast ho ⟨hnx.1,hnx.2.1⟩ hlen) fun _ Y=>?_;refine GO 1 ?_;intro _ Y;refine qv Y (fun X hX=>fx 1 2 (Y.ev rfl)) fun _ Y=>?_;refine GO 3 ?_;intro _ Y;apply fa Y 79 rfl 7 86
        case hf=>
         intro Zd;refine qy Y (fun X hX=>(fx 7 7 (Y.ev rfl))) fun _ Y=>?_;refine GO 2 ?_;intro _ Y;refine qy Y (fun X hX=>(fx 1 2 (Y.ev rfl))) fun _ Y=>?_;refine GO 1 ?_;intro _ Y;refine mL Y (aj Y _ rfl rfl rfl Zd) rfl rfl (fun X=>(ax a8 (Y.evs rfl) rfl)) (fun X hX=>Ao r.rs A c r.r.c 0 _ ((Z.grow hX).rd0 hr) hlen) fun _ Y=>?_;refine GO 1 ?_;intro _ Y;exact av (Y.midE 6)
        case ht=>
         intro Zd;refine GO 7 ?_;intro _ Y;exact av (Y.midE 6)
        case h=>
         intro _ Y;refine gd Y rfl (fun X hX=>aM _ _ _) fun _ Y=>?_;refine GO 6 ?_;intro _ Y;refine aP fun _ Ze Zk=>?_;have Z:=Z.grow Ze;refine cC Y rfl (aM _ _ _) fun _ Y=>?_;refine bw Y (wn rfl) (f:=fun b=>.slice (some ⟨b,0,none⟩) 3 3) (aX Tryz.underlying214 aa aa (Y.evs2 rfl) rfl rfl rfl aq aq) rfl rfl Z fun b94 _ _ Zr Y Z=>?_;refine cC Y rfl (ej (Z.at_ (i:=0) rfl)) fun _ Y=>?_;refine GO 5 ?_;intro _ Y;refine bC Y rfl rfl rfl ?_;refine⟨?_,Z.below⟩;unfold de;rw[if_neg (by simpa using hz),if_neg (by simpa using hre)];unfold jf;have:decide (r.r.c≥0)=true:=decide_eq_true hH.rr.2.1.1;rw[this,Bool.true_and]
       case hB=>kernel_rfl
       case hst=>rfl
   case hB=>kernel_rfl
   case hst=>rfl
 case hB=>kernel_rfl
 case hst=>rfl
structure OkP (r:RngP):Prop where
 h:HeadP r
 all:∀m (hm:m<r.rs.length),dY r.r.o r.r.s (cg r.rs m) r.rs[m]=0
 t:jf r=0
theorem OkP.o {r:RngP} (h:OkP r):r.rs=[]∨(1≤r.r.o∧r.r.o≤100000000):=(zg r h.all).imp_right fun q=>⟨q,h.h.rr.2.2.2⟩
def sP (l:List RecP) (n:Int):Option RecP:=l.find? fun x=>x.l==n
end Go.Proofs.YtcfdpfmchchkaaaGreatDoor
