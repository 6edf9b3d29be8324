/-
  Chapter 20: the basic functions of the statements.
  Chapter 20: the reference's small functions.
  Chapter 20: the reference's copies and comparisons.
  Chapter 20: the reference's logs closed, appended to and restarted.
  Chapter 20: the reference's validity of logs.
-/
import Derived.Test.YtcfdpfmchchkaaaGreatDoorRgD
namespace Go.Proofs.YtcfdpfmchchkaaaGreatDoor
set_option maxHeartbeats 1000000
set_option maxRecDepth 4000
set_option linter.unusedVariables false
set_option linter.unusedSimpArgs false
open Go.RowKit Go.Sort
section
variable {P:Program} {ρ:Operand→Value} {X:World} {d:Option Tmp} {ty:TypeId} {ps:String} {af:Array Edge} {g:Option (Nat × Bool)}
theorem Av {x y:Operand} {t t':TypeId} {m n:Int} (hx:ρ x=.int .i64 m) (hy:ρ y=.int .i64 n) (h:0<n∧-4611686018427387904≤m∧m≤4611686018427387904):(execOp ρ ⟨d,.binOp .quo t x y t',ty,ps,af,g⟩).run P X=.ok (.value (.int .i64 (m.tdiv n))) X:=by
 have h0:n≠0:=by omega
 have Y:-4611686018427387904≤m.tdiv n∧m.tdiv n≤4611686018427387904:=by
  rcases Int.le_total 0 m with h2 | h2
  · rw[Int.tdiv_eq_ediv_of_nonneg h2]
    have Y:0≤m / n:=Int.ediv_nonneg h2 ab;have Y:m / n≤m:=Int.ediv_le_self n h2;omega
  · have h5:m.tdiv n = -((-m) / n):=by
     rw[←Int.tdiv_eq_ediv_of_nonneg ab,Int.neg_tdiv,Int.neg_neg]
    have Y:0≤(-m) / n:=Int.ediv_nonneg ab ab;have Y:(-m) / n≤-m:=Int.ediv_le_self n ab;omega
 simp[execOp,hx,hy,eqGuard,binOp,Op.intDiv,h0,cA (n:=m.tdiv n) ab]
theorem zq {x:Operand} {t:TypeId} {m:Int} (hx:ρ x=.int .i64 m) (h:-9223372036854775807≤m∧m<9223372036854775808):(execOp ρ ⟨d,.unOp .neg t x,ty,ps,af,g⟩).run P X=.ok (.value (.int .i64 (-m))) X:=by
 simp[execOp,hx,Op.unary,Op.intArith,cA (n:=-m) ab]
end
theorem yQ (n b:Int) (hb:0<b):(if n.tmod b<0 then n.tdiv b-1 else n.tdiv b)=n / b:=by
 rcases Int.le_total 0 n with h | h
 · rw[Int.tdiv_eq_ediv_of_nonneg h,Int.tmod_eq_emod_of_nonneg h,if_neg (by have:=Int.emod_nonneg n (b:=b) ab;omega)]
 · have h5:n.tdiv b = -((-n) / b):=by rw[←Int.tdiv_eq_ediv_of_nonneg ab,Int.neg_tdiv,Int.neg_neg]
   have h6:n.tmod b = -((-n) % b):=by rw[←Int.tmod_eq_emod_of_nonneg ab,Int.neg_tmod,Int.neg_neg]
   rw[h5,h6];have e1:=Int.mul_ediv_add_emod (-n) b;have e2:=Int.emod_nonneg (-n) (b:=b) ab;have e3:=Int.emod_lt_of_pos (-n) hb;generalize hq:(-n) / b=q at e1 ⊢;generalize hr:(-n) % b=r at e1 e2 e3 ⊢;by_cases hz:r=0
   · subst hz
     rw[if_neg ab]
     have:n=(-q)*b:=by rw[Int.neg_mul,Int.mul_comm];omega
     rw[this,Int.mul_ediv_cancel _ ab]
   · rw[if_pos ab]
     have:n=(b-r)+b*(-q-1):=by rw[Int.mul_sub,Int.mul_neg,Int.mul_one];omega
     rw[this,Int.add_mul_ediv_left _ _ ab,Int.ediv_eq_zero_of_lt ab ab];omega
theorem u5 (n b:Int) (h:0<b∧-4611686018427387904≤n∧n≤4611686018427387904) (w:World) :
 Calls Tryz.prog 247 #[.int .i64 n,.int .i64 b] w fun e w'=>e=.returned (.int .i64 (n / b))∧w=w':=by
 have hfe:=yQ n b h.1
 have hdb:-4611686018427387904≤n.tdiv b∧n.tdiv b≤4611686018427387904:=by
  rcases Int.le_total 0 n with h2 | h2
  · rw[Int.tdiv_eq_ediv_of_nonneg h2]
    have Y:0≤n / b:=Int.ediv_nonneg h2 ab;have Y:n / b≤n:=Int.ediv_le_self b h2;omega
  · have h5:n.tdiv b = -((-n) / b):=by rw[←Int.tdiv_eq_ediv_of_nonneg ab,Int.neg_tdiv,Int.neg_neg]
    have Y:0≤(-n) / b:=Int.ediv_nonneg ab ab;have Y:(-n) / b≤-n:=Int.ediv_le_self b ab;omega
 refine al (N:=16) Tryz.func247 rfl rfl rfl (fun _ Y=>?_);have S0:=St.init w;refine GO 9 ?_;intro _ Y;refine sv Y (Av (Y.ev rfl) (Y.ev rfl) h) fun _ Y=>?_;refine GO 8 ?_;intro _ Y;refine sv Y (uz (Y.ev rfl) (Y.ev rfl) ab) fun _ Y=>?_;refine GO 3 ?_;intro _ Y;refine ak (Y.ev rfl) (fun Za=>?_) (fun Za=>?_)
 ·
  rw[if_pos (of_decide_eq_true Za)] at hfe;refine GO 2 ?_;intro _ Y;refine sv Y (ek (Y.ev rfl) (Y.ev rfl) ⟨by omega,by omega⟩) fun _ Y=>?_;refine GO 10 ?_;intro _ Y;refine aD Y rfl rfl ?_;exact⟨by rw[hfe],rfl⟩
 ·
  rw[if_neg (of_decide_eq_false Za)] at hfe;refine GO 9 ?_;intro _ Y;refine aD Y rfl rfl ?_;exact⟨by rw[hfe],rfl⟩
theorem qE (n b:Int) (h:0<b∧-4611686018427387904≤n∧n≤4611686018427387904) (w:World) :
 Calls Tryz.prog 232 #[.int .i64 n,.int .i64 b] w fun e w'=>e=.returned (.int .i64 (-((-n) / b)))∧w=w':=by
 have hdb:-4611686018427387904≤(-n) / b∧(-n) / b≤4611686018427387904:=by
  rcases Int.le_total 0 (-n) with h2 | h2
  · have h3:0≤(-n) / b:=Int.ediv_nonneg h2 ab
    have Y:(-n) / b≤-n:=Int.ediv_le_self b h2;omega
  · have h3:(-n) / b<1:=Int.ediv_lt_of_lt_mul h.1 ab
    have Y:-n≤(-n) / b:=(Int.le_ediv_iff_mul_le h.1).2 (by
     have:=Int.mul_le_mul_of_nonpos_left (a:=-n) (b:=b) (c:=1) h2 ab
     omega)
    omega
 refine al (N:=10) Tryz.func232 rfl rfl rfl (fun _ Y=>?_);have S0:=St.init w;refine GO 8 ?_;intro _ h2;refine sv h2 (zq (h2.ev rfl) ab) fun _ h3=>?_;refine GO 1 ?_;intro _ Y;refine cC Y rfl (u5 _ _ ab _) fun _ Y=>?_;refine sv Y (zq (Y.ev rfl) ab) fun _ Y=>?_;refine GO 4 ?_;intro _ Y;refine aD Y rfl rfl ?_;exact⟨rfl,rfl⟩
open Go.RowKit Go.Sort
theorem fZ (n:Int) (w:World):Calls Tryz.prog 227 #[.int .i64 n] w fun e w'=>e=.returned (.bool (ig n))∧w=w':=by
 refine al (N:=5) Tryz.func227 rfl rfl rfl (fun _ Y=>?_);have S0:=St.init w;refine GO 8 ?_;intro _ Y;refine cC Y rfl (a6 _ _ _ _) fun _ Y=>?_;refine GO 4 ?_;intro _ Y;refine aD Y rfl rfl ?_;exact⟨rfl,rfl⟩
theorem oC (n:Int) (h:0≤n∧n≤4611686018427387904) (w:World):Calls Tryz.prog 233 #[.int .i64 n] w fun e w'=>e=.returned (.int .i64 (n / 448))∧w=w':=by
 refine al (N:=5) Tryz.func233 rfl rfl rfl (fun _ Y=>?_);have S0:=St.init w;refine GO 8 ?_;intro _ Y;refine sv Y (jE (Y.ev rfl) (Y.ev rfl) ⟨by omega,by omega,by omega⟩) fun _ Y=>?_;refine GO 4 ?_;intro _ Y;refine aD Y rfl rfl ?_;exact⟨rfl,rfl⟩
theorem mA (n:Int) (h:-1000000000000≤n∧n≤1000000000000) (w:World):Calls Tryz.prog 228 #[.int .i64 n] w fun e w'=>e=.returned (.int .i64 (eU n))∧w=w':=by
 refine al (N:=6) Tryz.func228 rfl rfl rfl (fun _ Y=>?_);have S0:=St.init w;refine GO 8 ?_;intro _ Y;refine cC Y rfl (qE _ _ ab _) fun _ Y=>?_;refine sv Y (eW (Y.ev rfl) (Y.ev rfl) ab) fun _ Y=>?_;refine GO 4 ?_;intro _ Y;refine aD Y rfl rfl ?_;exact⟨by unfold eU;congr 2;omega,rfl⟩
theorem lF (p c:Int) (h:-1000000000000≤p∧p≤1000000000000∧0≤c∧c≤1000000000000) (w:World):Calls Tryz.prog 188 #[.int .i64 p,.int .i64 c] w fun e w'=>e=.returned (.int .i64 (p+nj c))∧w=w':=by
 refine al (N:=11) Tryz.func188 rfl rfl rfl (fun _ Y=>?_);have S0:=St.init w;refine GO 10 ?_;intro _ Y;refine cC Y rfl (qE _ _ ab _) fun _ Y=>?_;refine sv Y (eW (Y.ev rfl) (Y.ev rfl) ab) fun _ Y=>?_;refine GO 5 ?_;intro _ Y;refine aD Y rfl rfl ?_;exact⟨by unfold nj;congr 2;omega,rfl⟩
theorem oh (n:Int) (w:World):Calls Tryz.prog 225 #[.int .i64 n] w fun e w'=>e=.returned (.int .i64 (iD n))∧w=w':=by
 refine al (N:=6) Tryz.func225 rfl rfl rfl (fun _ Y=>?_);have S0:=St.init w;refine GO 8 ?_;intro _ h1;refine GO 1 ?_;intro _ Y;refine cC Y rfl (a6 _ _ _ _) fun _ Y=>?_;refine GO 3 ?_;intro _ Y;refine ak (Y.ev rfl) (fun Za=>?_) (fun Za=>?_)
 ·
  have h1:bf n 4 40=false:=by simpa using Za
  refine GO 7 ?_;intro _ Y;refine aD Y rfl rfl ?_;exact⟨by unfold iD;rw[h1];rfl,rfl⟩
 ·
  have h1:bf n 4 40=true:=by simpa using Za
  refine GO 8 ?_;intro _ Y;refine aD Y rfl rfl ?_;exact⟨by unfold iD;rw[h1];rfl,rfl⟩
theorem gY (x:RstP) (w:World):Calls Tryz.prog 226 #[vl x] w fun e w'=>e=.returned (.int .i64 (eI x))∧Below w.heap.size w w':=by
 refine al (N:=19) Tryz.func226 rfl rfl rfl (fun _ Y=>?_);have Z:=St.init w;refine ah (ao ?_);refine nb Y rfl rfl Z fun b1 _ _ Zg h1 Z=>?_;refine GO 6 ?_;intro _ h2;refine GO 1 ?_;intro _ h3;refine GO 1 ?_;intro _ h4;refine cC h4 rfl (a6 _ _ _ _) fun _ Y=>?_;refine GO 2 ?_;intro _ Y;apply bm Y Z 7 rfl 5 12
 case hf=>
  intro Zc;refine GO 2 ?_;intro _ Y;refine bJ Y (aj Y _ rfl rfl rfl Zc) (ax a8 (Y.evs rfl) rfl) rfl rfl (fZ _ _) fun _ Y=>?_;refine GO 2 ?_;intro _ Y;exact ae ⟨Y.midE 4,Z⟩
 case ht=>
  intro Zc;refine GO 5 ?_;intro _ Y;exact ae ⟨Y.midE 4,Z⟩
 case h=>
  rintro a18 Zh ⟨Zi,Zb⟩
  refine GO 1 ?_;intro _ Y;apply bm Y Zb 13 rfl 5 18
  case hf=>
   intro Za;refine GO 2 ?_;intro _ Y;refine bJ Y (aj Y _ rfl rfl rfl Za) (ax a8 (Y.evs rfl) rfl) rfl rfl (fZ _ _) fun _ Y=>?_;refine GO 2 ?_;intro _ Y;exact ae ⟨Y.midE 4,Zb⟩
  case ht=>
   intro Za;refine GO 5 ?_;intro _ Y;exact ae ⟨Y.midE 4,Zb⟩
  case h=>
   rintro a30 Zj ⟨Ze,Zd⟩
   refine ae (ag ?_);refine ak (Ze.ev rfl) (fun Zf=>?_) (fun Zf=>?_)
   ·
    have h1:nZ x=false:=by
     unfold nZ
     cases h2:bf x.s 1 60000<;>cases h3:ig x.c<;>cases h4:ig x.o<;>simp_all
    refine GO 7 ?_;intro _ Y;refine aD Y rfl rfl ?_;exact⟨by unfold eI;rw[h1];rfl,Zd.below⟩
   ·
    have h1:nZ x=true:=by
     unfold nZ
     cases h2:bf x.s 1 60000<;>cases h3:ig x.c<;>cases h4:ig x.o<;>simp_all
    refine GO 8 ?_;intro _ Y;refine aD Y rfl rfl ?_;exact⟨by unfold eI;rw[h1];rfl,Zd.below⟩
theorem yV {l:List RecP} {n:Int} {k:Nat} (hk:k<l.length) (h:(l.take k).find? (fun x=>x.l==n)=none) (hne:(l[k].l==n)=false):(l.take (k+1)).find? (fun x=>x.l==n)=none:=by
 rw[List.take_add_one,List.getElem?_eq_getElem hk,List.find?_append,h];simp[hne]
theorem zV {l:List RecP} {n:Int} {k:Nat} (hk:k<l.length) (h:(l.take k).find? (fun x=>x.l==n)=none) (he:(l[k].l==n)=true):sP l n=some l[k]:=by
 unfold sP
 conv=>lhs;rw[←List.take_append_drop k l]
 rw[List.find?_append,h,List.drop_eq_getElem_cons hk,List.find?_cons,he];rfl
theorem sF (r:RngP) (A:Option Addr) (c:Nat) (n:Int) (w:World) (hr:Rd w w.heap.size A (cc r.rs)) (hlen:r.rs.length≤1000) :
 Calls Tryz.prog 235 #[cJ r A c,.int .i64 n] w fun e w'=>e=.returned (.tuple #[.string (match sP r.rs n with | some x=>x.b | none=>⟨#[]⟩),.bool (sP r.rs n).isSome])∧Below w.heap.size w w':=by
 refine al (N:=28) Tryz.func235 rfl rfl rfl (fun _ Y=>?_);have Z:=St.init w;refine ah (ao ?_);refine nb Y rfl rfl Z fun b2 _ _ Zd Y Z=>?_;refine GO 11 ?_;intro _ Y;refine aY Y Z [2,1] (fun (k:Nat)=>[(6,.int .i64 (k:Int))]) (fun (k:Nat)=>k≤r.rs.length∧(r.rs.take k).find? (fun x=>x.l==n)=none) (fun (k:Nat) L=>L) (fun (k:Nat)=>r.rs.length-k) (0) (⟨Nat.zero_le _,rfl⟩) bz (Z) ?_;intro k _ _ Za Y Z;refine GO 4 ?_;intro _ Y;refine vf Y 7 7 fun _ Y=>?_;refine GO 5 ?_;intro _ Y;refine ak (Y.ev rfl) (fun Zb=>?_) (fun Zb=>?_)
 ·
  have hlt:k<r.rs.length:=by have:=of_decide_eq_true Zb;omega
  obtain⟨b,o,rfl,hB,_⟩:=hr.opened (by rw[bB];omega);refine wp_skip (ag (ah (wp_block (ah (ao ?_)))));refine vf Y 7 7 fun _ Y=>?_;refine GO 2 ?_;intro _ Y;refine sv Y (au (i:=k) (sz:=3) Tryz.underlying71 aa (Y.ev rfl) (Y.ev rfl) ab ab rfl) fun _ Y=>?_;refine sv Y (fy 0 (Y.ev rfl)) fun _ Y=>?_;refine sv Y (lx (Y.ev rfl) ((recAt (Z.rd0 hr) hlt) 0 _ rfl)) fun _ Y=>?_;refine GO 4 ?_;intro _ Y;refine ak (Y.ev rfl) (fun Zc=>?_) (fun Zc=>?_)
  ·
   refine ah (ao ?_);refine vf Y 7 7 fun _ Y=>?_;refine GO 2 ?_;intro _ Y;refine sv Y (au (i:=k) (sz:=3) Tryz.underlying71 aa (Y.ev rfl) (Y.ev rfl) ab ab rfl) fun _ Y=>?_;refine sv Y (fy 2 (Y.ev rfl)) fun _ Y=>?_;refine sv Y (lx (Y.ev rfl) ((recAt (Z.rd0 hr) hlt) 2 _ rfl)) fun _ Y=>?_;refine GO 10 ?_;intro _ Y;refine bC Y rfl rfl rfl ?_;exact⟨by rw[zV hlt Za.2 Zc];rfl,Z.below⟩
  ·
   refine GO 9 ?_;intro _ Y;exact⟨k+1,ab,⟨hlt,yV hlt Za.2 Zc⟩,Y.re bz,Z⟩
 ·
  have hge:k=r.rs.length:=by have:=of_decide_eq_false Zb;omega
  have hno:sP r.rs n=none:=by have:=Za.2;rwa [hge,List.take_length] at this
  refine GO 12 ?_;intro _ Y;refine bC Y rfl rfl rfl ?_;exact⟨by rw[hno];rfl,Z.below⟩
theorem zZ (l:List RecP) (n:Int):(sP l n).isSome=nX l n:=by
 unfold sP nX;rw[Bool.eq_iff_iff,List.find?_isSome,List.any_eq_true]
theorem xG (r:RngP) (A:Option Addr) (c:Nat) (n:Int) (w:World) (hr:Rd w w.heap.size A (cc r.rs)) (hlen:r.rs.length≤1000) :
 Calls Tryz.prog 192 #[cJ r A c,.int .i64 n] w fun e w'=>e=.returned (.bool (nX r.rs n))∧Below w.heap.size w w':=by
 refine al (N:=14) Tryz.func192 rfl rfl rfl (fun _ Y=>?_);have Z:=St.init w;refine ah (ao ?_);refine nb Y rfl rfl Z fun b2 _ _ Za Y Z=>?_;refine GO 5 ?_;intro _ Y;refine sv (v:=cJ r A c) Y (ai aa aa (Y.ev rfl) (Z.cellsAll (i:=0) rfl)) fun _ Y=>?_;refine GO 1 ?_;intro _ Y;refine cE Y rfl Z (sF r A c n _ (Z.rd0 hr) hlen) fun _ _ Y Z=>?_;refine GO 14 ?_;intro _ Y;refine aD Y rfl rfl ?_;exact⟨by rw[←zZ];rfl,Z.below⟩
theorem v7 (r:RngP) (A:Option Addr) (c:Nat) (w:World) (hr:Rd w w.heap.size A (cc r.rs)) (y:RecP) (hy:r.rs.getLast? = some y) (hb:Bfr y) (hlen:r.rs.length≤1000) :
 Calls Tryz.prog 234 #[cJ r A c] w fun e w'=>e=.returned (.int .i64 (ew y-1))∧Below w.heap.size w w':=by
 have hne:r.rs≠[]:=by intro h;rw[h] at hy;cases hy
 have hpos:=List.length_pos_iff.2 hne
 have hyl:r.rs[r.rs.length-1]=y:=by have:=kn hne;rw[hy] at this;injection this with this;exact this.symm
 have hbd:=hb.bd;unfold Bfr at hb;obtain⟨b,o,rfl,hB,_⟩:=hr.opened (by rw[bB];omega)
 have hcl:∀{X:World} {B:Nat},Rd X B (some ⟨b,o,none⟩) (cc r.rs)→∀(j:Nat) (u:Value),[Value.int .i64 y.l,.int .i64 y.s,.string y.b][j]? = some u→X.cell? ⟨b,o+(r.rs.length-1)*3+j,none⟩=some u:=fun h=>by rw[←hyl];exact recAt h ab
 refine al (N:=20) Tryz.func234 rfl rfl rfl (fun _ Y=>?_);have Z:=St.init w;refine ah (ao ?_);refine nb Y rfl rfl Z fun b1 _ _ Za Y Z=>?_;refine GO 5 ?_;intro _ Y;refine vf Y 7 7 fun _ Y=>?_;refine GO 1 ?_;intro _ Y;refine vf Y 7 7 fun _ Y=>?_;refine GO 3 ?_;intro _ Y;refine sv Y (au (i:=r.rs.length-1) (sz:=3) Tryz.underlying71 aa (Y.ev rfl) (Y.ev rfl) ab ab rfl) fun _ Y=>?_;refine sv (v:=pJ y) Y (ai aa aa (Y.ev rfl) (hcl (Z.rd0 hr))) fun _ Y=>?_;refine na (.agg #[.int .i64 0,.int .i64 0,.string ⟨#[]⟩]) Y rfl Z fun b3 _ _ Zb Y Z=>?_;refine sw Y Z 0 fun _ Z=>?_;refine GO 10 ?_;intro _ Y;refine cC Y rfl (lF _ _ ab _) fun _ Y=>?_;refine sv Y (ek (Y.ev rfl) (Y.ev rfl) ⟨by unfold ew at hbd;omega,by unfold ew at hbd;omega⟩) fun _ Y=>?_;refine GO 4 ?_;intro _ Y;refine aD Y rfl rfl ?_;exact⟨rfl,Z.below⟩
theorem tB (r:RngP) (A:Option Addr) (c:Nat) (w:World) (hr:Rd w w.heap.size A (cc r.rs)) (hb:∀y,r.rs.getLast? = some y→Bfr y) (ho:r.rs=[]∨(1≤r.r.o∧r.r.o≤100000000)) (hlen:r.rs.length≤1000) :
 Calls Tryz.prog 189 #[cJ r A c] w fun e w'=>e=.returned (.tuple #[.int .i64 (fz r).1,.int .i64 (fz r).2])∧Below w.heap.size w w':=by
 refine al (N:=21) Tryz.func189 rfl rfl rfl (fun _ Y=>?_);have Z:=St.init w;refine ah (ao ?_);refine nb Y rfl rfl Z fun b1 _ _ Zb Y Z=>?_;refine GO 7 ?_;intro _ Y;refine vf Y 7 7 fun _ Y=>?_;refine GO 5 ?_;intro _ Y;refine ak (Y.ev rfl) (fun Za=>?_) (fun Za=>?_)
 ·
  have hnil:r.rs=[]:=by simp only[beq_iff_eq] at Za;exact List.eq_nil_of_length_eq_zero ab
  refine GO 8 ?_;intro _ Y;refine bC Y rfl rfl rfl ?_;exact⟨by unfold fz;rw[hnil];rfl,Z.below⟩
 ·
  have hne:r.rs≠[]:=by intro h;rw[h] at Za;simp at Za
  replace ho:=ho.resolve_left hne;have hlast:=kn hne;obtain⟨y,hy⟩:∃y,r.rs.getLast? = some y:=⟨_,hlast⟩;have hyb:=hb _ hy;have hbd:=hyb.bd;refine GO 5 ?_;intro _ Y;refine vf Y 2 3 fun _ Y=>?_;refine GO 2 ?_;intro _ Y;refine cC Y rfl (oC _ ab _) fun _ Y=>?_;refine GO 6 ?_;intro _ Y;refine sv (v:=cJ r A c) Y (ai aa aa (Y.ev rfl) (Z.cellsAll (i:=0) rfl)) fun _ Y=>?_;refine cE Y rfl Z (v7 r A c _ (Z.rd0 hr) y hy hyb hlen) fun _ _ Y Z=>?_;refine cC Y rfl (oC _ ab _) fun _ Y=>?_;refine GO 8 ?_;intro _ Y;refine bC Y rfl rfl rfl ?_;exact⟨by unfold fz;rw[hy],Z.below⟩
open Go.RowKit Go.Sort
theorem wv (r:RngP) (A:Option Addr) (c:Nat) (w:World) (hnil:r.rs=[]) :
 Calls Tryz.prog 44 #[cJ r A c] w fun e w'=>∃A' c',e=.returned (cJ r A' c')∧w'.ownsRow w.heap.size 177 3 (.slice A' r.rs.length c') r.rs.length (cc r.rs)∧Below w.heap.size w w':=by
 obtain⟨pg,rr,ee,rs,nx⟩:=r;have hnil':rs=[]:=hnil;subst hnil';refine al (N:=11) Tryz.func44 rfl rfl rfl (fun _ Y=>?_);have Z:=St.init w;refine ah (ao ?_);refine nb Y rfl rfl Z fun b1 _ _ Za Y Z=>?_;refine na (.agg #[.int .i64 0,.int .i64 0,.int .i64 0,.int .i64 0,.int .i64 0,.int .i64 0,.int .i64 0,.slice none 0 0,.int .i64 0]) Y rfl Z fun b2 _ _ Zb Y Z=>?_;refine pk ?_;refine sv Y (ai aa aa (Y.ev rfl) (Z.cellsAll (i:=1) rfl)) fun _ Y=>?_;refine na (.agg #[.int .i64 0,.int .i64 0,.int .i64 0,.int .i64 0,.int .i64 0,.int .i64 0,.int .i64 0,.slice none 0 0,.int .i64 0]) Y rfl Z fun b3 _ _ Zc Y Z=>?_;refine sw Y Z 0 fun _ Z=>?_;refine pk ?_;refine dd (zc:=[.int .i64 0,.int .i64 0,.string ⟨#[]⟩]) (sz:=3) Y (wn rfl) ⟨rfl,rfl⟩ rfl Tryz.underlying71 aa aa rfl rfl rfl (Y.evs2 rfl) rfl rfl rfl Z fun b5 _ _ Zd Y Z=>?_;refine vf Y 7 7 fun _ Y=>?_;refine GO 1 ?_;intro _ Y;refine mo (sz:=3) Y (wn rfl) ⟨rfl,rfl⟩ rfl Tryz.underlying71 aa (Y.ev rfl) (Y.ev rfl) fun _ Y=>?_;refine vf Y 7 7 fun _ Y=>?_;refine aN Y (wn rfl) ⟨rfl,rfl⟩ (Y.ev rfl) (Y.ev rfl) rfl aa Z (i:=1) rfl rfl rfl fun _ Z=>?_;refine pk ?_;refine sv Y (ai aa aa (Y.ev rfl) (Z.cellsAll (i:=1) rfl)) fun _ Y=>?_;refine sw Y Z 2 fun _ Z=>?_;refine ae (ag (wp_ret ?_));refine kN Y rfl rfl Z (i:=2) rfl aa aa ?_;have q:=(Z.toRow (i:=0) (n:=0) (sz:=3) rfl rfl aq).ownB (i:=0) rfl;exact⟨some ⟨b5,0,none⟩,0,rfl,q,Z.below⟩
theorem wA (r:RngP) (A:Option Addr) (c:Nat) (w:World) (hr:Rd w w.heap.size A (cc r.rs)) (hlen:r.rs.length≤1000) :
 Calls Tryz.prog 44 #[cJ r A c] w fun e w'=>∃A' c',e=.returned (cJ r A' c')∧w'.ownsRow w.heap.size 177 3 (.slice A' r.rs.length c') r.rs.length (cc r.rs)∧Below w.heap.size w w':=by
 rcases Nat.eq_zero_or_pos r.rs.length with h0 | h0
 · exact wv r A c w (List.eq_nil_of_length_eq_zero h0)
 refine al (N:=11) Tryz.func44 rfl rfl rfl (fun _ h0=>?_);have Z:=St.init w;refine ah (ao ?_);refine nb h0 rfl rfl Z fun b1 _ _ Za Y Z=>?_;refine na (.agg #[.int .i64 0,.int .i64 0,.int .i64 0,.int .i64 0,.int .i64 0,.int .i64 0,.int .i64 0,.slice none 0 0,.int .i64 0]) Y rfl Z fun b2 _ _ Zb Y Z=>?_;refine pk ?_;refine sv Y (ai aa aa (Y.ev rfl) (Z.cellsAll (i:=1) rfl)) fun _ Y=>?_;refine na (.agg #[.int .i64 0,.int .i64 0,.int .i64 0,.int .i64 0,.int .i64 0,.int .i64 0,.int .i64 0,.slice none 0 0,.int .i64 0]) Y rfl Z fun b3 _ _ Zc Y Z=>?_;refine sw Y Z 0 fun _ Z=>?_;refine pk ?_;refine dd (zc:=[.int .i64 0,.int .i64 0,.string ⟨#[]⟩]) (sz:=3) Y (wn rfl) ⟨rfl,rfl⟩ rfl Tryz.underlying71 aa aa rfl rfl rfl (Y.evs2 rfl) rfl rfl rfl Z fun b5 _ _ Zd Y Z=>?_;refine vf Y 7 7 fun _ Y=>?_;refine GO 1 ?_;intro _ Y;have Z:=Z.toRow (i:=0) (n:=0) (sz:=3) rfl rfl aq;refine bG (z:=.agg #[.int .i64 0,.int .i64 0,.string ⟨#[]⟩]) (sz:=3) (bytes:=32) Y (wn rfl) ⟨rfl,rfl⟩ rfl Tryz.underlying71 aa rfl rfl (Y.ev rfl) (Y.ev rfl) Z (i:=0) rfl (Z.rd0 hr) (bB r.rs) (uW r.rs) ⟨ab,by decide⟩ fun A8 c8 _ _ Y Z=>?_;refine vf Y 7 7 fun _ Y=>?_;refine aN Y (wn rfl) ⟨rfl,rfl⟩ (Y.ev rfl) (Y.ev rfl) rfl aa Z (i:=1) rfl rfl rfl fun _ Z=>?_;rw[Nat.zero_add] at Z;refine pk ?_;refine sv Y (ai aa aa (Y.ev rfl) (Z.cellsAll (i:=1) rfl)) fun _ Y=>?_;refine sw Y Z 2 fun _ Z=>?_;refine ae (ag (wp_ret ?_));refine kN Y rfl rfl Z (i:=2) rfl aa aa ?_;exact⟨A8,c8,rfl,Z.ownB (i:=0) rfl,Z.below⟩
open Go.RowKit Go.Sort
theorem aS (a:Int) (l:List Int):ar (a::l)=if a=0 then ar l else a:=by
 by_cases h:a=0
 · rw[if_pos h,h];rfl
 · rw[if_neg h];simp[ar,h]
variable {ds:List Deferred}
open Go.RowKit Go.Sort
variable {ds:List Deferred}
theorem gy {r:RngP} {e:Int} (h:ei r=e) (he:e≠0):de r=(0,e):=by
 unfold de;rw[if_pos (by rw[h];exact he),h]
theorem iT {r:RngP} {k:Nat} {e:Int} (hh:ei r=0) (hk:k<r.rs.length) (hall:∀m (hm:m<r.rs.length),m<k→dY r.r.o r.r.s (cg r.rs m) r.rs[m]=0) (h:dY r.r.o r.r.s (cg r.rs k) r.rs[k]=e) (he:e≠0):de r=((k:Int),e):=by
 have Y:=cP (fun i x=>dY r.r.o r.r.s (cg r.rs i) x) r.rs 0 k hk (fun m hm hmk=>by rw[Nat.zero_add];exact hall m hm hmk) (by rw[Nat.zero_add,h];exact he);rw[Nat.zero_add,h] at Y;have Y:lv r=((k:Int),e):=Y;unfold de;rw[if_neg (by rw[hh];decide),Y,if_pos he]
theorem yD {r:RngP} (hh:ei r=0) (hall:∀m (hm:m<r.rs.length),dY r.r.o r.r.s (cg r.rs m) r.rs[m]=0):de r=(0,jf r):=by
 have Y:=cN (fun i x=>dY r.r.o r.r.s (cg r.rs i) x) r.rs 0 (fun m hm=>by rw[Nat.zero_add];exact hall m hm);have Y:lv r=(0,0):=Y;unfold de;rw[if_neg (by rw[hh];decide),Y,if_neg aq]
def atR (r:RngP) (k:Nat):Int:=match cg r.rs k with
 | none=>r.r.o-1
 | some y=>ew y
def Bv (r:RngP) (k:Nat):Int:=match cg r.rs k with
 | none=>0
 | some y=>y.s
theorem mf {l:List RecP} {k:Nat} (h0:0<k) (hk:k≤l.length):∃y,cg l k=some y:=by
 unfold cg;rw[if_neg ab,List.getElem?_eq_getElem ab];exact⟨_,rfl⟩
theorem yw (r:RngP) (ho:r.r.o≤100000000) (hlen:r.rs.length≤1000) (k:Nat) (hk:k≤r.rs.length) (h:∀m (hm:m<r.rs.length),m<k→dY r.r.o r.r.s (cg r.rs m) r.rs[m]=0):∀y,cg r.rs k=some y→Bfr y∧y.l≤104000000∧1≤y.s∧y.s≤r.r.s:=fun y hy=>by
 unfold cg at hy
 split at hy
 · cases hy
 · rename_i h0
   have hk1:k-1<r.rs.length:=by omega
   rw[List.getElem?_eq_getElem hk1] at hy;injection hy with hy;have hb:=l7 r ho (k-1) hk1 (fun m hm hmk=>h m hm ab);have hz:=(recE_zero.1 (h (k-1) hk1 ab)).2.2.2.1;rw[inB_true] at hz;rw[hy] at hb hz;exact⟨⟨hb.1,by omega,hb.2.2⟩,by omega,hz⟩
theorem zk {r:RngP} {k:Nat} {x:RecP} (hk:k≤r.rs.length) (hs:1≤x.s):(decide (x.s<Bv r k)||(decide ((k:Int)>0)&&decide (x.s>Bv r k)&&((x.l-1) % 448 != 0)))=!seqB (cg r.rs k) x:=by
 unfold Bv;rcases Nat.eq_zero_or_pos k with h0 | h0
 · subst h0
   have:cg r.rs 0=none:=rfl;rw[this];simp only[seqB];simp;omega
 · obtain⟨y,hy⟩:=mf h0 hk
   rw[hy];simp only[seqB];rw[decide_eq_true (show(k:Int)>0 by omega),Bool.true_and];rcases Int.lt_trichotomy x.s y.s with h | h | h
   · have e1:(x.s==y.s)=false:=by rw[beq_eq_false_iff_ne];omega
     rw[decide_eq_true h,e1,decide_eq_false (show ¬y.s<x.s by omega)];rfl
   · rw[h,decide_eq_false (show ¬y.s<y.s by omega)];simp
   · have e1:(x.s==y.s)=false:=by rw[beq_eq_false_iff_ne];omega
     rw[decide_eq_false (show ¬x.s<y.s by omega),e1,decide_eq_true h];simp[bne]
theorem sj {l:List RecP} {k:Nat} (h:k<l.length):cg l (k+1)=some l[k]:=by
 unfold cg;rw[if_neg ab,show k+1-1=k by omega,List.getElem?_eq_getElem h]
theorem Ci {o:Int} {f:Option RecP} {x:RecP} (h:gp o f x=true) (ho:o≤100000000) (hf:∀y,f=some y→Bfr y):1≤x.l∧x.l≤700000001:=by
 cases f with
 | none=>
  simp only[gp,Bool.and_eq_true,beq_iff_eq,decide_eq_true_eq] at h;omega
 | some y=>
  have hb:=(hf y rfl).bd;simp only[gp,Bool.or_eq_true,beq_iff_eq] at h;omega
theorem oA {r:RngP} {e:Int} (h:fA r=e) (he:e≠0):jf r=e:=by
 unfold jf;rw[aS,if_neg (by rw[h];exact he),h]
theorem nB (r:RngP) (A:Option Addr) (c:Nat) (w:World) (hr:Rd w w.heap.size A (cc r.rs)) (hlen:r.rs.length≤1000) (hx:∀x∈r.rs,I6 x.l) :
 Calls Tryz.prog 177 #[cJ r A c] w fun e w'=>e=.returned (.tuple #[.int .i64 (de r).1,.int .i64 (de r).2])∧Below w.heap.size w w':=by
 refine al (N:=208) Tryz.func177 rfl rfl rfl (fun _ h0=>?_);have Z:=St.init w;refine ah (ao ?_);refine nb h0 rfl rfl Z fun b1 _ _ Jq h1 Z=>?_;refine GO 1 ?_;intro _ h2;refine GO 8 ?_;intro _ Y;refine cC Y rfl (oh _ _) fun _ Y=>?_;refine GO 9 ?_;intro _ Y;refine ak (Y.ev rfl) (fun Qo=>?_) (fun Qo=>?_)
 ·
  have hch:de r=(0,iD r.pg):=gy (by unfold ei;rw[aS,if_neg (by simpa using Qo)]) (by simpa using Qo);refine GO 9 ?_;intro _ Y;refine bC Y rfl rfl rfl ?_;exact⟨by rw[hch],Z.below⟩
 ·
  have hz1:iD r.pg=0:=by simpa using Qo
  refine GO 6 ?_;intro _ Y;refine sv (v:=vl r.r) Y (ai aa aa (Y.ev rfl) (Z.cellsOf (i:=0) rfl 1 3)) fun _ Y=>?_;refine cE Y rfl Z (gY r.r _) fun _ _ Y Zx=>?_;refine GO 9 ?_;intro _ Y;refine ak (Y.ev rfl) (fun Qp=>?_) (fun Qp=>?_)
  ·
   have hch:de r=(0,eI r.r):=gy (by unfold ei;rw[aS,if_pos hz1,aS,if_neg (by simpa using Qp)]) (by simpa using Qp);refine GO 9 ?_;intro _ Y;refine bC Y rfl rfl rfl ?_;exact⟨by rw[hch],Zx.below⟩
  ·
   have hz2:eI r.r=0:=by simpa using Qp
   have hrb:=pX ((aL aq).1 hz2);refine wp_skip (ag (ah (ah (ao ?_))));refine vf Y 4 4 fun _ Y=>?_;refine sv (v:=vl r.e) Y (ai aa aa (Y.ev rfl) (Zx.cellsOf (i:=0) rfl 4 3)) fun _ Y=>?_;refine sv (v:=vl rst0) Y (ay (zs:=[.int .i64 0,.int .i64 0,.int .i64 0]) (pl:=[(0,1),(1,1),(2,1)]) aa aa (Y.evs2 rfl) rfl rfl) fun _ Y=>?_;refine sv Y (l4 (ks:=[.i .i64,.i .i64,.i .i64]) aa Tryz.underlying70 aa (Y.ev rfl) (Y.ev rfl) rfl rfl) fun _ Qq=>?_;refine ae (ag ?_);refine kf (F:=ie r=0) Qq Zx [] [1] ?_ (fun _ _ Y Z hz3=>?_)
   ·
    refine ak (Qq.ev rfl) (fun Qt=>?_) (fun Qt=>?_)
    ·
     have hne:¬r.e=rst0:=by
      have e1:(!kO [.int .i64 r.e.s,.int .i64 r.e.c,.int .i64 r.e.o] [.int .i64 rst0.s,.int .i64 rst0.c,.int .i64 rst0.o])=true:=Qt;rw[l9] at e1;simpa using e1
     refine ah (ah (ao ?_));refine vf Qq 4 4 fun _ Y=>?_;refine sv (v:=vl r.e) Y (ai aa aa (Y.ev rfl) (Zx.cellsOf (i:=0) rfl 4 3)) fun _ Y=>?_;refine cE Y rfl Zx (gY r.e _) fun _ _ Y Z=>?_;refine GO 9 ?_;intro _ Y;refine ak (Y.ev rfl) (fun Zy=>?_) (fun Zy=>?_)
     ·
      have hear:ie r=eI r.e:=by unfold ie;rw[if_neg hne,aS,if_neg (by simpa using Zy)]
      have hch:de r=(0,eI r.e):=gy (by unfold ei;rw[aS,if_pos hz1,aS,if_pos hz2,aS,if_neg (by rw[hear];simpa using Zy),hear]) (by simpa using Zy);refine GO 11 ?_;intro _ Y;refine bC Y rfl rfl rfl ?_;exact⟨by rw[hch],Z.below⟩
     ·
      have hz4:eI r.e=0:=by simpa using Zy
      refine wp_skip (ag (ah (ao ?_)));refine vf Y 4 4 fun _ Y=>?_;refine vf Y 0 4 fun _ Y=>?_;refine GO 2 ?_;intro _ Y;refine vf Y 0 1 fun _ Y=>?_;refine GO 5 ?_;intro _ Y;refine ak (Y.ev rfl) (fun Qu=>?_) (fun Qu=>?_)
      ·
       have hch:de r=(0,9):=gy (by
        have:(r.e.s==r.r.s-1)=false:=by rw[beq_eq_false_iff_ne];simpa using Qu
        unfold ei ie;rw[aS,if_pos hz1,aS,if_pos hz2,aS,if_neg hne,aS,if_pos hz4,aS,this];rfl) aq
       refine GO 9 ?_;intro _ Y;refine bC Y rfl rfl rfl ?_;exact⟨by rw[hch],Z.below⟩
      ·
       have hz3:ie r=0:=by
        have:(r.e.s==r.r.s-1)=true:=by rw[beq_iff_eq];simpa using Qu
        unfold ie;rw[if_neg hne,aS,if_pos hz4,aS,this];rfl
       refine wp_skip (ag ?_);exact⟨Y.re ⟨rfl,trivial⟩,Z,hz3⟩
    ·
     have he0:r.e=rst0:=by
      have e1:(!kO [.int .i64 r.e.s,.int .i64 r.e.c,.int .i64 r.e.o] [.int .i64 rst0.s,.int .i64 rst0.c,.int .i64 rst0.o])=false:=Qt;rw[l9] at e1;simpa using e1
     have hz3:ie r=0:=by unfold ie;rw[if_pos he0]
     refine wp_skip (ag ?_);exact⟨Qq.re ⟨rfl,trivial⟩,Zx,hz3⟩
   ·
    refine ag (ah (ah (ao ?_)));refine vf Y 8 8 fun _ Y=>?_;refine GO 1 ?_;intro _ Y;refine cC Y rfl (fZ _ _) fun _ Y=>?_;refine GO 2 ?_;intro _ Y;apply bm Y Z 47 rfl 5 52
    case hf=>
     intro Zz;refine sy Y (fx 8 8 (Y.ev rfl)) fun _ Y=>?_;refine GO 1 ?_;intro _ Y;refine sy Y (js (Y.ev rfl) (Y.ev rfl) ⟨by have:=inB_true.1 (by simpa using Zz:ig r.nx=true);omega,by omega⟩) fun _ Y=>?_;refine GO 2 ?_;intro _ Y;exact ae ⟨Y.midE 4,Z⟩
    case ht=>
     intro Zz;refine GO 5 ?_;intro _ Y;exact ae ⟨Y.midE 4,Z⟩
    case h=>
     rintro a61 Jr ⟨Ja,Qr⟩
     refine ae (ag ?_);refine ak (Ja.ev rfl) (fun Zm=>?_) (fun Zm=>?_)
     ·
      have hch:de r=(0,2):=gy (by
       have:(ig r.nx&&r.nx % 8==0)=false:=by
        cases h:ig r.nx with
        | false=>rfl
        | true=>
         rw[h] at Zm
         simpa [bne] using Zm
       unfold ei;rw[aS,if_pos hz1,aS,if_pos hz2,aS,if_pos hz3,aS,this];rfl) aq
      refine GO 8 ?_;intro _ Y;refine bC Y rfl rfl rfl ?_;exact⟨by rw[hch],Qr.below⟩
     ·
      have hz5:(ig r.nx&&r.nx % 8==0)=true:=by
       cases h:ig r.nx with
       | false=>rw[h] at Zm;simp at Zm
       | true=>
        rw[h] at Zm
        simpa [bne] using Zm
      have hnx:=inB_true.1 (Bool.and_eq_true_iff.1 hz5).1;refine wp_skip (ag (ah (ah (ao ?_))));refine vf Ja 7 7 fun _ Y=>?_;refine GO 5 ?_;intro _ Y;refine ak (Y.ev rfl) (fun Qv=>?_) (fun Qv=>?_)
      ·
       have hch:de r=(0,8):=gy (by
        have Y:(r.rs.length:Int)>100:=of_decide_eq_true Qv
        have:decide (r.rs.length≤100)=false:=by rw[decide_eq_false_iff_not];omega
        unfold ei;rw[aS,if_pos hz1,aS,if_pos hz2,aS,if_pos hz3,aS,hz5,if_pos (jI 2),aS,this];rfl) aq
       refine GO 8 ?_;intro _ Y;refine bC Y rfl rfl rfl ?_;exact⟨by rw[hch],Qr.below⟩
      ·
       have Y:r.rs.length≤100:=by have:=of_decide_eq_false Qv;omega
       have hh:ei r=0:=by
        unfold ei;rw[aS,if_pos hz1,aS,if_pos hz2,aS,if_pos hz3,aS,hz5,if_pos (jI 2),aS,decide_eq_true Y];rfl
       refine GO 5 ?_;intro _ Y;refine vf Y 2 3 fun _ Y=>?_;refine GO 13 ?_;intro _ Y;refine aY Y Qr [1] (fun (k:Nat)=>[(9,.int .i64 (k:Int)),(7,.int .i64 (atR r k)),(8,.int .i64 (Bv r k))]) (fun (k:Nat)=>k≤r.rs.length∧∀m (hm:m<r.rs.length),m<k→dY r.r.o r.r.s (cg r.rs m) r.rs[m]=0) (fun (k:Nat) L=>L) (fun (k:Nat)=>r.rs.length-k) (0) (⟨Nat.zero_le _,fun m hm h=>by omega⟩) bz (Qr) ?_;intro k _ _ Jb Y Zn;refine GO 4 ?_;intro _ Y;refine vf Y 7 7 fun _ Y=>?_;refine GO 5 ?_;intro _ Y;refine ak (Y.ev rfl) (fun Qw=>?_) (fun Qw=>?_)
       ·
        have hlt:k<r.rs.length:=by have:=of_decide_eq_true Qw;omega
        obtain⟨b,o,rfl,_⟩:=hr.opened (by rw[bB];omega);obtain⟨_,hall⟩:=Jb;have hbf:=yw r ab hlen k ab hall;have hxi:I6 r.rs[k].l:=hx _ (List.getElem_mem hlt);unfold I6 at hxi;refine wp_skip (ag (ah (wp_block (ah (ao ?_)))));refine vf Y 7 7 fun _ Y=>?_;refine GO 2 ?_;intro _ Y;refine sv Y (au (i:=k) (sz:=3) Tryz.underlying71 aa (Y.ev rfl) (Y.ev rfl) ab ab rfl) fun _ Y=>?_;refine sv (v:=pJ r.rs[k]) Y (ai aa aa (Y.ev rfl) (recAt (Zn.rd0 hr) hlt)) fun _ Y=>?_;refine na (.agg #[.int .i64 0,.int .i64 0,.string ⟨#[]⟩]) Y rfl Zn fun b10 _ _ Jf Y Z=>?_;refine sw Y Z 0 fun _ Zo=>?_;refine GO 11 ?_;intro _ Y;refine ak (Y.ev rfl) (fun Qs=>?_) (fun Qs=>?_)
        ·
         have hch:de r=((k:Int),17):=iT hh hlt hall (by unfold dY;rw[if_pos (by have:=eq_of_beq Qs;omega)]) aq;refine GO 14 ?_;intro _ Y;refine bC Y rfl rfl rfl ?_;exact⟨by rw[hch],Zo.below⟩
        ·
         have hs0:¬r.rs[k].b.size=0:=by intro h;rw[h] at Qs;exact absurd Qs aq
         refine GO 11 ?_;intro _ Y;refine ak (Y.ev rfl) (fun Qx=>?_) (fun Qx=>?_)
         ·
          have hch:de r=((k:Int),8):=iT hh hlt hall (by unfold dY;rw[if_neg hs0,if_pos (by have:=of_decide_eq_true Qx;omega)]) aq;refine GO 14 ?_;intro _ Y;refine bC Y rfl rfl rfl ?_;exact⟨by rw[hch],Zo.below⟩
         ·
          have hs3:r.rs[k].b.size≤3000:=by have:=of_decide_eq_false Qx;omega
          have hre:dY r.r.o r.r.s (cg r.rs k) r.rs[k]=if gp r.r.o (cg r.rs k) r.rs[k]=false then 9 else if bf r.rs[k].s 1 r.r.s=false then 2 else bn (seqB (cg r.rs k) r.rs[k]) 9:=by
           conv=>lhs;unfold dY
           rw[if_neg hs0,if_neg ab]
          refine GO 9 ?_;intro _ Ze;refine kf (F:=gp r.r.o (cg r.rs k) r.rs[k]=true) Ze Zo [] [84,83,81,80,79,78,76,75,74,73,10,72,71,70,69,68,65,64,63,62,61,9,7,8,1] ?_ (fun _ _ Y Z hord=>?_)
          ·
           refine ak (Ze.ev rfl) (fun Zi=>?_) (fun Zi=>?_)
           ·
            have hk0:k=0:=by have:=eq_of_beq Zi;omega
            have hb0:cg r.rs k=none:=by rw[hk0];rfl
            have hat:atR r k=r.r.o-1:=by unfold atR;rw[hb0]
            rw[hat] at Ze;refine GO 5 ?_;intro _ Y;refine vf Y 2 3 fun _ Y=>?_;refine GO 3 ?_;intro _ Y;apply bm Y Zo 91 rfl 3 94
            case hf=>
             intro Qy;refine GO 3 ?_;intro _ Y;exact ae ⟨Y.midE 2,Zo⟩
            case ht=>
             intro Qy;refine GO 3 ?_;intro _ Y;exact ae ⟨Y.midE 2,Zo⟩
            case h=>
             rintro a120 Jg ⟨Jh,Zp⟩
             refine GO 1 ?_;intro _ Y;apply bm Y Zp 95 rfl 4 99
             case hf=>
              intro Qa;refine GO 1 ?_;intro _ Y;refine sy Y (js (Y.ev rfl) (Y.ev rfl) ⟨by rw[Bool.or_eq_false_iff,decide_eq_false_iff_not] at Qa;omega,by omega⟩) fun _ Y=>?_;refine GO 2 ?_;intro _ Y;exact ae ⟨Y.midE 3,Zp⟩
             case ht=>
              intro Qa;refine GO 4 ?_;intro _ Y;exact ae ⟨Y.midE 3,Zp⟩
             case h=>
              rintro a130 Ji ⟨Zq,Qb⟩
              refine ae (ag ?_);refine ak (Zq.ev rfl) (fun Za=>?_) (fun Za=>?_)
              ·
               have hch:de r=((k:Int),9):=iT hh hlt hall (by
                rw[hre,if_pos];rw[hb0];simp only[gp]
                cases h1:(r.rs[k].l==r.r.o) with
                | false=>rfl
                | true=>
                 have e1:(r.rs[k].l != r.r.o)=false:=by unfold bne;rw[h1];rfl
                 rw[e1,Bool.false_or] at Za;by_cases h2:r.r.o-1<0
                 · rw[decide_eq_false ab];rfl
                 · rw[decide_eq_false h2,Bool.false_or] at Za
                   rw[decide_eq_true ab]
                   have e2:((r.r.o-1) % 8==0)=false:=by
                    unfold bne at Za;simpa using Za
                   rw[e2];rfl) aq
               refine GO 15 ?_;intro _ Y;refine bC Y rfl rfl rfl ?_;exact⟨by rw[hch],Qb.below⟩
              ·
               have hord:gp r.r.o (cg r.rs k) r.rs[k]=true:=by
                rw[Bool.or_eq_false_iff,Bool.or_eq_false_iff,decide_eq_false_iff_not,bne_eq_false_iff_eq,bne_eq_false_iff_eq] at Za;rw[hb0];simp only[gp];rw[Za.1.1,decide_eq_true ab,Za.2];simp
               refine wp_skip (ag ?_);rw[←hat] at Zq;exact⟨Zq.re bz,Qb,hord⟩
           ·
            have hk0:0<k:=by
             have:¬(k:Int)=0:=by intro h;rw[h] at Zi;exact absurd Zi aq
             omega
            obtain⟨y,hy⟩:=mf hk0 (by omega:k≤r.rs.length);have hyb:=hbf y hy;have hbd:=hyb.1.bd
            have hat:atR r k=ew y:=by unfold atR;rw[hy]
            rw[hat] at Ze;refine ah ?_;apply aH Ze (eZ 12) _ aa
            case h=>
             refine GO 3 ?_;intro _ Y;refine qv Y (fun X hX=>bU (Y.ev rfl) (Y.ev rfl) ⟨by omega,by omega⟩) fun _ Y=>?_;refine GO 2 ?_;intro _ Y;apply ln Y 106 rfl 6 112
             case ht=>
              intro Zl;refine GO 3 ?_;intro _ Y;refine lZ Y (aj Y _ rfl rfl rfl Zl) rfl rfl (fun X=>(ax a8 (Y.evs rfl) rfl)) (fun X hX=>mA _ ab _) fun _ Y=>?_;refine qy Y (fun X hX=>(bU (Y.ev rfl) (Y.ev rfl) ⟨by omega,by omega⟩)) fun _ Y=>?_;refine GO 1 ?_;intro _ Y;exact av (Y.midE 5)
             case hf=>
              intro Zl;refine GO 6 ?_;intro _ Y;exact av ⟨_,Y.midE 5⟩
             case h=>
              intro v152 _ hg112 Y;refine av ?_;refine aP fun _ Qc Jc=>?_;have Z:=Zo.grow Qc;refine sv Y (dQ (Y.ev rfl) (Y.ev rfl) hg112 (Y.ev rfl)) fun _ Y=>?_;refine ae (ag ?_);refine ak (Y.ev rfl) (fun Zr=>?_) (fun Zr=>?_)
              ·
               have hch:de r=((k:Int),9):=iT hh hlt hall (by
                rw[hre,if_pos];rw[hy];simp only[gp];rw[Bool.and_eq_true,bne_iff_ne,bne_iff_ne] at Zr;rw[Bool.or_eq_false_iff,beq_eq_false_iff_ne,beq_eq_false_iff_ne]
                omega) aq
               refine GO 15 ?_;intro _ Y;refine bC Y rfl rfl rfl ?_;exact⟨by rw[hch],Z.below⟩
              ·
               have hord:gp r.r.o (cg r.rs k) r.rs[k]=true:=by
                rw[hy];simp only[gp];rw[Bool.or_eq_true,beq_iff_eq,beq_iff_eq];by_cases h1:r.rs[k].l=ew y+1
                · omega
                · have e1:(r.rs[k].l != ew y+1)=true:=by rw[bne_iff_ne];exact h1
                  rw[e1,Bool.true_and,bne_eq_false_iff_eq] at Zr;omega
               refine wp_skip (ag ?_);rw[←hat] at Y;exact⟨Y.re bz,Z,hord⟩
            case hB=>kernel_rfl
            case hst=>rfl
          ·
           have hxl:=Ci hord ab (fun y hy=>(hbf y hy).1);rw[if_neg (by rw[hord];decide)] at hre;refine GO 7 ?_;intro _ Y;refine vf Y 0 1 fun _ Y=>?_;refine GO 1 ?_;intro _ Y;refine cC Y rfl (a6 _ _ _ _) fun _ Y=>?_;refine GO 3 ?_;intro _ Y;refine ak (Y.ev rfl) (fun Zs=>?_) (fun Zs=>?_)
           ·
            have hch:de r=((k:Int),2):=iT hh hlt hall (by
             rw[hre,if_pos (by simpa using Zs)]) aq
            refine GO 14 ?_;intro _ Y;refine bC Y rfl rfl rfl ?_;exact⟨by rw[hch],Z.below⟩
           ·
            have hin:bf r.rs[k].s 1 r.r.s=true:=by simpa using Zs
            have hin2:=inB_true.1 hin;rw[if_neg (by rw[hin];decide)] at hre;have hsc:=zk (x:=r.rs[k]) (by omega:k≤r.rs.length) hin2.1;refine GO 10 ?_;intro _ Y;apply bm Y Z 127 rfl 16 143
            case hf=>
             intro Qd;refine GO 3 ?_;intro _ Y;apply aZ Y Z 130 rfl 5 135
             case ht=>
              intro Qe;refine GO 5 ?_;intro _ Y;exact ae ⟨Y.midE 4,Z⟩
             case hf=>
              intro Qe;refine GO 5 ?_;intro _ Y;exact ae ⟨Y.midE 4,Z⟩
             case h=>
              rintro a186 Jj ⟨Jk,Zt⟩
              refine GO 1 ?_;intro _ Y;apply aZ Y Zt 136 rfl 6 142
              case ht=>
               intro Qf;refine GO 2 ?_;intro _ Y;refine sy Y (ek (Y.ev rfl) (Y.ev rfl) ⟨by omega,by omega⟩) fun _ Y=>?_;refine sy Y (js (Y.ev rfl) (Y.ev rfl) ⟨by omega,by omega⟩) fun _ Y=>?_;refine GO 2 ?_;intro _ Y;exact ae ⟨Y.midE 5,Zt⟩
              case hf=>
               intro Qf;refine GO 6 ?_;intro _ Y;exact ae ⟨Y.midE 5,Zt⟩
              case h=>
               rintro a200 Jl ⟨Jm,Qz⟩
               refine GO 1 ?_;intro _ Y;exact ae ⟨Y.midE 6,Qz⟩
            case ht=>
             intro Qd;refine GO 3 ?_;intro _ Y;refine bI Y (az Y _ rfl rfl rfl) rfl rfl fun _ Y=>?_;refine bI Y (az Y _ rfl rfl rfl) rfl rfl fun _ Y=>?_;refine bI Y (az Y _ rfl rfl rfl) rfl rfl fun _ Y=>?_;refine bI Y (az Y _ rfl rfl rfl) rfl rfl fun _ Y=>?_;refine GO 2 ?_;intro _ Y;refine bI Y (az Y _ rfl rfl rfl) rfl rfl fun _ Y=>?_;refine bI Y (az Y _ rfl rfl rfl) rfl rfl fun _ Y=>?_;refine bI Y (az Y _ rfl rfl rfl) rfl rfl fun _ Y=>?_;refine bI Y (az Y _ rfl rfl rfl) rfl rfl fun _ Y=>?_;refine bI Y (az Y _ rfl rfl rfl) rfl rfl fun _ Y=>?_;refine GO 2 ?_;intro _ Y;exact ae ⟨Y.midE 15,Z⟩
            case h=>
             rintro a218 Jn ⟨Qg,Zu⟩
             refine ae (ag ?_);refine ak (Qg.ev rfl) (fun Zf=>?_) (fun Zf=>?_)
             ·
              have hch:de r=((k:Int),9):=iT hh hlt hall (by
               rw[hsc] at Zf
               rw[hre,show seqB (cg r.rs k) r.rs[k]=false by simpa using Zf];rfl) aq
              refine GO 14 ?_;intro _ Y;refine bC Y rfl rfl rfl ?_;exact⟨by rw[hch],Zu.below⟩
             ·
              have hnext:∀m (hm:m<r.rs.length),m<k+1→dY r.r.o r.r.s (cg r.rs m) r.rs[m]=0:=fun m hm hmk=>by
               rcases Nat.lt_or_ge m k with h | h
               · exact hall m hm h
               · have e:m=k:=by omega
                 subst e;rw[hsc] at Zf;rw[hre,show seqB (cg r.rs m) r.rs[m]=true by simpa using Zf];rfl
              have hbe:∀w,Calls Tryz.prog 188 #[.int .i64 (r.rs[k].l-1),.int .i64 r.rs[k].b.size] w fun e w'=>e=.returned (.int .i64 (atR r (k+1)))∧w=w':=fun w=>by
               have q:=lF (r.rs[k].l-1) r.rs[k].b.size ab w
               have e:atR r (k+1)=r.rs[k].l-1+nj r.rs[k].b.size:=by unfold atR;rw[sj hlt];rfl
               rw[e];exact q
              refine wp_skip (ag ?_);apply aH Qg (eZ 10) _ aa
              case h=>
               refine GO 2 ?_;intro _ Y;refine qv Y (fun X hX=>ek (Y.ev rfl) (Y.ev rfl) ⟨by omega,by omega⟩) fun _ Y=>?_;refine GO 3 ?_;intro _ Y;refine gd Y rfl (fun X hX=>hbe _) fun _ Y=>?_;refine GO 1 ?_;intro _ Y;refine qv Y (fun X hX=>aw (v':=.int .i64 (Bv r (k+1))) (by unfold Bv;rw[sj hlt]) (lx (Y.ev rfl) ((Zu.grow hX).cell (i:=0) rfl rfl))) fun _ Y=>?_;refine GO 2 ?_;intro _ Y;refine aP fun _ Qh Jd=>?_;have Z:=Zu.grow Qh;refine GO 10 ?_;intro _ Y;exact⟨k+1,ab,⟨hlt,hnext⟩,Y.re bz,Z.sub (.cons _ (.cons_cons _ .slnil))⟩
              case hB=>kernel_rfl
              case hst=>rfl
       ·
        have hge:k=r.rs.length:=by have:=of_decide_eq_false Qw;omega
        subst hge;have hall:∀m (hm:m<r.rs.length),dY r.r.o r.r.s (cg r.rs m) r.rs[m]=0:=fun m hm=>Jb.2 m hm hm;have hct:=yD hh hall;have hlb:=qZ r ab hlen hall
        have ho1:r.rs=[]∨(1≤r.r.o∧r.r.o≤100000000):=by
         rcases Nat.eq_zero_or_pos r.rs.length with h0 | h0
         · exact .inl (List.eq_nil_of_length_eq_zero h0)
         · right
           have:=(recE_zero.1 (hall 0 h0)).2.2.1;have hb0:cg r.rs 0=none:=rfl;rw[hb0] at this;simp only[gp,Bool.and_eq_true,beq_iff_eq,decide_eq_true_eq] at this;omega
        refine wp_exit ?_;refine gQ ?_;refine gQ ?_;refine uP ?_;refine ag (ah (ah (ao ?_)));refine vf Y 7 7 fun _ Y=>?_;refine GO 5 ?_;intro _ Zb;refine kf (F:=fA r=0) Zb Zn [] [1] ?_ (fun _ _ Y Z hnxe=>?_)
        ·
         refine ak (Zb.ev rfl) (fun Zj=>?_) (fun Zj=>?_)
         ·
          have hnil:r.rs=[]:=List.eq_nil_of_length_eq_zero (by have:=eq_of_beq Zj;omega)
          have hat:atR r r.rs.length=r.r.o-1:=by rw[hnil];rfl
          have hne:fA r=bn (r.nx==r.r.o-1&&r.nx % 448==0) 9:=by unfold fA;rw[hnil];rfl
          rw[hat] at Zb;refine ah (ao ?_);refine vf Zb 8 8 fun _ Y=>?_;refine GO 4 ?_;intro _ Y;apply bm Y Zn 162 rfl 5 167
          case hf=>
           intro Qi;refine sy Y (fx 8 8 (Y.ev rfl)) fun _ Y=>?_;refine GO 1 ?_;intro _ Y;refine sy Y (js (Y.ev rfl) (Y.ev rfl) ⟨by omega,by omega⟩) fun _ Y=>?_;refine GO 2 ?_;intro _ Y;exact ae ⟨Y.midE 4,Zn⟩
          case ht=>
           intro Qi;refine GO 5 ?_;intro _ Y;exact ae ⟨Y.midE 4,Zn⟩
          case h=>
           rintro a257 Jo ⟨Qj,Qk⟩
           refine ae (ag ?_);refine ak (Qj.ev rfl) (fun Zg=>?_) (fun Zg=>?_)
           ·
            have hch:de r=(0,9):=by
             rw[hct,oA (e:=9) _ aq];rw[hne]
             have:(r.nx==r.r.o-1&&r.nx % 448==0)=false:=by
              rw[Bool.and_eq_false_iff,beq_eq_false_iff_ne,beq_eq_false_iff_ne];rw[Bool.or_eq_true,bne_iff_ne,bne_iff_ne] at Zg;exact Zg
             rw[this];rfl
            refine GO 9 ?_;intro _ Y;refine bC Y rfl rfl rfl ?_;exact⟨by rw[hch],Qk.below⟩
           ·
            have hnxe:fA r=0:=by
             rw[hne]
             have:(r.nx==r.r.o-1&&r.nx % 448==0)=true:=by
              rw[Bool.and_eq_true,beq_iff_eq,beq_iff_eq];rw[Bool.or_eq_false_iff,bne_eq_false_iff_eq,bne_eq_false_iff_eq] at Zg;exact Zg
             rw[this];rfl
            refine wp_skip (ag ?_);exact⟨Qj.re ⟨rfl,trivial⟩,Qk,hnxe⟩
         ·
          have hpos:0<r.rs.length:=by
           have:¬(r.rs.length:Int)=0:=by intro h;rw[h] at Zj;exact absurd Zj aq
           omega
          obtain⟨y,hy⟩:=mf hpos (Nat.le_refl _)
          have hyl:r.rs.getLast? = some y:=by
           unfold cg at hy;rw[if_neg ab] at hy;rw[List.getLast?_eq_getElem?];exact hy
          have hyb:=yw r ab hlen r.rs.length (Nat.le_refl _) (fun m hm _=>hall m hm) y hy;have hbd:=hyb.1.bd
          have hat:atR r r.rs.length=ew y:=by unfold atR;rw[hy]
          have hsq:Bv r r.rs.length=y.s:=by unfold Bv;rw[hy]
          have hne:fA r=bn ((r.nx==ew y||r.nx==eU (ew y))&&(y.s==r.r.s||r.nx % 448==0)) 9:=by unfold fA;rw[hyl]
          have hnb:=qi (p:=ew y);rw[hat,hsq] at Zb;refine ah ?_;apply aH Zb (eZ 17) _ aa
          case h=>
           refine qv Zb (fun X hX=>fx 8 8 (Zb.ev rfl)) fun _ Y=>?_;refine GO 2 ?_;intro _ Y;refine gd Y rfl (fun X hX=>mA _ ab _) fun _ Y=>?_;refine GO 2 ?_;intro _ Y;apply ln Y 173 rfl 11 184
           case ht=>
            intro Ql;refine qy Y (fun X hX=>(fx 8 8 (Y.ev rfl))) fun _ Y=>?_;refine GO 4 ?_;intro _ Y;apply fa Y 178 rfl 6 184
            case hf=>
             intro Qm;refine GO 2 ?_;intro _ Y;refine qy Y (fun X hX=>(fx 0 1 (Y.ev rfl))) fun _ Y=>?_;refine GO 3 ?_;intro _ Y;exact av (Y.midE 5)
            case ht=>
             intro Qm;refine GO 6 ?_;intro _ Y;exact av (Y.midE 5)
            case h=>
             intro _ Y;exact av (Y.midE 5)
           case hf=>
            intro Ql;refine GO 5 ?_;intro _ Y;refine jK Y (az Y _ rfl rfl rfl) rfl rfl fun _ Y=>?_;refine jK Y (az Y _ rfl rfl rfl) rfl rfl fun _ Y=>?_;refine jK Y (az Y _ rfl rfl rfl) rfl rfl fun _ Y=>?_;refine jK Y (az Y _ rfl rfl rfl) rfl rfl fun _ Y=>?_;refine jK Y (az Y _ rfl rfl rfl) rfl rfl fun _ Y=>?_;refine GO 1 ?_;intro _ Y;exact av ⟨_,Y.midE 10⟩
           case h=>
            intro v295 _ hg184 Y;refine av ?_;refine aP fun _ Qn Je=>?_;have Z:=Zn.grow Qn;refine sv Y (dQ (Y.ev rfl) (Y.ev rfl) hg184 (Y.ev rfl)) fun _ Y=>?_;refine ae (ag ?_);refine ak (Y.ev rfl) (fun Zc=>?_) (fun Zc=>?_)
            ·
             have hch:de r=(0,9):=by
              rw[hct,oA (e:=9) _ aq];rw[hne]
              have:((r.nx==ew y||r.nx==eU (ew y))&&(y.s==r.r.s||r.nx % 448==0))=false:=by
               simp only[Bool.and_eq_true,Bool.or_eq_true,bne_iff_ne,decide_eq_true_eq] at Zc;rw[Bool.and_eq_false_iff,Bool.or_eq_false_iff,Bool.or_eq_false_iff,beq_eq_false_iff_ne,beq_eq_false_iff_ne,beq_eq_false_iff_ne,beq_eq_false_iff_ne];by_cases h1:r.nx=ew y
               · right
                 refine⟨by omega,fun h2=>Zc.1 ?_⟩;rw[h1] at h2 ⊢;unfold eU;omega
               · exact .inl ⟨h1,Zc.1⟩
              rw[this];rfl
             refine GO 9 ?_;intro _ Y;refine bC Y rfl rfl rfl ?_;exact⟨by rw[hch],Z.below⟩
            ·
             have hnxe:fA r=0:=by
              rw[hne]
              have:((r.nx==ew y||r.nx==eU (ew y))&&(y.s==r.r.s||r.nx % 448==0))=true:=by
               simp only[Bool.and_eq_true,Bool.or_eq_true,beq_iff_eq];rw[Bool.and_eq_false_iff,Bool.or_eq_false_iff,bne_eq_false_iff_eq,bne_eq_false_iff_eq,decide_eq_false_iff_not] at Zc;rcases Zc with h | ⟨h1,h2⟩
               · exact⟨.inr h,.inr (by rw[h];exact hnb.2.2)⟩
               · exact⟨.inl h1,.inl ab⟩
              rw[this];rfl
             refine wp_skip (ag ?_);exact⟨Y.re ⟨rfl,trivial⟩,Z,hnxe⟩
          case hB=>kernel_rfl
          case hst=>rfl
        ·
         refine GO 5 ?_;intro _ Y;refine vf Y 1 2 fun _ Y=>?_;refine GO 3 ?_;intro _ Y;apply aZ Y Z 190 rfl 7 197
         case ht=>
          intro Zh;refine aI (v:=cJ r A c) Y (aj Y _ rfl rfl rfl Zh) (ai aa aa (Y.ev rfl) (Z.cellsAll (i:=0) rfl)) rfl rfl fun _ Y=>?_;refine GO 1 ?_;intro _ Y;refine sy Y (fx 1 2 (Y.ev rfl)) fun _ Y=>?_;refine GO 1 ?_;intro _ Y;refine dg Y (aj Y _ rfl rfl rfl Zh) (ax a8 (Y.evs rfl) rfl) rfl rfl Z (xG r A c r.r.c _ (Z.rd0 hr) hlen) fun _ _ Y Z=>?_;refine GO 2 ?_;intro _ Y;exact ae ⟨Y.midE 6,Z⟩
         case hf=>
          intro Zh;refine GO 7 ?_;intro _ Y;exact ae ⟨Y.midE 6,Z⟩
         case h=>
          rintro a319 Jp ⟨Zv,Zk⟩
          refine ae (ag ?_);refine ak (Zv.ev rfl) (fun Zd=>?_) (fun Zd=>?_)
          ·
           have hch:de r=(0,6):=by
            rw[hct];unfold jf;rw[aS,if_pos hnxe,aS]
            have:(r.r.c==0||nX r.rs r.r.c)=false:=by
             rw[Bool.and_eq_true,bne_iff_ne] at Zd;rw[Bool.or_eq_false_iff,beq_eq_false_iff_ne];exact⟨Zd.1,by simpa using Zd.2⟩
            rw[this];rfl
           refine GO 8 ?_;intro _ Y;refine bC Y rfl rfl rfl ?_;exact⟨by rw[hch],Zk.below⟩
          ·
           have hcp:(r.r.c==0||nX r.rs r.r.c)=true:=by
            by_cases h:r.r.c=0
            · rw[h];rfl
            · have e1:(r.r.c != 0)=true:=by rw[bne_iff_ne];exact h
              rw[e1,Bool.true_and] at Zd;rw[show nX r.rs r.r.c=true by simpa using Zd];simp
           refine wp_skip (ag (ah (ah (ao ?_))));refine sv (v:=cJ r A c) Zv (ai aa aa (Zv.ev rfl) (Zk.cellsAll (i:=0) rfl)) fun _ Y=>?_;refine cE Y rfl Zk (tB r A c _ (Zk.rd0 hr) hlb ho1 hlen) fun _ _ Y Z=>?_;refine GO 12 ?_;intro _ Y;refine sv Y (ek (Y.ev rfl) (Y.ev rfl) ⟨by have:=inB_true.1 ((aL aq).1 hz1);omega,by have:=inB_true.1 ((aL aq).1 hz1);omega⟩) fun _ Y=>?_;refine GO 3 ?_;intro _ Y;refine ak (Y.ev rfl) (fun Zw=>?_) (fun Zw=>?_)
           ·
            have hch:de r=(0,16):=by
             rw[hct];unfold jf;rw[aS,if_pos hnxe,aS,hcp,if_pos (jI 6),aS,decide_eq_false (by have:=of_decide_eq_true Zw;omega)];rfl
            refine GO 8 ?_;intro _ Y;refine bC Y rfl rfl rfl ?_;exact⟨by rw[hch],Z.below⟩
           ·
            have hch:de r=(0,0):=by
             rw[hct];unfold jf;rw[aS,if_pos hnxe,aS,hcp,if_pos (jI 6),aS,decide_eq_true (by have:=of_decide_eq_false Zw;omega)];rfl
            refine GO 9 ?_;intro _ Y;refine bC Y rfl rfl rfl ?_;exact⟨by rw[hch],Z.below⟩
theorem pL (r:RngP) (A:Option Addr) (c:Nat) (w:World) (hr:Rd w w.heap.size A (cc r.rs)) (hlen:r.rs.length≤1000) (hx:∀x∈r.rs,I6 x.l) :
 Calls Tryz.prog 109 #[cJ r A c] w fun e w'=>e=.returned (.int .i64 (de r).2)∧Below w.heap.size w w':=by
 refine al (N:=11) Tryz.func109 rfl rfl rfl (fun _ Y=>?_);have Z:=St.init w;refine ah (ao ?_);refine nb Y rfl rfl Z fun b1 _ _ Za Y Z=>?_;refine GO 5 ?_;intro _ Y;refine sv (v:=cJ r A c) Y (ai aa aa (Y.ev rfl) (Z.cellsAll (i:=0) rfl)) fun _ Y=>?_;refine cE Y rfl Z (nB r A c _ (Z.rd0 hr) hlen hx) fun _ _ Y Z=>?_;refine GO 14 ?_;intro _ Y;refine aD Y rfl rfl ?_;exact⟨rfl,Z.below⟩
end Go.Proofs.YtcfdpfmchchkaaaGreatDoor
