/-
  Chapter 20: the reference's restart areas and records.
  Chapter 20: the example of the statements.
  Chapter 20: the statements are awake.
  Chapter 20: restart areas and logs that came in.
  Chapter 20: the statements' limits.
-/
import Derived.Test.YtcfdpfmchchkaaaGreatDoorRgE
namespace Go.Proofs.YtcfdpfmchchkaaaGreatDoor
set_option maxRecDepth 100000
set_option maxHeartbeats 1000000
set_option linter.unusedVariables false
set_option linter.unusedSimpArgs false
open Go.RowKit Go.Sort
open Go.RowKit Go.Sort
def Ct:RngP:=⟨6,⟨1,0,1⟩,rst0,[],0⟩
def Bt:RngP:=zJ Ct (bs [97,98,99])
def BA:RngP:=zJ Bt (bs (bK 500))
def Bw:RngP:=CB BA
def zp:RngP:=zJ Bw (bs [120])
def Bl:RngP:=C0 zp 0 897
def CH:RngP:=zJ Bl (bs (bK 900))
def CT:RngP:=CB zp
attribute [local irreducible] Bt BA Bw zp
open Go.RowKit Go.Sort
attribute [local irreducible] Bl CH CT
open Go.ChangeShapes Go.WideShapes Go.ChangeAt Go.RowKit
def CI (x:RstP):List Value:=[.int .i64 x.s,.int .i64 x.c,.int .i64 x.o]
def BS (x:RstP):Prop:=(-9223372036854775808≤x.s∧x.s<9223372036854775808)∧(-9223372036854775808≤x.c∧x.c<9223372036854775808)∧(-9223372036854775808≤x.o∧x.o<9223372036854775808)
theorem wf_i64 {n:Int} (h:(Lit.int .i64 n).wf=true):-9223372036854775808≤n∧n<9223372036854775808:=by
 have h1:(decide (IntKind.i64.min≤n)&&decide (n≤IntKind.i64.max))=true:=h
 have e1:IntKind.i64.min = -9223372036854775808:=by decide
 have e2:IntKind.i64.max=9223372036854775807:=by decide
 rw[e1,e2,Bool.and_eq_true,decide_eq_true_eq,decide_eq_true_eq] at h1;omega
theorem rl {H:Type} {enc:TypeId × Value→H} {W:World} {fuel:Nat} {cs:List Value} {x:DataW H × List MemPlace} (hl:cs.length=3)
 (h:DataW.trod enc Tryz.prog W 0 (fun _=>true) true fuel 70 cs=some x):∃y,cs=CI y∧BS y:=by
 obtain⟨xs,k,hk,hxy,_,hxl,hf⟩:=DataW.trod_struct Tryz.underlying70 h
 match xs,hxl,cs,hl with
 | [y0,y1,y2],_,[c0,c1,c2],_=>
  have ci:Tryz.prog.cellsOf 3=1:=by kernel_rfl
  have g0:=hf 0 _ rfl;have g1:=hf 1 _ rfl;have g2:=hf 2 _ rfl;simp[ci] at g0 g1 g2;obtain⟨x0,e0,_,b0⟩:=DataW.trod_int Tryz.underlying3 g0;obtain⟨x1,e1,_,b1⟩:=DataW.trod_int Tryz.underlying3 g1;obtain⟨x2,e2,_,b2⟩:=DataW.trod_int Tryz.underlying3 g2;simp only[List.cons.injEq,and_true] at e0 e1 e2;exact⟨⟨x0,x1,x2⟩,by rw[e0,e1,e2];rfl,wf_i64 b0,wf_i64 b1,wf_i64 b2⟩
structure RngA where
 r:RngP
 A:Option Addr
 c:Nat
def Dd (x:RngA):List Value:=[.int .i64 x.r.pg,.int .i64 x.r.r.s,.int .i64 x.r.r.c,.int .i64 x.r.r.o,.int .i64 x.r.e.s,.int .i64 x.r.e.c,.int .i64 x.r.e.o,.slice x.A x.r.rs.length x.c,.int .i64 x.r.nx]
structure RngI (r:RngP):Prop where
 pg:-9223372036854775808≤r.pg∧r.pg<9223372036854775808
 rr:BS r.r
 ee:BS r.e
 nx:-9223372036854775808≤r.nx∧r.nx<9223372036854775808
 len:r.rs.length≤maxLen
 rs:∀x∈r.rs,(-9223372036854775808≤x.l∧x.l<9223372036854775808)∧(-9223372036854775808≤x.s∧x.s<9223372036854775808)∧x.b.size≤maxLen
theorem wE (l:List RecP):l.flatMap (fun x=>[Value.int .i64 x.l,.int .i64 x.s,.string x.b])=cc l:=by
 unfold cc;first | rfl | (rw[List.flatMap_def];rfl)
theorem vp {H:Type} {enc:TypeId × Value→H} {W:World} {fuel:Nat} {cs:List Value} {x:DataW H × List MemPlace}
 (h:DataW.trod enc Tryz.prog W 0 (fun _=>true) true fuel 71 cs=some x):∃(A:Option Addr) (c:Nat) (l:List RecP),cs=[.slice A l.length c]∧l.length≤maxLen∧Rd W W.heap.size A (cc l)∧∀x∈l,(-9223372036854775808≤x.l∧x.l<9223372036854775808)∧(-9223372036854775808≤x.s∧x.s<9223372036854775808)∧x.b.size≤maxLen:=by
 obtain⟨A,c,l,h1,h2,h3,h4⟩:=wB (fun x:RecP=>[Value.int .i64 x.l,.int .i64 x.s,.string x.b]) 3 (fun _=>rfl) (fun x=>(-9223372036854775808≤x.l∧x.l<9223372036854775808)∧(-9223372036854775808≤x.s∧x.s<9223372036854775808)∧x.b.size≤maxLen) Tryz.underlying71 aa (fun fuel cs x hl h=>by
  obtain⟨xs,k,hk,hxy,_,hxl,hf⟩:=DataW.trod_struct Tryz.underlying177 h
  match xs,hxl,cs,hl with
  | [y0,y1,y2],_,[c0,c1,c2],_=>
   have ci:Tryz.prog.cellsOf 3=1:=by kernel_rfl
   have cS:Tryz.prog.cellsOf 9=1:=by kernel_rfl
   have g0:=hf 0 _ rfl;have g1:=hf 1 _ rfl;have g2:=hf 2 _ rfl;simp[ci,cS] at g0 g1 g2;obtain⟨x0,e0,_,b0⟩:=DataW.trod_int Tryz.underlying3 g0;obtain⟨x1,e1,_,b1⟩:=DataW.trod_int Tryz.underlying3 g1;obtain⟨x2,e2,_,s2⟩:=DataW.trod_string Tryz.underlying9 g2;simp only[List.cons.injEq,and_true] at e0 e1 e2
   exact⟨⟨x0,x1,x2⟩,by rw[e0,e1,e2],wf_i64 b0,wf_i64 b1,s2⟩) h
 rw[wE] at h3;exact⟨A,c,l,h1,h2,h3,h4⟩
theorem wu {H:Type} {enc:TypeId × Value→H} {W:World} {r:Reach} {base:Nat} {v:Value} {d:DataW H} {p:List MemPlace}
 (hv:Value.okWide Tryz.prog W r base 73 v) (h:DataW.Trod enc Tryz.prog W 0 (fun _=>true) true 73 v d p) :
 ∃(r:RngP) (A:Option Addr) (c:Nat),v=cJ r A c∧RngI r∧Rd W W.heap.size A (cc r.rs):=by
 obtain⟨y,h1,h2,h3⟩:=yB (α:=RngA) Dd 9 (fun x=>RngI x.r∧Rd W W.heap.size x.A (cc x.r.rs)) Tryz.underlying73 aa (fun fuel cs x hl h=>by
  obtain⟨xs,k,hk,hxy,_,hxl,hf⟩:=DataW.trod_struct Tryz.underlying73 h
  match xs,hxl,cs,hl with
  | [y0,y1,y2,y3,y4],_,[c0,c1,c2,c3,c4,c5,c6,c7,c8],_=>
   have ci:Tryz.prog.cellsOf 3=1:=by kernel_rfl
   have cr:Tryz.prog.cellsOf 70=3:=by kernel_rfl
   have cl:Tryz.prog.cellsOf 71=1:=by kernel_rfl
   have g0:=hf 0 _ rfl;have g1:=hf 1 _ rfl;have g2:=hf 2 _ rfl;have g3:=hf 3 _ rfl;have g4:=hf 4 _ rfl;simp[ci,cr,cl] at g0 g1 g2 g3 g4;obtain⟨x0,e0,_,b0⟩:=DataW.trod_int Tryz.underlying3 g0;obtain⟨x1,e1,b1⟩:=rl rfl g1;obtain⟨x2,e2,b2⟩:=rl rfl g2;obtain⟨A3,k3,l3,e3,m3,r3,i3⟩:=vp g3;obtain⟨x4,e4,_,b4⟩:=DataW.trod_int Tryz.underlying3 g4;simp only[CI,List.cons.injEq,and_true] at e0 e1 e2 e3 e4;obtain⟨e10,e11,e12⟩:=e1;obtain⟨e20,e21,e22⟩:=e2
   exact⟨⟨⟨x0,x1,x2,l3,x4⟩,A3,k3⟩,by rw[e0,e10,e11,e12,e20,e21,e22,e3,e4];rfl,⟨wf_i64 b0,b1,b2,wf_i64 b4,m3,i3⟩,r3⟩) hv h
 exact⟨y.r,y.A,y.c,h1,h2,h3⟩
variable {ds:List Deferred}
open Go.RowKit Go.Sort
variable {ds:List Deferred}
theorem AO {P:Program} {ρ:Operand→Value} {X:World} {d:Option Tmp} {ty:TypeId} {ps:String} {af:Array Edge} {g:Option (Nat × Bool)} {x y:Operand} {t t':TypeId} {m n:Int} (hx:ρ x=.int .i64 m) (hy:ρ y=.int .i64 n):(execOp ρ ⟨d,.binOp .add t x y t',ty,ps,af,g⟩).run P X=.ok (.value (.int .i64 (IntKind.i64.wrap (m+n)))) X:=by
 simp[execOp,hx,hy,eqGuard,binOp,Op.intArith]
def ti (r:RngP):Nat→Int
 | 0=>0
 | k+1=>IntKind.i64.wrap (ti r k+(match r.rs[k]? with | some x=>(x.b.size:Int) | none=>0))
theorem vc {r:RngP} {k:Nat} (h:k<r.rs.length):ti r (k+1)=IntKind.i64.wrap (ti r k+(r.rs[k].b.size:Int)):=by
 rw[ti,List.getElem?_eq_getElem h]
def yk (r:RngP):Bool:=(decide ((r.rs.length:Int)>20)&&decide ((r.rs.length:Int)≤100))||decide ((r.rs.length:Int)>102)
def sZ (r:RngP):Bool:=!yk r&&decide (ti r r.rs.length≤12000)
theorem zQ {r:RngP} (h:sZ r=true):r.rs.length≤20∨(101≤r.rs.length∧r.rs.length≤102):=by
 unfold sZ yk at h;simp only[Bool.and_eq_true,Bool.not_eq_true',Bool.or_eq_false_iff,Bool.and_eq_false_iff,decide_eq_false_iff_not] at h;omega
theorem BV {r:RngP} (h:sZ r=true):r.rs.length≤1000:=by have:=zQ h;omega
theorem Ab (r:RngP) (A:Option Addr) (c:Nat) (w:World) (hr:Rd w w.heap.size A (cc r.rs)) :
 Calls Tryz.prog 41 #[cJ r A c] w fun e w'=>e=.returned (.bool (sZ r))∧Below w.heap.size w w':=by
 refine al (N:=39) Tryz.func41 rfl rfl rfl (fun _ Y=>?_);have Z:=St.init w;refine ah (ao ?_);refine nb Y rfl rfl Z fun b1 _ _ Zh Y Z=>?_;refine GO 6 ?_;intro _ Y;refine vf Y 7 7 fun _ Y=>?_;refine GO 4 ?_;intro _ Y;apply aZ Y Z 9 rfl 5 14
 case ht=>
  intro Zf;refine sy Y (fx 7 7 (Y.ev rfl)) fun _ Y=>?_;refine GO 4 ?_;intro _ Y;exact ae ⟨Y.midE 4,Z⟩
 case hf=>
  intro Zf;refine GO 5 ?_;intro _ Y;exact ae ⟨Y.midE 4,Z⟩
 case h=>
  rintro a18 Zi ⟨Zj,Za⟩
  refine GO 1 ?_;intro _ Y;apply bm Y Za 15 rfl 5 20
  case hf=>
   intro Zb;refine sy Y (fx 7 7 (Y.ev rfl)) fun _ Y=>?_;refine GO 4 ?_;intro _ Y;exact ae ⟨Y.midE 4,Za⟩
  case ht=>
   intro Zb;refine GO 5 ?_;intro _ Y;exact ae ⟨Y.midE 4,Za⟩
  case h=>
   rintro a30 Zk ⟨Zg,Zc⟩
   refine ae (ag ?_);refine ak (Zg.ev rfl) (fun Zd=>?_) (fun Zd=>?_)
   ·
    have hL:yk r=true:=Zd;refine GO 7 ?_;intro _ Y;refine aD Y rfl rfl ?_;refine⟨?_,Zc.below⟩;unfold sZ;rw[hL];rfl
   ·
    have hL:yk r=false:=Zd
    have hlen:r.rs.length≤102:=by
     unfold yk at hL;simp only[Bool.or_eq_false_iff,decide_eq_false_iff_not] at hL;omega
    refine GO 14 ?_;intro _ Y;refine aY Y Zc [2,1] (fun (k:Nat)=>[(4,.int .i64 (k:Int)),(3,.int .i64 (ti r k))]) (fun (k:Nat)=>k≤r.rs.length) (fun (k:Nat) L=>L) (fun (k:Nat)=>r.rs.length-k) (0) (Nat.zero_le _) bz (Zc) ?_;intro k _ _ Zl Y Z;refine GO 4 ?_;intro _ Y;refine vf Y 7 7 fun _ Y=>?_;refine GO 5 ?_;intro _ Y;refine ak (Y.ev rfl) (fun Ze=>?_) (fun Ze=>?_)
    ·
     have hlt:k<r.rs.length:=by have:=of_decide_eq_true Ze;omega
     obtain⟨b,o,rfl,_⟩:=hr.opened (by rw[bB];omega);refine GO 6 ?_;intro _ Y;refine vf Y 7 7 fun _ Y=>?_;refine GO 2 ?_;intro _ Y;refine sv Y (au (i:=k) (sz:=3) Tryz.underlying71 aa (Y.ev rfl) (Y.ev rfl) ab ab rfl) fun _ Y=>?_;refine sv Y (fy 2 (Y.ev rfl)) fun _ Y=>?_;refine sv Y (lx (Y.ev rfl) ((recAt (Z.rd0 hr) hlt) 2 _ rfl)) fun _ Y=>?_;refine GO 1 ?_;intro _ Y;refine sv Y (aw (v':=.int .i64 (ti r (k+1))) (by rw[vc hlt]) (AO (Y.ev rfl) (Y.ev rfl))) fun _ Y=>?_;refine GO 10 ?_;intro _ Y;exact⟨k+1,ab,hlt,Y.re bz,Z⟩
    ·
     have hge:k=r.rs.length:=by have:=of_decide_eq_false Ze;omega
     refine GO 13 ?_;intro _ Y;refine aD Y rfl rfl ?_;refine⟨?_,Z.below⟩;unfold sZ;rw[hL,hge];rfl
end Go.Proofs.YtcfdpfmchchkaaaGreatDoor
