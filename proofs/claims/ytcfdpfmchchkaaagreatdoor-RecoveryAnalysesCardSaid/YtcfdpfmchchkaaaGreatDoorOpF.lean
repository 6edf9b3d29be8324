/-
  Chapter 21: the reference's Applied, Fits, Try.
  Chapter 21: lists of operations: AppliedAll, Applied; All and Try of the reference; inverses.
  Operations, entries and the like that came in: slices, pairs, structs.
  Chapter 22: plain words of tables. No program in sight.
-/
import Derived.Test.YtcfdpfmchchkaaaGreatDoorOpE
namespace Go.Proofs.YtcfdpfmchchkaaaGreatDoor
set_option linter.unusedVariables false
set_option linter.unusedSimpArgs false
open Go.RowKit Go.Sort
open Go.RowKit Go.Sort
def opsV (l:List Op):List Value:=l.flatMap pA
theorem pL (l:List Op):(opsV l).length=6*l.length:=by
 induction l with
 | nil=>rfl
 | cons f l ih=>simp[opsV,pA] at ih ⊢;omega
theorem gl (l:List Op):∀(k:Nat) (h:k<l.length) (j:Nat) (u:Value),(pA l[k])[j]? = some u→(opsV l)[k*6+j]? = some u:=by
 induction l with
 | nil=>intro k h;exact absurd h (by simp)
 | cons f l ih=>
  intro k h j u hu;have hj:j<6:=(List.getElem?_eq_some_iff.1 hu).1
  cases k with
  | zero=>
   show(pA f ++ opsV l)[0*6+j]? = some u;rw[List.getElem?_append_left (by show _<6;omega),Nat.zero_mul,Nat.zero_add];exact hu
  | succ k=>
   show(pA f ++ opsV l)[(k+1)*6+j]? = some u;rw[List.getElem?_append_right (by show 6≤_;omega)];have:=ih k (by simpa using h) j u (by simpa using hu);rw[←this]
   congr 1
   show(k+1)*6+j-6=_;omega
def p6 (l:List Op):Prop:=∀j (h:j<l.length),l[j].o.size≤3100∧l[j].n.size≤3100
theorem oD (x:Op) (w:World) (ho:x.o.size≤3100) (hn:x.n.size≤3100) :
 Calls Tryz.prog 139 #[gZ x] w fun r w'=>r=.returned (.int .i64 (dP x))∧Below w.heap.size w w':=by
 cases hk:bH x.k 0 6
 · exact oE x w hk
 · obtain⟨k,a,e,c,o,n⟩:=x
   rw[inB_true] at hk
   dsimp only at hk
   have:k=0∨k=1∨k=2∨k=3∨k=4∨k=5∨k=6:=by omega
   rcases this with rfl | rfl | rfl | rfl | rfl | rfl | rfl
   · exact rG a e c o n w ho hn
   · exact sh a e c o n w ho hn
   · exact qX a e c o n w ho hn
   · exact rU a e c o n w ho hn
   · exact rz a e c o n w ho hn
   · exact sq a e c o n w ho hn
   · exact sj a e c o n w ho hn
open Go.ChangeShapes Go.WideShapes Go.ChangeAt Go.RowKit
def AB (y:Op):Prop:=y.o.size≤maxLen∧y.n.size≤maxLen
set_option maxRecDepth 100000 in
structure Lge where
 k:Int
 t:Int
 p:Int
 x:Int
 g:Int
 f:Bool
 o:Op
 d:ByteArray
def qe (e:Lge):List Value:=[.int .i64 e.k,.int .i64 e.t,.int .i64 e.p,.int .i64 e.x,.int .i64 e.g,.bool e.f,.int .i64 e.o.k,.int .i64 e.o.a,.int .i64 e.o.e,.int .i64 e.o.c,.string e.o.o,.string e.o.n,.string e.d]
def ey (e:Lge):Value:=.agg (qe e).toArray
def l4 (e:Lge):Prop:=AB e.o∧e.d.size≤maxLen
structure Rdo where
 f:Bool
 o:Op
 n:Int
open Go.RowKit
structure Trn where
 i:Int
 l:Int
 u:Int
 c:Bool
 deriving DecidableEq
structure Dty where
 g:Int
 f:Bool
 l:Int
 deriving DecidableEq
structure Tbl where
 ts:List Trn
 ds:List Dty
 deriving DecidableEq
structure Rcd where
 l:Int
 e:Lge
structure Pgp where
 g:Int
 f:Bool
 b:ByteArray
 deriving DecidableEq
def tbl0:Tbl:=⟨[],[]⟩
def bU (x:Trn):List Value:=[.int .i64 x.i,.int .i64 x.l,.int .i64 x.u,.bool x.c]
def cm (x:Dty):List Value:=[.int .i64 x.g,.bool x.f,.int .i64 x.l]
def cw (x:Rcd):List Value:=.int .i64 x.l::qe x.e
def cR (x:Pgp):List Value:=[.int .i64 x.g,.bool x.f,.string x.b]
theorem bj (x:Trn):(bU x).length=4:=rfl
theorem bN (x:Dty):(cm x).length=3:=rfl
theorem aL (x:Rcd):(cw x).length=14:=rfl
theorem bW (x:Pgp):(cR x).length=3:=rfl
theorem gA (x:Trn):∀u∈bU x,u.oneCell'=true:=by
 intro u hu;simp only[bU,List.mem_cons,List.not_mem_nil,or_false] at hu
 rcases hu with rfl | rfl | rfl | rfl<;>rfl
theorem jD (x:Dty):∀u∈cm x,u.oneCell'=true:=by
 intro u hu;simp only[cm,List.mem_cons,List.not_mem_nil,or_false] at hu
 rcases hu with rfl | rfl | rfl<;>rfl
theorem vv (x:Pgp):∀u∈cR x,u.oneCell'=true:=by
 intro u hu;simp only[cR,List.mem_cons,List.not_mem_nil,or_false] at hu
 rcases hu with rfl | rfl | rfl<;>rfl
theorem xB (x:Rcd):∀u∈cw x,u.oneCell'=true:=by
 intro u hu;simp only[cw,qe,List.mem_cons,List.not_mem_nil,or_false] at hu
 rcases hu with rfl | rfl | rfl | rfl | rfl | rfl | rfl | rfl | rfl | rfl | rfl | rfl | rfl | rfl<;>rfl
def cW {α:Type} (l:List α) (i:Nat):Option α:=if i=0 then none else l[i-1]?
def jQ (p:Option Trn) (x:Trn):Int:=aO [bL (bH x.i 1 9999&&bH x.l 1 2147483647&&bH x.u 0 x.l) 2,bL (match p with | none=>true | some y=>decide (y.i<x.i)) 9]
def jY (p:Option Dty) (x:Dty):Int:=aO [bL (bH x.g 0 600&&bH x.l 1 2147483647) 2,bL (match p with | none=>true | some y=>decide (y.g<x.g)) 9]
def jc (l:List Trn):Int × Int:=dn (fun i x=>jQ (cW l i) x) 0 l
def ql (l:List Dty):Int × Int:=dn (fun i x=>jY (cW l i) x) 0 l
def dk (t:Tbl):Int:=if 60<t.ts.length∨60<t.ds.length then 8 else if (jc t.ts).2≠0 then (jc t.ts).2 else (ql t.ds).2
def mN (b:Bool):Int:=if b then 1 else 0
def ud (x:Trn):List UInt8:=lit x.i 2 ++ (lit x.l 4 ++ (lit x.u 4 ++ lit (mN x.c) 1))
def tV (x:Dty):List UInt8:=lit x.g 2 ++ (lit (mN x.f) 1 ++ lit x.l 4)
def yS (t:Tbl):List UInt8:=lit t.ts.length 1 ++ lit t.ds.length 1 ++ (t.ts.flatMap ud ++ t.ds.flatMap tV)
def sQ (s:List UInt8) (a:Nat):Trn:=⟨iY s a 2,iY s (a+2) 4,iY s (a+6) 4,iY s (a+10) 1==1⟩
def sR (s:List UInt8) (a:Nat):Dty:=⟨iY s a 2,iY s (a+2) 1==1,iY s (a+3) 4⟩
def bo (s:List UInt8):Nat:=(iY s 0 1).toNat
def dD (s:List UInt8):Nat:=(iY s 1 1).toNat
def gN (s:List UInt8) (k:Nat):List Trn:=(List.range k).map fun i=>sQ s (2+11*i)
def iV (s:List UInt8) (k:Nat):List Dty:=(List.range k).map fun i=>sR s (2+11*bo s+7*i)
def fD (s:List UInt8) (k:Nat):Bool:=(List.range k).all fun i=>decide (iY s (2+11*i+10) 1≤1)
def gy (s:List UInt8) (k:Nat):Bool:=(List.range k).all fun i=>decide (iY s (2+11*bo s+7*i+2) 1≤1)
def dH (s:List UInt8):Tbl:=⟨gN s (bo s),iV s (dD s)⟩
def fC (s:List UInt8):Int:=if s.length<2 then 10 else if s.length≠2+11*bo s+7*dD s then 10 else aO [bL (fD s (bo s)&&gy s (dD s)) 3,dk (dH s)]
def cx (s:List UInt8):Tbl:=if fC s=0 then dH s else tbl0
theorem ve (s:List UInt8) (a m n:Nat):(s.drop a).take m ++ (s.drop (a+m)).take n=(s.drop a).take (m+n):=by
 rw[←List.drop_drop];generalize s.drop a=l;rw[←List.take_append_drop m (l.take (m+n)),List.take_take,Nat.min_eq_left (by omega),List.drop_take,Nat.add_sub_cancel_left]
structure TrnOk (x:Trn):Prop where
 i:1≤x.i∧x.i≤9999
 l:1≤x.l∧x.l≤2147483647
 u:0≤x.u∧x.u≤x.l
structure DtyOk (x:Dty):Prop where
 g:0≤x.g∧x.g≤600
 l:1≤x.l∧x.l≤2147483647
theorem trnE_zero {p:Option Trn} {x:Trn}:jQ p x=0↔TrnOk x∧∀y,p=some y→y.i<x.i:=by
 unfold jQ;rw[bu];simp only[List.mem_cons,List.not_mem_nil,or_false,forall_eq_or_imp,forall_eq];rw[bD (by decide),bD (by decide),Bool.and_eq_true,Bool.and_eq_true,inB_true,inB_true,inB_true]
 constructor
 · rintro ⟨⟨⟨h1,h2⟩,h3⟩,h4⟩
   refine⟨⟨h1,h2,h3⟩,fun y hy=>?_⟩;subst hy;simpa using h4
 · rintro ⟨⟨h1,h2,h3⟩,h4⟩
   refine⟨⟨⟨h1,h2⟩,h3⟩,?_⟩
   cases p with
   | none=>rfl
   | some y=>simpa using h4 y rfl
theorem dtyE_zero {p:Option Dty} {x:Dty}:jY p x=0↔DtyOk x∧∀y,p=some y→y.g<x.g:=by
 unfold jY;rw[bu];simp only[List.mem_cons,List.not_mem_nil,or_false,forall_eq_or_imp,forall_eq];rw[bD (by decide),bD (by decide),Bool.and_eq_true,inB_true,inB_true]
 constructor
 · rintro ⟨⟨h1,h2⟩,h4⟩
   refine⟨⟨h1,h2⟩,fun y hy=>?_⟩;subst hy;simpa using h4
 · rintro ⟨⟨h1,h2⟩,h4⟩
   refine⟨⟨h1,h2⟩,?_⟩
   cases p with
   | none=>rfl
   | some y=>simpa using h4 y rfl
structure TblOk (t:Tbl):Prop where
 n:t.ts.length≤60
 m:t.ds.length≤60
 ts:∀k (h:k<t.ts.length),TrnOk t.ts[k]
 ds:∀k (h:k<t.ds.length),DtyOk t.ds[k]
 tord:∀k (h:k+1<t.ts.length),t.ts[k].i<t.ts[k+1].i
 dord:∀k (h:k+1<t.ds.length),t.ds[k].g<t.ds[k+1].g
theorem di {α:Type} (f:Nat→α→Int) (l:List α):(dn f 0 l).2=0↔∀k (h:k<l.length),f k l[k]=0:=by
 constructor
 · intro h k hk
   have:=lW f l 0 h k hk
   rwa [Nat.zero_add] at this
 · intro h
   rw[dN f l 0 fun k hk=>by rw[Nat.zero_add];exact h k hk]
theorem ei {α:Type} (l:List α) (k:Nat) (h:k<l.length):cW l (k+1)=some l[k]:=by
 unfold cW;rw[if_neg (by omega),Nat.add_sub_cancel,List.getElem?_eq_getElem h]
theorem tblE_zero {t:Tbl}:dk t=0↔TblOk t:=by
 unfold dk jc ql
 constructor
 · intro h
   split at h
   · cases h
   rename_i h0
   split at h
   · rename_i h1;exact absurd h h1
   rename_i h1
   have h1:=(di _ _).1 (Classical.not_not.1 h1);have h2:=(di _ _).1 h;refine⟨by omega,by omega,fun k hk=>(trnE_zero.1 (h1 k hk)).1,fun k hk=>(dtyE_zero.1 (h2 k hk)).1,fun k hk=>?_,fun k hk=>?_⟩
   · exact(trnE_zero.1 (h1 (k+1) hk)).2 _ (ei _ _ _)
   · exact(dtyE_zero.1 (h2 (k+1) hk)).2 _ (ei _ _ _)
 · intro h
   rw[if_neg (by have:=h.n;have:=h.m;omega)];rw[if_neg]
   · rw[di]
     intro k hk;rw[dtyE_zero];refine⟨h.ds k hk,fun y hy=>?_⟩
     cases k with
     | zero=>cases hy
     | succ k=>rw[ei _ _ (by omega)] at hy;cases hy;exact h.dord k hk
   · rw[Classical.not_not,di]
     intro k hk;rw[trnE_zero];refine⟨h.ts k hk,fun y hy=>?_⟩
     cases k with
     | zero=>cases hy
     | succ k=>rw[ei _ _ (by omega)] at hy;cases hy;exact h.tord k hk
end Go.Proofs.YtcfdpfmchchkaaaGreatDoor
