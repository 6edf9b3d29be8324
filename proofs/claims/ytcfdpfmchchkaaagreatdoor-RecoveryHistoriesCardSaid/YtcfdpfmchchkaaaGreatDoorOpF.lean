/-
  Chapter 21: the reference's Applied, Fits, Try.
  Chapter 21: lists of operations: AppliedAll, Applied; All and Try of the reference; inverses.
  Operations, entries and the like that came in: slices, pairs, structs.
  Chapter 22: plain words of tables. No program in sight.
-/
import Derived.Test.YtcfdpfmchchkaaaGreatDoorOpE
namespace Go.Proofs.YtcfdpfmchchkaaaGreatDoor
set_option maxRecDepth 100000
set_option linter.unusedVariables false
set_option linter.unusedSimpArgs false
open Go.RowKit Go.Sort
open Go.RowKit Go.Sort
def opsV (l:List Op):List Value:=l.flatMap rB
theorem sg (l:List Op):(opsV l).length=6*l.length:=by
 induction l with
 | nil=>rfl
 | cons f l ih=>simp[opsV,rB] at ih ⊢;omega
theorem gH (l:List Op):∀(k:Nat) (h:k<l.length) (j:Nat) (u:Value),(rB l[k])[j]? = some u→(opsV l)[k*6+j]? = some u:=by
 induction l with
 | nil=>intro k h;exact absurd h a7
 | cons f l ih=>
  intro k h j u hu;have hj:j<6:=(List.getElem?_eq_some_iff.1 hu).1
  cases k with
  | zero=>
   show(rB f ++ opsV l)[0*6+j]? = some u;rw[List.getElem?_append_left (by show _<6;omega),Nat.zero_mul,Nat.zero_add];exact hu
  | succ k=>
   show(rB f ++ opsV l)[(k+1)*6+j]? = some u;rw[List.getElem?_append_right (by show 6≤_;omega)];have:=ih k (by simpa using h) j u (by simpa using hu);rw[←this]
   congr 1
   show(k+1)*6+j-6=_;omega
def rS (l:List Op):Prop:=∀j (h:j<l.length),l[j].o.size≤3100∧l[j].n.size≤3100
open Go.ChangeShapes Go.WideShapes Go.ChangeAt Go.RowKit
def Cu (y:Op):Prop:=y.o.size≤maxLen∧y.n.size≤maxLen
structure Lge where
 k:Int
 t:Int
 p:Int
 x:Int
 g:Int
 f:Bool
 o:Op
 d:ByteArray
def qN (e:Lge):List Value:=[.int .i64 e.k,.int .i64 e.t,.int .i64 e.p,.int .i64 e.x,.int .i64 e.g,.bool e.f,.int .i64 e.o.k,.int .i64 e.o.a,.int .i64 e.o.e,.int .i64 e.o.c,.string e.o.o,.string e.o.n,.string e.d]
def de (e:Lge):Value:=.agg (qN e).toArray
def mL (e:Lge):Prop:=Cu e.o∧e.d.size≤maxLen
structure Rdo where
 f:Bool
 o:Op
 n:Int
open Go.RowKit
structure Trn where
 i:Int
 l:Int
 u:Int
 c:Bool
 deriving DecidableEq
structure Dty where
 g:Int
 f:Bool
 l:Int
 deriving DecidableEq
structure Tbl where
 ts:List Trn
 ds:List Dty
 deriving DecidableEq
structure Rcd where
 l:Int
 e:Lge
structure Pgp where
 g:Int
 f:Bool
 b:ByteArray
 deriving DecidableEq
def gn:Tbl:=⟨[],[]⟩
def cp (x:Trn):List Value:=[.int .i64 x.i,.int .i64 x.l,.int .i64 x.u,.bool x.c]
def cP (x:Dty):List Value:=[.int .i64 x.g,.bool x.f,.int .i64 x.l]
def bC (x:Rcd):List Value:=.int .i64 x.l::qN x.e
def cE (x:Pgp):List Value:=[.int .i64 x.g,.bool x.f,.string x.b]
theorem cC (x:Trn):(cp x).length=4:=rfl
theorem dg (x:Dty):(cP x).length=3:=rfl
theorem aB (x:Rcd):(bC x).length=14:=rfl
theorem bw (x:Pgp):(cE x).length=3:=rfl
theorem ya (x:Trn):∀u∈cp x,u.oneCell'=true:=by
 intro u hu;simp only[cp,List.mem_cons,List.not_mem_nil,or_false] at hu
 rcases hu with rfl | rfl | rfl | rfl<;>rfl
theorem w8 (x:Dty):∀u∈cP x,u.oneCell'=true:=by
 intro u hu;simp only[cP,List.mem_cons,List.not_mem_nil,or_false] at hu
 rcases hu with rfl | rfl | rfl<;>rfl
theorem yJ (x:Pgp):∀u∈cE x,u.oneCell'=true:=by
 intro u hu;simp only[cE,List.mem_cons,List.not_mem_nil,or_false] at hu
 rcases hu with rfl | rfl | rfl<;>rfl
theorem x8 (x:Rcd):∀u∈bC x,u.oneCell'=true:=by
 intro u hu;simp only[bC,qN,List.mem_cons,List.not_mem_nil,or_false] at hu
 rcases hu with rfl | rfl | rfl | rfl | rfl | rfl | rfl | rfl | rfl | rfl | rfl | rfl | rfl | rfl<;>rfl
def cO {α:Type} (l:List α) (i:Nat):Option α:=if i=0 then none else l[i-1]?
def kp (p:Option Trn) (x:Trn):Int:=au [bo (bb x.i 1 9999&&bb x.l 1 2147483647&&bb x.u 0 x.l) 2,bo (match p with | none=>true | some y=>decide (y.i<x.i)) 9]
def j9 (p:Option Dty) (x:Dty):Int:=au [bo (bb x.g 0 600&&bb x.l 1 2147483647) 2,bo (match p with | none=>true | some y=>decide (y.g<x.g)) 9]
def jj (l:List Trn):Int × Int:=cH (fun i x=>kp (cO l i) x) 0 l
def rM (l:List Dty):Int × Int:=cH (fun i x=>j9 (cO l i) x) 0 l
def dw (t:Tbl):Int:=if 60<t.ts.length∨60<t.ds.length then 8 else if (jj t.ts).2≠0 then (jj t.ts).2 else (rM t.ds).2
def nV (b:Bool):Int:=if b then 1 else 0
def vL (x:Trn):List UInt8:=lit x.i 2 ++ (lit x.l 4 ++ (lit x.u 4 ++ lit (nV x.c) 1))
def vR (x:Dty):List UInt8:=lit x.g 2 ++ (lit (nV x.f) 1 ++ lit x.l 4)
def AF (t:Tbl):List UInt8:=lit t.ts.length 1 ++ lit t.ds.length 1 ++ (t.ts.flatMap vL ++ t.ds.flatMap vR)
def uy (s:List UInt8) (a:Nat):Trn:=⟨fm s a 2,fm s (a+2) 4,fm s (a+6) 4,fm s (a+10) 1==1⟩
def uk (s:List UInt8) (a:Nat):Dty:=⟨fm s a 2,fm s (a+2) 1==1,fm s (a+3) 4⟩
def aU (s:List UInt8):Nat:=(fm s 0 1).toNat
def dt (s:List UInt8):Nat:=(fm s 1 1).toNat
def gY (s:List UInt8) (k:Nat):List Trn:=(List.range k).map fun i=>uy s (2+11*i)
def jg (s:List UInt8) (k:Nat):List Dty:=(List.range k).map fun i=>uk s (2+11*aU s+7*i)
def fw (s:List UInt8) (k:Nat):Bool:=(List.range k).all fun i=>decide (fm s (2+11*i+10) 1≤1)
def gu (s:List UInt8) (k:Nat):Bool:=(List.range k).all fun i=>decide (fm s (2+11*aU s+7*i+2) 1≤1)
def dE (s:List UInt8):Tbl:=⟨gY s (aU s),jg s (dt s)⟩
def fJ (s:List UInt8):Int:=if s.length<2 then 10 else if s.length≠2+11*aU s+7*dt s then 10 else au [bo (fw s (aU s)&&gu s (dt s)) 3,dw (dE s)]
def cV (s:List UInt8):Tbl:=if fJ s=0 then dE s else gn
theorem vU (s:List UInt8) (a m n:Nat):(s.drop a).take m ++ (s.drop (a+m)).take n=(s.drop a).take (m+n):=by
 rw[←List.drop_drop];generalize s.drop a=l;rw[←List.take_append_drop m (l.take (m+n)),List.take_take,Nat.min_eq_left ab,List.drop_take,Nat.add_sub_cancel_left]
structure TrnOk (x:Trn):Prop where
 i:1≤x.i∧x.i≤9999
 l:1≤x.l∧x.l≤2147483647
 u:0≤x.u∧x.u≤x.l
structure DtyOk (x:Dty):Prop where
 g:0≤x.g∧x.g≤600
 l:1≤x.l∧x.l≤2147483647
theorem trnE_zero {p:Option Trn} {x:Trn}:kp p x=0↔TrnOk x∧∀y,p=some y→y.i<x.i:=by
 unfold kp;rw[aQ];simp only[List.mem_cons,List.not_mem_nil,or_false,forall_eq_or_imp,forall_eq];rw[aM ar,aM ar,Bool.and_eq_true,Bool.and_eq_true,inB_true,inB_true,inB_true]
 constructor
 · rintro ⟨⟨⟨h1,h2⟩,h3⟩,h4⟩
   refine⟨⟨h1,h2,h3⟩,fun y hy=>?_⟩;subst hy;simpa using h4
 · rintro ⟨⟨h1,h2,h3⟩,h4⟩
   refine⟨⟨⟨h1,h2⟩,h3⟩,?_⟩
   cases p with
   | none=>rfl
   | some y=>simpa using h4 y rfl
theorem dtyE_zero {p:Option Dty} {x:Dty}:j9 p x=0↔DtyOk x∧∀y,p=some y→y.g<x.g:=by
 unfold j9;rw[aQ];simp only[List.mem_cons,List.not_mem_nil,or_false,forall_eq_or_imp,forall_eq];rw[aM ar,aM ar,Bool.and_eq_true,inB_true,inB_true]
 constructor
 · rintro ⟨⟨h1,h2⟩,h4⟩
   refine⟨⟨h1,h2⟩,fun y hy=>?_⟩;subst hy;simpa using h4
 · rintro ⟨⟨h1,h2⟩,h4⟩
   refine⟨⟨h1,h2⟩,?_⟩
   cases p with
   | none=>rfl
   | some y=>simpa using h4 y rfl
structure TblOk (t:Tbl):Prop where
 n:t.ts.length≤60
 m:t.ds.length≤60
 ts:∀k (h:k<t.ts.length),TrnOk t.ts[k]
 ds:∀k (h:k<t.ds.length),DtyOk t.ds[k]
 tord:∀k (h:k+1<t.ts.length),t.ts[k].i<t.ts[k+1].i
 dord:∀k (h:k+1<t.ds.length),t.ds[k].g<t.ds[k+1].g
theorem cA {α:Type} (f:Nat→α→Int) (l:List α):(cH f 0 l).2=0↔∀k (h:k<l.length),f k l[k]=0:=by
 constructor
 · intro h k hk
   have:=jG f l 0 h k hk
   rwa [Nat.zero_add] at this
 · intro h
   rw[cU f l 0 fun k hk=>by rw[Nat.zero_add];exact h k hk]
theorem eb {α:Type} (l:List α) (k:Nat) (h:k<l.length):cO l (k+1)=some l[k]:=by
 unfold cO;rw[if_neg ab,Nat.add_sub_cancel,List.getElem?_eq_getElem h]
theorem tblE_zero {t:Tbl}:dw t=0↔TblOk t:=by
 unfold dw jj rM
 constructor
 · intro h
   split at h
   · cases h
   rename_i h0
   split at h
   · rename_i h1;exact absurd h h1
   rename_i h1
   have h1:=(cA _ _).1 (Classical.not_not.1 h1);have h2:=(cA _ _).1 h;refine⟨by omega,by omega,fun k hk=>(trnE_zero.1 (h1 k hk)).1,fun k hk=>(dtyE_zero.1 (h2 k hk)).1,fun k hk=>?_,fun k hk=>?_⟩
   · exact(trnE_zero.1 (h1 (k+1) hk)).2 _ (eb _ _ _)
   · exact(dtyE_zero.1 (h2 (k+1) hk)).2 _ (eb _ _ _)
 · intro h
   rw[if_neg (by have:=h.n;have:=h.m;omega)];rw[if_neg]
   · rw[cA]
     intro k hk;rw[dtyE_zero];refine⟨h.ds k hk,fun y hy=>?_⟩
     cases k with
     | zero=>cases hy
     | succ k=>rw[eb _ _ ab] at hy;cases hy;exact h.dord k hk
   · rw[Classical.not_not,cA]
     intro k hk;rw[trnE_zero];refine⟨h.ts k hk,fun y hy=>?_⟩
     cases k with
     | zero=>cases hy
     | succ k=>rw[eb _ _ ab] at hy;cases hy;exact h.tord k hk
end Go.Proofs.YtcfdpfmchchkaaaGreatDoor
