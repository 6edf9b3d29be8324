/-
  Chapter 21: the reference's Applied, Fits, Try.
  Chapter 21: lists of operations: AppliedAll, Applied; All and Try of the reference; inverses.
  Operations, entries and the like that came in: slices, pairs, structs.
  Chapter 22: plain words of tables. No program in sight.
-/
import Derived.Test.YtcfdpfmchchkaaaGreatDoorOpE
namespace Go.Proofs.YtcfdpfmchchkaaaGreatDoor
set_option maxRecDepth 100000
set_option linter.unusedVariables false
set_option linter.unusedSimpArgs false
open Go.RowKit Go.Sort
open Go.RowKit Go.Sort
def opsV (l:List Op):List Value:=l.flatMap rT
theorem qR (l:List Op):(opsV l).length=6*l.length:=by
 induction l with
 | nil=>rfl
 | cons f l ih=>simp[opsV,rT] at ih ⊢;omega
theorem gh (l:List Op):∀(k:Nat) (h:k<l.length) (j:Nat) (u:Value),(rT l[k])[j]? = some u→(opsV l)[k*6+j]? = some u:=by
 induction l with
 | nil=>intro k h;exact absurd h a7
 | cons f l ih=>
  intro k h j u hu;have hj:j<6:=(List.getElem?_eq_some_iff.1 hu).1
  cases k with
  | zero=>
   show(rT f ++ opsV l)[0*6+j]? = some u;rw[List.getElem?_append_left (by show _<6;omega),Nat.zero_mul,Nat.zero_add];exact hu
  | succ k=>
   show(rT f ++ opsV l)[(k+1)*6+j]? = some u;rw[List.getElem?_append_right (by show 6≤_;omega)];have:=ih k (by simpa using h) j u (by simpa using hu);rw[←this]
   congr 1
   show(k+1)*6+j-6=_;omega
def sD (l:List Op):Prop:=∀j (h:j<l.length),l[j].o.size≤3100∧l[j].n.size≤3100
open Go.ChangeShapes Go.WideShapes Go.ChangeAt Go.RowKit
def Cx (y:Op):Prop:=y.o.size≤maxLen∧y.n.size≤maxLen
structure Lge where
 k:Int
 t:Int
 p:Int
 x:Int
 g:Int
 f:Bool
 o:Op
 d:ByteArray
def qL (e:Lge):List Value:=[.int .i64 e.k,.int .i64 e.t,.int .i64 e.p,.int .i64 e.x,.int .i64 e.g,.bool e.f,.int .i64 e.o.k,.int .i64 e.o.a,.int .i64 e.o.e,.int .i64 e.o.c,.string e.o.o,.string e.o.n,.string e.d]
def cY (e:Lge):Value:=.agg (qL e).toArray
def mh (e:Lge):Prop:=Cx e.o∧e.d.size≤maxLen
structure Rdo where
 f:Bool
 o:Op
 n:Int
open Go.RowKit
structure Trn where
 i:Int
 l:Int
 u:Int
 c:Bool
 deriving DecidableEq
structure Dty where
 g:Int
 f:Bool
 l:Int
 deriving DecidableEq
structure Tbl where
 ts:List Trn
 ds:List Dty
 deriving DecidableEq
structure Rcd where
 l:Int
 e:Lge
structure Pgp where
 g:Int
 f:Bool
 b:ByteArray
 deriving DecidableEq
def gA:Tbl:=⟨[],[]⟩
def cd (x:Trn):List Value:=[.int .i64 x.i,.int .i64 x.l,.int .i64 x.u,.bool x.c]
def cK (x:Dty):List Value:=[.int .i64 x.g,.bool x.f,.int .i64 x.l]
def bA (x:Rcd):List Value:=.int .i64 x.l::qL x.e
def cx (x:Pgp):List Value:=[.int .i64 x.g,.bool x.f,.string x.b]
theorem cy (x:Trn):(cd x).length=4:=rfl
theorem cW (x:Dty):(cK x).length=3:=rfl
theorem aB (x:Rcd):(bA x).length=14:=rfl
theorem br (x:Pgp):(cx x).length=3:=rfl
theorem w7 (x:Trn):∀u∈cd x,u.oneCell'=true:=by
 intro u hu;simp only[cd,List.mem_cons,List.not_mem_nil,or_false] at hu
 rcases hu with rfl | rfl | rfl | rfl<;>rfl
theorem wZ (x:Dty):∀u∈cK x,u.oneCell'=true:=by
 intro u hu;simp only[cK,List.mem_cons,List.not_mem_nil,or_false] at hu
 rcases hu with rfl | rfl | rfl<;>rfl
theorem xJ (x:Pgp):∀u∈cx x,u.oneCell'=true:=by
 intro u hu;simp only[cx,List.mem_cons,List.not_mem_nil,or_false] at hu
 rcases hu with rfl | rfl | rfl<;>rfl
theorem yU (x:Rcd):∀u∈bA x,u.oneCell'=true:=by
 intro u hu;simp only[bA,qL,List.mem_cons,List.not_mem_nil,or_false] at hu
 rcases hu with rfl | rfl | rfl | rfl | rfl | rfl | rfl | rfl | rfl | rfl | rfl | rfl | rfl | rfl<;>rfl
def cH {α:Type} (l:List α) (i:Nat):Option α:=if i=0 then none else l[i-1]?
def jH (p:Option Trn) (x:Trn):Int:=ar [bn (bf x.i 1 9999&&bf x.l 1 2147483647&&bf x.u 0 x.l) 2,bn (match p with | none=>true | some y=>decide (y.i<x.i)) 9]
def jL (p:Option Dty) (x:Dty):Int:=ar [bn (bf x.g 0 600&&bf x.l 1 2147483647) 2,bn (match p with | none=>true | some y=>decide (y.g<x.g)) 9]
def jh (l:List Trn):Int × Int:=cB (fun i x=>jH (cH l i) x) 0 l
def qO (l:List Dty):Int × Int:=cB (fun i x=>jL (cH l i) x) 0 l
def dy (t:Tbl):Int:=if 60<t.ts.length∨60<t.ds.length then 8 else if (jh t.ts).2≠0 then (jh t.ts).2 else (qO t.ds).2
def n3 (b:Bool):Int:=if b then 1 else 0
def vw (x:Trn):List UInt8:=lit x.i 2 ++ (lit x.l 4 ++ (lit x.u 4 ++ lit (n3 x.c) 1))
def ve (x:Dty):List UInt8:=lit x.g 2 ++ (lit (n3 x.f) 1 ++ lit x.l 4)
def A4 (t:Tbl):List UInt8:=lit t.ts.length 1 ++ lit t.ds.length 1 ++ (t.ts.flatMap vw ++ t.ds.flatMap ve)
def uR (s:List UInt8) (a:Nat):Trn:=⟨fe s a 2,fe s (a+2) 4,fe s (a+6) 4,fe s (a+10) 1==1⟩
def ux (s:List UInt8) (a:Nat):Dty:=⟨fe s a 2,fe s (a+2) 1==1,fe s (a+3) 4⟩
def aV (s:List UInt8):Nat:=(fe s 0 1).toNat
def dm (s:List UInt8):Nat:=(fe s 1 1).toNat
def gG (s:List UInt8) (k:Nat):List Trn:=(List.range k).map fun i=>uR s (2+11*i)
def jd (s:List UInt8) (k:Nat):List Dty:=(List.range k).map fun i=>ux s (2+11*aV s+7*i)
def fB (s:List UInt8) (k:Nat):Bool:=(List.range k).all fun i=>decide (fe s (2+11*i+10) 1≤1)
def gk (s:List UInt8) (k:Nat):Bool:=(List.range k).all fun i=>decide (fe s (2+11*aV s+7*i+2) 1≤1)
def dz (s:List UInt8):Tbl:=⟨gG s (aV s),jd s (dm s)⟩
def fE (s:List UInt8):Int:=if s.length<2 then 10 else if s.length≠2+11*aV s+7*dm s then 10 else ar [bn (fB s (aV s)&&gk s (dm s)) 3,dy (dz s)]
def cM (s:List UInt8):Tbl:=if fE s=0 then dz s else gA
theorem wF (s:List UInt8) (a m n:Nat):(s.drop a).take m ++ (s.drop (a+m)).take n=(s.drop a).take (m+n):=by
 rw[←List.drop_drop];generalize s.drop a=l;rw[←List.take_append_drop m (l.take (m+n)),List.take_take,Nat.min_eq_left ab,List.drop_take,Nat.add_sub_cancel_left]
structure TrnOk (x:Trn):Prop where
 i:1≤x.i∧x.i≤9999
 l:1≤x.l∧x.l≤2147483647
 u:0≤x.u∧x.u≤x.l
structure DtyOk (x:Dty):Prop where
 g:0≤x.g∧x.g≤600
 l:1≤x.l∧x.l≤2147483647
theorem trnE_zero {p:Option Trn} {x:Trn}:jH p x=0↔TrnOk x∧∀y,p=some y→y.i<x.i:=by
 unfold jH;rw[aQ];simp only[List.mem_cons,List.not_mem_nil,or_false,forall_eq_or_imp,forall_eq];rw[aL aq,aL aq,Bool.and_eq_true,Bool.and_eq_true,inB_true,inB_true,inB_true]
 constructor
 · rintro ⟨⟨⟨h1,h2⟩,h3⟩,h4⟩
   refine⟨⟨h1,h2,h3⟩,fun y hy=>?_⟩;subst hy;simpa using h4
 · rintro ⟨⟨h1,h2,h3⟩,h4⟩
   refine⟨⟨⟨h1,h2⟩,h3⟩,?_⟩
   cases p with
   | none=>rfl
   | some y=>simpa using h4 y rfl
theorem dtyE_zero {p:Option Dty} {x:Dty}:jL p x=0↔DtyOk x∧∀y,p=some y→y.g<x.g:=by
 unfold jL;rw[aQ];simp only[List.mem_cons,List.not_mem_nil,or_false,forall_eq_or_imp,forall_eq];rw[aL aq,aL aq,Bool.and_eq_true,inB_true,inB_true]
 constructor
 · rintro ⟨⟨h1,h2⟩,h4⟩
   refine⟨⟨h1,h2⟩,fun y hy=>?_⟩;subst hy;simpa using h4
 · rintro ⟨⟨h1,h2⟩,h4⟩
   refine⟨⟨h1,h2⟩,?_⟩
   cases p with
   | none=>rfl
   | some y=>simpa using h4 y rfl
structure TblOk (t:Tbl):Prop where
 n:t.ts.length≤60
 m:t.ds.length≤60
 ts:∀k (h:k<t.ts.length),TrnOk t.ts[k]
 ds:∀k (h:k<t.ds.length),DtyOk t.ds[k]
 tord:∀k (h:k+1<t.ts.length),t.ts[k].i<t.ts[k+1].i
 dord:∀k (h:k+1<t.ds.length),t.ds[k].g<t.ds[k+1].g
theorem cu {α:Type} (f:Nat→α→Int) (l:List α):(cB f 0 l).2=0↔∀k (h:k<l.length),f k l[k]=0:=by
 constructor
 · intro h k hk
   have:=jm f l 0 h k hk
   rwa [Nat.zero_add] at this
 · intro h
   rw[cN f l 0 fun k hk=>by rw[Nat.zero_add];exact h k hk]
theorem dT {α:Type} (l:List α) (k:Nat) (h:k<l.length):cH l (k+1)=some l[k]:=by
 unfold cH;rw[if_neg ab,Nat.add_sub_cancel,List.getElem?_eq_getElem h]
theorem tblE_zero {t:Tbl}:dy t=0↔TblOk t:=by
 unfold dy jh qO
 constructor
 · intro h
   split at h
   · cases h
   rename_i h0
   split at h
   · rename_i h1;exact absurd h h1
   rename_i h1
   have h1:=(cu _ _).1 (Classical.not_not.1 h1);have h2:=(cu _ _).1 h;refine⟨by omega,by omega,fun k hk=>(trnE_zero.1 (h1 k hk)).1,fun k hk=>(dtyE_zero.1 (h2 k hk)).1,fun k hk=>?_,fun k hk=>?_⟩
   · exact(trnE_zero.1 (h1 (k+1) hk)).2 _ (dT _ _ _)
   · exact(dtyE_zero.1 (h2 (k+1) hk)).2 _ (dT _ _ _)
 · intro h
   rw[if_neg (by have:=h.n;have:=h.m;omega)];rw[if_neg]
   · rw[cu]
     intro k hk;rw[dtyE_zero];refine⟨h.ds k hk,fun y hy=>?_⟩
     cases k with
     | zero=>cases hy
     | succ k=>rw[dT _ _ ab] at hy;cases hy;exact h.dord k hk
   · rw[Classical.not_not,cu]
     intro k hk;rw[trnE_zero];refine⟨h.ts k hk,fun y hy=>?_⟩
     cases k with
     | zero=>cases hy
     | succ k=>rw[dT _ _ ab] at hy;cases hy;exact h.tord k hk
end Go.Proofs.YtcfdpfmchchkaaaGreatDoor
