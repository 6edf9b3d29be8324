/-
  Chapter 21: the reference's Applied, Fits, Try.
  Chapter 21: lists of operations: AppliedAll, Applied; All and Try of the reference; inverses.
  Operations, entries and the like that came in: slices, pairs, structs.
  Chapter 22: plain words of tables. No program in sight.
-/
import Derived.Test.YtcfdpfmchchkaaaGreatDoorOpE
namespace Go.Proofs.YtcfdpfmchchkaaaGreatDoor
set_option maxRecDepth 100000
set_option linter.unusedVariables false
set_option linter.unusedSimpArgs false
open Go.RowKit Go.Sort
open Go.RowKit Go.Sort
def opsV (l:List Op):List Value:=l.flatMap rn
theorem sc (l:List Op):(opsV l).length=6*l.length:=by
 induction l with
 | nil=>rfl
 | cons f l ih=>simp[opsV,rn] at ih ⊢;omega
theorem gV (l:List Op):∀(k:Nat) (h:k<l.length) (j:Nat) (u:Value),(rn l[k])[j]? = some u→(opsV l)[k*6+j]? = some u:=by
 induction l with
 | nil=>intro k h;exact absurd h a6
 | cons f l ih=>
  intro k h j u hu;have hj:j<6:=(List.getElem?_eq_some_iff.1 hu).1
  cases k with
  | zero=>
   show(rn f ++ opsV l)[0*6+j]? = some u;rw[List.getElem?_append_left (by show _<6;omega),Nat.zero_mul,Nat.zero_add];exact hu
  | succ k=>
   show(rn f ++ opsV l)[(k+1)*6+j]? = some u;rw[List.getElem?_append_right (by show 6≤_;omega)];have:=ih k (by simpa using h) j u (by simpa using hu);rw[←this]
   congr 1
   show(k+1)*6+j-6=_;omega
def rP (l:List Op):Prop:=∀j (h:j<l.length),l[j].o.size≤3100∧l[j].n.size≤3100
theorem kb (x:Op) (w:World) (ho:x.o.size≤3100) (hn:x.n.size≤3100) :
 Calls Tryz.prog 139 #[gA x] w fun r w'=>r=.returned (.int .i64 (dp x))∧Below w.heap.size w w':=by
 cases hk:bm x.k 0 6
 · exact qa x w hk
 · obtain⟨k,a,e,c,o,n⟩:=x
   rw[inB_true] at hk
   dsimp only at hk
   have:k=0∨k=1∨k=2∨k=3∨k=4∨k=5∨k=6:=by omega
   rcases this with rfl | rfl | rfl | rfl | rfl | rfl | rfl
   · exact ug a e c o n w ho hn
   · exact ud a e c o n w ho hn
   · exact ui a e c o n w ho hn
   · exact tG a e c o n w ho hn
   · exact s6 a e c o n w ho hn
   · exact ux a e c o n w ho hn
   · exact tL a e c o n w ho hn
open Go.ChangeShapes Go.WideShapes Go.ChangeAt Go.RowKit
def Dt (y:Op):Prop:=y.o.size≤maxLen∧y.n.size≤maxLen
structure Lge where
 k:Int
 t:Int
 p:Int
 x:Int
 g:Int
 f:Bool
 o:Op
 d:ByteArray
def sn (e:Lge):List Value:=[.int .i64 e.k,.int .i64 e.t,.int .i64 e.p,.int .i64 e.x,.int .i64 e.g,.bool e.f,.int .i64 e.o.k,.int .i64 e.o.a,.int .i64 e.o.e,.int .i64 e.o.c,.string e.o.o,.string e.o.n,.string e.d]
def dM (e:Lge):Value:=.agg (sn e).toArray
def mz (e:Lge):Prop:=Dt e.o∧e.d.size≤maxLen
structure Rdo where
 f:Bool
 o:Op
 n:Int
open Go.RowKit
structure Trn where
 i:Int
 l:Int
 u:Int
 c:Bool
 deriving DecidableEq
structure Dty where
 g:Int
 f:Bool
 l:Int
 deriving DecidableEq
structure Tbl where
 ts:List Trn
 ds:List Dty
 deriving DecidableEq
structure Rcd where
 l:Int
 e:Lge
structure Pgp where
 g:Int
 f:Bool
 b:ByteArray
 deriving DecidableEq
def gR:Tbl:=⟨[],[]⟩
def cw (x:Trn):List Value:=[.int .i64 x.i,.int .i64 x.l,.int .i64 x.u,.bool x.c]
def cV (x:Dty):List Value:=[.int .i64 x.g,.bool x.f,.int .i64 x.l]
def bJ (x:Rcd):List Value:=.int .i64 x.l::sn x.e
def cL (x:Pgp):List Value:=[.int .i64 x.g,.bool x.f,.string x.b]
theorem cK (x:Trn):(cw x).length=4:=rfl
theorem dm (x:Dty):(cV x).length=3:=rfl
theorem aH (x:Rcd):(bJ x).length=14:=rfl
theorem bF (x:Pgp):(cL x).length=3:=rfl
theorem zz (x:Trn):∀u∈cw x,u.oneCell'=true:=by
 intro u hu;simp only[cw,List.mem_cons,List.not_mem_nil,or_false] at hu
 rcases hu with rfl | rfl | rfl | rfl<;>rfl
theorem Ag (x:Dty):∀u∈cV x,u.oneCell'=true:=by
 intro u hu;simp only[cV,List.mem_cons,List.not_mem_nil,or_false] at hu
 rcases hu with rfl | rfl | rfl<;>rfl
theorem zG (x:Pgp):∀u∈cL x,u.oneCell'=true:=by
 intro u hu;simp only[cL,List.mem_cons,List.not_mem_nil,or_false] at hu
 rcases hu with rfl | rfl | rfl<;>rfl
theorem zp (x:Rcd):∀u∈bJ x,u.oneCell'=true:=by
 intro u hu;simp only[bJ,sn,List.mem_cons,List.not_mem_nil,or_false] at hu
 rcases hu with rfl | rfl | rfl | rfl | rfl | rfl | rfl | rfl | rfl | rfl | rfl | rfl | rfl | rfl<;>rfl
def cU {α:Type} (l:List α) (i:Nat):Option α:=if i=0 then none else l[i-1]?
def kz (p:Option Trn) (x:Trn):Int:=au [aS (bm x.i 1 9999&&bm x.l 1 2147483647&&bm x.u 0 x.l) 2,aS (match p with | none=>true | some y=>decide (y.i<x.i)) 9]
def j9 (p:Option Dty) (x:Dty):Int:=au [aS (bm x.g 0 600&&bm x.l 1 2147483647) 2,aS (match p with | none=>true | some y=>decide (y.g<x.g)) 9]
def jB (l:List Trn):Int × Int:=cP (fun i x=>kz (cU l i) x) 0 l
def rj (l:List Dty):Int × Int:=cP (fun i x=>j9 (cU l i) x) 0 l
def dJ (t:Tbl):Int:=if 60<t.ts.length∨60<t.ds.length then 8 else if (jB t.ts).2≠0 then (jB t.ts).2 else (rj t.ds).2
def om (b:Bool):Int:=if b then 1 else 0
def vU (x:Trn):List UInt8:=lit x.i 2 ++ (lit x.l 4 ++ (lit x.u 4 ++ lit (om x.c) 1))
def vT (x:Dty):List UInt8:=lit x.g 2 ++ (lit (om x.f) 1 ++ lit x.l 4)
def AG (t:Tbl):List UInt8:=lit t.ts.length 1 ++ lit t.ds.length 1 ++ (t.ts.flatMap vU ++ t.ds.flatMap vT)
def vi (s:List UInt8) (a:Nat):Trn:=⟨fv s a 2,fv s (a+2) 4,fv s (a+6) 4,fv s (a+10) 1==1⟩
def vc (s:List UInt8) (a:Nat):Dty:=⟨fv s a 2,fv s (a+2) 1==1,fv s (a+3) 4⟩
def ba (s:List UInt8):Nat:=(fv s 0 1).toNat
def dD (s:List UInt8):Nat:=(fv s 1 1).toNat
def il (s:List UInt8) (k:Nat):List Trn:=(List.range k).map fun i=>vi s (2+11*i)
def ju (s:List UInt8) (k:Nat):List Dty:=(List.range k).map fun i=>vc s (2+11*ba s+7*i)
def fL (s:List UInt8) (k:Nat):Bool:=(List.range k).all fun i=>decide (fv s (2+11*i+10) 1≤1)
def gU (s:List UInt8) (k:Nat):Bool:=(List.range k).all fun i=>decide (fv s (2+11*ba s+7*i+2) 1≤1)
def dQ (s:List UInt8):Tbl:=⟨il s (ba s),ju s (dD s)⟩
def fU (s:List UInt8):Int:=if s.length<2 then 10 else if s.length≠2+11*ba s+7*dD s then 10 else au [aS (fL s (ba s)&&gU s (dD s)) 3,dJ (dQ s)]
def cX (s:List UInt8):Tbl:=if fU s=0 then dQ s else gR
theorem wT (s:List UInt8) (a m n:Nat):(s.drop a).take m ++ (s.drop (a+m)).take n=(s.drop a).take (m+n):=by
 rw[←List.drop_drop];generalize s.drop a=l;rw[←List.take_append_drop m (l.take (m+n)),List.take_take,Nat.min_eq_left ab,List.drop_take,Nat.add_sub_cancel_left]
structure TrnOk (x:Trn):Prop where
 i:1≤x.i∧x.i≤9999
 l:1≤x.l∧x.l≤2147483647
 u:0≤x.u∧x.u≤x.l
structure DtyOk (x:Dty):Prop where
 g:0≤x.g∧x.g≤600
 l:1≤x.l∧x.l≤2147483647
theorem trnE_zero {p:Option Trn} {x:Trn}:kz p x=0↔TrnOk x∧∀y,p=some y→y.i<x.i:=by
 unfold kz;rw[aX];simp only[List.mem_cons,List.not_mem_nil,or_false,forall_eq_or_imp,forall_eq];rw[aQ aq,aQ aq,Bool.and_eq_true,Bool.and_eq_true,inB_true,inB_true,inB_true]
 constructor
 · rintro ⟨⟨⟨h1,h2⟩,h3⟩,h4⟩
   refine⟨⟨h1,h2,h3⟩,fun y hy=>?_⟩;subst hy;simpa using h4
 · rintro ⟨⟨h1,h2,h3⟩,h4⟩
   refine⟨⟨⟨h1,h2⟩,h3⟩,?_⟩
   cases p with
   | none=>rfl
   | some y=>simpa using h4 y rfl
theorem dtyE_zero {p:Option Dty} {x:Dty}:j9 p x=0↔DtyOk x∧∀y,p=some y→y.g<x.g:=by
 unfold j9;rw[aX];simp only[List.mem_cons,List.not_mem_nil,or_false,forall_eq_or_imp,forall_eq];rw[aQ aq,aQ aq,Bool.and_eq_true,inB_true,inB_true]
 constructor
 · rintro ⟨⟨h1,h2⟩,h4⟩
   refine⟨⟨h1,h2⟩,fun y hy=>?_⟩;subst hy;simpa using h4
 · rintro ⟨⟨h1,h2⟩,h4⟩
   refine⟨⟨h1,h2⟩,?_⟩
   cases p with
   | none=>rfl
   | some y=>simpa using h4 y rfl
structure TblOk (t:Tbl):Prop where
 n:t.ts.length≤60
 m:t.ds.length≤60
 ts:∀k (h:k<t.ts.length),TrnOk t.ts[k]
 ds:∀k (h:k<t.ds.length),DtyOk t.ds[k]
 tord:∀k (h:k+1<t.ts.length),t.ts[k].i<t.ts[k+1].i
 dord:∀k (h:k+1<t.ds.length),t.ds[k].g<t.ds[k+1].g
theorem cI {α:Type} (f:Nat→α→Int) (l:List α):(cP f 0 l).2=0↔∀k (h:k<l.length),f k l[k]=0:=by
 constructor
 · intro h k hk
   have:=jQ f l 0 h k hk
   rwa [Nat.zero_add] at this
 · intro h
   rw[cY f l 0 fun k hk=>by rw[Nat.zero_add];exact h k hk]
theorem ek {α:Type} (l:List α) (k:Nat) (h:k<l.length):cU l (k+1)=some l[k]:=by
 unfold cU;rw[if_neg ab,Nat.add_sub_cancel,List.getElem?_eq_getElem h]
theorem tblE_zero {t:Tbl}:dJ t=0↔TblOk t:=by
 unfold dJ jB rj
 constructor
 · intro h
   split at h
   · cases h
   rename_i h0
   split at h
   · rename_i h1;exact absurd h h1
   rename_i h1
   have h1:=(cI _ _).1 (Classical.not_not.1 h1);have h2:=(cI _ _).1 h;refine⟨by omega,by omega,fun k hk=>(trnE_zero.1 (h1 k hk)).1,fun k hk=>(dtyE_zero.1 (h2 k hk)).1,fun k hk=>?_,fun k hk=>?_⟩
   · exact(trnE_zero.1 (h1 (k+1) hk)).2 _ (ek _ _ _)
   · exact(dtyE_zero.1 (h2 (k+1) hk)).2 _ (ek _ _ _)
 · intro h
   rw[if_neg (by have:=h.n;have:=h.m;omega)];rw[if_neg]
   · rw[cI]
     intro k hk;rw[dtyE_zero];refine⟨h.ds k hk,fun y hy=>?_⟩
     cases k with
     | zero=>cases hy
     | succ k=>rw[ek _ _ ab] at hy;cases hy;exact h.dord k hk
   · rw[Classical.not_not,cI]
     intro k hk;rw[trnE_zero];refine⟨h.ts k hk,fun y hy=>?_⟩
     cases k with
     | zero=>cases hy
     | succ k=>rw[ek _ _ ab] at hy;cases hy;exact h.tord k hk
end Go.Proofs.YtcfdpfmchchkaaaGreatDoor
