/-
  Chapter 20: plain words of logs. No program in sight.
  Chapter 20: plain words of pages: what stands in a room, the page of it, the restart page; what is read. No program in sight.
  Chapter 21 in plain words: operations on pages: their errors, whether they fit, the page after them, inverses, bytes.
  Chapter 20: plain facts of valid logs. No program in sight.
  An operation that came in, by value: what the walk is told of it.
  Values that came in, opened: slices, arrays and structs whose elements are read by a reader of their cells.
  The small functions of package bytes and of the helpers: within, unless, first, stringErr, countErr, limit. Each returns what its plain function says, and memory is as it was.
-/
import Derived.Test.YtcfdpfmchchkaaaGreatDoorSplB
import Derived.Test.YtcfdpfmchchkaaaGreatDoorRows
import Derived.ProofKit
import Derived.Deep.SlicePairs
import Derived.Lib.SmallJoins
import Derived.OpenShut
import Derived.Deep.Slices
import Derived.Test.YtcfdpfmchchkaaaGreatDoorChecked
import Derived.WalkLawsBesides
import Derived.WalkSpells
import Derived.Deep.QuietTactic
import Derived.Deep.DeepFit
namespace Go.Proofs.YtcfdpfmchchkaaaGreatDoor
set_option linter.unusedVariables false
set_option linter.unusedSimpArgs false
open Go.RowKit
structure RstP where
 s:Int
 c:Int
 o:Int
 deriving DecidableEq
structure RecP where
 l:Int
 s:Int
 b:ByteArray
 deriving DecidableEq
structure RngP where
 pg:Int
 r:RstP
 e:RstP
 rs:List RecP
 nx:Int
 deriving DecidableEq
def BF:RstP:=⟨0,0,0⟩
def BG (n:Int):Int:=(n+19) / 8*8
def xx (x:RecP):Int:=x.l-1+BG x.b.size
def wF (p:Int):Int:=(p+447) / 448*448
def Bf (n:Int):Bool:=bE n 0 100000000
def A4 (x:RstP):Bool:=bE x.s 1 60000&&Bf x.c&&Bf x.o
def zx (o:Int) (f:Option RecP) (x:RecP):Bool:=match f with
 | none=>x.l==o&&decide (1≤o)&&(o-1) % 8==0
 | some y=>x.l-1==xx y||x.l-1==wF (xx y)
def seqB (f:Option RecP) (x:RecP):Bool:=match f with
 | none=>true
 | some y=>x.s==y.s||(decide (y.s<x.s)&&(x.l-1) % 448==0)
def zM (o q:Int) (f:Option RecP) (x:RecP):Int:=
 if x.b.size=0 then 17 else if 3000<x.b.size then 8 else if zx o f x=false then 9 else if bE x.s 1 q=false then 2 else bO (seqB f x) 9
def Ax (l:List RecP) (i:Nat):Option RecP:=if i=0 then none else l[i-1]?
def tw (r:RngP):Int:=match r.rs.getLast? with
 | none=>bO (r.nx==r.r.o-1&&r.nx % 448==0) 9
 | some y=>bO ((r.nx==xx y||r.nx==wF (xx y))&&(y.s==r.r.s||r.nx % 448==0)) 9
def AB (l:List RecP) (n:Int):Bool:=l.any fun x=>x.l==n
def rS (r:RngP):Int × Int:=match r.rs.getLast? with
 | none=>(0,0)
 | some y=>((r.r.o-1) / 448,(xx y-1) / 448-(r.r.o-1) / 448+1)
def zX (r:RngP):Int:=aP [tw r,bO (r.r.c==0||AB r.rs r.r.c) 6,bO (decide ((rS r).2≤r.pg-2)) 16]
theorem sn (l:List UInt8) (a:Nat) (h:a+2≤l.length):(l.drop a).take 2=[l.getD a 0,l.getD (a+1) 0]:=by
 rw[List.drop_eq_getElem_cons (by omega),List.drop_eq_getElem_cons (by omega)];simp only[List.take_succ_cons,List.take_zero,List.getD_eq_getElem?_getD,List.getElem?_eq_getElem (show a<l.length by omega),List.getElem?_eq_getElem (show a+1<l.length by omega),Option.getD_some]
open Go.RowKit
def ja (l:List UInt8) (a c:Nat):Int:=num ((l.drop a).take c)
theorem xY (l:List UInt8) (a c:Nat):0≤ja l a c∧ja l a c<256 ^ c:=by
 obtain⟨h1,h2⟩:=eU ((l.drop a).take c);refine⟨h1,Int.lt_of_lt_of_le h2 ?_⟩;have:((l.drop a).take c).length≤c:=List.length_take_le _ _;generalize ((l.drop a).take c).length=n at this;have h3:(256:Nat) ^ n≤256 ^ c:=Nat.pow_le_pow_right (by decide) this;have h4:=Int.ofNat_le.2 h3
 rwa [Int.natCast_pow,Int.natCast_pow] at h4
open Go.RowKit
structure Op where
 k:Int
 a:Int
 e:Int
 c:Int
 o:ByteArray
 n:ByteArray
def BH:Op:=⟨0,0,0,0,⟨#[]⟩,⟨#[]⟩⟩
def eQ (x:Op):Value:=.agg #[.int .i64 x.k,.int .i64 x.a,.int .i64 x.e,.int .i64 x.c,.string x.o,.string x.n]
def qQ (x:Op):List Value:=[.int .i64 x.k,.int .i64 x.a,.int .i64 x.e,.int .i64 x.c,.string x.o,.string x.n]
def iZ (k:Int):Bool:=bE k 1 5
def fo (k:Int):Bool:=bE k 2 3
def dm (k:Int):Bool:=bE k 4 5
def fe (k:Int):Bool:=k==1||k==3||k==6
def fc (k:Int):Bool:=k==1||k==2||k==6
def bB (x:Op):Bool:=(iZ x.k||x.a==0)&&(fo x.k||x.e==0)&&(dm x.k||x.c==0)&&(fe x.k||x.o.size==0)&&(fc x.k||x.n.size==0)
def cC (x:Op):Bool:=if x.k=1 then x.o.size==x.n.size else if x.k=6 then x.o.size==512&&x.n.size==512 else true
def cY (k:Int):Bool:=bE k 1 3
def bI (x:Op):Nat:=max x.o.size x.n.size
def cz (x:Op):Bool:=
 if x.k=1 then bE x.a 0 511&&decide ((x.o.size:Int)≤512-x.a)
 else if x.k=2 then bE x.a 0 511&&bE x.e x.a (512-(x.o.size+x.n.size))
 else if x.k=3 then bE x.a 0 511&&bE x.e (x.a+(x.o.size+x.n.size)) 512
 else if x.k=4∨x.k=5 then bE x.a 0 4095&&bE x.c 1 (4096-x.a)
 else true
def dq (x:Op):Int:=if bE x.k 0 6=false then 15 else
 aP [bO (bB x) 3,bO (cC x) 10,bO (!cY x.k||decide (0<bI x)) 17,bO (!cY x.k||decide (bI x≤200)) 8,bO (cz x) 2]
theorem bw:∀(l:List Int),aP l=0↔∀e∈l,e=0
 | []=>by simp[aP]
 | e::l=>by
  have ih:=bw l;by_cases h:e=0
  · simp[aP,h,ih]
  · simp[aP,h]
theorem bC {b:Bool} {e:Int} (he:e≠0):bO b e=0↔b=true:=by cases b<;>simp[bO,he]
def cx (b:UInt8) (j:Nat):Bool:=b.toNat / 2 ^ j % 2==1
def bZ (b:UInt8) (j:Nat) (v:Bool):UInt8:=UInt8.ofNat (b.toNat-b.toNat / 2 ^ j % 2*2 ^ j+(if v then 2 ^ j else 0))
def putAt (l:List UInt8) (i:Nat) (v:Bool):List UInt8:=l.set (i / 8) (bZ (l.getD (i / 8) 0) (i % 8) v)
def dK (l:List UInt8) (i:Nat):Bool:=cx (l.getD (i / 8) 0) (i % 8)
def bJ (l:List UInt8) (a:Nat):Nat→Bool→List UInt8
 | 0,_=>l
 | c+1,v=>putAt (bJ l a c v) (a+c) v
def bN (l:List UInt8) (a:Nat):Nat→Bool→Bool
 | 0,_=>true
 | c+1,v=>bN l a c v&&(dK l (a+c) != v)
theorem cV (l:List UInt8) (a c:Nat) (v:Bool):(bJ l a c v).length=l.length:=by
 induction c with
 | zero=>rfl
 | succ c ih=>unfold bJ putAt;rw[List.length_set,ih]
theorem sJ (b:UInt8) (j j':Nat) (v:Bool) (hj:j<8) (hj':j'<8) (h:j≠j'):cx (bZ b j v) j'=cx b j':=by
 have all:∀n:Fin 256,∀j:Fin 8,∀j':Fin 8,∀v:Bool,j≠j'→cx (bZ (UInt8.ofNat n.val) j.val v) j'.val=cx (UInt8.ofNat n.val) j'.val:=by decide +kernel
 have:=all ⟨b.toNat,b.toNat_lt⟩ ⟨j,hj⟩ ⟨j',hj'⟩ v (fun e=>h (by simpa using e))
 simpa using this
theorem u9 (b:UInt8) (j:Nat) (v:Bool) (hj:j<8):cx (bZ b j v) j=v:=by
 have all:∀n:Fin 256,∀j:Fin 8,∀v:Bool,cx (bZ (UInt8.ofNat n.val) j.val v) j.val=v:=by decide +kernel
 simpa using all ⟨b.toNat,b.toNat_lt⟩ ⟨j,hj⟩ v
theorem pY (l:List UInt8) (i i':Nat) (v:Bool) (h:i / 8<l.length):dK (putAt l i v) i'=if i=i' then v else dK l i':=by
 unfold dK putAt;by_cases hq:i / 8=i' / 8
 · rw[←hq,List.getD_eq_getElem?_getD,List.getElem?_set_self h]
   simp only[Option.getD_some];by_cases e:i=i'
   · rw[if_pos e,←e];exact u9 _ _ _ (by omega)
   · rw[if_neg e];exact sJ _ _ _ _ (by omega) (by omega) (by omega)
 · rw[if_neg (fun e=>hq (by rw[e])),List.getD_eq_getElem?_getD,List.getElem?_set_ne hq,←List.getD_eq_getElem?_getD]
theorem ji (l:List UInt8) (a c i:Nat) (v:Bool) (h:(a+c)≤8*l.length):dK (bJ l a c v) i=if a≤i∧i<a+c then v else dK l i:=by
 induction c with
 | zero=>rw[if_neg (by omega)];rfl
 | succ c ih=>
  unfold bJ;rw[pY _ _ _ _ (by rw[cV];omega),ih (by omega)];by_cases e:a+c=i
  · rw[if_pos e,if_pos (by omega)]
  · rw[if_neg e]
    by_cases g:a≤i∧i<a+c
    · rw[if_pos g,if_pos (by omega)]
    · rw[if_neg g,if_neg (by omega)]
def zr (p:List UInt8) (a e:Nat) (n:List UInt8):List UInt8:=p.take a ++ n ++ (p.take e).drop a ++ p.drop (e+n.length)
def yO (p:List UInt8) (a e:Nat) (n:Nat):List UInt8:=p.take a ++ (p.take e).drop (a+n) ++ List.replicate n 0 ++ p.drop e
def gA (l:List UInt8):Bool:=l.all (·==0)
def eF (p:ByteArray) (x:Op):ByteArray:=
 if x.k=1 then oL p x.a.toNat x.n
 else if x.k=2 then bs (zr (bl p) x.a.toNat x.e.toNat (bl x.n))
 else if x.k=3 then bs (yO (bl p) x.a.toNat x.e.toNat x.o.size)
 else if x.k=4 then bs (bJ (bl p) x.a.toNat x.c.toNat true)
 else if x.k=5 then bs (bJ (bl p) x.a.toNat x.c.toNat false)
 else if x.k=6 then x.n
 else p
def dc (p:ByteArray) (x:Op):Bool:=
 if x.k=1∨x.k=3 then ((bl p).drop x.a.toNat).take x.o.size==bl x.o
 else if x.k=2 then gA (((bl p).drop x.e.toNat).take x.n.size)
 else if x.k=4 then bN (bl p) x.a.toNat x.c.toNat true
 else if x.k=5 then bN (bl p) x.a.toNat x.c.toNat false
 else if x.k=6 then bl p==bl x.o
 else true
def bQ (p:ByteArray) (x:Op):ByteArray × Int:=if dq x≠0 then (⟨#[]⟩,dq x) else if dc p x then (eF p x,0) else (⟨#[]⟩,13)
def fJ (p:ByteArray):Nat→List Op→ByteArray × Nat × Int
 | i,[]=>(p,i,0)
 | i,x::l=>if (bQ p x).2≠0 then (⟨#[]⟩,i,(bQ p x).2) else fJ (bQ p x).1 (i+1) l
def cy (p:ByteArray):Int:=bO (p.size==512) 10
def el (p:ByteArray) (l:List Op):ByteArray × Nat × Int:=if cy p≠0 then (⟨#[]⟩,0,cy p) else if 64<l.length then (⟨#[]⟩,0,8) else fJ p 0 l
def jb (x:Op):Op:=
 if x.k=2 then ⟨3,x.a,x.e+x.n.size,x.c,x.n,x.o⟩
 else if x.k=3 then ⟨2,x.a,x.e-x.o.size,x.c,x.n,x.o⟩
 else if x.k=4 then ⟨5,x.a,x.e,x.c,x.n,x.o⟩
 else if x.k=5 then ⟨4,x.a,x.e,x.c,x.n,x.o⟩
 else ⟨x.k,x.a,x.e,x.c,x.n,x.o⟩
open Go.RowKit
def I6 (n:Int):Prop:=-9223372036854775808≤n∧n<9223372036854775808
theorem ey {α:Type} (f:Nat→α→Int):∀(l:List α) (i j:Nat) (h:j<l.length),(∀k (hk:k<l.length),k<j→f (i+k) l[k]=0)→f (i+j) l[j]≠0→dk f i l=(((i+j:Nat):Int),f (i+j) l[j])
 | x::l,i,0,h,_,h1=>by
  unfold dk;rw[if_neg (show ¬f i x=0 from h1)];rfl
 | x::l,i,j+1,h,h0,h1=>by
  have h00:=h0 0 (by simp) (by omega);unfold dk;rw[if_pos (show f i x=0 from h00)];have:=ey f l (i+1) j (by simpa using h) (fun k hk hkj=>by have:=h0 (k+1) (by simpa using hk) (by omega);rw[show i+1+k=i+(k+1) by omega];simpa using this) (by rw[show i+1+j=i+(j+1) by omega];simpa using h1);rw[this,show i+1+j=i+(j+1) by omega];rfl
theorem dV {α:Type} (f:Nat→α→Int):∀(l:List α) (i:Nat),(∀k (hk:k<l.length),f (i+k) l[k]=0)→dk f i l=(0,0)
 | [],_,_=>rfl
 | x::l,i,h=>by
  unfold dk;rw[if_pos (show f i x=0 from h 0 (Nat.succ_pos _))]
  exact dV f l (i+1) fun k hk=>by have:=h (k+1) (by simpa using hk);rw[show i+1+k=i+(k+1) by omega];simpa using this
structure HeadP (r:RngP):Prop where
 pg:4≤r.pg∧r.pg≤40
 rb:A4 r.r=true
 rr:(1≤r.r.s∧r.r.s≤60000)∧(0≤r.r.c∧r.r.c≤100000000)∧(0≤r.r.o∧r.r.o≤100000000)
 e:r.e=BF∨(A4 r.e=true∧r.e.s=r.r.s-1)
 nx:0≤r.nx∧r.nx≤100000000∧r.nx % 8=0
 len:r.rs.length≤100
theorem recE_zero {o q:Int} {f:Option RecP} {x:RecP}:zM o q f x=0↔x.b.size≠0∧x.b.size≤3000∧zx o f x=true∧bE x.s 1 q=true∧seqB f x=true:=by
 unfold zM;by_cases h1:x.b.size=0
 · simp[h1]
 rw[if_neg h1];by_cases h2:3000<x.b.size
 · rw[if_pos h2];simp;omega
 rw[if_neg h2];by_cases h3:zx o f x=false
 · simp[h3]
 rw[if_neg h3];by_cases h4:bE x.s 1 q=false
 · simp[h4]
 rw[if_neg h4,bC (by decide)];simp at h3 h4;simp[h1,h3,h4];omega
open Go.ChangeShapes Go.WideShapes Go.ChangeAt Go.RowKit
set_option maxRecDepth 100000 in
theorem yy {H:Type} {enc:TypeId × Value→H} {W:World} {base fuel:Nat} {sp:Nat→Bool} {held:Bool} {cs:List Value} {x:DataW H × List MemPlace}
 (hl:cs.length=6) (h:DataW.trod enc Tryz.prog W base sp held fuel 141 cs=some x):∃y:Op,cs=qQ y∧y.o.size≤maxLen∧y.n.size≤maxLen:=by
 obtain⟨xs,k,hk,hxy,_,hxl,hf⟩:=DataW.trod_struct Tryz.underlying141 h
 match xs,hxl,cs,hl with
 | [y0,y1,y2,y3,y4,y5],_,[c0,c1,c2,c3,c4,c5],_=>
  have ci:Tryz.prog.cellsOf 3=1:=by kernel_rfl
  have cS:Tryz.prog.cellsOf 9=1:=by kernel_rfl
  have g0:=hf 0 _ rfl;have g1:=hf 1 _ rfl;have g2:=hf 2 _ rfl;have g3:=hf 3 _ rfl;have g4:=hf 4 _ rfl;have g5:=hf 5 _ rfl;simp[ci,cS] at g0 g1 g2 g3 g4 g5;obtain⟨x0,e0,_,_⟩:=DataW.trod_int Tryz.underlying3 g0;obtain⟨x1,e1,_,_⟩:=DataW.trod_int Tryz.underlying3 g1;obtain⟨x2,e2,_,_⟩:=DataW.trod_int Tryz.underlying3 g2;obtain⟨x3,e3,_,_⟩:=DataW.trod_int Tryz.underlying3 g3;obtain⟨x4,e4,_,s4⟩:=DataW.trod_string Tryz.underlying9 g4;obtain⟨x5,e5,_,s5⟩:=DataW.trod_string Tryz.underlying9 g5;simp only[List.cons.injEq,and_true] at e0 e1 e2 e3 e4 e5;refine⟨⟨x0,x1,x2,x3,x4,x5⟩,?_,s4,s5⟩;rw[e0,e1,e2,e3,e4,e5];rfl
open Go.ChangeShapes Go.WideShapes Go.ChangeAt Go.RowKit
theorem iF {α:Type} {f:α→List Value} {n:Nat} (hf:∀x,(f x).length=n) (l:List α):(l.flatMap f).length=n*l.length:=by
 induction l with
 | nil=>rfl
 | cons x l ih=>rw[List.flatMap_cons,List.length_append,hf,ih,List.length_cons,Nat.mul_succ,Nat.add_comm]
theorem uP {α:Type} {f:α→List Value} {n:Nat} (hf:∀x,(f x).length=n) (l:List α):∀(k:Nat) (h:k<l.length) (j:Nat) (u:Value),(f l[k])[j]? = some u→(l.flatMap f)[k*n+j]? = some u:=by
 induction l with
 | nil=>intro k h;exact absurd h (by simp)
 | cons x l ih=>
  intro k h j u hu
  have hj:j<n:=by rw[←hf];exact(List.getElem?_eq_some_iff.1 hu).1
  rw[List.flatMap_cons]
  cases k with
  | zero=>rw[List.getElem?_append_left (by rw[hf];omega),Nat.zero_mul,Nat.zero_add];exact hu
  | succ k=>
   rw[List.getElem?_append_right (by rw[hf,Nat.succ_mul];omega),hf,←ih k (by simpa using h) j u (by simpa using hu),Nat.succ_mul]
   congr 1;omega
theorem wL {α:Type} {f:α→List Value} {n:Nat} (hf:∀x,(f x).length=n) (l:List α) {j:Nat} {u:Value} (h:(l.flatMap f)[j]? = some u) :
 ∃(k:Nat) (hk:k<l.length) (r:Nat),r<n∧j=k*n+r∧(f l[k])[r]? = some u:=by
 have hj:=(List.getElem?_eq_some_iff.1 h).1;rw[iF hf] at hj
 have hn:0<n:=by
  rcases Nat.eq_zero_or_pos n with h0 | h0
  · subst h0;simp at hj
  · exact h0
 have hk:j / n<l.length:=(Nat.div_lt_iff_lt_mul hn).2 (by rw[Nat.mul_comm];exact hj);have hr:j % n<n:=Nat.mod_lt _ hn
 have e:j=j / n*n+j % n:=by rw[Nat.mul_comm];exact(Nat.div_add_mod j n).symm
 refine⟨j / n,hk,j % n,hr,e,?_⟩;have h1:(f l[j / n])[j % n]? = some ((f l[j / n])[j % n]'(by rw[hf];exact hr)):=List.getElem?_eq_getElem _;have h2:=uP hf l _ hk _ _ h1;rw[←e,h] at h2;rw[h1,←h2]
theorem nE {H:Type} {enc:TypeId × Value→H} {P:Program} {W:World} {r:Reach} {base:Nat} {t e:TypeId} {v:Value} {d:DataW H} {p:List MemPlace}
 {α:Type} (f:α→List Value) (n:Nat) (hf:∀x,(f x).length=n) (G:α→Prop) (ht:P.underlying t=some (.slice e)) (hC:P.cellsOf e=n)
 (each:∀(fuel:Nat) (cs:List Value) (x:DataW H × List MemPlace),cs.length=n→DataW.trod enc P W 0 (fun _=>true) true fuel e cs=some x→∃y,cs=f y∧G y)
 (hv:Value.okWide P W r base t v) (h:DataW.Trod enc P W 0 (fun _=>true) true t v d p) :
 ∃(A:Option Addr) (c:Nat) (l:List α),v=.slice A l.length c∧l.length≤maxLen∧Rd W W.heap.size A (l.flatMap f)∧∀x∈l,G x:=by
 obtain⟨a0,len0,cap0,rfl⟩:=okWide_slice ht hv;obtain⟨fuel,hfu⟩:=h;rcases Go.Deep.open_slice ht hfu with ⟨hcs,_⟩ | ⟨a,len,cap,m,k,D,Pl,hcs,_,hl,hm,hmm,_,hx⟩
 · simp[Value.cells] at hcs
   obtain⟨rfl,rfl,rfl⟩:=hcs;exact⟨none,0,[],rfl,Nat.zero_le _,Rd.nil _ _ _,fun x hx=>absurd hx (List.not_mem_nil)⟩
 · simp[Value.cells] at hcs
   obtain⟨rfl,rfl,rfl⟩:=hcs;rw[if_pos rfl] at hmm;rw[hC] at hx
   have each':∀i,i<len0→∃y:α,G y∧∀j,j<n→W.cell? ((a.add (i*n)).add j)=(f y)[j]?:=by
    intro i hi;obtain⟨cs',hc,ht'⟩:=hx i (by omega);obtain⟨_,hlen,hat⟩:=World.cells?_some hc;obtain⟨y,rfl,hy⟩:=each _ _ _ hlen ht';exact⟨y,hy,hat⟩
   by_cases h0:len0=0
   · subst h0
     exact⟨some a,cap0,[],rfl,Nat.zero_le _,Rd.nil _ _ _,fun x hx=>absurd hx (List.not_mem_nil)⟩
   · obtain⟨y0,_,_⟩:=each' 0 (by omega)
     have hpos:Nonempty α:=⟨y0⟩
     obtain⟨q,hq⟩:=Classical.axiomOfChoice (r:=fun (i:Nat) (y:α)=>i<len0→G y∧∀j,j<n→W.cell? ((a.add (i*n)).add j)=(f y)[j]?) (fun i=>by
      by_cases hi:i<len0
      · obtain⟨y,hy⟩:=each' i hi;exact⟨y,fun _=>hy⟩
      · exact⟨y0,fun h=>absurd h hi⟩)
     have hlen:((List.range len0).map q).length=len0:=by rw[List.length_map,List.length_range]
     refine⟨some a,cap0,(List.range len0).map q,by rw[hlen],by rw[hlen];omega,?_,?_⟩
     · intro j u hj
       obtain⟨i,hi,r',hr,rfl,hu⟩:=wL hf _ hj;rw[hlen] at hi;have hc:=(hq i hi).2 r' hr;rw[List.getElem_map,List.getElem_range] at hu;rw[hu] at hc;obtain⟨b,o,sp⟩:=a
       have hs:sp=none:=by
        have h0:=(hq 0 (by omega)).2 0 (by omega);rw[List.getElem?_eq_getElem (by rw[hf];omega)] at h0;have:=World.cell?_spot h0
        simpa [Addr.add] using this
       subst hs
       have ea:((⟨b,o,none⟩:Addr).add (i*n)).add r'=⟨b,o+(i*n+r'),none⟩:=by
        unfold Addr.add
        by_cases h1:i*n=0<;>by_cases h2:r'=0<;>simp[h1,h2,Nat.add_assoc]
       rw[ea] at hc;exact⟨b,o,rfl,block_lt_of_cell hc,hc⟩
     · intro x hx
       obtain⟨i,hi,rfl⟩:=List.mem_map.1 hx;exact(hq i (List.mem_range.1 hi)).1
open Go.RowKit
theorem aM (n lo hi:Int) (w:World) :
 Calls Tryz.prog 152 #[.int .i64 n,.int .i64 lo,.int .i64 hi] w fun e w'=>e=.returned (.bool (bE n lo hi))∧w=w':=by
 by_cases h:lo≤n
 · go_enter Tryz.func152,Tryz.ntmps152
   go_wp2
   go_ret
   exact⟨by simp[bE,h],rfl⟩
 · go_enter Tryz.func152,Tryz.ntmps152
   go_wp2
   go_ret
   exact⟨by simp[bE];omega,rfl⟩
theorem bX (n lo hi:Int) (w:World) :
 Calls Tryz.prog 62 #[.int .i64 n,.int .i64 lo,.int .i64 hi] w fun e w'=>e=.returned (.bool (bE n lo hi))∧w=w':=by
 by_cases h:lo≤n
 · go_enter Tryz.func62,Tryz.ntmps62
   go_wp2
   go_ret
   exact⟨by simp[bE,h],rfl⟩
 · go_enter Tryz.func62,Tryz.ntmps62
   go_wp2
   go_ret
   exact⟨by simp[bE];omega,rfl⟩
theorem aN (ok:Bool) (e:Int) (w:World) :
 Calls Tryz.prog 151 #[.bool ok,.int .i64 e] w fun e' w'=>e'=.returned (.int .i64 (bO ok e))∧w=w':=by
 cases ok
 · go_enter Tryz.func151,Tryz.ntmps151
   go_wp2
   go_ret
   exact⟨rfl,rfl⟩
 · go_enter Tryz.func151,Tryz.ntmps151
   go_wp2
   go_ret
   exact⟨rfl,rfl⟩
theorem a6 (ok:Bool) (e:Int) (w:World) :
 Calls Tryz.prog 64 #[.bool ok,.int .i64 e] w fun e' w'=>e'=.returned (.int .i64 (bO ok e))∧w=w':=by
 cases ok
 · go_enter Tryz.func64,Tryz.ntmps64
   go_wp2
   go_ret
   exact⟨rfl,rfl⟩
 · go_enter Tryz.func64,Tryz.ntmps64
   go_wp2
   go_ret
   exact⟨rfl,rfl⟩
theorem lq (b o:Nat) (es:List Int) (w:World) (hlen:es.length≤100)
 (hc:∀k (_:k<es.length),w.cell? ⟨b,o+k,none⟩=some (.int .i64 es[k])) :
 Calls Tryz.prog 143 #[.slice (some ⟨b,o,none⟩) es.length es.length] w fun e w'=>e=.returned (.int .i64 (aP es))∧w=w':=by
 go_enter Tryz.func143,Tryz.ntmps143
 go_wp2
 go_loop [7] (fun i=>∃k:Nat,k≤es.length∧i=.int .i64 k∧aP es=aP (es.drop k)) (fun i=>es.length-(intOf i).toNat)
 case atStart=>exact⟨0,Nat.zero_le _,rfl,rfl⟩
 case round=>
  obtain⟨k,hk,rfl,hf⟩:=hrel;have HF:=Lib.hid hf;clear hf;by_cases hlt:k<es.length
  · have hck:=hc k hlt
    have hd:es.drop k=es[k]::es.drop (k+1):=List.drop_eq_getElem_cons hlt;have HD:=Lib.hid hd;clear hd hc;by_cases h0:es[k]=0
    · have h0':(es[k] != 0)=false:=by simp[h0]
      have H0:=Lib.hid h0;clear h0
      go_wp2
      go_round
      case rel=>exact⟨k+1,by omega,by go_num,by rw[HF.out,HD.out];simp[aP,H0.out]⟩
      case measure=>simp[intOf];omega
    · have h0':(es[k] != 0)=true:=by simp[h0]
      have H0:=Lib.hid h0;clear h0
      go_wp2
      go_ret
      exact⟨by rw[HF.out,HD.out];simp[aP,H0.out],rfl⟩
  · go_wp2
    go_ret
    exact⟨by rw[HF.out,List.drop_of_length_le (by omega)];rfl,rfl⟩
theorem fC (b o:Nat) (es:List Int) (w:World) (hlen:es.length≤100)
 (hc:∀k (_:k<es.length),w.cell? ⟨b,o+k,none⟩=some (.int .i64 es[k])) :
 Calls Tryz.prog 63 #[.slice (some ⟨b,o,none⟩) es.length es.length] w fun e w'=>e=.returned (.int .i64 (aP es))∧w=w':=by
 go_enter Tryz.func63,Tryz.ntmps63
 go_wp2
 go_loop [7] (fun i=>∃k:Nat,k≤es.length∧i=.int .i64 k∧aP es=aP (es.drop k)) (fun i=>es.length-(intOf i).toNat)
 case atStart=>exact⟨0,Nat.zero_le _,rfl,rfl⟩
 case round=>
  obtain⟨k,hk,rfl,hf⟩:=hrel;have HF:=Lib.hid hf;clear hf;by_cases hlt:k<es.length
  · have hck:=hc k hlt
    have hd:es.drop k=es[k]::es.drop (k+1):=List.drop_eq_getElem_cons hlt;have HD:=Lib.hid hd;clear hd hc;by_cases h0:es[k]=0
    · have h0':(es[k] != 0)=false:=by simp[h0]
      have H0:=Lib.hid h0;clear h0
      go_wp2
      go_round
      case rel=>exact⟨k+1,by omega,by go_num,by rw[HF.out,HD.out];simp[aP,H0.out]⟩
      case measure=>simp[intOf];omega
    · have h0':(es[k] != 0)=true:=by simp[h0]
      have H0:=Lib.hid h0;clear h0
      go_wp2
      go_ret
      exact⟨by rw[HF.out,HD.out];simp[aP,H0.out],rfl⟩
  · go_wp2
    go_ret
    exact⟨by rw[HF.out,List.drop_of_length_le (by omega)];rfl,rfl⟩
theorem aK {W w1:World} (hb:Below W.heap.size W w1):(∀b o,b<W.heap.size→w1.cell? ⟨b,o,none⟩=W.cell? ⟨b,o,none⟩)∧(∀b o,b<W.heap.size→w1.frozen? ⟨b,o,none⟩=W.frozen? ⟨b,o,none⟩):=
 ⟨fun b o h=>hb.cell (p:=⟨b,o,none⟩) h,fun b o h=>hb.frozen (p:=⟨b,o,none⟩) h⟩
theorem aZ (es:List Int) (w:World) (hlen:es.length≤100) :
 Calls Tryz.prog 143 #[.slice (some ⟨w.heap.size,0,none⟩) es.length es.length] (w.alloc (.cells (es.map (Value.int .i64)).toArray 28)) fun e w'=>e=.returned (.int .i64 (aP es))∧w.alloc (.cells (es.map (Value.int .i64)).toArray 28)=w':=
 lq _ _ es _ hlen fun k hk=>by simp[hk]
theorem aT (n lo hi:Int) (w:World) :
 Calls Tryz.prog 74 #[.int .i64 n,.int .i64 lo,.int .i64 hi] w fun e w'=>e=.returned (.bool (bE n lo hi))∧w=w':=by
 by_cases h:lo≤n
 · go_enter Tryz.func74,Tryz.ntmps74
   go_wp2
   go_ret
   exact⟨by simp[bE,h],rfl⟩
 · go_enter Tryz.func74,Tryz.ntmps74
   go_wp2
   go_ret
   exact⟨by simp[bE];omega,rfl⟩
end Go.Proofs.YtcfdpfmchchkaaaGreatDoor
