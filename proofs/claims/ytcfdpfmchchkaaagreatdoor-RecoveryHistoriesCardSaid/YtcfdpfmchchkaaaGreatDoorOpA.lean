/-
  Chapter 20: plain words of logs. No program in sight.
  Chapter 20: plain words of pages: what stands in a room, the page of it, the restart page; what is read. No program in sight.
  Chapter 21 in plain words: operations on pages: their errors, whether they fit, the page after them, inverses, bytes.
  Chapter 20: plain facts of valid logs. No program in sight.
  An operation that came in, by value: what the walk is told of it.
  Values that came in, opened: slices, arrays and structs whose elements are read by a reader of their cells.
  The small functions of package bytes and of the helpers: within, unless, first, stringErr, countErr, limit. Each returns what its plain function says, and memory is as it was.
-/
import Derived.Test.YtcfdpfmchchkaaaGreatDoorSplB
import Derived.Test.YtcfdpfmchchkaaaGreatDoorRows
import Derived.ProofKit
import Derived.Deep.SlicePairs
import Derived.Lib.SmallJoins
import Derived.OpenShut
import Derived.Deep.Slices
import Derived.Test.YtcfdpfmchchkaaaGreatDoorChecked
import Derived.WalkLawsBesides
import Derived.WalkSpells
import Derived.Deep.QuietTactic
import Derived.Deep.DeepFit
namespace Go.Proofs.YtcfdpfmchchkaaaGreatDoor
set_option maxRecDepth 100000
set_option linter.unusedVariables false
set_option linter.unusedSimpArgs false
open Go.RowKit
structure RstP where
 s:Int
 c:Int
 o:Int
 deriving DecidableEq
structure RecP where
 l:Int
 s:Int
 b:ByteArray
 deriving DecidableEq
structure RngP where
 pg:Int
 r:RstP
 e:RstP
 rs:List RecP
 nx:Int
 deriving DecidableEq
def rst0:RstP:=⟨0,0,0⟩
def nj (n:Int):Int:=(n+19) / 8*8
def ew (x:RecP):Int:=x.l-1+nj x.b.size
def eU (p:Int):Int:=(p+447) / 448*448
def iD (n:Int):Int:=bn (bf n 4 40) 2
def ig (n:Int):Bool:=bf n 0 100000000
def nZ (x:RstP):Bool:=bf x.s 1 60000&&ig x.c&&ig x.o
def eI (x:RstP):Int:=bn (nZ x) 2
def gp (o:Int) (f:Option RecP) (x:RecP):Bool:=match f with
 | none=>x.l==o&&decide (1≤o)&&(o-1) % 8==0
 | some y=>x.l-1==ew y||x.l-1==eU (ew y)
def seqB (f:Option RecP) (x:RecP):Bool:=match f with
 | none=>true
 | some y=>x.s==y.s||(decide (y.s<x.s)&&(x.l-1) % 448==0)
def dY (o q:Int) (f:Option RecP) (x:RecP):Int:=
 if x.b.size=0 then 17 else if 3000<x.b.size then 8 else if gp o f x=false then 9 else if bf x.s 1 q=false then 2 else bn (seqB f x) 9
def cg (l:List RecP) (i:Nat):Option RecP:=if i=0 then none else l[i-1]?
def lv (r:RngP):Int × Int:=cB (fun i x=>dY r.r.o r.r.s (cg r.rs i) x) 0 r.rs
def fA (r:RngP):Int:=match r.rs.getLast? with
 | none=>bn (r.nx==r.r.o-1&&r.nx % 448==0) 9
 | some y=>bn ((r.nx==ew y||r.nx==eU (ew y))&&(y.s==r.r.s||r.nx % 448==0)) 9
def nX (l:List RecP) (n:Int):Bool:=l.any fun x=>x.l==n
def fz (r:RngP):Int × Int:=match r.rs.getLast? with
 | none=>(0,0)
 | some y=>((r.r.o-1) / 448,(ew y-1) / 448-(r.r.o-1) / 448+1)
def ie (r:RngP):Int:=if r.e=rst0 then 0 else ar [eI r.e,bn (r.e.s==r.r.s-1) 9]
def ei (r:RngP):Int:=ar [iD r.pg,eI r.r,ie r,bn (ig r.nx&&r.nx % 8==0) 2,bn (decide (r.rs.length≤100)) 8]
def jf (r:RngP):Int:=ar [fA r,bn (r.r.c==0||nX r.rs r.r.c) 6,bn (decide ((fz r).2≤r.pg-2)) 16]
def de (r:RngP):Int × Int:=if ei r≠0 then (0,ei r) else if (lv r).2≠0 then lv r else (0,jf r)
def zJ (r:RngP) (s:ByteArray):RngP:={ r with rs:=r.rs ++ [⟨r.nx+1,r.r.s,s⟩],nx:=r.nx+nj s.size }
def CB (r:RngP):RngP:={ r with nx:=eU r.nx }
def C0 (r:RngP) (c o:Int):RngP:=⟨r.pg,⟨r.r.s+1,c,o⟩,r.r,r.rs.filter fun x=>decide (o≤x.l),eU r.nx⟩
def w6 (x:RecP):List UInt8:=
 lit x.b.size 2 ++ [0,0] ++ lit x.l 4 ++ lit (CX (bl x.b) 0) 4 ++ bl x.b ++ bK ((nj x.b.size).toNat-(12+x.b.size))
def kY (l:List UInt8) (a:Nat) (b:List UInt8):List UInt8:=l.take a ++ b ++ l.drop (a+b.length)
theorem qK {l b:List UInt8} {a:Nat} (h:a+b.length≤l.length):(kY l a b).length=l.length:=by
 unfold kY;simp only[List.length_append,List.length_take,List.length_drop];omega
theorem u9 {l b:List UInt8} {a:Nat} (h:a+b.length≤l.length) (i:Nat):(kY l a b).getD i 0=if a≤i∧i<a+b.length then b.getD (i-a) 0 else l.getD i 0:=by
 unfold kY;simp only[List.getD_eq_getElem?_getD]
 have h1:(l.take a ++ b).length=a+b.length:=by simp only[List.length_append,List.length_take];omega
 have h2:(l.take a).length=a:=by rw[List.length_take];omega
 by_cases hi:i<a+b.length
 · rw[List.getElem?_append_left ab]
   by_cases hj:i<a
   · rw[List.getElem?_append_left ab,if_neg ab,List.getElem?_take,if_pos hj]
   · rw[List.getElem?_append_right ab,if_pos ⟨by omega,hi⟩,h2]
 · rw[List.getElem?_append_right ab,if_neg ab,h1,List.getElem?_drop]
   congr 2;omega
theorem tI (l:List UInt8) (a:Nat) (h:a+2≤l.length):(l.drop a).take 2=[l.getD a 0,l.getD (a+1) 0]:=by
 rw[List.drop_eq_getElem_cons ab,List.drop_eq_getElem_cons ab];simp only[List.take_succ_cons,List.take_zero,List.getD_eq_getElem?_getD,List.getElem?_eq_getElem (show a<l.length by omega),List.getElem?_eq_getElem (show a+1<l.length by omega),Option.getD_some]
def CV (k:Nat):Nat:=64*k+62
def CY (n:Int) (b:List UInt8):Nat→List UInt8
 | 0=>kY b 40 (lit n 2)
 | k+1=>kY (kY (CY n b k) (42+2*k) (((CY n b k).drop (CV k)).take 2)) (CV k) (lit n 2)
def Dl (b:List UInt8) (n:Int):List UInt8:=CY n b 8
def Dg (s:List UInt8):Int:=num ((s.drop 40).take 2)
def CZ (s:List UInt8) (k:Nat):Bool:=Dg s==0||(s.drop (CV k)).take 2 != (s.drop 40).take 2
def Dk (s:List UInt8):Bool:=(List.range 8).all fun k=>!CZ s k
def Dm (s:List UInt8):Nat→List UInt8
 | 0=>s
 | k+1=>kY (Dm s k) (CV k) ((s.drop (42+2*k)).take 2)
def zo (s:List UInt8):List UInt8:=kY (Dm s 8) 40 (bK 18)
theorem sL (n i:Nat):(bK n).getD i 0=0:=by
 unfold bK;rw[List.getD_eq_getElem?_getD,List.getElem?_replicate]
 split<;>rfl
theorem ji (n:Nat):(bK n).length=n:=by simp[bK]
open Go.RowKit
def Dp (q u s:Int) (c:List UInt8):List UInt8:=[82,67,82,68] ++ (bK 4 ++ (lit q 4 ++ (lit u 2 ++ (lit s 4 ++ (bK 46 ++ c)))))
def C9 (q s pg:Int):Int:=(q / (pg-2)+s) % 65535+1
def CU (q s pg:Int) (c:List UInt8):List UInt8:=Dl (Dp q c.length s (c ++ bK (448-c.length))) (C9 q s pg)
def Dr (x:RstP) (pg:Int):List UInt8:=[82,83,84,82] ++ (bK 4 ++ (lit x.s 4 ++ (lit x.c 4 ++ (lit x.o 4 ++ (lit pg 2 ++ bK 490)))))
def Dn (x:RstP) (pg:Int):List UInt8:=Dl (Dr x pg) (x.s % 65535+1)
def fe (l:List UInt8) (a c:Nat):Int:=num ((l.drop a).take c)
theorem ye (l:List UInt8) (a c:Nat):0≤fe l a c∧fe l a c<256 ^ c:=by
 obtain⟨h1,h2⟩:=dS ((l.drop a).take c);refine⟨h1,Int.lt_of_lt_of_le h2 ?_⟩;have:((l.drop a).take c).length≤c:=List.length_take_le _ _;generalize ((l.drop a).take c).length=n at this;have Y:(256:Nat) ^ n≤256 ^ c:=Nat.pow_le_pow_right aq this;have Y:=Int.ofNat_le.2 Y
 rwa [Int.natCast_pow,Int.natCast_pow] at Y
def xy (q:Int) (st:List UInt8 × Int × Int) (x:RecP):List UInt8 × Int × Int:=
 if min ((q+1)*448) (ew x)≤max (q*448) (x.l-1) then st
 else (kY st.1 (max (q*448) (x.l-1)-q*448).toNat (((w6 x).drop (max (q*448) (x.l-1)-(x.l-1)).toNat).take (min ((q+1)*448) (ew x)-max (q*448) (x.l-1)).toNat),min ((q+1)*448) (ew x)-q*448,x.s)
def lR (s:List UInt8) (k:Nat):List UInt8:=(s.drop (512*k)).take 512
def xe (s:List UInt8) (pg:Nat) (top:Int) (q:Nat):Option (Int × List UInt8):=
 if Dk (lR s (2+q % (pg-2)))=false then none
 else if bf (fe (zo (lR s (2+q % (pg-2)))) 12 2) 0 448&&bf (fe (zo (lR s (2+q % (pg-2)))) 14 4) 1 top&&(CU q (fe (zo (lR s (2+q % (pg-2)))) 14 4) pg (((zo (lR s (2+q % (pg-2)))).drop 64).take (fe (zo (lR s (2+q % (pg-2)))) 12 2).toNat)==lR s (2+q % (pg-2)))
 then some (fe (zo (lR s (2+q % (pg-2)))) 14 4,((zo (lR s (2+q % (pg-2)))).drop 64).take (fe (zo (lR s (2+q % (pg-2)))) 12 2).toNat)
 else none
def Cj (s:List UInt8) (pg:Nat) (top q:Int):Nat→Nat→Nat→Option (List UInt8)
 | _,0,_=>some []
 | 0,_+1,_=>none
 | f+1,c+1,at'=>
  match xe s pg top (at' / 448) with
  | none=>none
  | some (q',b)=>
   if q'≠q∨b.length<at' % 448+min (c+1) (448-at' % 448) then none
   else (Cj s pg top q f (c+1-min (c+1) (448-at' % 448)) (at'+min (c+1) (448-at' % 448))).map fun l=>(b.drop (at' % 448)).take (min (c+1) (448-at' % 448)) ++ l
def Ah (s:List UInt8) (pg:Nat) (top:Int) (at':Int) (aft:Int):Option RecP:=
 if at'<0∨at' % 8≠0 then none else
 match xe s pg top (at'.toNat / 448) with
 | none=>none
 | some (q,_)=>
  if q<aft then none else
  match Cj s pg top q 3500 12 at'.toNat with
  | none=>none
  | some hd=>
   if bf (fe hd 0 2) 1 3000=false then none else
   match Cj s pg top q 3500 (nj (fe hd 0 2)).toNat at'.toNat with
   | none=>none
   | some wh=>
    if w6 ⟨at'+1,q,bs ((wh.drop 12).take (fe hd 0 2).toNat)⟩=wh then some ⟨at'+1,q,bs ((wh.drop 12).take (fe hd 0 2).toNat)⟩ else none
def Bf (s:List UInt8) (pg:Nat) (top:Int) (x:RecP):Option RecP:=
 match (Ah s pg top (ew x) x.s).filter (fun y=>ew x % 448==0||y.s==x.s) with
 | some y=>some y
 | none=>if ew x % 448=0 then none else
  match Ah s pg top (eU (ew x)) x.s with
  | none=>none
  | some y=>if x.s<y.s then some y else
   match xe s pg top ((ew x).toNat / 448) with
   | none=>none
   | some (_,b)=>if (b.length:Int)=ew x % 448 then some y else none
def qP (s:List UInt8) (pg:Nat) (top:Int):Nat→Option RecP→Option (List RecP)
 | _,none=>some []
 | 0,some _=>none
 | f+1,some x=>(qP s pg top f (Bf s pg top x)).map (x::·)
open Go.RowKit
structure Op where
 k:Int
 a:Int
 e:Int
 c:Int
 o:ByteArray
 n:ByteArray
def Cq:Op:=⟨0,0,0,0,⟨#[]⟩,⟨#[]⟩⟩
def fC (x:Op):Value:=.agg #[.int .i64 x.k,.int .i64 x.a,.int .i64 x.e,.int .i64 x.c,.string x.o,.string x.n]
def rT (x:Op):List Value:=[.int .i64 x.k,.int .i64 x.a,.int .i64 x.e,.int .i64 x.c,.string x.o,.string x.n]
def uZ (k:Int):Bool:=bf k 1 5
def ma (k:Int):Bool:=bf k 2 3
def gV (k:Int):Bool:=bf k 4 5
def mS (k:Int):Bool:=k==1||k==3||k==6
def mq (k:Int):Bool:=k==1||k==2||k==6
def cD (x:Op):Bool:=(uZ x.k||x.a==0)&&(ma x.k||x.e==0)&&(gV x.k||x.c==0)&&(mS x.k||x.o.size==0)&&(mq x.k||x.n.size==0)
def cT (x:Op):Bool:=if x.k=1 then x.o.size==x.n.size else if x.k=6 then x.o.size==512&&x.n.size==512 else true
def cw (k:Int):Bool:=bf k 1 3
def cG (x:Op):Nat:=max x.o.size x.n.size
def eu (x:Op):Bool:=
 if x.k=1 then bf x.a 0 511&&decide ((x.o.size:Int)≤512-x.a)
 else if x.k=2 then bf x.a 0 511&&bf x.e x.a (512-(x.o.size+x.n.size))
 else if x.k=3 then bf x.a 0 511&&bf x.e (x.a+(x.o.size+x.n.size)) 512
 else if x.k=4∨x.k=5 then bf x.a 0 4095&&bf x.c 1 (4096-x.a)
 else true
def e8 (x:Op):Int:=if bf x.k 0 6=false then 15 else
 ar [bn (cD x) 3,bn (cT x) 10,bn (!cw x.k||decide (0<cG x)) 17,bn (!cw x.k||decide (cG x≤200)) 8,bn (eu x) 2]
theorem aQ:∀(l:List Int),ar l=0↔∀e∈l,e=0
 | []=>by simp[ar]
 | e::l=>by
  have ih:=aQ l;by_cases h:e=0
  · simp[ar,h,ih]
  · simp[ar,h]
theorem aL {b:Bool} {e:Int} (he:e≠0):bn b e=0↔b=true:=by cases b<;>simp[bn,he]
def nV (b:UInt8) (j:Nat):Bool:=b.toNat / 2 ^ j % 2==1
def jr (b:UInt8) (j:Nat) (v:Bool):UInt8:=UInt8.ofNat (b.toNat-b.toNat / 2 ^ j % 2*2 ^ j+(if v then 2 ^ j else 0))
def putAt (l:List UInt8) (i:Nat) (v:Bool):List UInt8:=l.set (i / 8) (jr (l.getD (i / 8) 0) (i % 8) v)
def ia (l:List UInt8) (i:Nat):Bool:=nV (l.getD (i / 8) 0) (i % 8)
def bO (l:List UInt8) (a:Nat):Nat→Bool→List UInt8
 | 0,_=>l
 | c+1,v=>putAt (bO l a c v) (a+c) v
def di (l:List UInt8) (a:Nat):Nat→Bool→Bool
 | 0,_=>true
 | c+1,v=>di l a c v&&(ia l (a+c) != v)
theorem dr (l:List UInt8) (a c:Nat) (v:Bool):(bO l a c v).length=l.length:=by
 induction c with
 | zero=>rfl
 | succ c ih=>unfold bO putAt;rw[List.length_set,ih]
theorem sT (b:UInt8) (j j':Nat) (v:Bool) (hj:j<8) (hj':j'<8) (h:j≠j'):nV (jr b j v) j'=nV b j':=by
 have all:∀n:Fin 256,∀j:Fin 8,∀j':Fin 8,∀v:Bool,j≠j'→nV (jr (UInt8.ofNat n.val) j.val v) j'.val=nV (UInt8.ofNat n.val) j'.val:=by decide +kernel
 have:=all ⟨b.toNat,b.toNat_lt⟩ ⟨j,hj⟩ ⟨j',hj'⟩ v (fun e=>h (by simpa using e))
 simpa using this
theorem vE (b:UInt8) (j:Nat) (v:Bool) (hj:j<8):nV (jr b j v) j=v:=by
 have all:∀n:Fin 256,∀j:Fin 8,∀v:Bool,nV (jr (UInt8.ofNat n.val) j.val v) j.val=v:=by decide +kernel
 simpa using all ⟨b.toNat,b.toNat_lt⟩ ⟨j,hj⟩ v
theorem sr (l:List UInt8) (i i':Nat) (v:Bool) (h:i / 8<l.length):ia (putAt l i v) i'=if i=i' then v else ia l i':=by
 unfold ia putAt;by_cases hq:i / 8=i' / 8
 · rw[←hq,List.getD_eq_getElem?_getD,List.getElem?_set_self h]
   simp only[Option.getD_some];by_cases e:i=i'
   · rw[if_pos e,←e];exact vE _ _ _ ab
   · rw[if_neg e];exact sT _ _ _ _ ab ab ab
 · rw[if_neg (fun e=>hq (by rw[e])),List.getD_eq_getElem?_getD,List.getElem?_set_ne hq,←List.getD_eq_getElem?_getD]
theorem n4 (l:List UInt8) (a c i:Nat) (v:Bool) (h:(a+c)≤8*l.length):ia (bO l a c v) i=if a≤i∧i<a+c then v else ia l i:=by
 induction c with
 | zero=>rw[if_neg ab];rfl
 | succ c ih=>
  unfold bO;rw[sr _ _ _ _ (by rw[dr];omega),ih ab];by_cases e:a+c=i
  · rw[if_pos e,if_pos ab]
  · rw[if_neg e]
    by_cases g:a≤i∧i<a+c
    · rw[if_pos g,if_pos ab]
    · rw[if_neg g,if_neg ab]
def AT (p:List UInt8) (a e:Nat) (n:List UInt8):List UInt8:=p.take a ++ n ++ (p.take e).drop a ++ p.drop (e+n.length)
def Ba (p:List UInt8) (a e:Nat) (n:Nat):List UInt8:=p.take a ++ (p.take e).drop (a+n) ++ List.replicate n 0 ++ p.drop e
def jG (l:List UInt8):Bool:=l.all (·==0)
def ep (p:ByteArray) (x:Op):ByteArray:=
 if x.k=1 then qN p x.a.toNat x.n
 else if x.k=2 then bs (AT (bl p) x.a.toNat x.e.toNat (bl x.n))
 else if x.k=3 then bs (Ba (bl p) x.a.toNat x.e.toNat x.o.size)
 else if x.k=4 then bs (bO (bl p) x.a.toNat x.c.toNat true)
 else if x.k=5 then bs (bO (bl p) x.a.toNat x.c.toNat false)
 else if x.k=6 then x.n
 else p
def dh (p:ByteArray) (x:Op):Bool:=
 if x.k=1∨x.k=3 then ((bl p).drop x.a.toNat).take x.o.size==bl x.o
 else if x.k=2 then jG (((bl p).drop x.e.toNat).take x.n.size)
 else if x.k=4 then di (bl p) x.a.toNat x.c.toNat true
 else if x.k=5 then di (bl p) x.a.toNat x.c.toNat false
 else if x.k=6 then bl p==bl x.o
 else true
def bL (p:ByteArray) (x:Op):ByteArray × Int:=if e8 x≠0 then (⟨#[]⟩,e8 x) else if dh p x then (ep p x,0) else (⟨#[]⟩,13)
def ft (p:ByteArray):Nat→List Op→ByteArray × Nat × Int
 | i,[]=>(p,i,0)
 | i,x::l=>if (bL p x).2≠0 then (⟨#[]⟩,i,(bL p x).2) else ft (bL p x).1 (i+1) l
def bY (p:ByteArray):Int:=bn (p.size==512) 10
def dH (p:ByteArray) (l:List Op):ByteArray × Nat × Int:=if bY p≠0 then (⟨#[]⟩,0,bY p) else if 64<l.length then (⟨#[]⟩,0,8) else ft p 0 l
def fR (x:Op):Op:=
 if x.k=2 then ⟨3,x.a,x.e+x.n.size,x.c,x.n,x.o⟩
 else if x.k=3 then ⟨2,x.a,x.e-x.o.size,x.c,x.n,x.o⟩
 else if x.k=4 then ⟨5,x.a,x.e,x.c,x.n,x.o⟩
 else if x.k=5 then ⟨4,x.a,x.e,x.c,x.n,x.o⟩
 else ⟨x.k,x.a,x.e,x.c,x.n,x.o⟩
open Go.RowKit
def I6 (n:Int):Prop:=-9223372036854775808≤n∧n<9223372036854775808
theorem cP {α:Type} (f:Nat→α→Int):∀(l:List α) (i j:Nat) (h:j<l.length),(∀k (hk:k<l.length),k<j→f (i+k) l[k]=0)→f (i+j) l[j]≠0→cB f i l=(((i+j:Nat):Int),f (i+j) l[j])
 | x::l,i,0,h,_,h1=>by
  unfold cB;rw[if_neg (show ¬f i x=0 from h1)];rfl
 | x::l,i,j+1,h,h0,h1=>by
  have Za:=h0 0 a7 ab;unfold cB;rw[if_pos (show f i x=0 from Za)];have:=cP f l (i+1) j (by simpa using h) (fun k hk hkj=>by have:=h0 (k+1) (by simpa using hk) ab;rw[show i+1+k=i+(k+1) by omega];simpa using this) (by rw[show i+1+j=i+(j+1) by omega];simpa using h1);rw[this,show i+1+j=i+(j+1) by omega];rfl
theorem cN {α:Type} (f:Nat→α→Int):∀(l:List α) (i:Nat),(∀k (hk:k<l.length),f (i+k) l[k]=0)→cB f i l=(0,0)
 | [],_,_=>rfl
 | x::l,i,h=>by
  unfold cB;rw[if_pos (show f i x=0 from h 0 (Nat.succ_pos _))]
  exact cN f l (i+1) fun k hk=>by have:=h (k+1) (by simpa using hk);rw[show i+1+k=i+(k+1) by omega];simpa using this
theorem pX {x:RstP} (h:nZ x=true):(1≤x.s∧x.s≤60000)∧(0≤x.c∧x.c≤100000000)∧(0≤x.o∧x.o≤100000000):=by
 unfold nZ ig at h;simp only[Bool.and_eq_true,inB_true] at h;exact⟨h.1.1,h.1.2,h.2⟩
structure HeadP (r:RngP):Prop where
 pg:4≤r.pg∧r.pg≤40
 rb:nZ r.r=true
 rr:(1≤r.r.s∧r.r.s≤60000)∧(0≤r.r.c∧r.r.c≤100000000)∧(0≤r.r.o∧r.r.o≤100000000)
 e:r.e=rst0∨(nZ r.e=true∧r.e.s=r.r.s-1)
 nx:0≤r.nx∧r.nx≤100000000∧r.nx % 8=0
 len:r.rs.length≤100
theorem head_iff {r:RngP}:ei r=0↔HeadP r:=by
 unfold ei;rw[aQ]
 constructor
 · intro h
   have h1:=h (iD r.pg) a7;have h2:=h (eI r.r) a7;have h3:=h (ie r) a7;have h4:=h (bn (ig r.nx&&r.nx % 8==0) 2) a7;have h5:=h (bn (decide (r.rs.length≤100)) 8) a7;unfold iD at h1;unfold eI at h2;rw[aL aq] at h1 h2 h4 h5;rw[inB_true] at h1;refine⟨h1,h2,pX h2,?_,?_,by simpa using h5⟩
   · unfold ie at h3
     split at h3
     · exact .inl C3
     · right
       rw[aQ] at h3;have a1:=h3 (eI r.e) a7;have a2:=h3 (bn (r.e.s==r.r.s-1) 9) a7;unfold eI at a1;rw[aL aq] at a1 a2;exact⟨a1,by simpa using a2⟩
   · unfold ig at h4
     rw[Bool.and_eq_true,inB_true] at h4;exact⟨h4.1.1,h4.1.2,by simpa using h4.2⟩
 · intro h e he
   simp only[List.mem_cons,List.not_mem_nil,or_false] at he;rcases he with rfl | rfl | rfl | rfl | rfl
   · unfold iD;rw[aL aq,inB_true];exact h.pg
   · unfold eI;rw[aL aq];exact h.rb
   · unfold ie
     rcases h.e with h1 | ⟨h1,h2⟩
     · rw[if_pos h1]
     · split
       · rfl
       · rw[aQ];intro e he
         simp only[List.mem_cons,List.not_mem_nil,or_false] at he;rcases he with rfl | rfl
         · unfold eI;rw[aL aq];exact h1
         · rw[aL aq];simpa using h2
   · rw[aL aq,Bool.and_eq_true]
     unfold ig;rw[inB_true];exact⟨⟨h.nx.1,h.nx.2.1⟩,by simpa using h.nx.2.2⟩
   · rw[aL aq];simpa using h.len
theorem rY (a b c d:Int):ar [ar [a,b],c,d]=ar [a,b,c,d]:=by
 simp only[ar]
 by_cases ha:a=0<;>by_cases hb:b=0<;>simp[ha,hb]
theorem pS (a b:Int):ar [a,b]=ar [a,b,0]:=by
 simp only[ar];simp
theorem qp (a b c d e:Int):ar [ar [a,b,c],d,e]=ar [a,b,c,d,e]:=by
 simp only[ar]
 by_cases ha:a=0<;>by_cases hb:b=0<;>by_cases hc:c=0<;>simp[ha,hb,hc]
theorem recE_zero {o q:Int} {f:Option RecP} {x:RecP}:dY o q f x=0↔x.b.size≠0∧x.b.size≤3000∧gp o f x=true∧bf x.s 1 q=true∧seqB f x=true:=by
 unfold dY;by_cases h1:x.b.size=0
 · simp[h1]
 rw[if_neg h1];by_cases h2:3000<x.b.size
 · rw[if_pos h2];simp;omega
 rw[if_neg h2];by_cases h3:gp o f x=false
 · simp[h3]
 rw[if_neg h3];by_cases h4:bf x.s 1 q=false
 · simp[h4]
 rw[if_neg h4,aL aq];simp at h3 h4;simp[h1,h3,h4];omega
theorem oz {l:List RecP} {k:Nat} (h:k+1<l.length):cg l (k+1)=some l[k]:=by
 unfold cg;rw[if_neg ab,Nat.add_sub_cancel,List.getElem?_eq_getElem ab]
theorem tN {n:Nat} (h:n≤3000):12+(n:Int)≤nj n∧nj n≤3016∧nj n % 8=0:=by unfold nj;omega
theorem qi {p:Int}:p≤eU p∧eU p≤p+447∧eU p % 448=0:=by unfold eU;omega
theorem l7 (r:RngP) (ho:r.r.o≤100000000):∀(k:Nat) (hk:k<r.rs.length),(∀m (hm:m<r.rs.length),m≤k→dY r.r.o r.r.s (cg r.rs m) r.rs[m]=0)→1≤r.rs[k].l∧r.rs[k].l≤100000000+k*4000∧r.rs[k].b.size≤3000
 | 0,hk,h=>by
  have h0:=recE_zero.1 (h 0 hk ab);have h1:=h0.2.2.1;unfold cg gp at h1;simp only[if_true,Bool.and_eq_true,beq_iff_eq,decide_eq_true_eq] at h1;exact⟨by omega,by omega,h0.2.1⟩
 | k+1,hk,h=>by
  obtain⟨a1,a2,a3⟩:=l7 r ho k ab fun m hm hmk=>h m hm ab;have h0:=recE_zero.1 (h (k+1) hk ab);have h1:=h0.2.2.1;rw[oz hk] at h1;unfold gp ew at h1;simp only[Bool.or_eq_true,beq_iff_eq] at h1;have b1:=tN a3;have b2:=qi (p:=r.rs[k].l-1+nj r.rs[k].b.size);refine⟨by omega,by push_cast;omega,h0.2.1⟩
open Go.ChangeShapes Go.WideShapes Go.ChangeAt Go.RowKit
theorem AX {H:Type} {enc:TypeId × Value→H} {W:World} {base fuel:Nat} {sp:Nat→Bool} {held:Bool} {cs:List Value} {x:DataW H × List MemPlace}
 (hl:cs.length=6) (h:DataW.trod enc Tryz.prog W base sp held fuel 141 cs=some x):∃y:Op,cs=rT y∧y.o.size≤maxLen∧y.n.size≤maxLen:=by
 obtain⟨xs,k,hk,hxy,_,hxl,hf⟩:=DataW.trod_struct Tryz.underlying141 h
 match xs,hxl,cs,hl with
 | [y0,y1,y2,y3,y4,y5],_,[c0,c1,c2,c3,c4,c5],_=>
  have ci:Tryz.prog.cellsOf 3=1:=by kernel_rfl
  have cS:Tryz.prog.cellsOf 9=1:=by kernel_rfl
  have g0:=hf 0 _ rfl;have g1:=hf 1 _ rfl;have g2:=hf 2 _ rfl;have g3:=hf 3 _ rfl;have g4:=hf 4 _ rfl;have g5:=hf 5 _ rfl;simp[ci,cS] at g0 g1 g2 g3 g4 g5;obtain⟨x0,e0,_,_⟩:=DataW.trod_int Tryz.underlying3 g0;obtain⟨x1,e1,_,_⟩:=DataW.trod_int Tryz.underlying3 g1;obtain⟨x2,e2,_,_⟩:=DataW.trod_int Tryz.underlying3 g2;obtain⟨x3,e3,_,_⟩:=DataW.trod_int Tryz.underlying3 g3;obtain⟨x4,e4,_,s4⟩:=DataW.trod_string Tryz.underlying9 g4;obtain⟨x5,e5,_,s5⟩:=DataW.trod_string Tryz.underlying9 g5;simp only[List.cons.injEq,and_true] at e0 e1 e2 e3 e4 e5;refine⟨⟨x0,x1,x2,x3,x4,x5⟩,?_,s4,s5⟩;rw[e0,e1,e2,e3,e4,e5];rfl
open Go.ChangeShapes Go.WideShapes Go.ChangeAt Go.RowKit
theorem jW {α:Type} {f:α→List Value} {n:Nat} (hf:∀x,(f x).length=n) (l:List α):(l.flatMap f).length=n*l.length:=by
 induction l with
 | nil=>rfl
 | cons x l ih=>rw[List.flatMap_cons,List.length_append,hf,ih,List.length_cons,Nat.mul_succ,Nat.add_comm]
theorem vq {α:Type} {f:α→List Value} {n:Nat} (hf:∀x,(f x).length=n) (l:List α):∀(k:Nat) (h:k<l.length) (j:Nat) (u:Value),(f l[k])[j]? = some u→(l.flatMap f)[k*n+j]? = some u:=by
 induction l with
 | nil=>intro k h;exact absurd h a7
 | cons x l ih=>
  intro k h j u hu
  have hj:j<n:=by rw[←hf];exact(List.getElem?_eq_some_iff.1 hu).1
  rw[List.flatMap_cons]
  cases k with
  | zero=>rw[List.getElem?_append_left (by rw[hf];omega),Nat.zero_mul,Nat.zero_add];exact hu
  | succ k=>
   rw[List.getElem?_append_right (by rw[hf,Nat.succ_mul];omega),hf,←ih k (by simpa using h) j u (by simpa using hu),Nat.succ_mul]
   congr 1;omega
theorem qI {α:Type} {f:α→List Value} {n:Nat} (hf:∀x,(f x).length=n) (l:List α) {j:Nat} {u:Value} (h:(l.flatMap f)[j]? = some u) :
 ∃(k:Nat) (hk:k<l.length) (r:Nat),r<n∧j=k*n+r∧(f l[k])[r]? = some u:=by
 have hj:=(List.getElem?_eq_some_iff.1 h).1;rw[jW hf] at hj
 have hn:0<n:=by
  rcases Nat.eq_zero_or_pos n with h0 | h0
  · subst h0;simp at hj
  · exact h0
 have hk:j / n<l.length:=(Nat.div_lt_iff_lt_mul hn).2 (by rw[Nat.mul_comm];exact hj);have hr:j % n<n:=Nat.mod_lt _ hn
 have e:j=j / n*n+j % n:=by rw[Nat.mul_comm];exact(Nat.div_add_mod j n).symm
 refine⟨j / n,hk,j % n,hr,e,?_⟩;have h1:(f l[j / n])[j % n]? = some ((f l[j / n])[j % n]'(by rw[hf];exact hr)):=List.getElem?_eq_getElem _;have h2:=vq hf l _ hk _ _ h1;rw[←e,h] at h2;rw[h1,←h2]
theorem vg {H:Type} {enc:TypeId × Value→H} {P:Program} {W:World} {r:Reach} {base:Nat} {t e:TypeId} {v:Value} {d:DataW H} {p:List MemPlace}
 {α:Type} (f:α→List Value) (n:Nat) (hf:∀x,(f x).length=n) (G:α→Prop) (ht:P.underlying t=some (.slice e)) (hC:P.cellsOf e=n)
 (each:∀(fuel:Nat) (cs:List Value) (x:DataW H × List MemPlace),cs.length=n→DataW.trod enc P W 0 (fun _=>true) true fuel e cs=some x→∃y,cs=f y∧G y)
 (hv:Value.okWide P W r base t v) (h:DataW.Trod enc P W 0 (fun _=>true) true t v d p) :
 ∃(A:Option Addr) (c:Nat) (l:List α),v=.slice A l.length c∧l.length≤maxLen∧Rd W W.heap.size A (l.flatMap f)∧∀x∈l,G x:=by
 obtain⟨a0,len0,cap0,rfl⟩:=okWide_slice ht hv;obtain⟨fuel,hfu⟩:=h;rcases Go.Deep.open_slice ht hfu with ⟨hcs,_⟩ | ⟨a,len,cap,m,k,D,Pl,hcs,_,hl,hm,hmm,_,hx⟩
 · simp[Value.cells] at hcs
   obtain⟨rfl,rfl,rfl⟩:=hcs;exact⟨none,0,[],rfl,Nat.zero_le _,Rd.nil _ _ _,fun x hx=>absurd hx (List.not_mem_nil)⟩
 · simp[Value.cells] at hcs
   obtain⟨rfl,rfl,rfl⟩:=hcs;rw[if_pos rfl] at hmm;rw[hC] at hx
   have each':∀i,i<len0→∃y:α,G y∧∀j,j<n→W.cell? ((a.add (i*n)).add j)=(f y)[j]?:=by
    intro i hi;obtain⟨cs',hc,ht'⟩:=hx i ab;obtain⟨_,hlen,hat⟩:=World.cells?_some hc;obtain⟨y,rfl,hy⟩:=each _ _ _ hlen ht';exact⟨y,hy,hat⟩
   by_cases h0:len0=0
   · subst h0
     exact⟨some a,cap0,[],rfl,Nat.zero_le _,Rd.nil _ _ _,fun x hx=>absurd hx (List.not_mem_nil)⟩
   · obtain⟨y0,_,_⟩:=each' 0 ab
     have hpos:Nonempty α:=⟨y0⟩
     obtain⟨q,hq⟩:=Classical.axiomOfChoice (r:=fun (i:Nat) (y:α)=>i<len0→G y∧∀j,j<n→W.cell? ((a.add (i*n)).add j)=(f y)[j]?) (fun i=>by
      by_cases hi:i<len0
      · obtain⟨y,hy⟩:=each' i hi;exact⟨y,fun _=>hy⟩
      · exact⟨y0,fun h=>absurd h hi⟩)
     have hlen:((List.range len0).map q).length=len0:=by rw[List.length_map,List.length_range]
     refine⟨some a,cap0,(List.range len0).map q,by rw[hlen],by rw[hlen];omega,?_,?_⟩
     · intro j u hj
       obtain⟨i,hi,r',hr,rfl,hu⟩:=qI hf _ hj;rw[hlen] at hi;have hc:=(hq i hi).2 r' hr;rw[List.getElem_map,List.getElem_range] at hu;rw[hu] at hc;obtain⟨b,o,sp⟩:=a
       have hs:sp=none:=by
        have h0:=(hq 0 ab).2 0 ab;rw[List.getElem?_eq_getElem (by rw[hf];omega)] at h0;have:=World.cell?_spot h0
        simpa [Addr.add] using this
       subst hs
       have ea:((⟨b,o,none⟩:Addr).add (i*n)).add r'=⟨b,o+(i*n+r'),none⟩:=by
        unfold Addr.add
        by_cases h1:i*n=0<;>by_cases h2:r'=0<;>simp[h1,h2,Nat.add_assoc]
       rw[ea] at hc;exact⟨b,o,rfl,block_lt_of_cell hc,hc⟩
     · intro x hx
       obtain⟨i,hi,rfl⟩:=List.mem_map.1 hx;exact(hq i (List.mem_range.1 hi)).1
theorem wB {H:Type} {enc:TypeId × Value→H} {P:Program} {W:World} {t e:TypeId} {fuel0:Nat} {cs0:List Value} {x0:DataW H × List MemPlace}
 {α:Type} (f:α→List Value) (n:Nat) (hf:∀x,(f x).length=n) (G:α→Prop) (ht:P.underlying t=some (.slice e)) (hC:P.cellsOf e=n)
 (each:∀(fuel:Nat) (cs:List Value) (x:DataW H × List MemPlace),cs.length=n→DataW.trod enc P W 0 (fun _=>true) true fuel e cs=some x→∃y,cs=f y∧G y)
 (hfu:DataW.trod enc P W 0 (fun _=>true) true fuel0 t cs0=some x0) :
 ∃(A:Option Addr) (c:Nat) (l:List α),cs0=[.slice A l.length c]∧l.length≤maxLen∧Rd W W.heap.size A (l.flatMap f)∧∀x∈l,G x:=by
 rcases Go.Deep.open_slice ht hfu with ⟨hcs,_⟩ | ⟨a,len,cap,m,k,D,Pl,hcs,_,hl,hm,hmm,_,hx⟩
 · exact⟨none,0,[],hcs,Nat.zero_le _,Rd.nil _ _ _,fun x hx=>absurd hx (List.not_mem_nil)⟩
 · obtain⟨len0,rfl⟩:∃n,n=len:=⟨_,rfl⟩
   obtain⟨cap0,rfl⟩:∃n,n=cap:=⟨_,rfl⟩;subst hcs;rw[if_pos rfl] at hmm;rw[hC] at hx
   have each':∀i,i<len0→∃y:α,G y∧∀j,j<n→W.cell? ((a.add (i*n)).add j)=(f y)[j]?:=by
    intro i hi;obtain⟨cs',hc,ht'⟩:=hx i ab;obtain⟨_,hlen,hat⟩:=World.cells?_some hc;obtain⟨y,rfl,hy⟩:=each _ _ _ hlen ht';exact⟨y,hy,hat⟩
   by_cases h0:len0=0
   · subst h0
     exact⟨some a,cap0,[],rfl,Nat.zero_le _,Rd.nil _ _ _,fun x hx=>absurd hx (List.not_mem_nil)⟩
   · obtain⟨y0,_,_⟩:=each' 0 ab
     have hpos:Nonempty α:=⟨y0⟩
     obtain⟨q,hq⟩:=Classical.axiomOfChoice (r:=fun (i:Nat) (y:α)=>i<len0→G y∧∀j,j<n→W.cell? ((a.add (i*n)).add j)=(f y)[j]?) (fun i=>by
      by_cases hi:i<len0
      · obtain⟨y,hy⟩:=each' i hi;exact⟨y,fun _=>hy⟩
      · exact⟨y0,fun h=>absurd h hi⟩)
     have hlen:((List.range len0).map q).length=len0:=by rw[List.length_map,List.length_range]
     refine⟨some a,cap0,(List.range len0).map q,by rw[hlen],by rw[hlen];omega,?_,?_⟩
     · intro j u hj
       obtain⟨i,hi,r',hr,rfl,hu⟩:=qI hf _ hj;rw[hlen] at hi;have hc:=(hq i hi).2 r' hr;rw[List.getElem_map,List.getElem_range] at hu;rw[hu] at hc;obtain⟨b,o,sp⟩:=a
       have hs:sp=none:=by
        have h0:=(hq 0 ab).2 0 ab;rw[List.getElem?_eq_getElem (by rw[hf];omega)] at h0;have:=World.cell?_spot h0
        simpa [Addr.add] using this
       subst hs
       have ea:((⟨b,o,none⟩:Addr).add (i*n)).add r'=⟨b,o+(i*n+r'),none⟩:=by
        unfold Addr.add
        by_cases h1:i*n=0<;>by_cases h2:r'=0<;>simp[h1,h2,Nat.add_assoc]
       rw[ea] at hc;exact⟨b,o,rfl,block_lt_of_cell hc,hc⟩
     · intro x hx
       obtain⟨i,hi,rfl⟩:=List.mem_map.1 hx;exact(hq i (List.mem_range.1 hi)).1
theorem yB {H:Type} {enc:TypeId × Value→H} {P:Program} {W:World} {r:Reach} {base:Nat} {t:TypeId} {fs:Array Field} {v:Value} {d:DataW H} {p:List MemPlace}
 {α:Type} (f:α→List Value) (n:Nat) (G:α→Prop) (ht:P.underlying t=some (.struct fs)) (hC:P.cellsOf t=n)
 (each:∀(fuel:Nat) (cs:List Value) (x:DataW H × List MemPlace),cs.length=n→DataW.trod enc P W 0 (fun _=>true) true fuel t cs=some x→∃y,cs=f y∧G y)
 (hv:Value.okWide P W r base t v) (h:DataW.Trod enc P W 0 (fun _=>true) true t v d p):∃y,v=.agg (f y).toArray∧G y:=by
 obtain⟨cs,rfl,hsz⟩:=okWide_struct ht hv;obtain⟨fuel,hfu⟩:=h;obtain⟨y,hy,h1⟩:=each _ _ _ (by show cs.toList.length=n;rw[Array.length_toList];exact hsz.trans hC) hfu
 have:cs=(f y).toArray:=by apply Array.toList_inj.1;exact hy
 exact⟨y,by rw[this],h1⟩
open Go.RowKit
theorem aT (n lo hi:Int) (w:World) :
 Calls Tryz.prog 152 #[.int .i64 n,.int .i64 lo,.int .i64 hi] w fun e w'=>e=.returned (.bool (bf n lo hi))∧w=w':=by
 by_cases h:lo≤n
 · go_enter Tryz.func152,Tryz.ntmps152
   go_wp2
   go_ret
   exact⟨by simp[bf,h],rfl⟩
 · go_enter Tryz.func152,Tryz.ntmps152
   go_wp2
   go_ret
   exact⟨by simp[bf];omega,rfl⟩
theorem bV (n lo hi:Int) (w:World) :
 Calls Tryz.prog 164 #[.int .i64 n,.int .i64 lo,.int .i64 hi] w fun e w'=>e=.returned (.bool (bf n lo hi))∧w=w':=by
 by_cases h:lo≤n
 · go_enter Tryz.func164,Tryz.ntmps164
   go_wp2
   go_ret
   exact⟨by simp[bf,h],rfl⟩
 · go_enter Tryz.func164,Tryz.ntmps164
   go_wp2
   go_ret
   exact⟨by simp[bf];omega,rfl⟩
theorem bu (n lo hi:Int) (w:World) :
 Calls Tryz.prog 62 #[.int .i64 n,.int .i64 lo,.int .i64 hi] w fun e w'=>e=.returned (.bool (bf n lo hi))∧w=w':=by
 by_cases h:lo≤n
 · go_enter Tryz.func62,Tryz.ntmps62
   go_wp2
   go_ret
   exact⟨by simp[bf,h],rfl⟩
 · go_enter Tryz.func62,Tryz.ntmps62
   go_wp2
   go_ret
   exact⟨by simp[bf];omega,rfl⟩
theorem aA (ok:Bool) (e:Int) (w:World) :
 Calls Tryz.prog 151 #[.bool ok,.int .i64 e] w fun e' w'=>e'=.returned (.int .i64 (bn ok e))∧w=w':=by
 cases ok
 · go_enter Tryz.func151,Tryz.ntmps151
   go_wp2
   go_ret
   exact⟨rfl,rfl⟩
 · go_enter Tryz.func151,Tryz.ntmps151
   go_wp2
   go_ret
   exact⟨rfl,rfl⟩
theorem aM (ok:Bool) (e:Int) (w:World) :
 Calls Tryz.prog 163 #[.bool ok,.int .i64 e] w fun e' w'=>e'=.returned (.int .i64 (bn ok e))∧w=w':=by
 cases ok
 · go_enter Tryz.func163,Tryz.ntmps163
   go_wp2
   go_ret
   exact⟨rfl,rfl⟩
 · go_enter Tryz.func163,Tryz.ntmps163
   go_wp2
   go_ret
   exact⟨rfl,rfl⟩
theorem aJ (ok:Bool) (e:Int) (w:World) :
 Calls Tryz.prog 64 #[.bool ok,.int .i64 e] w fun e' w'=>e'=.returned (.int .i64 (bn ok e))∧w=w':=by
 cases ok
 · go_enter Tryz.func64,Tryz.ntmps64
   go_wp2
   go_ret
   exact⟨rfl,rfl⟩
 · go_enter Tryz.func64,Tryz.ntmps64
   go_wp2
   go_ret
   exact⟨rfl,rfl⟩
theorem hZ (b o:Nat) (es:List Int) (w:World) (hlen:es.length≤100)
 (hc:∀k (_:k<es.length),w.cell? ⟨b,o+k,none⟩=some (.int .i64 es[k])) :
 Calls Tryz.prog 143 #[.slice (some ⟨b,o,none⟩) es.length es.length] w fun e w'=>e=.returned (.int .i64 (ar es))∧w=w':=by
 go_enter Tryz.func143,Tryz.ntmps143
 go_wp2
 go_loop [7] (fun i=>∃k:Nat,k≤es.length∧i=.int .i64 k∧ar es=ar (es.drop k)) (fun i=>es.length-(intOf i).toNat)
 case atStart=>exact⟨0,Nat.zero_le _,rfl,rfl⟩
 case round=>
  obtain⟨k,hk,rfl,hf⟩:=hrel;have HF:=Lib.hid hf;clear hf;by_cases hlt:k<es.length
  · have hck:=hc k hlt
    have hd:es.drop k=es[k]::es.drop (k+1):=List.drop_eq_getElem_cons hlt;have HD:=Lib.hid hd;clear hd hc;by_cases h0:es[k]=0
    · have h0':(es[k] != 0)=false:=by simp[h0]
      have H0:=Lib.hid h0;clear h0
      go_wp2
      go_round
      case rel=>exact⟨k+1,by omega,by go_num,by rw[HF.out,HD.out];simp[ar,H0.out]⟩
      case measure=>simp[intOf];omega
    · have h0':(es[k] != 0)=true:=by simp[h0]
      have H0:=Lib.hid h0;clear h0
      go_wp2
      go_ret
      exact⟨by rw[HF.out,HD.out];simp[ar,H0.out],rfl⟩
  · go_wp2
    go_ret
    exact⟨by rw[HF.out,List.drop_of_length_le ab];rfl,rfl⟩
theorem fH (b o:Nat) (es:List Int) (w:World) (hlen:es.length≤100)
 (hc:∀k (_:k<es.length),w.cell? ⟨b,o+k,none⟩=some (.int .i64 es[k])) :
 Calls Tryz.prog 160 #[.slice (some ⟨b,o,none⟩) es.length es.length] w fun e w'=>e=.returned (.int .i64 (ar es))∧w=w':=by
 go_enter Tryz.func160,Tryz.ntmps160
 go_wp2
 go_loop [7] (fun i=>∃k:Nat,k≤es.length∧i=.int .i64 k∧ar es=ar (es.drop k)) (fun i=>es.length-(intOf i).toNat)
 case atStart=>exact⟨0,Nat.zero_le _,rfl,rfl⟩
 case round=>
  obtain⟨k,hk,rfl,hf⟩:=hrel;have HF:=Lib.hid hf;clear hf;by_cases hlt:k<es.length
  · have hck:=hc k hlt
    have hd:es.drop k=es[k]::es.drop (k+1):=List.drop_eq_getElem_cons hlt;have HD:=Lib.hid hd;clear hd hc;by_cases h0:es[k]=0
    · have h0':(es[k] != 0)=false:=by simp[h0]
      have H0:=Lib.hid h0;clear h0
      go_wp2
      go_round
      case rel=>exact⟨k+1,by omega,by go_num,by rw[HF.out,HD.out];simp[ar,H0.out]⟩
      case measure=>simp[intOf];omega
    · have h0':(es[k] != 0)=true:=by simp[h0]
      have H0:=Lib.hid h0;clear h0
      go_wp2
      go_ret
      exact⟨by rw[HF.out,HD.out];simp[ar,H0.out],rfl⟩
  · go_wp2
    go_ret
    exact⟨by rw[HF.out,List.drop_of_length_le ab];rfl,rfl⟩
theorem fw (b o:Nat) (es:List Int) (w:World) (hlen:es.length≤100)
 (hc:∀k (_:k<es.length),w.cell? ⟨b,o+k,none⟩=some (.int .i64 es[k])) :
 Calls Tryz.prog 63 #[.slice (some ⟨b,o,none⟩) es.length es.length] w fun e w'=>e=.returned (.int .i64 (ar es))∧w=w':=by
 go_enter Tryz.func63,Tryz.ntmps63
 go_wp2
 go_loop [7] (fun i=>∃k:Nat,k≤es.length∧i=.int .i64 k∧ar es=ar (es.drop k)) (fun i=>es.length-(intOf i).toNat)
 case atStart=>exact⟨0,Nat.zero_le _,rfl,rfl⟩
 case round=>
  obtain⟨k,hk,rfl,hf⟩:=hrel;have HF:=Lib.hid hf;clear hf;by_cases hlt:k<es.length
  · have hck:=hc k hlt
    have hd:es.drop k=es[k]::es.drop (k+1):=List.drop_eq_getElem_cons hlt;have HD:=Lib.hid hd;clear hd hc;by_cases h0:es[k]=0
    · have h0':(es[k] != 0)=false:=by simp[h0]
      have H0:=Lib.hid h0;clear h0
      go_wp2
      go_round
      case rel=>exact⟨k+1,by omega,by go_num,by rw[HF.out,HD.out];simp[ar,H0.out]⟩
      case measure=>simp[intOf];omega
    · have h0':(es[k] != 0)=true:=by simp[h0]
      have H0:=Lib.hid h0;clear h0
      go_wp2
      go_ret
      exact⟨by rw[HF.out,HD.out];simp[ar,H0.out],rfl⟩
  · go_wp2
    go_ret
    exact⟨by rw[HF.out,List.drop_of_length_le ab];rfl,rfl⟩
theorem cL {W w1:World} (hb:Below W.heap.size W w1):(∀b o,b<W.heap.size→w1.cell? ⟨b,o,none⟩=W.cell? ⟨b,o,none⟩)∧(∀b o,b<W.heap.size→w1.frozen? ⟨b,o,none⟩=W.frozen? ⟨b,o,none⟩):=
 ⟨fun b o h=>hb.cell (p:=⟨b,o,none⟩) h,fun b o h=>hb.frozen (p:=⟨b,o,none⟩) h⟩
theorem bh (es:List Int) (w:World) (hlen:es.length≤100) :
 Calls Tryz.prog 143 #[.slice (some ⟨w.heap.size,0,none⟩) es.length es.length] (w.alloc (.cells (es.map (Value.int .i64)).toArray 28)) fun e w'=>e=.returned (.int .i64 (ar es))∧w.alloc (.cells (es.map (Value.int .i64)).toArray 28)=w':=
 hZ _ _ es _ hlen fun k hk=>by simp[hk]
theorem a6 (n lo hi:Int) (w:World) :
 Calls Tryz.prog 74 #[.int .i64 n,.int .i64 lo,.int .i64 hi] w fun e w'=>e=.returned (.bool (bf n lo hi))∧w=w':=by
 by_cases h:lo≤n
 · go_enter Tryz.func74,Tryz.ntmps74
   go_wp2
   go_ret
   exact⟨by simp[bf,h],rfl⟩
 · go_enter Tryz.func74,Tryz.ntmps74
   go_wp2
   go_ret
   exact⟨by simp[bf];omega,rfl⟩
end Go.Proofs.YtcfdpfmchchkaaaGreatDoor
