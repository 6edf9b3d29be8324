/- Chapter 20 -/
import Derived.Test.YtcfdpfmchchkaaaGreatDoorSplB
import Derived.Test.YtcfdpfmchchkaaaGreatDoorRows
import Derived.ProofKit
import Derived.Deep.SlicePairs
import Derived.Lib.SmallJoins
import Derived.OpenShut
import Derived.Deep.Slices
import Derived.Test.YtcfdpfmchchkaaaGreatDoorChecked
import Derived.WalkLawsBesides
import Derived.WalkSpells
import Derived.Deep.QuietTactic
import Derived.Deep.DeepFit
namespace Go.Proofs.YtcfdpfmchchkaaaGreatDoor
set_option linter.unusedVariables false
set_option linter.unusedSimpArgs false
open Go.RowKit
structure RstP where
 s:Int
 c:Int
 o:Int
 deriving DecidableEq
structure RecP where
 l:Int
 s:Int
 b:ByteArray
 deriving DecidableEq
structure RngP where
 pg:Int
 r:RstP
 e:RstP
 rs:List RecP
 nx:Int
 deriving DecidableEq
def rst0:RstP:=⟨0,0,0⟩
def eF:RngP:=⟨0,rst0,rst0,[],0⟩
def kQ (n:Int):Int:=(n+19) / 8*8
def fb (x:RecP):Int:=x.l-1+kQ x.b.size
def gp (p:Int):Int:=(p+447) / 448*448
def kJ (n:Int):Int:=bQ (bB n 4 40) 2
def kB (n:Int):Bool:=bB n 0 100000000
def r9 (x:RstP):Bool:=bB x.s 1 60000&&kB x.c&&kB x.o
def gl (x:RstP):Int:=bQ (r9 x) 2
def gR (o:Int) (f:Option RecP) (x:RecP):Bool:=match f with
 | none=>x.l==o&&decide (1≤o)&&(o-1) % 8==0
 | some y=>x.l-1==fb y||x.l-1==gp (fb y)
def seqB (f:Option RecP) (x:RecP):Bool:=match f with
 | none=>true
 | some y=>x.s==y.s||(decide (y.s<x.s)&&(x.l-1) % 448==0)
def fe (o q:Int) (f:Option RecP) (x:RecP):Int:=
 if x.b.size=0 then 17 else if 3000<x.b.size then 8 else if gR o f x=false then 9 else if bB x.s 1 q=false then 2 else bQ (seqB f x) 9
def cd (l:List RecP) (i:Nat):Option RecP:=if i=0 then none else l[i-1]?
def kH (r:RngP):Int × Int:=df (fun i x=>fe r.r.o r.r.s (cd r.rs i) x) 0 r.rs
def gK (r:RngP):Int:=match r.rs.getLast? with
 | none=>bQ (r.nx==r.r.o-1&&r.nx % 448==0) 9
 | some y=>bQ ((r.nx==fb y||r.nx==gp (fb y))&&(y.s==r.r.s||r.nx % 448==0)) 9
def pF (l:List RecP) (n:Int):Bool:=l.any fun x=>x.l==n
def eL (r:RngP):Int × Int:=match r.rs.getLast? with
 | none=>(0,0)
 | some y=>((r.r.o-1) / 448,(fb y-1) / 448-(r.r.o-1) / 448+1)
def kC (r:RngP):Int:=if r.e=rst0 then 0 else av [gl r.e,bQ (r.e.s==r.r.s-1) 9]
def fD (r:RngP):Int:=av [kJ r.pg,gl r.r,kC r,bQ (kB r.nx&&r.nx % 8==0) 2,bQ (decide (r.rs.length≤100)) 8]
def kS (r:RngP):Int:=av [gK r,bQ (r.r.c==0||pF r.rs r.r.c) 6,bQ (decide ((eL r).2≤r.pg-2)) 16]
def cn (r:RngP):Int × Int:=if fD r≠0 then (0,fD r) else if (kH r).2≠0 then kH r else (0,kS r)
def de (r:RngP) (s:ByteArray):RngP:={ r with rs:=r.rs ++ [⟨r.nx+1,r.r.s,s⟩],nx:=r.nx+kQ s.size }
def fw (r:RngP) (s:ByteArray):Int:=
 if s.size=0 then 17 else if 3000<s.size then 8 else if 100≤r.rs.length then 8 else
  if r.pg-2<(eL (de r s)).2∨100000000<(de r s).nx then 16 else 0
def fT (r:RngP) (s:ByteArray):RngP:=if fw r s=0 then de r s else eF
def H3 (r:RngP):RngP:={ r with nx:=gp r.nx }
def IE (r:RngP) (c o:Int):RngP:=⟨r.pg,⟨r.r.s+1,c,o⟩,r.r,r.rs.filter fun x=>decide (o≤x.l),gp r.nx⟩
def B4 (x:RecP):List UInt8:=
 lit x.b.size 2 ++ [0,0] ++ lit x.l 4 ++ lit (Iz (bl x.b) 0) 4 ++ bl x.b ++ cp ((kQ x.b.size).toNat-(12+x.b.size))
def n5 (l:List UInt8) (a:Nat) (b:List UInt8):List UInt8:=l.take a ++ b ++ l.drop (a+b.length)
theorem xe {l b:List UInt8} {a:Nat} (h:a+b.length≤l.length):(n5 l a b).length=l.length:=by
 unfold n5;simp only[List.length_append,List.length_take,List.length_drop];omega
theorem zX {l b:List UInt8} {a:Nat} (h:a+b.length≤l.length) (i:Nat):(n5 l a b).getD i 0=if a≤i∧i<a+b.length then b.getD (i-a) 0 else l.getD i 0:=by
 unfold n5;simp only[List.getD_eq_getElem?_getD]
 have c:(l.take a ++ b).length=a+b.length:=by simp only[List.length_append,List.length_take];omega
 have f:(l.take a).length=a:=by rw[List.length_take];omega
 by_cases e:i<a+b.length
 · rw[List.getElem?_append_left ab]
   by_cases d:i<a
   · rw[List.getElem?_append_left ab,if_neg ab,List.getElem?_take,if_pos d]
   · rw[List.getElem?_append_right ab,if_pos ⟨by omega,e⟩,f]
 · rw[List.getElem?_append_right ab,if_neg ab,c,List.getElem?_drop]
   congr 2;omega
theorem xJ (l:List UInt8) (a:Nat) (h:a+2≤l.length):(l.drop a).take 2=[l.getD a 0,l.getD (a+1) 0]:=by
 rw[List.drop_eq_getElem_cons ab,List.drop_eq_getElem_cons ab];simp only[List.take_succ_cons,List.take_zero,List.getD_eq_getElem?_getD,List.getElem?_eq_getElem (show a<l.length by omega),List.getElem?_eq_getElem (show a+1<l.length by omega),Option.getD_some]
def Io (k:Nat):Nat:=64*k+62
def It (n:Int) (b:List UInt8):Nat→List UInt8
 | 0=>n5 b 40 (lit n 2)
 | k+1=>n5 (n5 (It n b k) (42+2*k) (((It n b k).drop (Io k)).take 2)) (Io k) (lit n 2)
def IM (b:List UInt8) (n:Int):List UInt8:=It n b 8
def Iq (s:List UInt8):Int:=num ((s.drop 40).take 2)
def Ir (s:List UInt8) (k:Nat):Bool:=Iq s==0||(s.drop (Io k)).take 2 != (s.drop 40).take 2
def IL (s:List UInt8):Bool:=(List.range 8).all fun k=>!Ir s k
def IP (s:List UInt8):Nat→List UInt8
 | 0=>s
 | k+1=>n5 (IP s k) (Io k) ((s.drop (42+2*k)).take 2)
def Bw (s:List UInt8):List UInt8:=n5 (IP s 8) 40 (cp 18)
theorem xy (n i:Nat):(cp n).getD i 0=0:=by
 unfold cp;rw[List.getD_eq_getElem?_getD,List.getElem?_replicate]
 split<;>rfl
theorem lO (n:Nat):(cp n).length=n:=by simp[cp]
open Go.RowKit
def IS (q u s:Int) (c:List UInt8):List UInt8:=[82,67,82,68] ++ (cp 4 ++ (lit q 4 ++ (lit u 2 ++ (lit s 4 ++ (cp 46 ++ c)))))
def Ix (q s pg:Int):Int:=(q / (pg-2)+s) % 65535+1
def Hx (q s pg:Int) (c:List UInt8):List UInt8:=IM (IS q c.length s (c ++ cp (448-c.length))) (Ix q s pg)
def IV (x:RstP) (pg:Int):List UInt8:=[82,83,84,82] ++ (cp 4 ++ (lit x.s 4 ++ (lit x.c 4 ++ (lit x.o 4 ++ (lit pg 2 ++ cp 490)))))
def IW (x:RstP) (pg:Int):List UInt8:=IM (IV x pg) (x.s % 65535+1)
def gY (l:List UInt8) (a c:Nat):Int:=num ((l.drop a).take c)
theorem CX (l:List UInt8) (a c:Nat):0≤gY l a c∧gY l a c<256 ^ c:=by
 obtain⟨b,d⟩:=fC ((l.drop a).take c);refine⟨b,Int.lt_of_lt_of_le d ?_⟩;have:((l.drop a).take c).length≤c:=List.length_take_le _ _;generalize ((l.drop a).take c).length=n at this;have Y:(256:Nat) ^ n≤256 ^ c:=Nat.pow_le_pow_right au this;have Y:=Int.ofNat_le.2 Y
 rwa [Int.natCast_pow,Int.natCast_pow] at Y
def By (q:Int) (st:List UInt8 × Int × Int) (x:RecP):List UInt8 × Int × Int:=
 if min ((q+1)*448) (fb x)≤max (q*448) (x.l-1) then st
 else (n5 st.1 (max (q*448) (x.l-1)-q*448).toNat (((B4 x).drop (max (q*448) (x.l-1)-(x.l-1)).toNat).take (min ((q+1)*448) (fb x)-max (q*448) (x.l-1)).toNat),min ((q+1)*448) (fb x)-q*448,x.s)
def py (s:List UInt8) (k:Nat):List UInt8:=(s.drop (512*k)).take 512
def C2 (s:List UInt8) (pg:Nat) (top:Int) (q:Nat):Option (Int × List UInt8):=
 if IL (py s (2+q % (pg-2)))=false then none
 else if bB (gY (Bw (py s (2+q % (pg-2)))) 12 2) 0 448&&bB (gY (Bw (py s (2+q % (pg-2)))) 14 4) 1 top&&(Hx q (gY (Bw (py s (2+q % (pg-2)))) 14 4) pg (((Bw (py s (2+q % (pg-2)))).drop 64).take (gY (Bw (py s (2+q % (pg-2)))) 12 2).toNat)==py s (2+q % (pg-2)))
 then some (gY (Bw (py s (2+q % (pg-2)))) 14 4,((Bw (py s (2+q % (pg-2)))).drop 64).take (gY (Bw (py s (2+q % (pg-2)))) 12 2).toNat)
 else none
def Gw (s:List UInt8) (pg:Nat) (top q:Int):Nat→Nat→Nat→Option (List UInt8)
 | _,0,_=>some []
 | 0,_+1,_=>none
 | f+1,c+1,at'=>
  match C2 s pg top (at' / 448) with
  | none=>none
  | some (q',b)=>
   if q'≠q∨b.length<at' % 448+min (c+1) (448-at' % 448) then none
   else (Gw s pg top q f (c+1-min (c+1) (448-at' % 448)) (at'+min (c+1) (448-at' % 448))).map fun l=>(b.drop (at' % 448)).take (min (c+1) (448-at' % 448)) ++ l
def F1 (s:List UInt8) (pg:Nat) (top:Int) (a:Int) (b:Int):Option RecP:=
 if a<0∨a % 8≠0 then none else
 match C2 s pg top (a.toNat / 448) with
 | none=>none
 | some (q,_)=>
  if q<b then none else
  match Gw s pg top q 3500 12 a.toNat with
  | none=>none
  | some hd=>
   if bB (gY hd 0 2) 1 3000=false then none else
   match Gw s pg top q 3500 (kQ (gY hd 0 2)).toNat a.toNat with
   | none=>none
   | some wh=>
    if B4 ⟨a+1,q,bs ((wh.drop 12).take (gY hd 0 2).toNat)⟩=wh then some ⟨a+1,q,bs ((wh.drop 12).take (gY hd 0 2).toNat)⟩ else none
def EU (s:List UInt8) (pg:Nat) (top:Int) (x:RecP):Option RecP:=
 match (F1 s pg top (fb x) x.s).filter (fun y=>fb x % 448==0||y.s==x.s) with
 | some y=>some y
 | none=>if fb x % 448=0 then none else
  match F1 s pg top (gp (fb x)) x.s with
  | none=>none
  | some y=>if x.s<y.s then some y else
   match C2 s pg top ((fb x).toNat / 448) with
   | none=>none
   | some (_,b)=>if (b.length:Int)=fb x % 448 then some y else none
def xa (s:List UInt8) (pg:Nat) (top:Int):Nat→Option RecP→Option (List RecP)
 | _,none=>some []
 | 0,some _=>none
 | f+1,some x=>(xa s pg top f (EU s pg top x)).map (x::·)
open Go.RowKit
structure Op where
 k:Int
 a:Int
 e:Int
 c:Int
 o:ByteArray
 n:ByteArray
def GW:Op:=⟨0,0,0,0,⟨#[]⟩,⟨#[]⟩⟩
def fj (x:Op):Value:=.agg #[ae x.k,ae x.a,ae x.e,ae x.c,.string x.o,.string x.n]
def AT (x:Op):List Value:=[ae x.k,ae x.a,ae x.e,ae x.c,.string x.o,.string x.n]
def Ak (k:Int):Bool:=bB k 1 5
def rL (k:Int):Bool:=bB k 2 3
def j4 (k:Int):Bool:=bB k 4 5
def qf (k:Int):Bool:=k==1||k==3||k==6
def rJ (k:Int):Bool:=k==1||k==2||k==6
def dC (x:Op):Bool:=(Ak x.k||x.a==0)&&(rL x.k||x.e==0)&&(j4 x.k||x.c==0)&&(qf x.k||x.o.size==0)&&(rJ x.k||x.n.size==0)
def dZ (x:Op):Bool:=if x.k=1 then x.o.size==x.n.size else if x.k=6 then x.o.size==512&&x.n.size==512 else true
def dq (k:Int):Bool:=bB k 1 3
def dA (x:Op):Nat:=max x.o.size x.n.size
def ga (x:Op):Bool:=
 if x.k=1 then bB x.a 0 511&&decide ((x.o.size:Int)≤512-x.a)
 else if x.k=2 then bB x.a 0 511&&bB x.e x.a (512-(x.o.size+x.n.size))
 else if x.k=3 then bB x.a 0 511&&bB x.e (x.a+(x.o.size+x.n.size)) 512
 else if x.k=4∨x.k=5 then bB x.a 0 4095&&bB x.c 1 (4096-x.a)
 else true
def gy (x:Op):Int:=if bB x.k 0 6=false then 15 else
 av [bQ (dC x) 3,bQ (dZ x) 10,bQ (!dq x.k||decide (0<dA x)) 17,bQ (!dq x.k||decide (dA x≤200)) 8,bQ (ga x) 2]
theorem aN:∀(l:List Int),av l=0↔∀e∈l,e=0
 | []=>by simp[av]
 | e::l=>by
  have a:=aN l;by_cases h:e=0
  · simp[av,h,a]
  · simp[av,h]
theorem aH {b:Bool} {e:Int} (a:e≠0):bQ b e=0↔b=true:=by cases b<;>simp[bQ,a]
def jV (b:UInt8) (j:Nat):Bool:=b.toNat / 2 ^ j % 2==1
def jj (b:UInt8) (j:Nat) (v:Bool):UInt8:=UInt8.ofNat (b.toNat-b.toNat / 2 ^ j % 2*2 ^ j+(if v then 2 ^ j else 0))
def putAt (l:List UInt8) (i:Nat) (v:Bool):List UInt8:=l.set (i / 8) (jj (l.getD (i / 8) 0) (i % 8) v)
def eJ (l:List UInt8) (i:Nat):Bool:=jV (l.getD (i / 8) 0) (i % 8)
def bK (l:List UInt8) (a:Nat):Nat→Bool→List UInt8
 | 0,_=>l
 | c+1,v=>putAt (bK l a c v) (a+c) v
def cr (l:List UInt8) (a:Nat):Nat→Bool→Bool
 | 0,_=>true
 | c+1,v=>cr l a c v&&(eJ l (a+c) != v)
theorem dy (l:List UInt8) (a c:Nat) (v:Bool):(bK l a c v).length=l.length:=by
 induction c with
 | zero=>rfl
 | succ c ih=>unfold bK putAt;rw[List.length_set,ih]
theorem ym (b:UInt8) (j a:Nat) (v:Bool) (d:j<8) (c:a<8) (h:j≠a):jV (jj b j v) a=jV b a:=by
 have all:∀n:Fin 256,∀j:Fin 8,∀a:Fin 8,∀v:Bool,j≠a→jV (jj (UInt8.ofNat n.val) j.val v) a.val=jV (UInt8.ofNat n.val) a.val:=by decide +kernel
 have:=all ⟨b.toNat,b.toNat_lt⟩ ⟨j,d⟩ ⟨a,c⟩ v (fun e=>h (al e))
 simpa using this
theorem zP (b:UInt8) (j:Nat) (v:Bool) (a:j<8):jV (jj b j v) j=v:=by
 have all:∀n:Fin 256,∀j:Fin 8,∀v:Bool,jV (jj (UInt8.ofNat n.val) j.val v) j.val=v:=by decide +kernel
 simpa using all ⟨b.toNat,b.toNat_lt⟩ ⟨j,a⟩ v
theorem vv (l:List UInt8) (i a:Nat) (v:Bool) (h:i / 8<l.length):eJ (putAt l i v) a=if i=a then v else eJ l a:=by
 unfold eJ putAt;by_cases b:i / 8=a / 8
 · rw[←b,List.getD_eq_getElem?_getD,List.getElem?_set_self h]
   simp only[Option.getD_some];by_cases e:i=a
   · rw[if_pos e,←e];exact zP _ _ _ ab
   · rw[if_neg e];exact ym _ _ _ _ ab ab ab
 · rw[if_neg (fun e=>b (by rw[e])),List.getD_eq_getElem?_getD,List.getElem?_set_ne b,←List.getD_eq_getElem?_getD]
theorem sd (l:List UInt8) (a c i:Nat) (v:Bool) (h:(a+c)≤8*l.length):eJ (bK l a c v) i=if a≤i∧i<a+c then v else eJ l i:=by
 induction c with
 | zero=>rw[if_neg ab];rfl
 | succ c ih=>
  unfold bK;rw[vv _ _ _ _ (by rw[dy];omega),ih ab];by_cases e:a+c=i
  · rw[if_pos e,if_pos ab]
  · rw[if_neg e]
    by_cases g:a≤i∧i<a+c
    · rw[if_pos g,if_pos ab]
    · rw[if_neg g,if_neg ab]
def Fe (p:List UInt8) (a e:Nat) (n:List UInt8):List UInt8:=p.take a ++ n ++ (p.take e).drop a ++ p.drop (e+n.length)
def F2 (p:List UInt8) (a e:Nat) (n:Nat):List UInt8:=p.take a ++ (p.take e).drop (a+n) ++ List.replicate n 0 ++ p.drop e
def iT (l:List UInt8):Bool:=l.all (·==0)
def ew (p:ByteArray) (x:Op):ByteArray:=
 if x.k=1 then ss p x.a.toNat x.n
 else if x.k=2 then bs (Fe (bl p) x.a.toNat x.e.toNat (bl x.n))
 else if x.k=3 then bs (F2 (bl p) x.a.toNat x.e.toNat x.o.size)
 else if x.k=4 then bs (bK (bl p) x.a.toNat x.c.toNat true)
 else if x.k=5 then bs (bK (bl p) x.a.toNat x.c.toNat false)
 else if x.k=6 then x.n
 else p
def cR (p:ByteArray) (x:Op):Bool:=
 if x.k=1∨x.k=3 then ((bl p).drop x.a.toNat).take x.o.size==bl x.o
 else if x.k=2 then iT (((bl p).drop x.e.toNat).take x.n.size)
 else if x.k=4 then cr (bl p) x.a.toNat x.c.toNat true
 else if x.k=5 then cr (bl p) x.a.toNat x.c.toNat false
 else if x.k=6 then bl p==bl x.o
 else true
def bz (p:ByteArray) (x:Op):ByteArray × Int:=if gy x≠0 then (⟨#[]⟩,gy x) else if cR p x then (ew p x,0) else (⟨#[]⟩,13)
def ir (p:ByteArray):Nat→List Op→ByteArray × Nat × Int
 | i,[]=>(p,i,0)
 | i,x::l=>if (bz p x).2≠0 then (⟨#[]⟩,i,(bz p x).2) else ir (bz p x).1 (i+1) l
def cI (p:ByteArray):Int:=bQ (p.size==512) 10
def eZ (p:ByteArray) (l:List Op):ByteArray × Nat × Int:=if cI p≠0 then (⟨#[]⟩,0,cI p) else if 64<l.length then (⟨#[]⟩,0,8) else ir p 0 l
def bO (x:Op):Op:=
 if x.k=2 then ⟨3,x.a,x.e+x.n.size,x.c,x.n,x.o⟩
 else if x.k=3 then ⟨2,x.a,x.e-x.o.size,x.c,x.n,x.o⟩
 else if x.k=4 then ⟨5,x.a,x.e,x.c,x.n,x.o⟩
 else if x.k=5 then ⟨4,x.a,x.e,x.c,x.n,x.o⟩
 else ⟨x.k,x.a,x.e,x.c,x.n,x.o⟩
open Go.RowKit
def I6 (n:Int):Prop:=-9223372036854775808≤n∧n<9223372036854775808
theorem dU {α:Type} (f:Nat→α→Int):∀(l:List α) (i j:Nat) (h:j<l.length),(∀k (a:k<l.length),k<j→f (i+k) l[k]=0)→f (i+j) l[j]≠0→df f i l=(((i+j:Nat):Int),f (i+j) l[j])
 | x::l,i,0,h,_,h1=>by
  unfold df;rw[if_neg (show ¬f i x=0 from h1)];rfl
 | x::l,i,j+1,h,h0,h1=>by
  have b:=h0 0 bw ab;unfold df;rw[if_pos (show f i x=0 from b)];have:=dU f l (i+1) j (al h) (fun k a c=>by have:=h0 (k+1) (al a) ab;rw[show i+1+k=i+(k+1) by omega];simpa using this) (by rw[show i+1+j=i+(j+1) by omega];simpa using h1);rw[this,show i+1+j=i+(j+1) by omega];rfl
theorem dx {α:Type} (f:Nat→α→Int):∀(l:List α) (i:Nat),(∀k (a:k<l.length),f (i+k) l[k]=0)→df f i l=(0,0)
 | [],_,_=>rfl
 | x::l,i,h=>by
  unfold df;rw[if_pos (show f i x=0 from h 0 (Nat.succ_pos _))]
  exact dx f l (i+1) fun k a=>by have:=h (k+1) (al a);rw[show i+1+k=i+(k+1) by omega];simpa using this
theorem uB {x:RstP} (h:r9 x=true):(1≤x.s∧x.s≤60000)∧(0≤x.c∧x.c≤100000000)∧(0≤x.o∧x.o≤100000000):=by
 unfold r9 kB at h;simp only[Bool.and_eq_true,inB_true] at h;exact⟨h.1.1,h.1.2,h.2⟩
structure HeadP (r:RngP):Prop where
 pg:4≤r.pg∧r.pg≤40
 rb:r9 r.r=true
 rr:(1≤r.r.s∧r.r.s≤60000)∧(0≤r.r.c∧r.r.c≤100000000)∧(0≤r.r.o∧r.r.o≤100000000)
 e:r.e=rst0∨(r9 r.e=true∧r.e.s=r.r.s-1)
 nx:0≤r.nx∧r.nx≤100000000∧r.nx % 8=0
 len:r.rs.length≤100
theorem head_iff {r:RngP}:fD r=0↔HeadP r:=by
 unfold fD;rw[aN]
 constructor
 · intro h
   have a:=h (kJ r.pg) bw;have c:=h (gl r.r) bw;have h3:=h (kC r) bw;have b:=h (bQ (kB r.nx&&r.nx % 8==0) 2) bw;have g:=h (bQ (decide (r.rs.length≤100)) 8) bw;unfold kJ at a;unfold gl at c;rw[aH au] at a c b g;rw[inB_true] at a;refine⟨a,c,uB c,?_,?_,al g⟩
   · unfold kC at h3
     split at h3
     · exact .inl II
     · right
       rw[aN] at h3;have f:=h3 (gl r.e) bw;have a2:=h3 (bQ (r.e.s==r.r.s-1) 9) bw;unfold gl at f;rw[aH au] at f a2;exact⟨f,al a2⟩
   · unfold kB at b
     rw[Bool.and_eq_true,inB_true] at b;exact⟨b.1.1,b.1.2,al b.2⟩
 · intro h e d
   simp only[List.mem_cons,List.not_mem_nil,or_false] at d;rcases d with rfl | rfl | rfl | rfl | rfl
   · unfold kJ;rw[aH au,inB_true];exact h.pg
   · unfold gl;rw[aH au];exact h.rb
   · unfold kC
     rcases h.e with a | ⟨a,c⟩
     · rw[if_pos a]
     · split
       · rfl
       · rw[aN];intro e d
         simp only[List.mem_cons,List.not_mem_nil,or_false] at d;rcases d with rfl | rfl
         · unfold gl;rw[aH au];exact a
         · rw[aH au];simpa using c
   · rw[aH au,Bool.and_eq_true]
     unfold kB;rw[inB_true];exact⟨⟨h.nx.1,h.nx.2.1⟩,al h.nx.2.2⟩
   · rw[aH au];simpa using h.len
theorem xn (a b c d:Int):av [av [a,b],c,d]=av [a,b,c,d]:=by
 simp only[av]
 by_cases f:a=0<;>by_cases e:b=0<;>simp[f,e]
theorem ux (a b:Int):av [a,b]=av [a,b,0]:=by
 simp only[av];simp
theorem ud (a b c d e:Int):av [av [a,b,c],d,e]=av [a,b,c,d,e]:=by
 simp only[av]
 by_cases h:a=0<;>by_cases f:b=0<;>by_cases g:c=0<;>simp[h,f,g]
theorem recE_zero {o q:Int} {f:Option RecP} {x:RecP}:fe o q f x=0↔x.b.size≠0∧x.b.size≤3000∧gR o f x=true∧bB x.s 1 q=true∧seqB f x=true:=by
 unfold fe;by_cases c:x.b.size=0
 · simp[c]
 rw[if_neg c];by_cases d:3000<x.b.size
 · rw[if_pos d];simp;omega
 rw[if_neg d];by_cases h3:gR o f x=false
 · simp[h3]
 rw[if_neg h3];by_cases a:bB x.s 1 q=false
 · simp[a]
 rw[if_neg a,aH au];simp at h3 a;simp[c,h3,a];omega
theorem oG {l:List RecP} {k:Nat} (h:k+1<l.length):cd l (k+1)=some l[k]:=by
 unfold cd;rw[if_neg ab,Nat.add_sub_cancel,List.getElem?_eq_getElem ab]
theorem mb {n:Nat} (h:n≤3000):12+(n:Int)≤kQ n∧kQ n≤3016∧kQ n % 8=0:=by unfold kQ;omega
theorem pQ {p:Int}:p≤gp p∧gp p≤p+447∧gp p % 448=0:=by unfold gp;omega
theorem mI (r:RngP) (e:r.r.o≤100000000):∀(k:Nat) (c:k<r.rs.length),(∀m (hm:m<r.rs.length),m≤k→fe r.r.o r.r.s (cd r.rs m) r.rs[m]=0)→1≤r.rs[k].l∧r.rs[k].l≤100000000+k*4000∧r.rs[k].b.size≤3000
 | 0,c,h=>by
  have d:=recE_zero.1 (h 0 c ab);have a:=d.2.2.1;unfold cd gR at a;simp only[if_true,Bool.and_eq_true,beq_iff_eq,decide_eq_true_eq] at a;exact⟨by omega,by omega,d.2.1⟩
 | k+1,c,h=>by
  obtain⟨i,a2,f⟩:=mI r e k ab fun m hm g=>h m hm ab;have d:=recE_zero.1 (h (k+1) c ab);have a:=d.2.2.1;rw[oG c] at a;unfold gR fb at a;simp only[Bool.or_eq_true,beq_iff_eq] at a;have b1:=mb f;have j:=pQ (p:=r.rs[k].l-1+kQ r.rs[k].b.size);refine⟨by omega,by push_cast;omega,d.2.1⟩
open Go.ChangeShapes Go.WideShapes Go.ChangeAt Go.RowKit
open Go.ChangeShapes Go.WideShapes Go.ChangeAt Go.RowKit
theorem jS {α:Type} {f:α→List Value} {n:Nat} (hf:∀x,(f x).length=n) (l:List α):(l.flatMap f).length=n*l.length:=by
 induction l with
 | nil=>rfl
 | cons x l ih=>rw[List.flatMap_cons,List.length_append,hf,ih,List.length_cons,Nat.mul_succ,Nat.add_comm]
theorem AK {α:Type} {f:α→List Value} {n:Nat} (hf:∀x,(f x).length=n) (l:List α):∀(k:Nat) (h:k<l.length) (j:Nat) (u:Value),(f l[k])[j]? = some u→(l.flatMap f)[k*n+j]? = some u:=by
 induction l with
 | nil=>intro k h;exact absurd h bw
 | cons x l ih=>
  intro k h j u a
  have b:j<n:=by rw[←hf];exact(List.getElem?_eq_some_iff.1 a).1
  rw[List.flatMap_cons]
  cases k with
  | zero=>rw[List.getElem?_append_left (by rw[hf];omega),Nat.zero_mul,Nat.zero_add];exact a
  | succ k=>
   rw[List.getElem?_append_right (by rw[hf,Nat.succ_mul];omega),hf,←ih k (al h) j u (al a),Nat.succ_mul]
   congr 1;omega
theorem vT {α:Type} {f:α→List Value} {n:Nat} (hf:∀x,(f x).length=n) (l:List α) {j:Nat} {u:Value} (h:(l.flatMap f)[j]? = some u) :
 ∃(k:Nat) (a:k<l.length) (r:Nat),r<n∧j=k*n+r∧(f l[k])[r]? = some u:=by
 have b:=(List.getElem?_eq_some_iff.1 h).1;rw[jS hf] at b
 have g:0<n:=by
  rcases Nat.eq_zero_or_pos n with c | c
  · subst c;simp at b
  · exact c
 have a:j / n<l.length:=(Nat.div_lt_iff_lt_mul g).2 (by rw[Nat.mul_comm];exact b);have hr:j % n<n:=Nat.mod_lt _ g
 have e:j=j / n*n+j % n:=by rw[Nat.mul_comm];exact(Nat.div_add_mod j n).symm
 refine⟨j / n,a,j % n,hr,e,?_⟩;have d:(f l[j / n])[j % n]? = some ((f l[j / n])[j % n]'(by rw[hf];exact hr)):=List.getElem?_eq_getElem _;have i:=AK hf l _ a _ _ d;rw[←e,h] at i;rw[d,←i]
theorem zG {H:Type} {enc:TypeId × Value→H} {P:Program} {W:World} {r:Reach} {J:Nat} {t e:TypeId} {v:Value} {d:DataW H} {p:List MemPlace}
 {α:Type} (f:α→List Value) (n:Nat) (hf:∀x,(f x).length=n) (G:α→Prop) (ht:P.underlying t=some (.slice e)) (V:P.cellsOf e=n)
 (I:∀(B:Nat) (cs:List Value) (x:DataW H × List MemPlace),cs.length=n→DataW.trod enc P W 0 (fun _=>true) true B e cs=some x→∃y,cs=f y∧G y)
 (hv:Value.okWide P W r J t v) (h:DataW.Trod enc P W 0 (fun _=>true) true t v d p) :
 ∃(A:Option Addr) (c:Nat) (l:List α),v=.slice A l.length c∧l.length≤maxLen∧Rd W W.heap.size A (l.flatMap f)∧∀x∈l,G x:=by
 obtain⟨a0,g,E,rfl⟩:=okWide_slice ht hv;obtain⟨B,M⟩:=h;rcases Go.Deep.open_slice ht M with ⟨w,_⟩ | ⟨a,len,cap,m,k,D,Pl,w,_,hl,hm,hmm,_,hx⟩
 · simp[Value.cells] at w
   obtain⟨rfl,rfl,rfl⟩:=w;exact⟨none,0,[],rfl,Nat.zero_le _,Rd.nil _ _ _,fun x hx=>absurd hx (List.not_mem_nil)⟩
 · simp[Value.cells] at w
   obtain⟨rfl,rfl,rfl⟩:=w;rw[if_pos rfl] at hmm;rw[V] at hx
   have z:∀i,i<g→∃y:α,G y∧∀j,j<n→W.cell? ((a.add (i*n)).add j)=(f y)[j]?:=by
    intro i C;obtain⟨cs',F,R⟩:=hx i ab;obtain⟨_,s,O⟩:=World.cells?_some F;obtain⟨y,rfl,N⟩:=I _ _ _ s R;exact⟨y,N,O⟩
   by_cases L:g=0
   · subst L
     exact⟨some a,E,[],rfl,Nat.zero_le _,Rd.nil _ _ _,fun x hx=>absurd hx (List.not_mem_nil)⟩
   · obtain⟨T,_,_⟩:=z 0 ab
     have S:Nonempty α:=⟨T⟩
     obtain⟨q,Q⟩:=Classical.axiomOfChoice (r:=fun (i:Nat) (y:α)=>i<g→G y∧∀j,j<n→W.cell? ((a.add (i*n)).add j)=(f y)[j]?) (fun i=>by
      by_cases C:i<g
      · obtain⟨y,N⟩:=z i C;exact⟨y,fun _=>N⟩
      · exact⟨T,fun h=>absurd h C⟩)
     have s:((List.range g).map q).length=g:=by rw[List.length_map,List.length_range]
     refine⟨some a,E,(List.range g).map q,by rw[s],by rw[s];omega,?_,?_⟩
     · intro j u Y
       obtain⟨i,C,K,hr,rfl,U⟩:=vT hf _ Y;rw[s] at C;have F:=(Q i C).2 K hr;rw[List.getElem_map,List.getElem_range] at U;rw[U] at F;obtain⟨b,o,X⟩:=a
       have Z:X=none:=by
        have L:=(Q 0 ab).2 0 ab;rw[List.getElem?_eq_getElem (by rw[hf];omega)] at L;have:=World.cell?_spot L
        simpa [Addr.add] using this
       subst Z
       have ea:((⟨b,o,none⟩:Addr).add (i*n)).add K=⟨b,o+(i*n+K),none⟩:=by
        unfold Addr.add
        by_cases h1:i*n=0<;>by_cases h2:K=0<;>simp[h1,h2,Nat.add_assoc]
       rw[ea] at F;exact⟨b,o,rfl,block_lt_of_cell F,F⟩
     · intro x hx
       obtain⟨i,C,rfl⟩:=List.mem_map.1 hx;exact(Q i (List.mem_range.1 C)).1
theorem nQ {H:Type} {enc:TypeId × Value→H} {P:Program} {W:World} {t e:TypeId} {z:Nat} {C:List Value} {X:DataW H × List MemPlace}
 {α:Type} (f:α→List Value) (n:Nat) (hf:∀x,(f x).length=n) (G:α→Prop) (ht:P.underlying t=some (.slice e)) (T:P.cellsOf e=n)
 (F:∀(E:Nat) (cs:List Value) (x:DataW H × List MemPlace),cs.length=n→DataW.trod enc P W 0 (fun _=>true) true E e cs=some x→∃y,cs=f y∧G y)
 (K:DataW.trod enc P W 0 (fun _=>true) true z t C=some X) :
 ∃(A:Option Addr) (c:Nat) (l:List α),C=[.slice A l.length c]∧l.length≤maxLen∧Rd W W.heap.size A (l.flatMap f)∧∀x∈l,G x:=by
 rcases Go.Deep.open_slice ht K with ⟨w,_⟩ | ⟨a,len,cap,m,k,D,Pl,w,_,hl,hm,hmm,_,hx⟩
 · exact⟨none,0,[],w,Nat.zero_le _,Rd.nil _ _ _,fun x hx=>absurd hx (List.not_mem_nil)⟩
 · obtain⟨d,rfl⟩:∃n,n=len:=⟨_,rfl⟩
   obtain⟨v,rfl⟩:∃n,n=cap:=⟨_,rfl⟩;subst w;rw[if_pos rfl] at hmm;rw[T] at hx
   have p:∀i,i<d→∃y:α,G y∧∀j,j<n→W.cell? ((a.add (i*n)).add j)=(f y)[j]?:=by
    intro i s;obtain⟨cs',B,M⟩:=hx i ab;obtain⟨_,g,N⟩:=World.cells?_some B;obtain⟨y,rfl,L⟩:=F _ _ _ g M;exact⟨y,L,N⟩
   by_cases J:d=0
   · subst J
     exact⟨some a,v,[],rfl,Nat.zero_le _,Rd.nil _ _ _,fun x hx=>absurd hx (List.not_mem_nil)⟩
   · obtain⟨R,_,_⟩:=p 0 ab
     have Q:Nonempty α:=⟨R⟩
     obtain⟨q,O⟩:=Classical.axiomOfChoice (r:=fun (i:Nat) (y:α)=>i<d→G y∧∀j,j<n→W.cell? ((a.add (i*n)).add j)=(f y)[j]?) (fun i=>by
      by_cases s:i<d
      · obtain⟨y,L⟩:=p i s;exact⟨y,fun _=>L⟩
      · exact⟨R,fun h=>absurd h s⟩)
     have g:((List.range d).map q).length=d:=by rw[List.length_map,List.length_range]
     refine⟨some a,v,(List.range d).map q,by rw[g],by rw[g];omega,?_,?_⟩
     · intro j u Z
       obtain⟨i,s,I,hr,rfl,S⟩:=vT hf _ Z;rw[g] at s;have B:=(O i s).2 I hr;rw[List.getElem_map,List.getElem_range] at S;rw[S] at B;obtain⟨b,o,V⟩:=a
       have hs:V=none:=by
        have J:=(O 0 ab).2 0 ab;rw[List.getElem?_eq_getElem (by rw[hf];omega)] at J;have:=World.cell?_spot J
        simpa [Addr.add] using this
       subst hs
       have ea:((⟨b,o,none⟩:Addr).add (i*n)).add I=⟨b,o+(i*n+I),none⟩:=by
        unfold Addr.add
        by_cases U:i*n=0<;>by_cases Y:I=0<;>simp[U,Y,Nat.add_assoc]
       rw[ea] at B;exact⟨b,o,rfl,block_lt_of_cell B,B⟩
     · intro x hx
       obtain⟨i,s,rfl⟩:=List.mem_map.1 hx;exact(O i (List.mem_range.1 s)).1
theorem wu {H:Type} {enc:TypeId × Value→H} {P:Program} {W:World} {r:Reach} {b:Nat} {t:TypeId} {l:Array Field} {v:Value} {d:DataW H} {p:List MemPlace}
 {α:Type} (f:α→List Value) (n:Nat) (G:α→Prop) (ht:P.underlying t=some (.struct l)) (i:P.cellsOf t=n)
 (c:∀(a:Nat) (cs:List Value) (x:DataW H × List MemPlace),cs.length=n→DataW.trod enc P W 0 (fun _=>true) true a t cs=some x→∃y,cs=f y∧G y)
 (m:Value.okWide P W r b t v) (h:DataW.Trod enc P W 0 (fun _=>true) true t v d p):∃y,v=.agg (f y).toArray∧G y:=by
 obtain⟨cs,rfl,g⟩:=okWide_struct ht m;obtain⟨a,e⟩:=h;obtain⟨y,k,j⟩:=c _ _ _ (by show cs.toList.length=n;rw[Array.length_toList];exact g.trans i) e
 have:cs=(f y).toArray:=by apply Array.toList_inj.1;exact k
 exact⟨y,by rw[this],j⟩
open Go.RowKit
theorem bf (n lo hi:Int) (w:World) :
 Calls Tryz.prog 152 #[.int .i64 n,.int .i64 lo,.int .i64 hi] w fun e w'=>e=.returned (.bool (bB n lo hi))∧w=w':=by
 by_cases h:lo≤n
 · go_enter Tryz.func152,Tryz.ntmps152
   go_wp2
   go_ret
   exact⟨by simp[bB,h],rfl⟩
 · go_enter Tryz.func152,Tryz.ntmps152
   go_wp2
   go_ret
   exact⟨by simp[bB];omega,rfl⟩
theorem cL (n lo hi:Int) (w:World) :
 Calls Tryz.prog 164 #[.int .i64 n,.int .i64 lo,.int .i64 hi] w fun e w'=>e=.returned (.bool (bB n lo hi))∧w=w':=by
 by_cases h:lo≤n
 · go_enter Tryz.func164,Tryz.ntmps164
   go_wp2
   go_ret
   exact⟨by simp[bB,h],rfl⟩
 · go_enter Tryz.func164,Tryz.ntmps164
   go_wp2
   go_ret
   exact⟨by simp[bB];omega,rfl⟩
theorem cg (n lo hi:Int) (w:World) :
 Calls Tryz.prog 62 #[.int .i64 n,.int .i64 lo,.int .i64 hi] w fun e w'=>e=.returned (.bool (bB n lo hi))∧w=w':=by
 by_cases h:lo≤n
 · go_enter Tryz.func62,Tryz.ntmps62
   go_wp2
   go_ret
   exact⟨by simp[bB,h],rfl⟩
 · go_enter Tryz.func62,Tryz.ntmps62
   go_wp2
   go_ret
   exact⟨by simp[bB];omega,rfl⟩
theorem aJ (ok:Bool) (e:Int) (w:World) :
 Calls Tryz.prog 151 #[.bool ok,.int .i64 e] w fun e' w'=>e'=.returned (.int .i64 (bQ ok e))∧w=w':=by
 cases ok
 · go_enter Tryz.func151,Tryz.ntmps151
   go_wp2
   go_ret
   exact⟨rfl,rfl⟩
 · go_enter Tryz.func151,Tryz.ntmps151
   go_wp2
   go_ret
   exact⟨rfl,rfl⟩
theorem aP (ok:Bool) (e:Int) (w:World) :
 Calls Tryz.prog 163 #[.bool ok,.int .i64 e] w fun e' w'=>e'=.returned (.int .i64 (bQ ok e))∧w=w':=by
 cases ok
 · go_enter Tryz.func163,Tryz.ntmps163
   go_wp2
   go_ret
   exact⟨rfl,rfl⟩
 · go_enter Tryz.func163,Tryz.ntmps163
   go_wp2
   go_ret
   exact⟨rfl,rfl⟩
theorem aX (ok:Bool) (e:Int) (w:World) :
 Calls Tryz.prog 64 #[.bool ok,.int .i64 e] w fun e' w'=>e'=.returned (.int .i64 (bQ ok e))∧w=w':=by
 cases ok
 · go_enter Tryz.func64,Tryz.ntmps64
   go_wp2
   go_ret
   exact⟨rfl,rfl⟩
 · go_enter Tryz.func64,Tryz.ntmps64
   go_wp2
   go_ret
   exact⟨rfl,rfl⟩
theorem ku (b o:Nat) (es:List Int) (w:World) (hlen:es.length≤100)
 (hc:∀k (_:k<es.length),w.cell? ⟨b,o+k,none⟩=some (.int .i64 es[k])) :
 Calls Tryz.prog 143 #[.slice (some ⟨b,o,none⟩) es.length es.length] w fun e w'=>e=.returned (.int .i64 (av es))∧w=w':=by
 go_enter Tryz.func143,Tryz.ntmps143
 go_wp2
 go_loop [7] (fun i=>∃k:Nat,k≤es.length∧i=.int .i64 k∧av es=av (es.drop k)) (fun i=>es.length-(intOf i).toNat)
 case atStart=>exact⟨0,Nat.zero_le _,rfl,rfl⟩
 case round=>
  obtain⟨k,hk,rfl,hf⟩:=hrel;have HF:=Lib.hid hf;clear hf;by_cases hlt:k<es.length
  · have hck:=hc k hlt
    have hd:es.drop k=es[k]::es.drop (k+1):=List.drop_eq_getElem_cons hlt;have HD:=Lib.hid hd;clear hd hc;by_cases h0:es[k]=0
    · have h0':(es[k] != 0)=false:=by simp[h0]
      have H0:=Lib.hid h0;clear h0
      go_wp2
      go_round
      case rel=>exact⟨k+1,by omega,by go_num,by rw[HF.out,HD.out];simp[av,H0.out]⟩
      case measure=>simp[intOf];omega
    · have h0':(es[k] != 0)=true:=by simp[h0]
      have H0:=Lib.hid h0;clear h0
      go_wp2
      go_ret
      exact⟨by rw[HF.out,HD.out];simp[av,H0.out],rfl⟩
  · go_wp2
    go_ret
    exact⟨by rw[HF.out,List.drop_of_length_le ab];rfl,rfl⟩
theorem fS (b o:Nat) (es:List Int) (w:World) (hlen:es.length≤100)
 (hc:∀k (_:k<es.length),w.cell? ⟨b,o+k,none⟩=some (.int .i64 es[k])) :
 Calls Tryz.prog 160 #[.slice (some ⟨b,o,none⟩) es.length es.length] w fun e w'=>e=.returned (.int .i64 (av es))∧w=w':=by
 go_enter Tryz.func160,Tryz.ntmps160
 go_wp2
 go_loop [7] (fun i=>∃k:Nat,k≤es.length∧i=.int .i64 k∧av es=av (es.drop k)) (fun i=>es.length-(intOf i).toNat)
 case atStart=>exact⟨0,Nat.zero_le _,rfl,rfl⟩
 case round=>
  obtain⟨k,hk,rfl,hf⟩:=hrel;have HF:=Lib.hid hf;clear hf;by_cases hlt:k<es.length
  · have hck:=hc k hlt
    have hd:es.drop k=es[k]::es.drop (k+1):=List.drop_eq_getElem_cons hlt;have HD:=Lib.hid hd;clear hd hc;by_cases h0:es[k]=0
    · have h0':(es[k] != 0)=false:=by simp[h0]
      have H0:=Lib.hid h0;clear h0
      go_wp2
      go_round
      case rel=>exact⟨k+1,by omega,by go_num,by rw[HF.out,HD.out];simp[av,H0.out]⟩
      case measure=>simp[intOf];omega
    · have h0':(es[k] != 0)=true:=by simp[h0]
      have H0:=Lib.hid h0;clear h0
      go_wp2
      go_ret
      exact⟨by rw[HF.out,HD.out];simp[av,H0.out],rfl⟩
  · go_wp2
    go_ret
    exact⟨by rw[HF.out,List.drop_of_length_le ab];rfl,rfl⟩
theorem il (b o:Nat) (es:List Int) (w:World) (hlen:es.length≤100)
 (hc:∀k (_:k<es.length),w.cell? ⟨b,o+k,none⟩=some (.int .i64 es[k])) :
 Calls Tryz.prog 63 #[.slice (some ⟨b,o,none⟩) es.length es.length] w fun e w'=>e=.returned (.int .i64 (av es))∧w=w':=by
 go_enter Tryz.func63,Tryz.ntmps63
 go_wp2
 go_loop [7] (fun i=>∃k:Nat,k≤es.length∧i=.int .i64 k∧av es=av (es.drop k)) (fun i=>es.length-(intOf i).toNat)
 case atStart=>exact⟨0,Nat.zero_le _,rfl,rfl⟩
 case round=>
  obtain⟨k,hk,rfl,hf⟩:=hrel;have HF:=Lib.hid hf;clear hf;by_cases hlt:k<es.length
  · have hck:=hc k hlt
    have hd:es.drop k=es[k]::es.drop (k+1):=List.drop_eq_getElem_cons hlt;have HD:=Lib.hid hd;clear hd hc;by_cases h0:es[k]=0
    · have h0':(es[k] != 0)=false:=by simp[h0]
      have H0:=Lib.hid h0;clear h0
      go_wp2
      go_round
      case rel=>exact⟨k+1,by omega,by go_num,by rw[HF.out,HD.out];simp[av,H0.out]⟩
      case measure=>simp[intOf];omega
    · have h0':(es[k] != 0)=true:=by simp[h0]
      have H0:=Lib.hid h0;clear h0
      go_wp2
      go_ret
      exact⟨by rw[HF.out,HD.out];simp[av,H0.out],rfl⟩
  · go_wp2
    go_ret
    exact⟨by rw[HF.out,List.drop_of_length_le ab];rfl,rfl⟩
theorem bH {W a:World} (c:Below W.heap.size W a):(∀b o,b<W.heap.size→a.cell? ⟨b,o,none⟩=W.cell? ⟨b,o,none⟩)∧(∀b o,b<W.heap.size→a.frozen? ⟨b,o,none⟩=W.frozen? ⟨b,o,none⟩):=
 ⟨fun b o h=>c.cell (p:=⟨b,o,none⟩) h,fun b o h=>c.frozen (p:=⟨b,o,none⟩) h⟩
theorem bJ (es:List Int) (w:World) (a:es.length≤100) :
 Calls Tryz.prog 143 #[.slice (some ⟨w.heap.size,0,none⟩) es.length es.length] (w.alloc (.cells (es.map (Value.int .i64)).toArray 28)) fun e c=>e=.returned (ae (av es))∧w.alloc (.cells (es.map (Value.int .i64)).toArray 28)=c:=
 ku _ _ es _ a fun k b=>by simp[b]
theorem br (n lo hi:Int) (w:World) :
 Calls Tryz.prog 74 #[.int .i64 n,.int .i64 lo,.int .i64 hi] w fun e w'=>e=.returned (.bool (bB n lo hi))∧w=w':=by
 by_cases h:lo≤n
 · go_enter Tryz.func74,Tryz.ntmps74
   go_wp2
   go_ret
   exact⟨by simp[bB,h],rfl⟩
 · go_enter Tryz.func74,Tryz.ntmps74
   go_wp2
   go_ret
   exact⟨by simp[bB];omega,rfl⟩
end Go.Proofs.YtcfdpfmchchkaaaGreatDoor
