/- Chapter 20 -/
import Derived.Test.YtcfdpfmchchkaaaGreatDoorSplB
import Derived.Test.YtcfdpfmchchkaaaGreatDoorRows
import Derived.ProofKit
import Derived.Deep.SlicePairs
import Derived.Lib.SmallJoins
import Derived.OpenShut
import Derived.Deep.Slices
import Derived.Test.YtcfdpfmchchkaaaGreatDoorChecked
import Derived.WalkLawsBesides
import Derived.WalkSpells
import Derived.Deep.QuietTactic
import Derived.Deep.DeepFit
namespace Go.Proofs.YtcfdpfmchchkaaaGreatDoor
set_option linter.unusedVariables false
set_option linter.unusedSimpArgs false
open Go.RowKit
structure RstP where
 s:Int
 c:Int
 o:Int
 deriving DecidableEq
structure RecP where
 l:Int
 s:Int
 b:ByteArray
 deriving DecidableEq
structure RngP where
 pg:Int
 r:RstP
 e:RstP
 rs:List RecP
 nx:Int
 deriving DecidableEq
def rst0:RstP:=⟨0,0,0⟩
def du:RngP:=⟨0,rst0,rst0,[],0⟩
def kb (n:Int):Int:=(n+19) / 8*8
def dG (x:RecP):Int:=x.l-1+kb x.b.size
def cp (p:Int):Int:=(p+447) / 448*448
def j3 (n:Int):Int:=bF (bD n 4 40) 2
def jr (n:Int):Bool:=bD n 0 100000000
def qb (x:RstP):Bool:=bD x.s 1 60000&&jr x.c&&jr x.o
def fK (x:RstP):Int:=bF (qb x) 2
def fu (o:Int) (f:Option RecP) (x:RecP):Bool:=match f with
 | none=>x.l==o&&decide (1≤o)&&(o-1) % 8==0
 | some y=>x.l-1==dG y||x.l-1==cp (dG y)
def seqB (f:Option RecP) (x:RecP):Bool:=match f with
 | none=>true
 | some y=>x.s==y.s||(decide (y.s<x.s)&&(x.l-1) % 448==0)
def eC (o q:Int) (f:Option RecP) (x:RecP):Int:=
 if x.b.size=0 then 17 else if 3000<x.b.size then 8 else if fu o f x=false then 9 else if bD x.s 1 q=false then 2 else bF (seqB f x) 9
def bS (l:List RecP) (i:Nat):Option RecP:=if i=0 then none else l[i-1]?
def j7 (r:RngP):Int × Int:=di (fun i x=>eC r.r.o r.r.s (bS r.rs i) x) 0 r.rs
def fI (r:RngP):Int:=match r.rs.getLast? with
 | none=>bF (r.nx==r.r.o-1&&r.nx % 448==0) 9
 | some y=>bF ((r.nx==dG y||r.nx==cp (dG y))&&(y.s==r.r.s||r.nx % 448==0)) 9
def ec (l:List RecP) (n:Int):Bool:=l.any fun x=>x.l==n
def cL (r:RngP):Int × Int:=match r.rs.getLast? with
 | none=>(0,0)
 | some y=>((r.r.o-1) / 448,(dG y-1) / 448-(r.r.o-1) / 448+1)
def jP (r:RngP):Int:=if r.e=rst0 then 0 else aw [fK r.e,bF (r.e.s==r.r.s-1) 9]
def eS (r:RngP):Int:=aw [j3 r.pg,fK r.r,jP r,bF (jr r.nx&&r.nx % 8==0) 2,bF (decide (r.rs.length≤100)) 8]
def jH (r:RngP):Int:=aw [fI r,bF (r.r.c==0||ec r.rs r.r.c) 6,bF (decide ((cL r).2≤r.pg-2)) 16]
def bJ (r:RngP):Int × Int:=if eS r≠0 then (0,eS r) else if (j7 r).2≠0 then j7 r else (0,jH r)
def dL (r:RngP) (s:ByteArray):RngP:={ r with rs:=r.rs ++ [⟨r.nx+1,r.r.s,s⟩],nx:=r.nx+kb s.size }
def eN (r:RngP) (s:ByteArray):Int:=
 if s.size=0 then 17 else if 3000<s.size then 8 else if 100≤r.rs.length then 8 else
  if r.pg-2<(cL (dL r s)).2∨100000000<(dL r s).nx then 16 else 0
def fM (r:RngP) (s:ByteArray):RngP:=if eN r s=0 then dL r s else du
def rm (r:RngP):RngP:={ r with nx:=cp r.nx }
def jf (r:RngP):Int:=bF (decide (cp r.nx≤100000000)) 16
def ig (r:RngP):RngP:=if jf r=0 then rm r else du
def gh (r:RngP) (c o:Int):RngP:=⟨r.pg,⟨r.r.s+1,c,o⟩,r.r,r.rs.filter fun x=>decide (o≤x.l),cp r.nx⟩
def iQ (r:RngP) (c o:Int):Int:=
 aw [jf r,bF (o==cp r.nx+1||ec r.rs o) 6,bF (c==0||(decide (o≤c)&&ec r.rs c)) 6,bF (decide (r.r.s<60000)) 2]
def kK (r:RngP) (c o:Int):RngP:=if iQ r c o=0 then gh r c o else du
def BF (x:RecP):List UInt8:=
 lit x.b.size 2 ++ [0,0] ++ lit x.l 4 ++ lit (HW (bl x.b) 0) 4 ++ bl x.b ++ cu ((kb x.b.size).toNat-(12+x.b.size))
def nG (l:List UInt8) (a:Nat) (b:List UInt8):List UInt8:=l.take a ++ b ++ l.drop (a+b.length)
theorem uA {l b:List UInt8} {a:Nat} (h:a+b.length≤l.length):(nG l a b).length=l.length:=by
 unfold nG;simp only[List.length_append,List.length_take,List.length_drop];omega
theorem zA {l b:List UInt8} {a:Nat} (h:a+b.length≤l.length) (i:Nat):(nG l a b).getD i 0=if a≤i∧i<a+b.length then b.getD (i-a) 0 else l.getD i 0:=by
 unfold nG;simp only[List.getD_eq_getElem?_getD]
 have e:(l.take a ++ b).length=a+b.length:=by simp only[List.length_append,List.length_take];omega
 have c:(l.take a).length=a:=by rw[List.length_take];omega
 by_cases f:i<a+b.length
 · rw[List.getElem?_append_left ab]
   by_cases d:i<a
   · rw[List.getElem?_append_left ab,if_neg ab,List.getElem?_take,if_pos d]
   · rw[List.getElem?_append_right ab,if_pos ⟨by omega,f⟩,c]
 · rw[List.getElem?_append_right ab,if_neg ab,e,List.getElem?_drop]
   congr 2;omega
theorem wW (l:List UInt8) (a:Nat) (h:a+2≤l.length):(l.drop a).take 2=[l.getD a 0,l.getD (a+1) 0]:=by
 rw[List.drop_eq_getElem_cons ab,List.drop_eq_getElem_cons ab];simp only[List.take_succ_cons,List.take_zero,List.getD_eq_getElem?_getD,List.getElem?_eq_getElem (show a<l.length by omega),List.getElem?_eq_getElem (show a+1<l.length by omega),Option.getD_some]
def Hh (k:Nat):Nat:=64*k+62
def Hq (n:Int) (b:List UInt8):Nat→List UInt8
 | 0=>nG b 40 (lit n 2)
 | k+1=>nG (nG (Hq n b k) (42+2*k) (((Hq n b k).drop (Hh k)).take 2)) (Hh k) (lit n 2)
def H5 (b:List UInt8) (n:Int):List UInt8:=Hq n b 8
def HM (s:List UInt8):Int:=num ((s.drop 40).take 2)
def HJ (s:List UInt8) (k:Nat):Bool:=HM s==0||(s.drop (Hh k)).take 2 != (s.drop 40).take 2
def H6 (s:List UInt8):Bool:=(List.range 8).all fun k=>!HJ s k
def H3 (s:List UInt8):Nat→List UInt8
 | 0=>s
 | k+1=>nG (H3 s k) (Hh k) ((s.drop (42+2*k)).take 2)
def CE (s:List UInt8):List UInt8:=nG (H3 s 8) 40 (cu 18)
theorem wE (n i:Nat):(cu n).getD i 0=0:=by
 unfold cu;rw[List.getD_eq_getElem?_getD,List.getElem?_replicate]
 split<;>rfl
theorem kV (n:Nat):(cu n).length=n:=by simp[cu]
open Go.RowKit
def Ii (q u s:Int) (c:List UInt8):List UInt8:=[82,67,82,68] ++ (cu 4 ++ (lit q 4 ++ (lit u 2 ++ (lit s 4 ++ (cu 46 ++ c)))))
def Hx (q s pg:Int):Int:=(q / (pg-2)+s) % 65535+1
def GB (q s pg:Int) (c:List UInt8):List UInt8:=H5 (Ii q c.length s (c ++ cu (448-c.length))) (Hx q s pg)
def H9 (x:RstP) (pg:Int):List UInt8:=[82,83,84,82] ++ (cu 4 ++ (lit x.s 4 ++ (lit x.c 4 ++ (lit x.o 4 ++ (lit pg 2 ++ cu 490)))))
def Ih (x:RstP) (pg:Int):List UInt8:=H5 (H9 x pg) (x.s % 65535+1)
def fw (l:List UInt8) (a c:Nat):Int:=num ((l.drop a).take c)
theorem A5 (l:List UInt8) (a c:Nat):0≤fw l a c∧fw l a c<256 ^ c:=by
 obtain⟨d,b⟩:=eW ((l.drop a).take c);refine⟨d,Int.lt_of_lt_of_le b ?_⟩;have:((l.drop a).take c).length≤c:=List.length_take_le _ _;generalize ((l.drop a).take c).length=n at this;have Y:(256:Nat) ^ n≤256 ^ c:=Nat.pow_le_pow_right au this;have Y:=Int.ofNat_le.2 Y
 rwa [Int.natCast_pow,Int.natCast_pow] at Y
def C1 (q:Int) (st:List UInt8 × Int × Int) (x:RecP):List UInt8 × Int × Int:=
 if min ((q+1)*448) (dG x)≤max (q*448) (x.l-1) then st
 else (nG st.1 (max (q*448) (x.l-1)-q*448).toNat (((BF x).drop (max (q*448) (x.l-1)-(x.l-1)).toNat).take (min ((q+1)*448) (dG x)-max (q*448) (x.l-1)).toNat),min ((q+1)*448) (dG x)-q*448,x.s)
def ou (s:List UInt8) (k:Nat):List UInt8:=(s.drop (512*k)).take 512
def AZ (s:List UInt8) (pg:Nat) (top:Int) (q:Nat):Option (Int × List UInt8):=
 if H6 (ou s (2+q % (pg-2)))=false then none
 else if bD (fw (CE (ou s (2+q % (pg-2)))) 12 2) 0 448&&bD (fw (CE (ou s (2+q % (pg-2)))) 14 4) 1 top&&(GB q (fw (CE (ou s (2+q % (pg-2)))) 14 4) pg (((CE (ou s (2+q % (pg-2)))).drop 64).take (fw (CE (ou s (2+q % (pg-2)))) 12 2).toNat)==ou s (2+q % (pg-2)))
 then some (fw (CE (ou s (2+q % (pg-2)))) 14 4,((CE (ou s (2+q % (pg-2)))).drop 64).take (fw (CE (ou s (2+q % (pg-2)))) 12 2).toNat)
 else none
def F7 (s:List UInt8) (pg:Nat) (top q:Int):Nat→Nat→Nat→Option (List UInt8)
 | _,0,_=>some []
 | 0,_+1,_=>none
 | f+1,c+1,at'=>
  match AZ s pg top (at' / 448) with
  | none=>none
  | some (q',b)=>
   if q'≠q∨b.length<at' % 448+min (c+1) (448-at' % 448) then none
   else (F7 s pg top q f (c+1-min (c+1) (448-at' % 448)) (at'+min (c+1) (448-at' % 448))).map fun l=>(b.drop (at' % 448)).take (min (c+1) (448-at' % 448)) ++ l
def EC (s:List UInt8) (pg:Nat) (top:Int) (a:Int) (b:Int):Option RecP:=
 if a<0∨a % 8≠0 then none else
 match AZ s pg top (a.toNat / 448) with
 | none=>none
 | some (q,_)=>
  if q<b then none else
  match F7 s pg top q 3500 12 a.toNat with
  | none=>none
  | some hd=>
   if bD (fw hd 0 2) 1 3000=false then none else
   match F7 s pg top q 3500 (kb (fw hd 0 2)).toNat a.toNat with
   | none=>none
   | some wh=>
    if BF ⟨a+1,q,bs ((wh.drop 12).take (fw hd 0 2).toNat)⟩=wh then some ⟨a+1,q,bs ((wh.drop 12).take (fw hd 0 2).toNat)⟩ else none
def Ez (s:List UInt8) (pg:Nat) (top:Int) (x:RecP):Option RecP:=
 match (EC s pg top (dG x) x.s).filter (fun y=>dG x % 448==0||y.s==x.s) with
 | some y=>some y
 | none=>if dG x % 448=0 then none else
  match EC s pg top (cp (dG x)) x.s with
  | none=>none
  | some y=>if x.s<y.s then some y else
   match AZ s pg top ((dG x).toNat / 448) with
   | none=>none
   | some (_,b)=>if (b.length:Int)=dG x % 448 then some y else none
def vr (s:List UInt8) (pg:Nat) (top:Int):Nat→Option RecP→Option (List RecP)
 | _,none=>some []
 | 0,some _=>none
 | f+1,some x=>(vr s pg top f (Ez s pg top x)).map (x::·)
open Go.RowKit
structure Op where
 k:Int
 a:Int
 e:Int
 c:Int
 o:ByteArray
 n:ByteArray
def Fv:Op:=⟨0,0,0,0,⟨#[]⟩,⟨#[]⟩⟩
def gm (x:Op):Value:=.agg #[ae x.k,ae x.a,ae x.e,ae x.c,.string x.o,.string x.n]
def As (x:Op):List Value:=[ae x.k,ae x.a,ae x.e,ae x.c,.string x.o,.string x.n]
def Ao (k:Int):Bool:=bD k 1 5
def o4 (k:Int):Bool:=bD k 2 3
def jv (k:Int):Bool:=bD k 4 5
def qt (k:Int):Bool:=k==1||k==3||k==6
def qo (k:Int):Bool:=k==1||k==2||k==6
def dm (x:Op):Bool:=(Ao x.k||x.a==0)&&(o4 x.k||x.e==0)&&(jv x.k||x.c==0)&&(qt x.k||x.o.size==0)&&(qo x.k||x.n.size==0)
def dJ (x:Op):Bool:=if x.k=1 then x.o.size==x.n.size else if x.k=6 then x.o.size==512&&x.n.size==512 else true
def db (k:Int):Bool:=bD k 1 3
def dn (x:Op):Nat:=max x.o.size x.n.size
def fD (x:Op):Bool:=
 if x.k=1 then bD x.a 0 511&&decide ((x.o.size:Int)≤512-x.a)
 else if x.k=2 then bD x.a 0 511&&bD x.e x.a (512-(x.o.size+x.n.size))
 else if x.k=3 then bD x.a 0 511&&bD x.e (x.a+(x.o.size+x.n.size)) 512
 else if x.k=4∨x.k=5 then bD x.a 0 4095&&bD x.c 1 (4096-x.a)
 else true
def gj (x:Op):Int:=if bD x.k 0 6=false then 15 else
 aw [bF (dm x) 3,bF (dJ x) 10,bF (!db x.k||decide (0<dn x)) 17,bF (!db x.k||decide (dn x≤200)) 8,bF (fD x) 2]
theorem aS:∀(l:List Int),aw l=0↔∀e∈l,e=0
 | []=>by simp[aw]
 | e::l=>by
  have a:=aS l;by_cases h:e=0
  · simp[aw,h,a]
  · simp[aw,h]
theorem aD {b:Bool} {e:Int} (a:e≠0):bF b e=0↔b=true:=by cases b<;>simp[bF,a]
def rl (b:UInt8) (j:Nat):Bool:=b.toNat / 2 ^ j % 2==1
def lj (b:UInt8) (j:Nat) (v:Bool):UInt8:=UInt8.ofNat (b.toNat-b.toNat / 2 ^ j % 2*2 ^ j+(if v then 2 ^ j else 0))
def putAt (l:List UInt8) (i:Nat) (v:Bool):List UInt8:=l.set (i / 8) (lj (l.getD (i / 8) 0) (i % 8) v)
def jI (l:List UInt8) (i:Nat):Bool:=rl (l.getD (i / 8) 0) (i % 8)
def cB (l:List UInt8) (a:Nat):Nat→Bool→List UInt8
 | 0,_=>l
 | c+1,v=>putAt (cB l a c v) (a+c) v
def dX (l:List UInt8) (a:Nat):Nat→Bool→Bool
 | 0,_=>true
 | c+1,v=>dX l a c v&&(jI l (a+c) != v)
theorem ek (l:List UInt8) (a c:Nat) (v:Bool):(cB l a c v).length=l.length:=by
 induction c with
 | zero=>rfl
 | succ c ih=>unfold cB putAt;rw[List.length_set,ih]
theorem wA (b:UInt8) (j a:Nat) (v:Bool) (d:j<8) (c:a<8) (h:j≠a):rl (lj b j v) a=rl b a:=by
 have all:∀n:Fin 256,∀j:Fin 8,∀a:Fin 8,∀v:Bool,j≠a→rl (lj (UInt8.ofNat n.val) j.val v) a.val=rl (UInt8.ofNat n.val) a.val:=by decide +kernel
 have:=all ⟨b.toNat,b.toNat_lt⟩ ⟨j,d⟩ ⟨a,c⟩ v (fun e=>h (ar e))
 simpa using this
theorem zo (b:UInt8) (j:Nat) (v:Bool) (a:j<8):rl (lj b j v) j=v:=by
 have all:∀n:Fin 256,∀j:Fin 8,∀v:Bool,rl (lj (UInt8.ofNat n.val) j.val v) j.val=v:=by decide +kernel
 simpa using all ⟨b.toNat,b.toNat_lt⟩ ⟨j,a⟩ v
theorem uo (l:List UInt8) (i a:Nat) (v:Bool) (h:i / 8<l.length):jI (putAt l i v) a=if i=a then v else jI l a:=by
 unfold jI putAt;by_cases b:i / 8=a / 8
 · rw[←b,List.getD_eq_getElem?_getD,List.getElem?_set_self h]
   simp only[Option.getD_some];by_cases e:i=a
   · rw[if_pos e,←e];exact zo _ _ _ ab
   · rw[if_neg e];exact wA _ _ _ _ ab ab ab
 · rw[if_neg (fun e=>b (by rw[e])),List.getD_eq_getElem?_getD,List.getElem?_set_ne b,←List.getD_eq_getElem?_getD]
theorem ra (l:List UInt8) (a c i:Nat) (v:Bool) (h:(a+c)≤8*l.length):jI (cB l a c v) i=if a≤i∧i<a+c then v else jI l i:=by
 induction c with
 | zero=>rw[if_neg ab];rfl
 | succ c ih=>
  unfold cB;rw[uo _ _ _ _ (by rw[ek];omega),ih ab];by_cases e:a+c=i
  · rw[if_pos e,if_pos ab]
  · rw[if_neg e]
    by_cases g:a≤i∧i<a+c
    · rw[if_pos g,if_pos ab]
    · rw[if_neg g,if_neg ab]
def DG (p:List UInt8) (a e:Nat) (n:List UInt8):List UInt8:=p.take a ++ n ++ (p.take e).drop a ++ p.drop (e+n.length)
def Ea (p:List UInt8) (a e:Nat) (n:Nat):List UInt8:=p.take a ++ (p.take e).drop (a+n) ++ List.replicate n 0 ++ p.drop e
def lF (l:List UInt8):Bool:=l.all (·==0)
def fC (p:ByteArray) (x:Op):ByteArray:=
 if x.k=1 then vB p x.a.toNat x.n
 else if x.k=2 then bs (DG (bl p) x.a.toNat x.e.toNat (bl x.n))
 else if x.k=3 then bs (Ea (bl p) x.a.toNat x.e.toNat x.o.size)
 else if x.k=4 then bs (cB (bl p) x.a.toNat x.c.toNat true)
 else if x.k=5 then bs (cB (bl p) x.a.toNat x.c.toNat false)
 else if x.k=6 then x.n
 else p
def dY (p:ByteArray) (x:Op):Bool:=
 if x.k=1∨x.k=3 then ((bl p).drop x.a.toNat).take x.o.size==bl x.o
 else if x.k=2 then lF (((bl p).drop x.e.toNat).take x.n.size)
 else if x.k=4 then dX (bl p) x.a.toNat x.c.toNat true
 else if x.k=5 then dX (bl p) x.a.toNat x.c.toNat false
 else if x.k=6 then bl p==bl x.o
 else true
def cj (p:ByteArray) (x:Op):ByteArray × Int:=if gj x≠0 then (⟨#[]⟩,gj x) else if dY p x then (fC p x,0) else (⟨#[]⟩,13)
def gN (p:ByteArray):Nat→List Op→ByteArray × Nat × Int
 | i,[]=>(p,i,0)
 | i,x::l=>if (cj p x).2≠0 then (⟨#[]⟩,i,(cj p x).2) else gN (cj p x).1 (i+1) l
def cM (p:ByteArray):Int:=bF (p.size==512) 10
def eB (p:ByteArray) (l:List Op):ByteArray × Nat × Int:=if cM p≠0 then (⟨#[]⟩,0,cM p) else if 64<l.length then (⟨#[]⟩,0,8) else gN p 0 l
def fH (x:Op):Op:=
 if x.k=2 then ⟨3,x.a,x.e+x.n.size,x.c,x.n,x.o⟩
 else if x.k=3 then ⟨2,x.a,x.e-x.o.size,x.c,x.n,x.o⟩
 else if x.k=4 then ⟨5,x.a,x.e,x.c,x.n,x.o⟩
 else if x.k=5 then ⟨4,x.a,x.e,x.c,x.n,x.o⟩
 else ⟨x.k,x.a,x.e,x.c,x.n,x.o⟩
open Go.RowKit
def I6 (n:Int):Prop:=-9223372036854775808≤n∧n<9223372036854775808
theorem dB {α:Type} (f:Nat→α→Int):∀(l:List α) (i j:Nat) (h:j<l.length),(∀k (a:k<l.length),k<j→f (i+k) l[k]=0)→f (i+j) l[j]≠0→di f i l=(((i+j:Nat):Int),f (i+j) l[j])
 | x::l,i,0,h,_,h1=>by
  unfold di;rw[if_neg (show ¬f i x=0 from h1)];rfl
 | x::l,i,j+1,h,h0,h1=>by
  have b:=h0 0 bm ab;unfold di;rw[if_pos (show f i x=0 from b)];have:=dB f l (i+1) j (ar h) (fun k a c=>by have:=h0 (k+1) (ar a) ab;rw[show i+1+k=i+(k+1) by omega];simpa using this) (by rw[show i+1+j=i+(j+1) by omega];simpa using h1);rw[this,show i+1+j=i+(j+1) by omega];rfl
theorem dc {α:Type} (f:Nat→α→Int):∀(l:List α) (i:Nat),(∀k (a:k<l.length),f (i+k) l[k]=0)→di f i l=(0,0)
 | [],_,_=>rfl
 | x::l,i,h=>by
  unfold di;rw[if_pos (show f i x=0 from h 0 (Nat.succ_pos _))]
  exact dc f l (i+1) fun k a=>by have:=h (k+1) (ar a);rw[show i+1+k=i+(k+1) by omega];simpa using this
theorem tw {x:RstP} (h:qb x=true):(1≤x.s∧x.s≤60000)∧(0≤x.c∧x.c≤100000000)∧(0≤x.o∧x.o≤100000000):=by
 unfold qb jr at h;simp only[Bool.and_eq_true,inB_true] at h;exact⟨h.1.1,h.1.2,h.2⟩
structure HeadP (r:RngP):Prop where
 pg:4≤r.pg∧r.pg≤40
 rb:qb r.r=true
 rr:(1≤r.r.s∧r.r.s≤60000)∧(0≤r.r.c∧r.r.c≤100000000)∧(0≤r.r.o∧r.r.o≤100000000)
 e:r.e=rst0∨(qb r.e=true∧r.e.s=r.r.s-1)
 nx:0≤r.nx∧r.nx≤100000000∧r.nx % 8=0
 len:r.rs.length≤100
theorem head_iff {r:RngP}:eS r=0↔HeadP r:=by
 unfold eS;rw[aS]
 constructor
 · intro h
   have a:=h (j3 r.pg) bm;have b:=h (fK r.r) bm;have h3:=h (jP r) bm;have c:=h (bF (jr r.nx&&r.nx % 8==0) 2) bm;have g:=h (bF (decide (r.rs.length≤100)) 8) bm;unfold j3 at a;unfold fK at b;rw[aD au] at a b c g;rw[inB_true] at a;refine⟨a,b,tw b,?_,?_,ar g⟩
   · unfold jP at h3
     split at h3
     · exact .inl Hv
     · right
       rw[aS] at h3;have f:=h3 (fK r.e) bm;have a2:=h3 (bF (r.e.s==r.r.s-1) 9) bm;unfold fK at f;rw[aD au] at f a2;exact⟨f,ar a2⟩
   · unfold jr at c
     rw[Bool.and_eq_true,inB_true] at c;exact⟨c.1.1,c.1.2,ar c.2⟩
 · intro h e d
   simp only[List.mem_cons,List.not_mem_nil,or_false] at d;rcases d with rfl | rfl | rfl | rfl | rfl
   · unfold j3;rw[aD au,inB_true];exact h.pg
   · unfold fK;rw[aD au];exact h.rb
   · unfold jP
     rcases h.e with a | ⟨a,b⟩
     · rw[if_pos a]
     · split
       · rfl
       · rw[aS];intro e d
         simp only[List.mem_cons,List.not_mem_nil,or_false] at d;rcases d with rfl | rfl
         · unfold fK;rw[aD au];exact a
         · rw[aD au];simpa using b
   · rw[aD au,Bool.and_eq_true]
     unfold jr;rw[inB_true];exact⟨⟨h.nx.1,h.nx.2.1⟩,ar h.nx.2.2⟩
   · rw[aD au];simpa using h.len
theorem vm (a b c d:Int):aw [aw [a,b],c,d]=aw [a,b,c,d]:=by
 simp only[aw]
 by_cases e:a=0<;>by_cases f:b=0<;>simp[e,f]
theorem tO (a b:Int):aw [a,b]=aw [a,b,0]:=by
 simp only[aw];simp
theorem tM (a b c d e:Int):aw [aw [a,b,c],d,e]=aw [a,b,c,d,e]:=by
 simp only[aw]
 by_cases h:a=0<;>by_cases g:b=0<;>by_cases f:c=0<;>simp[h,g,f]
theorem recE_zero {o q:Int} {f:Option RecP} {x:RecP}:eC o q f x=0↔x.b.size≠0∧x.b.size≤3000∧fu o f x=true∧bD x.s 1 q=true∧seqB f x=true:=by
 unfold eC;by_cases c:x.b.size=0
 · simp[c]
 rw[if_neg c];by_cases d:3000<x.b.size
 · rw[if_pos d];simp;omega
 rw[if_neg d];by_cases h3:fu o f x=false
 · simp[h3]
 rw[if_neg h3];by_cases a:bD x.s 1 q=false
 · simp[a]
 rw[if_neg a,aD au];simp at h3 a;simp[c,h3,a];omega
theorem eQ {l:List RecP} {k:Nat} (h:k+1<l.length):bS l (k+1)=some l[k]:=by
 unfold bS;rw[if_neg ab,Nat.add_sub_cancel,List.getElem?_eq_getElem ab]
theorem gQ {n:Nat} (h:n≤3000):12+(n:Int)≤kb n∧kb n≤3016∧kb n % 8=0:=by unfold kb;omega
theorem gB {p:Int}:p≤cp p∧cp p≤p+447∧cp p % 448=0:=by unfold cp;omega
theorem mu (r:RngP) (f:r.r.o≤100000000):∀(k:Nat) (d:k<r.rs.length),(∀m (hm:m<r.rs.length),m≤k→eC r.r.o r.r.s (bS r.rs m) r.rs[m]=0)→1≤r.rs[k].l∧r.rs[k].l≤100000000+k*4000∧r.rs[k].b.size≤3000
 | 0,d,h=>by
  have c:=recE_zero.1 (h 0 d ab);have a:=c.2.2.1;unfold bS fu at a;simp only[if_true,Bool.and_eq_true,beq_iff_eq,decide_eq_true_eq] at a;exact⟨by omega,by omega,c.2.1⟩
 | k+1,d,h=>by
  obtain⟨i,a2,g⟩:=mu r f k ab fun m hm e=>h m hm ab;have c:=recE_zero.1 (h (k+1) d ab);have a:=c.2.2.1;rw[eQ d] at a;unfold fu dG at a;simp only[Bool.or_eq_true,beq_iff_eq] at a;have b1:=gQ g;have j:=gB (p:=r.rs[k].l-1+kb r.rs[k].b.size);refine⟨by omega,by push_cast;omega,c.2.1⟩
open Go.ChangeShapes Go.WideShapes Go.ChangeAt Go.RowKit
open Go.ChangeShapes Go.WideShapes Go.ChangeAt Go.RowKit
theorem iH {α:Type} {f:α→List Value} {n:Nat} (hf:∀x,(f x).length=n) (l:List α):(l.flatMap f).length=n*l.length:=by
 induction l with
 | nil=>rfl
 | cons x l ih=>rw[List.flatMap_cons,List.length_append,hf,ih,List.length_cons,Nat.mul_succ,Nat.add_comm]
theorem AF {α:Type} {f:α→List Value} {n:Nat} (hf:∀x,(f x).length=n) (l:List α):∀(k:Nat) (h:k<l.length) (j:Nat) (u:Value),(f l[k])[j]? = some u→(l.flatMap f)[k*n+j]? = some u:=by
 induction l with
 | nil=>intro k h;exact absurd h bm
 | cons x l ih=>
  intro k h j u a
  have b:j<n:=by rw[←hf];exact(List.getElem?_eq_some_iff.1 a).1
  rw[List.flatMap_cons]
  cases k with
  | zero=>rw[List.getElem?_append_left (by rw[hf];omega),Nat.zero_mul,Nat.zero_add];exact a
  | succ k=>
   rw[List.getElem?_append_right (by rw[hf,Nat.succ_mul];omega),hf,←ih k (ar h) j u (ar a),Nat.succ_mul]
   congr 1;omega
theorem Cg {α:Type} {f:α→List Value} {n:Nat} (hf:∀x,(f x).length=n) (l:List α) {j:Nat} {u:Value} (h:(l.flatMap f)[j]? = some u) :
 ∃(k:Nat) (c:k<l.length) (r:Nat),r<n∧j=k*n+r∧(f l[k])[r]? = some u:=by
 have a:=(List.getElem?_eq_some_iff.1 h).1;rw[iH hf] at a
 have i:0<n:=by
  rcases Nat.eq_zero_or_pos n with b | b
  · subst b;simp at a
  · exact b
 have c:j / n<l.length:=(Nat.div_lt_iff_lt_mul i).2 (by rw[Nat.mul_comm];exact a);have hr:j % n<n:=Nat.mod_lt _ i
 have e:j=j / n*n+j % n:=by rw[Nat.mul_comm];exact(Nat.div_add_mod j n).symm
 refine⟨j / n,c,j % n,hr,e,?_⟩;have d:(f l[j / n])[j % n]? = some ((f l[j / n])[j % n]'(by rw[hf];exact hr)):=List.getElem?_eq_getElem _;have g:=AF hf l _ c _ _ d;rw[←e,h] at g;rw[d,←g]
theorem mP {H:Type} {enc:TypeId × Value→H} {P:Program} {W:World} {t e:TypeId} {z:Nat} {E:List Value} {V:DataW H × List MemPlace}
 {α:Type} (f:α→List Value) (n:Nat) (hf:∀x,(f x).length=n) (G:α→Prop) (ht:P.underlying t=some (.slice e)) (hC:P.cellsOf e=n)
 (C:∀(F:Nat) (cs:List Value) (x:DataW H × List MemPlace),cs.length=n→DataW.trod enc P W 0 (fun _=>true) true F e cs=some x→∃y,cs=f y∧G y)
 (L:DataW.trod enc P W 0 (fun _=>true) true z t E=some V) :
 ∃(A:Option Addr) (c:Nat) (l:List α),E=[.slice A l.length c]∧l.length≤maxLen∧Rd W W.heap.size A (l.flatMap f)∧∀x∈l,G x:=by
 rcases Go.Deep.open_slice ht L with ⟨w,_⟩ | ⟨a,len,cap,m,k,D,Pl,w,_,hl,hm,hmm,_,hx⟩
 · exact⟨none,0,[],w,Nat.zero_le _,Rd.nil _ _ _,fun x hx=>absurd hx (List.not_mem_nil)⟩
 · obtain⟨d,rfl⟩:∃n,n=len:=⟨_,rfl⟩
   obtain⟨v,rfl⟩:∃n,n=cap:=⟨_,rfl⟩;subst w;rw[if_pos rfl] at hmm;rw[hC] at hx
   have p:∀i,i<d→∃y:α,G y∧∀j,j<n→W.cell? ((a.add (i*n)).add j)=(f y)[j]?:=by
    intro i s;obtain⟨cs',B,K⟩:=hx i ab;obtain⟨_,g,M⟩:=World.cells?_some B;obtain⟨y,rfl,N⟩:=C _ _ _ g K;exact⟨y,N,M⟩
   by_cases I:d=0
   · subst I
     exact⟨some a,v,[],rfl,Nat.zero_le _,Rd.nil _ _ _,fun x hx=>absurd hx (List.not_mem_nil)⟩
   · obtain⟨R,_,_⟩:=p 0 ab
     have Q:Nonempty α:=⟨R⟩
     obtain⟨q,O⟩:=Classical.axiomOfChoice (r:=fun (i:Nat) (y:α)=>i<d→G y∧∀j,j<n→W.cell? ((a.add (i*n)).add j)=(f y)[j]?) (fun i=>by
      by_cases s:i<d
      · obtain⟨y,N⟩:=p i s;exact⟨y,fun _=>N⟩
      · exact⟨R,fun h=>absurd h s⟩)
     have g:((List.range d).map q).length=d:=by rw[List.length_map,List.length_range]
     refine⟨some a,v,(List.range d).map q,by rw[g],by rw[g];omega,?_,?_⟩
     · intro j u X
       obtain⟨i,s,J,hr,rfl,S⟩:=Cg hf _ X;rw[g] at s;have B:=(O i s).2 J hr;rw[List.getElem_map,List.getElem_range] at S;rw[S] at B;obtain⟨b,o,sp⟩:=a
       have T:sp=none:=by
        have I:=(O 0 ab).2 0 ab;rw[List.getElem?_eq_getElem (by rw[hf];omega)] at I;have:=World.cell?_spot I
        simpa [Addr.add] using this
       subst T
       have U:((⟨b,o,none⟩:Addr).add (i*n)).add J=⟨b,o+(i*n+J),none⟩:=by
        unfold Addr.add
        by_cases Y:i*n=0<;>by_cases Z:J=0<;>simp[Y,Z,Nat.add_assoc]
       rw[U] at B;exact⟨b,o,rfl,block_lt_of_cell B,B⟩
     · intro x hx
       obtain⟨i,s,rfl⟩:=List.mem_map.1 hx;exact(O i (List.mem_range.1 s)).1
theorem tT {H:Type} {enc:TypeId × Value→H} {P:Program} {W:World} {r:Reach} {c:Nat} {t:TypeId} {k:Array Field} {v:Value} {d:DataW H} {p:List MemPlace}
 {α:Type} (f:α→List Value) (n:Nat) (G:α→Prop) (ht:P.underlying t=some (.struct k)) (j:P.cellsOf t=n)
 (b:∀(a:Nat) (cs:List Value) (x:DataW H × List MemPlace),cs.length=n→DataW.trod enc P W 0 (fun _=>true) true a t cs=some x→∃y,cs=f y∧G y)
 (m:Value.okWide P W r c t v) (h:DataW.Trod enc P W 0 (fun _=>true) true t v d p):∃y,v=.agg (f y).toArray∧G y:=by
 obtain⟨cs,rfl,e⟩:=okWide_struct ht m;obtain⟨a,g⟩:=h;obtain⟨y,l,i⟩:=b _ _ _ (by show cs.toList.length=n;rw[Array.length_toList];exact e.trans j) g
 have:cs=(f y).toArray:=by apply Array.toList_inj.1;exact l
 exact⟨y,by rw[this],i⟩
open Go.RowKit
theorem bn (n lo hi:Int) (w:World) :
 Calls Tryz.prog 152 #[.int .i64 n,.int .i64 lo,.int .i64 hi] w fun e w'=>e=.returned (.bool (bD n lo hi))∧w=w':=by
 by_cases h:lo≤n
 · go_enter Tryz.func152,Tryz.ntmps152
   go_wp2
   go_ret
   exact⟨by simp[bD,h],rfl⟩
 · go_enter Tryz.func152,Tryz.ntmps152
   go_wp2
   go_ret
   exact⟨by simp[bD];omega,rfl⟩
theorem cG (n lo hi:Int) (w:World) :
 Calls Tryz.prog 164 #[.int .i64 n,.int .i64 lo,.int .i64 hi] w fun e w'=>e=.returned (.bool (bD n lo hi))∧w=w':=by
 by_cases h:lo≤n
 · go_enter Tryz.func164,Tryz.ntmps164
   go_wp2
   go_ret
   exact⟨by simp[bD,h],rfl⟩
 · go_enter Tryz.func164,Tryz.ntmps164
   go_wp2
   go_ret
   exact⟨by simp[bD];omega,rfl⟩
theorem ca (n lo hi:Int) (w:World) :
 Calls Tryz.prog 62 #[.int .i64 n,.int .i64 lo,.int .i64 hi] w fun e w'=>e=.returned (.bool (bD n lo hi))∧w=w':=by
 by_cases h:lo≤n
 · go_enter Tryz.func62,Tryz.ntmps62
   go_wp2
   go_ret
   exact⟨by simp[bD,h],rfl⟩
 · go_enter Tryz.func62,Tryz.ntmps62
   go_wp2
   go_ret
   exact⟨by simp[bD];omega,rfl⟩
theorem aE (ok:Bool) (e:Int) (w:World) :
 Calls Tryz.prog 151 #[.bool ok,.int .i64 e] w fun e' w'=>e'=.returned (.int .i64 (bF ok e))∧w=w':=by
 cases ok
 · go_enter Tryz.func151,Tryz.ntmps151
   go_wp2
   go_ret
   exact⟨rfl,rfl⟩
 · go_enter Tryz.func151,Tryz.ntmps151
   go_wp2
   go_ret
   exact⟨rfl,rfl⟩
theorem aH (ok:Bool) (e:Int) (w:World) :
 Calls Tryz.prog 163 #[.bool ok,.int .i64 e] w fun e' w'=>e'=.returned (.int .i64 (bF ok e))∧w=w':=by
 cases ok
 · go_enter Tryz.func163,Tryz.ntmps163
   go_wp2
   go_ret
   exact⟨rfl,rfl⟩
 · go_enter Tryz.func163,Tryz.ntmps163
   go_wp2
   go_ret
   exact⟨rfl,rfl⟩
theorem aW (ok:Bool) (e:Int) (w:World) :
 Calls Tryz.prog 64 #[.bool ok,.int .i64 e] w fun e' w'=>e'=.returned (.int .i64 (bF ok e))∧w=w':=by
 cases ok
 · go_enter Tryz.func64,Tryz.ntmps64
   go_wp2
   go_ret
   exact⟨rfl,rfl⟩
 · go_enter Tryz.func64,Tryz.ntmps64
   go_wp2
   go_ret
   exact⟨rfl,rfl⟩
theorem jC (b o:Nat) (es:List Int) (w:World) (hlen:es.length≤100)
 (hc:∀k (_:k<es.length),w.cell? ⟨b,o+k,none⟩=some (.int .i64 es[k])) :
 Calls Tryz.prog 143 #[.slice (some ⟨b,o,none⟩) es.length es.length] w fun e w'=>e=.returned (.int .i64 (aw es))∧w=w':=by
 go_enter Tryz.func143,Tryz.ntmps143
 go_wp2
 go_loop [7] (fun i=>∃k:Nat,k≤es.length∧i=.int .i64 k∧aw es=aw (es.drop k)) (fun i=>es.length-(intOf i).toNat)
 case atStart=>exact⟨0,Nat.zero_le _,rfl,rfl⟩
 case round=>
  obtain⟨k,hk,rfl,hf⟩:=hrel;have HF:=Lib.hid hf;clear hf;by_cases hlt:k<es.length
  · have hck:=hc k hlt
    have hd:es.drop k=es[k]::es.drop (k+1):=List.drop_eq_getElem_cons hlt;have HD:=Lib.hid hd;clear hd hc;by_cases h0:es[k]=0
    · have h0':(es[k] != 0)=false:=by simp[h0]
      have H0:=Lib.hid h0;clear h0
      go_wp2
      go_round
      case rel=>exact⟨k+1,by omega,by go_num,by rw[HF.out,HD.out];simp[aw,H0.out]⟩
      case measure=>simp[intOf];omega
    · have h0':(es[k] != 0)=true:=by simp[h0]
      have H0:=Lib.hid h0;clear h0
      go_wp2
      go_ret
      exact⟨by rw[HF.out,HD.out];simp[aw,H0.out],rfl⟩
  · go_wp2
    go_ret
    exact⟨by rw[HF.out,List.drop_of_length_le ab];rfl,rfl⟩
theorem ft (b o:Nat) (es:List Int) (w:World) (hlen:es.length≤100)
 (hc:∀k (_:k<es.length),w.cell? ⟨b,o+k,none⟩=some (.int .i64 es[k])) :
 Calls Tryz.prog 160 #[.slice (some ⟨b,o,none⟩) es.length es.length] w fun e w'=>e=.returned (.int .i64 (aw es))∧w=w':=by
 go_enter Tryz.func160,Tryz.ntmps160
 go_wp2
 go_loop [7] (fun i=>∃k:Nat,k≤es.length∧i=.int .i64 k∧aw es=aw (es.drop k)) (fun i=>es.length-(intOf i).toNat)
 case atStart=>exact⟨0,Nat.zero_le _,rfl,rfl⟩
 case round=>
  obtain⟨k,hk,rfl,hf⟩:=hrel;have HF:=Lib.hid hf;clear hf;by_cases hlt:k<es.length
  · have hck:=hc k hlt
    have hd:es.drop k=es[k]::es.drop (k+1):=List.drop_eq_getElem_cons hlt;have HD:=Lib.hid hd;clear hd hc;by_cases h0:es[k]=0
    · have h0':(es[k] != 0)=false:=by simp[h0]
      have H0:=Lib.hid h0;clear h0
      go_wp2
      go_round
      case rel=>exact⟨k+1,by omega,by go_num,by rw[HF.out,HD.out];simp[aw,H0.out]⟩
      case measure=>simp[intOf];omega
    · have h0':(es[k] != 0)=true:=by simp[h0]
      have H0:=Lib.hid h0;clear h0
      go_wp2
      go_ret
      exact⟨by rw[HF.out,HD.out];simp[aw,H0.out],rfl⟩
  · go_wp2
    go_ret
    exact⟨by rw[HF.out,List.drop_of_length_le ab];rfl,rfl⟩
theorem gR (b o:Nat) (es:List Int) (w:World) (hlen:es.length≤100)
 (hc:∀k (_:k<es.length),w.cell? ⟨b,o+k,none⟩=some (.int .i64 es[k])) :
 Calls Tryz.prog 63 #[.slice (some ⟨b,o,none⟩) es.length es.length] w fun e w'=>e=.returned (.int .i64 (aw es))∧w=w':=by
 go_enter Tryz.func63,Tryz.ntmps63
 go_wp2
 go_loop [7] (fun i=>∃k:Nat,k≤es.length∧i=.int .i64 k∧aw es=aw (es.drop k)) (fun i=>es.length-(intOf i).toNat)
 case atStart=>exact⟨0,Nat.zero_le _,rfl,rfl⟩
 case round=>
  obtain⟨k,hk,rfl,hf⟩:=hrel;have HF:=Lib.hid hf;clear hf;by_cases hlt:k<es.length
  · have hck:=hc k hlt
    have hd:es.drop k=es[k]::es.drop (k+1):=List.drop_eq_getElem_cons hlt;have HD:=Lib.hid hd;clear hd hc;by_cases h0:es[k]=0
    · have h0':(es[k] != 0)=false:=by simp[h0]
      have H0:=Lib.hid h0;clear h0
      go_wp2
      go_round
      case rel=>exact⟨k+1,by omega,by go_num,by rw[HF.out,HD.out];simp[aw,H0.out]⟩
      case measure=>simp[intOf];omega
    · have h0':(es[k] != 0)=true:=by simp[h0]
      have H0:=Lib.hid h0;clear h0
      go_wp2
      go_ret
      exact⟨by rw[HF.out,HD.out];simp[aw,H0.out],rfl⟩
  · go_wp2
    go_ret
    exact⟨by rw[HF.out,List.drop_of_length_le ab];rfl,rfl⟩
theorem cE {W a:World} (c:Below W.heap.size W a):(∀b o,b<W.heap.size→a.cell? ⟨b,o,none⟩=W.cell? ⟨b,o,none⟩)∧(∀b o,b<W.heap.size→a.frozen? ⟨b,o,none⟩=W.frozen? ⟨b,o,none⟩):=
 ⟨fun b o h=>c.cell (p:=⟨b,o,none⟩) h,fun b o h=>c.frozen (p:=⟨b,o,none⟩) h⟩
theorem bH (es:List Int) (w:World) (a:es.length≤100) :
 Calls Tryz.prog 143 #[.slice (some ⟨w.heap.size,0,none⟩) es.length es.length] (w.alloc (.cells (es.map (Value.int .i64)).toArray 28)) fun e c=>e=.returned (ae (aw es))∧w.alloc (.cells (es.map (Value.int .i64)).toArray 28)=c:=
 jC _ _ es _ a fun k b=>by simp[b]
theorem bu (n lo hi:Int) (w:World) :
 Calls Tryz.prog 74 #[.int .i64 n,.int .i64 lo,.int .i64 hi] w fun e w'=>e=.returned (.bool (bD n lo hi))∧w=w':=by
 by_cases h:lo≤n
 · go_enter Tryz.func74,Tryz.ntmps74
   go_wp2
   go_ret
   exact⟨by simp[bD,h],rfl⟩
 · go_enter Tryz.func74,Tryz.ntmps74
   go_wp2
   go_ret
   exact⟨by simp[bD];omega,rfl⟩
end Go.Proofs.YtcfdpfmchchkaaaGreatDoor
