/-
  Plain words for numbers, strings and sums: what the functions of chapter 1 compute. No program in sight.
  Laws of my own over any program: append of one element, append of what a slice reads as, copies of owned rows.
  Regions that draw their order: what comes first only reads and calls functions that keep all old memory; what stands last (a store, a new slice, a call on it) comes last in whatever order. One walk in the order of the text serves all orders.
  Regions that draw their order, among whose operations one lays a new block whenever it likes ('x := f(..)', x in a block of its own): whatever comes first only reads and calls functions that keep all old memory; what stands behind the new block comes last, in order. One walk serves all orders.
-/
import Derived.Below
import Derived.RowKit
import Derived.Laws.BitsLemmas
import Derived.Lib.Hide
import Derived.Deep.Draws
import Derived.Maps.AppendAt
import Derived.OwnWalk
import Derived.WalkKit
import Derived.StillTail
import Derived.BigQuiet
import Derived.Lib.QuietBelow
namespace Go.Proofs.YtcfdpfmchchkaaaGreatDoor
open Go.RowKit
theorem aa {P:Prop} (h:P:=by kernel_rfl):P:=h
theorem br {α β:Sort _} {p:α→β→Prop} (h:∀a b,p a b:=by intro _ _;kernel_rfl):∀a b,p a b:=h
theorem ab {P:Prop} (h:P:=by omega):P:=h
theorem aq {P:Prop} (h:P:=by decide):P:=h
theorem DQ {P:Prop} (h:P:=by assumption):P:=h
theorem a6 {P:Prop} (h:P:=by simp):P:=h
theorem bW {P:Prop} (h:P:=by repeat (first | exact trivial | refine⟨rfl,?_⟩)):P:=h
abbrev gB (n:Nat):List Bool:=List.replicate n false
theorem dt {k:IntKind} {a b:Int} (h:a=b):Ending.returned (.int k a)=.returned (.int k b):=by rw[h]
theorem DP {a b:Bool} (h:a=b):Ending.returned (.bool a)=.returned (.bool b):=by rw[h]
theorem DB {k:IntKind} {a b:ByteArray} {c d:Int} (h:a=b) (h':c=d):Ending.returned (.tuple #[.string a,.int k c])=.returned (.tuple #[.string b,.int k d]):=by rw[h,h']
def bm (n lo hi:Int):Bool:=decide (lo≤n)&&decide (n≤hi)
theorem inB_true {n lo hi:Int}:bm n lo hi=true↔lo≤n∧n≤hi:=by simp[bm]
theorem eZ {n lo hi:Int}:bm n lo hi=false↔¬(lo≤n∧n≤hi):=by simp[bm]
def aS (ok:Bool) (e:Int):Int:=if ok then 0 else e
theorem kA (e:Int):aS true e=0:=rfl
def au:List Int→Int
 | []=>0
 | e::l=>if e=0 then au l else e
abbrev bl (s:ByteArray):List UInt8:=s.data.toList
def bs (l:List UInt8):ByteArray:=⟨l.toArray⟩
theorem Cu (l:List UInt8):bl (bs l)=l:=rfl
theorem Cr (s:ByteArray):bs (bl s)=s:=rfl
theorem gn (l:List UInt8):(bs l).size=l.length:=rfl
theorem aW (s:ByteArray):(bl s).length=s.size:=rfl
theorem jS {s t:ByteArray} (h:bl s=bl t):s=t:=by rw[←Cr s,h,Cr]
theorem ej (s t:ByteArray):bl (s ++ t)=bl s ++ bl t:=by simp
theorem bD (s:ByteArray) (a b:Nat):bl (s.extract a b)=((bl s).take b).drop a:=by
 simp[bl,ByteArray.data_extract,Array.toList_extract,List.drop_take]
theorem qe (s:ByteArray) (a c:Nat):bl ((s.extract a s.size).extract 0 c)=((bl s).drop a).take c:=by
 rw[bD,bD,←aW,List.take_length];rfl
def num:List UInt8→Int
 | []=>0
 | b::l=>b.toNat+256*num l
theorem dO:∀l:List UInt8,0≤num l∧num l<256 ^ l.length
 | []=>by simp[num]
 | b::l=>by
  obtain⟨h1,h2⟩:=dO l;have hb:b.toNat<256:=b.toNat_lt;simp only[num,List.length_cons,Int.pow_succ];omega
def lit (n:Int):Nat→List UInt8
 | 0=>[]
 | c+1=>UInt8.ofNat (n % 256).toNat::lit (n / 256) c
theorem jF (n:Int) (c:Nat):(lit n c).length=c:=by
 induction c generalizing n with
 | zero=>rfl
 | succ c ih=>simp[lit,ih]
def AE (n:Int) (c:Int):Int:=(n*2 % 2147483648+n / 1073741824+c) % 2147483648
def DW (l:List UInt8) (n:Int):Int:=l.foldl (fun n b=>AE n b.toNat) n
theorem oE (j:Nat) (hj:j≤63) (n:Int) (h₀:0≤n) (h₁:n<2 ^ j):IntKind.i64.wrap n=n:=by
 have Y:(2:Int) ^ j≤2 ^ 63:=by
  have:(2:Nat) ^ j≤2 ^ 63:=Nat.pow_le_pow_right aq hj
  exact_mod_cast this
 have Y:(2:Int) ^ 63=9223372036854775808:=by decide
 rw[IntKind.wrap_i64];omega
theorem vp (s:ByteArray) (k:Nat) (h:k<s.size):(bl s).drop k=s[k]::(bl s).drop (k+1):=List.drop_eq_getElem_cons (l:=bl s) h
theorem vu (n:Nat) (h:n≤6):(256:Int) ^ n≤281474976710656:=by
 have:n=0∨n=1∨n=2∨n=3∨n=4∨n=5∨n=6:=by omega
 rcases this with rfl | rfl | rfl | rfl | rfl | rfl | rfl<;>decide
theorem AS (l:List UInt8) (h:l.length≤6):num l<281474976710656:=Int.lt_of_lt_of_le (dO l).2 (vu _ h)
theorem xM (k:Nat):(2:Int) ^ (8*k)=256 ^ k:=by rw[Int.pow_mul];rfl
def bA (b:UInt8):Value:=.int .u8 b.toNat
theorem xd (n:Int):bA (UInt8.ofNat (n % 256).toNat)=.int .u8 (n % 256):=by
 have Y:0≤n % 256:=Int.emod_nonneg _ aq;have Y:n % 256<256:=Int.emod_lt_of_pos _ aq;unfold bA
 congr 1
 simp[UInt8.toNat_ofNat'];omega
theorem y9 (n:Int) (k:Nat):lit n (k+1)=lit n k ++ [UInt8.ofNat (n / 256 ^ k % 256).toNat]:=by
 induction k generalizing n with
 | zero=>simp[lit]
 | succ k ih=>
  have:lit n (k+1+1)=UInt8.ofNat (n % 256).toNat::lit (n / 256) (k+1):=rfl;rw[this,ih,Int.pow_succ,Int.mul_comm,←Int.ediv_ediv_of_nonneg aq]
  rfl
theorem kU {a w:World} (h:Below a.heap.size a w) (n:Nat):Below a.heap.size a (w.drewN n):=⟨h.os,h.tape,h.output,h.size,h.block⟩
theorem aV {a w:World} (h:Below a.heap.size a w) (o:Obj):Below a.heap.size a (w.alloc o):=h.alloc h.size o
theorem aZ {a b c:World} (h:Below a.heap.size a b) (k:Below b.heap.size b c):Below a.heap.size a c:=h.trans (k.mono h.size)
theorem bu {P:Prop} (h:P:=by repeat (first | assumption | exact Below.refl _ _ | refine kU ?_ _ | refine aV ?_ _ | refine aZ ?_ (by assumption) | refine Below.trans ?_ (by assumption))):P:=h
def Rd (w:World) (B:Nat) (A:Option Addr) (xs:List Value):Prop:=∀j u,xs[j]? = some u→∃b o,A=some ⟨b,o,none⟩∧b<B∧w.cell? ⟨b,o+j,none⟩=some u
theorem Rd.below {w w':World} {B:Nat} {A:Option Addr} {xs:List Value} (h:Rd w B A xs) (hb:Below B w w'):Rd w' B A xs:=fun j u hj=>by
 obtain⟨b,o,hA,hB,hc⟩:=h j u hj;exact⟨b,o,hA,hB,(hb.cell (p:=⟨b,o+j,none⟩) hB).trans hc⟩
theorem Rd.mono {w:World} {B B':Nat} {A:Option Addr} {xs:List Value} (h:Rd w B A xs) (hB:B≤B'):Rd w B' A xs:=fun j u hj=>by
 obtain⟨b,o,hA,hb,hc⟩:=h j u hj;exact⟨b,o,hA,by omega,hc⟩
theorem Rd.below' {w w':World} {A:Option Addr} {xs:List Value} (h:Rd w w.heap.size A xs) (hb:Below w.heap.size w w'):Rd w' w'.heap.size A xs:=(h.below hb).mono hb.size
theorem Rd.nil (w:World) (B:Nat) (A:Option Addr):Rd w B A []:=fun j u hj=>by simp at hj
theorem Rd.opened {w:World} {B:Nat} {A:Option Addr} {xs:List Value} (h:Rd w B A xs) (hne:0<xs.length) :
 ∃b o,A=some ⟨b,o,none⟩∧b<B∧∀j u,xs[j]? = some u→w.cell? ⟨b,o+j,none⟩=some u:=by
 obtain⟨b,o,hA,hB,_⟩:=h 0 xs[0] (List.getElem?_eq_getElem hne);refine⟨b,o,hA,hB,fun j u hj=>?_⟩;obtain⟨b',o',hA',_,hc⟩:=h j u hj;rw[hA] at hA';injection hA' with e;injection e with e1 e2;subst e1 e2;exact hc
theorem Rd.of_own {w:World} {base:Nat} {e:TypeId} {size n c:Nat} {A:Option Addr} {xs:List Value} (h:w.ownsRow base e size (.slice A n c) n xs):Rd w w.heap.size A xs:=fun j u hj=>by
 have hl:=h.1;have hj':j<xs.length:=(List.getElem?_eq_some_iff.1 hj).1;rcases h.2 with ⟨h',h0⟩ | ⟨g,cap,cur,h',_,hg,_⟩
 · rw[h0] at hl;omega
 · injection h' with h1 h2 h3
   subst h1 h3;refine⟨g,0,rfl,?_,?_⟩
   · rcases Nat.lt_or_ge g w.heap.size with h4 | h4
     · exact h4
     · rw[Array.getElem?_eq_none h4] at hg;cases hg
   · rw[Nat.zero_add,h.cellAt j ab];exact hj
def cP {α:Type} (f:Nat→α→Int):Nat→List α→Int × Int
 | _,[]=>(0,0)
 | i,x::l=>if f i x=0 then cP f (i+1) l else (i,f i x)
theorem jQ {α:Type} (f:Nat→α→Int):∀(l:List α) (i:Nat),(cP f i l).2=0→∀j (h:j<l.length),f (i+j) l[j]=0
 | [],_,_,j,h=>absurd h a6
 | x::l,i,h0,j,h=>by
  unfold cP at h0
  split at h0
  · rename_i hx
    cases j with
    | zero=>exact hx
    | succ j=>
     have:=jQ f l (i+1) h0 j (by simpa using h);rw[show i+(j+1)=i+1+j by omega];exact this
  · rename_i hx
    exact absurd h0 hx
open Go.RowKit
section
variable {P:Program} {ops:Array Oper} {rest:List Oper} {o:Oper} {a:Act} {Q:Exit→Act→World→Prop}
theorem oq (w:World) (base:Nat) (t ty e:TypeId) (i:TypeInfo) (z:Value) (size bytes:Nat) (ht:P.underlying t=some (.slice e)) (hi:P.info? e=some i) (hz:i.zero=some z)
 (hsize:i.size=size) (hby:i.bytes=bytes) (hzs:z.cells.size=size) (hsz:0<size)
 (v:Value) (n:Nat) (xs:List Value) (hown:w.ownsRow base e size v n xs)
 (B:Nat) (A:Option Addr) (m c:Nat) (news:List Value) (hl:news.length=m*size) (hr:Rd w B A news) (h1:∀u∈news,u.oneCell'=true)
 (Za:n+m≤maxLen) (hbytes:(n+m)*bytes≤140737488355328) (hbase:base≤w.heap.size) :
 ∃v' w',(Builtin.append_ #[t,t] ty #[v,.slice A m c]).run P w=.ok v' w'∧w'.ownsRow base e size v' (n+m) (xs ++ news)∧w.grownBy w' v.ownBlock ∧
  (v'.ownBlock=v.ownBlock∨v'.ownBlock=some w.heap.size):=by
 rcases A with _ | ad
 · have hm:news=[]:=by
    rcases news with _ | ⟨u,l⟩
    · rfl
    · obtain⟨b,o,h,_⟩:=hr 0 u rfl
      cases h
   subst hm
   have hm0:m=0:=by
    rcases Nat.eq_zero_or_pos m with h | h
    · exact h
    · have:=Nat.mul_pos h hsz
      simp at hl;omega
   subst hm0;refine⟨v,w,?_,by simpa using hown,World.grownBy.refl w _,.inl rfl⟩;rcases hown.2 with ⟨rfl,rfl⟩ | ⟨g,cap,cur,rfl,_,_,hnc,_⟩
   · simp[Builtin.append_,run_underlying ht,sizeOf,typeInfo,hi,Builtin.lenOf,Builtin.firstCells]
   · simp[Builtin.append_,run_underlying ht,sizeOf,typeInfo,hi,Builtin.lenOf,Builtin.firstCells,hnc,storeCells]
 · have hcells:∀j u,news[j]? = some u→w.cell? (ad.add j)=some u:=fun j u hj=>by
    obtain⟨b,o,h,_,hc⟩:=hr j u hj;injection h with h;subst h
    have:(⟨b,o,none⟩:Addr).add j=⟨b,o+j,none⟩:=by unfold Addr.add;split<;>simp_all
    rw[this];exact hc
   obtain⟨v',w',hrun,h2,h3,_,h5⟩:=run_append_own_at (P:=P) w base t ty e i z size bytes ht hi hz hsize hby hzs hsz v n xs hown ad m c news hl hcells h1 Za hbytes hbase;exact⟨v',w',hrun,h2,h3,h5⟩
end
theorem ownsRow_form {w:World} {base:Nat} {e:TypeId} {size n:Nat} {v:Value} {xs:List Value} (h:w.ownsRow base e size v n xs):∃A c,v=.slice A n c∧Rd w w.heap.size A xs:=by
 rcases h.2 with ⟨rfl,rfl⟩ | ⟨g,cap,cur,rfl,_⟩
 · exact⟨none,0,rfl,Rd.of_own h⟩
 · exact⟨_,cap,rfl,Rd.of_own h⟩
theorem cm {w:World} {base base':Nat} {e:TypeId} {size n:Nat} {v:Value} {xs:List Value} (h:w.ownsRow base e size v n xs) (hb:base'≤base):w.ownsRow base' e size v n xs:=by
 refine⟨h.1,?_⟩;rcases h.2 with h' | ⟨g,cap,cur,h1,h2,h3⟩
 · exact .inl h'
 · exact .inr ⟨g,cap,cur,h1,by omega,h3⟩
theorem gz {w w':World} {base:Nat} {e:TypeId} {size n:Nat} {v:Value} {xs:List Value} (h:w.ownsRow base e size v n xs) (hb:Below w.heap.size w w'):w'.ownsRow base e size v n xs:=by
 refine⟨h.1,?_⟩;rcases h.2 with h' | ⟨g,cap,cur,h1,h2,h3,h4⟩
 · exact .inl h'
 · refine .inr ⟨g,cap,cur,h1,h2,?_,h4⟩
   have:g<w.heap.size:=by
    rcases Nat.lt_or_ge g w.heap.size with h5 | h5
    · exact h5
    · rw[Array.getElem?_eq_none h5] at h3;cases h3
   rw[hb.block g this];exact h3
open Go.RowKit Go.Sort
section
variable {P:Program} {ops:Array Oper} {md:Region.Mode} {C:World→Prop}
def j4 (P:Program) (md:Region.Mode) (ops:Array Oper) (C:World→Prop) (n:Nat) (L:Array Bool→Act→Prop):Nat→Array Bool→Act→Prop
 | 0,listed,a=>L listed a
 | f+1,listed,a=>Region.ready md ops listed≠[]∧∀i∈Region.ready md ops listed,i<n∧qOp P ops C i (j4 P md ops C n L f (listed.setIfInBounds i true)) a
theorem gK {n g:Nat} {L:Array Bool→Act→Prop} {Q:Exit→Act→World→Prop} (hL:∀listed a w,C w→L listed a→wpAny P md ops Q g listed a w) :
 ∀(f:Nat) (listed:Array Bool) (a:Act) (w:World),C w→j4 P md ops C n L f listed a→wpAny P md ops Q (f+g) listed a w
 | 0,listed,a,w,hw,h=>by rw[Nat.zero_add];exact hL _ _ _ hw h
 | f+1,listed,a,w,hw,h=>by
  rw[Nat.succ_add];exact⟨fun h0=>absurd h0 h.1,fun i hi=>wpOp_of_qOp hw (fun a' w' hw' h'=>gK hL f _ a' w' hw' h') (h.2 i hi).2⟩
theorem nW {n i:Nat} {oi:Oper} {v:Value} {L:Array Bool→Act→Prop} (hi:ops[i]? = some oi) (hsel:∀(j:Nat) (o:Oper) cs b,ops[j]? = some o→o.op≠.select cs b)
 (hs:Region.sinkB md ops n=true) (hc:Region.chainB md ops n=true) (hn:n<ops.size) (hin:i<n)
 (hdone:∀listed a,L listed a→∀j∈Region.ready md ops listed,n≤j) :
 ∀(f:Nat) (listed:Array Bool) (a:Act),HeadInv md ops n listed →
  (∀j oj,ops[j]? = some oj→j≠i→listed.getD j true=false→(∀e∈oj.after,Region.binds md e=true→e.on≠i)→oi.apart ops oj=true) →
  i∈Region.ready md ops listed→YieldsIn P ops C oi v a →
  j4 P md ops C n L f (listed.setIfInBounds i true) (a.put oi.dst v)→j4 P md ops C n L (f+1) listed a:=by
 intro f
 induction f with
 | zero=>
  intro listed a inv _ hr hy H;have hun:=(mem_ready.1 hr).1;refine⟨List.ne_nil_of_mem hr,fun j hj=>?_⟩;have hjn:j<n:=Nat.lt_of_not_le fun h=>tail_waits hs hc hn inv _ i rfl hin hun j h hj;refine⟨hjn,?_⟩;by_cases hji:j=i
  · subst hji;exact hy.qOp hi H
  · exact absurd (hdone _ _ H j (ready_mono hj hji)) ab
 | succ f ih=>
  intro listed a inv hfree hr hy H;have hun:=(mem_ready.1 hr).1;refine⟨List.ne_nil_of_mem hr,fun j hj=>?_⟩;have hjn:j<n:=Nat.lt_of_not_le fun h=>tail_waits hs hc hn inv _ i rfl hin hun j h hj;refine⟨hjn,?_⟩;by_cases hji:j=i
  · subst hji;exact hy.qOp hi H
  · have h1:=(H.2 j (ready_mono hj hji)).2
    obtain⟨hjun,oj,hoj,hall⟩:=mem_ready.1 hj
    have hnot:∀e∈oj.after,Region.binds md e=true→e.on≠i:=fun e he hb heq=>by
     have h2:=hall e he hb;rw[heq,getD_both hun] at h2
     cases h2
    have h2:=qOp_put hoj (hfree j oj hoj hji hjun hnot) (fun cs b=>hsel i oi cs b hi) (fun cs b=>hsel j oj cs b hoj) hy h1
    have hfree':∀k ok,ops[k]? = some ok→k≠i→(listed.setIfInBounds j true).getD k true=false →
     (∀e∈ok.after,Region.binds md e=true→e.on≠i)→oi.apart ops ok=true:=fun k ok hk hki hun' hno=>by
     refine hfree k ok hk hki ?_ hno;by_cases hjk:j=k
     · subst hjk;exact hjun
     · rw[getD_set_ne true hjk] at hun';exact hun'
    refine qOp_mono (fun a' h3=>ih (listed.setIfInBounds j true) a' (inv.set hj hjn) hfree' (ready_mono hr (Ne.symm hji)) h3.1 ?_) h2;rw[Array.setIfInBounds_comm _ _ hji];exact h3.2
theorem lK {n g:Nat} {Lq:Act→Prop} (hsel:Region.noSelect ops=true) (hs:Region.sinkB md ops n=true) (hc:Region.chainB md ops n=true) (hn:n<ops.size) :
 ∀(l:List Oper) (k:Nat) (listed:Array Bool) (a:Act),(∀j,j<l.length→l[j]? = ops[k+j]?)→k+l.length=n→HeadInv md ops n listed →
 Region.lexHead md ops g l.length k listed=true→wpQuiet P ops C Lq l a →
 j4 P md ops C n (fun listed' a'=>Region.seqB md ops g n listed'=true∧Lq a') l.length listed a
 | [],k,listed,a,_,hk,_,hB,h=>by
  obtain rfl:k=n:=by simpa using hk
  exact⟨by simpa [Region.lexHead] using hB,h⟩
 | o::l,k,listed,a,hl,hk,inv,hB,h=>by
  have h0:ops[k]? = some o:=by simpa using (hl 0 a6).symm
  simp only[List.length_cons,Region.lexHead,Bool.and_eq_true] at hB;obtain⟨⟨hr,hf⟩,hB'⟩:=hB
  have hkn:k<n:=by simp only[List.length_cons] at hk;omega
  have hr':k∈Region.ready md ops listed:=by simpa using hr
  have hst:qOp P ops C k (wpQuiet P ops C Lq l) a:=by unfold qOp;simp only[h0];exact h
  obtain⟨v,hy,hK⟩:=yieldsIn_of_qOp h0 hst
  exact nW h0 (Region.noSelect_spec hsel) hs hc hn hkn (fun listed' a' hL=>seqB_ready hL.1) l.length listed a inv (Region.free_spec h0 hf) hr' hy
   (lK hsel hs hc hn l (k+1) _ _ (fun j hj=>by have:=hl (j+1) (by simp;omega);simpa [Nat.add_assoc,Nat.add_comm 1 j] using this) (by simp only[List.length_cons] at hk;omega) (inv.set hr' hkn) hB' hK)
theorem l6 {id:Nat} {Q:Exit→Act→World→Prop} {a:Act} {w:World} {l:List Oper} (n:Nat) (hm:P.follows .mixedOrders=true) (hB:Region.lexTailB .any l.toArray n=true) (hC:C { w with drawn:=w.drawn+1 })
 (h:wpQuiet P l.toArray C (fun a'=>∀w',C w'→wpList P l.toArray Q (l.drop n) a' w') (l.take n) a):(Code.region id l.toArray true).wp P Q a w:=by
 simp only[Region.lexTailB,Bool.and_eq_true,decide_eq_true_eq] at hB;obtain⟨⟨⟨⟨hsel,hn⟩,hs⟩,hc⟩,hlex⟩:=hB
 have hn':n<l.length:=by simpa using hn
 have htl:(l.take n).length=n:=by simp;omega
 have hdl:(l.drop n).length=l.toArray.size-n:=by simp
 have inv0:HeadInv .any l.toArray n (Array.replicate l.toArray.size false):=
  ⟨by simp,fun j oj _ hl=>(by rw[getD_replicate_false] at hl;cases hl),fun t _ ht=>getD_in (by simpa using ht) (getD_replicate_false _ _)⟩
 have H:=lK (md:=.any) (g:=l.toArray.size-n) hsel hs hc hn (l.take n) 0 _ a (fun j hj=>by
  have hj':j<n:=by rw[htl] at hj;exact hj
  simp[hj']) (by simpa using htl) inv0 (by rw[htl];exact hlex) h
 refine wp_region_any hm ?_
 have:=gK (Q:=Q) (g:=l.toArray.size-n) (fun listed a' w' hw' hL=>by
  have:=wpAny_of_seq (md:=.any) (Q':=Q) (l.drop n) n listed a' w' (fun j=>by simp[List.getElem?_drop]) (by rw[hdl];exact hL.1) (hL.2 w' hw')
  rwa [hdl] at this) _ _ _ _ hC H
 rw[htl,show n+(l.toArray.size-n)=l.toArray.size by omega] at this;exact this
theorem aM {id:Nat} {Q:Exit→Act→World→Prop} {a:Act} {w:World} {l:List Oper} (n:Nat) (hm:P.follows .mixedOrders=true) (hB:Region.lexTailB .any l.toArray n=true)
 (h:wpQuiet P l.toArray (fun w'=>∃p:Regrown,w'=grow (redrawn w p.d) p.os) (fun a'=>∀w',(∃p:Regrown,w'=grow (redrawn w p.d) p.os)→wpList P l.toArray Q (l.drop n) a' w') (l.take n) a):(Code.region id l.toArray true).wp P Q a w:=
 l6 (C:=fun w'=>∃p:Regrown,w'=grow (redrawn w p.d) p.os) n hm hB ⟨⟨w.drawn+1,#[]⟩,by rw[grow_empty];rfl⟩ h
end
theorem aD {w w':World} (h:∃p:Regrown,w'=grow (redrawn w p.d) p.os):Below w.heap.size w w':=by
 obtain⟨p,rfl⟩:=h;exact below_regrown _ _ _
@[go_sem] theorem cell?_reg (w:World) (d:Nat) (os:Array Obj) (b o:Nat) (h:b<w.heap.size):(grow (redrawn w d) os).cell? ⟨b,o,none⟩=w.cell? ⟨b,o,none⟩:=
 (below_regrown w d os).cell (p:=⟨b,o,none⟩) h
theorem Calls.reg_pure {P:Program} {f:FuncId} {args:Array Value} {w:World} {d:Nat} {os:Array Obj} {v:Value}
 (h:Calls P f args (grow (redrawn w d) os) fun e w'=>e=.returned v∧grow (redrawn w d) os=w'):Calls P f args (grow (redrawn w d) os) fun e w''=>e=.returned v∧∃p:Regrown,w''=grow (redrawn w p.d) p.os:=
 h.mono fun _ _ ⟨he,hw⟩=>⟨he,⟨d,os⟩,hw.symm⟩
open Go.RowKit Go.Sort
section
variable {P:Program} {ops:Array Oper} {md:Region.Mode} {w:World}
def Aq (P:Program) (w:World) (s:Sem Next) (v:Value):Prop:=∀X,Below w.heap.size w X→Oper.quietUpon P (fun X'=>Below X.heap.size X X') X v (s.run P X)
def qOpG (P:Program) (ops:Array Oper) (w:World) (i:Nat) (K:Act→Prop) (a:Act):Prop:=
 match ops[i]? with
 | none=>K a
 | some o=>if Region.wanted o (yielded ops a.tmps) then ∃v,Aq P w (execOp a.eval o) v∧K (a.put o.dst v) else K (a.put o.dst undef)
theorem xL {i:Nat} {a:Act} {K K':Act→Prop} (h:∀a,K a→K' a) (hh:qOpG P ops w i K a):qOpG P ops w i K' a:=by
 unfold qOpG at *
 split
 · exact h _ (by simpa [*] using hh)
 · rename_i o ho
   simp only[ho] at hh
   split
   · rename_i hw;simp only[hw,if_true] at hh;obtain⟨v,h1,h2⟩:=hh;exact⟨v,h1,h _ h2⟩
   · rename_i hw;simp only[hw] at hh;exact h _ hh
def YieldsG (P:Program) (ops:Array Oper) (w:World) (o:Oper) (v:Value) (a:Act):Prop:=
 (Region.wanted o (yielded ops a.tmps)=true∧Aq P w (execOp a.eval o) v)∨(Region.wanted o (yielded ops a.tmps)=false∧v=undef)
theorem YieldsG.qOpG {i:Nat} {o:Oper} {v:Value} {a:Act} (hi:ops[i]? = some o) (hy:YieldsG P ops w o v a) {K:Act→Prop} (h:K (a.put o.dst v)):qOpG P ops w i K a:=by
 unfold Proofs.YtcfdpfmchchkaaaGreatDoor.qOpG;simp only[hi];rcases hy with ⟨hw,hv⟩ | ⟨hw,rfl⟩
 · simp only[hw,if_true];exact⟨v,hv,h⟩
 · simp only[hw,Bool.false_eq_true,if_false];exact h
theorem YieldsG.of_same {o:Oper} {v:Value} {a a':Act} (hy:YieldsG P ops w o v a) (he:execOp a'.eval o=execOp a.eval o)
 (hw:Region.wanted o (yielded ops a'.tmps)=Region.wanted o (yielded ops a.tmps)):YieldsG P ops w o v a':=by
 unfold YieldsG at *;rw[he,hw];exact hy
theorem l7 {i:Nat} {o:Oper} {a:Act} {K:Act→Prop} (hi:ops[i]? = some o) (h:qOpG P ops w i K a):∃v,YieldsG P ops w o v a∧K (a.put o.dst v):=by
 unfold qOpG at h;simp only[hi] at h;by_cases hw:Region.wanted o (yielded ops a.tmps)=true
 · simp only[hw,if_true] at h
   obtain⟨v,h1,h2⟩:=h;exact⟨v,.inl ⟨hw,h1⟩,h2⟩
 · simp only[hw] at h
   exact⟨undef,.inr ⟨by simpa using hw,rfl⟩,h⟩
theorem zC {j:Nat} {oi oj:Oper} {v:Value} (hj:ops[j]? = some oj) (hap:oi.apart ops oj=true)
 (hsi:∀cs b,oi.op≠.select cs b) (hsj:∀cs b,oj.op≠.select cs b) {K:Act→Prop} {a:Act}
 (hy:YieldsG P ops w oi v a) (h:qOpG P ops w j K (a.put oi.dst v)) :
 qOpG P ops w j (fun a'=>YieldsG P ops w oi v a'∧K (a'.put oi.dst v)) a:=by
 obtain⟨h1,h2,h3⟩:=Oper.apart_spec hap
 have keep:∀(a:Act),YieldsG P ops w oi v a→∀u,YieldsG P ops w oi v (a.put oj.dst u):=fun a hy u=>
  hy.of_same (execOp_put oi hsi a oj.dst u h3) (wanted_put oi a oj.dst u h3)
 unfold qOpG at *;simp only[hj] at *;rw[wanted_put oj a oi.dst v h1] at h
 split
 · rename_i hw
   simp only[hw,if_true] at h;obtain⟨u,hu,hn⟩:=h;refine⟨u,?_,keep a hy u,by rw[←Act.put_comm a v u h2];exact hn⟩
   rwa [execOp_put oj hsj a oi.dst v h1] at hu
 · rename_i hw
   simp only[hw] at h;exact⟨keep a hy _,by rw[←Act.put_comm a v undef h2];exact h⟩
theorem sX {j:Nat} {oj:Oper} {d:Option Tmp} {u:Value} (hj:ops[j]? = some oj) (h1:∀t,d=some t→t∉oj.looksAt ops) (h2:∀t,d=some t→oj.dst≠some t)
 (hsj:∀cs b,oj.op≠.select cs b) {K K':Act→Prop} {a:Act} (hK:∀a,K a→K' (a.put d u)) (h:qOpG P ops w j K a):qOpG P ops w j K' (a.put d u):=by
 unfold qOpG at *;simp only[hj] at *;rw[wanted_put oj a d u h1,execOp_put oj hsj a d u h1]
 split
 · rename_i hw
   simp only[hw,if_true] at h;obtain⟨v,hv,hn⟩:=h;exact⟨v,hv,by rw[Act.put_comm a u v h2];exact hK _ hn⟩
 · rename_i hw
   simp only[hw] at h;rw[Act.put_comm a u undef h2];exact hK _ h
def lP (P:Program) (md:Region.Mode) (ops:Array Oper) (w:World) (n:Nat) (L:Array Bool→Act→Prop):Nat→Array Bool→Act→Prop
 | 0,listed,a=>L listed a
 | f+1,listed,a=>Region.ready md ops listed≠[]∧∀i∈Region.ready md ops listed,i<n∧qOpG P ops w i (lP P md ops w n L f (listed.setIfInBounds i true)) a
theorem qY {n i:Nat} {oi:Oper} {v:Value} {L:Array Bool→Act→Prop} (hi:ops[i]? = some oi) (hsel:∀(j:Nat) (o:Oper) cs b,ops[j]? = some o→o.op≠.select cs b)
 (hs:Region.sinkB md ops n=true) (hc:Region.chainB md ops n=true) (hn:n<ops.size) (hin:i<n)
 (hdone:∀listed a,L listed a→∀j∈Region.ready md ops listed,n≤j) :
 ∀(f:Nat) (listed:Array Bool) (a:Act),HeadInv md ops n listed →
  (∀j oj,ops[j]? = some oj→j≠i→listed.getD j true=false→(∀e∈oj.after,Region.binds md e=true→e.on≠i)→oi.apart ops oj=true) →
  i∈Region.ready md ops listed→YieldsG P ops w oi v a →
  lP P md ops w n L f (listed.setIfInBounds i true) (a.put oi.dst v)→lP P md ops w n L (f+1) listed a:=by
 intro f
 induction f with
 | zero=>
  intro listed a inv _ hr hy H;have hun:=(mem_ready.1 hr).1;refine⟨List.ne_nil_of_mem hr,fun j hj=>?_⟩;have hjn:j<n:=Nat.lt_of_not_le fun h=>tail_waits hs hc hn inv _ i rfl hin hun j h hj;refine⟨hjn,?_⟩;by_cases hji:j=i
  · subst hji;exact hy.qOpG hi H
  · exact absurd (hdone _ _ H j (ready_mono hj hji)) ab
 | succ f ih=>
  intro listed a inv hfree hr hy H;have hun:=(mem_ready.1 hr).1;refine⟨List.ne_nil_of_mem hr,fun j hj=>?_⟩;have hjn:j<n:=Nat.lt_of_not_le fun h=>tail_waits hs hc hn inv _ i rfl hin hun j h hj;refine⟨hjn,?_⟩;by_cases hji:j=i
  · subst hji;exact hy.qOpG hi H
  · have h1:=(H.2 j (ready_mono hj hji)).2
    obtain⟨hjun,oj,hoj,hall⟩:=mem_ready.1 hj
    have hnot:∀e∈oj.after,Region.binds md e=true→e.on≠i:=fun e he hb heq=>by
     have h2:=hall e he hb;rw[heq,getD_both hun] at h2
     cases h2
    have h2:=zC hoj (hfree j oj hoj hji hjun hnot) (fun cs b=>hsel i oi cs b hi) (fun cs b=>hsel j oj cs b hoj) hy h1
    have hfree':∀k ok,ops[k]? = some ok→k≠i→(listed.setIfInBounds j true).getD k true=false →
     (∀e∈ok.after,Region.binds md e=true→e.on≠i)→oi.apart ops ok=true:=fun k ok hk hki hun' hno=>by
     refine hfree k ok hk hki ?_ hno;by_cases hjk:j=k
     · subst hjk;exact hjun
     · rw[getD_set_ne true hjk] at hun';exact hun'
    refine xL (fun a' h3=>ih (listed.setIfInBounds j true) a' (inv.set hj hjn) hfree' (ready_mono hr (Ne.symm hji)) h3.1 ?_) h2;rw[Array.setIfInBounds_comm _ _ hji];exact h3.2
def De (P:Program) (ops:Array Oper) (w:World) (L:Act→Prop):List Oper→Act→Prop
 | [],a=>L a
 | o::rest,a=>if Region.wanted o (yielded ops a.tmps) then ∃v,Aq P w (execOp a.eval o) v∧De P ops w L rest (a.put o.dst v) else De P ops w L rest (a.put o.dst undef)
def iR (md:Region.Mode) (ops:Array Oper) (g m:Nat):Nat→Nat→Array Bool→Bool
 | 0,_,listed=>Region.seqB md ops g m listed
 | f+1,k,listed=>(Region.ready md ops listed).contains k&&Region.free md ops listed k&&iR md ops g m f (k+1) (listed.setIfInBounds k true)
theorem oS {n m g:Nat} {Lq:Act→Prop} (hsel:Region.noSelect ops=true) (hs:Region.sinkB md ops m=true) (hc:Region.chainB md ops m=true) (hm:m<ops.size) (hnm:n≤m) :
 ∀(l:List Oper) (k:Nat) (listed:Array Bool) (a:Act),(∀j,j<l.length→l[j]? = ops[k+j]?)→k+l.length=n→HeadInv md ops m listed →
 iR md ops g m l.length k listed=true→De P ops w Lq l a →
 lP P md ops w m (fun listed' a'=>Region.seqB md ops g m listed'=true∧Lq a') l.length listed a
 | [],k,listed,a,_,hk,_,hB,h=>⟨by simpa [iR] using hB,h⟩
 | o::l,k,listed,a,hl,hk,inv,hB,h=>by
  have h0:ops[k]? = some o:=by simpa using (hl 0 a6).symm
  simp only[List.length_cons,iR,Bool.and_eq_true] at hB;obtain⟨⟨hr,hf⟩,hB'⟩:=hB
  have hkn:k<m:=by simp only[List.length_cons] at hk;omega
  have hr':k∈Region.ready md ops listed:=by simpa using hr
  have hst:qOpG P ops w k (De P ops w Lq l) a:=by unfold qOpG;simp only[h0];exact h
  obtain⟨v,hy,hK⟩:=l7 h0 hst
  exact qY h0 (Region.noSelect_spec hsel) hs hc hm hkn (fun listed' a' hL=>seqB_ready hL.1) l.length listed a inv (Region.free_spec h0 hf) hr' hy
   (oS hsel hs hc hm hnm l (k+1) _ _ (fun j hj=>by have:=hl (j+1) (by simp;omega);simpa [Nat.add_assoc,Nat.add_comm 1 j] using this) (by simp only[List.length_cons] at hk;omega) (inv.set hr' hkn) hB' hK)
theorem kf {i:Nat} {a:Act} {K:Act→Prop} {K':Act→World→Prop} {Q':Exit→Act→World→Prop} {X:World} (hX:Below w.heap.size w X) (h:∀a X',Below X.heap.size X X'→K a→K' a X') (hh:qOpG P ops w i K a):wpOp P ops Q' i K' a X:=by
 unfold qOpG at hh;unfold wpOp
 split
 · rename_i ho;simp only[ho] at hh;exact h _ _ (Below.refl _ _) hh
 · rename_i o ho
   simp only[ho] at hh
   split
   · rename_i hw
     simp only[hw,if_true] at hh;refine .inl ?_;obtain⟨v,h1,h2⟩:=hh;have h3:=h1 X hX;unfold Oper.wp;generalize (execOp a.eval o).run P X=r at *
     cases r with
     | ok n w'=>
      cases n<;>simp only[Oper.quietUpon] at h3<;>simp only[Oper.upon]
      case value u=>
       obtain⟨e1,e2⟩:=h3;rw[e1,e2];exact h _ _ (Below.refl _ _) h2
      case skip=>
       obtain⟨e1,e2⟩:=h3;rw[e1,←e2];exact h _ _ (Below.refl _ _) h2
      case enter f args=>
       obtain⟨e1,hc⟩:=h3;rw[e1]
       exact hc.mono fun e w'' ⟨he,hw''⟩=>by subst he;exact h _ _ hw'' h2
     | halt x w'=>simp only[Oper.quietUpon] at h3
   · rename_i hw;simp only[hw] at hh;exact h _ _ (Below.refl _ _) hh
section
variable {m g na:Nat} {oa:Oper} {obj:Obj} {L:Array Bool→Act→Prop} {Q:Exit→Act→World→Prop}
theorem lO {b:Nat} {u:Value} (hsel:∀(j:Nat) (o:Oper) cs b,ops[j]? = some o→o.op≠.select cs b)
 (hap:∀(j:Nat) (o:Oper),j<m→j≠na→ops[j]? = some o→oa.apart ops o=true)
 (hL:∀listed a X,L listed a→Below w.heap.size w X→X.heap[b]? = some obj→wpAny P md ops Q g listed (a.put oa.dst u) X) :
 ∀(f:Nat) (listed:Array Bool) (a:Act) (X:World),Below w.heap.size w X→X.heap[b]? = some obj→listed.getD na true=true→lP P md ops w m L f listed a→wpAny P md ops Q (f+g) listed (a.put oa.dst u) X
 | 0,listed,a,X,hX,hx,_,h=>by rw[Nat.zero_add];exact hL _ _ _ h hX hx
 | f+1,listed,a,X,hX,hx,hli,h=>by
  rw[Nat.succ_add];refine⟨fun h0=>absurd h0 h.1,fun i hi=>?_⟩;obtain⟨him,hq⟩:=h.2 i hi;obtain⟨hun,oi,hoi,_⟩:=mem_ready.1 hi;have hblt:b<X.heap.size:=(Array.getElem?_eq_some_iff.1 hx).1
  have hne:i≠na:=fun e=>by rw[e,hli] at hun;cases hun
  obtain⟨h1,h2,_⟩:=Oper.apart_spec (hap i oi him hne hoi)
  refine kf (K:=fun a'=>∃a'',a'=a''.put oa.dst u∧lP P md ops w m L f (listed.setIfInBounds i true) a'') hX (fun a' X' hX' ⟨a'',e,hk⟩=>?_)
   (sX hoi h1 h2 (fun cs b=>hsel i oi cs b hoi) (fun a' hk=>⟨a',rfl,hk⟩) hq)
  rw[e];exact lO hsel hap hL f _ a'' X' (hX.trans (hX'.mono hX.size)) ((hX'.block b hblt).trans hx) (by rw[getD_set_ne true hne];exact hli) hk
theorem ri (hsel:∀(j:Nat) (o:Oper) cs b,ops[j]? = some o→o.op≠.select cs b)
 (hap:∀(j:Nat) (o:Oper),j<m→j≠na→ops[j]? = some o→oa.apart ops o=true)
 (hs:Region.sinkB md ops m=true) (hc:Region.chainB md ops m=true) (hm:m<ops.size) (hna:na<m) (hoa:ops[na]? = some oa) (hgd:oa.guard=none) (haf:oa.after.isEmpty=true)
 (hal:∀(ev:Operand→Value) (X:World),(execOp ev oa).run P X=.ok (.value (.pointer (some ⟨X.heap.size,0,none⟩))) (X.alloc obj))
 (hLs:∀listed a,L listed a→∀j∈Region.ready md ops listed,m≤j)
 (hL:∀b,w.heap.size≤b→∀listed a X,L listed a→Below w.heap.size w X→X.heap[b]? = some obj→wpAny P md ops Q g listed (a.put oa.dst (.pointer (some ⟨b,0,none⟩))) X) :
 ∀(f:Nat) (listed:Array Bool) (a:Act) (X:World),Below w.heap.size w X→HeadInv md ops m listed→listed.getD na true=false→lP P md ops w m L f (listed.setIfInBounds na true) a→wpAny P md ops Q (f+g+1) listed a X:=by
 have hmem:∀listed:Array Bool,listed.getD na true=false→na∈Region.ready md ops listed:=fun listed hun=>mem_ready.2 ⟨hun,oa,hoa,fun e he=>by
  rw[Array.isEmpty_iff.1 haf] at he;exact absurd he (Array.not_mem_empty e)⟩
 have hset:∀listed:Array Bool,listed.getD na true=false→(listed.setIfInBounds na true).getD na true=true:=fun listed hun=>by
  have hlt:na<listed.size:=by
   rcases Nat.lt_or_ge na listed.size with h | h
   · exact h
   · simp[Array.getElem?_eq_none h] at hun
  simp[hlt]
 have hit:∀(f:Nat) (listed:Array Bool) (a:Act) (X:World),Below w.heap.size w X→listed.getD na true=false→lP P md ops w m L f (listed.setIfInBounds na true) a →
  wpOp P ops Q na (wpAny P md ops Q (f+g) (listed.setIfInBounds na true)) a X:=fun f listed a X hX hun h=>by
  unfold wpOp;simp only[hoa]
  have hwant:Region.wanted oa (yielded ops a.tmps)=true:=by unfold Region.wanted;rw[hgd]
  rw[hwant,if_pos rfl];refine .inl ?_;unfold Oper.wp;rw[hal];show wpAny P md ops Q (f+g) _ (a.put oa.dst _) _;exact lO hsel hap (hL X.heap.size hX.size) f _ a _ (hX.alloc hX.size _) (heap_alloc_new X obj) (hset listed hun) h
 intro f
 induction f with
 | zero=>
  intro listed a X hX inv hun h;refine⟨fun h0=>absurd h0 (List.ne_nil_of_mem (hmem listed hun)),fun i hi=>?_⟩;by_cases e:i=na
  · subst e;exact hit 0 listed a X hX hun h
  · have hi':=ready_mono hi e
    exact absurd hi (tail_waits hs hc hm inv _ na rfl hna hun i (hLs _ _ h i hi'))
 | succ f ih=>
  intro listed a X hX inv hun h;refine⟨fun h0=>absurd h0 (List.ne_nil_of_mem (hmem listed hun)),fun i hi=>?_⟩;by_cases e:i=na
  · subst e;exact hit (f+1) listed a X hX hun h
  · obtain⟨him,hq⟩:=h.2 i (ready_mono hi e)
    refine kf hX (fun a' X' hX' hk=>?_) hq;rw[show f+1+g=f+g+1 by omega];refine ih (listed.setIfInBounds i true) a' X' (hX.trans (hX'.mono hX.size)) (inv.set hi him) (by rw[getD_set_ne true e];exact hun) ?_;rw[Array.setIfInBounds_comm _ _ e];exact hk
end
def jx:List Oper→Nat→Bool
 | [],_=>true
 | o::l,k=>(match o.dst with | some d=>decide (d<k)&&!(l.any fun o'=>o'.dst==some d) | none=>false)&&jx l k
theorem gX {C:World→Prop} {afin:Act} {d:Tmp}:∀(l:List Oper) (a:Act),(∀o∈l,o.dst≠some d)→wpQuiet P ops C (fun a'=>a'=afin) l a→a.tmps[d]? = afin.tmps[d]?
 | [],a,_,h=>by rw[show a=afin from h]
 | o::l,a,hd,h=>by
  have hput:∀v,(a.put o.dst v).tmps[d]? = a.tmps[d]?:=fun v=>by
   have:=hd o (List.mem_cons_self ..);unfold Act.put
   split
   · rename_i t ht
     exact Array.getElem?_setIfInBounds_ne (fun e=>this (by rw[ht,e]))
   · rfl
  unfold wpQuiet at h
  split at h
  · obtain⟨v,_,h2⟩:=h
    rw[←hput v];exact gX l _ (fun o ho=>hd o (List.mem_cons_of_mem _ ho)) h2
  · rw[←hput undef]
    exact gX l _ (fun o ho=>hd o (List.mem_cons_of_mem _ ho)) h
theorem iQ {C C':World→Prop} {X:World} {v:Value} {r:Result Next} (h:∀W,C W→C' W) (hr:Oper.quietUpon P C X v r):Oper.quietUpon P C' X v r:=by
 cases r with
 | ok n w'=>
  cases n<;>simp only[Oper.quietUpon] at hr ⊢
  case value u=>exact hr
  case skip=>exact hr
  case enter f args=>exact⟨hr.1,hr.2.mono fun e w'' ⟨h1,h2⟩=>⟨h1,h _ h2⟩⟩
 | halt x w'=>exact hr
theorem ie {afin:Act}:∀(l:List Oper) (a:Act),jx l a.tmps.size=true →
 (∀X,Below w.heap.size w X→wpQuiet P ops (fun w'=>∃p:Regrown,w'=grow (redrawn X p.d) p.os) (fun a'=>a'=afin) l a)→De P ops w (fun a'=>a'=afin) l a
 | [],a,_,h=>h w (Below.refl _ _)
 | o::l,a,hd,h=>by
  unfold jx at hd;rw[Bool.and_eq_true] at hd;obtain⟨hd1,hd2⟩:=hd
  have hsz:∀v,(a.put o.dst v).tmps.size=a.tmps.size:=fun v=>by unfold Act.put;split<;>simp
  unfold De
  split
  · rename_i hw
    have h':∀X,Below w.heap.size w X→∃v,(∀W,(∃p:Regrown,W=grow (redrawn X p.d) p.os)→o.quietAt P a (fun w'=>∃p:Regrown,w'=grow (redrawn X p.d) p.os) W v)∧wpQuiet P ops (fun w'=>∃p:Regrown,w'=grow (redrawn X p.d) p.os) (fun a'=>a'=afin) l (a.put o.dst v):=fun X hX=>by
     have:=h X hX;unfold wpQuiet at this;rw[if_pos hw] at this;exact this
    cases hdst:o.dst with
    | none=>rw[hdst] at hd1;cases hd1
    | some d=>
     rw[hdst] at hd1 h';simp only[Bool.and_eq_true,decide_eq_true_eq,Bool.not_eq_true',List.any_eq_false,beq_iff_eq] at hd1
     have hval:∀X,Below w.heap.size w X→∀v,wpQuiet P ops (fun w'=>∃p:Regrown,w'=grow (redrawn X p.d) p.os) (fun a'=>a'=afin) l (a.put (some d) v)→some v=afin.tmps[d]?:=fun X hX v hv=>by
      rw[←gX l _ (fun o' ho'=>hd1.2 o' ho') hv];show some v=(a.tmps.setIfInBounds d v)[d]?;rw[Array.getElem?_setIfInBounds_self_of_lt hd1.1]
     obtain⟨v0,_,hv0⟩:=h' w (Below.refl _ _)
     have hsame:∀X,Below w.heap.size w X→o.quietAt P a (fun w'=>∃p:Regrown,w'=grow (redrawn X p.d) p.os) X v0∧wpQuiet P ops (fun w'=>∃p:Regrown,w'=grow (redrawn X p.d) p.os) (fun a'=>a'=afin) l (a.put (some d) v0):=fun X hX=>by
      obtain⟨v,g1,g2⟩:=h' X hX;have e:=(hval X hX v g2).trans (hval w (Below.refl _ _) v0 hv0).symm;injection e with e;subst e;exact⟨g1 X ⟨⟨X.drawn,#[]⟩,by rw[grow_empty];rfl⟩,g2⟩
     refine⟨v0,fun X hX=>iQ (fun W hW=>aD hW) (hsame X hX).1,?_⟩;exact ie l _ (by rw[←hdst,hsz];exact hd2) fun X hX=>(hsame X hX).2
  · rename_i hw
    refine ie l _ (by rw[hsz];exact hd2) fun X hX=>?_;have:=h X hX;unfold wpQuiet at this;rw[if_neg hw] at this;exact this
def jX (ops:Array Oper) (n:Nat):Bool:=
 Region.noSelect ops&&decide (n+1<ops.size)&&Region.sinkB .any ops (n+1)&&Region.chainB .any ops (n+1) &&
 iR .any ops (ops.size-(n+1)) (n+1) n 0 ((Array.replicate ops.size false).setIfInBounds n true) &&
 (match ops[n]? with
  | some oa=>oa.after.isEmpty&&oa.guard.isNone&&(List.range n).all fun j=>match ops[j]? with | some oj=>oa.apart ops oj | none=>true
  | none=>false)
theorem kQ {id:Nat} {Q:Exit→Act→World→Prop} {a:Act} {w:World} {l:List Oper} (n:Nat) (oa:Oper) (obj:Obj) (afin:Act) (hm:P.follows .mixedOrders=true) (hB:jX l.toArray n=true)
 (hoa:l[n]? = some oa) (hds:jx (l.take n) a.tmps.size=true)
 (hal:∀(ev:Operand→Value) (X:World),(execOp ev oa).run P X=.ok (.value (.pointer (some ⟨X.heap.size,0,none⟩))) (X.alloc obj))
 (hq:∀X,Below w.heap.size w X→wpQuiet P l.toArray (fun w'=>∃p:Regrown,w'=grow (redrawn X p.d) p.os) (fun a'=>a'=afin) (l.take n) a)
 (ht:∀b W',Below w.heap.size w W'→w.heap.size≤b→W'.heap[b]? = some obj→wpList P l.toArray Q (l.drop (n+1)) (afin.put oa.dst (.pointer (some ⟨b,0,none⟩))) W') :
 (Code.region id l.toArray true).wp P Q a w:=by
 have hoa':l.toArray[n]? = some oa:=by simpa using hoa
 unfold jX at hB;rw[hoa'] at hB;simp only[Bool.and_eq_true,decide_eq_true_eq] at hB;obtain⟨⟨⟨⟨⟨hsel,hn⟩,hs⟩,hc⟩,hlex⟩,⟨haf,hgd⟩,hap⟩:=hB
 have hn':n+1<l.length:=by simpa using hn
 have htl:(l.take n).length=n:=by simp;omega
 have hdl:(l.drop (n+1)).length=l.toArray.size-(n+1):=by simp
 have inv0:HeadInv .any l.toArray (n+1) (Array.replicate l.toArray.size false):=
  ⟨by simp,fun j oj _ hl=>(by rw[getD_replicate_false] at hl;cases hl),fun t _ ht=>getD_in (by simpa using ht) (getD_replicate_false _ _)⟩
 have hun0:(Array.replicate l.toArray.size false).getD n true=false:=getD_in (by rw[Array.size_replicate];omega) (getD_replicate_false _ _);have hmem0:n∈Region.ready .any l.toArray (Array.replicate l.toArray.size false):=mem_ready.2 ⟨hun0,oa,hoa',fun e he=>by rw[Array.isEmpty_iff.1 haf] at he;exact absurd he (Array.not_mem_empty e)⟩
 have H:=oS (P:=P) (w:=w) (md:=.any) (g:=l.toArray.size-(n+1)) (n:=n) (m:=n+1) hsel hs hc hn (Nat.le_succ _) (l.take n) 0 _ a (fun j hj=>by
  have hj':j<n:=by rw[htl] at hj;exact hj
  simp[hj']) (by simpa using htl) (inv0.set hmem0 (Nat.lt_succ_self _)) (by rw[htl];exact hlex) (ie (l.take n) a hds hq)
 refine wp_region_any hm ?_
 have:=ri (P:=P) (w:=w) (md:=.any) (Q:=Q) (g:=l.toArray.size-(n+1)) (m:=n+1) (na:=n) (oa:=oa) (obj:=obj) (Region.noSelect_spec hsel)
  (fun j o hj hne ho=>by
   have:=List.all_eq_true.1 hap j (List.mem_range.2 ab)
   rw[ho] at this;exact this)
  hs hc hn (Nat.lt_succ_self _) hoa' (Option.isNone_iff_eq_none.1 hgd) haf hal (fun listed' a' hL=>seqB_ready hL.1)
  (fun b hb listed' a' X hL hX hx=>by
   have:=wpAny_of_seq (md:=.any) (Q':=Q) (l.drop (n+1)) (n+1) listed' (a'.put oa.dst (.pointer (some ⟨b,0,none⟩))) X (fun j=>by rw[List.getElem?_drop,List.getElem?_toArray]) (by rw[hdl];exact hL.1) (by rw[hL.2];exact ht b X hX hb hx)
   rwa [hdl] at this)
  (l.take n).length _ a { w with drawn:=w.drawn+1 } ((Below.refl _ _).drew) inv0 hun0 H
 rw[htl,show n+(l.toArray.size-(n+1))+1=l.toArray.size by omega] at this;exact this
theorem bE {id:Nat} {Q:Exit→Act→World→Prop} {a:Act} {w:World} {l:List Oper} (n:Nat) (oa:Oper) (obj:Obj) (hm:P.follows .mixedOrders=true) (hB:jX l.toArray n=true)
 (hoa:l[n]? = some oa) (hds:jx (l.take n) a.tmps.size=true)
 (hal:∀(ev:Operand→Value) (X:World),(execOp ev oa).run P X=.ok (.value (.pointer (some ⟨X.heap.size,0,none⟩))) (X.alloc obj))
 (h:∃afin:Act,(∀X,Below w.heap.size w X→wpQuiet P l.toArray (fun w'=>∃p:Regrown,w'=grow (redrawn X p.d) p.os) (fun a'=>a'=afin) (l.take n) a) ∧
  (∀b W',Below w.heap.size w W'→w.heap.size≤b→W'.heap[b]? = some obj→wpList P l.toArray Q (l.drop (n+1)) (afin.put oa.dst (.pointer (some ⟨b,0,none⟩))) W')) :
 (Code.region id l.toArray true).wp P Q a w:=
 let ⟨afin,hq,ht⟩:=h
 kQ n oa obj afin hm hB hoa hds hal hq ht
end
end Go.Proofs.YtcfdpfmchchkaaaGreatDoor
