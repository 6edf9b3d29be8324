/-
  Plain words for numbers, strings and sums: what the functions of chapter 1 compute. No program in sight.
  Laws of my own over any program: append of one element, append of what a slice reads as, copies of owned rows.
  Regions that draw their order: what comes first only reads and calls functions that keep all old memory; what stands last (a store, a new slice, a call on it) comes last in whatever order. One walk in the order of the text serves all orders.
  Regions that draw their order, among whose operations one lays a new block whenever it likes ('x := f(..)', x in a block of its own): whatever comes first only reads and calls functions that keep all old memory; what stands behind the new block comes last, in order. One walk serves all orders.
-/
import Derived.Below
import Derived.RowKit
import Derived.Laws.BitsLemmas
import Derived.Lib.Hide
import Derived.Deep.Draws
import Derived.Maps.AppendAt
import Derived.OwnWalk
import Derived.WalkKit
import Derived.StillTail
import Derived.BigQuiet
import Derived.Lib.QuietBelow
namespace Go.Proofs.YtcfdpfmchchkaaaGreatDoor
open Go.RowKit
theorem aa {P:Prop} (h:P:=by kernel_rfl):P:=h
theorem a8 {α β:Sort _} {p:α→β→Prop} (h:∀a b,p a b:=by intro _ _;kernel_rfl):∀a b,p a b:=h
theorem ab {P:Prop} (h:P:=by omega):P:=h
theorem aq {P:Prop} (h:P:=by decide):P:=h
theorem C3 {P:Prop} (h:P:=by assumption):P:=h
theorem a7 {P:Prop} (h:P:=by simp):P:=h
theorem bz {P:Prop} (h:P:=by repeat (first | exact trivial | refine⟨rfl,?_⟩)):P:=h
abbrev eZ (n:Nat):List Bool:=List.replicate n false
theorem Ai {k:IntKind} {a b:Int} (h:a=b):Ending.returned (.int k a)=.returned (.int k b):=by rw[h]
theorem Dc {a b:Bool} (h:a=b):Ending.returned (.bool a)=.returned (.bool b):=by rw[h]
theorem CE {k:IntKind} {a b:ByteArray} {c d:Int} (h:a=b) (h':c=d):Ending.returned (.tuple #[.string a,.int k c])=.returned (.tuple #[.string b,.int k d]):=by rw[h,h']
def bf (n lo hi:Int):Bool:=decide (lo≤n)&&decide (n≤hi)
theorem inB_true {n lo hi:Int}:bf n lo hi=true↔lo≤n∧n≤hi:=by simp[bf]
theorem oE {n lo hi:Int}:bf n lo hi=false↔¬(lo≤n∧n≤hi):=by simp[bf]
def bn (ok:Bool) (e:Int):Int:=if ok then 0 else e
theorem jI (e:Int):bn true e=0:=rfl
def ar:List Int→Int
 | []=>0
 | e::l=>if e=0 then ar l else e
abbrev bl (s:ByteArray):List UInt8:=s.data.toList
def bs (l:List UInt8):ByteArray:=⟨l.toArray⟩
theorem Bo (l:List UInt8):bl (bs l)=l:=rfl
theorem Bu (s:ByteArray):bs (bl s)=s:=rfl
theorem fI (l:List UInt8):(bs l).size=l.length:=rfl
theorem aO (s:ByteArray):(bl s).length=s.size:=rfl
theorem im {s t:ByteArray} (h:bl s=bl t):s=t:=by rw[←Bu s,h,Bu]
theorem dR (s t:ByteArray):bl (s ++ t)=bl s ++ bl t:=by simp
theorem bq (s:ByteArray) (a b:Nat):bl (s.extract a b)=((bl s).take b).drop a:=by
 simp[bl,ByteArray.data_extract,Array.toList_extract,List.drop_take]
theorem qm (s:ByteArray) (a c:Nat):bl ((s.extract a s.size).extract 0 c)=((bl s).drop a).take c:=by
 rw[bq,bq,←aO,List.take_length];rfl
def num:List UInt8→Int
 | []=>0
 | b::l=>b.toNat+256*num l
theorem dS:∀l:List UInt8,0≤num l∧num l<256 ^ l.length
 | []=>by simp[num]
 | b::l=>by
  obtain⟨h1,h2⟩:=dS l;have hb:b.toNat<256:=b.toNat_lt;simp only[num,List.length_cons,Int.pow_succ];omega
def lit (n:Int):Nat→List UInt8
 | 0=>[]
 | c+1=>UInt8.ofNat (n % 256).toNat::lit (n / 256) c
theorem jx (n:Int) (c:Nat):(lit n c).length=c:=by
 induction c generalizing n with
 | zero=>rfl
 | succ c ih=>simp[lit,ih]
def Ag (n:Int) (c:Int):Int:=(n*2 % 2147483648+n / 1073741824+c) % 2147483648
def CX (l:List UInt8) (n:Int):Int:=l.foldl (fun n b=>Ag n b.toNat) n
theorem pj (j:Nat) (hj:j≤63) (n:Int) (h₀:0≤n) (h₁:n<2 ^ j):IntKind.i64.wrap n=n:=by
 have Y:(2:Int) ^ j≤2 ^ 63:=by
  have:(2:Nat) ^ j≤2 ^ 63:=Nat.pow_le_pow_right aq hj
  exact_mod_cast this
 have Y:(2:Int) ^ 63=9223372036854775808:=by decide
 rw[IntKind.wrap_i64];omega
theorem uB (s:ByteArray) (k:Nat) (h:k<s.size):(bl s).drop k=s[k]::(bl s).drop (k+1):=List.drop_eq_getElem_cons (l:=bl s) h
theorem vv (n:Nat) (h:n≤6):(256:Int) ^ n≤281474976710656:=by
 have:n=0∨n=1∨n=2∨n=3∨n=4∨n=5∨n=6:=by omega
 rcases this with rfl | rfl | rfl | rfl | rfl | rfl | rfl<;>decide
theorem zG (l:List UInt8) (h:l.length≤6):num l<281474976710656:=Int.lt_of_lt_of_le (dS l).2 (vv _ h)
theorem vj (k:Nat):(2:Int) ^ (8*k)=256 ^ k:=by rw[Int.pow_mul];rfl
def bb (b:UInt8):Value:=.int .u8 b.toNat
theorem vA (n:Int):bb (UInt8.ofNat (n % 256).toNat)=.int .u8 (n % 256):=by
 have Y:0≤n % 256:=Int.emod_nonneg _ aq;have Y:n % 256<256:=Int.emod_lt_of_pos _ aq;unfold bb
 congr 1
 simp[UInt8.toNat_ofNat'];omega
theorem zh (n:Int) (k:Nat):lit n (k+1)=lit n k ++ [UInt8.ofNat (n / 256 ^ k % 256).toNat]:=by
 induction k generalizing n with
 | zero=>simp[lit]
 | succ k ih=>
  have:lit n (k+1+1)=UInt8.ofNat (n % 256).toNat::lit (n / 256) (k+1):=rfl;rw[this,ih,Int.pow_succ,Int.mul_comm,←Int.ediv_ediv_of_nonneg aq]
  rfl
theorem vM {a w:World} (h:Below a.heap.size a w) (n:Nat):Below a.heap.size a (w.drewN n):=⟨h.os,h.tape,h.output,h.size,h.block⟩
theorem dU {a w:World} (h:Below a.heap.size a w) (o:Obj):Below a.heap.size a (w.alloc o):=h.alloc h.size o
theorem kS {a b c:World} (h:Below a.heap.size a b) (k:Below b.heap.size b c):Below a.heap.size a c:=h.trans (k.mono h.size)
theorem fb {P:Prop} (h:P:=by repeat (first | assumption | exact Below.refl _ _ | refine vM ?_ _ | refine dU ?_ _ | refine kS ?_ (by assumption) | refine Below.trans ?_ (by assumption))):P:=h
def Rd (w:World) (B:Nat) (A:Option Addr) (xs:List Value):Prop:=∀j u,xs[j]? = some u→∃b o,A=some ⟨b,o,none⟩∧b<B∧w.cell? ⟨b,o+j,none⟩=some u
theorem Rd.below {w w':World} {B:Nat} {A:Option Addr} {xs:List Value} (h:Rd w B A xs) (hb:Below B w w'):Rd w' B A xs:=fun j u hj=>by
 obtain⟨b,o,hA,hB,hc⟩:=h j u hj;exact⟨b,o,hA,hB,(hb.cell (p:=⟨b,o+j,none⟩) hB).trans hc⟩
theorem Rd.mono {w:World} {B B':Nat} {A:Option Addr} {xs:List Value} (h:Rd w B A xs) (hB:B≤B'):Rd w B' A xs:=fun j u hj=>by
 obtain⟨b,o,hA,hb,hc⟩:=h j u hj;exact⟨b,o,hA,by omega,hc⟩
theorem Rd.below' {w w':World} {A:Option Addr} {xs:List Value} (h:Rd w w.heap.size A xs) (hb:Below w.heap.size w w'):Rd w' w'.heap.size A xs:=(h.below hb).mono hb.size
theorem Rd.nil (w:World) (B:Nat) (A:Option Addr):Rd w B A []:=fun j u hj=>by simp at hj
theorem Rd.opened {w:World} {B:Nat} {A:Option Addr} {xs:List Value} (h:Rd w B A xs) (hne:0<xs.length) :
 ∃b o,A=some ⟨b,o,none⟩∧b<B∧∀j u,xs[j]? = some u→w.cell? ⟨b,o+j,none⟩=some u:=by
 obtain⟨b,o,hA,hB,_⟩:=h 0 xs[0] (List.getElem?_eq_getElem hne);refine⟨b,o,hA,hB,fun j u hj=>?_⟩;obtain⟨b',o',hA',_,hc⟩:=h j u hj;rw[hA] at hA';injection hA' with e;injection e with e1 e2;subst e1 e2;exact hc
theorem Rd.of_own {w:World} {base:Nat} {e:TypeId} {size n c:Nat} {A:Option Addr} {xs:List Value} (h:w.ownsRow base e size (.slice A n c) n xs):Rd w w.heap.size A xs:=fun j u hj=>by
 have hl:=h.1;have hj':j<xs.length:=(List.getElem?_eq_some_iff.1 hj).1;rcases h.2 with ⟨h',h0⟩ | ⟨g,cap,cur,h',_,hg,_⟩
 · rw[h0] at hl;omega
 · injection h' with h1 h2 h3
   subst h1 h3;refine⟨g,0,rfl,?_,?_⟩
   · rcases Nat.lt_or_ge g w.heap.size with h4 | h4
     · exact h4
     · rw[Array.getElem?_eq_none h4] at hg;cases hg
   · rw[Nat.zero_add,h.cellAt j ab];exact hj
def cB {α:Type} (f:Nat→α→Int):Nat→List α→Int × Int
 | _,[]=>(0,0)
 | i,x::l=>if f i x=0 then cB f (i+1) l else (i,f i x)
theorem jm {α:Type} (f:Nat→α→Int):∀(l:List α) (i:Nat),(cB f i l).2=0→∀j (h:j<l.length),f (i+j) l[j]=0
 | [],_,_,j,h=>absurd h a7
 | x::l,i,h0,j,h=>by
  unfold cB at h0
  split at h0
  · rename_i hx
    cases j with
    | zero=>exact hx
    | succ j=>
     have:=jm f l (i+1) h0 j (by simpa using h);rw[show i+(j+1)=i+1+j by omega];exact this
  · rename_i hx
    exact absurd h0 hx
open Go.RowKit
section
variable {P:Program} {ops:Array Oper} {rest:List Oper} {o:Oper} {a:Act} {Q:Exit→Act→World→Prop}
theorem n0 (w:World) (base:Nat) (t ty e:TypeId) (i:TypeInfo) (z:Value) (size bytes:Nat) (ht:P.underlying t=some (.slice e)) (hi:P.info? e=some i) (hz:i.zero=some z)
 (hsize:i.size=size) (hby:i.bytes=bytes) (hzs:z.cells.size=size) (hsz:0<size)
 (v:Value) (n:Nat) (xs:List Value) (hown:w.ownsRow base e size v n xs)
 (B:Nat) (A:Option Addr) (m c:Nat) (news:List Value) (hl:news.length=m*size) (hr:Rd w B A news) (h1:∀u∈news,u.oneCell'=true)
 (Za:n+m≤maxLen) (hbytes:(n+m)*bytes≤140737488355328) (hbase:base≤w.heap.size) :
 ∃v' w',(Builtin.append_ #[t,t] ty #[v,.slice A m c]).run P w=.ok v' w'∧w'.ownsRow base e size v' (n+m) (xs ++ news)∧w.grownBy w' v.ownBlock ∧
  (v'.ownBlock=v.ownBlock∨v'.ownBlock=some w.heap.size):=by
 rcases A with _ | ad
 · have hm:news=[]:=by
    rcases news with _ | ⟨u,l⟩
    · rfl
    · obtain⟨b,o,h,_⟩:=hr 0 u rfl
      cases h
   subst hm
   have hm0:m=0:=by
    rcases Nat.eq_zero_or_pos m with h | h
    · exact h
    · have:=Nat.mul_pos h hsz
      simp at hl;omega
   subst hm0;refine⟨v,w,?_,by simpa using hown,World.grownBy.refl w _,.inl rfl⟩;rcases hown.2 with ⟨rfl,rfl⟩ | ⟨g,cap,cur,rfl,_,_,hnc,_⟩
   · simp[Builtin.append_,run_underlying ht,sizeOf,typeInfo,hi,Builtin.lenOf,Builtin.firstCells]
   · simp[Builtin.append_,run_underlying ht,sizeOf,typeInfo,hi,Builtin.lenOf,Builtin.firstCells,hnc,storeCells]
 · have hcells:∀j u,news[j]? = some u→w.cell? (ad.add j)=some u:=fun j u hj=>by
    obtain⟨b,o,h,_,hc⟩:=hr j u hj;injection h with h;subst h
    have:(⟨b,o,none⟩:Addr).add j=⟨b,o+j,none⟩:=by unfold Addr.add;split<;>simp_all
    rw[this];exact hc
   obtain⟨v',w',hrun,h2,h3,_,h5⟩:=run_append_own_at (P:=P) w base t ty e i z size bytes ht hi hz hsize hby hzs hsz v n xs hown ad m c news hl hcells h1 Za hbytes hbase;exact⟨v',w',hrun,h2,h3,h5⟩
end
theorem ownsRow_form {w:World} {base:Nat} {e:TypeId} {size n:Nat} {v:Value} {xs:List Value} (h:w.ownsRow base e size v n xs):∃A c,v=.slice A n c∧Rd w w.heap.size A xs:=by
 rcases h.2 with ⟨rfl,rfl⟩ | ⟨g,cap,cur,rfl,_⟩
 · exact⟨none,0,rfl,Rd.of_own h⟩
 · exact⟨_,cap,rfl,Rd.of_own h⟩
theorem bW {w:World} {base base':Nat} {e:TypeId} {size n:Nat} {v:Value} {xs:List Value} (h:w.ownsRow base e size v n xs) (hb:base'≤base):w.ownsRow base' e size v n xs:=by
 refine⟨h.1,?_⟩;rcases h.2 with h' | ⟨g,cap,cur,h1,h2,h3⟩
 · exact .inl h'
 · exact .inr ⟨g,cap,cur,h1,by omega,h3⟩
theorem fW {w w':World} {base:Nat} {e:TypeId} {size n:Nat} {v:Value} {xs:List Value} (h:w.ownsRow base e size v n xs) (hb:Below w.heap.size w w'):w'.ownsRow base e size v n xs:=by
 refine⟨h.1,?_⟩;rcases h.2 with h' | ⟨g,cap,cur,h1,h2,h3,h4⟩
 · exact .inl h'
 · refine .inr ⟨g,cap,cur,h1,h2,?_,h4⟩
   have:g<w.heap.size:=by
    rcases Nat.lt_or_ge g w.heap.size with h5 | h5
    · exact h5
    · rw[Array.getElem?_eq_none h5] at h3;cases h3
   rw[hb.block g this];exact h3
open Go.RowKit Go.Sort
section
variable {P:Program} {ops:Array Oper} {md:Region.Mode} {C:World→Prop}
def jO (P:Program) (md:Region.Mode) (ops:Array Oper) (C:World→Prop) (n:Nat) (L:Array Bool→Act→Prop):Nat→Array Bool→Act→Prop
 | 0,listed,a=>L listed a
 | f+1,listed,a=>Region.ready md ops listed≠[]∧∀i∈Region.ready md ops listed,i<n∧qOp P ops C i (jO P md ops C n L f (listed.setIfInBounds i true)) a
theorem gD {n g:Nat} {L:Array Bool→Act→Prop} {Q:Exit→Act→World→Prop} (hL:∀listed a w,C w→L listed a→wpAny P md ops Q g listed a w) :
 ∀(f:Nat) (listed:Array Bool) (a:Act) (w:World),C w→jO P md ops C n L f listed a→wpAny P md ops Q (f+g) listed a w
 | 0,listed,a,w,hw,h=>by rw[Nat.zero_add];exact hL _ _ _ hw h
 | f+1,listed,a,w,hw,h=>by
  rw[Nat.succ_add];exact⟨fun h0=>absurd h0 h.1,fun i hi=>wpOp_of_qOp hw (fun a' w' hw' h'=>gD hL f _ a' w' hw' h') (h.2 i hi).2⟩
theorem nH {n i:Nat} {oi:Oper} {v:Value} {L:Array Bool→Act→Prop} (hi:ops[i]? = some oi) (hsel:∀(j:Nat) (o:Oper) cs b,ops[j]? = some o→o.op≠.select cs b)
 (hs:Region.sinkB md ops n=true) (hc:Region.chainB md ops n=true) (hn:n<ops.size) (hin:i<n)
 (hdone:∀listed a,L listed a→∀j∈Region.ready md ops listed,n≤j) :
 ∀(f:Nat) (listed:Array Bool) (a:Act),HeadInv md ops n listed →
  (∀j oj,ops[j]? = some oj→j≠i→listed.getD j true=false→(∀e∈oj.after,Region.binds md e=true→e.on≠i)→oi.apart ops oj=true) →
  i∈Region.ready md ops listed→YieldsIn P ops C oi v a →
  jO P md ops C n L f (listed.setIfInBounds i true) (a.put oi.dst v)→jO P md ops C n L (f+1) listed a:=by
 intro f
 induction f with
 | zero=>
  intro listed a inv _ hr hy H;have hun:=(mem_ready.1 hr).1;refine⟨List.ne_nil_of_mem hr,fun j hj=>?_⟩;have hjn:j<n:=Nat.lt_of_not_le fun h=>tail_waits hs hc hn inv _ i rfl hin hun j h hj;refine⟨hjn,?_⟩;by_cases hji:j=i
  · subst hji;exact hy.qOp hi H
  · exact absurd (hdone _ _ H j (ready_mono hj hji)) ab
 | succ f ih=>
  intro listed a inv hfree hr hy H;have hun:=(mem_ready.1 hr).1;refine⟨List.ne_nil_of_mem hr,fun j hj=>?_⟩;have hjn:j<n:=Nat.lt_of_not_le fun h=>tail_waits hs hc hn inv _ i rfl hin hun j h hj;refine⟨hjn,?_⟩;by_cases hji:j=i
  · subst hji;exact hy.qOp hi H
  · have h1:=(H.2 j (ready_mono hj hji)).2
    obtain⟨hjun,oj,hoj,hall⟩:=mem_ready.1 hj
    have hnot:∀e∈oj.after,Region.binds md e=true→e.on≠i:=fun e he hb heq=>by
     have h2:=hall e he hb;rw[heq,getD_both hun] at h2
     cases h2
    have h2:=qOp_put hoj (hfree j oj hoj hji hjun hnot) (fun cs b=>hsel i oi cs b hi) (fun cs b=>hsel j oj cs b hoj) hy h1
    have hfree':∀k ok,ops[k]? = some ok→k≠i→(listed.setIfInBounds j true).getD k true=false →
     (∀e∈ok.after,Region.binds md e=true→e.on≠i)→oi.apart ops ok=true:=fun k ok hk hki hun' hno=>by
     refine hfree k ok hk hki ?_ hno;by_cases hjk:j=k
     · subst hjk;exact hjun
     · rw[getD_set_ne true hjk] at hun';exact hun'
    refine qOp_mono (fun a' h3=>ih (listed.setIfInBounds j true) a' (inv.set hj hjn) hfree' (ready_mono hr (Ne.symm hji)) h3.1 ?_) h2;rw[Array.setIfInBounds_comm _ _ hji];exact h3.2
theorem lA {n g:Nat} {Lq:Act→Prop} (hsel:Region.noSelect ops=true) (hs:Region.sinkB md ops n=true) (hc:Region.chainB md ops n=true) (hn:n<ops.size) :
 ∀(l:List Oper) (k:Nat) (listed:Array Bool) (a:Act),(∀j,j<l.length→l[j]? = ops[k+j]?)→k+l.length=n→HeadInv md ops n listed →
 Region.lexHead md ops g l.length k listed=true→wpQuiet P ops C Lq l a →
 jO P md ops C n (fun listed' a'=>Region.seqB md ops g n listed'=true∧Lq a') l.length listed a
 | [],k,listed,a,_,hk,_,hB,h=>by
  obtain rfl:k=n:=by simpa using hk
  exact⟨by simpa [Region.lexHead] using hB,h⟩
 | o::l,k,listed,a,hl,hk,inv,hB,h=>by
  have h0:ops[k]? = some o:=by simpa using (hl 0 a7).symm
  simp only[List.length_cons,Region.lexHead,Bool.and_eq_true] at hB;obtain⟨⟨hr,hf⟩,hB'⟩:=hB
  have hkn:k<n:=by simp only[List.length_cons] at hk;omega
  have hr':k∈Region.ready md ops listed:=by simpa using hr
  have hst:qOp P ops C k (wpQuiet P ops C Lq l) a:=by unfold qOp;simp only[h0];exact h
  obtain⟨v,hy,hK⟩:=yieldsIn_of_qOp h0 hst
  exact nH h0 (Region.noSelect_spec hsel) hs hc hn hkn (fun listed' a' hL=>seqB_ready hL.1) l.length listed a inv (Region.free_spec h0 hf) hr' hy
   (lA hsel hs hc hn l (k+1) _ _ (fun j hj=>by have:=hl (j+1) (by simp;omega);simpa [Nat.add_assoc,Nat.add_comm 1 j] using this) (by simp only[List.length_cons] at hk;omega) (inv.set hr' hkn) hB' hK)
theorem lP {id:Nat} {Q:Exit→Act→World→Prop} {a:Act} {w:World} {l:List Oper} (n:Nat) (hm:P.follows .mixedOrders=true) (hB:Region.lexTailB .any l.toArray n=true) (hC:C { w with drawn:=w.drawn+1 })
 (h:wpQuiet P l.toArray C (fun a'=>∀w',C w'→wpList P l.toArray Q (l.drop n) a' w') (l.take n) a):(Code.region id l.toArray true).wp P Q a w:=by
 simp only[Region.lexTailB,Bool.and_eq_true,decide_eq_true_eq] at hB;obtain⟨⟨⟨⟨hsel,hn⟩,hs⟩,hc⟩,hlex⟩:=hB
 have hn':n<l.length:=by simpa using hn
 have htl:(l.take n).length=n:=by simp;omega
 have hdl:(l.drop n).length=l.toArray.size-n:=by simp
 have inv0:HeadInv .any l.toArray n (Array.replicate l.toArray.size false):=
  ⟨by simp,fun j oj _ hl=>(by rw[getD_replicate_false] at hl;cases hl),fun t _ ht=>getD_in (by simpa using ht) (getD_replicate_false _ _)⟩
 have H:=lA (md:=.any) (g:=l.toArray.size-n) hsel hs hc hn (l.take n) 0 _ a (fun j hj=>by
  have hj':j<n:=by rw[htl] at hj;exact hj
  simp[hj']) (by simpa using htl) inv0 (by rw[htl];exact hlex) h
 refine wp_region_any hm ?_
 have:=gD (Q:=Q) (g:=l.toArray.size-n) (fun listed a' w' hw' hL=>by
  have:=wpAny_of_seq (md:=.any) (Q':=Q) (l.drop n) n listed a' w' (fun j=>by simp[List.getElem?_drop]) (by rw[hdl];exact hL.1) (hL.2 w' hw')
  rwa [hdl] at this) _ _ _ _ hC H
 rw[htl,show n+(l.toArray.size-n)=l.toArray.size by omega] at this;exact this
theorem cj {id:Nat} {Q:Exit→Act→World→Prop} {a:Act} {w:World} {l:List Oper} (n:Nat) (hm:P.follows .mixedOrders=true) (hB:Region.lexTailB .any l.toArray n=true)
 (h:wpQuiet P l.toArray (fun w'=>∃p:Regrown,w'=grow (redrawn w p.d) p.os) (fun a'=>∀w',(∃p:Regrown,w'=grow (redrawn w p.d) p.os)→wpList P l.toArray Q (l.drop n) a' w') (l.take n) a):(Code.region id l.toArray true).wp P Q a w:=
 lP (C:=fun w'=>∃p:Regrown,w'=grow (redrawn w p.d) p.os) n hm hB ⟨⟨w.drawn+1,#[]⟩,by rw[grow_empty];rfl⟩ h
end
theorem cp {w w':World} (h:∃p:Regrown,w'=grow (redrawn w p.d) p.os):Below w.heap.size w w':=by
 obtain⟨p,rfl⟩:=h;exact below_regrown _ _ _
@[go_sem] theorem cell?_reg (w:World) (d:Nat) (os:Array Obj) (b o:Nat) (h:b<w.heap.size):(grow (redrawn w d) os).cell? ⟨b,o,none⟩=w.cell? ⟨b,o,none⟩:=
 (below_regrown w d os).cell (p:=⟨b,o,none⟩) h
theorem Calls.reg_pure {P:Program} {f:FuncId} {args:Array Value} {w:World} {d:Nat} {os:Array Obj} {v:Value}
 (h:Calls P f args (grow (redrawn w d) os) fun e w'=>e=.returned v∧grow (redrawn w d) os=w'):Calls P f args (grow (redrawn w d) os) fun e w''=>e=.returned v∧∃p:Regrown,w''=grow (redrawn w p.d) p.os:=
 h.mono fun _ _ ⟨he,hw⟩=>⟨he,⟨d,os⟩,hw.symm⟩
open Go.RowKit Go.Sort
section
variable {P:Program} {ops:Array Oper} {md:Region.Mode} {w:World}
def CQ (P:Program) (w:World) (s:Sem Next) (v:Value):Prop:=∀X,Below w.heap.size w X→Oper.quietUpon P (fun X'=>Below X.heap.size X X') X v (s.run P X)
def YieldsG (P:Program) (ops:Array Oper) (w:World) (o:Oper) (v:Value) (a:Act):Prop:=
 (Region.wanted o (yielded ops a.tmps)=true∧CQ P w (execOp a.eval o) v)∨(Region.wanted o (yielded ops a.tmps)=false∧v=undef)
theorem YieldsG.of_same {o:Oper} {v:Value} {a a':Act} (hy:YieldsG P ops w o v a) (he:execOp a'.eval o=execOp a.eval o)
 (hw:Region.wanted o (yielded ops a'.tmps)=Region.wanted o (yielded ops a.tmps)):YieldsG P ops w o v a':=by
 unfold YieldsG at *;rw[he,hw];exact hy
section
variable {m g na:Nat} {oa:Oper} {obj:Obj} {L:Array Bool→Act→Prop} {Q:Exit→Act→World→Prop}
end
def ph:List Oper→Nat→Bool
 | [],_=>true
 | o::l,k=>(match o.dst with | some d=>decide (d<k)&&!(l.any fun o'=>o'.dst==some d) | none=>false)&&ph l k
theorem jB {C:World→Prop} {afin:Act} {d:Tmp}:∀(l:List Oper) (a:Act),(∀o∈l,o.dst≠some d)→wpQuiet P ops C (fun a'=>a'=afin) l a→a.tmps[d]? = afin.tmps[d]?
 | [],a,_,h=>by rw[show a=afin from h]
 | o::l,a,hd,h=>by
  have hput:∀v,(a.put o.dst v).tmps[d]? = a.tmps[d]?:=fun v=>by
   have:=hd o (List.mem_cons_self ..);unfold Act.put
   split
   · rename_i t ht
     exact Array.getElem?_setIfInBounds_ne (fun e=>this (by rw[ht,e]))
   · rfl
  unfold wpQuiet at h
  split at h
  · obtain⟨v,_,h2⟩:=h
    rw[←hput v];exact jB l _ (fun o ho=>hd o (List.mem_cons_of_mem _ ho)) h2
  · rw[←hput undef]
    exact jB l _ (fun o ho=>hd o (List.mem_cons_of_mem _ ho)) h
theorem nw {C C':World→Prop} {X:World} {v:Value} {r:Result Next} (h:∀W,C W→C' W) (hr:Oper.quietUpon P C X v r):Oper.quietUpon P C' X v r:=by
 cases r with
 | ok n w'=>
  cases n<;>simp only[Oper.quietUpon] at hr ⊢
  case value u=>exact hr
  case skip=>exact hr
  case enter f args=>exact⟨hr.1,hr.2.mono fun e w'' ⟨h1,h2⟩=>⟨h1,h _ h2⟩⟩
 | halt x w'=>exact hr
end
end Go.Proofs.YtcfdpfmchchkaaaGreatDoor
