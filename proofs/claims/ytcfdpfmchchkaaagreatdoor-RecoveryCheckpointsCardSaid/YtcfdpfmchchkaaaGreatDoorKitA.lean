/- Plain words for numbers, -/
import Derived.Below
import Derived.RowKit
import Derived.Laws.BitsLemmas
import Derived.Lib.Hide
import Derived.Deep.Draws
import Derived.Maps.AppendAt
import Derived.OwnWalk
import Derived.WalkKit
import Derived.StillTail
import Derived.BigQuiet
import Derived.Lib.QuietBelow
import Derived.Test.YtcfdpfmchchkaaaGreatDoorProg
namespace Go.Proofs.YtcfdpfmchchkaaaGreatDoor
open Go.RowKit
@[match_pattern] abbrev ae (n:Int):Value:=.int .i64 n
def qE {α:Type}:Nat→List α→List α
 | _,[]=>[]
 | n,x::l=>if n % 2=1 then x::qE (n/2) l else qE (n/2) l
theorem sS {α:Type}:∀(n:Nat) (l:List α),(qE n l).Sublist l
 | _,[]=>.slnil
 | n,x::l=>by unfold qE;split;exact(sS _ l).cons_cons x;exact(sS _ l).cons x
theorem aL {α:Type} (n:Nat) {l m:List α} (h:qE n l=m:=by exact rfl):m.Sublist l:=h▸sS n l
abbrev bX:=@Tryz.underlying126
abbrev oy:=@Tryz.underlying5
abbrev dh:=@Tryz.underlying9
abbrev xx:=@Tryz.underlying4
abbrev cT:=@Tryz.underlying214
abbrev sU:Array Value:=#[ae 0,ae 0,ae 0,ae 0,.string ⟨#[]⟩,.string ⟨#[]⟩]
abbrev jj:List Value:=[ae 0,ae 0,ae 0,ae 0,.string ⟨#[]⟩,.string ⟨#[]⟩]
abbrev jl:List (Nat × Nat):=[(0,1),(1,1),(2,1),(3,1),(4,1),(5,1)]
abbrev jT:List Value:=[ae 0,ae 0,ae 0,ae 0,ae 0,.bool false,ae 0,ae 0,ae 0,ae 0,.string ⟨#[]⟩,.string ⟨#[]⟩,.string ⟨#[]⟩]
abbrev q8:Array Value:=#[ae 0,ae 0,ae 0,ae 0,ae 0,.bool false,ae 0,ae 0,ae 0,ae 0,.string ⟨#[]⟩,.string ⟨#[]⟩,.string ⟨#[]⟩]
abbrev jS:List (Nat × Nat):=[(0,1),(1,1),(2,1),(3,1),(4,1),(5,1),(6,6),(12,1)]
abbrev lG:Array Value:=#[ae 0,ae 0,ae 0,.bool false]
abbrev ed:=@Tryz.underlying22
abbrev ln:Array Value:=#[ae 0,.bool false,ae 0]
abbrev eP:=@Tryz.underlying23
abbrev ke:=@Tryz.underlying48
abbrev qU:Array Value:=#[ae 0,ae 0,ae 0,ae 0,ae 0,ae 0,.bool false,ae 0,ae 0,ae 0,ae 0,.string ⟨#[]⟩,.string ⟨#[]⟩,.string ⟨#[]⟩]
abbrev dd:=@Tryz.underlying41
abbrev qF:=@Tryz.underlying128
abbrev ph:=@Tryz.underlying130
abbrev l5:List Value:=[.slice none 0 0,.slice none 0 0]
abbrev nV:List Value:=[ae 0,ae 0,ae 0,.bool false]
abbrev pZ:List Value:=[ae 0,.bool false,ae 0]
abbrev fX:Array Value:=#[.slice none 0 0,.slice none 0 0]
abbrev kT:List (Nat × Nat):=[(0,1),(1,1)]
abbrev yt:List (Nat × Nat):=[(0,1),(1,1),(2,1),(3,1)]
abbrev fE:List (Nat × Nat):=[(0,1),(1,1),(2,1)]
abbrev ew:=@Tryz.underlying3
abbrev gk:=@Tryz.underlying180
abbrev qf:Array Value:=#[ae 0,ae 0,ae 0]
abbrev jV:List Value:=[ae 0,ae 0,ae 0]
abbrev tk:=@Tryz.underlying219
abbrev n4:=@Tryz.underlying53
abbrev qc:=@Tryz.underlying225
abbrev pq:=@Tryz.underlying226
abbrev sT:=@Tryz.underlying116
abbrev tA:=@Tryz.underlying151
abbrev vn:List Value:=[ae 0,.bool false,.string ⟨#[]⟩]
abbrev lh:=@Tryz.underlying209
abbrev kP:List Value:=[ae 0,ae 0,ae 0,ae 0,ae 0,ae 0,.bool false,ae 0,ae 0,ae 0,ae 0,.string ⟨#[]⟩,.string ⟨#[]⟩,.string ⟨#[]⟩]
abbrev sK:List (Nat × Nat):=[(0,1),(1,13)]
abbrev ef:Array Value:=#[ae 0,ae 0,ae 0,ae 0,ae 0,ae 0,ae 0,.slice none 0 0,ae 0]
abbrev ia:Array Value:=#[ae 0,ae 0,.string ⟨#[]⟩]
abbrev cv:=@Tryz.underlying71
abbrev jG:List Value:=[ae 0,ae 0,ae 0,ae 0,ae 0,ae 0,ae 0,.slice none 0 0,ae 0]
abbrev jF:List (Nat × Nat):=[(0,1),(1,3),(4,3),(7,1),(8,1)]
abbrev vi:=@Tryz.underlying70
abbrev kQ:List Value:=[ae 0,ae 0,.string ⟨#[]⟩]
abbrev bz (f:FuncId) (c:Array Value) (w:World) (v:Value):Prop:=Calls Tryz.prog f c w fun e b=>e=.returned v∧Below w.heap.size w b
abbrev fZ (f:FuncId) (c:Array Value) (w:World) (v:Value):Prop:=Calls Tryz.prog f c w fun e b=>e=.returned v∧w=b
theorem aa {P:Prop} (h:P:=by kernel_rfl):P:=h
theorem bc {α β:Sort _} {p:α→β→Prop} (h:∀a b,p a b:=by intro _ _;kernel_rfl):∀a b,p a b:=h
theorem ab {P:Prop} (h:P:=by omega):P:=h
theorem au {P:Prop} (h:P:=by decide):P:=h
theorem Hv {P:Prop} (h:P:=by assumption):P:=h
theorem bm {P:Prop} (h:P:=by simp):P:=h
theorem ar {P Q:Prop} (h:P) (q:P→Q:=by intro h;simpa using h):Q:=q h
theorem bN {P:Prop} (h:P:=by repeat (first | exact trivial | refine⟨rfl,?_⟩)):P:=h
abbrev fA (n:Nat):List Bool:=List.replicate n false
theorem Eg {k:IntKind} {a b:Int} (h:a=b):Ending.returned (.int k a)=.returned (.int k b):=by rw[h]
theorem FY {a b:ByteArray} (h:a=b):Ending.returned (.string a)=.returned (.string b):=by rw[h]
theorem Hj {a b:Bool} (h:a=b):Ending.returned (.bool a)=.returned (.bool b):=by rw[h]
theorem Fb {k:IntKind} {a b:ByteArray} {c d:Int} (h:a=b) (h':c=d):Ending.returned (.tuple #[.string a,.int k c])=.returned (.tuple #[.string b,.int k d]):=by rw[h,h']
def bD (n c b:Int):Bool:=decide (c≤n)&&decide (n≤b)
theorem inB_true {n c b:Int}:bD n c b=true↔c≤n∧n≤b:=by simp[bD]
theorem sd {n c b:Int}:bD n c b=false↔¬(c≤n∧n≤b):=by simp[bD]
def bF (ok:Bool) (e:Int):Int:=if ok then 0 else e
theorem fg (e:Int):bF true e=0:=rfl
def aw:List Int→Int
 | []=>0
 | e::l=>if e=0 then aw l else e
abbrev bl (s:ByteArray):List UInt8:=s.data.toList
def bs (l:List UInt8):ByteArray:=⟨l.toArray⟩
theorem jJ (l:List UInt8):bl (bs l)=l:=rfl
theorem Fm (s:ByteArray):bs (bl s)=s:=rfl
theorem bq (l:List UInt8):(bs l).size=l.length:=rfl
theorem aP (s:ByteArray):(bl s).length=s.size:=rfl
theorem dU {s t:ByteArray} (h:bl s=bl t):s=t:=by rw[←Fm s,h,Fm]
theorem cH (s t:ByteArray):bl (s ++ t)=bl s ++ bl t:=by simp
theorem bL (s:ByteArray) (a b:Nat):bl (s.extract a b)=((bl s).take b).drop a:=by
 simp[bl,ByteArray.data_extract,Array.toList_extract,List.drop_take]
theorem sO (s:ByteArray) (a c:Nat):bl ((s.extract a s.size).extract 0 c)=((bl s).drop a).take c:=by
 rw[bL,bL,←aP,List.take_length];rfl
def num:List UInt8→Int
 | []=>0
 | b::l=>b.toNat+256*num l
theorem eW:∀l:List UInt8,0≤num l∧num l<256 ^ l.length
 | []=>by simp[num]
 | b::l=>by
  obtain⟨e,c⟩:=eW l;have d:b.toNat<256:=b.toNat_lt;simp only[num,List.length_cons,Int.pow_succ];omega
def lit (n:Int):Nat→List UInt8
 | 0=>[]
 | c+1=>UInt8.ofNat (n % 256).toNat::lit (n / 256) c
theorem aB (n:Int) (c:Nat):(lit n c).length=c:=by
 induction c generalizing n with
 | zero=>rfl
 | succ c ih=>simp[lit,ih]
theorem yD (c:Nat):∀n:Int,num (lit n c)=n % 256 ^ c:=by
 induction c with
 | zero=>intro n;simp[lit,num,Int.emod_one]
 | succ c ih=>
  intro n;have Y:0≤n % 256:=Int.emod_nonneg _ au;have Y:n % 256<256:=Int.emod_lt_of_pos _ au
  have Y:((UInt8.ofNat (n % 256).toNat).toNat:Int)=n % 256:=by
   simp[UInt8.toNat_ofNat'];omega
  simp only[lit,num,ih,Y];have b:(0:Int)<256 ^ c:=Int.pow_pos au;have e:=Int.emod_add_mul_ediv n (256 ^ (c+1));have h:=Int.emod_add_mul_ediv n 256;have e2:=Int.emod_add_mul_ediv (n / 256) (256 ^ c);have d:0≤(n / 256) % 256 ^ c:=Int.emod_nonneg _ ab;have f:(n / 256) % 256 ^ c<256 ^ c:=Int.emod_lt_of_pos _ b
  have:n % 256+256*(n / 256 % 256 ^ c)=n % 256 ^ (c+1):=by
   rw[Int.pow_succ,Int.mul_comm (256 ^ c) 256];generalize (256:Int) ^ c=P at *
   have e3:n=n % 256+256*(n / 256 % P)+256*P*(n / 256 / P):=by
    rw[Int.mul_assoc];generalize P*(n / 256 / P)=y at *;omega
   conv=>rhs;rw[e3,Int.add_mul_emod_self_left]
   exact(Int.emod_eq_of_lt ab ab).symm
  exact this
def EM (n:Int) (c:Int):Int:=(n*2 % 2147483648+n / 1073741824+c) % 2147483648
def HW (l:List UInt8) (n:Int):Int:=l.foldl (fun n b=>EM n b.toNat) n
theorem rI (j:Nat) (b:j≤63) (n:Int) (d:0≤n) (c:n<2 ^ j):IntKind.i64.wrap n=n:=by
 have Y:(2:Int) ^ j≤2 ^ 63:=by
  have:(2:Nat) ^ j≤2 ^ 63:=Nat.pow_le_pow_right au b
  exact_mod_cast this
 have Y:(2:Int) ^ 63=9223372036854775808:=by decide
 rw[IntKind.wrap_i64];omega
theorem yy (s:ByteArray) (k:Nat) (h:k<s.size):(bl s).drop k=s[k]::(bl s).drop (k+1):=List.drop_eq_getElem_cons (l:=bl s) h
theorem zl (n:Nat) (h:n≤6):(256:Int) ^ n≤281474976710656:=by
 have:n=0∨n=1∨n=2∨n=3∨n=4∨n=5∨n=6:=by omega
 rcases this with rfl | rfl | rfl | rfl | rfl | rfl | rfl<;>decide
theorem E5 (l:List UInt8) (h:l.length≤6):num l<281474976710656:=Int.lt_of_lt_of_le (eW l).2 (zl _ h)
theorem Ak (k:Nat):(2:Int) ^ (8*k)=256 ^ k:=by rw[Int.pow_mul];rfl
def bB (b:UInt8):Value:=.int .u8 b.toNat
theorem sI (n:Int):bB (UInt8.ofNat (n % 256).toNat)=.int .u8 (n % 256):=by
 have Y:0≤n % 256:=Int.emod_nonneg _ au;have Y:n % 256<256:=Int.emod_lt_of_pos _ au;unfold bB
 congr 1
 simp[UInt8.toNat_ofNat'];omega
theorem vV (n:Int) (k:Nat):lit n (k+1)=lit n k ++ [UInt8.ofNat (n / 256 ^ k % 256).toNat]:=by
 induction k generalizing n with
 | zero=>simp[lit]
 | succ k ih=>
  have:lit n (k+1+1)=UInt8.ofNat (n % 256).toNat::lit (n / 256) (k+1):=rfl;rw[this,ih,Int.pow_succ,Int.mul_comm,←Int.ediv_ediv_of_nonneg au]
  rfl
theorem AI {a w:World} (h:Below a.heap.size a w) (n:Nat):Below a.heap.size a (w.drewN n):=⟨h.os,h.tape,h.output,h.size,h.block⟩
theorem eV {a w:World} (h:Below a.heap.size a w) (o:Obj):Below a.heap.size a (w.alloc o):=h.alloc h.size o
theorem eU {a b c:World} (h:Below a.heap.size a b) (k:Below b.heap.size b c):Below a.heap.size a c:=h.trans (k.mono h.size)
theorem fh {P:Prop} (h:P:=by repeat (first | assumption | exact Below.refl _ _ | refine AI ?_ _ | refine eV ?_ _ | refine eU ?_ (by assumption) | refine Below.trans ?_ (by assumption))):P:=h
def Rd (w:World) (B:Nat) (A:Option Addr) (xs:List Value):Prop:=∀j u,xs[j]? = some u→∃b o,A=some ⟨b,o,none⟩∧b<B∧w.cell? ⟨b,o+j,none⟩=some u
theorem Rd.below {w c:World} {B:Nat} {A:Option Addr} {xs:List Value} (h:Rd w B A xs) (i:Below B w c):Rd c B A xs:=fun j u e=>by
 obtain⟨b,o,f,hB,d⟩:=h j u e;exact⟨b,o,f,hB,(i.cell (p:=⟨b,o+j,none⟩) hB).trans d⟩
theorem Rd.mono {w:World} {B c:Nat} {A:Option Addr} {xs:List Value} (h:Rd w B A xs) (hB:B≤c):Rd w c A xs:=fun j u e=>by
 obtain⟨b,o,f,i,d⟩:=h j u e;exact⟨b,o,f,by omega,d⟩
theorem Rd.below' {w b:World} {A:Option Addr} {xs:List Value} (h:Rd w w.heap.size A xs) (c:Below w.heap.size w b):Rd b b.heap.size A xs:=(h.below c).mono c.size
theorem Rd.nil (w:World) (B:Nat) (A:Option Addr):Rd w B A []:=fun j u b=>by simp at b
theorem Rd.opened {w:World} {B:Nat} {A:Option Addr} {xs:List Value} (h:Rd w B A xs) (d:0<xs.length) :
 ∃b o,A=some ⟨b,o,none⟩∧b<B∧∀j u,xs[j]? = some u→w.cell? ⟨b,o+j,none⟩=some u:=by
 obtain⟨b,o,f,hB,_⟩:=h 0 xs[0] (List.getElem?_eq_getElem d);refine⟨b,o,f,hB,fun j u k=>?_⟩;obtain⟨l,o',c,_,i⟩:=h j u k;rw[f] at c;injection c with e;injection e with e1 e2;subst e1 e2;exact i
theorem Rd.of_own {w:World} {b:Nat} {e:TypeId} {size n c:Nat} {A:Option Addr} {xs:List Value} (h:w.ownsRow b e size (.slice A n c) n xs):Rd w w.heap.size A xs:=fun j u f=>by
 have l:=h.1;have i:j<xs.length:=(List.getElem?_eq_some_iff.1 f).1;rcases h.2 with ⟨h',k⟩ | ⟨g,cap,cur,h',_,hg,_⟩
 · rw[k] at l;omega
 · injection h' with h1 h2 h3
   subst h1 h3;refine⟨g,0,rfl,?_,?_⟩
   · rcases Nat.lt_or_ge g w.heap.size with d | d
     · exact d
     · rw[Array.getElem?_eq_none d] at hg;cases hg
   · rw[Nat.zero_add,h.cellAt j ab];exact f
def di {α:Type} (f:Nat→α→Int):Nat→List α→Int × Int
 | _,[]=>(0,0)
 | i,x::l=>if f i x=0 then di f (i+1) l else (i,f i x)
theorem jA {α:Type} (f:Nat→α→Int):∀(l:List α) (i:Nat),(di f i l).2=0→∀j (h:j<l.length),f (i+j) l[j]=0
 | [],_,_,j,h=>absurd h bm
 | x::l,i,h0,j,h=>by
  unfold di at h0
  split at h0
  · rename_i hx
    cases j with
    | zero=>exact hx
    | succ j=>
     have:=jA f l (i+1) h0 j (ar h);rw[show i+(j+1)=i+1+j by omega];exact this
  · rename_i hx
    exact absurd h0 hx
open Go.RowKit
section
variable {P:Program} {ops:Array Oper} {rest:List Oper} {o:Oper} {a:Act} {Q:Exit→Act→World→Prop}
theorem q7 (w:World) (d:Nat) (t ty e:TypeId) (i:TypeInfo) (z:Value) (size bytes:Nat) (ht:P.underlying t=some (.slice e)) (F:P.info? e=some i) (I:i.zero=some z)
 (r:i.size=size) (G:i.bytes=bytes) (E:z.cells.size=size) (s:0<size)
 (v:Value) (n:Nat) (xs:List Value) (f:w.ownsRow d e size v n xs)
 (B:Nat) (A:Option Addr) (m c:Nat) (news:List Value) (H:news.length=m*size) (hr:Rd w B A news) (N:∀u∈news,u.oneCell'=true)
 (O:n+m≤maxLen) (p:(n+m)*bytes≤140737488355328) (q:d≤w.heap.size) :
 ∃v' y,(Builtin.append_ #[t,t] ty #[v,.slice A m c]).run P w=.ok v' y∧y.ownsRow d e size v' (n+m) (xs ++ news)∧w.grownBy y v.ownBlock ∧
  (v'.ownBlock=v.ownBlock∨v'.ownBlock=some w.heap.size):=by
 rcases A with _ | ad
 · have hm:news=[]:=by
    rcases news with _ | ⟨u,l⟩
    · rfl
    · obtain⟨b,o,h,_⟩:=hr 0 u rfl
      cases h
   subst hm
   have D:m=0:=by
    rcases Nat.eq_zero_or_pos m with h | h
    · exact h
    · have:=Nat.mul_pos h s
      simp at H;omega
   subst D;refine⟨v,w,?_,ar f,World.grownBy.refl w _,.inl rfl⟩;rcases f.2 with ⟨rfl,rfl⟩ | ⟨g,cap,cur,rfl,_,_,hnc,_⟩
   · simp[Builtin.append_,run_underlying ht,sizeOf,typeInfo,F,Builtin.lenOf,Builtin.firstCells]
   · simp[Builtin.append_,run_underlying ht,sizeOf,typeInfo,F,Builtin.lenOf,Builtin.firstCells,hnc,storeCells]
 · have k:∀j u,news[j]? = some u→w.cell? (ad.add j)=some u:=fun j u K=>by
    obtain⟨b,o,h,_,J⟩:=hr j u K;injection h with h;subst h
    have:(⟨b,o,none⟩:Addr).add j=⟨b,o+j,none⟩:=by unfold Addr.add;split<;>simp_all
    rw[this];exact J
   obtain⟨v',y,x,M,h3,_,R⟩:=run_append_own_at (P:=P) w d t ty e i z size bytes ht F I r G E s v n xs f ad m c news H k N O p q;exact⟨v',y,x,M,h3,R⟩
end
theorem ownsRow_form {w:World} {b:Nat} {e:TypeId} {size n:Nat} {v:Value} {xs:List Value} (h:w.ownsRow b e size v n xs):∃A c,v=.slice A n c∧Rd w w.heap.size A xs:=by
 rcases h.2 with ⟨rfl,rfl⟩ | ⟨g,cap,cur,rfl,_⟩
 · exact⟨none,0,rfl,Rd.of_own h⟩
 · exact⟨_,cap,rfl,Rd.of_own h⟩
theorem a6 {w:World} {c b:Nat} {e:TypeId} {size n:Nat} {v:Value} {xs:List Value} (h:w.ownsRow c e size v n xs) (d:b≤c):w.ownsRow b e size v n xs:=by
 refine⟨h.1,?_⟩;rcases h.2 with h' | ⟨g,cap,cur,h1,h2,h3⟩
 · exact .inl h'
 · exact .inr ⟨g,cap,cur,h1,by omega,h3⟩
theorem cK {w d:World} {b:Nat} {e:TypeId} {size n:Nat} {v:Value} {xs:List Value} (h:w.ownsRow b e size v n xs) (f:Below w.heap.size w d):d.ownsRow b e size v n xs:=by
 refine⟨h.1,?_⟩;rcases h.2 with h' | ⟨g,cap,cur,h1,h2,h3,h4⟩
 · exact .inl h'
 · refine .inr ⟨g,cap,cur,h1,h2,?_,h4⟩
   have:g<w.heap.size:=by
    rcases Nat.lt_or_ge g w.heap.size with c | c
    · exact c
    · rw[Array.getElem?_eq_none c] at h3;cases h3
   rw[f.block g this];exact h3
open Go.RowKit Go.Sort
section
variable {P:Program} {ops:Array Oper} {md:Region.Mode} {C:World→Prop}
def lL (P:Program) (md:Region.Mode) (ops:Array Oper) (C:World→Prop) (n:Nat) (L:Array Bool→Act→Prop):Nat→Array Bool→Act→Prop
 | 0,listed,a=>L listed a
 | f+1,listed,a=>Region.ready md ops listed≠[]∧∀i∈Region.ready md ops listed,i<n∧qOp P ops C i (lL P md ops C n L f (listed.setIfInBounds i true)) a
theorem iZ {n g:Nat} {L:Array Bool→Act→Prop} {Q:Exit→Act→World→Prop} (c:∀listed a w,C w→L listed a→wpAny P md ops Q g listed a w) :
 ∀(f:Nat) (listed:Array Bool) (a:Act) (w:World),C w→lL P md ops C n L f listed a→wpAny P md ops Q (f+g) listed a w
 | 0,listed,a,w,hw,h=>by rw[Nat.zero_add];exact c _ _ _ hw h
 | f+1,listed,a,w,hw,h=>by
  rw[Nat.succ_add];exact⟨fun d=>absurd d h.1,fun i e=>wpOp_of_qOp hw (fun j k b h'=>iZ c f _ j k b h') (h.2 i e).2⟩
theorem qY {n i:Nat} {oi:Oper} {v:Value} {L:Array Bool→Act→Prop} (J:ops[i]? = some oi) (s:∀(j:Nat) (o:Oper) cs b,ops[j]? = some o→o.op≠.select cs b)
 (K:Region.sinkB md ops n=true) (N:Region.chainB md ops n=true) (M:n<ops.size) (D:i<n)
 (u:∀listed a,L listed a→∀j∈Region.ready md ops listed,n≤j) :
 ∀(f:Nat) (listed:Array Bool) (a:Act),HeadInv md ops n listed →
  (∀j oj,ops[j]? = some oj→j≠i→listed.getD j true=false→(∀e∈oj.after,Region.binds md e=true→e.on≠i)→oi.apart ops oj=true) →
  i∈Region.ready md ops listed→YieldsIn P ops C oi v a →
  lL P md ops C n L f (listed.setIfInBounds i true) (a.put oi.dst v)→lL P md ops C n L (f+1) listed a:=by
 intro f
 induction f with
 | zero=>
  intro listed a inv _ hr E H;have p:=(mem_ready.1 hr).1;refine⟨List.ne_nil_of_mem hr,fun j x=>?_⟩;have q:j<n:=Nat.lt_of_not_le fun h=>tail_waits K N M inv _ i rfl D p j h x;refine⟨q,?_⟩;by_cases c:j=i
  · subst c;exact E.qOp J H
  · exact absurd (u _ _ H j (ready_mono x c)) ab
 | succ f ih=>
  intro listed a inv d hr E H;have p:=(mem_ready.1 hr).1;refine⟨List.ne_nil_of_mem hr,fun j x=>?_⟩;have q:j<n:=Nat.lt_of_not_le fun h=>tail_waits K N M inv _ i rfl D p j h x;refine⟨q,?_⟩;by_cases c:j=i
  · subst c;exact E.qOp J H
  · have U:=(H.2 j (ready_mono x c)).2
    obtain⟨t,oj,y,B⟩:=mem_ready.1 x
    have A:∀e∈oj.after,Region.binds md e=true→e.on≠i:=fun e T S heq=>by
     have F:=B e T S;rw[heq,getD_both p] at F
     cases F
    have F:=qOp_put y (d j oj y c t A) (fun cs b=>s i oi cs b J) (fun cs b=>s j oj cs b y) E U
    have l:∀k ok,ops[k]? = some ok→k≠i→(listed.setIfInBounds j true).getD k true=false →
     (∀e∈ok.after,Region.binds md e=true→e.on≠i)→oi.apart ops ok=true:=fun k ok R G r I=>by
     refine d k ok R G ?_ I;by_cases z:j=k
     · subst z;exact t
     · rw[getD_set_ne true z] at r;exact r
    refine qOp_mono (fun O h3=>ih (listed.setIfInBounds j true) O (inv.set x q) l (ready_mono hr (Ne.symm c)) h3.1 ?_) F;rw[Array.setIfInBounds_comm _ _ c];exact h3.2
theorem nX {n g:Nat} {p:Act→Prop} (c:Region.noSelect ops=true) (r:Region.sinkB md ops n=true) (q:Region.chainB md ops n=true) (t:n<ops.size) :
 ∀(l:List Oper) (k:Nat) (listed:Array Bool) (a:Act),(∀j,j<l.length→l[j]? = ops[k+j]?)→k+l.length=n→HeadInv md ops n listed →
 Region.lexHead md ops g l.length k listed=true→wpQuiet P ops C p l a →
 lL P md ops C n (fun b s=>Region.seqB md ops g n b=true∧p s) l.length listed a
 | [],k,listed,a,_,hk,_,hB,h=>by
  obtain rfl:k=n:=ar hk;exact⟨by simpa [Region.lexHead] using hB,h⟩
 | o::l,k,listed,a,hl,hk,inv,hB,h=>by
  have f:ops[k]? = some o:=by simpa using (hl 0 bm).symm
  simp only[List.length_cons,Region.lexHead,Bool.and_eq_true] at hB;obtain⟨⟨hr,hf⟩,i⟩:=hB
  have d:k<n:=by simp only[List.length_cons] at hk;omega
  have e:k∈Region.ready md ops listed:=ar hr
  have hst:qOp P ops C k (wpQuiet P ops C p l) a:=by unfold qOp;simp only[f];exact h
  obtain⟨v,x,y⟩:=yieldsIn_of_qOp f hst
  exact qY f (Region.noSelect_spec c) r q t d (fun b s u=>seqB_ready u.1) l.length listed a inv (Region.free_spec f hf) e x
   (nX c r q t l (k+1) _ _ (fun j z=>by have:=hl (j+1) (by simp;omega);simpa [Nat.add_assoc,Nat.add_comm 1 j] using this) (by simp only[List.length_cons] at hk;omega) (inv.set e d) i y)
theorem oB {id:Nat} {Q:Exit→Act→World→Prop} {a:Act} {w:World} {l:List Oper} (n:Nat) (hm:P.follows .mixedOrders=true) (hB:Region.lexTailB .any l.toArray n=true) (A:C { w with drawn:=w.drawn+1 })
 (h:wpQuiet P l.toArray C (fun k=>∀f,C f→wpList P l.toArray Q (l.drop n) k f) (l.take n) a):(Code.region id l.toArray true).wp P Q a w:=by
 simp only[Region.lexTailB,Bool.and_eq_true,decide_eq_true_eq] at hB;obtain⟨⟨⟨⟨c,u⟩,x⟩,z⟩,i⟩:=hB;have y:n<l.length:=ar u
 have b:(l.take n).length=n:=by simp;omega
 have d:(l.drop n).length=l.toArray.size-n:=by simp
 have e:HeadInv .any l.toArray n (Array.replicate l.toArray.size false):=
  ⟨by simp,fun j oj _ s=>(by rw[getD_replicate_false] at s;cases s),fun t _ ht=>getD_in (ar ht) (getD_replicate_false _ _)⟩
 have H:=nX (md:=.any) (g:=l.toArray.size-n) c x z u (l.take n) 0 _ a (fun j v=>by
  have q:j<n:=by rw[b] at v;exact v
  simp[q]) (ar b) e (by rw[b];exact i) h
 refine wp_region_any hm ?_
 have:=iZ (Q:=Q) (g:=l.toArray.size-n) (fun listed k f p r=>by
  have:=wpAny_of_seq (md:=.any) (Q':=Q) (l.drop n) n listed k f (fun j=>by simp[List.getElem?_drop]) (by rw[d];exact r.1) (r.2 f p)
  rwa [d] at this) _ _ _ _ A H
 rw[b,show n+(l.toArray.size-n)=l.toArray.size by omega] at this;exact this
theorem cP {id:Nat} {Q:Exit→Act→World→Prop} {a:Act} {w:World} {l:List Oper} (n:Nat) (hm:P.follows .mixedOrders=true) (hB:Region.lexTailB .any l.toArray n=true)
 (h:wpQuiet P l.toArray (fun b=>∃p:Regrown,b=grow (redrawn w p.d) p.os) (fun c=>∀b,(∃p:Regrown,b=grow (redrawn w p.d) p.os)→wpList P l.toArray Q (l.drop n) c b) (l.take n) a):(Code.region id l.toArray true).wp P Q a w:=
 oB (C:=fun b=>∃p:Regrown,b=grow (redrawn w p.d) p.os) n hm hB ⟨⟨w.drawn+1,#[]⟩,by rw[grow_empty];rfl⟩ h
end
theorem bY {w b:World} (h:∃p:Regrown,b=grow (redrawn w p.d) p.os):Below w.heap.size w b:=by
 obtain⟨p,rfl⟩:=h;exact below_regrown _ _ _
@[go_sem] theorem cell?_reg (w:World) (d:Nat) (os:Array Obj) (b o:Nat) (h:b<w.heap.size):(grow (redrawn w d) os).cell? ⟨b,o,none⟩=w.cell? ⟨b,o,none⟩:=
 (below_regrown w d os).cell (p:=⟨b,o,none⟩) h
theorem Calls.reg_pure {P:Program} {f:FuncId} {args:Array Value} {w:World} {d:Nat} {os:Array Obj} {v:Value}
 (h:Calls P f args (grow (redrawn w d) os) fun e i=>e=.returned v∧grow (redrawn w d) os=i):Calls P f args (grow (redrawn w d) os) fun e b=>e=.returned v∧∃p:Regrown,b=grow (redrawn w p.d) p.os:=
 h.mono fun _ _ ⟨j,c⟩=>⟨j,⟨d,os⟩,c.symm⟩
open Go.RowKit Go.Sort
section
variable {P:Program} {ops:Array Oper} {md:Region.Mode} {w:World}
def GQ (P:Program) (w:World) (s:Sem Next) (v:Value):Prop:=∀X,Below w.heap.size w X→Oper.quietUpon P (fun X'=>Below X.heap.size X X') X v (s.run P X)
def YieldsG (P:Program) (ops:Array Oper) (w:World) (o:Oper) (v:Value) (a:Act):Prop:=
 (Region.wanted o (yielded ops a.tmps)=true∧GQ P w (execOp a.eval o) v)∨(Region.wanted o (yielded ops a.tmps)=false∧v=undef)
theorem YieldsG.of_same {o:Oper} {v:Value} {a b:Act} (c:YieldsG P ops w o v a) (e:execOp b.eval o=execOp a.eval o)
 (d:Region.wanted o (yielded ops b.tmps)=Region.wanted o (yielded ops a.tmps)):YieldsG P ops w o v b:=by
 unfold YieldsG at *;rw[e,d];exact c
section
variable {m g na:Nat} {oa:Oper} {obj:Obj} {L:Array Bool→Act→Prop} {Q:Exit→Act→World→Prop}
end
def qi:List Oper→Nat→Bool
 | [],_=>true
 | o::l,k=>(match o.dst with | some d=>decide (d<k)&&!(l.any fun o'=>o'.dst==some d) | none=>false)&&qi l k
theorem lp {C:World→Prop} {afin:Act} {d:Tmp}:∀(l:List Oper) (a:Act),(∀o∈l,o.dst≠some d)→wpQuiet P ops C (fun i=>i=afin) l a→a.tmps[d]? = afin.tmps[d]?
 | [],a,_,h=>by rw[show a=afin from h]
 | o::l,a,hd,h=>by
  have b:∀v,(a.put o.dst v).tmps[d]? = a.tmps[d]?:=fun v=>by
   have:=hd o (List.mem_cons_self ..);unfold Act.put
   split
   · rename_i t ht
     exact Array.getElem?_setIfInBounds_ne (fun e=>this (by rw[ht,e]))
   · rfl
  unfold wpQuiet at h
  split at h
  · obtain⟨v,_,f⟩:=h
    rw[←b v];exact lp l _ (fun o c=>hd o (List.mem_cons_of_mem _ c)) f
  · rw[←b undef]
    exact lp l _ (fun o c=>hd o (List.mem_cons_of_mem _ c)) h
theorem pF {C b:World→Prop} {X:World} {v:Value} {r:Result Next} (h:∀W,C W→b W) (hr:Oper.quietUpon P C X v r):Oper.quietUpon P b X v r:=by
 cases r with
 | ok n w'=>
  cases n<;>simp only[Oper.quietUpon] at hr ⊢
  case value u=>exact hr
  case skip=>exact hr
  case enter f args=>exact⟨hr.1,hr.2.mono fun e i ⟨d,c⟩=>⟨d,h _ c⟩⟩
 | halt x w'=>exact hr
end
end Go.Proofs.YtcfdpfmchchkaaaGreatDoor
