/- Plain words for numbers, -/
import Derived.Below
import Derived.RowKit
import Derived.Laws.BitsLemmas
import Derived.Lib.Hide
import Derived.Deep.Draws
import Derived.Maps.AppendAt
import Derived.OwnWalk
import Derived.WalkKit
import Derived.StillTail
import Derived.BigQuiet
import Derived.Lib.QuietBelow
import Derived.Test.YtcfdpfmchchkaaaGreatDoorProg
namespace Go.Proofs.YtcfdpfmchchkaaaGreatDoor
open Go.RowKit
@[match_pattern] abbrev ae (n:Int):Value:=.int .i64 n
def qT {α:Type}:Nat→List α→List α
 | _,[]=>[]
 | n,x::l=>if n % 2=1 then x::qT (n/2) l else qT (n/2) l
theorem uJ {α:Type}:∀(n:Nat) (l:List α),(qT n l).Sublist l
 | _,[]=>.slnil
 | n,x::l=>by unfold qT;split;exact(uJ _ l).cons_cons x;exact(uJ _ l).cons x
theorem aB {α:Type} (n:Nat) {l m:List α} (h:qT n l=m:=by exact rfl):m.Sublist l:=h▸uJ n l
abbrev bY:=@Tryz.underlying126
abbrev px:=@Tryz.underlying5
abbrev dr:=@Tryz.underlying9
abbrev tX:=@Tryz.underlying4
abbrev dt:=@Tryz.underlying214
abbrev qo:Array Value:=#[ae 0,ae 0,ae 0,ae 0,.string ⟨#[]⟩,.string ⟨#[]⟩]
abbrev j2:List Value:=[ae 0,ae 0,ae 0,ae 0,.string ⟨#[]⟩,.string ⟨#[]⟩]
abbrev kj:List (Nat × Nat):=[(0,1),(1,1),(2,1),(3,1),(4,1),(5,1)]
abbrev km:List Value:=[ae 0,ae 0,ae 0,ae 0,ae 0,.bool false,ae 0,ae 0,ae 0,ae 0,.string ⟨#[]⟩,.string ⟨#[]⟩,.string ⟨#[]⟩]
abbrev sc:Array Value:=#[ae 0,ae 0,ae 0,ae 0,ae 0,.bool false,ae 0,ae 0,ae 0,ae 0,.string ⟨#[]⟩,.string ⟨#[]⟩,.string ⟨#[]⟩]
abbrev j7:List (Nat × Nat):=[(0,1),(1,1),(2,1),(3,1),(4,1),(5,1),(6,6),(12,1)]
abbrev lZ:Array Value:=#[ae 0,ae 0,ae 0,.bool false]
abbrev dT:=@Tryz.underlying22
abbrev oz:Array Value:=#[ae 0,.bool false,ae 0]
abbrev iy:=@Tryz.underlying23
abbrev GK:Array Value:=#[ae 0,.bool false,.string ⟨#[]⟩]
abbrev en:=@Tryz.underlying48
abbrev mi:Array Value:=#[ae 0,ae 0,ae 0,ae 0,ae 0,ae 0,.bool false,ae 0,ae 0,ae 0,ae 0,.string ⟨#[]⟩,.string ⟨#[]⟩,.string ⟨#[]⟩]
abbrev cO:=@Tryz.underlying41
abbrev qL:=@Tryz.underlying128
abbrev rP:=@Tryz.underlying130
abbrev mD:List Value:=[.slice none 0 0,.slice none 0 0]
abbrev oJ:List Value:=[ae 0,ae 0,ae 0,.bool false]
abbrev ri:List Value:=[ae 0,.bool false,ae 0]
abbrev gV:Array Value:=#[.slice none 0 0,.slice none 0 0]
abbrev lM:List (Nat × Nat):=[(0,1),(1,1)]
abbrev yH:List (Nat × Nat):=[(0,1),(1,1),(2,1),(3,1)]
abbrev fY:List (Nat × Nat):=[(0,1),(1,1),(2,1)]
abbrev eO:=@Tryz.underlying3
abbrev gO:=@Tryz.underlying180
abbrev rN:Array Value:=#[ae 0,ae 0,ae 0]
abbrev lJ:List Value:=[ae 0,ae 0,ae 0]
abbrev ub:=@Tryz.underlying219
abbrev iG:=@Tryz.underlying53
abbrev rG:=@Tryz.underlying225
abbrev qA:=@Tryz.underlying226
abbrev tW:=@Tryz.underlying151
abbrev s8:List Value:=[ae 0,.bool false,.string ⟨#[]⟩]
abbrev jg:=@Tryz.underlying209
abbrev mE:List Value:=[ae 0,ae 0,ae 0,ae 0,ae 0,ae 0,.bool false,ae 0,ae 0,ae 0,ae 0,.string ⟨#[]⟩,.string ⟨#[]⟩,.string ⟨#[]⟩]
abbrev tC:List (Nat × Nat):=[(0,1),(1,13)]
abbrev u9:=@Tryz.underlying154
abbrev gU:Array Value:=#[ae 0,ae 0,ae 0,ae 0,ae 0,ae 0,ae 0,.slice none 0 0,ae 0]
abbrev pk:List Value:=[ae 0,ae 0,ae 0,ae 0,ae 0,ae 0,ae 0,.slice none 0 0,ae 0]
abbrev pr:List (Nat × Nat):=[(0,1),(1,3),(4,3),(7,1),(8,1)]
abbrev kr:Array Value:=#[ae 0,ae 0,.string ⟨#[]⟩]
abbrev dv:=@Tryz.underlying71
abbrev xg:=@Tryz.underlying70
abbrev oU:List Value:=[ae 0,ae 0,.string ⟨#[]⟩]
abbrev bu (f:FuncId) (b:Array Value) (w:World) (v:Value):Prop:=Calls Tryz.prog f b w fun e c=>e=.returned v∧Below w.heap.size w c
abbrev gQ (f:FuncId) (b:Array Value) (w:World) (v:Value):Prop:=Calls Tryz.prog f b w fun e c=>e=.returned v∧w=c
theorem aa {P:Prop} (h:P:=by kernel_rfl):P:=h
theorem a6 {α β:Sort _} {p:α→β→Prop} (h:∀a b,p a b:=by intro _ _;kernel_rfl):∀a b,p a b:=h
theorem ab {P:Prop} (h:P:=by omega):P:=h
theorem au {P:Prop} (h:P:=by decide):P:=h
theorem II {P:Prop} (h:P:=by assumption):P:=h
theorem bw {P:Prop} (h:P:=by simp):P:=h
theorem al {P Q:Prop} (h:P) (q:P→Q:=by intro h;simpa using h):Q:=q h
theorem bC {P:Prop} (h:P:=by repeat (first | exact trivial | refine⟨rfl,?_⟩)):P:=h
abbrev fK (n:Nat):List Bool:=List.replicate n false
theorem BG {k:IntKind} {a b:Int} (h:a=b):Ending.returned (.int k a)=.returned (.int k b):=by rw[h]
theorem xt {a b:ByteArray} (h:a=b):Ending.returned (.string a)=.returned (.string b):=by rw[h]
theorem qO {a b:Bool} (h:a=b):Ending.returned (.bool a)=.returned (.bool b):=by rw[h]
theorem yG {k:IntKind} {a b:ByteArray} {c d:Int} (h:a=b) (h':c=d):Ending.returned (.tuple #[.string a,.int k c])=.returned (.tuple #[.string b,.int k d]):=by rw[h,h']
def bB (n b c:Int):Bool:=decide (b≤n)&&decide (n≤c)
theorem inB_true {n b c:Int}:bB n b c=true↔b≤n∧n≤c:=by simp[bB]
theorem sM {n b c:Int}:bB n b c=false↔¬(b≤n∧n≤c):=by simp[bB]
def bQ (ok:Bool) (e:Int):Int:=if ok then 0 else e
theorem mW (e:Int):bQ true e=0:=rfl
def av:List Int→Int
 | []=>0
 | e::l=>if e=0 then av l else e
abbrev bl (s:ByteArray):List UInt8:=s.data.toList
def bs (l:List UInt8):ByteArray:=⟨l.toArray⟩
theorem qu (l:List UInt8):bl (bs l)=l:=rfl
theorem Gl (s:ByteArray):bs (bl s)=s:=rfl
theorem cm (l:List UInt8):(bs l).size=l.length:=rfl
theorem aO (s:ByteArray):(bl s).length=s.size:=rfl
theorem gb {s t:ByteArray} (h:bl s=bl t):s=t:=by rw[←Gl s,h,Gl]
theorem db (s t:ByteArray):bl (s ++ t)=bl s ++ bl t:=by simp
theorem ca (s:ByteArray) (a b:Nat):bl (s.extract a b)=((bl s).take b).drop a:=by
 simp[bl,ByteArray.data_extract,Array.toList_extract,List.drop_take]
theorem vi (s:ByteArray) (a c:Nat):bl ((s.extract a s.size).extract 0 c)=((bl s).drop a).take c:=by
 rw[ca,ca,←aO,List.take_length];rfl
def num:List UInt8→Int
 | []=>0
 | b::l=>b.toNat+256*num l
theorem fC:∀l:List UInt8,0≤num l∧num l<256 ^ l.length
 | []=>by simp[num]
 | b::l=>by
  obtain⟨d,c⟩:=fC l;have e:b.toNat<256:=b.toNat_lt;simp only[num,List.length_cons,Int.pow_succ];omega
def lit (n:Int):Nat→List UInt8
 | 0=>[]
 | c+1=>UInt8.ofNat (n % 256).toNat::lit (n / 256) c
theorem cu (n:Int) (c:Nat):(lit n c).length=c:=by
 induction c generalizing n with
 | zero=>rfl
 | succ c ih=>simp[lit,ih]
def ET (n:Int) (c:Int):Int:=(n*2 % 2147483648+n / 1073741824+c) % 2147483648
def Iz (l:List UInt8) (n:Int):Int:=l.foldl (fun n b=>ET n b.toNat) n
theorem tz (j:Nat) (b:j≤63) (n:Int) (d:0≤n) (c:n<2 ^ j):IntKind.i64.wrap n=n:=by
 have Y:(2:Int) ^ j≤2 ^ 63:=by
  have:(2:Nat) ^ j≤2 ^ 63:=Nat.pow_le_pow_right au b
  exact_mod_cast this
 have Y:(2:Int) ^ 63=9223372036854775808:=by decide
 rw[IntKind.wrap_i64];omega
theorem uR (s:ByteArray) (k:Nat) (h:k<s.size):(bl s).drop k=s[k]::(bl s).drop (k+1):=List.drop_eq_getElem_cons (l:=bl s) h
theorem Bh (n:Nat) (h:n≤6):(256:Int) ^ n≤281474976710656:=by
 have:n=0∨n=1∨n=2∨n=3∨n=4∨n=5∨n=6:=by omega
 rcases this with rfl | rfl | rfl | rfl | rfl | rfl | rfl<;>decide
theorem E8 (l:List UInt8) (h:l.length≤6):num l<281474976710656:=Int.lt_of_lt_of_le (fC l).2 (Bh _ h)
theorem Au (k:Nat):(2:Int) ^ (8*k)=256 ^ k:=by rw[Int.pow_mul];rfl
def bA (b:UInt8):Value:=.int .u8 b.toNat
theorem tb (n:Int):bA (UInt8.ofNat (n % 256).toNat)=.int .u8 (n % 256):=by
 have Y:0≤n % 256:=Int.emod_nonneg _ au;have Y:n % 256<256:=Int.emod_lt_of_pos _ au;unfold bA
 congr 1
 simp[UInt8.toNat_ofNat'];omega
theorem wz (n:Int) (k:Nat):lit n (k+1)=lit n k ++ [UInt8.ofNat (n / 256 ^ k % 256).toNat]:=by
 induction k generalizing n with
 | zero=>simp[lit]
 | succ k ih=>
  have:lit n (k+1+1)=UInt8.ofNat (n % 256).toNat::lit (n / 256) (k+1):=rfl;rw[this,ih,Int.pow_succ,Int.mul_comm,←Int.ediv_ediv_of_nonneg au]
  rfl
theorem sT {a w:World} (h:Below a.heap.size a w) (n:Nat):Below a.heap.size a (w.drewN n):=⟨h.os,h.tape,h.output,h.size,h.block⟩
theorem eu {a w:World} (h:Below a.heap.size a w) (o:Obj):Below a.heap.size a (w.alloc o):=h.alloc h.size o
theorem dW {a b c:World} (h:Below a.heap.size a b) (k:Below b.heap.size b c):Below a.heap.size a c:=h.trans (k.mono h.size)
theorem du {P:Prop} (h:P:=by repeat (first | assumption | exact Below.refl _ _ | refine sT ?_ _ | refine eu ?_ _ | refine dW ?_ (by assumption) | refine Below.trans ?_ (by assumption))):P:=h
def Rd (w:World) (B:Nat) (A:Option Addr) (xs:List Value):Prop:=∀j u,xs[j]? = some u→∃b o,A=some ⟨b,o,none⟩∧b<B∧w.cell? ⟨b,o+j,none⟩=some u
theorem Rd.below {w c:World} {B:Nat} {A:Option Addr} {xs:List Value} (h:Rd w B A xs) (d:Below B w c):Rd c B A xs:=fun j u f=>by
 obtain⟨b,o,e,hB,i⟩:=h j u f;exact⟨b,o,e,hB,(d.cell (p:=⟨b,o+j,none⟩) hB).trans i⟩
theorem Rd.mono {w:World} {B c:Nat} {A:Option Addr} {xs:List Value} (h:Rd w B A xs) (hB:B≤c):Rd w c A xs:=fun j u e=>by
 obtain⟨b,o,d,i,f⟩:=h j u e;exact⟨b,o,d,by omega,f⟩
theorem Rd.below' {w b:World} {A:Option Addr} {xs:List Value} (h:Rd w w.heap.size A xs) (c:Below w.heap.size w b):Rd b b.heap.size A xs:=(h.below c).mono c.size
theorem Rd.nil (w:World) (B:Nat) (A:Option Addr):Rd w B A []:=fun j u b=>by simp at b
theorem Rd.opened {w:World} {B:Nat} {A:Option Addr} {xs:List Value} (h:Rd w B A xs) (hne:0<xs.length) :
 ∃b o,A=some ⟨b,o,none⟩∧b<B∧∀j u,xs[j]? = some u→w.cell? ⟨b,o+j,none⟩=some u:=by
 obtain⟨b,o,d,hB,_⟩:=h 0 xs[0] (List.getElem?_eq_getElem hne);refine⟨b,o,d,hB,fun j u f=>?_⟩;obtain⟨b',o',c,_,i⟩:=h j u f;rw[d] at c;injection c with e;injection e with e1 e2;subst e1 e2;exact i
theorem Rd.of_own {w:World} {b:Nat} {e:TypeId} {size n c:Nat} {A:Option Addr} {xs:List Value} (h:w.ownsRow b e size (.slice A n c) n xs):Rd w w.heap.size A xs:=fun j u f=>by
 have l:=h.1;have k:j<xs.length:=(List.getElem?_eq_some_iff.1 f).1;rcases h.2 with ⟨h',i⟩ | ⟨g,cap,cur,h',_,hg,_⟩
 · rw[i] at l;omega
 · injection h' with h1 h2 h3
   subst h1 h3;refine⟨g,0,rfl,?_,?_⟩
   · rcases Nat.lt_or_ge g w.heap.size with d | d
     · exact d
     · rw[Array.getElem?_eq_none d] at hg;cases hg
   · rw[Nat.zero_add,h.cellAt j ab];exact f
def df {α:Type} (f:Nat→α→Int):Nat→List α→Int × Int
 | _,[]=>(0,0)
 | i,x::l=>if f i x=0 then df f (i+1) l else (i,f i x)
theorem j0 {α:Type} (f:Nat→α→Int):∀(l:List α) (i:Nat),(df f i l).2=0→∀j (h:j<l.length),f (i+j) l[j]=0
 | [],_,_,j,h=>absurd h bw
 | x::l,i,h0,j,h=>by
  unfold df at h0
  split at h0
  · rename_i hx
    cases j with
    | zero=>exact hx
    | succ j=>
     have:=j0 f l (i+1) h0 j (al h);rw[show i+(j+1)=i+1+j by omega];exact this
  · rename_i hx
    exact absurd h0 hx
open Go.RowKit
section
variable {P:Program} {ops:Array Oper} {rest:List Oper} {o:Oper} {a:Act} {Q:Exit→Act→World→Prop}
theorem r8 (w:World) (d:Nat) (t ty e:TypeId) (i:TypeInfo) (z:Value) (size bytes:Nat) (ht:P.underlying t=some (.slice e)) (D:P.info? e=some i) (K:i.zero=some z)
 (r:i.size=size) (F:i.bytes=bytes) (E:z.cells.size=size) (y:0<size)
 (v:Value) (n:Nat) (xs:List Value) (f:w.ownsRow d e size v n xs)
 (B:Nat) (A:Option Addr) (m c:Nat) (news:List Value) (H:news.length=m*size) (hr:Rd w B A news) (O:∀u∈news,u.oneCell'=true)
 (M:n+m≤maxLen) (p:(n+m)*bytes≤140737488355328) (q:d≤w.heap.size) :
 ∃v' x,(Builtin.append_ #[t,t] ty #[v,.slice A m c]).run P w=.ok v' x∧x.ownsRow d e size v' (n+m) (xs ++ news)∧w.grownBy x v.ownBlock ∧
  (v'.ownBlock=v.ownBlock∨v'.ownBlock=some w.heap.size):=by
 rcases A with _ | ad
 · have hm:news=[]:=by
    rcases news with _ | ⟨u,l⟩
    · rfl
    · obtain⟨b,o,h,_⟩:=hr 0 u rfl
      cases h
   subst hm
   have G:m=0:=by
    rcases Nat.eq_zero_or_pos m with h | h
    · exact h
    · have:=Nat.mul_pos h y
      simp at H;omega
   subst G;refine⟨v,w,?_,al f,World.grownBy.refl w _,.inl rfl⟩;rcases f.2 with ⟨rfl,rfl⟩ | ⟨g,cap,cur,rfl,_,_,hnc,_⟩
   · simp[Builtin.append_,run_underlying ht,sizeOf,typeInfo,D,Builtin.lenOf,Builtin.firstCells]
   · simp[Builtin.append_,run_underlying ht,sizeOf,typeInfo,D,Builtin.lenOf,Builtin.firstCells,hnc,storeCells]
 · have k:∀j u,news[j]? = some u→w.cell? (ad.add j)=some u:=fun j u N=>by
    obtain⟨b,o,h,_,J⟩:=hr j u N;injection h with h;subst h
    have:(⟨b,o,none⟩:Addr).add j=⟨b,o+j,none⟩:=by unfold Addr.add;split<;>simp_all
    rw[this];exact J
   obtain⟨v',x,s,R,h3,_,I⟩:=run_append_own_at (P:=P) w d t ty e i z size bytes ht D K r F E y v n xs f ad m c news H k O M p q;exact⟨v',x,s,R,h3,I⟩
end
theorem ownsRow_form {w:World} {b:Nat} {e:TypeId} {size n:Nat} {v:Value} {xs:List Value} (h:w.ownsRow b e size v n xs):∃A c,v=.slice A n c∧Rd w w.heap.size A xs:=by
 rcases h.2 with ⟨rfl,rfl⟩ | ⟨g,cap,cur,rfl,_⟩
 · exact⟨none,0,rfl,Rd.of_own h⟩
 · exact⟨_,cap,rfl,Rd.of_own h⟩
theorem aZ {w:World} {c b:Nat} {e:TypeId} {size n:Nat} {v:Value} {xs:List Value} (h:w.ownsRow c e size v n xs) (d:b≤c):w.ownsRow b e size v n xs:=by
 refine⟨h.1,?_⟩;rcases h.2 with h' | ⟨g,cap,cur,h1,h2,h3⟩
 · exact .inl h'
 · exact .inr ⟨g,cap,cur,h1,by omega,h3⟩
theorem cV {w d:World} {b:Nat} {e:TypeId} {size n:Nat} {v:Value} {xs:List Value} (h:w.ownsRow b e size v n xs) (f:Below w.heap.size w d):d.ownsRow b e size v n xs:=by
 refine⟨h.1,?_⟩;rcases h.2 with h' | ⟨g,cap,cur,h1,h2,h3,h4⟩
 · exact .inl h'
 · refine .inr ⟨g,cap,cur,h1,h2,?_,h4⟩
   have:g<w.heap.size:=by
    rcases Nat.lt_or_ge g w.heap.size with c | c
    · exact c
    · rw[Array.getElem?_eq_none c] at h3;cases h3
   rw[f.block g this];exact h3
open Go.RowKit Go.Sort
section
variable {P:Program} {ops:Array Oper} {md:Region.Mode} {C:World→Prop}
def my (P:Program) (md:Region.Mode) (ops:Array Oper) (C:World→Prop) (n:Nat) (L:Array Bool→Act→Prop):Nat→Array Bool→Act→Prop
 | 0,listed,a=>L listed a
 | f+1,listed,a=>Region.ready md ops listed≠[]∧∀i∈Region.ready md ops listed,i<n∧qOp P ops C i (my P md ops C n L f (listed.setIfInBounds i true)) a
theorem jB {n g:Nat} {L:Array Bool→Act→Prop} {Q:Exit→Act→World→Prop} (c:∀listed a w,C w→L listed a→wpAny P md ops Q g listed a w) :
 ∀(f:Nat) (listed:Array Bool) (a:Act) (w:World),C w→my P md ops C n L f listed a→wpAny P md ops Q (f+g) listed a w
 | 0,listed,a,w,hw,h=>by rw[Nat.zero_add];exact c _ _ _ hw h
 | f+1,listed,a,w,hw,h=>by
  rw[Nat.succ_add];exact⟨fun j=>absurd j h.1,fun i e=>wpOp_of_qOp hw (fun a' d b h'=>jB c f _ a' d b h') (h.2 i e).2⟩
theorem sa {n i:Nat} {A:Oper} {v:Value} {L:Array Bool→Act→Prop} (M:ops[i]? = some A) (s:∀(j:Nat) (o:Oper) cs b,ops[j]? = some o→o.op≠.select cs b)
 (O:Region.sinkB md ops n=true) (N:Region.chainB md ops n=true) (R:n<ops.size) (E:i<n)
 (y:∀listed a,L listed a→∀j∈Region.ready md ops listed,n≤j) :
 ∀(f:Nat) (listed:Array Bool) (a:Act),HeadInv md ops n listed →
  (∀j u,ops[j]? = some u→j≠i→listed.getD j true=false→(∀e∈u.after,Region.binds md e=true→e.on≠i)→A.apart ops u=true) →
  i∈Region.ready md ops listed→YieldsIn P ops C A v a →
  my P md ops C n L f (listed.setIfInBounds i true) (a.put A.dst v)→my P md ops C n L (f+1) listed a:=by
 intro f
 induction f with
 | zero=>
  intro listed a inv _ hr G H;have p:=(mem_ready.1 hr).1;refine⟨List.ne_nil_of_mem hr,fun j x=>?_⟩;have l:j<n:=Nat.lt_of_not_le fun h=>tail_waits O N R inv _ i rfl E p j h x;refine⟨l,?_⟩;by_cases c:j=i
  · subst c;exact G.qOp M H
  · exact absurd (y _ _ H j (ready_mono x c)) ab
 | succ f ih=>
  intro listed a inv d hr G H;have p:=(mem_ready.1 hr).1;refine⟨List.ne_nil_of_mem hr,fun j x=>?_⟩;have l:j<n:=Nat.lt_of_not_le fun h=>tail_waits O N R inv _ i rfl E p j h x;refine⟨l,?_⟩;by_cases c:j=i
  · subst c;exact G.qOp M H
  · have S:=(H.2 j (ready_mono x c)).2
    obtain⟨r,u,z,D⟩:=mem_ready.1 x
    have B:∀e∈u.after,Region.binds md e=true→e.on≠i:=fun e U V heq=>by
     have I:=D e U V;rw[heq,getD_both p] at I
     cases I
    have I:=qOp_put z (d j u z c r B) (fun cs b=>s i A cs b M) (fun cs b=>s j u cs b z) G S
    have q:∀k ok,ops[k]? = some ok→k≠i→(listed.setIfInBounds j true).getD k true=false →
     (∀e∈ok.after,Region.binds md e=true→e.on≠i)→A.apart ops ok=true:=fun k ok T K t J=>by
     refine d k ok T K ?_ J;by_cases F:j=k
     · subst F;exact r
     · rw[getD_set_ne true F] at t;exact t
    refine qOp_mono (fun a' h3=>ih (listed.setIfInBounds j true) a' (inv.set x l) q (ready_mono hr (Ne.symm c)) h3.1 ?_) I;rw[Array.setIfInBounds_comm _ _ c];exact h3.2
theorem pn {n g:Nat} {p:Act→Prop} (c:Region.noSelect ops=true) (q:Region.sinkB md ops n=true) (s:Region.chainB md ops n=true) (r:n<ops.size) :
 ∀(l:List Oper) (k:Nat) (listed:Array Bool) (a:Act),(∀j,j<l.length→l[j]? = ops[k+j]?)→k+l.length=n→HeadInv md ops n listed →
 Region.lexHead md ops g l.length k listed=true→wpQuiet P ops C p l a →
 my P md ops C n (fun b a'=>Region.seqB md ops g n b=true∧p a') l.length listed a
 | [],k,listed,a,_,hk,_,hB,h=>by
  obtain rfl:k=n:=al hk;exact⟨by simpa [Region.lexHead] using hB,h⟩
 | o::l,k,listed,a,hl,hk,inv,hB,h=>by
  have f:ops[k]? = some o:=by simpa using (hl 0 bw).symm
  simp only[List.length_cons,Region.lexHead,Bool.and_eq_true] at hB;obtain⟨⟨hr,hf⟩,i⟩:=hB
  have d:k<n:=by simp only[List.length_cons] at hk;omega
  have e:k∈Region.ready md ops listed:=al hr
  have hst:qOp P ops C k (wpQuiet P ops C p l) a:=by unfold qOp;simp only[f];exact h
  obtain⟨v,x,u⟩:=yieldsIn_of_qOp f hst
  exact sa f (Region.noSelect_spec c) q s r d (fun b a' t=>seqB_ready t.1) l.length listed a inv (Region.free_spec f hf) e x
   (pn c q s r l (k+1) _ _ (fun j y=>by have:=hl (j+1) (by simp;omega);simpa [Nat.add_assoc,Nat.add_comm 1 j] using this) (by simp only[List.length_cons] at hk;omega) (inv.set e d) i u)
theorem pE {id:Nat} {Q:Exit→Act→World→Prop} {a:Act} {w:World} {l:List Oper} (n:Nat) (hm:P.follows .mixedOrders=true) (hB:Region.lexTailB .any l.toArray n=true) (v:C { w with drawn:=w.drawn+1 })
 (h:wpQuiet P l.toArray C (fun a'=>∀e,C e→wpList P l.toArray Q (l.drop n) a' e) (l.take n) a):(Code.region id l.toArray true).wp P Q a w:=by
 simp only[Region.lexTailB,Bool.and_eq_true,decide_eq_true_eq] at hB;obtain⟨⟨⟨⟨d,u⟩,y⟩,x⟩,c⟩:=hB;have z:n<l.length:=al u
 have b:(l.take n).length=n:=by simp;omega
 have f:(l.drop n).length=l.toArray.size-n:=by simp
 have i:HeadInv .any l.toArray n (Array.replicate l.toArray.size false):=
  ⟨by simp,fun j A _ q=>(by rw[getD_replicate_false] at q;cases q),fun t _ ht=>getD_in (al ht) (getD_replicate_false _ _)⟩
 have H:=pn (md:=.any) (g:=l.toArray.size-n) d y x u (l.take n) 0 _ a (fun j r=>by
  have k:j<n:=by rw[b] at r;exact r
  simp[k]) (al b) i (by rw[b];exact c) h
 refine wp_region_any hm ?_
 have:=jB (Q:=Q) (g:=l.toArray.size-n) (fun listed a' e p s=>by
  have:=wpAny_of_seq (md:=.any) (Q':=Q) (l.drop n) n listed a' e (fun j=>by simp[List.getElem?_drop]) (by rw[f];exact s.1) (s.2 e p)
  rwa [f] at this) _ _ _ _ v H
 rw[b,show n+(l.toArray.size-n)=l.toArray.size by omega] at this;exact this
theorem cq {id:Nat} {Q:Exit→Act→World→Prop} {a:Act} {w:World} {l:List Oper} (n:Nat) (hm:P.follows .mixedOrders=true) (hB:Region.lexTailB .any l.toArray n=true)
 (h:wpQuiet P l.toArray (fun b=>∃p:Regrown,b=grow (redrawn w p.d) p.os) (fun a'=>∀b,(∃p:Regrown,b=grow (redrawn w p.d) p.os)→wpList P l.toArray Q (l.drop n) a' b) (l.take n) a):(Code.region id l.toArray true).wp P Q a w:=
 pE (C:=fun b=>∃p:Regrown,b=grow (redrawn w p.d) p.os) n hm hB ⟨⟨w.drawn+1,#[]⟩,by rw[grow_empty];rfl⟩ h
end
theorem a7 {w b:World} (h:∃p:Regrown,b=grow (redrawn w p.d) p.os):Below w.heap.size w b:=by
 obtain⟨p,rfl⟩:=h;exact below_regrown _ _ _
@[go_sem] theorem cell?_reg (w:World) (d:Nat) (os:Array Obj) (b o:Nat) (h:b<w.heap.size):(grow (redrawn w d) os).cell? ⟨b,o,none⟩=w.cell? ⟨b,o,none⟩:=
 (below_regrown w d os).cell (p:=⟨b,o,none⟩) h
theorem Calls.reg_pure {P:Program} {f:FuncId} {args:Array Value} {w:World} {d:Nat} {os:Array Obj} {v:Value}
 (h:Calls P f args (grow (redrawn w d) os) fun e i=>e=.returned v∧grow (redrawn w d) os=i):Calls P f args (grow (redrawn w d) os) fun e b=>e=.returned v∧∃p:Regrown,b=grow (redrawn w p.d) p.os:=
 h.mono fun _ _ ⟨c,j⟩=>⟨c,⟨d,os⟩,j.symm⟩
open Go.RowKit Go.Sort
section
variable {P:Program} {ops:Array Oper} {md:Region.Mode} {w:World}
def Ij (P:Program) (w:World) (s:Sem Next) (v:Value):Prop:=∀X,Below w.heap.size w X→Oper.quietUpon P (fun X'=>Below X.heap.size X X') X v (s.run P X)
def YieldsG (P:Program) (ops:Array Oper) (w:World) (o:Oper) (v:Value) (a:Act):Prop:=
 (Region.wanted o (yielded ops a.tmps)=true∧Ij P w (execOp a.eval o) v)∨(Region.wanted o (yielded ops a.tmps)=false∧v=undef)
theorem YieldsG.of_same {o:Oper} {v:Value} {a a':Act} (c:YieldsG P ops w o v a) (d:execOp a'.eval o=execOp a.eval o)
 (b:Region.wanted o (yielded ops a'.tmps)=Region.wanted o (yielded ops a.tmps)):YieldsG P ops w o v a':=by
 unfold YieldsG at *;rw[d,b];exact c
section
variable {m g na:Nat} {oa:Oper} {obj:Obj} {L:Array Bool→Act→Prop} {Q:Exit→Act→World→Prop}
end
def s6:List Oper→Nat→Bool
 | [],_=>true
 | o::l,k=>(match o.dst with | some d=>decide (d<k)&&!(l.any fun o'=>o'.dst==some d) | none=>false)&&s6 l k
theorem l3 {C:World→Prop} {afin:Act} {d:Tmp}:∀(l:List Oper) (a:Act),(∀o∈l,o.dst≠some d)→wpQuiet P ops C (fun a'=>a'=afin) l a→a.tmps[d]? = afin.tmps[d]?
 | [],a,_,h=>by rw[show a=afin from h]
 | o::l,a,hd,h=>by
  have b:∀v,(a.put o.dst v).tmps[d]? = a.tmps[d]?:=fun v=>by
   have:=hd o (List.mem_cons_self ..);unfold Act.put
   split
   · rename_i t ht
     exact Array.getElem?_setIfInBounds_ne (fun e=>this (by rw[ht,e]))
   · rfl
  unfold wpQuiet at h
  split at h
  · obtain⟨v,_,f⟩:=h
    rw[←b v];exact l3 l _ (fun o c=>hd o (List.mem_cons_of_mem _ c)) f
  · rw[←b undef]
    exact l3 l _ (fun o c=>hd o (List.mem_cons_of_mem _ c)) h
theorem qE {C b:World→Prop} {X:World} {v:Value} {r:Result Next} (h:∀W,C W→b W) (hr:Oper.quietUpon P C X v r):Oper.quietUpon P b X v r:=by
 cases r with
 | ok n w'=>
  cases n<;>simp only[Oper.quietUpon] at hr ⊢
  case value u=>exact hr
  case skip=>exact hr
  case enter f args=>exact⟨hr.1,hr.2.mono fun e d ⟨c,i⟩=>⟨c,h _ i⟩⟩
 | halt x w'=>exact hr
end
end Go.Proofs.YtcfdpfmchchkaaaGreatDoor
