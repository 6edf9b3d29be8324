/-
  Chapter 21, plain laws: which operations are valid, kind by kind; what an operation does lies in the bytes that it touches; operations that are apart; inverses.
  Chapter 21: pages: their errors, numbers of bytes, patches, bits.
  Chapter 21: pages: zero bytes, numbers of bytes, the number of a page.
  Checksums and hashes: sums, SumOf, HashOf, with the step as a closure that captures nothing.
  Chapter 21: pages: the number that bytes have, the number of a page.
  Chapter 21, plain laws: an operation is a change of the bytes that it touches; operations that are apart, in any order; inverses; the number of a page.
-/
import Derived.Test.YtcfdpfmchchkaaaGreatDoorNumS
namespace Go.Proofs.YtcfdpfmchchkaaaGreatDoor
set_option maxRecDepth 100000
set_option linter.unusedVariables false
set_option linter.unusedSimpArgs false
open Go.RowKit
def kT (x:Op):Prop:=
 (x.k=0∧x.a=0∧x.e=0∧x.c=0∧x.o.size=0∧x.n.size=0) ∨
 (x.k=1∧x.e=0∧x.c=0∧x.o.size=x.n.size∧0<x.o.size∧x.o.size≤200∧0≤x.a∧(x.o.size:Int)≤512-x.a) ∨
 (x.k=2∧x.c=0∧x.o.size=0∧0<x.n.size∧x.n.size≤200∧0≤x.a∧x.a≤x.e∧x.e≤512-x.n.size) ∨
 (x.k=3∧x.c=0∧x.n.size=0∧0<x.o.size∧x.o.size≤200∧0≤x.a∧x.a+x.o.size≤x.e∧x.e≤512) ∨
 ((x.k=4∨x.k=5)∧x.e=0∧x.o.size=0∧x.n.size=0∧0≤x.a∧x.a≤4095∧1≤x.c∧x.c≤4096-x.a) ∨
 (x.k=6∧x.a=0∧x.e=0∧x.c=0∧x.o.size=512∧x.n.size=512)
theorem wm {x:Op}:e8 x=0↔bf x.k 0 6=true∧cD x=true∧cT x=true∧(!cw x.k||decide (0<cG x))=true∧(!cw x.k||decide (cG x≤200))=true∧eu x=true:=by
 unfold e8
 cases hk:bf x.k 0 6
 · simp
 · rw[if_neg a7,aQ]
   simp only[List.mem_cons,List.not_mem_nil,or_false,forall_eq_or_imp,forall_eq,true_and];rw[aL aq,aL aq,aL aq,aL aq,aL aq]
theorem jc (x:Op):e8 x=0↔kT x:=by
 rw[wm,inB_true];obtain⟨k,a,e,c,o,n⟩:=x;by_cases hk:0≤k∧k≤6
 · have:k=0∨k=1∨k=2∨k=3∨k=4∨k=5∨k=6:=by omega
   rcases this with rfl | rfl | rfl | rfl | rfl | rfl | rfl
   all_goals
    simp only[kT,cD,cT,cw,eu,uZ,ma,gV,mS,mq,bf,Bool.and_eq_true,Bool.or_eq_true,decide_eq_true_eq,beq_iff_eq,Bool.not_eq_true',Bool.and_eq_false_iff,decide_eq_false_iff_not,Bool.or_eq_false_iff,beq_eq_false_iff_ne];simp[-ByteArray.size_eq_zero_iff]
    try simp only[cG]
    try omega
 · constructor
   · intro h;exact absurd h.1 hk
   · intro h;unfold kT at h;dsimp only at h;omega
def eo (p:List UInt8) (l h:Nat):List UInt8:=(p.take h).drop l
def gn (p:List UInt8) (l h:Nat) (m:List UInt8):List UInt8:=p.take l ++ m ++ p.drop h
theorem fp (p:List UInt8) (l h i:Nat):(eo p l h)[i]? = if l+i<h then p[l+i]? else none:=by
 unfold eo;rw[List.getElem?_drop,List.getElem?_take]
theorem fT (p:List UInt8) (l h:Nat) (hh:h≤p.length):(eo p l h).length=h-l:=by
 unfold eo;rw[List.length_drop,List.length_take];omega
theorem ku (p:List UInt8) (l h:Nat) (m:List UInt8) (h1:l≤h) (h2:h≤p.length) (hm:m.length=h-l) (i:Nat) :
 (gn p l h m)[i]? = if i<l then p[i]? else if i<h then m[i-l]? else p[i]?:=by
 unfold gn;rw[List.append_assoc,List.getElem?_append,List.length_take,Nat.min_eq_left ab];by_cases a1:i<l
 · rw[if_pos a1,if_pos a1,List.getElem?_take,if_pos a1]
 · rw[if_neg a1,if_neg a1,List.getElem?_append,hm]
   by_cases a2:i<h
   · rw[if_pos ab,if_pos a2]
   · rw[if_neg ab,if_neg a2,List.getElem?_drop]
     congr 1;omega
theorem ly (p:List UInt8) (l h:Nat) (m:List UInt8) (h1:l≤h) (h2:h≤p.length) (hm:m.length=h-l):(gn p l h m).length=p.length:=by
 unfold gn;simp only[List.length_append,List.length_take,List.length_drop,hm];omega
theorem qY (p:List UInt8) (l h:Nat) (h1:l≤h) (h2:h≤p.length):gn p l h (eo p l h)=p:=by
 apply List.ext_getElem?;intro i;rw[ku p l h _ h1 h2 (fT p l h h2),fp];by_cases a1:i<l
 · rw[if_pos a1]
 · rw[if_neg a1]
   by_cases a2:i<h
   · rw[if_pos a2,if_pos ab];congr 1;omega
   · rw[if_neg a2]
theorem fo (l:List UInt8) (i:Nat):l.getD i 0=(l[i]?).getD 0:=List.getD_eq_getElem?_getD
theorem wk (p:List UInt8) (l h i:Nat) (hi:8*l≤i) (hh:i / 8<h):ia (eo p l h) (i-8*l)=ia p i:=by
 have e1:(i-8*l) / 8=i / 8-l:=by omega
 have e2:(i-8*l) % 8=i % 8:=by omega
 unfold ia;rw[e1,e2,fo,fo,fp,if_pos ab,show l+(i / 8-l)=i / 8 by omega]
theorem vL (p m:List UInt8) (l h i:Nat) (v:Bool) (h1:l≤h) (h2:h≤p.length) (hm:m.length=h-l) (hi:8*l≤i) (hh:i / 8<h) :
 putAt (gn p l h m) i v=gn p l h (putAt m (i-8*l) v):=by
 have e1:(i-8*l) / 8=i / 8-l:=by omega
 have e2:(i-8*l) % 8=i % 8:=by omega
 have e3:(gn p l h m).getD (i / 8) 0=m.getD (i / 8-l) 0:=by
  rw[fo,fo,ku p l h m h1 h2 hm,if_neg ab,if_pos hh]
 have hlen:=ly p l h m h1 h2 hm;unfold putAt;rw[e1,e2,e3];apply List.ext_getElem?;intro j;rw[ku p l h _ h1 h2 (by rw[List.length_set,hm])];by_cases a:i / 8=j
 · rw[←a,List.getElem?_set_self (by rw[hlen];omega),if_neg ab,if_pos hh,List.getElem?_set_self ab]
 · rw[List.getElem?_set_ne a,ku p l h m h1 h2 hm]
   by_cases a1:j<l
   · rw[if_pos a1,if_pos a1]
   · rw[if_neg a1,if_neg a1]
     by_cases a2:j<h
     · rw[if_pos a2,if_pos a2,List.getElem?_set_ne ab]
     · rw[if_neg a2,if_neg a2]
theorem sE (p m:List UInt8) (l h a c:Nat) (v:Bool) (h1:l≤h) (h2:h≤p.length) (hm:m.length=h-l) (hi:8*l≤a) (hh:a+c≤8*h) :
 bO (gn p l h m) a c v=gn p l h (bO m (a-8*l) c v):=by
 induction c with
 | zero=>rfl
 | succ c ih=>
  unfold bO;rw[ih ab,vL p _ l h (a+c) v h1 h2 (by rw[dr,hm]) ab ab,show a+c-8*l=a-8*l+c by omega]
theorem rX (p:List UInt8) (l h a c:Nat) (v:Bool) (hi:8*l≤a) (hh:a+c≤8*h):di (eo p l h) (a-8*l) c v=di p a c v:=by
 induction c with
 | zero=>rfl
 | succ c ih=>
  unfold di;rw[ih ab,show a-8*l+c=a+c-8*l by omega,wk p l h (a+c) ab ab]
def BD (x:Op):Int × Int:=
 if x.k=1 then (x.a,x.a+x.o.size) else if x.k=2 then (x.a,x.e+x.n.size) else if x.k=3 then (x.a,x.e)
 else if x.k=4∨x.k=5 then (x.a / 8,(x.a+x.c-1) / 8+1) else if x.k=6 then (0,512) else (0,0)
def wV (x:Op):Nat:=(BD x).1.toNat
def AU (x:Op):Nat:=(BD x).2.toNat
def BC (x:Op) (m:List UInt8):List UInt8:=
 if x.k=1 then bl x.n else if x.k=2 then bl x.n ++ m.take (x.e-x.a).toNat
 else if x.k=3 then m.drop x.o.size ++ List.replicate x.o.size 0
 else if x.k=4 then bO m (x.a.toNat-8*wV x) x.c.toNat true
 else if x.k=5 then bO m (x.a.toNat-8*wV x) x.c.toNat false
 else if x.k=6 then bl x.n else m
def BH (x:Op) (m:List UInt8):Bool:=
 if x.k=1 then m==bl x.o else if x.k=2 then jG (m.drop (x.e-x.a).toNat) else if x.k=3 then m.take x.o.size==bl x.o
 else if x.k=4 then di m (x.a.toNat-8*wV x) x.c.toNat true
 else if x.k=5 then di m (x.a.toNat-8*wV x) x.c.toNat false
 else if x.k=6 then m==bl x.o else true
theorem rh (s:ByteArray):∀(n i:Nat) (r:List UInt8),s.size-i=n→ByteArray.toList.loop s i r=r.reverse ++ (bl s).drop i:=by
 intro n
 induction n with
 | zero=>
  intro i r h;unfold ByteArray.toList.loop;rw[if_neg ab,List.drop_of_length_le (by rw[aO];omega),List.append_nil]
 | succ n ih=>
  intro i r h;unfold ByteArray.toList.loop;rw[if_pos ab,ih (i+1) _ ab,uB s i ab,List.reverse_cons,List.append_assoc]
  have:s.get! i=s[i]'ab:=by
   show s.data[i]! = _;rw[getElem!_pos s.data i (by show i<s.size;omega)];rfl
  rw[this];rfl
theorem toList_eq (s:ByteArray):s.toList=bl s:=by
 unfold ByteArray.toList;rw[rh s _ 0 [] rfl];rfl
theorem isEmpty_eq (s:ByteArray):s.toList.isEmpty=(s.size==0):=by
 rw[toList_eq,Bool.eq_iff_iff,List.isEmpty_iff,beq_iff_eq,←aO,List.length_eq_zero_iff]
theorem toList_nil (s:ByteArray):(s.toList=[])=(s.size=0):=by
 rw[toList_eq,←aO,List.length_eq_zero_iff]
theorem pA (a b:Nat):((a:Int)==(b:Int))=(a==b):=by
 rw[Bool.eq_iff_iff,beq_iff_eq,beq_iff_eq];omega
open Go.RowKit Go.Sort
theorem fJ (s:ByteArray) (w:World) (hs:s.size≤maxLen) :
 Calls Tryz.prog 150 #[.string s] w fun e w'=>e=.returned (.int .i64 (bY s))∧w=w':=by
 unfold maxLen at hs
 go_enter Tryz.func150,Tryz.ntmps150
 go_wp2_with (go_at_call 151;refine(aA _ _ _).mono ?_;rintro e w' ⟨rfl,rfl⟩)
 go_ret
 exact⟨Ai (by unfold bY;rw[show(512:Int)=((512:Nat):Int) from rfl,pA]),rfl⟩
def qU (n:Int):Int:=bn (bf n 1 2147483647) 2
theorem nO (n:Int) (w:World) :
 Calls Tryz.prog 203 #[.int .i64 n] w fun e w'=>e=.returned (.int .i64 (qU n))∧w=w':=by
 go_enter Tryz.func203,Tryz.ntmps203
 go_wp2_with (first | (go_at_call 151;refine(aA _ _ _).mono ?_;rintro e w' ⟨rfl,rfl⟩) | (go_at_call 152;refine(aT _ _ _ _).mono ?_;rintro e w' ⟨rfl,rfl⟩))
 go_ret
 exact⟨rfl,rfl⟩
theorem kq (n:Int) (w:World) :
 Calls Tryz.prog 173 #[.int .i64 n] w fun e w'=>e=.returned (.bool (bf n 0 2147483647))∧w=w':=by
 go_enter Tryz.func173,Tryz.ntmps173
 go_wp2_with (go_at_call 74;refine(a6 _ _ _ _).mono ?_;rintro e w' ⟨rfl,rfl⟩)
 go_ret
 exact⟨rfl,rfl⟩
theorem lI (s b:ByteArray) (a:Nat) (w:World) (hs:s.size≤3100) (h:a+b.size≤s.size) :
 Calls Tryz.prog 215 #[.string s,.int .i64 a,.string b] w fun e w'=>e=.returned (.string (qN s a b))∧Below w.heap.size w w':=by
 have Y:a≤s.size:=by omega
 have Y:(a+b.size:Int)≤s.size:=by omega
 have hz1:(s.extract 0 a ++ b).size=a+b.size:=by rw[ByteArray.size_append,ByteArray.size_extract];omega
 go_enter Tryz.func215,Tryz.ntmps215
 go_wp2
 (refine wp_region_quiet_below aa aa ?_;(repeat (go_big_quiet_step ((first | fail))));(with_reducible refine wpQuiet_nil ?_);intro W1 hreg;have hbW1:=cp hreg;clear hreg;obtain⟨hcW1,hfW1⟩:=cL hbW1)
 go_wp2
 go_ret
 exact⟨rfl,hbW1⟩
open Go.RowKit Go.Sort
theorem tt {α:Type} (p:α→Bool):∀l:List α,l.dropWhile p=[]↔∀x∈l,p x=true
 | []=>by simp
 | a::l=>by
  rw[List.dropWhile_cons]
  cases h:p a
  · simp[h]
  · simp only[if_true,tt p l,List.mem_cons,forall_eq_or_imp,h,true_and]
theorem uE {α:Type} (p:α→Bool):∀(l:List α) (x:α) (r:List α),l.dropWhile p=x::r→p x=false
 | [],x,r,h=>by simp at h
 | a::l,x,r,h=>by
  rw[List.dropWhile_cons] at h
  cases hp:p a
  · rw[hp,if_neg aq] at h;injection h with h1 _;rw[←h1];exact hp
  · rw[hp,if_pos rfl] at h;exact uE p l x r h
theorem yh {α:Type} (p:α→Bool):∀(l:List α) (x:α),x∈l.dropWhile p→x∈l
 | [],x,h=>by simp at h
 | a::l,x,h=>by
  rw[List.dropWhile_cons] at h
  cases hp:p a
  · rw[hp,if_neg aq] at h;exact h
  · rw[hp,if_pos rfl] at h;exact List.mem_cons_of_mem _ (yh p l x h)
theorem og (l:List UInt8):(l.reverse.dropWhile (·==0)).reverse.dropWhile (·==0)=[]↔jG l=true:=by
 unfold jG;rw[List.all_eq_true,tt]
 constructor
 · intro h b hb
   cases hd:l.reverse.dropWhile (·==0) with
   | nil=>exact(tt _ _).1 hd b (List.mem_reverse.2 hb)
   | cons x r=>
    have h1:=uE _ _ _ _ hd;have h2:=h x (by rw[hd];simp);rw[h1] at h2;cases h2
 · intro h x hx
   exact h x (List.mem_reverse.1 (yh _ _ _ (List.mem_reverse.1 hx)))
theorem sU (s:ByteArray) (w:World) (hs:s.size≤3100) :
 Calls Tryz.prog 241 #[.string s] w fun e w'=>e=.returned (.bool (jG (bl s)))∧Below w.heap.size w w':=by
 have hC:Calls Tryz.prog 266 #[.string s,.string ⟨#[0]⟩] w fun e w'=>e=.returned (.string ⟨(Lib.trimB s.data.toList 0).toArray⟩)∧Below w.heap.size w w':=
  (Tryz.strings_Trim_one s 0 aq w ab).mono fun e w' ⟨h1,h2⟩=>⟨h1,by rcases h2 with rfl | rfl;exact Below.refl _ _;exact(Below.refl _ _).drew⟩
 obtain⟨t,ht⟩:∃t:ByteArray,t=⟨(Lib.trimB s.data.toList 0).toArray⟩:=⟨_,rfl⟩;rw[←ht] at hC
 have e:t.toList.isEmpty=jG (bl s):=by
  rw[toList_eq,ht,Bool.eq_iff_iff,List.isEmpty_iff];exact og (bl s)
 have E:=Lib.hid e;have HC:=Lib.hid hC;clear ht e hC
 go_enter Tryz.func241,Tryz.ntmps241
 go_wp2_with (go_at_call 266;refine(HC.out).mono ?_;rintro e W1 ⟨rfl,hbW1⟩;obtain⟨hcW1,hfW1⟩:=cL hbW1)
 go_ret
 exact⟨Dc E.out,hbW1⟩
theorem vk (n:Nat) (w:World) (hn:n≤3100) :
 Calls Tryz.prog 242 #[.int .i64 n] w fun e w'=>e=.returned (.string (bs (bK n)))∧Below w.heap.size w w':=by
 go_enter Tryz.func242,Tryz.ntmps242
 go_wp2_with (go_at_call 267;refine(sk n (bs (bK n)) _ rfl ab).mono ?_;rintro e W1 ⟨rfl,hbW1⟩;obtain⟨hcW1,hfW1⟩:=cL hbW1)
 go_ret
 exact⟨rfl,hbW1⟩
theorem kJ (n:Int) (c:Nat) (hn:0≤n) (hn2:n<9223372036854775808) (hc:c≤1000) (w:World) :
 Calls Tryz.prog 216 #[.int .i64 n,.int .i64 c] w fun e w'=>e=.returned (.string (bs (lit n c)))∧Below w.heap.size w w':=by
 obtain⟨i0,hi,hz0,hz1,hz2⟩:=info_parts uy
 go_enter Tryz.func216,Tryz.ntmps216
 go_wp2
 go_loopw [0,5,7] (fun m v i wr=>∃k:Nat,k≤c∧i=.int .i64 k∧Below w.heap.size w wr∧(∃q:Int,0≤q∧q<9223372036854775808∧m=.int .i64 q∧q=n / 256 ^ k)∧wr.ownsRow w.heap.size 5 1 v k ((lit n k).map bb)) (fun _ _ i _=>c-(intOf i).toNat)
 case atStart=>exact⟨0,Nat.zero_le _,rfl,Below.refl _ _,⟨n,hn,hn2,rfl,by simp⟩,World.ownsRow_nil _ _ _ _⟩
 case round=>
  obtain⟨k,hk,rfl,hb,⟨q,hq0,hq1,rfl,hq⟩,hown⟩:=hrel;have HQ:=Lib.hid hq;clear hq;by_cases hlt:k<c
  · have hbs:=hb.size
    go_wp2_with (at_builtin;refine wpList_append_own _ rfl (.tmp 9) (.tmp 12) 126 rfl w.heap.size 5 i0 (.int .u8 0) 1 1 Tryz.underlying126 hi hz0 hz1 hz2 rfl aq _ _ _ rfl (hown.alloc _) ⟨wr.heap.size,0,none⟩ 1 1 [.int .u8 (q % 256)] rfl rfl ?c1 ?c2 ?c3 ?c4 ?c5 ?_)
    case c1=>
     intro j u hj
     match j,hj with
     | 0,hj=>simp at hj;subst hj;simp[Addr.add]
    case c2=>intro u hu;simp at hu;subst hu;rfl
    case c3=>unfold maxLen;omega
    case c4=>omega
    case c5=>simp;omega
    intro v' w1 hown' hgrow _;have hb1:Below w.heap.size w w1:=(hb.alloc hbs _).grown hgrow (by simp;omega) (fun g hg=>(hown.lt g hg).1)
    have hown2:w1.ownsRow w.heap.size 5 1 v' (k+1) ((lit n (k+1)).map bb):=by
     rw[zh,List.map_append,List.map_cons,List.map_nil,vA,←HQ.out];exact hown'
    clear hown' hgrow hown hb
    go_wp2
    go_roundw
    case rel=>exact⟨k+1,by omega,by go_num,hb1,⟨q / 256,by omega,by omega,rfl,by rw[HQ.out,Int.pow_succ,Int.ediv_ediv_of_nonneg (Int.le_of_lt (Int.pow_pos aq))]⟩,hown2⟩
    case measure=>simp[intOf];omega
  · obtain rfl:k=c:=by omega
    have hconv:=rz hown;clear hown
    go_wp2
    go_ret
    exact⟨rfl,hb⟩
theorem pQ (k:IntKind) (x y:Int):bits .or k x y=bits .or k y x:=by
 unfold bits;simp only[BitVec.or_comm]
theorem BR (m c:Int) (k:Nat) (h0:0≤m) (h1:m<2 ^ (8*k)) (Za:0≤c) (hc:c<256) (hk:k≤5):bits .or .i64 m (c*2 ^ (8*k))=m+c*2 ^ (8*k):=by
 have hp:(2:Int) ^ (8*k)≤2 ^ 40:=by
  have:(2:Nat) ^ (8*k)≤2 ^ 40:=Nat.pow_le_pow_right aq ab
  exact_mod_cast this
 have hq:(0:Int)<2 ^ (8*k):=Int.pow_pos aq
 have hb:c*2 ^ (8*k)<2 ^ 62:=by
  have:c*2 ^ (8*k)≤255*2 ^ 40:=Int.mul_le_mul ab hp (Int.le_of_lt hq) aq;omega
 have Zb:(2:Int) ^ (8*k)≤2 ^ 62:=by omega
 rw[pQ,bits_join .i64 62 aq (pj 62 aq) (8*k) _ _ (Int.mul_nonneg Za (Int.le_of_lt hq)) (Int.mul_emod_left _ _) hb h0 h1 ab,Int.add_comm]
open Go.RowKit
theorem lh (w:World) (e:TypeId) (s:ByteArray):Below w.heap.size w (Lib.bytesWorld w e s):=
 ⟨rfl,rfl,rfl,by rw[Lib.bytesWorld_size];omega,fun k hk=>Lib.bytesWorld_at_old w e s k hk⟩
open Go.RowKit Go.Sort
theorem xF (l:List UInt8) (c:UInt8):num (l ++ [c])=num l+c.toNat*256 ^ l.length:=by
 induction l with
 | nil=>simp[num]
 | cons b l ih=>
  simp only[List.cons_append,num,ih,List.length_cons,Int.pow_succ];rw[Int.mul_add];generalize (256:Int) ^ l.length=P
  have:256*((c.toNat:Int)*P)=(c.toNat:Int)*(P*256):=by rw[Int.mul_comm 256,Int.mul_assoc]
  omega
theorem tq (s:ByteArray) (k:Nat) (h:k<s.size):(bl s).take (k+1)=(bl s).take k ++ [s[k]]:=by
 rw[List.take_succ_eq_append_getElem (by rw[aO];exact h)];rfl
theorem eH (s:ByteArray) (w:World) (hs:s.size≤6) :
 Calls Tryz.prog 171 #[.string s] w fun e w'=>e=.returned (.int .i64 (num (bl s)))∧Below w.heap.size w w':=by
 have hconv:=Lib.run_convert_string_bytes (P:=Tryz.prog) w 9 126 5 s Tryz.underlying9 Tryz.underlying126 Tryz.underlying5;obtain⟨W1,hW1⟩:∃W1,W1=Lib.bytesWorld w 5 s:=⟨_,rfl⟩;obtain⟨cap,hcap⟩:∃c,c=grownCap w s.size 0 5:=⟨_,rfl⟩;rw[←hW1,←hcap] at hconv
 have hbelow:Below w.heap.size w W1:=by rw[hW1];exact lh _ _ _
 have hcell:∀j,j<s.size→W1.cell? ⟨w.heap.size,j,none⟩=some (.int .u8 ((bl s).getD j 0).toNat):=fun j hj=>by rw[hW1];exact Lib.bytesWorld_cell _ _ _ _ hj
 clear hW1 hcap;have HB:=Lib.hid hbelow;have HC:=Lib.hid hcell;clear hbelow hcell
 go_enter Tryz.func171,Tryz.ntmps171
 go_wp2
 go_loop [3,9] (fun n i=>∃(k:Nat) (m:Int),k≤s.size∧i=.int .i64 k∧n=.int .i64 m∧0≤m∧m<256 ^ k∧m=num ((bl s).take k)) (fun _ i=>s.size-(intOf i).toNat)
 case atStart=>exact⟨0,0,Nat.zero_le _,rfl,rfl,by omega,by decide,rfl⟩
 case round=>
  obtain⟨k,m,hk,rfl,rfl,hm0,hm1,hf⟩:=hrel;have HF:=Lib.hid hf;clear hf;by_cases hlt:k<s.size
  · have hc:=HC.out k hlt
    obtain⟨b,hb⟩:∃b,b=(bl s).getD k 0:=⟨_,rfl⟩;rw[←hb] at hc
    have e1:b=s[k]:=by rw[hb,List.getD_eq_getElem?_getD,List.getElem?_eq_getElem (by rw[aO];exact hlt)];rfl
    have E1:=Lib.hid e1;clear e1 hb;have hb2:b.toNat<256:=b.toNat_lt;have hor:=BR m b.toNat k hm0 (by rw[vj];exact hm1) ab ab ab
    have hnx:m+b.toNat*256 ^ k=num ((bl s).take (k+1))∧0≤m+b.toNat*256 ^ k∧m+b.toNat*256 ^ k<256 ^ (k+1):=by
     have h1:=tq s k hlt;have h2:=dS ((bl s).take (k+1));rw[List.length_take,aO,Nat.min_eq_left ab] at h2
     have h3:num ((bl s).take (k+1))=m+b.toNat*256 ^ k:=by
      rw[h1,xF,←HF.out,List.length_take,aO,Nat.min_eq_left ab,E1.out]
     rw[←h3];exact⟨rfl,h2.1,h2.2⟩
    have HN:=Lib.hid hnx;clear hnx
    have:k=0∨k=1∨k=2∨k=3∨k=4∨k=5:=by omega
    rcases this with rfl | rfl | rfl | rfl | rfl | rfl
    · simp only[Nat.reduceMul,Int.reducePow,Nat.reduceAdd,Int.mul_one] at hor
      simp at hm1
      go_wp2
      go_round
      case rel=>exact⟨0+1,_,by omega,by go_num,rfl,by simpa using HN.out.2.1,by simpa using HN.out.2.2,by simpa using HN.out.1⟩
      case measure=>simp[intOf];omega
    · simp only[Nat.reduceMul,Int.reducePow,Nat.reduceAdd,Int.mul_one] at hor
      simp at hm1
      go_wp2
      go_round
      case rel=>exact⟨1+1,_,by omega,by go_num,rfl,by simpa using HN.out.2.1,by simpa using HN.out.2.2,by simpa using HN.out.1⟩
      case measure=>simp[intOf];omega
    · simp only[Nat.reduceMul,Int.reducePow,Nat.reduceAdd,Int.mul_one] at hor
      simp at hm1
      go_wp2
      go_round
      case rel=>exact⟨2+1,_,by omega,by go_num,rfl,by simpa using HN.out.2.1,by simpa using HN.out.2.2,by simpa using HN.out.1⟩
      case measure=>simp[intOf];omega
    · simp only[Nat.reduceMul,Int.reducePow,Nat.reduceAdd,Int.mul_one] at hor
      simp at hm1
      go_wp2
      go_round
      case rel=>exact⟨3+1,_,by omega,by go_num,rfl,by simpa using HN.out.2.1,by simpa using HN.out.2.2,by simpa using HN.out.1⟩
      case measure=>simp[intOf];omega
    · simp only[Nat.reduceMul,Int.reducePow,Nat.reduceAdd,Int.mul_one] at hor
      simp at hm1
      go_wp2
      go_round
      case rel=>exact⟨4+1,_,by omega,by go_num,rfl,by simpa using HN.out.2.1,by simpa using HN.out.2.2,by simpa using HN.out.1⟩
      case measure=>simp[intOf];omega
    · simp only[Nat.reduceMul,Int.reducePow,Nat.reduceAdd,Int.mul_one] at hor
      simp at hm1
      go_wp2
      go_round
      case rel=>exact⟨5+1,_,by omega,by go_num,rfl,by simpa using HN.out.2.1,by simpa using HN.out.2.2,by simpa using HN.out.1⟩
      case measure=>simp[intOf];omega
  · go_wp2
    go_ret
    exact⟨Ai (by rw[HF.out,List.take_of_length_le (by rw[aO];omega)]),HB.out⟩
def AE (p:ByteArray):Int:=num (((bl p).drop 8).take 4) % 2147483648
theorem wT (p:ByteArray) (w:World) (hp:p.size=512) :
 Calls Tryz.prog 204 #[.string p] w fun e w'=>e=.returned (.int .i64 (AE p))∧Below w.heap.size w w':=by
 obtain⟨t,ht⟩:∃t,t=(p.extract 8 p.size).extract 0 4:=⟨_,rfl⟩
 have hbt:bl t=((bl p).drop 8).take 4:=by rw[ht];exact qm p 8 4
 have hsz:t.size=4:=by rw[←aO,hbt,List.length_take,List.length_drop,aO];omega
 have hC:=fun w=>eH t w ab;have hb0:=(dS (bl t)).1;have hb1:=(dS (bl t)).2;rw[aO,hsz] at hb1;obtain⟨m,hm⟩:∃m,m=num (bl t):=⟨_,rfl⟩;rw[←hm] at hC hb0 hb1;have hmask:bits .and .i64 m 2147483647=m % 2147483648:=bits_mask .i64 62 aq (pj 62 aq) 31 aq m hb0 ab
 have e:AE p=m % 2147483648:=by unfold AE;rw[hm,hbt]
 have E:=Lib.hid e;have HC:=Lib.hid hC;have HP:=Lib.hid hp
 have hge:12≤p.size:=by omega
 have hlt:p.size<1000:=by omega
 have ht':(p.extract 8 p.size).extract 0 4=t:=ht.symm;clear hm e hC hb1 hsz hbt ht hp
 go_enter Tryz.func204,Tryz.ntmps204
 go_wp2_with (go_at_call 171;refine(HC.out _).mono ?_;rintro e W1 ⟨rfl,hbW1⟩;obtain⟨hcW1,hfW1⟩:=cL hbW1)
 go_ret
 exact⟨Ai E.out.symm,hbW1⟩
def zK (p:ByteArray) (n:Int):ByteArray:=qN p 8 (bs (lit n 4))
theorem lu (p:ByteArray) (n:Int) (w:World) (hp:p.size=512) (h0:0≤n) (h1:n<9223372036854775808) :
 Calls Tryz.prog 153 #[.string p,.int .i64 n] w fun e w'=>e=.returned (.string (zK p n))∧Below w.heap.size w w':=by
 have h4:(bs (lit n 4)).size=4:=by rw[fI,jx]
 have hle:p.size≤3100:=by omega
 have hle2:8+(bs (lit n 4)).size≤p.size:=by omega
 clear hp h4
 go_enter Tryz.func153,Tryz.ntmps153
 go_wp2_with (first | (go_at_call 216;refine(kJ n 4 h0 h1 ab _).mono ?_;rintro e W1 ⟨rfl,hbW1⟩;obtain⟨hcW1,hfW1⟩:=cL hbW1) | (go_at_call 215;refine(lI p _ 8 _ hle hle2).mono ?_;rintro e W2 ⟨rfl,hbW2⟩;obtain⟨hcW2,hfW2⟩:=cL hbW2))
 go_ret
 exact⟨rfl,fb⟩
open Go.RowKit
theorem oG (p:List UInt8) (l h k:Nat) (hk:l+k≤h):(eo p l h).take k=eo p l (l+k):=by
 apply List.ext_getElem?;intro i;rw[List.getElem?_take,fp,fp];by_cases a:i<k
 · rw[if_pos a,if_pos ab,if_pos ab]
 · rw[if_neg a,if_neg ab]
theorem ot (p:List UInt8) (l h k:Nat):(eo p l h).drop k=eo p (l+k) h:=by
 apply List.ext_getElem?;intro i;rw[List.getElem?_drop,fp,fp,show l+k+i=l+(k+i) by omega]
theorem eK (p:List UInt8) (l k:Nat):(p.drop l).take k=eo p l (l+k):=by
 apply List.ext_getElem?;intro i;rw[List.getElem?_take,List.getElem?_drop,fp];by_cases a:i<k
 · rw[if_pos a,if_pos ab]
 · rw[if_neg a,if_neg ab]
theorem yz (p:List UInt8) (n:Nat) (h:p.length=n):eo p 0 n=p:=by unfold eo;rw[←h,List.take_length,List.drop_zero]
theorem db {s:ByteArray} (h:s.size=0):s=⟨#[]⟩:=ByteArray.size_eq_zero_iff.1 h
structure OpRep (p:ByteArray) (x:Op):Prop where
 le:wV x≤AU x
 in':AU x≤512
 mid:∀m,m.length=AU x-wV x→(BC x m).length=m.length
 do':bl (ep p x)=gn (bl p) (wV x) (AU x) (BC x (eo (bl p) (wV x) (AU x)))
 fit:dh p x=BH x (eo (bl p) (wV x) (AU x))
theorem Ck {p:ByteArray} {x:Op} (hp:p.size=512) (h:kT x):OpRep p x:=by
 have hpl:(bl p).length=512:=by rw[aO];exact hp
 obtain⟨k,a,e,c,o,n⟩:=x;unfold kT at h
 dsimp only at h
 rcases h with ⟨rfl,rfl,rfl,rfl,ho,hn⟩ | ⟨rfl,rfl,rfl,hs,h1,h2,h3,h4⟩ | ⟨rfl,rfl,ho,h1,h2,h3,h4,h5⟩ | ⟨rfl,rfl,hn,h1,h2,h3,h4,h5⟩ | ⟨hk,rfl,ho,hn,h1,h2,h3,h4⟩ | ⟨rfl,rfl,rfl,rfl,ho,hn⟩
 · refine⟨Nat.le_refl _,Nat.zero_le _,fun m hm=>rfl,?_,rfl⟩
   show bl p=gn (bl p) 0 0 (eo (bl p) 0 0);rw[qY _ _ _ (Nat.le_refl _) ab]
 · obtain⟨A,rfl⟩:=Int.eq_ofNat_of_zero_le h3
   have e1:wV ⟨1,A,0,0,o,n⟩=A:=rfl;have e2:AU ⟨1,A,0,0,o,n⟩=A+o.size:=rfl;refine⟨by omega,by omega,fun m hm=>?_,?_,?_⟩
   · show(bl n).length=m.length
     rw[aO];omega
   · rw[e1,e2]
     show bl (qN p A n)=gn (bl p) A (A+o.size) (bl n);rw[uN,←hs];rfl
   · rw[e1,e2]
     show(((bl p).drop A).take o.size==bl o)=(eo (bl p) A (A+o.size)==bl o);rw[eK]
 · obtain⟨A,rfl⟩:=Int.eq_ofNat_of_zero_le h3
   obtain⟨E,rfl⟩:=Int.eq_ofNat_of_zero_le (show 0≤e by omega);have e1:wV ⟨2,A,E,0,o,n⟩=A:=rfl;have e2:AU ⟨2,A,E,0,o,n⟩=E+n.size:=rfl
   have e3:((E:Int)-A).toNat=E-A:=by omega
   refine⟨by omega,by omega,fun m hm=>?_,?_,?_⟩
   · show(bl n ++ m.take ((E:Int)-A).toNat).length=m.length
     rw[List.length_append,aO,List.length_take];omega
   · rw[e1,e2]
     show AT (bl p) A E (bl n)=gn (bl p) A (E+n.size) (bl n ++ (eo (bl p) A (E+n.size)).take ((E:Int)-A).toNat);rw[e3,oG _ _ _ _ ab,show A+(E-A)=E by omega];unfold AT gn eo;rw[aO];simp only[List.append_assoc]
   · rw[e1,e2]
     show jG (((bl p).drop E).take n.size)=jG ((eo (bl p) A (E+n.size)).drop ((E:Int)-A).toNat);rw[e3,ot,eK,show A+(E-A)=E by omega]
 · obtain⟨A,rfl⟩:=Int.eq_ofNat_of_zero_le h3
   obtain⟨E,rfl⟩:=Int.eq_ofNat_of_zero_le (show 0≤e by omega);have e1:wV ⟨3,A,E,0,o,n⟩=A:=rfl;have e2:AU ⟨3,A,E,0,o,n⟩=E:=rfl;refine⟨by omega,by omega,fun m hm=>?_,?_,?_⟩
   · show(m.drop o.size ++ List.replicate o.size 0).length=m.length
     rw[List.length_append,List.length_replicate,List.length_drop];omega
   · rw[e1,e2]
     show Ba (bl p) A E o.size=gn (bl p) A E ((eo (bl p) A E).drop o.size ++ List.replicate o.size 0);rw[ot];unfold Ba gn eo;simp only[List.append_assoc]
   · rw[e1,e2]
     show(((bl p).drop A).take o.size==bl o)=((eo (bl p) A E).take o.size==bl o);rw[eK,oG _ _ _ _ ab]
 · obtain⟨A,rfl⟩:=Int.eq_ofNat_of_zero_le h1
   obtain⟨C,rfl⟩:=Int.eq_ofNat_of_zero_le (show 0≤c by omega);rcases hk with rfl | rfl
   all_goals
    refine⟨?_,?_,?_,?_,?_⟩
    · show((A:Int) / 8).toNat≤(((A:Int)+C-1) / 8+1).toNat
      omega
    · show(((A:Int)+C-1) / 8+1).toNat≤512
      omega
    · intro m hm
      exact dr _ _ _ _
    · show bO (bl p) A C _=gn (bl p) ((A:Int) / 8).toNat (((A:Int)+C-1) / 8+1).toNat (bO (eo (bl p) ((A:Int) / 8).toNat (((A:Int)+C-1) / 8+1).toNat) (A-8*((A:Int) / 8).toNat) C _)
      rw[←sE (bl p) _ _ _ A C _ ab ab (fT _ _ _ ab) ab ab,qY _ _ _ ab ab]
    · show di (bl p) A C _=di (eo (bl p) ((A:Int) / 8).toNat (((A:Int)+C-1) / 8+1).toNat) (A-8*((A:Int) / 8).toNat) C _
      rw[rX _ _ _ _ _ _ ab ab]
 · refine⟨(by show 0≤512;omega),Nat.le_refl 512,fun m hm=>?_,?_,?_⟩
   · show(bl n).length=m.length
     rw[aO,hm];exact hn
   · show bl n=gn (bl p) 0 512 (bl n)
     unfold gn;rw[List.drop_of_length_le ab,List.append_nil,List.take_zero,List.nil_append]
   · show(bl p==bl o)=(eo (bl p) 0 512==bl o)
     rw[yz _ _ hpl]
theorem gg {p:ByteArray} {x:Op} (hp:p.size=512) (h:kT x):(ep p x).size=512:=by
 have r:=Ck hp h
 have hpl:(bl p).length=512:=by rw[aO];exact hp
 rw[←aO,r.do',ly _ _ _ _ r.le (by rw[hpl];exact r.in') (by rw[r.mid _ (fT _ _ _ (by rw[hpl];exact r.in'))];exact fT _ _ _ (by rw[hpl];exact r.in'))];exact hpl
end Go.Proofs.YtcfdpfmchchkaaaGreatDoor
