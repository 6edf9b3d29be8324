/- Numbers of so many bytes -/
import Derived.Test.YtcfdpfmchchkaaaGreatDoorOpA
import Derived.Test.YtcfdpfmchchkaaaGreatDoorShC
namespace Go.Proofs.YtcfdpfmchchkaaaGreatDoor
set_option maxRecDepth 100000
set_option linter.unusedVariables false
set_option linter.unusedSimpArgs false
open Go.RowKit
theorem va:(Tryz.prog.info? 5).map (fun i=>(i.zero,i.size,i.bytes))=some (some (.int .u8 0),1,1):=by kernel_rfl
theorem kM (w:World) (g a n:Nat) (l:List UInt8) (d:n=l.length) (e:∀j (b:j<l.length),w.cell? ⟨g,j,none⟩=some (bA l[j])) :
 (convert 126 9 (.slice (some ⟨g,0,none⟩) n a)).run Tryz.prog w=.ok (.string (bs l)) w:=by
 subst d
 have c:∀j (b:j<l.length),w.cell? ((⟨g,0,none⟩:Addr).add j)=some (.int .u8 (l[j].toNat:Int)):=fun j b=>by
  have:(⟨g,0,none⟩:Addr).add j=⟨g,j,none⟩:=by unfold Addr.add;split<;>simp_all
  rw[this];exact e j b
 exact run_convert_bytes_back (P:=Tryz.prog) w 126 9 5 ⟨g,0,none⟩ a l bY px dr c
theorem qU {w:World} {a n:Nat} {v:Value} {l:List UInt8} (h:w.ownsRow a 5 1 v n (l.map bA)) :
 (convert 126 9 v).run Tryz.prog w=.ok (.string (bs l)) w:=by
 have b:=h.1;simp only[List.length_map,Nat.mul_one] at b;rcases h.2 with ⟨rfl,d⟩ | ⟨g,cap,cur,rfl,_⟩
 · have:l=[]:=List.eq_nil_of_length_eq_zero ab
   subst this;exact run_convert_bytes_nil (P:=Tryz.prog) w 126 5 bY px 0 0 9 dr
 · refine kM w g cap n l b.symm fun j c=>?_
   rw[h.cellAt j ab];simp[c]
theorem cv (n:Int) (c:Nat) (hn:0≤n) (hn2:n<9223372036854775808) (hc:c≤1000) (w:World) :
 Calls Tryz.prog 75 #[.int .i64 n,.int .i64 c] w fun e w'=>e=.returned (.string (bs (lit n c)))∧Below w.heap.size w w':=by
 obtain⟨i0,hi,hz0,hz1,hz2⟩:=info_parts va
 go_enter Tryz.func75,Tryz.ntmps75
 go_wp2
 go_loopw [0,5,6] (fun m v i wr=>∃k:Nat,k≤c∧i=.int .i64 k∧Below w.heap.size w wr∧(∃q:Int,0≤q∧q<9223372036854775808∧m=.int .i64 q∧q=n / 256 ^ k)∧wr.ownsRow w.heap.size 5 1 v k ((lit n k).map bA)) (fun _ _ i _=>c-(intOf i).toNat)
 case atStart=>exact⟨0,Nat.zero_le _,rfl,Below.refl _ _,⟨n,hn,hn2,rfl,by simp⟩,World.ownsRow_nil _ _ _ _⟩
 case round=>
  obtain⟨k,hk,rfl,hb,⟨q,hq0,hq1,rfl,hq⟩,hown⟩:=hrel;have HQ:=Lib.hid hq;clear hq;by_cases hlt:k<c
  · have hbs:=hb.size
    go_wp2_with (at_builtin;refine wpList_append_own _ rfl (.tmp 12) (.tmp 16) 126 rfl w.heap.size 5 i0 (.int .u8 0) 1 1 Tryz.underlying126 hi hz0 hz1 hz2 rfl au _ _ _ rfl (hown.alloc _) ⟨wr.heap.size,0,none⟩ 1 1 [.int .u8 (q % 256)] rfl rfl ?c1 ?c2 ?c3 ?c4 ?c5 ?_)
    case c1=>
     intro j u hj
     match j,hj with
     | 0,hj=>simp at hj;subst hj;simp[Addr.add]
    case c2=>intro u hu;simp at hu;subst hu;rfl
    case c3=>unfold maxLen;omega
    case c4=>omega
    case c5=>simp;omega
    intro v' w1 hown' hgrow _;have hb1:Below w.heap.size w w1:=(hb.alloc hbs _).grown hgrow (by simp;omega) (fun g hg=>(hown.lt g hg).1)
    have hown2:w1.ownsRow w.heap.size 5 1 v' (k+1) ((lit n (k+1)).map bA):=by
     rw[wz,List.map_append,List.map_cons,List.map_nil,tb,←HQ.out];exact hown'
    clear hown' hgrow hown hb
    go_wp2
    go_roundw
    case rel=>exact⟨k+1,by omega,by go_num,hb1,⟨q / 256,by omega,by omega,rfl,by rw[HQ.out,Int.pow_succ,Int.ediv_ediv_of_nonneg (Int.le_of_lt (Int.pow_pos au))]⟩,hown2⟩
    case measure=>simp[intOf];omega
  · obtain rfl:k=c:=by omega
    have hconv:=qU hown;clear hown
    go_wp2
    go_ret
    exact⟨rfl,hb⟩
theorem mu (s:ByteArray) (a c:Nat) (h1:a+c≤s.size) (hs:s.size≤maxLen) (hc:c≤6) (w:World) :
 Calls Tryz.prog 73 #[.string s,.int .i64 a,.int .i64 c] w fun e w'=>e=.returned (.int .i64 (num (((bl s).drop a).take c)))∧w=w':=by
 unfold maxLen at hs
 go_enter Tryz.func73,Tryz.ntmps73
 go_wp2
 go_loop [7,8] (fun n i=>∃(k:Nat),k≤c∧i=.int .i64 ((k:Int)-1)∧n=.int .i64 (num ((((bl s).drop a).take c).drop k))) (fun _ i=>(intOf i+1).toNat)
 case atStart=>exact⟨c,Nat.le_refl _,rfl,by rw[List.drop_of_length_le (by rw[List.length_take];omega)];rfl⟩
 case round=>
  obtain⟨k,hk,rfl,rfl⟩:=hrel;by_cases hlt:1≤k
  · obtain⟨j,rfl⟩:∃j,k=j+1:=⟨k-1,by omega⟩
    have hj:a+j<s.size:=by omega
    have hc:s[a+j].toNat<256:=s[a+j].toNat_lt;obtain⟨L,hL⟩:∃L,L=(((bl s).drop a).take c):=⟨_,rfl⟩
    have hLl:L.length=c:=by rw[hL,List.length_take,List.length_drop,aO];omega
    have hget:L[j]? = some s[a+j]:=by
     rw[hL,List.getElem?_take,if_pos ab,List.getElem?_drop];exact List.getElem?_eq_getElem (l:=bl s) hj
    have hn:num (L.drop j)=s[a+j].toNat+256*num (L.drop (j+1)):=by
     rw[List.drop_eq_getElem_cons ab];rw[List.getElem?_eq_getElem ab] at hget;injection hget with hget;rw[hget];rfl
    have hm0:=(fC (L.drop (j+1))).1;have hm2:num (L.drop (j+1))<281474976710656:=E8 _ (by rw[List.length_drop];omega);rw[←hL];have HN:=Lib.hid hn;clear hn hL hLl hget
    go_wp2
    go_round
    case rel=>exact⟨j,by omega,rfl,by rw[HN.out];go_num⟩
    case measure=>simp[intOf]
  · go_wp2
    go_ret
    obtain rfl:k=0:=by omega
    exact⟨rfl,rfl⟩
open Go.RowKit
theorem te (s b:ByteArray) (a:Nat) (w:World) (hs:s.size≤1000000) (h1:a+b.size≤s.size) :
 Calls Tryz.prog 101 #[.string s,.int .i64 a,.string b] w fun e w'=>e=.returned (.string (ss s a b))∧Below w.heap.size w w':=by
 go_enter Tryz.func101,Tryz.ntmps101
 go_wp2
 go_quiet (fail)
 go_wp2
 go_ret
 exact⟨rfl,sT (Below.refl _ _) _⟩
theorem z7 (n:Nat):(madeCells (Value.int .u8 0).cells (n*1)).toList=(cp n).map bA:=by
 have:(Value.int .u8 0).cells=#[.int .u8 0]:=rfl;rw[this,Nat.mul_one,toList_madeCells_one];simp[cp,bA]
theorem oA (n:Nat) (w:World) (hn:n≤200000) :
 Calls Tryz.prog 126 #[.int .i64 n] w fun e w'=>e=.returned (.string (bs (cp n)))∧Below w.heap.size w w':=by
 obtain⟨i0,hi,hz0,hz1,hz2⟩:=info_parts va
 have hmin:min (n:Int) 200000=n:=by omega
 have hmax:max 0 (n:Int)=n:=by omega
 go_enter Tryz.func126,Tryz.ntmps126
 go_wp2_with (at_make;refine wpList_make_full _ rfl _ _ _ rfl w.heap.size 5 i0 (.int .u8 0) 1 Tryz.underlying126 hi hz0 hz1 _ _ _ _ n rfl rfl rfl rfl (by rw[hz2];omega) (by unfold maxLen;omega) (Nat.le_refl _) ?_;intro W1 hown hgrow;rw[z7] at hown;have hb1:Below w.heap.size w W1:=(Below.refl _ _).grown hgrow (Nat.le_refl _) bw;have hconv:=qU hown;clear hown hgrow)
 go_ret
 exact⟨rfl,hb1⟩
theorem vu (k:Nat) (z:ByteArray) (w:World) (a:z=bs (cp k)) (b:k≤1000000) :
 bu 267 #[.string ⟨#[0]⟩,ae k] w (.string z):=by
 refine(Tryz.strings_Repeat _ k _ ab (by show 1*k≤_;omega)).mono ?_
 rintro e c ⟨rfl,hb1⟩
 refine⟨?_,hb1⟩;rw[a,←vP];rfl
theorem o6 (k:Nat):(bs (cp k)).size=k:=by rw[cm];simp[cp]
open Go.RowKit
def fX (x:Op):Prop:=
 (x.k=0∧x.a=0∧x.e=0∧x.c=0∧x.o.size=0∧x.n.size=0) ∨
 (x.k=1∧x.e=0∧x.c=0∧x.o.size=x.n.size∧0<x.o.size∧x.o.size≤200∧0≤x.a∧(x.o.size:Int)≤512-x.a) ∨
 (x.k=2∧x.c=0∧x.o.size=0∧0<x.n.size∧x.n.size≤200∧0≤x.a∧x.a≤x.e∧x.e≤512-x.n.size) ∨
 (x.k=3∧x.c=0∧x.n.size=0∧0<x.o.size∧x.o.size≤200∧0≤x.a∧x.a+x.o.size≤x.e∧x.e≤512) ∨
 ((x.k=4∨x.k=5)∧x.e=0∧x.o.size=0∧x.n.size=0∧0≤x.a∧x.a≤4095∧1≤x.c∧x.c≤4096-x.a) ∨
 (x.k=6∧x.a=0∧x.e=0∧x.c=0∧x.o.size=512∧x.n.size=512)
theorem AW {x:Op}:gy x=0↔bB x.k 0 6=true∧dC x=true∧dZ x=true∧(!dq x.k||decide (0<dA x))=true∧(!dq x.k||decide (dA x≤200))=true∧ga x=true:=by
 unfold gy
 cases hk:bB x.k 0 6
 · simp
 · rw[if_neg bw,aN]
   simp only[List.mem_cons,List.not_mem_nil,or_false,forall_eq_or_imp,forall_eq,true_and];rw[aH au,aH au,aH au,aH au,aH au]
theorem gv (x:Op):gy x=0↔fX x:=by
 rw[AW,inB_true];obtain⟨k,a,e,c,o,n⟩:=x;by_cases b:0≤k∧k≤6
 · have:k=0∨k=1∨k=2∨k=3∨k=4∨k=5∨k=6:=by omega
   rcases this with rfl | rfl | rfl | rfl | rfl | rfl | rfl
   all_goals
    simp only[fX,dC,dZ,dq,ga,Ak,rL,j4,qf,rJ,bB,Bool.and_eq_true,Bool.or_eq_true,decide_eq_true_eq,beq_iff_eq,Bool.not_eq_true',Bool.and_eq_false_iff,decide_eq_false_iff_not,Bool.or_eq_false_iff,beq_eq_false_iff_ne];simp[-ByteArray.size_eq_zero_iff]
    try simp only[dA]
    try omega
 · constructor
   · intro h;exact absurd h.1 b
   · intro h;unfold fX at h;dsimp only at h;omega
def fV (p:List UInt8) (l h:Nat):List UInt8:=(p.take h).drop l
def jJ (p:List UInt8) (l h:Nat) (m:List UInt8):List UInt8:=p.take l ++ m ++ p.drop h
theorem im (p:List UInt8) (l h i:Nat):(fV p l h)[i]? = if l+i<h then p[l+i]? else none:=by
 unfold fV;rw[List.getElem?_drop,List.getElem?_take]
theorem iY (p:List UInt8) (l h:Nat) (a:h≤p.length):(fV p l h).length=h-l:=by
 unfold fV;rw[List.length_drop,List.length_take];omega
theorem mq (p:List UInt8) (l h:Nat) (m:List UInt8) (b:l≤h) (c:h≤p.length) (hm:m.length=h-l) (i:Nat) :
 (jJ p l h m)[i]? = if i<l then p[i]? else if i<h then m[i-l]? else p[i]?:=by
 unfold jJ;rw[List.append_assoc,List.getElem?_append,List.length_take,Nat.min_eq_left ab];by_cases a:i<l
 · rw[if_pos a,if_pos a,List.getElem?_take,if_pos a]
 · rw[if_neg a,if_neg a,List.getElem?_append,hm]
   by_cases a2:i<h
   · rw[if_pos ab,if_pos a2]
   · rw[if_neg ab,if_neg a2,List.getElem?_drop]
     congr 1;omega
theorem oN (p:List UInt8) (l h:Nat) (m:List UInt8) (a:l≤h) (b:h≤p.length) (hm:m.length=h-l):(jJ p l h m).length=p.length:=by
 unfold jJ;simp only[List.length_append,List.length_take,List.length_drop,hm];omega
theorem wO (p:List UInt8) (l h:Nat) (c:l≤h) (b:h≤p.length):jJ p l h (fV p l h)=p:=by
 apply List.ext_getElem?;intro i;rw[mq p l h _ c b (iY p l h b),im];by_cases a:i<l
 · rw[if_pos a]
 · rw[if_neg a]
   by_cases a2:i<h
   · rw[if_pos a2,if_pos ab];congr 1;omega
   · rw[if_neg a2]
theorem ek (l:List UInt8) (i:Nat):l.getD i 0=(l[i]?).getD 0:=List.getD_eq_getElem?_getD
theorem Ap (p:List UInt8) (l h i:Nat) (c:8*l≤i) (b:i / 8<h):eJ (fV p l h) (i-8*l)=eJ p i:=by
 have a:(i-8*l) / 8=i / 8-l:=by omega
 have e2:(i-8*l) % 8=i % 8:=by omega
 unfold eJ;rw[a,e2,ek,ek,im,if_pos ab,show l+(i / 8-l)=i / 8 by omega]
theorem Bi (p m:List UInt8) (l h i:Nat) (v:Bool) (d:l≤h) (e:h≤p.length) (hm:m.length=h-l) (k:8*l≤i) (f:i / 8<h) :
 putAt (jJ p l h m) i v=jJ p l h (putAt m (i-8*l) v):=by
 have g:(i-8*l) / 8=i / 8-l:=by omega
 have e2:(i-8*l) % 8=i % 8:=by omega
 have e3:(jJ p l h m).getD (i / 8) 0=m.getD (i / 8-l) 0:=by
  rw[ek,ek,mq p l h m d e hm,if_neg ab,if_pos f]
 have b:=oN p l h m d e hm;unfold putAt;rw[g,e2,e3];apply List.ext_getElem?;intro j;rw[mq p l h _ d e (by rw[List.length_set,hm])];by_cases a:i / 8=j
 · rw[←a,List.getElem?_set_self (by rw[b];omega),if_neg ab,if_pos f,List.getElem?_set_self ab]
 · rw[List.getElem?_set_ne a,mq p l h m d e hm]
   by_cases c:j<l
   · rw[if_pos c,if_pos c]
   · rw[if_neg c,if_neg c]
     by_cases a2:j<h
     · rw[if_pos a2,if_pos a2,List.getElem?_set_ne ab]
     · rw[if_neg a2,if_neg a2]
theorem wy (p m:List UInt8) (l h a c:Nat) (v:Bool) (b:l≤h) (d:h≤p.length) (hm:m.length=h-l) (e:8*l≤a) (f:a+c≤8*h) :
 bK (jJ p l h m) a c v=jJ p l h (bK m (a-8*l) c v):=by
 induction c with
 | zero=>rfl
 | succ c ih=>
  unfold bK;rw[ih ab,Bi p _ l h (a+c) v b d (by rw[dy,hm]) ab ab,show a+c-8*l=a-8*l+c by omega]
theorem vQ (p:List UInt8) (l h a c:Nat) (v:Bool) (d:8*l≤a) (b:a+c≤8*h):cr (fV p l h) (a-8*l) c v=cr p a c v:=by
 induction c with
 | zero=>rfl
 | succ c ih=>
  unfold cr;rw[ih ab,show a-8*l+c=a+c-8*l by omega,Ap p l h (a+c) ab ab]
theorem uh (l:List UInt8) (a c:Nat) (v:Bool):cr l a c v=true↔∀i,a≤i→i<a+c→eJ l i=!v:=by
 induction c with
 | zero=>simp only[cr,true_iff];intro i b d;omega
 | succ c ih=>
  unfold cr;rw[Bool.and_eq_true,ih]
  constructor
  · rintro ⟨b,d⟩ i h3 f
    by_cases e:i=a+c
    · subst e;revert d;cases eJ l (a+c)<;>cases v<;>simp
    · exact b i h3 ab
  · intro h
    refine⟨fun i b d=>h i b ab,?_⟩
    rw[h (a+c) ab ab];cases v<;>rfl
def F9 (x:Op):Int × Int:=
 if x.k=1 then (x.a,x.a+x.o.size) else if x.k=2 then (x.a,x.e+x.n.size) else if x.k=3 then (x.a,x.e)
 else if x.k=4∨x.k=5 then (x.a / 8,(x.a+x.c-1) / 8+1) else if x.k=6 then (0,512) else (0,0)
def Bt (x:Op):Nat:=(F9 x).1.toNat
def EA (x:Op):Nat:=(F9 x).2.toNat
def Ge (x:Op) (m:List UInt8):List UInt8:=
 if x.k=1 then bl x.n else if x.k=2 then bl x.n ++ m.take (x.e-x.a).toNat
 else if x.k=3 then m.drop x.o.size ++ List.replicate x.o.size 0
 else if x.k=4 then bK m (x.a.toNat-8*Bt x) x.c.toNat true
 else if x.k=5 then bK m (x.a.toNat-8*Bt x) x.c.toNat false
 else if x.k=6 then bl x.n else m
def Gz (x:Op) (m:List UInt8):Bool:=
 if x.k=1 then m==bl x.o else if x.k=2 then iT (m.drop (x.e-x.a).toNat) else if x.k=3 then m.take x.o.size==bl x.o
 else if x.k=4 then cr m (x.a.toNat-8*Bt x) x.c.toNat true
 else if x.k=5 then cr m (x.a.toNat-8*Bt x) x.c.toNat false
 else if x.k=6 then m==bl x.o else true
theorem vW (s:ByteArray):∀(n i:Nat) (r:List UInt8),s.size-i=n→ByteArray.toList.loop s i r=r.reverse ++ (bl s).drop i:=by
 intro n
 induction n with
 | zero=>
  intro i r h;unfold ByteArray.toList.loop;rw[if_neg ab,List.drop_of_length_le (by rw[aO];omega),List.append_nil]
 | succ n ih=>
  intro i r h;unfold ByteArray.toList.loop;rw[if_pos ab,ih (i+1) _ ab,uR s i ab,List.reverse_cons,List.append_assoc]
  have:s.get! i=s[i]'ab:=by
   show s.data[i]! = _;rw[getElem!_pos s.data i (by show i<s.size;omega)];rfl
  rw[this];rfl
theorem toList_eq (s:ByteArray):s.toList=bl s:=by
 unfold ByteArray.toList;rw[vW s _ 0 [] rfl];rfl
theorem isEmpty_eq (s:ByteArray):s.toList.isEmpty=(s.size==0):=by
 rw[toList_eq,Bool.eq_iff_iff,List.isEmpty_iff,beq_iff_eq,←aO,List.length_eq_zero_iff]
theorem toList_nil (s:ByteArray):(s.toList=[])=(s.size=0):=by
 rw[toList_eq,←aO,List.length_eq_zero_iff]
theorem uE (a b:Nat):((a:Int)==(b:Int))=(a==b):=by
 rw[Bool.eq_iff_iff,beq_iff_eq,beq_iff_eq];omega
open Go.RowKit Go.Sort
theorem iZ (s:ByteArray) (w:World) (hs:s.size≤maxLen) :
 Calls Tryz.prog 150 #[.string s] w fun e w'=>e=.returned (.int .i64 (cI s))∧w=w':=by
 unfold maxLen at hs
 go_enter Tryz.func150,Tryz.ntmps150
 go_wp2_with (go_at_call 151;refine(aJ _ _ _).mono ?_;rintro e w' ⟨rfl,rfl⟩)
 go_ret
 exact⟨BG (by unfold cI;rw[show(512:Int)=((512:Nat):Int) from rfl,uE]),rfl⟩
def wP (n:Int):Int:=bQ (bB n 1 2147483647) 2
theorem r4 (n:Int) (w:World) :
 Calls Tryz.prog 203 #[.int .i64 n] w fun e w'=>e=.returned (.int .i64 (wP n))∧w=w':=by
 go_enter Tryz.func203,Tryz.ntmps203
 go_wp2_with (first | (go_at_call 151;refine(aJ _ _ _).mono ?_;rintro e w' ⟨rfl,rfl⟩) | (go_at_call 152;refine(bf _ _ _ _).mono ?_;rintro e w' ⟨rfl,rfl⟩))
 go_ret
 exact⟨rfl,rfl⟩
theorem mC (n:Int) (w:World) :
 Calls Tryz.prog 173 #[.int .i64 n] w fun e w'=>e=.returned (.bool (bB n 0 2147483647))∧w=w':=by
 go_enter Tryz.func173,Tryz.ntmps173
 go_wp2_with (go_at_call 74;refine(br _ _ _ _).mono ?_;rintro e w' ⟨rfl,rfl⟩)
 go_ret
 exact⟨rfl,rfl⟩
theorem nj (b:Bool) (w:World) :
 Calls Tryz.prog 76 #[.bool b] w fun e w'=>e=.returned (.int .i64 (if b then 1 else 0))∧w=w':=by
 cases b
 all_goals
  go_enter Tryz.func76,Tryz.ntmps76
  go_wp2
  go_ret
  exact⟨rfl,rfl⟩
theorem l5 (n:Nat) (w:World) (h7:n≤7) :
 Calls Tryz.prog 244 #[.int .i64 n] w fun e w'=>e=.returned (.int .i64 (2 ^ n:Nat))∧w=w':=by
 have:n=0∨n=1∨n=2∨n=3∨n=4∨n=5∨n=6∨n=7:=by omega
 rcases this with rfl | rfl | rfl | rfl | rfl | rfl | rfl | rfl
 all_goals
  go_enter Tryz.func244,Tryz.ntmps244
  go_wp2
  go_ret
  exact⟨rfl,rfl⟩
theorem uH (s:ByteArray) (k:Nat) (h:k<s.size):iT ((bl s).drop k)=(s[k]==0&&iT ((bl s).drop (k+1))):=by
 rw[uR s k h];rfl
theorem wa (s:ByteArray) (w:World) (hs:s.size≤maxLen) :
 Calls Tryz.prog 211 #[.string s] w fun e w'=>e=.returned (.bool (iT (bl s)))∧w=w':=by
 unfold maxLen at hs
 go_enter Tryz.func211,Tryz.ntmps211
 go_wp2
 go_loop [3] (fun i=>∃k:Nat,k≤s.size∧i=.int .i64 k∧iT (bl s)=iT ((bl s).drop k)) (fun i=>s.size-(intOf i).toNat)
 case atStart=>exact⟨0,Nat.zero_le _,rfl,rfl⟩
 case round=>
  obtain⟨k,hk,rfl,hf⟩:=hrel;have HF:=Lib.hid hf;clear hf;by_cases hlt:k<s.size
  · have hz:=uH s k hlt
    have HZ:=Lib.hid hz;clear hz;by_cases h0:s[k]=0
    · have h0':((s[k].toNat:Int) != 0)=false:=by rw[h0];rfl
      have H0:=Lib.hid h0;clear h0
      go_wp2
      go_round
      case rel=>exact⟨k+1,by omega,by go_num,by rw[HF.out,HZ.out,H0.out];rfl⟩
      case measure=>simp[intOf];omega
    · have h0':((s[k].toNat:Int) != 0)=true:=by
       simp only[bne_iff_ne,ne_eq];intro h;apply h0;apply UInt8.toNat_inj.1;simpa using h
      have H0:=Lib.hid h0;clear h0
      go_wp2
      go_ret
      exact⟨qO (by rw[HF.out,HZ.out,beq_eq_false_iff_ne.2 H0.out];rfl),rfl⟩
  · go_wp2
    go_ret
    exact⟨qO (by rw[HF.out,List.drop_of_length_le (by rw[aO];omega)];rfl),rfl⟩
theorem pq (s b:ByteArray) (a:Nat) (w:World) (hs:s.size≤3100) (h:a+b.size≤s.size) :
 Calls Tryz.prog 215 #[.string s,.int .i64 a,.string b] w fun e w'=>e=.returned (.string (ss s a b))∧Below w.heap.size w w':=by
 have Y:a≤s.size:=by omega
 have Y:(a+b.size:Int)≤s.size:=by omega
 have hz1:(s.extract 0 a ++ b).size=a+b.size:=by rw[ByteArray.size_append,ByteArray.size_extract];omega
 go_enter Tryz.func215,Tryz.ntmps215
 go_wp2
 (refine wp_region_quiet_below aa aa ?_;(repeat (go_big_quiet_step ((first | fail))));(with_reducible refine wpQuiet_nil ?_);intro W1 hreg;have hbW1:=a7 hreg;clear hreg;obtain⟨hcW1,hfW1⟩:=bH hbW1)
 go_wp2
 go_ret
 exact⟨rfl,hbW1⟩
open Go.RowKit Go.Sort
theorem xW {α:Type} (p:α→Bool):∀l:List α,l.dropWhile p=[]↔∀x∈l,p x=true
 | []=>by simp
 | a::l=>by
  rw[List.dropWhile_cons]
  cases h:p a
  · simp[h]
  · simp only[if_true,xW p l,List.mem_cons,forall_eq_or_imp,h,true_and]
theorem zh {α:Type} (p:α→Bool):∀(l:List α) (x:α) (r:List α),l.dropWhile p=x::r→p x=false
 | [],x,r,h=>by simp at h
 | a::l,x,r,h=>by
  rw[List.dropWhile_cons] at h
  cases hp:p a
  · rw[hp,if_neg au] at h;injection h with h1 _;rw[←h1];exact hp
  · rw[hp,if_pos rfl] at h;exact zh p l x r h
theorem BJ {α:Type} (p:α→Bool):∀(l:List α) (x:α),x∈l.dropWhile p→x∈l
 | [],x,h=>by simp at h
 | a::l,x,h=>by
  rw[List.dropWhile_cons] at h
  cases hp:p a
  · rw[hp,if_neg au] at h;exact h
  · rw[hp,if_pos rfl] at h;exact List.mem_cons_of_mem _ (BJ p l x h)
theorem si (l:List UInt8):(l.reverse.dropWhile (·==0)).reverse.dropWhile (·==0)=[]↔iT l=true:=by
 unfold iT;rw[List.all_eq_true,xW]
 constructor
 · intro h b c
   cases hd:l.reverse.dropWhile (·==0) with
   | nil=>exact(xW _ _).1 hd b (List.mem_reverse.2 c)
   | cons x r=>
    have d:=zh _ _ _ _ hd;have a:=h x (by rw[hd];simp);rw[d] at a;cases a
 · intro h x hx
   exact h x (List.mem_reverse.1 (BJ _ _ _ (List.mem_reverse.1 hx)))
theorem yd (s:ByteArray) (w:World) (hs:s.size≤3100) :
 Calls Tryz.prog 241 #[.string s] w fun e w'=>e=.returned (.bool (iT (bl s)))∧Below w.heap.size w w':=by
 have hC:Calls Tryz.prog 266 #[.string s,.string ⟨#[0]⟩] w fun e w'=>e=.returned (.string ⟨(Lib.trimB s.data.toList 0).toArray⟩)∧Below w.heap.size w w':=
  (Tryz.strings_Trim_one s 0 au w ab).mono fun e w' ⟨h1,h2⟩=>⟨h1,by rcases h2 with rfl | rfl;exact Below.refl _ _;exact(Below.refl _ _).drew⟩
 obtain⟨t,ht⟩:∃t:ByteArray,t=⟨(Lib.trimB s.data.toList 0).toArray⟩:=⟨_,rfl⟩;rw[←ht] at hC
 have e:t.toList.isEmpty=iT (bl s):=by
  rw[toList_eq,ht,Bool.eq_iff_iff,List.isEmpty_iff];exact si (bl s)
 have E:=Lib.hid e;have HC:=Lib.hid hC;clear ht e hC
 go_enter Tryz.func241,Tryz.ntmps241
 go_wp2_with (go_at_call 266;refine(HC.out).mono ?_;rintro e W1 ⟨rfl,hbW1⟩;obtain⟨hcW1,hfW1⟩:=bH hbW1)
 go_ret
 exact⟨qO E.out,hbW1⟩
theorem AQ (n:Nat) (w:World) (hn:n≤3100) :
 Calls Tryz.prog 242 #[.int .i64 n] w fun e w'=>e=.returned (.string (bs (cp n)))∧Below w.heap.size w w':=by
 go_enter Tryz.func242,Tryz.ntmps242
 go_wp2_with (go_at_call 267;refine(vu n (bs (cp n)) _ rfl ab).mono ?_;rintro e W1 ⟨rfl,hbW1⟩;obtain⟨hcW1,hfW1⟩:=bH hbW1)
 go_ret
 exact⟨rfl,hbW1⟩
theorem bh (n:Int) (c:Nat) (hn:0≤n) (hn2:n<9223372036854775808) (hc:c≤1000) (w:World) :
 Calls Tryz.prog 216 #[.int .i64 n,.int .i64 c] w fun e w'=>e=.returned (.string (bs (lit n c)))∧Below w.heap.size w w':=by
 obtain⟨i0,hi,hz0,hz1,hz2⟩:=info_parts va
 go_enter Tryz.func216,Tryz.ntmps216
 go_wp2
 go_loopw [0,5,7] (fun m v i wr=>∃k:Nat,k≤c∧i=.int .i64 k∧Below w.heap.size w wr∧(∃q:Int,0≤q∧q<9223372036854775808∧m=.int .i64 q∧q=n / 256 ^ k)∧wr.ownsRow w.heap.size 5 1 v k ((lit n k).map bA)) (fun _ _ i _=>c-(intOf i).toNat)
 case atStart=>exact⟨0,Nat.zero_le _,rfl,Below.refl _ _,⟨n,hn,hn2,rfl,by simp⟩,World.ownsRow_nil _ _ _ _⟩
 case round=>
  obtain⟨k,hk,rfl,hb,⟨q,hq0,hq1,rfl,hq⟩,hown⟩:=hrel;have HQ:=Lib.hid hq;clear hq;by_cases hlt:k<c
  · have hbs:=hb.size
    go_wp2_with (at_builtin;refine wpList_append_own _ rfl (.tmp 9) (.tmp 12) 126 rfl w.heap.size 5 i0 (.int .u8 0) 1 1 Tryz.underlying126 hi hz0 hz1 hz2 rfl au _ _ _ rfl (hown.alloc _) ⟨wr.heap.size,0,none⟩ 1 1 [.int .u8 (q % 256)] rfl rfl ?c1 ?c2 ?c3 ?c4 ?c5 ?_)
    case c1=>
     intro j u hj
     match j,hj with
     | 0,hj=>simp at hj;subst hj;simp[Addr.add]
    case c2=>intro u hu;simp at hu;subst hu;rfl
    case c3=>unfold maxLen;omega
    case c4=>omega
    case c5=>simp;omega
    intro v' w1 hown' hgrow _;have hb1:Below w.heap.size w w1:=(hb.alloc hbs _).grown hgrow (by simp;omega) (fun g hg=>(hown.lt g hg).1)
    have hown2:w1.ownsRow w.heap.size 5 1 v' (k+1) ((lit n (k+1)).map bA):=by
     rw[wz,List.map_append,List.map_cons,List.map_nil,tb,←HQ.out];exact hown'
    clear hown' hgrow hown hb
    go_wp2
    go_roundw
    case rel=>exact⟨k+1,by omega,by go_num,hb1,⟨q / 256,by omega,by omega,rfl,by rw[HQ.out,Int.pow_succ,Int.ediv_ediv_of_nonneg (Int.le_of_lt (Int.pow_pos au))]⟩,hown2⟩
    case measure=>simp[intOf];omega
  · obtain rfl:k=c:=by omega
    have hconv:=qU hown;clear hown
    go_wp2
    go_ret
    exact⟨rfl,hb⟩
theorem tO (k:IntKind) (x y:Int):bits .or k x y=bits .or k y x:=by
 unfold bits;simp only[BitVec.or_comm]
theorem GP (m c:Int) (k:Nat) (g:0≤m) (e:m<2 ^ (8*k)) (d:0≤c) (j:c<256) (h:k≤5):bits .or .i64 m (c*2 ^ (8*k))=m+c*2 ^ (8*k):=by
 have f:(2:Int) ^ (8*k)≤2 ^ 40:=by
  have:(2:Nat) ^ (8*k)≤2 ^ 40:=Nat.pow_le_pow_right au ab
  exact_mod_cast this
 have a:(0:Int)<2 ^ (8*k):=Int.pow_pos au
 have b:c*2 ^ (8*k)<2 ^ 62:=by
  have:c*2 ^ (8*k)≤255*2 ^ 40:=Int.mul_le_mul ab f (Int.le_of_lt a) au;omega
 have i:(2:Int) ^ (8*k)≤2 ^ 62:=by omega
 rw[tO,bits_join .i64 62 au (tz 62 au) (8*k) _ _ (Int.mul_nonneg d (Int.le_of_lt a)) (Int.mul_emod_left _ _) b g e ab,Int.add_comm]
open Go.RowKit
theorem gh (w:World) (e:TypeId) (s:ByteArray):Below w.heap.size w (Lib.bytesWorld w e s):=
 ⟨rfl,rfl,rfl,by rw[Lib.bytesWorld_size];omega,fun k a=>Lib.bytesWorld_at_old w e s k a⟩
open Go.RowKit Go.Sort
theorem Bv (l:List UInt8) (c:UInt8):num (l ++ [c])=num l+c.toNat*256 ^ l.length:=by
 induction l with
 | nil=>simp[num]
 | cons b l ih=>
  simp only[List.cons_append,num,ih,List.length_cons,Int.pow_succ];rw[Int.mul_add];generalize (256:Int) ^ l.length=P
  have:256*((c.toNat:Int)*P)=(c.toNat:Int)*(P*256):=by rw[Int.mul_comm 256,Int.mul_assoc]
  omega
theorem xA (s:ByteArray) (k:Nat) (h:k<s.size):(bl s).take (k+1)=(bl s).take k ++ [s[k]]:=by
 rw[List.take_succ_eq_append_getElem (by rw[aO];exact h)];rfl
theorem gm (s:ByteArray) (w:World) (hs:s.size≤6) :
 Calls Tryz.prog 171 #[.string s] w fun e w'=>e=.returned (.int .i64 (num (bl s)))∧Below w.heap.size w w':=by
 have hconv:=Lib.run_convert_string_bytes (P:=Tryz.prog) w 9 126 5 s Tryz.underlying9 Tryz.underlying126 Tryz.underlying5;obtain⟨W1,hW1⟩:∃W1,W1=Lib.bytesWorld w 5 s:=⟨_,rfl⟩;obtain⟨cap,hcap⟩:∃c,c=grownCap w s.size 0 5:=⟨_,rfl⟩;rw[←hW1,←hcap] at hconv
 have hbelow:Below w.heap.size w W1:=by rw[hW1];exact gh _ _ _
 have hcell:∀j,j<s.size→W1.cell? ⟨w.heap.size,j,none⟩=some (.int .u8 ((bl s).getD j 0).toNat):=fun j hj=>by rw[hW1];exact Lib.bytesWorld_cell _ _ _ _ hj
 clear hW1 hcap;have HB:=Lib.hid hbelow;have HC:=Lib.hid hcell;clear hbelow hcell
 go_enter Tryz.func171,Tryz.ntmps171
 go_wp2
 go_loop [3,9] (fun n i=>∃(k:Nat) (m:Int),k≤s.size∧i=.int .i64 k∧n=.int .i64 m∧0≤m∧m<256 ^ k∧m=num ((bl s).take k)) (fun _ i=>s.size-(intOf i).toNat)
 case atStart=>exact⟨0,0,Nat.zero_le _,rfl,rfl,by omega,by decide,rfl⟩
 case round=>
  obtain⟨k,m,hk,rfl,rfl,hm0,hm1,hf⟩:=hrel;have HF:=Lib.hid hf;clear hf;by_cases hlt:k<s.size
  · have hc:=HC.out k hlt
    obtain⟨b,hb⟩:∃b,b=(bl s).getD k 0:=⟨_,rfl⟩;rw[←hb] at hc
    have e1:b=s[k]:=by rw[hb,List.getD_eq_getElem?_getD,List.getElem?_eq_getElem (by rw[aO];exact hlt)];rfl
    have E1:=Lib.hid e1;clear e1 hb;have hb2:b.toNat<256:=b.toNat_lt;have hor:=GP m b.toNat k hm0 (by rw[Au];exact hm1) ab ab ab
    have hnx:m+b.toNat*256 ^ k=num ((bl s).take (k+1))∧0≤m+b.toNat*256 ^ k∧m+b.toNat*256 ^ k<256 ^ (k+1):=by
     have h1:=xA s k hlt;have h2:=fC ((bl s).take (k+1));rw[List.length_take,aO,Nat.min_eq_left ab] at h2
     have h3:num ((bl s).take (k+1))=m+b.toNat*256 ^ k:=by
      rw[h1,Bv,←HF.out,List.length_take,aO,Nat.min_eq_left ab,E1.out]
     rw[←h3];exact⟨rfl,h2.1,h2.2⟩
    have HN:=Lib.hid hnx;clear hnx
    have:k=0∨k=1∨k=2∨k=3∨k=4∨k=5:=by omega
    rcases this with rfl | rfl | rfl | rfl | rfl | rfl
    · simp only[Nat.reduceMul,Int.reducePow,Nat.reduceAdd,Int.mul_one] at hor
      simp at hm1
      go_wp2
      go_round
      case rel=>exact⟨0+1,_,by omega,by go_num,rfl,al HN.out.2.1,al HN.out.2.2,al HN.out.1⟩
      case measure=>simp[intOf];omega
    · simp only[Nat.reduceMul,Int.reducePow,Nat.reduceAdd,Int.mul_one] at hor
      simp at hm1
      go_wp2
      go_round
      case rel=>exact⟨1+1,_,by omega,by go_num,rfl,al HN.out.2.1,al HN.out.2.2,al HN.out.1⟩
      case measure=>simp[intOf];omega
    · simp only[Nat.reduceMul,Int.reducePow,Nat.reduceAdd,Int.mul_one] at hor
      simp at hm1
      go_wp2
      go_round
      case rel=>exact⟨2+1,_,by omega,by go_num,rfl,al HN.out.2.1,al HN.out.2.2,al HN.out.1⟩
      case measure=>simp[intOf];omega
    · simp only[Nat.reduceMul,Int.reducePow,Nat.reduceAdd,Int.mul_one] at hor
      simp at hm1
      go_wp2
      go_round
      case rel=>exact⟨3+1,_,by omega,by go_num,rfl,al HN.out.2.1,al HN.out.2.2,al HN.out.1⟩
      case measure=>simp[intOf];omega
    · simp only[Nat.reduceMul,Int.reducePow,Nat.reduceAdd,Int.mul_one] at hor
      simp at hm1
      go_wp2
      go_round
      case rel=>exact⟨4+1,_,by omega,by go_num,rfl,al HN.out.2.1,al HN.out.2.2,al HN.out.1⟩
      case measure=>simp[intOf];omega
    · simp only[Nat.reduceMul,Int.reducePow,Nat.reduceAdd,Int.mul_one] at hor
      simp at hm1
      go_wp2
      go_round
      case rel=>exact⟨5+1,_,by omega,by go_num,rfl,al HN.out.2.1,al HN.out.2.2,al HN.out.1⟩
      case measure=>simp[intOf];omega
  · go_wp2
    go_ret
    exact⟨BG (by rw[HF.out,List.take_of_length_le (by rw[aO];omega)]),HB.out⟩
def Fj (p:ByteArray):Int:=num (((bl p).drop 8).take 4) % 2147483648
theorem AL (p:ByteArray) (w:World) (hp:p.size=512) :
 Calls Tryz.prog 204 #[.string p] w fun e w'=>e=.returned (.int .i64 (Fj p))∧Below w.heap.size w w':=by
 obtain⟨t,ht⟩:∃t,t=(p.extract 8 p.size).extract 0 4:=⟨_,rfl⟩
 have hbt:bl t=((bl p).drop 8).take 4:=by rw[ht];exact vi p 8 4
 have hsz:t.size=4:=by rw[←aO,hbt,List.length_take,List.length_drop,aO];omega
 have hC:=fun w=>gm t w ab;have hb0:=(fC (bl t)).1;have hb1:=(fC (bl t)).2;rw[aO,hsz] at hb1;obtain⟨m,hm⟩:∃m,m=num (bl t):=⟨_,rfl⟩;rw[←hm] at hC hb0 hb1;have hmask:bits .and .i64 m 2147483647=m % 2147483648:=bits_mask .i64 62 au (tz 62 au) 31 au m hb0 ab
 have e:Fj p=m % 2147483648:=by unfold Fj;rw[hm,hbt]
 have E:=Lib.hid e;have HC:=Lib.hid hC;have HP:=Lib.hid hp
 have hge:12≤p.size:=by omega
 have hlt:p.size<1000:=by omega
 have ht':(p.extract 8 p.size).extract 0 4=t:=ht.symm;clear hm e hC hb1 hsz hbt ht hp
 go_enter Tryz.func204,Tryz.ntmps204
 go_wp2_with (go_at_call 171;refine(HC.out _).mono ?_;rintro e W1 ⟨rfl,hbW1⟩;obtain⟨hcW1,hfW1⟩:=bH hbW1)
 go_ret
 exact⟨BG E.out.symm,hbW1⟩
def zF (p:ByteArray) (n:Int):ByteArray:=ss p 8 (bs (lit n 4))
theorem oI (p:ByteArray) (n:Int) (w:World) (hp:p.size=512) (h0:0≤n) (h1:n<9223372036854775808) :
 Calls Tryz.prog 153 #[.string p,.int .i64 n] w fun e w'=>e=.returned (.string (zF p n))∧Below w.heap.size w w':=by
 have h4:(bs (lit n 4)).size=4:=by rw[cm,cu]
 have hle:p.size≤3100:=by omega
 have hle2:8+(bs (lit n 4)).size≤p.size:=by omega
 clear hp h4
 go_enter Tryz.func153,Tryz.ntmps153
 go_wp2_with (first | (go_at_call 216;refine(bh n 4 h0 h1 ab _).mono ?_;rintro e W1 ⟨rfl,hbW1⟩;obtain⟨hcW1,hfW1⟩:=bH hbW1) | (go_at_call 215;refine(pq p _ 8 _ hle hle2).mono ?_;rintro e W2 ⟨rfl,hbW2⟩;obtain⟨hcW2,hfW2⟩:=bH hbW2))
 go_ret
 exact⟨rfl,du⟩
theorem Ev (b:UInt8) (j:Nat) (a:j<8):(b.toNat:Int) / (2 ^ j:Nat) % 2=if jV b j then 1 else 0:=by
 have all:∀n:Fin 256,∀j:Fin 8,(n.val / 2 ^ j.val % 2)=if jV (UInt8.ofNat n.val) j.val then 1 else 0:=by decide +kernel
 have:=all ⟨b.toNat,b.toNat_lt⟩ ⟨j,a⟩;simp only[UInt8.ofNat_toNat] at this
 have c:(b.toNat:Int) / (2 ^ j:Nat) % 2=((b.toNat / 2 ^ j % 2:Nat):Int):=by rw[Int.natCast_emod,Int.natCast_ediv];rfl
 rw[c,this];split<;>rfl
theorem ln (p:ByteArray) (i:Nat) (w:World) (hi:i / 8<p.size) (hp:p.size≤3100) :
 Calls Tryz.prog 212 #[.string p,.int .i64 i] w fun e w'=>e=.returned (.int .i64 (if eJ (bl p) i then 1 else 0))∧Below w.heap.size w w':=by
 have hj:i % 8<8:=by omega
 have hbit:=Ev (p[i / 8]) (i % 8) hj
 have hget:(bl p).getD (i / 8) 0=p[i / 8]:=by rw[ek,List.getElem?_eq_getElem (by rw[aO];exact hi)];rfl
 have e:eJ (bl p) i=jV p[i / 8] (i % 8):=by unfold eJ;rw[hget]
 rw[←e] at hbit;have hP:=fun w=>l5 (i % 8) w ab
 have hpos:1≤((2 ^ (i % 8):Nat):Int):=by have:0<2 ^ (i % 8):=Nat.pow_pos au;omega
 obtain⟨q,hq⟩:∃q:Int,q=(2 ^ (i % 8):Nat):=⟨_,rfl⟩;obtain⟨v,hv⟩:∃v:Int,v=if eJ (bl p) i then 1 else 0:=⟨_,rfl⟩;rw[←hq] at hbit hP hpos;rw[←hv] at hbit ⊢;have HP:=Lib.hid hP;have HB:=Lib.hid hbit
 have hsb:(p[i / 8].toNat:Int)<256:=by have:=p[i / 8].toNat_lt;omega
 have hd0:0≤(p[i / 8].toNat:Int) / q:=Int.ediv_nonneg ab ab;have hd1:(p[i / 8].toNat:Int) / q≤255:=Int.le_trans (Int.ediv_le_self _ ab) ab
 have hi':(i:Int) / 8<(p.size:Int):=by omega
 have hi0:0≤(i:Int) / 8:=by omega
 clear hP hq hv hget e hbit
 go_enter Tryz.func212,Tryz.ntmps212
 go_wp2
 (refine wp_region_quiet_below aa aa ?_;(repeat (go_big_quiet_step ((first | (go_at_call 244;exact Calls.reg_pure (HP.out _))))));(with_reducible refine wpQuiet_nil ?_);intro W1 hreg;have hbW1:=a7 hreg;clear hreg;obtain⟨hcW1,hfW1⟩:=bH hbW1)
 go_wp2
 go_ret
 exact⟨BG HB.out,hbW1⟩
open Go.RowKit
theorem sV (p:List UInt8) (l h k:Nat) (b:l+k≤h):(fV p l h).take k=fV p l (l+k):=by
 apply List.ext_getElem?;intro i;rw[List.getElem?_take,im,im];by_cases a:i<k
 · rw[if_pos a,if_pos ab,if_pos ab]
 · rw[if_neg a,if_neg ab]
theorem tE (p:List UInt8) (l h k:Nat):(fV p l h).drop k=fV p (l+k) h:=by
 apply List.ext_getElem?;intro i;rw[List.getElem?_drop,im,im,show l+k+i=l+(k+i) by omega]
theorem dP (p:List UInt8) (l k:Nat):(p.drop l).take k=fV p l (l+k):=by
 apply List.ext_getElem?;intro i;rw[List.getElem?_take,List.getElem?_drop,im];by_cases a:i<k
 · rw[if_pos a,if_pos ab]
 · rw[if_neg a,if_neg ab]
theorem C3 (p:List UInt8) (n:Nat) (h:p.length=n):fV p 0 n=p:=by unfold fV;rw[←h,List.take_length,List.drop_zero]
theorem ep {s:ByteArray} (h:s.size=0):s=⟨#[]⟩:=ByteArray.size_eq_zero_iff.1 h
structure OpRep (p:ByteArray) (x:Op):Prop where
 le:Bt x≤EA x
 in':EA x≤512
 mid:∀m,m.length=EA x-Bt x→(Ge x m).length=m.length
 do':bl (ew p x)=jJ (bl p) (Bt x) (EA x) (Ge x (fV (bl p) (Bt x) (EA x)))
 fit:cR p x=Gz x (fV (bl p) (Bt x) (EA x))
theorem Hd {p:ByteArray} {x:Op} (i:p.size=512) (h:fX x):OpRep p x:=by
 have f:(bl p).length=512:=by rw[aO];exact i
 obtain⟨k,a,e,c,o,n⟩:=x;unfold fX at h
 dsimp only at h
 rcases h with ⟨rfl,rfl,rfl,rfl,g,d⟩ | ⟨rfl,rfl,rfl,hs,h1,h2,h3,h4⟩ | ⟨rfl,rfl,g,h1,h2,h3,h4,h5⟩ | ⟨rfl,rfl,d,h1,h2,h3,h4,h5⟩ | ⟨hk,rfl,g,d,h1,h2,h3,h4⟩ | ⟨rfl,rfl,rfl,rfl,g,d⟩
 · refine⟨Nat.le_refl _,Nat.zero_le _,fun m hm=>rfl,?_,rfl⟩
   show bl p=jJ (bl p) 0 0 (fV (bl p) 0 0);rw[wO _ _ _ (Nat.le_refl _) ab]
 · obtain⟨A,rfl⟩:=Int.eq_ofNat_of_zero_le h3
   have b:Bt ⟨1,A,0,0,o,n⟩=A:=rfl;have e2:EA ⟨1,A,0,0,o,n⟩=A+o.size:=rfl;refine⟨by omega,by omega,fun m hm=>?_,?_,?_⟩
   · show(bl n).length=m.length
     rw[aO];omega
   · rw[b,e2]
     show bl (ss p A n)=jJ (bl p) A (A+o.size) (bl n);rw[yW,←hs];rfl
   · rw[b,e2]
     show(((bl p).drop A).take o.size==bl o)=(fV (bl p) A (A+o.size)==bl o);rw[dP]
 · obtain⟨A,rfl⟩:=Int.eq_ofNat_of_zero_le h3
   obtain⟨E,rfl⟩:=Int.eq_ofNat_of_zero_le (show 0≤e by omega);have b:Bt ⟨2,A,E,0,o,n⟩=A:=rfl;have e2:EA ⟨2,A,E,0,o,n⟩=E+n.size:=rfl
   have e3:((E:Int)-A).toNat=E-A:=by omega
   refine⟨by omega,by omega,fun m hm=>?_,?_,?_⟩
   · show(bl n ++ m.take ((E:Int)-A).toNat).length=m.length
     rw[List.length_append,aO,List.length_take];omega
   · rw[b,e2]
     show Fe (bl p) A E (bl n)=jJ (bl p) A (E+n.size) (bl n ++ (fV (bl p) A (E+n.size)).take ((E:Int)-A).toNat);rw[e3,sV _ _ _ _ ab,show A+(E-A)=E by omega];unfold Fe jJ fV;rw[aO];simp only[List.append_assoc]
   · rw[b,e2]
     show iT (((bl p).drop E).take n.size)=iT ((fV (bl p) A (E+n.size)).drop ((E:Int)-A).toNat);rw[e3,tE,dP,show A+(E-A)=E by omega]
 · obtain⟨A,rfl⟩:=Int.eq_ofNat_of_zero_le h3
   obtain⟨E,rfl⟩:=Int.eq_ofNat_of_zero_le (show 0≤e by omega);have b:Bt ⟨3,A,E,0,o,n⟩=A:=rfl;have e2:EA ⟨3,A,E,0,o,n⟩=E:=rfl;refine⟨by omega,by omega,fun m hm=>?_,?_,?_⟩
   · show(m.drop o.size ++ List.replicate o.size 0).length=m.length
     rw[List.length_append,List.length_replicate,List.length_drop];omega
   · rw[b,e2]
     show F2 (bl p) A E o.size=jJ (bl p) A E ((fV (bl p) A E).drop o.size ++ List.replicate o.size 0);rw[tE];unfold F2 jJ fV;simp only[List.append_assoc]
   · rw[b,e2]
     show(((bl p).drop A).take o.size==bl o)=((fV (bl p) A E).take o.size==bl o);rw[dP,sV _ _ _ _ ab]
 · obtain⟨A,rfl⟩:=Int.eq_ofNat_of_zero_le h1
   obtain⟨C,rfl⟩:=Int.eq_ofNat_of_zero_le (show 0≤c by omega);rcases hk with rfl | rfl
   all_goals
    refine⟨?_,?_,?_,?_,?_⟩
    · show((A:Int) / 8).toNat≤(((A:Int)+C-1) / 8+1).toNat
      omega
    · show(((A:Int)+C-1) / 8+1).toNat≤512
      omega
    · intro m hm
      exact dy _ _ _ _
    · show bK (bl p) A C _=jJ (bl p) ((A:Int) / 8).toNat (((A:Int)+C-1) / 8+1).toNat (bK (fV (bl p) ((A:Int) / 8).toNat (((A:Int)+C-1) / 8+1).toNat) (A-8*((A:Int) / 8).toNat) C _)
      rw[←wy (bl p) _ _ _ A C _ ab ab (iY _ _ _ ab) ab ab,wO _ _ _ ab ab]
    · show cr (bl p) A C _=cr (fV (bl p) ((A:Int) / 8).toNat (((A:Int)+C-1) / 8+1).toNat) (A-8*((A:Int) / 8).toNat) C _
      rw[vQ _ _ _ _ _ _ ab ab]
 · refine⟨(by show 0≤512;omega),Nat.le_refl 512,fun m hm=>?_,?_,?_⟩
   · show(bl n).length=m.length
     rw[aO,hm];exact d
   · show bl n=jJ (bl p) 0 512 (bl n)
     unfold jJ;rw[List.drop_of_length_le ab,List.append_nil,List.take_zero,List.nil_append]
   · show(bl p==bl o)=(fV (bl p) 0 512==bl o)
     rw[C3 _ _ f]
theorem jK {p:ByteArray} {x:Op} (b:p.size=512) (h:fX x):(ew p x).size=512:=by
 have r:=Hd b h
 have a:(bl p).length=512:=by rw[aO];exact b
 rw[←aO,r.do',oN _ _ _ _ r.le (by rw[a];exact r.in') (by rw[r.mid _ (iY _ _ _ (by rw[a];exact r.in'))];exact iY _ _ _ (by rw[a];exact r.in'))];exact a
theorem Eg {x:Op} (h:fX x):fX (bO x)∧bO (bO x)=x:=by
 obtain⟨k,a,e,c,o,n⟩:=x;unfold fX at h
 dsimp only at h
 rcases h with ⟨rfl,rfl,rfl,rfl,b,d⟩ | ⟨rfl,rfl,rfl,hs,h1,h2,h3,h4⟩ | ⟨rfl,rfl,b,h1,h2,h3,h4,h5⟩ | ⟨rfl,rfl,d,h1,h2,h3,h4,h5⟩ | ⟨hk,rfl,b,d,h1,h2,h3,h4⟩ | ⟨rfl,rfl,rfl,rfl,b,d⟩
 · exact⟨.inl ⟨rfl,rfl,rfl,rfl,d,b⟩,rfl⟩
 · exact⟨.inr (.inl ⟨rfl,rfl,rfl,hs.symm,by show 0<n.size;omega,by show n.size≤200;omega,h3,by show(n.size:Int)≤512-a;omega⟩),rfl⟩
 · refine⟨.inr (.inr (.inr (.inl ⟨rfl,rfl,b,h1,h2,h3,by show a+n.size≤e+n.size;omega,by show e+n.size≤512;omega⟩))),?_⟩
   show Op.mk 2 a (e+n.size-n.size) 0 o n=_;rw[show e+(n.size:Int)-n.size=e by omega]
 · refine⟨.inr (.inr (.inl ⟨rfl,rfl,d,h1,h2,h3,by show a≤e-o.size;omega,by show e-(o.size:Int)≤512-o.size;omega⟩)),?_⟩
   show Op.mk 3 a (e-o.size+o.size) 0 o n=_;rw[show e-(o.size:Int)+o.size=e by omega]
 · rcases hk with rfl | rfl
   · exact⟨.inr (.inr (.inr (.inr (.inl ⟨.inr rfl,rfl,d,b,h1,h2,h3,h4⟩)))),rfl⟩
   · exact⟨.inr (.inr (.inr (.inr (.inl ⟨.inl rfl,rfl,d,b,h1,h2,h3,h4⟩)))),rfl⟩
 · exact⟨.inr (.inr (.inr (.inr (.inr ⟨rfl,rfl,rfl,rfl,d,b⟩)))),rfl⟩
end Go.Proofs.YtcfdpfmchchkaaaGreatDoor
