/- Numbers of so many bytes -/
import Derived.Test.YtcfdpfmchchkaaaGreatDoorOpA
import Derived.Test.YtcfdpfmchchkaaaGreatDoorShC
namespace Go.Proofs.YtcfdpfmchchkaaaGreatDoor
set_option maxRecDepth 100000
set_option linter.unusedVariables false
set_option linter.unusedSimpArgs false
open Go.RowKit
theorem te:(Tryz.prog.info? 5).map (fun i=>(i.zero,i.size,i.bytes))=some (some (.int .u8 0),1,1):=by kernel_rfl
theorem BI (w:World) (g a n:Nat) (l:List UInt8) (e:n=l.length) (d:∀j (b:j<l.length),w.cell? ⟨g,j,none⟩=some (bB l[j])) :
 (convert 126 9 (.slice (some ⟨g,0,none⟩) n a)).run Tryz.prog w=.ok (.string (bs l)) w:=by
 subst e
 have c:∀j (b:j<l.length),w.cell? ((⟨g,0,none⟩:Addr).add j)=some (.int .u8 (l[j].toNat:Int)):=fun j b=>by
  have:(⟨g,0,none⟩:Addr).add j=⟨g,j,none⟩:=by unfold Addr.add;split<;>simp_all
  rw[this];exact d j b
 exact run_convert_bytes_back (P:=Tryz.prog) w 126 9 5 ⟨g,0,none⟩ a l bX oy dh c
theorem pU {w:World} {a n:Nat} {v:Value} {l:List UInt8} (h:w.ownsRow a 5 1 v n (l.map bB)) :
 (convert 126 9 v).run Tryz.prog w=.ok (.string (bs l)) w:=by
 have b:=h.1;simp only[List.length_map,Nat.mul_one] at b;rcases h.2 with ⟨rfl,d⟩ | ⟨g,cap,cur,rfl,_⟩
 · have:l=[]:=List.eq_nil_of_length_eq_zero ab
   subst this;exact run_convert_bytes_nil (P:=Tryz.prog) w 126 5 bX oy 0 0 9 dh
 · refine BI w g cap n l b.symm fun j c=>?_
   rw[h.cellAt j ab];simp[c]
theorem bA (n:Int) (c:Nat) (hn:0≤n) (hn2:n<9223372036854775808) (hc:c≤1000) (w:World) :
 Calls Tryz.prog 75 #[.int .i64 n,.int .i64 c] w fun e w'=>e=.returned (.string (bs (lit n c)))∧Below w.heap.size w w':=by
 obtain⟨i0,hi,hz0,hz1,hz2⟩:=info_parts te
 go_enter Tryz.func75,Tryz.ntmps75
 go_wp2
 go_loopw [0,5,6] (fun m v i wr=>∃k:Nat,k≤c∧i=.int .i64 k∧Below w.heap.size w wr∧(∃q:Int,0≤q∧q<9223372036854775808∧m=.int .i64 q∧q=n / 256 ^ k)∧wr.ownsRow w.heap.size 5 1 v k ((lit n k).map bB)) (fun _ _ i _=>c-(intOf i).toNat)
 case atStart=>exact⟨0,Nat.zero_le _,rfl,Below.refl _ _,⟨n,hn,hn2,rfl,by simp⟩,World.ownsRow_nil _ _ _ _⟩
 case round=>
  obtain⟨k,hk,rfl,hb,⟨q,hq0,hq1,rfl,hq⟩,hown⟩:=hrel;have HQ:=Lib.hid hq;clear hq;by_cases hlt:k<c
  · have hbs:=hb.size
    go_wp2_with (at_builtin;refine wpList_append_own _ rfl (.tmp 12) (.tmp 16) 126 rfl w.heap.size 5 i0 (.int .u8 0) 1 1 Tryz.underlying126 hi hz0 hz1 hz2 rfl au _ _ _ rfl (hown.alloc _) ⟨wr.heap.size,0,none⟩ 1 1 [.int .u8 (q % 256)] rfl rfl ?c1 ?c2 ?c3 ?c4 ?c5 ?_)
    case c1=>
     intro j u hj
     match j,hj with
     | 0,hj=>simp at hj;subst hj;simp[Addr.add]
    case c2=>intro u hu;simp at hu;subst hu;rfl
    case c3=>unfold maxLen;omega
    case c4=>omega
    case c5=>simp;omega
    intro v' w1 hown' hgrow _;have hb1:Below w.heap.size w w1:=(hb.alloc hbs _).grown hgrow (by simp;omega) (fun g hg=>(hown.lt g hg).1)
    have hown2:w1.ownsRow w.heap.size 5 1 v' (k+1) ((lit n (k+1)).map bB):=by
     rw[vV,List.map_append,List.map_cons,List.map_nil,sI,←HQ.out];exact hown'
    clear hown' hgrow hown hb
    go_wp2
    go_roundw
    case rel=>exact⟨k+1,by omega,by go_num,hb1,⟨q / 256,by omega,by omega,rfl,by rw[HQ.out,Int.pow_succ,Int.ediv_ediv_of_nonneg (Int.le_of_lt (Int.pow_pos au))]⟩,hown2⟩
    case measure=>simp[intOf];omega
  · obtain rfl:k=c:=by omega
    have hconv:=pU hown;clear hown
    go_wp2
    go_ret
    exact⟨rfl,hb⟩
theorem lY (s:ByteArray) (a c:Nat) (h1:a+c≤s.size) (hs:s.size≤maxLen) (hc:c≤6) (w:World) :
 Calls Tryz.prog 73 #[.string s,.int .i64 a,.int .i64 c] w fun e w'=>e=.returned (.int .i64 (num (((bl s).drop a).take c)))∧w=w':=by
 unfold maxLen at hs
 go_enter Tryz.func73,Tryz.ntmps73
 go_wp2
 go_loop [7,8] (fun n i=>∃(k:Nat),k≤c∧i=.int .i64 ((k:Int)-1)∧n=.int .i64 (num ((((bl s).drop a).take c).drop k))) (fun _ i=>(intOf i+1).toNat)
 case atStart=>exact⟨c,Nat.le_refl _,rfl,by rw[List.drop_of_length_le (by rw[List.length_take];omega)];rfl⟩
 case round=>
  obtain⟨k,hk,rfl,rfl⟩:=hrel;by_cases hlt:1≤k
  · obtain⟨j,rfl⟩:∃j,k=j+1:=⟨k-1,by omega⟩
    have hj:a+j<s.size:=by omega
    have hc:s[a+j].toNat<256:=s[a+j].toNat_lt;obtain⟨L,hL⟩:∃L,L=(((bl s).drop a).take c):=⟨_,rfl⟩
    have hLl:L.length=c:=by rw[hL,List.length_take,List.length_drop,aP];omega
    have hget:L[j]? = some s[a+j]:=by
     rw[hL,List.getElem?_take,if_pos ab,List.getElem?_drop];exact List.getElem?_eq_getElem (l:=bl s) hj
    have hn:num (L.drop j)=s[a+j].toNat+256*num (L.drop (j+1)):=by
     rw[List.drop_eq_getElem_cons ab];rw[List.getElem?_eq_getElem ab] at hget;injection hget with hget;rw[hget];rfl
    have hm0:=(eW (L.drop (j+1))).1;have hm2:num (L.drop (j+1))<281474976710656:=E5 _ (by rw[List.length_drop];omega);rw[←hL];have HN:=Lib.hid hn;clear hn hL hLl hget
    go_wp2
    go_round
    case rel=>exact⟨j,by omega,rfl,by rw[HN.out];go_num⟩
    case measure=>simp[intOf]
  · go_wp2
    go_ret
    obtain rfl:k=0:=by omega
    exact⟨rfl,rfl⟩
open Go.RowKit
theorem AG (n:Nat):(madeCells (Value.int .u8 0).cells (n*1)).toList=(cu n).map bB:=by
 have:(Value.int .u8 0).cells=#[.int .u8 0]:=rfl;rw[this,Nat.mul_one,toList_madeCells_one];simp[cu,bB]
theorem sx (n:Nat) (w:World) (hn:n≤200000) :
 Calls Tryz.prog 126 #[.int .i64 n] w fun e w'=>e=.returned (.string (bs (cu n)))∧Below w.heap.size w w':=by
 obtain⟨i0,hi,hz0,hz1,hz2⟩:=info_parts te
 have hmin:min (n:Int) 200000=n:=by omega
 have hmax:max 0 (n:Int)=n:=by omega
 go_enter Tryz.func126,Tryz.ntmps126
 go_wp2_with (at_make;refine wpList_make_full _ rfl _ _ _ rfl w.heap.size 5 i0 (.int .u8 0) 1 Tryz.underlying126 hi hz0 hz1 _ _ _ _ n rfl rfl rfl rfl (by rw[hz2];omega) (by unfold maxLen;omega) (Nat.le_refl _) ?_;intro W1 hown hgrow;rw[AG] at hown;have hb1:Below w.heap.size w W1:=(Below.refl _ _).grown hgrow (Nat.le_refl _) bm;have hconv:=pU hown;clear hown hgrow)
 go_ret
 exact⟨rfl,hb1⟩
theorem uh (k:Nat) (z:ByteArray) (w:World) (a:z=bs (cu k)) (c:k≤1000000) :
 bz 267 #[.string ⟨#[0]⟩,ae k] w (.string z):=by
 refine(Tryz.strings_Repeat _ k _ ab (by show 1*k≤_;omega)).mono ?_
 rintro e b ⟨rfl,hb1⟩
 refine⟨?_,hb1⟩;rw[a,←uB];rfl
theorem vE (k:Nat):(bs (cu k)).size=k:=by rw[bq];simp[cu]
open Go.RowKit
def gr (x:Op):Prop:=
 (x.k=0∧x.a=0∧x.e=0∧x.c=0∧x.o.size=0∧x.n.size=0) ∨
 (x.k=1∧x.e=0∧x.c=0∧x.o.size=x.n.size∧0<x.o.size∧x.o.size≤200∧0≤x.a∧(x.o.size:Int)≤512-x.a) ∨
 (x.k=2∧x.c=0∧x.o.size=0∧0<x.n.size∧x.n.size≤200∧0≤x.a∧x.a≤x.e∧x.e≤512-x.n.size) ∨
 (x.k=3∧x.c=0∧x.n.size=0∧0<x.o.size∧x.o.size≤200∧0≤x.a∧x.a+x.o.size≤x.e∧x.e≤512) ∨
 ((x.k=4∨x.k=5)∧x.e=0∧x.o.size=0∧x.n.size=0∧0≤x.a∧x.a≤4095∧1≤x.c∧x.c≤4096-x.a) ∨
 (x.k=6∧x.a=0∧x.e=0∧x.c=0∧x.o.size=512∧x.n.size=512)
theorem Ah {x:Op}:gj x=0↔bD x.k 0 6=true∧dm x=true∧dJ x=true∧(!db x.k||decide (0<dn x))=true∧(!db x.k||decide (dn x≤200))=true∧fD x=true:=by
 unfold gj
 cases hk:bD x.k 0 6
 · simp
 · rw[if_neg bm,aS]
   simp only[List.mem_cons,List.not_mem_nil,or_false,forall_eq_or_imp,forall_eq,true_and];rw[aD au,aD au,aD au,aD au,aD au]
theorem gZ (x:Op):gj x=0↔gr x:=by
 rw[Ah,inB_true];obtain⟨k,a,e,c,o,n⟩:=x;by_cases b:0≤k∧k≤6
 · have:k=0∨k=1∨k=2∨k=3∨k=4∨k=5∨k=6:=by omega
   rcases this with rfl | rfl | rfl | rfl | rfl | rfl | rfl
   all_goals
    simp only[gr,dm,dJ,db,fD,Ao,o4,jv,qt,qo,bD,Bool.and_eq_true,Bool.or_eq_true,decide_eq_true_eq,beq_iff_eq,Bool.not_eq_true',Bool.and_eq_false_iff,decide_eq_false_iff_not,Bool.or_eq_false_iff,beq_eq_false_iff_ne];simp[-ByteArray.size_eq_zero_iff]
    try simp only[dn]
    try omega
 · constructor
   · intro h;exact absurd h.1 b
   · intro h;unfold gr at h;dsimp only at h;omega
def fz (p:List UInt8) (l h:Nat):List UInt8:=(p.take h).drop l
def iG (p:List UInt8) (l h:Nat) (m:List UInt8):List UInt8:=p.take l ++ m ++ p.drop h
theorem gO (p:List UInt8) (l h i:Nat):(fz p l h)[i]? = if l+i<h then p[l+i]? else none:=by
 unfold fz;rw[List.getElem?_drop,List.getElem?_take]
theorem h9 (p:List UInt8) (l h:Nat) (a:h≤p.length):(fz p l h).length=h-l:=by
 unfold fz;rw[List.length_drop,List.length_take];omega
theorem lZ (p:List UInt8) (l h:Nat) (m:List UInt8) (c:l≤h) (b:h≤p.length) (hm:m.length=h-l) (i:Nat) :
 (iG p l h m)[i]? = if i<l then p[i]? else if i<h then m[i-l]? else p[i]?:=by
 unfold iG;rw[List.append_assoc,List.getElem?_append,List.length_take,Nat.min_eq_left ab];by_cases a:i<l
 · rw[if_pos a,if_pos a,List.getElem?_take,if_pos a]
 · rw[if_neg a,if_neg a,List.getElem?_append,hm]
   by_cases a2:i<h
   · rw[if_pos ab,if_pos a2]
   · rw[if_neg ab,if_neg a2,List.getElem?_drop]
     congr 1;omega
theorem nT (p:List UInt8) (l h:Nat) (m:List UInt8) (b:l≤h) (a:h≤p.length) (hm:m.length=h-l):(iG p l h m).length=p.length:=by
 unfold iG;simp only[List.length_append,List.length_take,List.length_drop,hm];omega
theorem vO (p:List UInt8) (l h:Nat) (c:l≤h) (a:h≤p.length):iG p l h (fz p l h)=p:=by
 apply List.ext_getElem?;intro i;rw[lZ p l h _ c a (h9 p l h a),gO];by_cases b:i<l
 · rw[if_pos b]
 · rw[if_neg b]
   by_cases a2:i<h
   · rw[if_pos a2,if_pos ab];congr 1;omega
   · rw[if_neg a2]
theorem gJ (l:List UInt8) (i:Nat):l.getD i 0=(l[i]?).getD 0:=List.getD_eq_getElem?_getD
theorem yY (p:List UInt8) (l h i:Nat) (b:8*l≤i) (c:i / 8<h):jI (fz p l h) (i-8*l)=jI p i:=by
 have a:(i-8*l) / 8=i / 8-l:=by omega
 have e2:(i-8*l) % 8=i % 8:=by omega
 unfold jI;rw[a,e2,gJ,gJ,gO,if_pos ab,show l+(i / 8-l)=i / 8 by omega]
theorem zL (p m:List UInt8) (l h i:Nat) (v:Bool) (e:l≤h) (d:h≤p.length) (hm:m.length=h-l) (k:8*l≤i) (f:i / 8<h) :
 putAt (iG p l h m) i v=iG p l h (putAt m (i-8*l) v):=by
 have g:(i-8*l) / 8=i / 8-l:=by omega
 have e2:(i-8*l) % 8=i % 8:=by omega
 have e3:(iG p l h m).getD (i / 8) 0=m.getD (i / 8-l) 0:=by
  rw[gJ,gJ,lZ p l h m e d hm,if_neg ab,if_pos f]
 have b:=nT p l h m e d hm;unfold putAt;rw[g,e2,e3];apply List.ext_getElem?;intro j;rw[lZ p l h _ e d (by rw[List.length_set,hm])];by_cases a:i / 8=j
 · rw[←a,List.getElem?_set_self (by rw[b];omega),if_neg ab,if_pos f,List.getElem?_set_self ab]
 · rw[List.getElem?_set_ne a,lZ p l h m e d hm]
   by_cases c:j<l
   · rw[if_pos c,if_pos c]
   · rw[if_neg c,if_neg c]
     by_cases a2:j<h
     · rw[if_pos a2,if_pos a2,List.getElem?_set_ne ab]
     · rw[if_neg a2,if_neg a2]
theorem uN (p m:List UInt8) (l h a c:Nat) (v:Bool) (d:l≤h) (b:h≤p.length) (hm:m.length=h-l) (f:8*l≤a) (e:a+c≤8*h) :
 cB (iG p l h m) a c v=iG p l h (cB m (a-8*l) c v):=by
 induction c with
 | zero=>rfl
 | succ c ih=>
  unfold cB;rw[ih ab,zL p _ l h (a+c) v d b (by rw[ek,hm]) ab ab,show a+c-8*l=a-8*l+c by omega]
theorem uk (p:List UInt8) (l h a c:Nat) (v:Bool) (b:8*l≤a) (d:a+c≤8*h):dX (fz p l h) (a-8*l) c v=dX p a c v:=by
 induction c with
 | zero=>rfl
 | succ c ih=>
  unfold dX;rw[ih ab,show a-8*l+c=a+c-8*l by omega,yY p l h (a+c) ab ab]
def Fe (x:Op):Int × Int:=
 if x.k=1 then (x.a,x.a+x.o.size) else if x.k=2 then (x.a,x.e+x.n.size) else if x.k=3 then (x.a,x.e)
 else if x.k=4∨x.k=5 then (x.a / 8,(x.a+x.c-1) / 8+1) else if x.k=6 then (0,512) else (0,0)
def AW (x:Op):Nat:=(Fe x).1.toNat
def DM (x:Op):Nat:=(Fe x).2.toNat
def Fo (x:Op) (m:List UInt8):List UInt8:=
 if x.k=1 then bl x.n else if x.k=2 then bl x.n ++ m.take (x.e-x.a).toNat
 else if x.k=3 then m.drop x.o.size ++ List.replicate x.o.size 0
 else if x.k=4 then cB m (x.a.toNat-8*AW x) x.c.toNat true
 else if x.k=5 then cB m (x.a.toNat-8*AW x) x.c.toNat false
 else if x.k=6 then bl x.n else m
def Gs (x:Op) (m:List UInt8):Bool:=
 if x.k=1 then m==bl x.o else if x.k=2 then lF (m.drop (x.e-x.a).toNat) else if x.k=3 then m.take x.o.size==bl x.o
 else if x.k=4 then dX m (x.a.toNat-8*AW x) x.c.toNat true
 else if x.k=5 then dX m (x.a.toNat-8*AW x) x.c.toNat false
 else if x.k=6 then m==bl x.o else true
theorem uU (s:ByteArray):∀(n i:Nat) (r:List UInt8),s.size-i=n→ByteArray.toList.loop s i r=r.reverse ++ (bl s).drop i:=by
 intro n
 induction n with
 | zero=>
  intro i r h;unfold ByteArray.toList.loop;rw[if_neg ab,List.drop_of_length_le (by rw[aP];omega),List.append_nil]
 | succ n ih=>
  intro i r h;unfold ByteArray.toList.loop;rw[if_pos ab,ih (i+1) _ ab,yy s i ab,List.reverse_cons,List.append_assoc]
  have:s.get! i=s[i]'ab:=by
   show s.data[i]! = _;rw[getElem!_pos s.data i (by show i<s.size;omega)];rfl
  rw[this];rfl
theorem toList_eq (s:ByteArray):s.toList=bl s:=by
 unfold ByteArray.toList;rw[uU s _ 0 [] rfl];rfl
theorem isEmpty_eq (s:ByteArray):s.toList.isEmpty=(s.size==0):=by
 rw[toList_eq,Bool.eq_iff_iff,List.isEmpty_iff,beq_iff_eq,←aP,List.length_eq_zero_iff]
theorem toList_nil (s:ByteArray):(s.toList=[])=(s.size=0):=by
 rw[toList_eq,←aP,List.length_eq_zero_iff]
theorem sQ (a b:Nat):((a:Int)==(b:Int))=(a==b):=by
 rw[Bool.eq_iff_iff,beq_iff_eq,beq_iff_eq];omega
open Go.RowKit Go.Sort
theorem ib (s:ByteArray) (w:World) (hs:s.size≤maxLen) :
 Calls Tryz.prog 150 #[.string s] w fun e w'=>e=.returned (.int .i64 (cM s))∧w=w':=by
 unfold maxLen at hs
 go_enter Tryz.func150,Tryz.ntmps150
 go_wp2_with (go_at_call 151;refine(aE _ _ _).mono ?_;rintro e w' ⟨rfl,rfl⟩)
 go_ret
 exact⟨Eg (by unfold cM;rw[show(512:Int)=((512:Nat):Int) from rfl,sQ]),rfl⟩
def uH (n:Int):Int:=bF (bD n 1 2147483647) 2
theorem qM (n:Int) (w:World) :
 Calls Tryz.prog 203 #[.int .i64 n] w fun e w'=>e=.returned (.int .i64 (uH n))∧w=w':=by
 go_enter Tryz.func203,Tryz.ntmps203
 go_wp2_with (first | (go_at_call 151;refine(aE _ _ _).mono ?_;rintro e w' ⟨rfl,rfl⟩) | (go_at_call 152;refine(bn _ _ _ _).mono ?_;rintro e w' ⟨rfl,rfl⟩))
 go_ret
 exact⟨rfl,rfl⟩
theorem ml (n:Int) (w:World) :
 Calls Tryz.prog 173 #[.int .i64 n] w fun e w'=>e=.returned (.bool (bD n 0 2147483647))∧w=w':=by
 go_enter Tryz.func173,Tryz.ntmps173
 go_wp2_with (go_at_call 74;refine(bu _ _ _ _).mono ?_;rintro e w' ⟨rfl,rfl⟩)
 go_ret
 exact⟨rfl,rfl⟩
theorem xN (b:Bool) (w:World) :
 Calls Tryz.prog 76 #[.bool b] w fun e w'=>e=.returned (.int .i64 (if b then 1 else 0))∧w=w':=by
 cases b
 all_goals
  go_enter Tryz.func76,Tryz.ntmps76
  go_wp2
  go_ret
  exact⟨rfl,rfl⟩
theorem nO (s b:ByteArray) (a:Nat) (w:World) (hs:s.size≤3100) (h:a+b.size≤s.size) :
 Calls Tryz.prog 215 #[.string s,.int .i64 a,.string b] w fun e w'=>e=.returned (.string (vB s a b))∧Below w.heap.size w w':=by
 have Y:a≤s.size:=by omega
 have Y:(a+b.size:Int)≤s.size:=by omega
 have hz1:(s.extract 0 a ++ b).size=a+b.size:=by rw[ByteArray.size_append,ByteArray.size_extract];omega
 go_enter Tryz.func215,Tryz.ntmps215
 go_wp2
 (refine wp_region_quiet_below aa aa ?_;(repeat (go_big_quiet_step ((first | fail))));(with_reducible refine wpQuiet_nil ?_);intro W1 hreg;have hbW1:=bY hreg;clear hreg;obtain⟨hcW1,hfW1⟩:=cE hbW1)
 go_wp2
 go_ret
 exact⟨rfl,hbW1⟩
open Go.RowKit Go.Sort
theorem xK {α:Type} (p:α→Bool):∀l:List α,l.dropWhile p=[]↔∀x∈l,p x=true
 | []=>by simp
 | a::l=>by
  rw[List.dropWhile_cons]
  cases h:p a
  · simp[h]
  · simp only[if_true,xK p l,List.mem_cons,forall_eq_or_imp,h,true_and]
theorem yI {α:Type} (p:α→Bool):∀(l:List α) (x:α) (r:List α),l.dropWhile p=x::r→p x=false
 | [],x,r,h=>by simp at h
 | a::l,x,r,h=>by
  rw[List.dropWhile_cons] at h
  cases hp:p a
  · rw[hp,if_neg au] at h;injection h with h1 _;rw[←h1];exact hp
  · rw[hp,if_pos rfl] at h;exact yI p l x r h
theorem Bj {α:Type} (p:α→Bool):∀(l:List α) (x:α),x∈l.dropWhile p→x∈l
 | [],x,h=>by simp at h
 | a::l,x,h=>by
  rw[List.dropWhile_cons] at h
  cases hp:p a
  · rw[hp,if_neg au] at h;exact h
  · rw[hp,if_pos rfl] at h;exact List.mem_cons_of_mem _ (Bj p l x h)
theorem qT (l:List UInt8):(l.reverse.dropWhile (·==0)).reverse.dropWhile (·==0)=[]↔lF l=true:=by
 unfold lF;rw[List.all_eq_true,xK]
 constructor
 · intro h b d
   cases hd:l.reverse.dropWhile (·==0) with
   | nil=>exact(xK _ _).1 hd b (List.mem_reverse.2 d)
   | cons x r=>
    have c:=yI _ _ _ _ hd;have a:=h x (by rw[hd];simp);rw[c] at a;cases a
 · intro h x hx
   exact h x (List.mem_reverse.1 (Bj _ _ _ (List.mem_reverse.1 hx)))
theorem wR (s:ByteArray) (w:World) (hs:s.size≤3100) :
 Calls Tryz.prog 241 #[.string s] w fun e w'=>e=.returned (.bool (lF (bl s)))∧Below w.heap.size w w':=by
 have hC:Calls Tryz.prog 266 #[.string s,.string ⟨#[0]⟩] w fun e w'=>e=.returned (.string ⟨(Lib.trimB s.data.toList 0).toArray⟩)∧Below w.heap.size w w':=
  (Tryz.strings_Trim_one s 0 au w ab).mono fun e w' ⟨h1,h2⟩=>⟨h1,by rcases h2 with rfl | rfl;exact Below.refl _ _;exact(Below.refl _ _).drew⟩
 obtain⟨t,ht⟩:∃t:ByteArray,t=⟨(Lib.trimB s.data.toList 0).toArray⟩:=⟨_,rfl⟩;rw[←ht] at hC
 have e:t.toList.isEmpty=lF (bl s):=by
  rw[toList_eq,ht,Bool.eq_iff_iff,List.isEmpty_iff];exact qT (bl s)
 have E:=Lib.hid e;have HC:=Lib.hid hC;clear ht e hC
 go_enter Tryz.func241,Tryz.ntmps241
 go_wp2_with (go_at_call 266;refine(HC.out).mono ?_;rintro e W1 ⟨rfl,hbW1⟩;obtain⟨hcW1,hfW1⟩:=cE hbW1)
 go_ret
 exact⟨Hj E.out,hbW1⟩
theorem zK (n:Nat) (w:World) (hn:n≤3100) :
 Calls Tryz.prog 242 #[.int .i64 n] w fun e w'=>e=.returned (.string (bs (cu n)))∧Below w.heap.size w w':=by
 go_enter Tryz.func242,Tryz.ntmps242
 go_wp2_with (go_at_call 267;refine(uh n (bs (cu n)) _ rfl ab).mono ?_;rintro e W1 ⟨rfl,hbW1⟩;obtain⟨hcW1,hfW1⟩:=cE hbW1)
 go_ret
 exact⟨rfl,hbW1⟩
theorem bj (n:Int) (c:Nat) (hn:0≤n) (hn2:n<9223372036854775808) (hc:c≤1000) (w:World) :
 Calls Tryz.prog 216 #[.int .i64 n,.int .i64 c] w fun e w'=>e=.returned (.string (bs (lit n c)))∧Below w.heap.size w w':=by
 obtain⟨i0,hi,hz0,hz1,hz2⟩:=info_parts te
 go_enter Tryz.func216,Tryz.ntmps216
 go_wp2
 go_loopw [0,5,7] (fun m v i wr=>∃k:Nat,k≤c∧i=.int .i64 k∧Below w.heap.size w wr∧(∃q:Int,0≤q∧q<9223372036854775808∧m=.int .i64 q∧q=n / 256 ^ k)∧wr.ownsRow w.heap.size 5 1 v k ((lit n k).map bB)) (fun _ _ i _=>c-(intOf i).toNat)
 case atStart=>exact⟨0,Nat.zero_le _,rfl,Below.refl _ _,⟨n,hn,hn2,rfl,by simp⟩,World.ownsRow_nil _ _ _ _⟩
 case round=>
  obtain⟨k,hk,rfl,hb,⟨q,hq0,hq1,rfl,hq⟩,hown⟩:=hrel;have HQ:=Lib.hid hq;clear hq;by_cases hlt:k<c
  · have hbs:=hb.size
    go_wp2_with (at_builtin;refine wpList_append_own _ rfl (.tmp 9) (.tmp 12) 126 rfl w.heap.size 5 i0 (.int .u8 0) 1 1 Tryz.underlying126 hi hz0 hz1 hz2 rfl au _ _ _ rfl (hown.alloc _) ⟨wr.heap.size,0,none⟩ 1 1 [.int .u8 (q % 256)] rfl rfl ?c1 ?c2 ?c3 ?c4 ?c5 ?_)
    case c1=>
     intro j u hj
     match j,hj with
     | 0,hj=>simp at hj;subst hj;simp[Addr.add]
    case c2=>intro u hu;simp at hu;subst hu;rfl
    case c3=>unfold maxLen;omega
    case c4=>omega
    case c5=>simp;omega
    intro v' w1 hown' hgrow _;have hb1:Below w.heap.size w w1:=(hb.alloc hbs _).grown hgrow (by simp;omega) (fun g hg=>(hown.lt g hg).1)
    have hown2:w1.ownsRow w.heap.size 5 1 v' (k+1) ((lit n (k+1)).map bB):=by
     rw[vV,List.map_append,List.map_cons,List.map_nil,sI,←HQ.out];exact hown'
    clear hown' hgrow hown hb
    go_wp2
    go_roundw
    case rel=>exact⟨k+1,by omega,by go_num,hb1,⟨q / 256,by omega,by omega,rfl,by rw[HQ.out,Int.pow_succ,Int.ediv_ediv_of_nonneg (Int.le_of_lt (Int.pow_pos au))]⟩,hown2⟩
    case measure=>simp[intOf];omega
  · obtain rfl:k=c:=by omega
    have hconv:=pU hown;clear hown
    go_wp2
    go_ret
    exact⟨rfl,hb⟩
theorem tb (k:IntKind) (x y:Int):bits .or k x y=bits .or k y x:=by
 unfold bits;simp only[BitVec.or_comm]
theorem Gw (m c:Int) (k:Nat) (b:0≤m) (d:m<2 ^ (8*k)) (e:0≤c) (h:c<256) (j:k≤5):bits .or .i64 m (c*2 ^ (8*k))=m+c*2 ^ (8*k):=by
 have g:(2:Int) ^ (8*k)≤2 ^ 40:=by
  have:(2:Nat) ^ (8*k)≤2 ^ 40:=Nat.pow_le_pow_right au ab
  exact_mod_cast this
 have a:(0:Int)<2 ^ (8*k):=Int.pow_pos au
 have f:c*2 ^ (8*k)<2 ^ 62:=by
  have:c*2 ^ (8*k)≤255*2 ^ 40:=Int.mul_le_mul ab g (Int.le_of_lt a) au;omega
 have i:(2:Int) ^ (8*k)≤2 ^ 62:=by omega
 rw[tb,bits_join .i64 62 au (rI 62 au) (8*k) _ _ (Int.mul_nonneg e (Int.le_of_lt a)) (Int.mul_emod_left _ _) f b d ab,Int.add_comm]
open Go.RowKit
theorem mR (w:World) (e:TypeId) (s:ByteArray):Below w.heap.size w (Lib.bytesWorld w e s):=
 ⟨rfl,rfl,rfl,by rw[Lib.bytesWorld_size];omega,fun k a=>Lib.bytesWorld_at_old w e s k a⟩
open Go.RowKit Go.Sort
theorem BN (l:List UInt8) (c:UInt8):num (l ++ [c])=num l+c.toNat*256 ^ l.length:=by
 induction l with
 | nil=>simp[num]
 | cons b l ih=>
  simp only[List.cons_append,num,ih,List.length_cons,Int.pow_succ];rw[Int.mul_add];generalize (256:Int) ^ l.length=P
  have:256*((c.toNat:Int)*P)=(c.toNat:Int)*(P*256):=by rw[Int.mul_comm 256,Int.mul_assoc]
  omega
theorem xD (s:ByteArray) (k:Nat) (h:k<s.size):(bl s).take (k+1)=(bl s).take k ++ [s[k]]:=by
 rw[List.take_succ_eq_append_getElem (by rw[aP];exact h)];rfl
theorem fR (s:ByteArray) (w:World) (hs:s.size≤6) :
 Calls Tryz.prog 171 #[.string s] w fun e w'=>e=.returned (.int .i64 (num (bl s)))∧Below w.heap.size w w':=by
 have hconv:=Lib.run_convert_string_bytes (P:=Tryz.prog) w 9 126 5 s Tryz.underlying9 Tryz.underlying126 Tryz.underlying5;obtain⟨W1,hW1⟩:∃W1,W1=Lib.bytesWorld w 5 s:=⟨_,rfl⟩;obtain⟨cap,hcap⟩:∃c,c=grownCap w s.size 0 5:=⟨_,rfl⟩;rw[←hW1,←hcap] at hconv
 have hbelow:Below w.heap.size w W1:=by rw[hW1];exact mR _ _ _
 have hcell:∀j,j<s.size→W1.cell? ⟨w.heap.size,j,none⟩=some (.int .u8 ((bl s).getD j 0).toNat):=fun j hj=>by rw[hW1];exact Lib.bytesWorld_cell _ _ _ _ hj
 clear hW1 hcap;have HB:=Lib.hid hbelow;have HC:=Lib.hid hcell;clear hbelow hcell
 go_enter Tryz.func171,Tryz.ntmps171
 go_wp2
 go_loop [3,9] (fun n i=>∃(k:Nat) (m:Int),k≤s.size∧i=.int .i64 k∧n=.int .i64 m∧0≤m∧m<256 ^ k∧m=num ((bl s).take k)) (fun _ i=>s.size-(intOf i).toNat)
 case atStart=>exact⟨0,0,Nat.zero_le _,rfl,rfl,by omega,by decide,rfl⟩
 case round=>
  obtain⟨k,m,hk,rfl,rfl,hm0,hm1,hf⟩:=hrel;have HF:=Lib.hid hf;clear hf;by_cases hlt:k<s.size
  · have hc:=HC.out k hlt
    obtain⟨b,hb⟩:∃b,b=(bl s).getD k 0:=⟨_,rfl⟩;rw[←hb] at hc
    have e1:b=s[k]:=by rw[hb,List.getD_eq_getElem?_getD,List.getElem?_eq_getElem (by rw[aP];exact hlt)];rfl
    have E1:=Lib.hid e1;clear e1 hb;have hb2:b.toNat<256:=b.toNat_lt;have hor:=Gw m b.toNat k hm0 (by rw[Ak];exact hm1) ab ab ab
    have hnx:m+b.toNat*256 ^ k=num ((bl s).take (k+1))∧0≤m+b.toNat*256 ^ k∧m+b.toNat*256 ^ k<256 ^ (k+1):=by
     have h1:=xD s k hlt;have h2:=eW ((bl s).take (k+1));rw[List.length_take,aP,Nat.min_eq_left ab] at h2
     have h3:num ((bl s).take (k+1))=m+b.toNat*256 ^ k:=by
      rw[h1,BN,←HF.out,List.length_take,aP,Nat.min_eq_left ab,E1.out]
     rw[←h3];exact⟨rfl,h2.1,h2.2⟩
    have HN:=Lib.hid hnx;clear hnx
    have:k=0∨k=1∨k=2∨k=3∨k=4∨k=5:=by omega
    rcases this with rfl | rfl | rfl | rfl | rfl | rfl
    · simp only[Nat.reduceMul,Int.reducePow,Nat.reduceAdd,Int.mul_one] at hor
      simp at hm1
      go_wp2
      go_round
      case rel=>exact⟨0+1,_,by omega,by go_num,rfl,ar HN.out.2.1,ar HN.out.2.2,ar HN.out.1⟩
      case measure=>simp[intOf];omega
    · simp only[Nat.reduceMul,Int.reducePow,Nat.reduceAdd,Int.mul_one] at hor
      simp at hm1
      go_wp2
      go_round
      case rel=>exact⟨1+1,_,by omega,by go_num,rfl,ar HN.out.2.1,ar HN.out.2.2,ar HN.out.1⟩
      case measure=>simp[intOf];omega
    · simp only[Nat.reduceMul,Int.reducePow,Nat.reduceAdd,Int.mul_one] at hor
      simp at hm1
      go_wp2
      go_round
      case rel=>exact⟨2+1,_,by omega,by go_num,rfl,ar HN.out.2.1,ar HN.out.2.2,ar HN.out.1⟩
      case measure=>simp[intOf];omega
    · simp only[Nat.reduceMul,Int.reducePow,Nat.reduceAdd,Int.mul_one] at hor
      simp at hm1
      go_wp2
      go_round
      case rel=>exact⟨3+1,_,by omega,by go_num,rfl,ar HN.out.2.1,ar HN.out.2.2,ar HN.out.1⟩
      case measure=>simp[intOf];omega
    · simp only[Nat.reduceMul,Int.reducePow,Nat.reduceAdd,Int.mul_one] at hor
      simp at hm1
      go_wp2
      go_round
      case rel=>exact⟨4+1,_,by omega,by go_num,rfl,ar HN.out.2.1,ar HN.out.2.2,ar HN.out.1⟩
      case measure=>simp[intOf];omega
    · simp only[Nat.reduceMul,Int.reducePow,Nat.reduceAdd,Int.mul_one] at hor
      simp at hm1
      go_wp2
      go_round
      case rel=>exact⟨5+1,_,by omega,by go_num,rfl,ar HN.out.2.1,ar HN.out.2.2,ar HN.out.1⟩
      case measure=>simp[intOf];omega
  · go_wp2
    go_ret
    exact⟨Eg (by rw[HF.out,List.take_of_length_le (by rw[aP];omega)]),HB.out⟩
def DL (p:ByteArray):Int:=num (((bl p).drop 8).take 4) % 2147483648
theorem Ap (p:ByteArray) (w:World) (hp:p.size=512) :
 Calls Tryz.prog 204 #[.string p] w fun e w'=>e=.returned (.int .i64 (DL p))∧Below w.heap.size w w':=by
 obtain⟨t,ht⟩:∃t,t=(p.extract 8 p.size).extract 0 4:=⟨_,rfl⟩
 have hbt:bl t=((bl p).drop 8).take 4:=by rw[ht];exact sO p 8 4
 have hsz:t.size=4:=by rw[←aP,hbt,List.length_take,List.length_drop,aP];omega
 have hC:=fun w=>fR t w ab;have hb0:=(eW (bl t)).1;have hb1:=(eW (bl t)).2;rw[aP,hsz] at hb1;obtain⟨m,hm⟩:∃m,m=num (bl t):=⟨_,rfl⟩;rw[←hm] at hC hb0 hb1;have hmask:bits .and .i64 m 2147483647=m % 2147483648:=bits_mask .i64 62 au (rI 62 au) 31 au m hb0 ab
 have e:DL p=m % 2147483648:=by unfold DL;rw[hm,hbt]
 have E:=Lib.hid e;have HC:=Lib.hid hC;have HP:=Lib.hid hp
 have hge:12≤p.size:=by omega
 have hlt:p.size<1000:=by omega
 have ht':(p.extract 8 p.size).extract 0 4=t:=ht.symm;clear hm e hC hb1 hsz hbt ht hp
 go_enter Tryz.func204,Tryz.ntmps204
 go_wp2_with (go_at_call 171;refine(HC.out _).mono ?_;rintro e W1 ⟨rfl,hbW1⟩;obtain⟨hcW1,hfW1⟩:=cE hbW1)
 go_ret
 exact⟨Eg E.out.symm,hbW1⟩
def EP (p:ByteArray) (n:Int):ByteArray:=vB p 8 (bs (lit n 4))
theorem nW (p:ByteArray) (n:Int) (w:World) (hp:p.size=512) (h0:0≤n) (h1:n<9223372036854775808) :
 Calls Tryz.prog 153 #[.string p,.int .i64 n] w fun e w'=>e=.returned (.string (EP p n))∧Below w.heap.size w w':=by
 have h4:(bs (lit n 4)).size=4:=by rw[bq,aB]
 have hle:p.size≤3100:=by omega
 have hle2:8+(bs (lit n 4)).size≤p.size:=by omega
 clear hp h4
 go_enter Tryz.func153,Tryz.ntmps153
 go_wp2_with (first | (go_at_call 216;refine(bj n 4 h0 h1 ab _).mono ?_;rintro e W1 ⟨rfl,hbW1⟩;obtain⟨hcW1,hfW1⟩:=cE hbW1) | (go_at_call 215;refine(nO p _ 8 _ hle hle2).mono ?_;rintro e W2 ⟨rfl,hbW2⟩;obtain⟨hcW2,hfW2⟩:=cE hbW2))
 go_ret
 exact⟨rfl,fh⟩
open Go.RowKit
theorem sh (p:List UInt8) (l h k:Nat) (b:l+k≤h):(fz p l h).take k=fz p l (l+k):=by
 apply List.ext_getElem?;intro i;rw[List.getElem?_take,gO,gO];by_cases a:i<k
 · rw[if_pos a,if_pos ab,if_pos ab]
 · rw[if_neg a,if_neg ab]
theorem rT (p:List UInt8) (l h k:Nat):(fz p l h).drop k=fz p (l+k) h:=by
 apply List.ext_getElem?;intro i;rw[List.getElem?_drop,gO,gO,show l+k+i=l+(k+i) by omega]
theorem fT (p:List UInt8) (l k:Nat):(p.drop l).take k=fz p l (l+k):=by
 apply List.ext_getElem?;intro i;rw[List.getElem?_take,List.getElem?_drop,gO];by_cases a:i<k
 · rw[if_pos a,if_pos ab]
 · rw[if_neg a,if_neg ab]
theorem Bl (p:List UInt8) (n:Nat) (h:p.length=n):fz p 0 n=p:=by unfold fz;rw[←h,List.take_length,List.drop_zero]
theorem dQ {s:ByteArray} (h:s.size=0):s=⟨#[]⟩:=ByteArray.size_eq_zero_iff.1 h
structure OpRep (p:ByteArray) (x:Op):Prop where
 le:AW x≤DM x
 in':DM x≤512
 mid:∀m,m.length=DM x-AW x→(Fo x m).length=m.length
 do':bl (fC p x)=iG (bl p) (AW x) (DM x) (Fo x (fz (bl p) (AW x) (DM x)))
 fit:dY p x=Gs x (fz (bl p) (AW x) (DM x))
theorem Gq {p:ByteArray} {x:Op} (i:p.size=512) (h:gr x):OpRep p x:=by
 have f:(bl p).length=512:=by rw[aP];exact i
 obtain⟨k,a,e,c,o,n⟩:=x;unfold gr at h
 dsimp only at h
 rcases h with ⟨rfl,rfl,rfl,rfl,g,d⟩ | ⟨rfl,rfl,rfl,hs,h1,h2,h3,h4⟩ | ⟨rfl,rfl,g,h1,h2,h3,h4,h5⟩ | ⟨rfl,rfl,d,h1,h2,h3,h4,h5⟩ | ⟨hk,rfl,g,d,h1,h2,h3,h4⟩ | ⟨rfl,rfl,rfl,rfl,g,d⟩
 · refine⟨Nat.le_refl _,Nat.zero_le _,fun m hm=>rfl,?_,rfl⟩
   show bl p=iG (bl p) 0 0 (fz (bl p) 0 0);rw[vO _ _ _ (Nat.le_refl _) ab]
 · obtain⟨A,rfl⟩:=Int.eq_ofNat_of_zero_le h3
   have b:AW ⟨1,A,0,0,o,n⟩=A:=rfl;have e2:DM ⟨1,A,0,0,o,n⟩=A+o.size:=rfl;refine⟨by omega,by omega,fun m hm=>?_,?_,?_⟩
   · show(bl n).length=m.length
     rw[aP];omega
   · rw[b,e2]
     show bl (vB p A n)=iG (bl p) A (A+o.size) (bl n);rw[yn,←hs];rfl
   · rw[b,e2]
     show(((bl p).drop A).take o.size==bl o)=(fz (bl p) A (A+o.size)==bl o);rw[fT]
 · obtain⟨A,rfl⟩:=Int.eq_ofNat_of_zero_le h3
   obtain⟨E,rfl⟩:=Int.eq_ofNat_of_zero_le (show 0≤e by omega);have b:AW ⟨2,A,E,0,o,n⟩=A:=rfl;have e2:DM ⟨2,A,E,0,o,n⟩=E+n.size:=rfl
   have e3:((E:Int)-A).toNat=E-A:=by omega
   refine⟨by omega,by omega,fun m hm=>?_,?_,?_⟩
   · show(bl n ++ m.take ((E:Int)-A).toNat).length=m.length
     rw[List.length_append,aP,List.length_take];omega
   · rw[b,e2]
     show DG (bl p) A E (bl n)=iG (bl p) A (E+n.size) (bl n ++ (fz (bl p) A (E+n.size)).take ((E:Int)-A).toNat);rw[e3,sh _ _ _ _ ab,show A+(E-A)=E by omega];unfold DG iG fz;rw[aP];simp only[List.append_assoc]
   · rw[b,e2]
     show lF (((bl p).drop E).take n.size)=lF ((fz (bl p) A (E+n.size)).drop ((E:Int)-A).toNat);rw[e3,rT,fT,show A+(E-A)=E by omega]
 · obtain⟨A,rfl⟩:=Int.eq_ofNat_of_zero_le h3
   obtain⟨E,rfl⟩:=Int.eq_ofNat_of_zero_le (show 0≤e by omega);have b:AW ⟨3,A,E,0,o,n⟩=A:=rfl;have e2:DM ⟨3,A,E,0,o,n⟩=E:=rfl;refine⟨by omega,by omega,fun m hm=>?_,?_,?_⟩
   · show(m.drop o.size ++ List.replicate o.size 0).length=m.length
     rw[List.length_append,List.length_replicate,List.length_drop];omega
   · rw[b,e2]
     show Ea (bl p) A E o.size=iG (bl p) A E ((fz (bl p) A E).drop o.size ++ List.replicate o.size 0);rw[rT];unfold Ea iG fz;simp only[List.append_assoc]
   · rw[b,e2]
     show(((bl p).drop A).take o.size==bl o)=((fz (bl p) A E).take o.size==bl o);rw[fT,sh _ _ _ _ ab]
 · obtain⟨A,rfl⟩:=Int.eq_ofNat_of_zero_le h1
   obtain⟨C,rfl⟩:=Int.eq_ofNat_of_zero_le (show 0≤c by omega);rcases hk with rfl | rfl
   all_goals
    refine⟨?_,?_,?_,?_,?_⟩
    · show((A:Int) / 8).toNat≤(((A:Int)+C-1) / 8+1).toNat
      omega
    · show(((A:Int)+C-1) / 8+1).toNat≤512
      omega
    · intro m hm
      exact ek _ _ _ _
    · show cB (bl p) A C _=iG (bl p) ((A:Int) / 8).toNat (((A:Int)+C-1) / 8+1).toNat (cB (fz (bl p) ((A:Int) / 8).toNat (((A:Int)+C-1) / 8+1).toNat) (A-8*((A:Int) / 8).toNat) C _)
      rw[←uN (bl p) _ _ _ A C _ ab ab (h9 _ _ _ ab) ab ab,vO _ _ _ ab ab]
    · show dX (bl p) A C _=dX (fz (bl p) ((A:Int) / 8).toNat (((A:Int)+C-1) / 8+1).toNat) (A-8*((A:Int) / 8).toNat) C _
      rw[uk _ _ _ _ _ _ ab ab]
 · refine⟨(by show 0≤512;omega),Nat.le_refl 512,fun m hm=>?_,?_,?_⟩
   · show(bl n).length=m.length
     rw[aP,hm];exact d
   · show bl n=iG (bl p) 0 512 (bl n)
     unfold iG;rw[List.drop_of_length_le ab,List.append_nil,List.take_zero,List.nil_append]
   · show(bl p==bl o)=(fz (bl p) 0 512==bl o)
     rw[Bl _ _ f]
theorem iE {p:ByteArray} {x:Op} (b:p.size=512) (h:gr x):(fC p x).size=512:=by
 have r:=Gq b h
 have a:(bl p).length=512:=by rw[aP];exact b
 rw[←aP,r.do',nT _ _ _ _ r.le (by rw[a];exact r.in') (by rw[r.mid _ (h9 _ _ _ (by rw[a];exact r.in'))];exact h9 _ _ _ (by rw[a];exact r.in'))];exact a
end Go.Proofs.YtcfdpfmchchkaaaGreatDoor
