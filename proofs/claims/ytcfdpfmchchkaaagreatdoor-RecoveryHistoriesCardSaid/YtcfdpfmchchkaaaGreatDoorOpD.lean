/-
  Chapter 21: the page after an operation, and whether it fits: apply; Applied and Fits of the reference.
  Chapter 21: kinds, the table of the fields of operations.
  Chapter 21: CheckOp.
-/
import Derived.Test.YtcfdpfmchchkaaaGreatDoorOpC
import Derived.Handy
import Derived.Deep.DeepCutAuto
import Derived.Test.YtcfdpfmchchkaaaGreatDoorSplF
namespace Go.Proofs.YtcfdpfmchchkaaaGreatDoor
set_option maxRecDepth 100000
set_option maxHeartbeats 1000000
set_option linter.unusedVariables false
set_option linter.unusedSimpArgs false
open Go.RowKit Go.Sort
theorem uf (p:ByteArray) (a:Nat):bl (p.extract 0 a)=(bl p).take a:=by rw[bq,List.drop_zero]
theorem uB (p:ByteArray) (a:Nat):bl (p.extract a p.size)=(bl p).drop a:=by rw[bq,←aN,List.take_length]
theorem BQ (p:ByteArray) (a b:Nat):bl (p.extract a b)=eB (bl p) a b:=bq p a b
theorem wZ (s t:ByteArray):(s.toList==t.toList)=(bl s==bl t):=by rw[toList_eq,toList_eq]
theorem Cd (p n:ByteArray) (A E:Nat):p.extract 0 A ++ n ++ p.extract A E ++ p.extract (E+n.size) p.size=bs (zJ (bl p) A E (bl n)):=by
 apply jE;rw[dX,dX,dX,uf,uB,bq];rfl
theorem BX (p:ByteArray) (A E N:Nat):p.extract 0 A ++ p.extract (A+N) E ++ bs (bS N) ++ p.extract E p.size=bs (zA (bl p) A E N):=by
 apply jE;rw[dX,dX,dX,uf,uB,bq];rfl
theorem AB (p:ByteArray) (A:Nat) (o n:ByteArray) (w:World) (hp:p.size=512) (h1:o.size=n.size) (h2:o.size≤200) (h3:A+o.size≤512) :
 Calls Tryz.prog 205 #[.string p,.agg #[.int .i64 1,.int .i64 A,.int .i64 0,.int .i64 0,.string o,.string n]] w fun r w'=>r=.returned (.tuple #[.string (gd p ⟨1,A,0,0,o,n⟩),.bool (e8 p ⟨1,A,0,0,o,n⟩)])∧Below w.heap.size w w':=by
 have hp1:p.size≤3100:=by omega
 have hp2:(A:Int)≤p.size:=by omega
 have hp3:A+n.size≤p.size:=by omega
 have hp4:(o.size:Int)≤(p.size:Int)-A:=by omega
 have ho:o.size≤3100:=by omega
 have hn:n.size≤3100:=by omega
 have HP:=Lib.hid hp;have H1:=Lib.hid h1;clear hp h1
 go_enter Tryz.func205,Tryz.ntmps205
 go_wp2_with (first | ((go_at_call 240;refine(dY ⟨_,_,_,_,o,n⟩ _ ho hn).mono ?_;rintro e W1 ⟨rfl,hbW1⟩;obtain⟨hcW1,hfW1⟩:=bF hbW1);have hsW1:w.heap.size<W1.heap.size:=(by have h:=hbW1.size;simp at h;omega)))
 (refine wp_region_quiet_below aa aa ?_;(repeat (go_big_quiet_step ((first | (go_at_call 215;exact Calls.regrown_of (lv p n A _ hp1 hp3))))));(with_reducible refine wpQuiet_nil ?_);intro W2 hreg;have hbW2:=bu hreg;clear hreg;obtain⟨hcW2,hfW2⟩:=bF hbW2)
 go_wp2
 go_ret2
 exact⟨pk rfl (by rw[wZ,pG];rfl),dR⟩
theorem AS (p:ByteArray) (A E:Nat) (o n:ByteArray) (w:World) (hp:p.size=512) (h1:o.size=0) (h2:n.size≤200) (h3:A≤E) (h4:E+n.size≤512) :
 Calls Tryz.prog 205 #[.string p,.agg #[.int .i64 2,.int .i64 A,.int .i64 E,.int .i64 0,.string o,.string n]] w fun r w'=>r=.returned (.tuple #[.string (gd p ⟨2,A,E,0,o,n⟩),.bool (e8 p ⟨2,A,E,0,o,n⟩)])∧Below w.heap.size w w':=by
 have hp1:p.size≤3100:=by omega
 have hp2:(A:Int)≤p.size:=by omega
 have hp3:E+n.size≤p.size:=by omega
 have ho:o.size≤3100:=by omega
 have hn:n.size≤3100:=by omega
 have hz0:(o ++ n).size=n.size:=by rw[ByteArray.size_append];omega
 have hz1:(p.extract 0 A ++ n).size=A+n.size:=by rw[ByteArray.size_append,ByteArray.size_extract];omega
 have hz2:(p.extract 0 A ++ n ++ p.extract A E).size=E+n.size:=by rw[ByteArray.size_append,hz1,ByteArray.size_extract];omega
 have HP:=Lib.hid hp;have H1:=Lib.hid h1;clear hp h1
 go_enter Tryz.func205,Tryz.ntmps205
 go_wp2_with (first | ((go_at_call 240;refine(dY ⟨_,_,_,_,o,n⟩ _ ho hn).mono ?_;rintro e W1 ⟨rfl,hbW1⟩;obtain⟨hcW1,hfW1⟩:=bF hbW1);have hsW1:w.heap.size<W1.heap.size:=(by have h:=hbW1.size;simp at h;omega)))
 (refine wp_region_quiet_below aa aa ?_;(repeat (go_big_quiet_step ((first | (go_at_call 241;exact Calls.regrown_of (sZ _ _ (by rw[ByteArray.size_extract];omega)))))));(with_reducible refine wpQuiet_nil ?_);intro W2 hreg;have hbW2:=bu hreg;clear hreg;obtain⟨hcW2,hfW2⟩:=bF hbW2)
 go_wp2
 go_ret2
 exact⟨pk (Cd p n A E) (by rw[BQ,←eV];rfl),dR⟩
theorem Bh (p:ByteArray) (A E:Nat) (o n:ByteArray) (w:World) (hp:p.size=512) (h1:n.size=0) (h2:o.size≤200) (h3:A+o.size≤E) (h4:E≤512) :
 Calls Tryz.prog 205 #[.string p,.agg #[.int .i64 3,.int .i64 A,.int .i64 E,.int .i64 0,.string o,.string n]] w fun r w'=>r=.returned (.tuple #[.string (gd p ⟨3,A,E,0,o,n⟩),.bool (e8 p ⟨3,A,E,0,o,n⟩)])∧Below w.heap.size w w':=by
 have hp1:p.size≤3100:=by omega
 have hp2:(A:Int)≤p.size:=by omega
 have hp3:E≤p.size:=by omega
 have hp4:(o.size:Int)≤(p.size:Int)-A:=by omega
 have ho:o.size≤3100:=by omega
 have hn:n.size≤3100:=by omega
 have hz0:(o ++ n).size=o.size:=by rw[ByteArray.size_append];omega
 have hz1:(p.extract 0 A ++ p.extract (A+o.size) E).size=E-o.size:=by rw[ByteArray.size_append,ByteArray.size_extract,ByteArray.size_extract];omega
 have hz3:(bs (bS o.size)).size=o.size:=ru _
 have hz2:(p.extract 0 A ++ p.extract (A+o.size) E ++ bs (bS o.size)).size=E:=by rw[ByteArray.size_append,hz1,hz3];omega
 have HP:=Lib.hid hp;have H1:=Lib.hid h1;clear hp h1
 go_enter Tryz.func205,Tryz.ntmps205
 go_wp2_with (first | ((go_at_call 240;refine(dY ⟨_,_,_,_,o,n⟩ _ ho hn).mono ?_;rintro e W1 ⟨rfl,hbW1⟩;obtain⟨hcW1,hfW1⟩:=bF hbW1);have hsW1:w.heap.size<W1.heap.size:=(by have h:=hbW1.size;simp at h;omega)))
 (refine wp_region_quiet_below aa aa ?_;(repeat (go_big_quiet_step ((first | (go_at_call 242;exact Calls.regrown_of (vg o.size _ ab))))));(with_reducible refine wpQuiet_nil ?_);intro W2 hreg;have hbW2:=bu hreg;clear hreg;obtain⟨hcW2,hfW2⟩:=bF hbW2)
 go_wp2
 go_ret2
 exact⟨pk (BX p A E o.size) (by rw[wZ,pG];rfl),dR⟩
theorem zK (p:ByteArray) (A C:Nat) (o n:ByteArray) (w:World) (hp:p.size=512) (h1:o.size=0) (h2:n.size=0) (h3:A+C≤4096) :
 Calls Tryz.prog 205 #[.string p,.agg #[.int .i64 4,.int .i64 A,.int .i64 0,.int .i64 C,.string o,.string n]] w fun r w'=>r=.returned (.tuple #[.string (gd p ⟨4,A,0,C,o,n⟩),.bool (e8 p ⟨4,A,0,C,o,n⟩)])∧Below w.heap.size w w':=by
 have hp1:p.size≤3100:=by omega
 have hp2:A+C≤8*p.size:=by omega
 have ho:o.size≤3100:=by omega
 have hn:n.size≤3100:=by omega
 have HP:=Lib.hid hp;clear hp h1 h2
 go_enter Tryz.func205,Tryz.ntmps205
 go_wp2_with (first | ((go_at_call 240;refine(dY ⟨_,_,_,_,o,n⟩ _ ho hn).mono ?_;rintro e W1 ⟨rfl,hbW1⟩;obtain⟨hcW1,hfW1⟩:=bF hbW1);have hsW1:w.heap.size<W1.heap.size:=(by have h:=hbW1.size;simp at h;omega)) | (go_at_call 243;refine(n5 p A C _ hp1 hp2).mono ?_;rintro e W2 ⟨rfl,hbW2⟩;obtain⟨hcW2,hfW2⟩:=bF hbW2))
 go_ret2
 exact⟨rfl,dR⟩
theorem Ad (p:ByteArray) (A C:Nat) (o n:ByteArray) (w:World) (hp:p.size=512) (h1:o.size=0) (h2:n.size=0) (h3:A+C≤4096) :
 Calls Tryz.prog 205 #[.string p,.agg #[.int .i64 5,.int .i64 A,.int .i64 0,.int .i64 C,.string o,.string n]] w fun r w'=>r=.returned (.tuple #[.string (gd p ⟨5,A,0,C,o,n⟩),.bool (e8 p ⟨5,A,0,C,o,n⟩)])∧Below w.heap.size w w':=by
 have hp1:p.size≤3100:=by omega
 have hp2:A+C≤8*p.size:=by omega
 have ho:o.size≤3100:=by omega
 have hn:n.size≤3100:=by omega
 have HP:=Lib.hid hp;clear hp h1 h2
 go_enter Tryz.func205,Tryz.ntmps205
 go_wp2_with (first | ((go_at_call 240;refine(dY ⟨_,_,_,_,o,n⟩ _ ho hn).mono ?_;rintro e W1 ⟨rfl,hbW1⟩;obtain⟨hcW1,hfW1⟩:=bF hbW1);have hsW1:w.heap.size<W1.heap.size:=(by have h:=hbW1.size;simp at h;omega)) | (go_at_call 243;refine(mb p A C _ hp1 hp2).mono ?_;rintro e W2 ⟨rfl,hbW2⟩;obtain⟨hcW2,hfW2⟩:=bF hbW2))
 go_ret2
 exact⟨rfl,dR⟩
theorem AN (p:ByteArray) (o n:ByteArray) (w:World) (ho:o.size≤3100) (hn:n.size≤3100) :
 Calls Tryz.prog 205 #[.string p,.agg #[.int .i64 6,.int .i64 0,.int .i64 0,.int .i64 0,.string o,.string n]] w fun r w'=>r=.returned (.tuple #[.string (gd p ⟨6,0,0,0,o,n⟩),.bool (e8 p ⟨6,0,0,0,o,n⟩)])∧Below w.heap.size w w':=by
 go_enter Tryz.func205,Tryz.ntmps205
 go_wp2_with (first | ((go_at_call 240;refine(dY ⟨_,_,_,_,o,n⟩ _ ho hn).mono ?_;rintro e W1 ⟨rfl,hbW1⟩;obtain⟨hcW1,hfW1⟩:=bF hbW1);have hsW1:w.heap.size<W1.heap.size:=(by have h:=hbW1.size;simp at h;omega)))
 (refine wp_region_quiet_below aa aa ?_;(repeat (go_big_quiet_step ((first | fail))));(with_reducible refine wpQuiet_nil ?_);intro W2 hreg;have hbW2:=bu hreg;clear hreg;obtain⟨hcW2,hfW2⟩:=bF hbW2)
 go_wp2
 go_ret2
 exact⟨pk rfl (by rw[wZ];rfl),dR⟩
theorem Bf (p:ByteArray) (o n:ByteArray) (w:World) (ho:o.size≤3100) (hn:n.size≤3100) :
 Calls Tryz.prog 205 #[.string p,.agg #[.int .i64 0,.int .i64 0,.int .i64 0,.int .i64 0,.string o,.string n]] w fun r w'=>r=.returned (.tuple #[.string (gd p ⟨0,0,0,0,o,n⟩),.bool (e8 p ⟨0,0,0,0,o,n⟩)])∧Below w.heap.size w w':=by
 go_enter Tryz.func205,Tryz.ntmps205
 go_wp2_with (first | ((go_at_call 240;refine(dY ⟨_,_,_,_,o,n⟩ _ ho hn).mono ?_;rintro e W1 ⟨rfl,hbW1⟩;obtain⟨hcW1,hfW1⟩:=bF hbW1);have hsW1:w.heap.size<W1.heap.size:=(by have h:=hbW1.size;simp at h;omega)))
 go_ret2
 exact⟨rfl,dR⟩
theorem oD (p:ByteArray) (x:Op) (w:World) (hp:p.size=512) (h:mI x) :
 Calls Tryz.prog 205 #[.string p,fL x] w fun r w'=>r=.returned (.tuple #[.string (gd p x),.bool (e8 p x)])∧Below w.heap.size w w':=by
 obtain⟨k,a,e,c,o,n⟩:=x;unfold mI at h
 dsimp only at h
 rcases h with ⟨rfl,rfl,rfl,rfl,ho,hn⟩ | ⟨rfl,rfl,rfl,hs,h1,h2,h3,h4⟩ | ⟨rfl,rfl,ho,h1,h2,h3,h4,h5⟩ | ⟨rfl,rfl,hn,h1,h2,h3,h4,h5⟩ | ⟨hk,rfl,ho,hn,h1,h2,h3,h4⟩ | ⟨rfl,rfl,rfl,rfl,ho,hn⟩
 · exact Bf p o n w ab ab
 · obtain⟨A,rfl⟩:=Int.eq_ofNat_of_zero_le h3
   exact AB p A o n w hp hs h2 ab
 · obtain⟨A,rfl⟩:=Int.eq_ofNat_of_zero_le h3
   obtain⟨E,rfl⟩:=Int.eq_ofNat_of_zero_le (show 0≤e by omega);exact AS p A E o n w hp ho h2 ab ab
 · obtain⟨A,rfl⟩:=Int.eq_ofNat_of_zero_le h3
   obtain⟨E,rfl⟩:=Int.eq_ofNat_of_zero_le (show 0≤e by omega);exact Bh p A E o n w hp hn h2 ab ab
 · obtain⟨A,rfl⟩:=Int.eq_ofNat_of_zero_le h1
   obtain⟨C,rfl⟩:=Int.eq_ofNat_of_zero_le (show 0≤c by omega);rcases hk with rfl | rfl
   · exact zK p A C o n w hp ho hn ab
   · exact Ad p A C o n w hp ho hn ab
 · exact AN p o n w ab ab
open Go.RowKit
section
variable {P:Program}
theorem ca {ops:Array Oper} {rest:List Oper} {o:Oper} {a:Act} {w:World} {Q:Exit→Act→World→Prop} (hg:o.guard=none) (t:TypeId) (parts:Array (Nat × Operand)) (ho:o.op=.build t parts)
 (cells:Array Value) (hc:P.built t (parts.map fun (i,x)=>(i,a.eval x)).toList=some cells)
 (h:wpList P ops Q rest (a.put o.dst (.agg cells)) w):wpList P ops Q (o::rest) a w:=
 wpList_build hg t parts ho (by rw[hc];rfl) (by rw[hc];exact h)
end
def dS:Array Value:=#[.bool false,.bool false,.bool false,.bool false,.bool false,.bool true,.bool false,.bool false,.bool true,.bool true,
 .bool true,.bool true,.bool false,.bool false,.bool true,.bool true,.bool true,.bool false,.bool true,.bool false,.bool true,.bool false,.bool true,.bool false,.bool false,
 .bool true,.bool false,.bool true,.bool false,.bool false,.bool false,.bool false,.bool false,.bool true,.bool true]
def rE:Array Value:=Array.replicate 35 (.bool false)
theorem vc (w:World):Calls Tryz.prog 213 #[] w fun e w'=>e=.returned (.agg dS)∧Below w.heap.size w w':=by
 go_enter Tryz.func213,Tryz.ntmps213
 go_upto_region 1 with (fail)
 apply wp_region_lit;refine ca rfl 303 _ rfl #[.bool false,.bool false,.bool false,.bool false,.bool false] aa ?_;refine ca rfl 303 _ rfl #[.bool true,.bool false,.bool false,.bool true,.bool true] aa ?_;refine ca rfl 303 _ rfl #[.bool true,.bool true,.bool false,.bool false,.bool true] aa ?_;refine ca rfl 303 _ rfl #[.bool true,.bool true,.bool false,.bool true,.bool false] aa ?_;refine ca rfl 303 _ rfl #[.bool true,.bool false,.bool true,.bool false,.bool false] aa ?_;refine ca rfl 303 _ rfl #[.bool true,.bool false,.bool true,.bool false,.bool false] aa ?_;refine ca rfl 303 _ rfl #[.bool false,.bool false,.bool false,.bool true,.bool true] aa ?_;refine ca rfl 304 _ rfl dS aa ?_;refine wpList_store_row rfl 304 _ _ rfl w.heap.size dS aa aa 304 _ (heap_alloc_new w _) aa aa aa ?_;apply wpList_nil;have hr:=setRow_heap _ w.heap.size _ dS 304 (0,0) (heap_alloc_new w (.cells rE 304));have hb:=below_setRow (g:=w.heap.size) (ec (Below.refl w.heap.size w) (.cells rE 304)) (Nat.le_refl _) dS
 go_wp2
 refine bodyPost_ret (results_cell_row Tryz.results213 _ _ w.heap.size 304 _ (0,0) _ aa hr Tryz.underlying304 rfl aa) rfl ?_;exact⟨rfl,hb⟩
open Go.RowKit Go.Sort
def Dm (k:Int):Value:=.agg #[.bool (vz k),.bool (nr k),.bool (ia k),.bool (mX k),.bool (mi k)]
theorem xM {ρ:Operand→Value} {X:World} {d:Option Tmp} {ty:TypeId} {ps:String} {af:Array Edge} {g:Option (Nat × Bool)} {x y:Operand} {k:Int} (hk:bb k 0 6=true) (hx:ρ x=.agg dS) (hy:ρ y=.int .i64 k) :
 (execOp ρ ⟨d,.index 304 x y,ty,ps,af,g⟩).run Tryz.prog X=.ok (.value (Dm k)) X:=by
 rw[inB_true] at hk
 have:k=0∨k=1∨k=2∨k=3∨k=4∨k=5∨k=6:=by omega
 have hI:(Instr.index 304 (.agg dS) (.int .i64 k)).run Tryz.prog X=.ok (Dm k) X:=by
  rcases this with rfl | rfl | rfl | rfl | rfl | rfl | rfl<;>kernel_rfl
 simp[execOp,hx,hy,hI]
theorem BM {x:Op} {A B C D:Bool} (hk:bb x.k 0 6=true) (hA:A=cM x) (hB:B=db x) (hC:C=(!cD x.k||decide (0<cN x))) (hD:D=(!cD x.k||decide (cN x≤200))) :
 au [bo A 3,bo B 10,bo C 17,bo D 8,bo (eF x) 2]=fi x:=by
 unfold fi;rw[hk,if_neg ar,hA,hB,hC,hD]
theorem ng (s:ByteArray):decide (s=⟨#[]⟩)=(s.size==0):=by
 by_cases h:s=⟨#[]⟩
 · rw[decide_eq_true h,h];rfl
 · rw[decide_eq_false h]
   have:s.size≠0:=fun e=>h (ByteArray.size_eq_zero_iff.1 e);exact(beq_false_of_ne this).symm
theorem fc (x:Op) (w:World) (ho:x.o.size≤3100) (hn:x.n.size≤3100) :
 Calls Tryz.prog 144 #[fL x] w fun r w'=>r=.returned (.int .i64 (fi x))∧Below w.heap.size w w':=by
 obtain⟨SH,hSH⟩:∃b,b=db x:=⟨_,rfl⟩;obtain⟨HA,hHA⟩:∃b,b=cD x.k:=⟨_,rfl⟩;unfold db at hSH;unfold cD at hHA;refine ao (N:=114) Tryz.func144 rfl rfl rfl (fun _ Z=>?_);have U:=St.init w;refine ai (aq ?_);refine nb Z rfl rfl U fun b1 _ _ Qo Z U=>?_;refine GO 6 ?_;intro _ Z;refine GO 1 ?_;intro _ Z;refine GO 1 ?_;intro _ Z;refine cI Z rfl (aT _ _ _ _) fun _ Z=>?_;refine GO 3 ?_;intro _ Z;refine ak (Z.ev rfl) (fun Zm=>?_) (fun Zm=>?_)
 ·
  have hk:bb x.k 0 6=false:=by simpa using Zm
  refine GO 7 ?_;intro _ Z;refine aF Z rfl rfl ?_;exact⟨by unfold fi;rw[hk];rfl,U.below⟩
 ·
  have hk:bb x.k 0 6=true:=by simpa using Zm
  refine wp_skip (ag (ai ?_));apply fb Z (fun _=>False) [] [(5,303)] [false,false,false,false,true,true] _ aa bX
  case h=>
   refine nF Z rfl (fun X hX=>vc _) fun _ Z=>?_;refine GO 1 ?_;intro _ Z;refine qv Z (fun X hX=>lx (Z.ev rfl) ((U.grow (Grw.below hX)).cell (i:=0) rfl rfl)) fun _ Z=>?_;refine qv Z (fun X hX=>xM hk (Z.ev rfl) (Z.ev rfl)) fun _ Z=>?_;refine aw ?_;apply ek (O:=(fun _=>False)) (k:=4) (deps:=[]) (R:=NewAny _ 5 _) Z rfl rfl rfl bX NewAny.stable bX (vO NewAny.newT)
   case hx=>exact fun X hX hΦ=>kN (eu (z:=.agg #[.bool false,.bool false,.bool false,.bool false,.bool false]) aa) hX.size rfl
   intro v3 _ Z;apply gA (k:=5) (deps:=[4]) (kx:=4) (x:=3) (y:=15) (Y:=qh _) Z rfl ⟨rfl,rfl⟩ rfl bX ⟨rfl,rfl⟩ rfl gv rfl rfl (n:=5) aa bX
   case hx=>
    intro X hX hΦ;exact⟨(bL (k:=4) hΦ rfl rfl),rfl,rfl⟩
   intro vs5;refine iL (O:=(fun _=>False)) bX fun _ Zn Zo=>?_;obtain⟨b3,rfl,Qe,qb3⟩:=StoY.val (v:=vs5) Z rfl (ba Zo (k:=5) rfl);have U:=U.add (Grw.below Zn) (e:=.box _ _ _) qb3 (fun b hb=>by cases hb;exact⟨Qe,Box.lt qb3⟩);refine GO 7 ?_;intro _ Z;apply bn (x:=x.a==0) Z U 18 rfl 4 22
   case hf=>
    intro Zp;refine GO 4 ?_;intro _ Z;exact ae ⟨Z.midE 3,U⟩
   case ht=>
    intro Zp;refine GO 4 ?_;intro _ Z;exact ae ⟨Z.midE 3,U⟩
   case h=>
    rintro a25 Qp ⟨Qq,Zc⟩
    refine GO 1 ?_;intro _ Z;apply aZ (x:=(nr x.k||x.e==0)) Z Zc 23 rfl 8 31
    case ht=>
     intro Zq;refine GO 3 ?_;intro _ Z;apply bn (x:=x.e==0) Z Zc 26 rfl 4 30
     case hf=>
      intro Zr;refine GO 4 ?_;intro _ Z;exact ae ⟨Z.midE 3,Zc⟩
     case ht=>
      intro Zr;refine GO 4 ?_;intro _ Z;exact ae ⟨Z.midE 3,Zc⟩
     case h=>
      rintro a38 Qr ⟨Qs,Qf⟩
      refine GO 1 ?_;intro _ Z;exact ae ⟨Z.midE 4,Qf⟩
    case hf=>
     intro Zq;refine GO 3 ?_;intro _ Z;refine bK Z (az Z _ rfl rfl rfl) rfl rfl fun _ Z=>?_;refine bK Z (az Z _ rfl rfl rfl) rfl rfl fun _ Z=>?_;refine bK Z (az Z _ rfl rfl rfl) rfl rfl fun _ Z=>?_;refine GO 2 ?_;intro _ Z;exact ae ⟨Z.midE 7,Zc⟩
    case h=>
     rintro a48 Qt ⟨Qu,Zd⟩
     refine GO 1 ?_;intro _ Z;apply aZ (x:=(ia x.k||x.c==0)) Z Zd 32 rfl 8 40
     case ht=>
      intro Zs;refine GO 3 ?_;intro _ Z;apply bn (x:=x.c==0) Z Zd 35 rfl 4 39
      case hf=>
       intro Zt;refine GO 4 ?_;intro _ Z;exact ae ⟨Z.midE 3,Zd⟩
      case ht=>
       intro Zt;refine GO 4 ?_;intro _ Z;exact ae ⟨Z.midE 3,Zd⟩
      case h=>
       rintro a61 Qv ⟨Qw,Qg⟩
       refine GO 1 ?_;intro _ Z;exact ae ⟨Z.midE 4,Qg⟩
     case hf=>
      intro Zs;refine GO 3 ?_;intro _ Z;refine bK Z (az Z _ rfl rfl rfl) rfl rfl fun _ Z=>?_;refine bK Z (az Z _ rfl rfl rfl) rfl rfl fun _ Z=>?_;refine bK Z (az Z _ rfl rfl rfl) rfl rfl fun _ Z=>?_;refine GO 2 ?_;intro _ Z;exact ae ⟨Z.midE 7,Zd⟩
     case h=>
      rintro a71 Qx ⟨Qy,Ze⟩
      refine GO 1 ?_;intro _ Z;apply aZ (x:=(mX x.k||x.o.size==0)) Z Ze 41 rfl 8 49
      case ht=>
       intro Zu;refine GO 3 ?_;intro _ Z;apply bn (x:=x.o.size==0) Z Ze 44 rfl 4 48
       case hf=>
        intro Zv;refine GO 2 ?_;intro _ Z;refine sy Z (aC (v':=.bool (x.o.size==0)) (congrArg _ (ng _)) (iW (Z.ev rfl) (Z.ev rfl))) fun _ Z=>?_;refine GO 1 ?_;intro _ Z;exact ae ⟨Z.midE 3,Ze⟩
       case ht=>
        intro Zv;refine GO 4 ?_;intro _ Z;exact ae ⟨Z.midE 3,Ze⟩
       case h=>
        rintro a84 Qz ⟨Ja,Qh⟩
        refine GO 1 ?_;intro _ Z;exact ae ⟨Z.midE 4,Qh⟩
      case hf=>
       intro Zu;refine GO 3 ?_;intro _ Z;refine bK Z (az Z _ rfl rfl rfl) rfl rfl fun _ Z=>?_;refine bK Z (az Z _ rfl rfl rfl) rfl rfl fun _ Z=>?_;refine bK Z (az Z _ rfl rfl rfl) rfl rfl fun _ Z=>?_;refine GO 2 ?_;intro _ Z;exact ae ⟨Z.midE 7,Ze⟩
      case h=>
       rintro a94 Jb ⟨Jc,Zf⟩
       refine GO 1 ?_;intro _ Z;apply aZ (x:=(mi x.k||x.n.size==0)) Z Zf 50 rfl 8 58
       case ht=>
        intro Zw;refine GO 3 ?_;intro _ Z;apply bn (x:=x.n.size==0) Z Zf 53 rfl 4 57
        case hf=>
         intro Zx;refine GO 2 ?_;intro _ Z;refine sy Z (aC (v':=.bool (x.n.size==0)) (congrArg _ (ng _)) (iW (Z.ev rfl) (Z.ev rfl))) fun _ Z=>?_;refine GO 1 ?_;intro _ Z;exact ae ⟨Z.midE 3,Zf⟩
        case ht=>
         intro Zx;refine GO 4 ?_;intro _ Z;exact ae ⟨Z.midE 3,Zf⟩
        case h=>
         rintro a107 Qi ⟨Qj,Zy⟩
         refine GO 1 ?_;intro _ Z;exact ae ⟨Z.midE 4,Zy⟩
       case hf=>
        intro Zw;refine GO 3 ?_;intro _ Z;refine bK Z (az Z _ rfl rfl rfl) rfl rfl fun _ Z=>?_;refine bK Z (az Z _ rfl rfl rfl) rfl rfl fun _ Z=>?_;refine bK Z (az Z _ rfl rfl rfl) rfl rfl fun _ Z=>?_;refine GO 2 ?_;intro _ Z;exact ae ⟨Z.midE 7,Zf⟩
       case h=>
        rintro a117 Qk ⟨Ql,Za⟩
        refine GO 23 ?_;intro _ Zg;refine dN Zg Za [(5,.bool SH),(6,.bool HA)] [4,2,1] ?_ (fun _ _ Z U=>?_)
        ·
         refine ak (Zg.ev rfl) (fun Zh=>?_) (fun Zh=>?_)
         ·
          obtain rfl:SH=((x.o.size:Int)==x.n.size):=by rw[hSH,if_pos (by simpa using Zh)];exact(p3 _ _).symm
          obtain rfl:HA=true:=by rw[hHA,show x.k=1 by simpa using Zh];rfl
          refine GO 12 ?_;intro _ Z;exact⟨Z.re bD,Za⟩
         ·
          rw[if_neg (by simpa using Zh)] at hSH;refine GO 6 ?_;intro _ Z;refine ak (Z.ev rfl) (fun Zk=>?_) (fun Zk=>?_)
          ·
           rw[if_pos (by simpa using Zk)] at hSH
           obtain rfl:SH=((x.o.size:Int)==512&&(x.n.size:Int)==512):=by rw[hSH];exact congr (congrArg _ (p3 _ 512).symm) (p3 _ 512).symm
           obtain rfl:HA=false:=by rw[hHA,show x.k=6 by simpa using Zk];rfl
           refine GO 6 ?_;intro _ Z;apply aZ (x:=((x.n.size:Int)==512)) Z Za 76 rfl 5 81
           case ht=>
            intro Zz;refine GO 5 ?_;intro _ Z;exact ae ⟨Z.midE 4,Za⟩
           case hf=>
            intro Zz;refine GO 5 ?_;intro _ Z;exact ae ⟨Z.midE 4,Za⟩
           case h=>
            rintro a152 Qm ⟨Qn,Qa⟩
            refine GO 3 ?_;intro _ Z;exact⟨Z.re bD,Qa⟩
          ·
           rw[if_neg (by simpa using Zk)] at hSH;obtain rfl:SH=true:=hSH;refine GO 7 ?_;intro _ Z;refine ak (Z.ev rfl) (fun Zl=>?_) (fun Zl=>?_)
           ·
            obtain rfl:HA=true:=by rw[hHA,show x.k=2 by simpa using Zl];rfl
            refine wp_skip (ag ?_);refine ak (Z.ev rfl) (fun Zb=>?_) (fun Zb=>?_)
            ·
             refine GO 4 ?_;intro _ Z;exact⟨Z.re bD,Za⟩
            ·
             exact absurd (Zl.symm.trans Zb) ar
           ·
            refine GO 5 ?_;intro _ Z;refine ak (Z.ev rfl) (fun Zb=>?_) (fun Zb=>?_)
            ·
             obtain rfl:HA=true:=by rw[hHA,show x.k=3 by simpa using Zb];rfl
             refine GO 4 ?_;intro _ Z;exact⟨Z.re bD,Za⟩
            ·
             obtain rfl:HA=false:=by
              have Z:x.k≠1:=by simpa using Zh
              have Z:x.k≠2:=by simpa using Zl
              have Z:x.k≠3:=by simpa using Zb
              rw[hHA]
              cases h:bb x.k 1 3 with
              | false=>rfl
              | true=>rw[inB_true] at h;omega
             refine wp_skip (ag ?_);exact⟨Z.re bD,Za⟩
        ·
         refine GO 10 ?_;intro _ Z;refine sv Z (np aa (Z.ev rfl) (Z.ev rfl)) fun _ Z=>?_;refine GO 4 ?_;intro _ Z;apply aL Z (fA 19) _ aa
         case h=>
          refine GO 1 ?_;intro _ Z;refine gm Z rfl (fun X hX=>aA _ _ _) fun _ Z=>?_;refine GO 1 ?_;intro _ Z;refine gm Z rfl (fun X hX=>aA _ _ _) fun _ Z=>?_;refine GO 3 ?_;intro _ Z;apply fh (x:=decide (max (x.o.size:Int) x.n.size>0)) Z 98 rfl 3 101
          case hf=>
           intro Qb;refine GO 3 ?_;intro _ Z;exact aw (Z.midE 2)
          case ht=>
           intro Qb;refine GO 3 ?_;intro _ Z;exact aw (Z.midE 2)
          case h=>
           intro _ Z;refine gm Z rfl (fun X hX=>aA _ _ _) fun _ Z=>?_;refine GO 3 ?_;intro _ Z;apply fh (x:=decide (max (x.o.size:Int) x.n.size≤200)) Z 105 rfl 3 108
           case hf=>
            intro Zi;refine GO 3 ?_;intro _ Z;exact aw (Z.midE 2)
           case ht=>
            intro Zi;refine GO 3 ?_;intro _ Z;exact aw (Z.midE 2)
           case h=>
            intro _ Z;refine gm Z rfl (fun X hX=>aA _ _ _) fun _ Z=>?_;refine qv (v:=fL x) Z (fun X hX=>ah aa aa (Z.ev rfl) ((U.grow hX).cellsAll (i:=1) rfl)) fun _ Z=>?_;refine aw ?_;refine aS fun _ Zj Qc=>?_;have U:=U.grow Zj;refine cT Z rfl U (pW x _ ho hn) fun _ _ Z U=>?_;refine bz Z (wn rfl) (f:=fun b=>.slice (some ⟨b,0,none⟩) 5 5) (aX Tryz.underlying214 aa aa (Z.evs2 rfl) rfl rfl rfl ar ar) rfl rfl U fun b112 _ _ Qd Z U=>?_;refine cI Z rfl (ql (U.at_ (i:=0) rfl)) fun _ Z=>?_;refine GO 4 ?_;intro _ Z;refine aF Z rfl rfl ?_
            have e1:(!HA||decide (max (x.o.size:Int) x.n.size>0))=(!cD x.k||decide (0<cN x)):=by unfold cD cN;rw[←hHA,show decide (max (x.o.size:Int) x.n.size>0)=decide (0<max x.o.size x.n.size) by rw[decide_eq_decide];omega]
            have e2:(!HA||decide (max (x.o.size:Int) x.n.size≤200))=(!cD x.k||decide (max x.o.size x.n.size≤200)):=by unfold cD;rw[←hHA,show decide (max (x.o.size:Int) x.n.size≤200)=decide (max x.o.size x.n.size≤200) by rw[decide_eq_decide];omega]
            exact⟨by rw[←BM hk rfl hSH e1 e2];rfl,U.below⟩
         case hB=>kernel_rfl
         case hst=>rfl
  case hB=>kernel_rfl
end Go.Proofs.YtcfdpfmchchkaaaGreatDoor
