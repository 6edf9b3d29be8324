/-
  Chapter 21: the page after an operation, and whether it fits: apply; Applied and Fits of the reference.
  Chapter 21: kinds, the table of the fields of operations.
  Chapter 21: CheckOp, kind by kind.
-/
import Derived.Test.YtcfdpfmchchkaaaGreatDoorOpC
import Derived.Handy
import Derived.Deep.DeepCutAuto
namespace Go.Proofs.YtcfdpfmchchkaaaGreatDoor
set_option linter.unusedVariables false
set_option linter.unusedSimpArgs false
open Go.RowKit Go.Sort
theorem sT (p:ByteArray) (a:Nat):bl (p.extract 0 a)=(bl p).take a:=by rw[cZ,List.drop_zero]
theorem sY (p:ByteArray) (a:Nat):bl (p.extract a p.size)=(bl p).drop a:=by rw[cZ,←bf,List.take_length]
theorem zU (p:ByteArray) (a b:Nat):bl (p.extract a b)=eH (bl p) a b:=cZ p a b
theorem vo (s t:ByteArray):(s.toList==t.toList)=(bl s==bl t):=by rw[toList_eq,toList_eq]
theorem zO (p n:ByteArray) (A E:Nat):p.extract 0 A ++ n ++ p.extract A E ++ p.extract (E+n.size) p.size=bs (yP (bl p) A E (bl n)):=by
 apply o6;rw[eo,eo,eo,sT,sY,cZ];rfl
theorem zP (p:ByteArray) (A E N:Nat):p.extract 0 A ++ p.extract (A+N) E ++ bs (ed N) ++ p.extract E p.size=bs (xO (bl p) A E N):=by
 apply o6;rw[eo,eo,eo,sT,sY,cZ];rfl
set_option maxRecDepth 100000 in
set_option maxHeartbeats 1000000 in
theorem yA (p:ByteArray) (A:Nat) (o n:ByteArray) (w:World) (hp:p.size=512) (h1:o.size=n.size) (h2:o.size≤200) (h3:A+o.size≤512) :
 Calls Tryz.prog 205 #[.string p,.agg #[.int .i64 1,.int .i64 A,.int .i64 0,.int .i64 0,.string o,.string n]] w fun r w'=>r=.returned (.tuple #[.string (fU p ⟨1,A,0,0,o,n⟩),.bool (fb p ⟨1,A,0,0,o,n⟩)])∧Below w.heap.size w w':=by
 have hp1:p.size≤3100:=by omega
 have hp2:(A:Int)≤p.size:=by omega
 have hp3:A+n.size≤p.size:=by omega
 have hp4:(o.size:Int)≤(p.size:Int)-A:=by omega
 have ho:o.size≤3100:=by omega
 have hn:n.size≤3100:=by omega
 have HP:=Lib.hid hp;have H1:=Lib.hid h1;clear hp h1
 go_enter Tryz.func205,Tryz.ntmps205
 go_wp2_with (first | ((go_at_call 240;refine(bV _ _ _ _ o n _ ho hn).mono ?_;rintro e W1 ⟨rfl,hbW1⟩;obtain⟨hcW1,hfW1⟩:=aR hbW1);have hsW1:w.heap.size<W1.heap.size:=(by have h:=hbW1.size;simp at h;omega)))
 (refine wp_region_quiet_below (by kernel_rfl) (by kernel_rfl) ?_;(repeat (go_big_quiet_step ((first | (go_at_call 215;exact Calls.regrown_of (kR p n A _ hp1 hp3))))));(with_reducible refine wpQuiet_nil ?_);intro W2 hreg;have hbW2:=aU hreg;clear hreg;obtain⟨hcW2,hfW2⟩:=aR hbW2)
 go_wp2
 go_ret2
 exact⟨n0 rfl (by rw[vo,r9];rfl),by(repeat (first | assumption | exact Below.refl _ _ | refine ay ?_ _ | refine aw ?_ _ | refine ax ?_ (by assumption) | refine Below.trans ?_ (by assumption)))⟩
set_option maxRecDepth 100000 in
set_option maxHeartbeats 1000000 in
theorem yY (p:ByteArray) (A E:Nat) (o n:ByteArray) (w:World) (hp:p.size=512) (h1:o.size=0) (h2:n.size≤200) (h3:A≤E) (h4:E+n.size≤512) :
 Calls Tryz.prog 205 #[.string p,.agg #[.int .i64 2,.int .i64 A,.int .i64 E,.int .i64 0,.string o,.string n]] w fun r w'=>r=.returned (.tuple #[.string (fU p ⟨2,A,E,0,o,n⟩),.bool (fb p ⟨2,A,E,0,o,n⟩)])∧Below w.heap.size w w':=by
 have hp1:p.size≤3100:=by omega
 have hp2:(A:Int)≤p.size:=by omega
 have hp3:E+n.size≤p.size:=by omega
 have ho:o.size≤3100:=by omega
 have hn:n.size≤3100:=by omega
 have hz0:(o ++ n).size=n.size:=by rw[ByteArray.size_append];omega
 have hz1:(p.extract 0 A ++ n).size=A+n.size:=by rw[ByteArray.size_append,ByteArray.size_extract];omega
 have hz2:(p.extract 0 A ++ n ++ p.extract A E).size=E+n.size:=by rw[ByteArray.size_append,hz1,ByteArray.size_extract];omega
 have HP:=Lib.hid hp;have H1:=Lib.hid h1;clear hp h1
 go_enter Tryz.func205,Tryz.ntmps205
 go_wp2_with (first | ((go_at_call 240;refine(bV _ _ _ _ o n _ ho hn).mono ?_;rintro e W1 ⟨rfl,hbW1⟩;obtain⟨hcW1,hfW1⟩:=aR hbW1);have hsW1:w.heap.size<W1.heap.size:=(by have h:=hbW1.size;simp at h;omega)))
 (refine wp_region_quiet_below (by kernel_rfl) (by kernel_rfl) ?_;(repeat (go_big_quiet_step ((first | (go_at_call 241;exact Calls.regrown_of (rI _ _ (by rw[ByteArray.size_extract];omega)))))));(with_reducible refine wpQuiet_nil ?_);intro W2 hreg;have hbW2:=aU hreg;clear hreg;obtain⟨hcW2,hfW2⟩:=aR hbW2)
 go_wp2
 go_ret2
 exact⟨n0 (zO p n A E) (by rw[zU,←eY];rfl),by(repeat (first | assumption | exact Below.refl _ _ | refine ay ?_ _ | refine aw ?_ _ | refine ax ?_ (by assumption) | refine Below.trans ?_ (by assumption)))⟩
set_option maxRecDepth 100000 in
set_option maxHeartbeats 1000000 in
theorem xQ (p:ByteArray) (A E:Nat) (o n:ByteArray) (w:World) (hp:p.size=512) (h1:n.size=0) (h2:o.size≤200) (h3:A+o.size≤E) (h4:E≤512) :
 Calls Tryz.prog 205 #[.string p,.agg #[.int .i64 3,.int .i64 A,.int .i64 E,.int .i64 0,.string o,.string n]] w fun r w'=>r=.returned (.tuple #[.string (fU p ⟨3,A,E,0,o,n⟩),.bool (fb p ⟨3,A,E,0,o,n⟩)])∧Below w.heap.size w w':=by
 have hp1:p.size≤3100:=by omega
 have hp2:(A:Int)≤p.size:=by omega
 have hp3:E≤p.size:=by omega
 have hp4:(o.size:Int)≤(p.size:Int)-A:=by omega
 have ho:o.size≤3100:=by omega
 have hn:n.size≤3100:=by omega
 have hz0:(o ++ n).size=o.size:=by rw[ByteArray.size_append];omega
 have hz1:(p.extract 0 A ++ p.extract (A+o.size) E).size=E-o.size:=by rw[ByteArray.size_append,ByteArray.size_extract,ByteArray.size_extract];omega
 have hz3:(bs (ed o.size)).size=o.size:=ph _
 have hz2:(p.extract 0 A ++ p.extract (A+o.size) E ++ bs (ed o.size)).size=E:=by rw[ByteArray.size_append,hz1,hz3];omega
 have HP:=Lib.hid hp;have H1:=Lib.hid h1;clear hp h1
 go_enter Tryz.func205,Tryz.ntmps205
 go_wp2_with (first | ((go_at_call 240;refine(bV _ _ _ _ o n _ ho hn).mono ?_;rintro e W1 ⟨rfl,hbW1⟩;obtain⟨hcW1,hfW1⟩:=aR hbW1);have hsW1:w.heap.size<W1.heap.size:=(by have h:=hbW1.size;simp at h;omega)))
 (refine wp_region_quiet_below (by kernel_rfl) (by kernel_rfl) ?_;(repeat (go_big_quiet_step ((first | (go_at_call 242;exact Calls.regrown_of (u7 o.size _ (by omega)))))));(with_reducible refine wpQuiet_nil ?_);intro W2 hreg;have hbW2:=aU hreg;clear hreg;obtain⟨hcW2,hfW2⟩:=aR hbW2)
 go_wp2
 go_ret2
 exact⟨n0 (zP p A E o.size) (by rw[vo,r9];rfl),by(repeat (first | assumption | exact Below.refl _ _ | refine ay ?_ _ | refine aw ?_ _ | refine ax ?_ (by assumption) | refine Below.trans ?_ (by assumption)))⟩
set_option maxRecDepth 100000 in
set_option maxHeartbeats 1000000 in
theorem yz (p:ByteArray) (A C:Nat) (o n:ByteArray) (w:World) (hp:p.size=512) (h1:o.size=0) (h2:n.size=0) (h3:A+C≤4096) :
 Calls Tryz.prog 205 #[.string p,.agg #[.int .i64 4,.int .i64 A,.int .i64 0,.int .i64 C,.string o,.string n]] w fun r w'=>r=.returned (.tuple #[.string (fU p ⟨4,A,0,C,o,n⟩),.bool (fb p ⟨4,A,0,C,o,n⟩)])∧Below w.heap.size w w':=by
 have hp1:p.size≤3100:=by omega
 have hp2:A+C≤8*p.size:=by omega
 have ho:o.size≤3100:=by omega
 have hn:n.size≤3100:=by omega
 have HP:=Lib.hid hp;clear hp h1 h2
 go_enter Tryz.func205,Tryz.ntmps205
 go_wp2_with (first | ((go_at_call 240;refine(bV _ _ _ _ o n _ ho hn).mono ?_;rintro e W1 ⟨rfl,hbW1⟩;obtain⟨hcW1,hfW1⟩:=aR hbW1);have hsW1:w.heap.size<W1.heap.size:=(by have h:=hbW1.size;simp at h;omega)) | (go_at_call 243;refine(nc p A C _ hp1 hp2).mono ?_;rintro e W2 ⟨rfl,hbW2⟩;obtain⟨hcW2,hfW2⟩:=aR hbW2))
 go_ret2
 exact⟨rfl,by(repeat (first | assumption | exact Below.refl _ _ | refine ay ?_ _ | refine aw ?_ _ | refine ax ?_ (by assumption) | refine Below.trans ?_ (by assumption)))⟩
set_option maxRecDepth 100000 in
set_option maxHeartbeats 1000000 in
theorem xR (p:ByteArray) (A C:Nat) (o n:ByteArray) (w:World) (hp:p.size=512) (h1:o.size=0) (h2:n.size=0) (h3:A+C≤4096) :
 Calls Tryz.prog 205 #[.string p,.agg #[.int .i64 5,.int .i64 A,.int .i64 0,.int .i64 C,.string o,.string n]] w fun r w'=>r=.returned (.tuple #[.string (fU p ⟨5,A,0,C,o,n⟩),.bool (fb p ⟨5,A,0,C,o,n⟩)])∧Below w.heap.size w w':=by
 have hp1:p.size≤3100:=by omega
 have hp2:A+C≤8*p.size:=by omega
 have ho:o.size≤3100:=by omega
 have hn:n.size≤3100:=by omega
 have HP:=Lib.hid hp;clear hp h1 h2
 go_enter Tryz.func205,Tryz.ntmps205
 go_wp2_with (first | ((go_at_call 240;refine(bV _ _ _ _ o n _ ho hn).mono ?_;rintro e W1 ⟨rfl,hbW1⟩;obtain⟨hcW1,hfW1⟩:=aR hbW1);have hsW1:w.heap.size<W1.heap.size:=(by have h:=hbW1.size;simp at h;omega)) | (go_at_call 243;refine(l0 p A C _ hp1 hp2).mono ?_;rintro e W2 ⟨rfl,hbW2⟩;obtain⟨hcW2,hfW2⟩:=aR hbW2))
 go_ret2
 exact⟨rfl,by(repeat (first | assumption | exact Below.refl _ _ | refine ay ?_ _ | refine aw ?_ _ | refine ax ?_ (by assumption) | refine Below.trans ?_ (by assumption)))⟩
set_option maxRecDepth 100000 in
set_option maxHeartbeats 1000000 in
theorem yn (p:ByteArray) (o n:ByteArray) (w:World) (ho:o.size≤3100) (hn:n.size≤3100) :
 Calls Tryz.prog 205 #[.string p,.agg #[.int .i64 6,.int .i64 0,.int .i64 0,.int .i64 0,.string o,.string n]] w fun r w'=>r=.returned (.tuple #[.string (fU p ⟨6,0,0,0,o,n⟩),.bool (fb p ⟨6,0,0,0,o,n⟩)])∧Below w.heap.size w w':=by
 go_enter Tryz.func205,Tryz.ntmps205
 go_wp2_with (first | ((go_at_call 240;refine(bV _ _ _ _ o n _ ho hn).mono ?_;rintro e W1 ⟨rfl,hbW1⟩;obtain⟨hcW1,hfW1⟩:=aR hbW1);have hsW1:w.heap.size<W1.heap.size:=(by have h:=hbW1.size;simp at h;omega)))
 (refine wp_region_quiet_below (by kernel_rfl) (by kernel_rfl) ?_;(repeat (go_big_quiet_step ((first | fail))));(with_reducible refine wpQuiet_nil ?_);intro W2 hreg;have hbW2:=aU hreg;clear hreg;obtain⟨hcW2,hfW2⟩:=aR hbW2)
 go_wp2
 go_ret2
 exact⟨n0 rfl (by rw[vo];rfl),by(repeat (first | assumption | exact Below.refl _ _ | refine ay ?_ _ | refine aw ?_ _ | refine ax ?_ (by assumption) | refine Below.trans ?_ (by assumption)))⟩
set_option maxRecDepth 100000 in
set_option maxHeartbeats 1000000 in
theorem yy (p:ByteArray) (o n:ByteArray) (w:World) (ho:o.size≤3100) (hn:n.size≤3100) :
 Calls Tryz.prog 205 #[.string p,.agg #[.int .i64 0,.int .i64 0,.int .i64 0,.int .i64 0,.string o,.string n]] w fun r w'=>r=.returned (.tuple #[.string (fU p ⟨0,0,0,0,o,n⟩),.bool (fb p ⟨0,0,0,0,o,n⟩)])∧Below w.heap.size w w':=by
 go_enter Tryz.func205,Tryz.ntmps205
 go_wp2_with (first | ((go_at_call 240;refine(bV _ _ _ _ o n _ ho hn).mono ?_;rintro e W1 ⟨rfl,hbW1⟩;obtain⟨hcW1,hfW1⟩:=aR hbW1);have hsW1:w.heap.size<W1.heap.size:=(by have h:=hbW1.size;simp at h;omega)))
 go_ret2
 exact⟨rfl,by(repeat (first | assumption | exact Below.refl _ _ | refine ay ?_ _ | refine aw ?_ _ | refine ax ?_ (by assumption) | refine Below.trans ?_ (by assumption)))⟩
theorem nA (p:ByteArray) (x:Op) (w:World) (hp:p.size=512) (h:lU x) :
 Calls Tryz.prog 205 #[.string p,gZ x] w fun r w'=>r=.returned (.tuple #[.string (fU p x),.bool (fb p x)])∧Below w.heap.size w w':=by
 obtain⟨k,a,e,c,o,n⟩:=x;unfold lU at h
 dsimp only at h
 rcases h with ⟨rfl,rfl,rfl,rfl,ho,hn⟩ | ⟨rfl,rfl,rfl,hs,h1,h2,h3,h4⟩ | ⟨rfl,rfl,ho,h1,h2,h3,h4,h5⟩ | ⟨rfl,rfl,hn,h1,h2,h3,h4,h5⟩ | ⟨hk,rfl,ho,hn,h1,h2,h3,h4⟩ | ⟨rfl,rfl,rfl,rfl,ho,hn⟩
 · exact yy p o n w (by omega) (by omega)
 · obtain⟨A,rfl⟩:=Int.eq_ofNat_of_zero_le h3
   exact yA p A o n w hp hs h2 (by omega)
 · obtain⟨A,rfl⟩:=Int.eq_ofNat_of_zero_le h3
   obtain⟨E,rfl⟩:=Int.eq_ofNat_of_zero_le (show 0≤e by omega);exact yY p A E o n w hp ho h2 (by omega) (by omega)
 · obtain⟨A,rfl⟩:=Int.eq_ofNat_of_zero_le h3
   obtain⟨E,rfl⟩:=Int.eq_ofNat_of_zero_le (show 0≤e by omega);exact xQ p A E o n w hp hn h2 (by omega) (by omega)
 · obtain⟨A,rfl⟩:=Int.eq_ofNat_of_zero_le h1
   obtain⟨C,rfl⟩:=Int.eq_ofNat_of_zero_le (show 0≤c by omega);rcases hk with rfl | rfl
   · exact yz p A C o n w hp ho hn (by omega)
   · exact xR p A C o n w hp ho hn (by omega)
 · exact yn p o n w (by omega) (by omega)
open Go.RowKit
section
variable {P:Program}
theorem cJ {ops:Array Oper} {rest:List Oper} {o:Oper} {a:Act} {w:World} {Q:Exit→Act→World→Prop} (hg:o.guard=none) (t:TypeId) (parts:Array (Nat × Operand)) (ho:o.op=.build t parts)
 (cells:Array Value) (hc:P.built t (parts.map fun (i,x)=>(i,a.eval x)).toList=some cells)
 (h:wpList P ops Q rest (a.put o.dst (.agg cells)) w):wpList P ops Q (o::rest) a w:=
 wpList_build hg t parts ho (by rw[hc];rfl) (by rw[hc];exact h)
end
def cF:Array Value:=#[.bool false,.bool false,.bool false,.bool false,.bool false,.bool true,.bool false,.bool false,.bool true,.bool true,
 .bool true,.bool true,.bool false,.bool false,.bool true,.bool true,.bool true,.bool false,.bool true,.bool false,.bool true,.bool false,.bool true,.bool false,.bool false,
 .bool true,.bool false,.bool true,.bool false,.bool false,.bool false,.bool false,.bool false,.bool true,.bool true]
def qt:Array Value:=Array.replicate 35 (.bool false)
theorem eQ (w:World):Calls Tryz.prog 213 #[] w fun e w'=>e=.returned (.agg cF)∧Below w.heap.size w w':=by
 go_enter Tryz.func213,Tryz.ntmps213
 go_upto_region 1 with (fail)
 apply wp_region_lit;refine cJ rfl 303 _ rfl #[.bool false,.bool false,.bool false,.bool false,.bool false] (by kernel_rfl) ?_;refine cJ rfl 303 _ rfl #[.bool true,.bool false,.bool false,.bool true,.bool true] (by kernel_rfl) ?_;refine cJ rfl 303 _ rfl #[.bool true,.bool true,.bool false,.bool false,.bool true] (by kernel_rfl) ?_;refine cJ rfl 303 _ rfl #[.bool true,.bool true,.bool false,.bool true,.bool false] (by kernel_rfl) ?_;refine cJ rfl 303 _ rfl #[.bool true,.bool false,.bool true,.bool false,.bool false] (by kernel_rfl) ?_;refine cJ rfl 303 _ rfl #[.bool true,.bool false,.bool true,.bool false,.bool false] (by kernel_rfl) ?_;refine cJ rfl 303 _ rfl #[.bool false,.bool false,.bool false,.bool true,.bool true] (by kernel_rfl) ?_;refine cJ rfl 304 _ rfl cF (by kernel_rfl) ?_;refine wpList_store_row rfl 304 _ _ rfl w.heap.size cF (by kernel_rfl) (by kernel_rfl) 304 _ (heap_alloc_new w _) (by kernel_rfl) (by kernel_rfl) (by kernel_rfl) ?_;apply wpList_nil;have hr:=setRow_heap _ w.heap.size _ cF 304 (0,0) (heap_alloc_new w (.cells qt 304));have hb:=below_setRow (g:=w.heap.size) (aw (Below.refl w.heap.size w) (.cells qt 304)) (Nat.le_refl _) cF
 go_wp2
 refine bodyPost_ret (results_cell_row Tryz.results213 _ _ w.heap.size 304 _ (0,0) _ (by kernel_rfl) hr Tryz.underlying304 rfl (by kernel_rfl)) rfl ?_;exact⟨rfl,hb⟩
open Go.RowKit Go.Sort
theorem jl {x:Op} {A B C D:Bool} (hk:bH x.k 0 6=true) (hA:A=bA x) (hB:B=cB x) (hC:C=(!cO x.k||decide (0<bG x))) (hD:D=(!cO x.k||decide (bG x≤200))) :
 aO [bL A 3,bL B 10,bL C 17,bL D 8,bL (cy x) 2]=dP x:=by
 unfold dP;rw[hk,if_neg (by decide),hA,hB,hC,hD]
set_option maxRecDepth 100000 in
set_option maxHeartbeats 1000000 in
theorem tO (a e c:Int) (o n:ByteArray) (w:World) (ho:o.size≤3100) (hn:n.size≤3100) :
 Calls Tryz.prog 144 #[.agg #[.int .i64 0,.int .i64 a,.int .i64 e,.int .i64 c,.string o,.string n]] w fun r w'=>r=.returned (.int .i64 (dP ⟨0,a,e,c,o,n⟩))∧Below w.heap.size w w':=by
 have hk:bH 0 0 6=true:=rfl
 have hidx:∀W,(Instr.index 304 (.agg cF) (.int .i64 0)).run Tryz.prog W=.ok (.agg #[.bool false,.bool false,.bool false,.bool false,.bool false]) W:=fun W=>by kernel_rfl
 obtain⟨Ba,hBa⟩:∃b,(a==0)=b:=⟨_,rfl⟩;obtain⟨Be,hBe⟩:∃b,(e==0)=b:=⟨_,rfl⟩;obtain⟨Bc,hBc⟩:∃b,(c==0)=b:=⟨_,rfl⟩;obtain⟨Bo,hBo⟩:∃b,o.toList.isEmpty=b:=⟨_,rfl⟩;obtain⟨Bn,hBn⟩:∃b,n.toList.isEmpty=b:=⟨_,rfl⟩
 go_enter Tryz.func144,Tryz.ntmps144
 go_wp2_with (first | (go_at_call 152;refine(aI _ _ _ _).mono ?_;rintro e w' ⟨rfl,rfl⟩))
 refine cE 4 _ (.cells #[.bool false,.bool false,.bool false,.bool false,.bool false] 303) (by kernel_rfl) (by kernel_rfl) rfl (by kernel_rfl) (fun ev X=>by kernel_rfl) ?_;apply Exists.intro;refine⟨fun X hX=>?_,?_⟩
 · obtain⟨hcX,hfX⟩:=aR hX
   have hsX:w.heap.size<X.heap.size:=by have:=hX.size;simp at this;omega
   simp only[List.take_succ_cons,List.take_zero]
   (repeat (go_big_quiet_step ((first | (go_at_call 213;exact Calls.regrown_of (eQ _))))))
   exact wpQuiet_nil rfl
 · intro b1 W1 hbW1 hle hblk
   simp only[List.drop_succ_cons,List.drop_zero,Act.put,List.setIfInBounds_toArray,List.set_cons_succ,List.set_cons_zero];refine aS rfl 303 _ _ rfl rfl b1 _ rfl rfl _ hbW1 hle 303 _ hblk (by kernel_rfl) rfl (by kernel_rfl) ?_;intro W2 hb2 hbox2 _;obtain⟨hcW2,hfW2⟩:=aR hb2;have hx2:=hbox2.cells
   have hs2:w.heap.size<W2.heap.size:=by have:=hb2.size;simp at this;omega
   clear hbW1 hle hblk hidx;apply wpList_nil
   go_upto_region 4 with (fail)
   go_cut [4] (fun s4 wx=>s4=.bool (bA ⟨0,a,e,c,o,n⟩)∧W2=wx)
   case first=>
    go_wp2_with fail
    all_goals
     go_meet
     refine⟨congrArg Value.bool ?_,rfl⟩;rw[isEmpty_eq] at hBo hBn;simp only[bA,iW,fj,db,e8,fc,hBa,hBe,hBc,hBo,hBn]
     (try simp_all [bH])
   case rest=>
   obtain⟨rfl,rfl⟩:=hcut;obtain⟨form,hform⟩:∃b,b=bA ⟨0,a,e,c,o,n⟩:=⟨_,rfl⟩;rw[←hform];have HForm:=Lib.hid hform;clear hform
   go_upto_region 14 with (fail)
   all_goals
    go_cut [7] (fun s7 wx=>s7=.int .i64 (bG ⟨0,a,e,c,o,n⟩:Nat)∧W2=wx)
    case first=>
     go_wp2_with fail
     all_goals
      go_meet
      refine⟨congrArg (Value.int .i64) ?_,rfl⟩;simp only[bG];omega
    case rest=>
    obtain⟨rfl,rfl⟩:=hcut;obtain⟨L,hL⟩:∃b,b=bG ⟨0,a,e,c,o,n⟩:=⟨_,rfl⟩;rw[←hL];have HL:=Lib.hid hL;clear hL
    go_wp2_with fail
    (refine bB 20 (by kernel_rfl) (by kernel_rfl) ?_;simp only[List.take_succ_cons,List.take_zero,List.drop_succ_cons,List.drop_zero];(repeat (go_big_quiet_step ((first | (go_at_call 151;exact Calls.reg_pure (aJ _ _ _)) | (go_at_call 214;exact Calls.regrown_of (sk _ _ _ _ _ _ ho hn))))));(with_reducible refine wpQuiet_nil ?_);intro W3 hreg;have hbW3:=aU hreg;clear hreg;obtain⟨hcW3,hfW3⟩:=aR hbW3)
    go_wp2_with (first | (go_at_call 143;refine(aZ [_,_,_,_,_] W3 (by simp)).mono ?_;rintro e w' ⟨rfl,rfl⟩))
    go_ret
    refine⟨cP (jl rfl HForm.out ?_ ?_ ?_),by(repeat (first | assumption | exact Below.refl _ _ | refine ay ?_ _ | refine aw ?_ _ | refine ax ?_ (by assumption) | refine Below.trans ?_ (by assumption)))⟩
    all_goals
     (try rw[←HL.out])
     (try simp only[isEmpty_eq,ec])
     rw[Bool.eq_iff_iff]
     (try simp[cB,cO,bH,-ByteArray.size_eq_zero_iff])
     (try omega)
set_option maxRecDepth 100000 in
set_option maxHeartbeats 1000000 in
theorem uc (a e c:Int) (o n:ByteArray) (w:World) (ho:o.size≤3100) (hn:n.size≤3100) :
 Calls Tryz.prog 144 #[.agg #[.int .i64 1,.int .i64 a,.int .i64 e,.int .i64 c,.string o,.string n]] w fun r w'=>r=.returned (.int .i64 (dP ⟨1,a,e,c,o,n⟩))∧Below w.heap.size w w':=by
 have hk:bH 1 0 6=true:=rfl
 have hidx:∀W,(Instr.index 304 (.agg cF) (.int .i64 1)).run Tryz.prog W=.ok (.agg #[.bool true,.bool false,.bool false,.bool true,.bool true]) W:=fun W=>by kernel_rfl
 obtain⟨Ba,hBa⟩:∃b,(a==0)=b:=⟨_,rfl⟩;obtain⟨Be,hBe⟩:∃b,(e==0)=b:=⟨_,rfl⟩;obtain⟨Bc,hBc⟩:∃b,(c==0)=b:=⟨_,rfl⟩;obtain⟨Bo,hBo⟩:∃b,o.toList.isEmpty=b:=⟨_,rfl⟩;obtain⟨Bn,hBn⟩:∃b,n.toList.isEmpty=b:=⟨_,rfl⟩
 go_enter Tryz.func144,Tryz.ntmps144
 go_wp2_with (first | (go_at_call 152;refine(aI _ _ _ _).mono ?_;rintro e w' ⟨rfl,rfl⟩))
 refine cE 4 _ (.cells #[.bool false,.bool false,.bool false,.bool false,.bool false] 303) (by kernel_rfl) (by kernel_rfl) rfl (by kernel_rfl) (fun ev X=>by kernel_rfl) ?_;apply Exists.intro;refine⟨fun X hX=>?_,?_⟩
 · obtain⟨hcX,hfX⟩:=aR hX
   have hsX:w.heap.size<X.heap.size:=by have:=hX.size;simp at this;omega
   simp only[List.take_succ_cons,List.take_zero]
   (repeat (go_big_quiet_step ((first | (go_at_call 213;exact Calls.regrown_of (eQ _))))))
   exact wpQuiet_nil rfl
 · intro b1 W1 hbW1 hle hblk
   simp only[List.drop_succ_cons,List.drop_zero,Act.put,List.setIfInBounds_toArray,List.set_cons_succ,List.set_cons_zero];refine aS rfl 303 _ _ rfl rfl b1 _ rfl rfl _ hbW1 hle 303 _ hblk (by kernel_rfl) rfl (by kernel_rfl) ?_;intro W2 hb2 hbox2 _;obtain⟨hcW2,hfW2⟩:=aR hb2;have hx2:=hbox2.cells
   have hs2:w.heap.size<W2.heap.size:=by have:=hb2.size;simp at this;omega
   clear hbW1 hle hblk hidx;apply wpList_nil
   go_upto_region 4 with (fail)
   go_cut [4] (fun s4 wx=>s4=.bool (bA ⟨1,a,e,c,o,n⟩)∧W2=wx)
   case first=>
    go_wp2_with fail
    all_goals
     go_meet
     refine⟨congrArg Value.bool ?_,rfl⟩;rw[isEmpty_eq] at hBo hBn;simp only[bA,iW,fj,db,e8,fc,hBa,hBe,hBc,hBo,hBn]
     (try simp_all [bH])
   case rest=>
   obtain⟨rfl,rfl⟩:=hcut;obtain⟨form,hform⟩:∃b,b=bA ⟨1,a,e,c,o,n⟩:=⟨_,rfl⟩;rw[←hform];have HForm:=Lib.hid hform;clear hform
   go_upto_region 14 with (fail)
   all_goals
    go_cut [7] (fun s7 wx=>s7=.int .i64 (bG ⟨1,a,e,c,o,n⟩:Nat)∧W2=wx)
    case first=>
     go_wp2_with fail
     all_goals
      go_meet
      refine⟨congrArg (Value.int .i64) ?_,rfl⟩;simp only[bG];omega
    case rest=>
    obtain⟨rfl,rfl⟩:=hcut;obtain⟨L,hL⟩:∃b,b=bG ⟨1,a,e,c,o,n⟩:=⟨_,rfl⟩;rw[←hL];have HL:=Lib.hid hL;clear hL
    go_wp2_with fail
    (refine bB 20 (by kernel_rfl) (by kernel_rfl) ?_;simp only[List.take_succ_cons,List.take_zero,List.drop_succ_cons,List.drop_zero];(repeat (go_big_quiet_step ((first | (go_at_call 151;exact Calls.reg_pure (aJ _ _ _)) | (go_at_call 214;exact Calls.regrown_of (ra _ _ _ _ _ _ ho hn))))));(with_reducible refine wpQuiet_nil ?_);intro W3 hreg;have hbW3:=aU hreg;clear hreg;obtain⟨hcW3,hfW3⟩:=aR hbW3)
    go_wp2_with (first | (go_at_call 143;refine(aZ [_,_,_,_,_] W3 (by simp)).mono ?_;rintro e w' ⟨rfl,rfl⟩))
    go_ret
    refine⟨cP (jl rfl HForm.out ?_ ?_ ?_),by(repeat (first | assumption | exact Below.refl _ _ | refine ay ?_ _ | refine aw ?_ _ | refine ax ?_ (by assumption) | refine Below.trans ?_ (by assumption)))⟩
    all_goals
     (try rw[←HL.out])
     (try simp only[isEmpty_eq,ec])
     rw[Bool.eq_iff_iff]
     (try simp[cB,cO,bH,-ByteArray.size_eq_zero_iff])
     (try omega)
set_option maxRecDepth 100000 in
set_option maxHeartbeats 1000000 in
theorem uB (a e c:Int) (o n:ByteArray) (w:World) (ho:o.size≤3100) (hn:n.size≤3100) :
 Calls Tryz.prog 144 #[.agg #[.int .i64 2,.int .i64 a,.int .i64 e,.int .i64 c,.string o,.string n]] w fun r w'=>r=.returned (.int .i64 (dP ⟨2,a,e,c,o,n⟩))∧Below w.heap.size w w':=by
 have hk:bH 2 0 6=true:=rfl
 have hidx:∀W,(Instr.index 304 (.agg cF) (.int .i64 2)).run Tryz.prog W=.ok (.agg #[.bool true,.bool true,.bool false,.bool false,.bool true]) W:=fun W=>by kernel_rfl
 obtain⟨Ba,hBa⟩:∃b,(a==0)=b:=⟨_,rfl⟩;obtain⟨Be,hBe⟩:∃b,(e==0)=b:=⟨_,rfl⟩;obtain⟨Bc,hBc⟩:∃b,(c==0)=b:=⟨_,rfl⟩;obtain⟨Bo,hBo⟩:∃b,o.toList.isEmpty=b:=⟨_,rfl⟩;obtain⟨Bn,hBn⟩:∃b,n.toList.isEmpty=b:=⟨_,rfl⟩
 go_enter Tryz.func144,Tryz.ntmps144
 go_wp2_with (first | (go_at_call 152;refine(aI _ _ _ _).mono ?_;rintro e w' ⟨rfl,rfl⟩))
 refine cE 4 _ (.cells #[.bool false,.bool false,.bool false,.bool false,.bool false] 303) (by kernel_rfl) (by kernel_rfl) rfl (by kernel_rfl) (fun ev X=>by kernel_rfl) ?_;apply Exists.intro;refine⟨fun X hX=>?_,?_⟩
 · obtain⟨hcX,hfX⟩:=aR hX
   have hsX:w.heap.size<X.heap.size:=by have:=hX.size;simp at this;omega
   simp only[List.take_succ_cons,List.take_zero]
   (repeat (go_big_quiet_step ((first | (go_at_call 213;exact Calls.regrown_of (eQ _))))))
   exact wpQuiet_nil rfl
 · intro b1 W1 hbW1 hle hblk
   simp only[List.drop_succ_cons,List.drop_zero,Act.put,List.setIfInBounds_toArray,List.set_cons_succ,List.set_cons_zero];refine aS rfl 303 _ _ rfl rfl b1 _ rfl rfl _ hbW1 hle 303 _ hblk (by kernel_rfl) rfl (by kernel_rfl) ?_;intro W2 hb2 hbox2 _;obtain⟨hcW2,hfW2⟩:=aR hb2;have hx2:=hbox2.cells
   have hs2:w.heap.size<W2.heap.size:=by have:=hb2.size;simp at this;omega
   clear hbW1 hle hblk hidx;apply wpList_nil
   go_upto_region 4 with (fail)
   go_cut [4] (fun s4 wx=>s4=.bool (bA ⟨2,a,e,c,o,n⟩)∧W2=wx)
   case first=>
    go_wp2_with fail
    all_goals
     go_meet
     refine⟨congrArg Value.bool ?_,rfl⟩;rw[isEmpty_eq] at hBo hBn;simp only[bA,iW,fj,db,e8,fc,hBa,hBe,hBc,hBo,hBn]
     (try simp_all [bH])
   case rest=>
   obtain⟨rfl,rfl⟩:=hcut;obtain⟨form,hform⟩:∃b,b=bA ⟨2,a,e,c,o,n⟩:=⟨_,rfl⟩;rw[←hform];have HForm:=Lib.hid hform;clear hform
   go_upto_region 14 with (fail)
   all_goals
    go_cut [7] (fun s7 wx=>s7=.int .i64 (bG ⟨2,a,e,c,o,n⟩:Nat)∧W2=wx)
    case first=>
     go_wp2_with fail
     all_goals
      go_meet
      refine⟨congrArg (Value.int .i64) ?_,rfl⟩;simp only[bG];omega
    case rest=>
    obtain⟨rfl,rfl⟩:=hcut;obtain⟨L,hL⟩:∃b,b=bG ⟨2,a,e,c,o,n⟩:=⟨_,rfl⟩;rw[←hL];have HL:=Lib.hid hL;clear hL
    go_wp2_with fail
    (refine bB 20 (by kernel_rfl) (by kernel_rfl) ?_;simp only[List.take_succ_cons,List.take_zero,List.drop_succ_cons,List.drop_zero];(repeat (go_big_quiet_step ((first | (go_at_call 151;exact Calls.reg_pure (aJ _ _ _)) | (go_at_call 214;exact Calls.regrown_of (r7 _ _ _ _ _ _ ho hn))))));(with_reducible refine wpQuiet_nil ?_);intro W3 hreg;have hbW3:=aU hreg;clear hreg;obtain⟨hcW3,hfW3⟩:=aR hbW3)
    go_wp2_with (first | (go_at_call 143;refine(aZ [_,_,_,_,_] W3 (by simp)).mono ?_;rintro e w' ⟨rfl,rfl⟩))
    go_ret
    refine⟨cP (jl rfl HForm.out ?_ ?_ ?_),by(repeat (first | assumption | exact Below.refl _ _ | refine ay ?_ _ | refine aw ?_ _ | refine ax ?_ (by assumption) | refine Below.trans ?_ (by assumption)))⟩
    all_goals
     (try rw[←HL.out])
     (try simp only[isEmpty_eq,ec])
     rw[Bool.eq_iff_iff]
     (try simp[cB,cO,bH,-ByteArray.size_eq_zero_iff])
     (try omega)
set_option maxRecDepth 100000 in
set_option maxHeartbeats 1000000 in
theorem tA (a e c:Int) (o n:ByteArray) (w:World) (ho:o.size≤3100) (hn:n.size≤3100) :
 Calls Tryz.prog 144 #[.agg #[.int .i64 3,.int .i64 a,.int .i64 e,.int .i64 c,.string o,.string n]] w fun r w'=>r=.returned (.int .i64 (dP ⟨3,a,e,c,o,n⟩))∧Below w.heap.size w w':=by
 have hk:bH 3 0 6=true:=rfl
 have hidx:∀W,(Instr.index 304 (.agg cF) (.int .i64 3)).run Tryz.prog W=.ok (.agg #[.bool true,.bool true,.bool false,.bool true,.bool false]) W:=fun W=>by kernel_rfl
 obtain⟨Ba,hBa⟩:∃b,(a==0)=b:=⟨_,rfl⟩;obtain⟨Be,hBe⟩:∃b,(e==0)=b:=⟨_,rfl⟩;obtain⟨Bc,hBc⟩:∃b,(c==0)=b:=⟨_,rfl⟩;obtain⟨Bo,hBo⟩:∃b,o.toList.isEmpty=b:=⟨_,rfl⟩;obtain⟨Bn,hBn⟩:∃b,n.toList.isEmpty=b:=⟨_,rfl⟩
 go_enter Tryz.func144,Tryz.ntmps144
 go_wp2_with (first | (go_at_call 152;refine(aI _ _ _ _).mono ?_;rintro e w' ⟨rfl,rfl⟩))
 refine cE 4 _ (.cells #[.bool false,.bool false,.bool false,.bool false,.bool false] 303) (by kernel_rfl) (by kernel_rfl) rfl (by kernel_rfl) (fun ev X=>by kernel_rfl) ?_;apply Exists.intro;refine⟨fun X hX=>?_,?_⟩
 · obtain⟨hcX,hfX⟩:=aR hX
   have hsX:w.heap.size<X.heap.size:=by have:=hX.size;simp at this;omega
   simp only[List.take_succ_cons,List.take_zero]
   (repeat (go_big_quiet_step ((first | (go_at_call 213;exact Calls.regrown_of (eQ _))))))
   exact wpQuiet_nil rfl
 · intro b1 W1 hbW1 hle hblk
   simp only[List.drop_succ_cons,List.drop_zero,Act.put,List.setIfInBounds_toArray,List.set_cons_succ,List.set_cons_zero];refine aS rfl 303 _ _ rfl rfl b1 _ rfl rfl _ hbW1 hle 303 _ hblk (by kernel_rfl) rfl (by kernel_rfl) ?_;intro W2 hb2 hbox2 _;obtain⟨hcW2,hfW2⟩:=aR hb2;have hx2:=hbox2.cells
   have hs2:w.heap.size<W2.heap.size:=by have:=hb2.size;simp at this;omega
   clear hbW1 hle hblk hidx;apply wpList_nil
   go_upto_region 4 with (fail)
   go_cut [4] (fun s4 wx=>s4=.bool (bA ⟨3,a,e,c,o,n⟩)∧W2=wx)
   case first=>
    go_wp2_with fail
    all_goals
     go_meet
     refine⟨congrArg Value.bool ?_,rfl⟩;rw[isEmpty_eq] at hBo hBn;simp only[bA,iW,fj,db,e8,fc,hBa,hBe,hBc,hBo,hBn]
     (try simp_all [bH])
   case rest=>
   obtain⟨rfl,rfl⟩:=hcut;obtain⟨form,hform⟩:∃b,b=bA ⟨3,a,e,c,o,n⟩:=⟨_,rfl⟩;rw[←hform];have HForm:=Lib.hid hform;clear hform
   go_upto_region 14 with (fail)
   all_goals
    go_cut [7] (fun s7 wx=>s7=.int .i64 (bG ⟨3,a,e,c,o,n⟩:Nat)∧W2=wx)
    case first=>
     go_wp2_with fail
     all_goals
      go_meet
      refine⟨congrArg (Value.int .i64) ?_,rfl⟩;simp only[bG];omega
    case rest=>
    obtain⟨rfl,rfl⟩:=hcut;obtain⟨L,hL⟩:∃b,b=bG ⟨3,a,e,c,o,n⟩:=⟨_,rfl⟩;rw[←hL];have HL:=Lib.hid hL;clear hL
    go_wp2_with fail
    (refine bB 20 (by kernel_rfl) (by kernel_rfl) ?_;simp only[List.take_succ_cons,List.take_zero,List.drop_succ_cons,List.drop_zero];(repeat (go_big_quiet_step ((first | (go_at_call 151;exact Calls.reg_pure (aJ _ _ _)) | (go_at_call 214;exact Calls.regrown_of (rR _ _ _ _ _ _ ho hn))))));(with_reducible refine wpQuiet_nil ?_);intro W3 hreg;have hbW3:=aU hreg;clear hreg;obtain⟨hcW3,hfW3⟩:=aR hbW3)
    go_wp2_with (first | (go_at_call 143;refine(aZ [_,_,_,_,_] W3 (by simp)).mono ?_;rintro e w' ⟨rfl,rfl⟩))
    go_ret
    refine⟨cP (jl rfl HForm.out ?_ ?_ ?_),by(repeat (first | assumption | exact Below.refl _ _ | refine ay ?_ _ | refine aw ?_ _ | refine ax ?_ (by assumption) | refine Below.trans ?_ (by assumption)))⟩
    all_goals
     (try rw[←HL.out])
     (try simp only[isEmpty_eq,ec])
     rw[Bool.eq_iff_iff]
     (try simp[cB,cO,bH,-ByteArray.size_eq_zero_iff])
     (try omega)
set_option maxRecDepth 100000 in
set_option maxHeartbeats 1000000 in
theorem tX (a e c:Int) (o n:ByteArray) (w:World) (ho:o.size≤3100) (hn:n.size≤3100) :
 Calls Tryz.prog 144 #[.agg #[.int .i64 4,.int .i64 a,.int .i64 e,.int .i64 c,.string o,.string n]] w fun r w'=>r=.returned (.int .i64 (dP ⟨4,a,e,c,o,n⟩))∧Below w.heap.size w w':=by
 have hk:bH 4 0 6=true:=rfl
 have hidx:∀W,(Instr.index 304 (.agg cF) (.int .i64 4)).run Tryz.prog W=.ok (.agg #[.bool true,.bool false,.bool true,.bool false,.bool false]) W:=fun W=>by kernel_rfl
 obtain⟨Ba,hBa⟩:∃b,(a==0)=b:=⟨_,rfl⟩;obtain⟨Be,hBe⟩:∃b,(e==0)=b:=⟨_,rfl⟩;obtain⟨Bc,hBc⟩:∃b,(c==0)=b:=⟨_,rfl⟩;obtain⟨Bo,hBo⟩:∃b,o.toList.isEmpty=b:=⟨_,rfl⟩;obtain⟨Bn,hBn⟩:∃b,n.toList.isEmpty=b:=⟨_,rfl⟩
 go_enter Tryz.func144,Tryz.ntmps144
 go_wp2_with (first | (go_at_call 152;refine(aI _ _ _ _).mono ?_;rintro e w' ⟨rfl,rfl⟩))
 refine cE 4 _ (.cells #[.bool false,.bool false,.bool false,.bool false,.bool false] 303) (by kernel_rfl) (by kernel_rfl) rfl (by kernel_rfl) (fun ev X=>by kernel_rfl) ?_;apply Exists.intro;refine⟨fun X hX=>?_,?_⟩
 · obtain⟨hcX,hfX⟩:=aR hX
   have hsX:w.heap.size<X.heap.size:=by have:=hX.size;simp at this;omega
   simp only[List.take_succ_cons,List.take_zero]
   (repeat (go_big_quiet_step ((first | (go_at_call 213;exact Calls.regrown_of (eQ _))))))
   exact wpQuiet_nil rfl
 · intro b1 W1 hbW1 hle hblk
   simp only[List.drop_succ_cons,List.drop_zero,Act.put,List.setIfInBounds_toArray,List.set_cons_succ,List.set_cons_zero];refine aS rfl 303 _ _ rfl rfl b1 _ rfl rfl _ hbW1 hle 303 _ hblk (by kernel_rfl) rfl (by kernel_rfl) ?_;intro W2 hb2 hbox2 _;obtain⟨hcW2,hfW2⟩:=aR hb2;have hx2:=hbox2.cells
   have hs2:w.heap.size<W2.heap.size:=by have:=hb2.size;simp at this;omega
   clear hbW1 hle hblk hidx;apply wpList_nil
   go_upto_region 4 with (fail)
   go_cut [4] (fun s4 wx=>s4=.bool (bA ⟨4,a,e,c,o,n⟩)∧W2=wx)
   case first=>
    go_wp2_with fail
    all_goals
     go_meet
     refine⟨congrArg Value.bool ?_,rfl⟩;rw[isEmpty_eq] at hBo hBn;simp only[bA,iW,fj,db,e8,fc,hBa,hBe,hBc,hBo,hBn]
     (try simp_all [bH])
   case rest=>
   obtain⟨rfl,rfl⟩:=hcut;obtain⟨form,hform⟩:∃b,b=bA ⟨4,a,e,c,o,n⟩:=⟨_,rfl⟩;rw[←hform];have HForm:=Lib.hid hform;clear hform
   go_upto_region 14 with (fail)
   all_goals
    go_cut [7] (fun s7 wx=>s7=.int .i64 (bG ⟨4,a,e,c,o,n⟩:Nat)∧W2=wx)
    case first=>
     go_wp2_with fail
     all_goals
      go_meet
      refine⟨congrArg (Value.int .i64) ?_,rfl⟩;simp only[bG];omega
    case rest=>
    obtain⟨rfl,rfl⟩:=hcut;obtain⟨L,hL⟩:∃b,b=bG ⟨4,a,e,c,o,n⟩:=⟨_,rfl⟩;rw[←hL];have HL:=Lib.hid hL;clear hL
    go_wp2_with fail
    (refine bB 20 (by kernel_rfl) (by kernel_rfl) ?_;simp only[List.take_succ_cons,List.take_zero,List.drop_succ_cons,List.drop_zero];(repeat (go_big_quiet_step ((first | (go_at_call 151;exact Calls.reg_pure (aJ _ _ _)) | (go_at_call 214;exact Calls.regrown_of (sb _ _ _ _ _ _ ho hn))))));(with_reducible refine wpQuiet_nil ?_);intro W3 hreg;have hbW3:=aU hreg;clear hreg;obtain⟨hcW3,hfW3⟩:=aR hbW3)
    go_wp2_with (first | (go_at_call 143;refine(aZ [_,_,_,_,_] W3 (by simp)).mono ?_;rintro e w' ⟨rfl,rfl⟩))
    go_ret
    refine⟨cP (jl rfl HForm.out ?_ ?_ ?_),by(repeat (first | assumption | exact Below.refl _ _ | refine ay ?_ _ | refine aw ?_ _ | refine ax ?_ (by assumption) | refine Below.trans ?_ (by assumption)))⟩
    all_goals
     (try rw[←HL.out])
     (try simp only[isEmpty_eq,ec])
     rw[Bool.eq_iff_iff]
     (try simp[cB,cO,bH,-ByteArray.size_eq_zero_iff])
     (try omega)
set_option maxRecDepth 100000 in
set_option maxHeartbeats 1000000 in
theorem tG (a e c:Int) (o n:ByteArray) (w:World) (ho:o.size≤3100) (hn:n.size≤3100) :
 Calls Tryz.prog 144 #[.agg #[.int .i64 5,.int .i64 a,.int .i64 e,.int .i64 c,.string o,.string n]] w fun r w'=>r=.returned (.int .i64 (dP ⟨5,a,e,c,o,n⟩))∧Below w.heap.size w w':=by
 have hk:bH 5 0 6=true:=rfl
 have hidx:∀W,(Instr.index 304 (.agg cF) (.int .i64 5)).run Tryz.prog W=.ok (.agg #[.bool true,.bool false,.bool true,.bool false,.bool false]) W:=fun W=>by kernel_rfl
 obtain⟨Ba,hBa⟩:∃b,(a==0)=b:=⟨_,rfl⟩;obtain⟨Be,hBe⟩:∃b,(e==0)=b:=⟨_,rfl⟩;obtain⟨Bc,hBc⟩:∃b,(c==0)=b:=⟨_,rfl⟩;obtain⟨Bo,hBo⟩:∃b,o.toList.isEmpty=b:=⟨_,rfl⟩;obtain⟨Bn,hBn⟩:∃b,n.toList.isEmpty=b:=⟨_,rfl⟩
 go_enter Tryz.func144,Tryz.ntmps144
 go_wp2_with (first | (go_at_call 152;refine(aI _ _ _ _).mono ?_;rintro e w' ⟨rfl,rfl⟩))
 refine cE 4 _ (.cells #[.bool false,.bool false,.bool false,.bool false,.bool false] 303) (by kernel_rfl) (by kernel_rfl) rfl (by kernel_rfl) (fun ev X=>by kernel_rfl) ?_;apply Exists.intro;refine⟨fun X hX=>?_,?_⟩
 · obtain⟨hcX,hfX⟩:=aR hX
   have hsX:w.heap.size<X.heap.size:=by have:=hX.size;simp at this;omega
   simp only[List.take_succ_cons,List.take_zero]
   (repeat (go_big_quiet_step ((first | (go_at_call 213;exact Calls.regrown_of (eQ _))))))
   exact wpQuiet_nil rfl
 · intro b1 W1 hbW1 hle hblk
   simp only[List.drop_succ_cons,List.drop_zero,Act.put,List.setIfInBounds_toArray,List.set_cons_succ,List.set_cons_zero];refine aS rfl 303 _ _ rfl rfl b1 _ rfl rfl _ hbW1 hle 303 _ hblk (by kernel_rfl) rfl (by kernel_rfl) ?_;intro W2 hb2 hbox2 _;obtain⟨hcW2,hfW2⟩:=aR hb2;have hx2:=hbox2.cells
   have hs2:w.heap.size<W2.heap.size:=by have:=hb2.size;simp at this;omega
   clear hbW1 hle hblk hidx;apply wpList_nil
   go_upto_region 4 with (fail)
   go_cut [4] (fun s4 wx=>s4=.bool (bA ⟨5,a,e,c,o,n⟩)∧W2=wx)
   case first=>
    go_wp2_with fail
    all_goals
     go_meet
     refine⟨congrArg Value.bool ?_,rfl⟩;rw[isEmpty_eq] at hBo hBn;simp only[bA,iW,fj,db,e8,fc,hBa,hBe,hBc,hBo,hBn]
     (try simp_all [bH])
   case rest=>
   obtain⟨rfl,rfl⟩:=hcut;obtain⟨form,hform⟩:∃b,b=bA ⟨5,a,e,c,o,n⟩:=⟨_,rfl⟩;rw[←hform];have HForm:=Lib.hid hform;clear hform
   go_upto_region 14 with (fail)
   all_goals
    go_cut [7] (fun s7 wx=>s7=.int .i64 (bG ⟨5,a,e,c,o,n⟩:Nat)∧W2=wx)
    case first=>
     go_wp2_with fail
     all_goals
      go_meet
      refine⟨congrArg (Value.int .i64) ?_,rfl⟩;simp only[bG];omega
    case rest=>
    obtain⟨rfl,rfl⟩:=hcut;obtain⟨L,hL⟩:∃b,b=bG ⟨5,a,e,c,o,n⟩:=⟨_,rfl⟩;rw[←hL];have HL:=Lib.hid hL;clear hL
    go_wp2_with fail
    (refine bB 20 (by kernel_rfl) (by kernel_rfl) ?_;simp only[List.take_succ_cons,List.take_zero,List.drop_succ_cons,List.drop_zero];(repeat (go_big_quiet_step ((first | (go_at_call 151;exact Calls.reg_pure (aJ _ _ _)) | (go_at_call 214;exact Calls.regrown_of (sc _ _ _ _ _ _ ho hn))))));(with_reducible refine wpQuiet_nil ?_);intro W3 hreg;have hbW3:=aU hreg;clear hreg;obtain⟨hcW3,hfW3⟩:=aR hbW3)
    go_wp2_with (first | (go_at_call 143;refine(aZ [_,_,_,_,_] W3 (by simp)).mono ?_;rintro e w' ⟨rfl,rfl⟩))
    go_ret
    refine⟨cP (jl rfl HForm.out ?_ ?_ ?_),by(repeat (first | assumption | exact Below.refl _ _ | refine ay ?_ _ | refine aw ?_ _ | refine ax ?_ (by assumption) | refine Below.trans ?_ (by assumption)))⟩
    all_goals
     (try rw[←HL.out])
     (try simp only[isEmpty_eq,ec])
     rw[Bool.eq_iff_iff]
     (try simp[cB,cO,bH,-ByteArray.size_eq_zero_iff])
     (try omega)
set_option maxRecDepth 100000 in
set_option maxHeartbeats 1000000 in
theorem tQ (a e c:Int) (o n:ByteArray) (w:World) (ho:o.size≤3100) (hn:n.size≤3100) :
 Calls Tryz.prog 144 #[.agg #[.int .i64 6,.int .i64 a,.int .i64 e,.int .i64 c,.string o,.string n]] w fun r w'=>r=.returned (.int .i64 (dP ⟨6,a,e,c,o,n⟩))∧Below w.heap.size w w':=by
 have hk:bH 6 0 6=true:=rfl
 have hidx:∀W,(Instr.index 304 (.agg cF) (.int .i64 6)).run Tryz.prog W=.ok (.agg #[.bool false,.bool false,.bool false,.bool true,.bool true]) W:=fun W=>by kernel_rfl
 obtain⟨Ba,hBa⟩:∃b,(a==0)=b:=⟨_,rfl⟩;obtain⟨Be,hBe⟩:∃b,(e==0)=b:=⟨_,rfl⟩;obtain⟨Bc,hBc⟩:∃b,(c==0)=b:=⟨_,rfl⟩;obtain⟨Bo,hBo⟩:∃b,o.toList.isEmpty=b:=⟨_,rfl⟩;obtain⟨Bn,hBn⟩:∃b,n.toList.isEmpty=b:=⟨_,rfl⟩
 go_enter Tryz.func144,Tryz.ntmps144
 go_wp2_with (first | (go_at_call 152;refine(aI _ _ _ _).mono ?_;rintro e w' ⟨rfl,rfl⟩))
 refine cE 4 _ (.cells #[.bool false,.bool false,.bool false,.bool false,.bool false] 303) (by kernel_rfl) (by kernel_rfl) rfl (by kernel_rfl) (fun ev X=>by kernel_rfl) ?_;apply Exists.intro;refine⟨fun X hX=>?_,?_⟩
 · obtain⟨hcX,hfX⟩:=aR hX
   have hsX:w.heap.size<X.heap.size:=by have:=hX.size;simp at this;omega
   simp only[List.take_succ_cons,List.take_zero]
   (repeat (go_big_quiet_step ((first | (go_at_call 213;exact Calls.regrown_of (eQ _))))))
   exact wpQuiet_nil rfl
 · intro b1 W1 hbW1 hle hblk
   simp only[List.drop_succ_cons,List.drop_zero,Act.put,List.setIfInBounds_toArray,List.set_cons_succ,List.set_cons_zero];refine aS rfl 303 _ _ rfl rfl b1 _ rfl rfl _ hbW1 hle 303 _ hblk (by kernel_rfl) rfl (by kernel_rfl) ?_;intro W2 hb2 hbox2 _;obtain⟨hcW2,hfW2⟩:=aR hb2;have hx2:=hbox2.cells
   have hs2:w.heap.size<W2.heap.size:=by have:=hb2.size;simp at this;omega
   clear hbW1 hle hblk hidx;apply wpList_nil
   go_upto_region 4 with (fail)
   go_cut [4] (fun s4 wx=>s4=.bool (bA ⟨6,a,e,c,o,n⟩)∧W2=wx)
   case first=>
    go_wp2_with fail
    all_goals
     go_meet
     refine⟨congrArg Value.bool ?_,rfl⟩;rw[isEmpty_eq] at hBo hBn;simp only[bA,iW,fj,db,e8,fc,hBa,hBe,hBc,hBo,hBn]
     (try simp_all [bH])
   case rest=>
   obtain⟨rfl,rfl⟩:=hcut;obtain⟨form,hform⟩:∃b,b=bA ⟨6,a,e,c,o,n⟩:=⟨_,rfl⟩;rw[←hform];have HForm:=Lib.hid hform;clear hform
   go_upto_region 14 with (fail)
   all_goals
    go_cut [7] (fun s7 wx=>s7=.int .i64 (bG ⟨6,a,e,c,o,n⟩:Nat)∧W2=wx)
    case first=>
     go_wp2_with fail
     all_goals
      go_meet
      refine⟨congrArg (Value.int .i64) ?_,rfl⟩;simp only[bG];omega
    case rest=>
    obtain⟨rfl,rfl⟩:=hcut;obtain⟨L,hL⟩:∃b,b=bG ⟨6,a,e,c,o,n⟩:=⟨_,rfl⟩;rw[←hL];have HL:=Lib.hid hL;clear hL
    go_wp2_with fail
    (refine bB 20 (by kernel_rfl) (by kernel_rfl) ?_;simp only[List.take_succ_cons,List.take_zero,List.drop_succ_cons,List.drop_zero];(repeat (go_big_quiet_step ((first | (go_at_call 151;exact Calls.reg_pure (aJ _ _ _)) | (go_at_call 214;exact Calls.regrown_of (qR _ _ _ _ _ _ ho hn))))));(with_reducible refine wpQuiet_nil ?_);intro W3 hreg;have hbW3:=aU hreg;clear hreg;obtain⟨hcW3,hfW3⟩:=aR hbW3)
    go_wp2_with (first | (go_at_call 143;refine(aZ [_,_,_,_,_] W3 (by simp)).mono ?_;rintro e w' ⟨rfl,rfl⟩))
    go_ret
    refine⟨cP (jl rfl HForm.out ?_ ?_ ?_),by(repeat (first | assumption | exact Below.refl _ _ | refine ay ?_ _ | refine aw ?_ _ | refine ax ?_ (by assumption) | refine Below.trans ?_ (by assumption)))⟩
    all_goals
     (try rw[←HL.out])
     (try simp only[isEmpty_eq,ec])
     rw[Bool.eq_iff_iff]
     (try simp[cB,cO,bH,-ByteArray.size_eq_zero_iff])
     (try omega)
end Go.Proofs.YtcfdpfmchchkaaaGreatDoor
