/-
  Chapter 21: the page after an operation, and whether it fits: apply; Applied and Fits of the reference.
  Chapter 21: kinds, the table of the fields of operations.
  Chapter 21: CheckOp, kind by kind.
-/
import Derived.Test.YtcfdpfmchchkaaaGreatDoorOpC
import Derived.Handy
import Derived.Deep.DeepCutAuto
namespace Go.Proofs.YtcfdpfmchchkaaaGreatDoor
set_option linter.unusedVariables false
set_option linter.unusedSimpArgs false
open Go.RowKit Go.Sort
theorem sT (p:ByteArray) (a:Nat):bl (p.extract 0 a)=(bl p).take a:=by rw[dh,List.drop_zero]
theorem tp (p:ByteArray) (a:Nat):bl (p.extract a p.size)=(bl p).drop a:=by rw[dh,←ba,List.take_length]
theorem pq (p:ByteArray) (a b:Nat):bl (p.extract a b)=eK (bl p) a b:=dh p a b
theorem nt (s t:ByteArray):(s.toList==t.toList)=(bl s==bl t):=by rw[toList_eq,toList_eq]
theorem xD (p n:ByteArray) (A E:Nat):p.extract 0 A ++ n ++ p.extract A E ++ p.extract (E+n.size) p.size=bs (zr (bl p) A E (bl n)):=by
 apply oC;rw[eA,eA,eA,sT,tp,dh];rfl
theorem yk (p:ByteArray) (A E N:Nat):p.extract 0 A ++ p.extract (A+N) E ++ bs (dU N) ++ p.extract E p.size=bs (yO (bl p) A E N):=by
 apply oC;rw[eA,eA,eA,sT,tp,dh];rfl
set_option maxRecDepth 100000 in
set_option maxHeartbeats 1000000 in
theorem yn (p:ByteArray) (A:Nat) (o n:ByteArray) (w:World) (hp:p.size=512) (h1:o.size=n.size) (h2:o.size≤200) (h3:A+o.size≤512) :
 Calls Tryz.prog 205 #[.string p,.agg #[.int .i64 1,.int .i64 A,.int .i64 0,.int .i64 0,.string o,.string n]] w fun r w'=>r=.returned (.tuple #[.string (eF p ⟨1,A,0,0,o,n⟩),.bool (dc p ⟨1,A,0,0,o,n⟩)])∧Below w.heap.size w w':=by
 have hp1:p.size≤3100:=by omega
 have hp2:(A:Int)≤p.size:=by omega
 have hp3:A+n.size≤p.size:=by omega
 have hp4:(o.size:Int)≤(p.size:Int)-A:=by omega
 have ho:o.size≤3100:=by omega
 have hn:n.size≤3100:=by omega
 have HP:=Lib.hid hp;have H1:=Lib.hid h1;clear hp h1
 go_enter Tryz.func205,Tryz.ntmps205
 go_wp2_with (first | ((go_at_call 240;refine(bV _ _ _ _ o n _ ho hn).mono ?_;rintro e W1 ⟨rfl,hbW1⟩;obtain⟨hcW1,hfW1⟩:=aK hbW1);have hsW1:w.heap.size<W1.heap.size:=(by have h:=hbW1.size;simp at h;omega)))
 (refine wp_region_quiet_below (by kernel_rfl) (by kernel_rfl) ?_;(repeat (go_big_quiet_step ((first | (go_at_call 215;exact Calls.regrown_of (kS p n A _ hp1 hp3))))));(with_reducible refine wpQuiet_nil ?_);intro W2 hreg;have hbW2:=aH hreg;clear hreg;obtain⟨hcW2,hfW2⟩:=aK hbW2)
 go_wp2
 go_ret2
 exact⟨nD rfl (by rw[nt,sQ];rfl),by(repeat (first | assumption | exact Below.refl _ _ | refine au ?_ _ | refine ao ?_ _ | refine ar ?_ (by assumption) | refine Below.trans ?_ (by assumption)))⟩
set_option maxRecDepth 100000 in
set_option maxHeartbeats 1000000 in
theorem yq (p:ByteArray) (A E:Nat) (o n:ByteArray) (w:World) (hp:p.size=512) (h1:o.size=0) (h2:n.size≤200) (h3:A≤E) (h4:E+n.size≤512) :
 Calls Tryz.prog 205 #[.string p,.agg #[.int .i64 2,.int .i64 A,.int .i64 E,.int .i64 0,.string o,.string n]] w fun r w'=>r=.returned (.tuple #[.string (eF p ⟨2,A,E,0,o,n⟩),.bool (dc p ⟨2,A,E,0,o,n⟩)])∧Below w.heap.size w w':=by
 have hp1:p.size≤3100:=by omega
 have hp2:(A:Int)≤p.size:=by omega
 have hp3:E+n.size≤p.size:=by omega
 have ho:o.size≤3100:=by omega
 have hn:n.size≤3100:=by omega
 have hz0:(o ++ n).size=n.size:=by rw[ByteArray.size_append];omega
 have hz1:(p.extract 0 A ++ n).size=A+n.size:=by rw[ByteArray.size_append,ByteArray.size_extract];omega
 have hz2:(p.extract 0 A ++ n ++ p.extract A E).size=E+n.size:=by rw[ByteArray.size_append,hz1,ByteArray.size_extract];omega
 have HP:=Lib.hid hp;have H1:=Lib.hid h1;clear hp h1
 go_enter Tryz.func205,Tryz.ntmps205
 go_wp2_with (first | ((go_at_call 240;refine(bV _ _ _ _ o n _ ho hn).mono ?_;rintro e W1 ⟨rfl,hbW1⟩;obtain⟨hcW1,hfW1⟩:=aK hbW1);have hsW1:w.heap.size<W1.heap.size:=(by have h:=hbW1.size;simp at h;omega)))
 (refine wp_region_quiet_below (by kernel_rfl) (by kernel_rfl) ?_;(repeat (go_big_quiet_step ((first | (go_at_call 241;exact Calls.regrown_of (sA _ _ (by rw[ByteArray.size_extract];omega)))))));(with_reducible refine wpQuiet_nil ?_);intro W2 hreg;have hbW2:=aH hreg;clear hreg;obtain⟨hcW2,hfW2⟩:=aK hbW2)
 go_wp2
 go_ret2
 exact⟨nD (xD p n A E) (by rw[pq,←dg];rfl),by(repeat (first | assumption | exact Below.refl _ _ | refine au ?_ _ | refine ao ?_ _ | refine ar ?_ (by assumption) | refine Below.trans ?_ (by assumption)))⟩
set_option maxRecDepth 100000 in
set_option maxHeartbeats 1000000 in
theorem yF (p:ByteArray) (A E:Nat) (o n:ByteArray) (w:World) (hp:p.size=512) (h1:n.size=0) (h2:o.size≤200) (h3:A+o.size≤E) (h4:E≤512) :
 Calls Tryz.prog 205 #[.string p,.agg #[.int .i64 3,.int .i64 A,.int .i64 E,.int .i64 0,.string o,.string n]] w fun r w'=>r=.returned (.tuple #[.string (eF p ⟨3,A,E,0,o,n⟩),.bool (dc p ⟨3,A,E,0,o,n⟩)])∧Below w.heap.size w w':=by
 have hp1:p.size≤3100:=by omega
 have hp2:(A:Int)≤p.size:=by omega
 have hp3:E≤p.size:=by omega
 have hp4:(o.size:Int)≤(p.size:Int)-A:=by omega
 have ho:o.size≤3100:=by omega
 have hn:n.size≤3100:=by omega
 have hz0:(o ++ n).size=o.size:=by rw[ByteArray.size_append];omega
 have hz1:(p.extract 0 A ++ p.extract (A+o.size) E).size=E-o.size:=by rw[ByteArray.size_append,ByteArray.size_extract,ByteArray.size_extract];omega
 have hz3:(bs (dU o.size)).size=o.size:=kP _
 have hz2:(p.extract 0 A ++ p.extract (A+o.size) E ++ bs (dU o.size)).size=E:=by rw[ByteArray.size_append,hz1,hz3];omega
 have HP:=Lib.hid hp;have H1:=Lib.hid h1;clear hp h1
 go_enter Tryz.func205,Tryz.ntmps205
 go_wp2_with (first | ((go_at_call 240;refine(bV _ _ _ _ o n _ ho hn).mono ?_;rintro e W1 ⟨rfl,hbW1⟩;obtain⟨hcW1,hfW1⟩:=aK hbW1);have hsW1:w.heap.size<W1.heap.size:=(by have h:=hbW1.size;simp at h;omega)))
 (refine wp_region_quiet_below (by kernel_rfl) (by kernel_rfl) ?_;(repeat (go_big_quiet_step ((first | (go_at_call 242;exact Calls.regrown_of (uc o.size _ (by omega)))))));(with_reducible refine wpQuiet_nil ?_);intro W2 hreg;have hbW2:=aH hreg;clear hreg;obtain⟨hcW2,hfW2⟩:=aK hbW2)
 go_wp2
 go_ret2
 exact⟨nD (yk p A E o.size) (by rw[nt,sQ];rfl),by(repeat (first | assumption | exact Below.refl _ _ | refine au ?_ _ | refine ao ?_ _ | refine ar ?_ (by assumption) | refine Below.trans ?_ (by assumption)))⟩
set_option maxRecDepth 100000 in
set_option maxHeartbeats 1000000 in
theorem zJ (p:ByteArray) (A C:Nat) (o n:ByteArray) (w:World) (hp:p.size=512) (h1:o.size=0) (h2:n.size=0) (h3:A+C≤4096) :
 Calls Tryz.prog 205 #[.string p,.agg #[.int .i64 4,.int .i64 A,.int .i64 0,.int .i64 C,.string o,.string n]] w fun r w'=>r=.returned (.tuple #[.string (eF p ⟨4,A,0,C,o,n⟩),.bool (dc p ⟨4,A,0,C,o,n⟩)])∧Below w.heap.size w w':=by
 have hp1:p.size≤3100:=by omega
 have hp2:A+C≤8*p.size:=by omega
 have ho:o.size≤3100:=by omega
 have hn:n.size≤3100:=by omega
 have HP:=Lib.hid hp;clear hp h1 h2
 go_enter Tryz.func205,Tryz.ntmps205
 go_wp2_with (first | ((go_at_call 240;refine(bV _ _ _ _ o n _ ho hn).mono ?_;rintro e W1 ⟨rfl,hbW1⟩;obtain⟨hcW1,hfW1⟩:=aK hbW1);have hsW1:w.heap.size<W1.heap.size:=(by have h:=hbW1.size;simp at h;omega)) | (go_at_call 243;refine(np p A C _ hp1 hp2).mono ?_;rintro e W2 ⟨rfl,hbW2⟩;obtain⟨hcW2,hfW2⟩:=aK hbW2))
 go_ret2
 exact⟨rfl,by(repeat (first | assumption | exact Below.refl _ _ | refine au ?_ _ | refine ao ?_ _ | refine ar ?_ (by assumption) | refine Below.trans ?_ (by assumption)))⟩
set_option maxRecDepth 100000 in
set_option maxHeartbeats 1000000 in
theorem zt (p:ByteArray) (A C:Nat) (o n:ByteArray) (w:World) (hp:p.size=512) (h1:o.size=0) (h2:n.size=0) (h3:A+C≤4096) :
 Calls Tryz.prog 205 #[.string p,.agg #[.int .i64 5,.int .i64 A,.int .i64 0,.int .i64 C,.string o,.string n]] w fun r w'=>r=.returned (.tuple #[.string (eF p ⟨5,A,0,C,o,n⟩),.bool (dc p ⟨5,A,0,C,o,n⟩)])∧Below w.heap.size w w':=by
 have hp1:p.size≤3100:=by omega
 have hp2:A+C≤8*p.size:=by omega
 have ho:o.size≤3100:=by omega
 have hn:n.size≤3100:=by omega
 have HP:=Lib.hid hp;clear hp h1 h2
 go_enter Tryz.func205,Tryz.ntmps205
 go_wp2_with (first | ((go_at_call 240;refine(bV _ _ _ _ o n _ ho hn).mono ?_;rintro e W1 ⟨rfl,hbW1⟩;obtain⟨hcW1,hfW1⟩:=aK hbW1);have hsW1:w.heap.size<W1.heap.size:=(by have h:=hbW1.size;simp at h;omega)) | (go_at_call 243;refine(mD p A C _ hp1 hp2).mono ?_;rintro e W2 ⟨rfl,hbW2⟩;obtain⟨hcW2,hfW2⟩:=aK hbW2))
 go_ret2
 exact⟨rfl,by(repeat (first | assumption | exact Below.refl _ _ | refine au ?_ _ | refine ao ?_ _ | refine ar ?_ (by assumption) | refine Below.trans ?_ (by assumption)))⟩
set_option maxRecDepth 100000 in
set_option maxHeartbeats 1000000 in
theorem zK (p:ByteArray) (o n:ByteArray) (w:World) (ho:o.size≤3100) (hn:n.size≤3100) :
 Calls Tryz.prog 205 #[.string p,.agg #[.int .i64 6,.int .i64 0,.int .i64 0,.int .i64 0,.string o,.string n]] w fun r w'=>r=.returned (.tuple #[.string (eF p ⟨6,0,0,0,o,n⟩),.bool (dc p ⟨6,0,0,0,o,n⟩)])∧Below w.heap.size w w':=by
 go_enter Tryz.func205,Tryz.ntmps205
 go_wp2_with (first | ((go_at_call 240;refine(bV _ _ _ _ o n _ ho hn).mono ?_;rintro e W1 ⟨rfl,hbW1⟩;obtain⟨hcW1,hfW1⟩:=aK hbW1);have hsW1:w.heap.size<W1.heap.size:=(by have h:=hbW1.size;simp at h;omega)))
 (refine wp_region_quiet_below (by kernel_rfl) (by kernel_rfl) ?_;(repeat (go_big_quiet_step ((first | fail))));(with_reducible refine wpQuiet_nil ?_);intro W2 hreg;have hbW2:=aH hreg;clear hreg;obtain⟨hcW2,hfW2⟩:=aK hbW2)
 go_wp2
 go_ret2
 exact⟨nD rfl (by rw[nt];rfl),by(repeat (first | assumption | exact Below.refl _ _ | refine au ?_ _ | refine ao ?_ _ | refine ar ?_ (by assumption) | refine Below.trans ?_ (by assumption)))⟩
set_option maxRecDepth 100000 in
set_option maxHeartbeats 1000000 in
theorem yP (p:ByteArray) (o n:ByteArray) (w:World) (ho:o.size≤3100) (hn:n.size≤3100) :
 Calls Tryz.prog 205 #[.string p,.agg #[.int .i64 0,.int .i64 0,.int .i64 0,.int .i64 0,.string o,.string n]] w fun r w'=>r=.returned (.tuple #[.string (eF p ⟨0,0,0,0,o,n⟩),.bool (dc p ⟨0,0,0,0,o,n⟩)])∧Below w.heap.size w w':=by
 go_enter Tryz.func205,Tryz.ntmps205
 go_wp2_with (first | ((go_at_call 240;refine(bV _ _ _ _ o n _ ho hn).mono ?_;rintro e W1 ⟨rfl,hbW1⟩;obtain⟨hcW1,hfW1⟩:=aK hbW1);have hsW1:w.heap.size<W1.heap.size:=(by have h:=hbW1.size;simp at h;omega)))
 go_ret2
 exact⟨rfl,by(repeat (first | assumption | exact Below.refl _ _ | refine au ?_ _ | refine ao ?_ _ | refine ar ?_ (by assumption) | refine Below.trans ?_ (by assumption)))⟩
theorem nK (p:ByteArray) (x:Op) (w:World) (hp:p.size=512) (h:fm x) :
 Calls Tryz.prog 205 #[.string p,eQ x] w fun r w'=>r=.returned (.tuple #[.string (eF p x),.bool (dc p x)])∧Below w.heap.size w w':=by
 obtain⟨k,a,e,c,o,n⟩:=x;unfold fm at h
 dsimp only at h
 rcases h with ⟨rfl,rfl,rfl,rfl,ho,hn⟩ | ⟨rfl,rfl,rfl,hs,h1,h2,h3,h4⟩ | ⟨rfl,rfl,ho,h1,h2,h3,h4,h5⟩ | ⟨rfl,rfl,hn,h1,h2,h3,h4,h5⟩ | ⟨hk,rfl,ho,hn,h1,h2,h3,h4⟩ | ⟨rfl,rfl,rfl,rfl,ho,hn⟩
 · exact yP p o n w (by omega) (by omega)
 · obtain⟨A,rfl⟩:=Int.eq_ofNat_of_zero_le h3
   exact yn p A o n w hp hs h2 (by omega)
 · obtain⟨A,rfl⟩:=Int.eq_ofNat_of_zero_le h3
   obtain⟨E,rfl⟩:=Int.eq_ofNat_of_zero_le (show 0≤e by omega);exact yq p A E o n w hp ho h2 (by omega) (by omega)
 · obtain⟨A,rfl⟩:=Int.eq_ofNat_of_zero_le h3
   obtain⟨E,rfl⟩:=Int.eq_ofNat_of_zero_le (show 0≤e by omega);exact yF p A E o n w hp hn h2 (by omega) (by omega)
 · obtain⟨A,rfl⟩:=Int.eq_ofNat_of_zero_le h1
   obtain⟨C,rfl⟩:=Int.eq_ofNat_of_zero_le (show 0≤c by omega);rcases hk with rfl | rfl
   · exact zJ p A C o n w hp ho hn (by omega)
   · exact zt p A C o n w hp ho hn (by omega)
 · exact zK p o n w (by omega) (by omega)
open Go.RowKit
section
variable {P:Program}
theorem cL {ops:Array Oper} {rest:List Oper} {o:Oper} {a:Act} {w:World} {Q:Exit→Act→World→Prop} (hg:o.guard=none) (t:TypeId) (parts:Array (Nat × Operand)) (ho:o.op=.build t parts)
 (cells:Array Value) (hc:P.built t (parts.map fun (i,x)=>(i,a.eval x)).toList=some cells)
 (h:wpList P ops Q rest (a.put o.dst (.agg cells)) w):wpList P ops Q (o::rest) a w:=
 wpList_build hg t parts ho (by rw[hc];rfl) (by rw[hc];exact h)
end
def cE:Array Value:=#[.bool false,.bool false,.bool false,.bool false,.bool false,.bool true,.bool false,.bool false,.bool true,.bool true,
 .bool true,.bool true,.bool false,.bool false,.bool true,.bool true,.bool true,.bool false,.bool true,.bool false,.bool true,.bool false,.bool true,.bool false,.bool false,
 .bool true,.bool false,.bool true,.bool false,.bool false,.bool false,.bool false,.bool false,.bool true,.bool true]
def qn:Array Value:=Array.replicate 35 (.bool false)
theorem eS (w:World):Calls Tryz.prog 213 #[] w fun e w'=>e=.returned (.agg cE)∧Below w.heap.size w w':=by
 go_enter Tryz.func213,Tryz.ntmps213
 go_upto_region 1 with (fail)
 apply wp_region_lit;refine cL rfl 303 _ rfl #[.bool false,.bool false,.bool false,.bool false,.bool false] (by kernel_rfl) ?_;refine cL rfl 303 _ rfl #[.bool true,.bool false,.bool false,.bool true,.bool true] (by kernel_rfl) ?_;refine cL rfl 303 _ rfl #[.bool true,.bool true,.bool false,.bool false,.bool true] (by kernel_rfl) ?_;refine cL rfl 303 _ rfl #[.bool true,.bool true,.bool false,.bool true,.bool false] (by kernel_rfl) ?_;refine cL rfl 303 _ rfl #[.bool true,.bool false,.bool true,.bool false,.bool false] (by kernel_rfl) ?_;refine cL rfl 303 _ rfl #[.bool true,.bool false,.bool true,.bool false,.bool false] (by kernel_rfl) ?_;refine cL rfl 303 _ rfl #[.bool false,.bool false,.bool false,.bool true,.bool true] (by kernel_rfl) ?_;refine cL rfl 304 _ rfl cE (by kernel_rfl) ?_;refine wpList_store_row rfl 304 _ _ rfl w.heap.size cE (by kernel_rfl) (by kernel_rfl) 304 _ (heap_alloc_new w _) (by kernel_rfl) (by kernel_rfl) (by kernel_rfl) ?_;apply wpList_nil;have hr:=setRow_heap _ w.heap.size _ cE 304 (0,0) (heap_alloc_new w (.cells qn 304));have hb:=below_setRow (g:=w.heap.size) (ao (Below.refl w.heap.size w) (.cells qn 304)) (Nat.le_refl _) cE
 go_wp2
 refine bodyPost_ret (results_cell_row Tryz.results213 _ _ w.heap.size 304 _ (0,0) _ (by kernel_rfl) hr Tryz.underlying304 rfl (by kernel_rfl)) rfl ?_;exact⟨rfl,hb⟩
open Go.RowKit Go.Sort
theorem js {x:Op} {A B C D:Bool} (hk:bE x.k 0 6=true) (hA:A=bB x) (hB:B=cC x) (hC:C=(!cY x.k||decide (0<bI x))) (hD:D=(!cY x.k||decide (bI x≤200))) :
 aP [bO A 3,bO B 10,bO C 17,bO D 8,bO (cz x) 2]=dq x:=by
 unfold dq;rw[hk,if_neg (by decide),hA,hB,hC,hD]
set_option maxRecDepth 100000 in
set_option maxHeartbeats 1000000 in
theorem tN (a e c:Int) (o n:ByteArray) (w:World) (ho:o.size≤3100) (hn:n.size≤3100) :
 Calls Tryz.prog 144 #[.agg #[.int .i64 0,.int .i64 a,.int .i64 e,.int .i64 c,.string o,.string n]] w fun r w'=>r=.returned (.int .i64 (dq ⟨0,a,e,c,o,n⟩))∧Below w.heap.size w w':=by
 have hk:bE 0 0 6=true:=rfl
 have hidx:∀W,(Instr.index 304 (.agg cE) (.int .i64 0)).run Tryz.prog W=.ok (.agg #[.bool false,.bool false,.bool false,.bool false,.bool false]) W:=fun W=>by kernel_rfl
 obtain⟨Ba,hBa⟩:∃b,(a==0)=b:=⟨_,rfl⟩;obtain⟨Be,hBe⟩:∃b,(e==0)=b:=⟨_,rfl⟩;obtain⟨Bc,hBc⟩:∃b,(c==0)=b:=⟨_,rfl⟩;obtain⟨Bo,hBo⟩:∃b,o.toList.isEmpty=b:=⟨_,rfl⟩;obtain⟨Bn,hBn⟩:∃b,n.toList.isEmpty=b:=⟨_,rfl⟩
 go_enter Tryz.func144,Tryz.ntmps144
 go_wp2_with (first | (go_at_call 152;refine(aM _ _ _ _).mono ?_;rintro e w' ⟨rfl,rfl⟩))
 refine cF 4 _ (.cells #[.bool false,.bool false,.bool false,.bool false,.bool false] 303) (by kernel_rfl) (by kernel_rfl) rfl (by kernel_rfl) (fun ev X=>by kernel_rfl) ?_;apply Exists.intro;refine⟨fun X hX=>?_,?_⟩
 · obtain⟨hcX,hfX⟩:=aK hX
   have hsX:w.heap.size<X.heap.size:=by have:=hX.size;simp at this;omega
   simp only[List.take_succ_cons,List.take_zero]
   (repeat (go_big_quiet_step ((first | (go_at_call 213;exact Calls.regrown_of (eS _))))))
   exact wpQuiet_nil rfl
 · intro b1 W1 hbW1 hle hblk
   simp only[List.drop_succ_cons,List.drop_zero,Act.put,List.setIfInBounds_toArray,List.set_cons_succ,List.set_cons_zero];refine aW rfl 303 _ _ rfl rfl b1 _ rfl rfl _ hbW1 hle 303 _ hblk (by kernel_rfl) rfl (by kernel_rfl) ?_;intro W2 hb2 hbox2 _;obtain⟨hcW2,hfW2⟩:=aK hb2;have hx2:=hbox2.cells
   have hs2:w.heap.size<W2.heap.size:=by have:=hb2.size;simp at this;omega
   clear hbW1 hle hblk hidx;apply wpList_nil
   go_upto_region 4 with (fail)
   go_cut [4] (fun s4 wx=>s4=.bool (bB ⟨0,a,e,c,o,n⟩)∧W2=wx)
   case first=>
    go_wp2_with fail
    all_goals
     go_meet
     refine⟨congrArg Value.bool ?_,rfl⟩;rw[isEmpty_eq] at hBo hBn;simp only[bB,iZ,fo,dm,fe,fc,hBa,hBe,hBc,hBo,hBn]
     (try simp_all [bE])
   case rest=>
   obtain⟨rfl,rfl⟩:=hcut;obtain⟨form,hform⟩:∃b,b=bB ⟨0,a,e,c,o,n⟩:=⟨_,rfl⟩;rw[←hform];have HForm:=Lib.hid hform;clear hform
   go_upto_region 14 with (fail)
   all_goals
    go_cut [7] (fun s7 wx=>s7=.int .i64 (bI ⟨0,a,e,c,o,n⟩:Nat)∧W2=wx)
    case first=>
     go_wp2_with fail
     all_goals
      go_meet
      refine⟨congrArg (Value.int .i64) ?_,rfl⟩;simp only[bI];omega
    case rest=>
    obtain⟨rfl,rfl⟩:=hcut;obtain⟨L,hL⟩:∃b,b=bI ⟨0,a,e,c,o,n⟩:=⟨_,rfl⟩;rw[←hL];have HL:=Lib.hid hL;clear hL
    go_wp2_with fail
    (refine bh 20 (by kernel_rfl) (by kernel_rfl) ?_;simp only[List.take_succ_cons,List.take_zero,List.drop_succ_cons,List.drop_zero];(repeat (go_big_quiet_step ((first | (go_at_call 151;exact Calls.reg_pure (aN _ _ _)) | (go_at_call 214;exact Calls.regrown_of (su _ _ _ _ _ _ ho hn))))));(with_reducible refine wpQuiet_nil ?_);intro W3 hreg;have hbW3:=aH hreg;clear hreg;obtain⟨hcW3,hfW3⟩:=aK hbW3)
    go_wp2_with (first | (go_at_call 143;refine(aZ [_,_,_,_,_] W3 (by simp)).mono ?_;rintro e w' ⟨rfl,rfl⟩))
    go_ret
    refine⟨cT (js rfl HForm.out ?_ ?_ ?_),by(repeat (first | assumption | exact Below.refl _ _ | refine au ?_ _ | refine ao ?_ _ | refine ar ?_ (by assumption) | refine Below.trans ?_ (by assumption)))⟩
    all_goals
     (try rw[←HL.out])
     (try simp only[isEmpty_eq,et])
     rw[Bool.eq_iff_iff]
     (try simp[cC,cY,bE,-ByteArray.size_eq_zero_iff])
     (try omega)
set_option maxRecDepth 100000 in
set_option maxHeartbeats 1000000 in
theorem tM (a e c:Int) (o n:ByteArray) (w:World) (ho:o.size≤3100) (hn:n.size≤3100) :
 Calls Tryz.prog 144 #[.agg #[.int .i64 1,.int .i64 a,.int .i64 e,.int .i64 c,.string o,.string n]] w fun r w'=>r=.returned (.int .i64 (dq ⟨1,a,e,c,o,n⟩))∧Below w.heap.size w w':=by
 have hk:bE 1 0 6=true:=rfl
 have hidx:∀W,(Instr.index 304 (.agg cE) (.int .i64 1)).run Tryz.prog W=.ok (.agg #[.bool true,.bool false,.bool false,.bool true,.bool true]) W:=fun W=>by kernel_rfl
 obtain⟨Ba,hBa⟩:∃b,(a==0)=b:=⟨_,rfl⟩;obtain⟨Be,hBe⟩:∃b,(e==0)=b:=⟨_,rfl⟩;obtain⟨Bc,hBc⟩:∃b,(c==0)=b:=⟨_,rfl⟩;obtain⟨Bo,hBo⟩:∃b,o.toList.isEmpty=b:=⟨_,rfl⟩;obtain⟨Bn,hBn⟩:∃b,n.toList.isEmpty=b:=⟨_,rfl⟩
 go_enter Tryz.func144,Tryz.ntmps144
 go_wp2_with (first | (go_at_call 152;refine(aM _ _ _ _).mono ?_;rintro e w' ⟨rfl,rfl⟩))
 refine cF 4 _ (.cells #[.bool false,.bool false,.bool false,.bool false,.bool false] 303) (by kernel_rfl) (by kernel_rfl) rfl (by kernel_rfl) (fun ev X=>by kernel_rfl) ?_;apply Exists.intro;refine⟨fun X hX=>?_,?_⟩
 · obtain⟨hcX,hfX⟩:=aK hX
   have hsX:w.heap.size<X.heap.size:=by have:=hX.size;simp at this;omega
   simp only[List.take_succ_cons,List.take_zero]
   (repeat (go_big_quiet_step ((first | (go_at_call 213;exact Calls.regrown_of (eS _))))))
   exact wpQuiet_nil rfl
 · intro b1 W1 hbW1 hle hblk
   simp only[List.drop_succ_cons,List.drop_zero,Act.put,List.setIfInBounds_toArray,List.set_cons_succ,List.set_cons_zero];refine aW rfl 303 _ _ rfl rfl b1 _ rfl rfl _ hbW1 hle 303 _ hblk (by kernel_rfl) rfl (by kernel_rfl) ?_;intro W2 hb2 hbox2 _;obtain⟨hcW2,hfW2⟩:=aK hb2;have hx2:=hbox2.cells
   have hs2:w.heap.size<W2.heap.size:=by have:=hb2.size;simp at this;omega
   clear hbW1 hle hblk hidx;apply wpList_nil
   go_upto_region 4 with (fail)
   go_cut [4] (fun s4 wx=>s4=.bool (bB ⟨1,a,e,c,o,n⟩)∧W2=wx)
   case first=>
    go_wp2_with fail
    all_goals
     go_meet
     refine⟨congrArg Value.bool ?_,rfl⟩;rw[isEmpty_eq] at hBo hBn;simp only[bB,iZ,fo,dm,fe,fc,hBa,hBe,hBc,hBo,hBn]
     (try simp_all [bE])
   case rest=>
   obtain⟨rfl,rfl⟩:=hcut;obtain⟨form,hform⟩:∃b,b=bB ⟨1,a,e,c,o,n⟩:=⟨_,rfl⟩;rw[←hform];have HForm:=Lib.hid hform;clear hform
   go_upto_region 14 with (fail)
   all_goals
    go_cut [7] (fun s7 wx=>s7=.int .i64 (bI ⟨1,a,e,c,o,n⟩:Nat)∧W2=wx)
    case first=>
     go_wp2_with fail
     all_goals
      go_meet
      refine⟨congrArg (Value.int .i64) ?_,rfl⟩;simp only[bI];omega
    case rest=>
    obtain⟨rfl,rfl⟩:=hcut;obtain⟨L,hL⟩:∃b,b=bI ⟨1,a,e,c,o,n⟩:=⟨_,rfl⟩;rw[←hL];have HL:=Lib.hid hL;clear hL
    go_wp2_with fail
    (refine bh 20 (by kernel_rfl) (by kernel_rfl) ?_;simp only[List.take_succ_cons,List.take_zero,List.drop_succ_cons,List.drop_zero];(repeat (go_big_quiet_step ((first | (go_at_call 151;exact Calls.reg_pure (aN _ _ _)) | (go_at_call 214;exact Calls.regrown_of (r7 _ _ _ _ _ _ ho hn))))));(with_reducible refine wpQuiet_nil ?_);intro W3 hreg;have hbW3:=aH hreg;clear hreg;obtain⟨hcW3,hfW3⟩:=aK hbW3)
    go_wp2_with (first | (go_at_call 143;refine(aZ [_,_,_,_,_] W3 (by simp)).mono ?_;rintro e w' ⟨rfl,rfl⟩))
    go_ret
    refine⟨cT (js rfl HForm.out ?_ ?_ ?_),by(repeat (first | assumption | exact Below.refl _ _ | refine au ?_ _ | refine ao ?_ _ | refine ar ?_ (by assumption) | refine Below.trans ?_ (by assumption)))⟩
    all_goals
     (try rw[←HL.out])
     (try simp only[isEmpty_eq,et])
     rw[Bool.eq_iff_iff]
     (try simp[cC,cY,bE,-ByteArray.size_eq_zero_iff])
     (try omega)
set_option maxRecDepth 100000 in
set_option maxHeartbeats 1000000 in
theorem vb (a e c:Int) (o n:ByteArray) (w:World) (ho:o.size≤3100) (hn:n.size≤3100) :
 Calls Tryz.prog 144 #[.agg #[.int .i64 2,.int .i64 a,.int .i64 e,.int .i64 c,.string o,.string n]] w fun r w'=>r=.returned (.int .i64 (dq ⟨2,a,e,c,o,n⟩))∧Below w.heap.size w w':=by
 have hk:bE 2 0 6=true:=rfl
 have hidx:∀W,(Instr.index 304 (.agg cE) (.int .i64 2)).run Tryz.prog W=.ok (.agg #[.bool true,.bool true,.bool false,.bool false,.bool true]) W:=fun W=>by kernel_rfl
 obtain⟨Ba,hBa⟩:∃b,(a==0)=b:=⟨_,rfl⟩;obtain⟨Be,hBe⟩:∃b,(e==0)=b:=⟨_,rfl⟩;obtain⟨Bc,hBc⟩:∃b,(c==0)=b:=⟨_,rfl⟩;obtain⟨Bo,hBo⟩:∃b,o.toList.isEmpty=b:=⟨_,rfl⟩;obtain⟨Bn,hBn⟩:∃b,n.toList.isEmpty=b:=⟨_,rfl⟩
 go_enter Tryz.func144,Tryz.ntmps144
 go_wp2_with (first | (go_at_call 152;refine(aM _ _ _ _).mono ?_;rintro e w' ⟨rfl,rfl⟩))
 refine cF 4 _ (.cells #[.bool false,.bool false,.bool false,.bool false,.bool false] 303) (by kernel_rfl) (by kernel_rfl) rfl (by kernel_rfl) (fun ev X=>by kernel_rfl) ?_;apply Exists.intro;refine⟨fun X hX=>?_,?_⟩
 · obtain⟨hcX,hfX⟩:=aK hX
   have hsX:w.heap.size<X.heap.size:=by have:=hX.size;simp at this;omega
   simp only[List.take_succ_cons,List.take_zero]
   (repeat (go_big_quiet_step ((first | (go_at_call 213;exact Calls.regrown_of (eS _))))))
   exact wpQuiet_nil rfl
 · intro b1 W1 hbW1 hle hblk
   simp only[List.drop_succ_cons,List.drop_zero,Act.put,List.setIfInBounds_toArray,List.set_cons_succ,List.set_cons_zero];refine aW rfl 303 _ _ rfl rfl b1 _ rfl rfl _ hbW1 hle 303 _ hblk (by kernel_rfl) rfl (by kernel_rfl) ?_;intro W2 hb2 hbox2 _;obtain⟨hcW2,hfW2⟩:=aK hb2;have hx2:=hbox2.cells
   have hs2:w.heap.size<W2.heap.size:=by have:=hb2.size;simp at this;omega
   clear hbW1 hle hblk hidx;apply wpList_nil
   go_upto_region 4 with (fail)
   go_cut [4] (fun s4 wx=>s4=.bool (bB ⟨2,a,e,c,o,n⟩)∧W2=wx)
   case first=>
    go_wp2_with fail
    all_goals
     go_meet
     refine⟨congrArg Value.bool ?_,rfl⟩;rw[isEmpty_eq] at hBo hBn;simp only[bB,iZ,fo,dm,fe,fc,hBa,hBe,hBc,hBo,hBn]
     (try simp_all [bE])
   case rest=>
   obtain⟨rfl,rfl⟩:=hcut;obtain⟨form,hform⟩:∃b,b=bB ⟨2,a,e,c,o,n⟩:=⟨_,rfl⟩;rw[←hform];have HForm:=Lib.hid hform;clear hform
   go_upto_region 14 with (fail)
   all_goals
    go_cut [7] (fun s7 wx=>s7=.int .i64 (bI ⟨2,a,e,c,o,n⟩:Nat)∧W2=wx)
    case first=>
     go_wp2_with fail
     all_goals
      go_meet
      refine⟨congrArg (Value.int .i64) ?_,rfl⟩;simp only[bI];omega
    case rest=>
    obtain⟨rfl,rfl⟩:=hcut;obtain⟨L,hL⟩:∃b,b=bI ⟨2,a,e,c,o,n⟩:=⟨_,rfl⟩;rw[←hL];have HL:=Lib.hid hL;clear hL
    go_wp2_with fail
    (refine bh 20 (by kernel_rfl) (by kernel_rfl) ?_;simp only[List.take_succ_cons,List.take_zero,List.drop_succ_cons,List.drop_zero];(repeat (go_big_quiet_step ((first | (go_at_call 151;exact Calls.reg_pure (aN _ _ _)) | (go_at_call 214;exact Calls.regrown_of (sq _ _ _ _ _ _ ho hn))))));(with_reducible refine wpQuiet_nil ?_);intro W3 hreg;have hbW3:=aH hreg;clear hreg;obtain⟨hcW3,hfW3⟩:=aK hbW3)
    go_wp2_with (first | (go_at_call 143;refine(aZ [_,_,_,_,_] W3 (by simp)).mono ?_;rintro e w' ⟨rfl,rfl⟩))
    go_ret
    refine⟨cT (js rfl HForm.out ?_ ?_ ?_),by(repeat (first | assumption | exact Below.refl _ _ | refine au ?_ _ | refine ao ?_ _ | refine ar ?_ (by assumption) | refine Below.trans ?_ (by assumption)))⟩
    all_goals
     (try rw[←HL.out])
     (try simp only[isEmpty_eq,et])
     rw[Bool.eq_iff_iff]
     (try simp[cC,cY,bE,-ByteArray.size_eq_zero_iff])
     (try omega)
set_option maxRecDepth 100000 in
set_option maxHeartbeats 1000000 in
theorem tV (a e c:Int) (o n:ByteArray) (w:World) (ho:o.size≤3100) (hn:n.size≤3100) :
 Calls Tryz.prog 144 #[.agg #[.int .i64 3,.int .i64 a,.int .i64 e,.int .i64 c,.string o,.string n]] w fun r w'=>r=.returned (.int .i64 (dq ⟨3,a,e,c,o,n⟩))∧Below w.heap.size w w':=by
 have hk:bE 3 0 6=true:=rfl
 have hidx:∀W,(Instr.index 304 (.agg cE) (.int .i64 3)).run Tryz.prog W=.ok (.agg #[.bool true,.bool true,.bool false,.bool true,.bool false]) W:=fun W=>by kernel_rfl
 obtain⟨Ba,hBa⟩:∃b,(a==0)=b:=⟨_,rfl⟩;obtain⟨Be,hBe⟩:∃b,(e==0)=b:=⟨_,rfl⟩;obtain⟨Bc,hBc⟩:∃b,(c==0)=b:=⟨_,rfl⟩;obtain⟨Bo,hBo⟩:∃b,o.toList.isEmpty=b:=⟨_,rfl⟩;obtain⟨Bn,hBn⟩:∃b,n.toList.isEmpty=b:=⟨_,rfl⟩
 go_enter Tryz.func144,Tryz.ntmps144
 go_wp2_with (first | (go_at_call 152;refine(aM _ _ _ _).mono ?_;rintro e w' ⟨rfl,rfl⟩))
 refine cF 4 _ (.cells #[.bool false,.bool false,.bool false,.bool false,.bool false] 303) (by kernel_rfl) (by kernel_rfl) rfl (by kernel_rfl) (fun ev X=>by kernel_rfl) ?_;apply Exists.intro;refine⟨fun X hX=>?_,?_⟩
 · obtain⟨hcX,hfX⟩:=aK hX
   have hsX:w.heap.size<X.heap.size:=by have:=hX.size;simp at this;omega
   simp only[List.take_succ_cons,List.take_zero]
   (repeat (go_big_quiet_step ((first | (go_at_call 213;exact Calls.regrown_of (eS _))))))
   exact wpQuiet_nil rfl
 · intro b1 W1 hbW1 hle hblk
   simp only[List.drop_succ_cons,List.drop_zero,Act.put,List.setIfInBounds_toArray,List.set_cons_succ,List.set_cons_zero];refine aW rfl 303 _ _ rfl rfl b1 _ rfl rfl _ hbW1 hle 303 _ hblk (by kernel_rfl) rfl (by kernel_rfl) ?_;intro W2 hb2 hbox2 _;obtain⟨hcW2,hfW2⟩:=aK hb2;have hx2:=hbox2.cells
   have hs2:w.heap.size<W2.heap.size:=by have:=hb2.size;simp at this;omega
   clear hbW1 hle hblk hidx;apply wpList_nil
   go_upto_region 4 with (fail)
   go_cut [4] (fun s4 wx=>s4=.bool (bB ⟨3,a,e,c,o,n⟩)∧W2=wx)
   case first=>
    go_wp2_with fail
    all_goals
     go_meet
     refine⟨congrArg Value.bool ?_,rfl⟩;rw[isEmpty_eq] at hBo hBn;simp only[bB,iZ,fo,dm,fe,fc,hBa,hBe,hBc,hBo,hBn]
     (try simp_all [bE])
   case rest=>
   obtain⟨rfl,rfl⟩:=hcut;obtain⟨form,hform⟩:∃b,b=bB ⟨3,a,e,c,o,n⟩:=⟨_,rfl⟩;rw[←hform];have HForm:=Lib.hid hform;clear hform
   go_upto_region 14 with (fail)
   all_goals
    go_cut [7] (fun s7 wx=>s7=.int .i64 (bI ⟨3,a,e,c,o,n⟩:Nat)∧W2=wx)
    case first=>
     go_wp2_with fail
     all_goals
      go_meet
      refine⟨congrArg (Value.int .i64) ?_,rfl⟩;simp only[bI];omega
    case rest=>
    obtain⟨rfl,rfl⟩:=hcut;obtain⟨L,hL⟩:∃b,b=bI ⟨3,a,e,c,o,n⟩:=⟨_,rfl⟩;rw[←hL];have HL:=Lib.hid hL;clear hL
    go_wp2_with fail
    (refine bh 20 (by kernel_rfl) (by kernel_rfl) ?_;simp only[List.take_succ_cons,List.take_zero,List.drop_succ_cons,List.drop_zero];(repeat (go_big_quiet_step ((first | (go_at_call 151;exact Calls.reg_pure (aN _ _ _)) | (go_at_call 214;exact Calls.regrown_of (sx _ _ _ _ _ _ ho hn))))));(with_reducible refine wpQuiet_nil ?_);intro W3 hreg;have hbW3:=aH hreg;clear hreg;obtain⟨hcW3,hfW3⟩:=aK hbW3)
    go_wp2_with (first | (go_at_call 143;refine(aZ [_,_,_,_,_] W3 (by simp)).mono ?_;rintro e w' ⟨rfl,rfl⟩))
    go_ret
    refine⟨cT (js rfl HForm.out ?_ ?_ ?_),by(repeat (first | assumption | exact Below.refl _ _ | refine au ?_ _ | refine ao ?_ _ | refine ar ?_ (by assumption) | refine Below.trans ?_ (by assumption)))⟩
    all_goals
     (try rw[←HL.out])
     (try simp only[isEmpty_eq,et])
     rw[Bool.eq_iff_iff]
     (try simp[cC,cY,bE,-ByteArray.size_eq_zero_iff])
     (try omega)
set_option maxRecDepth 100000 in
set_option maxHeartbeats 1000000 in
theorem vn (a e c:Int) (o n:ByteArray) (w:World) (ho:o.size≤3100) (hn:n.size≤3100) :
 Calls Tryz.prog 144 #[.agg #[.int .i64 4,.int .i64 a,.int .i64 e,.int .i64 c,.string o,.string n]] w fun r w'=>r=.returned (.int .i64 (dq ⟨4,a,e,c,o,n⟩))∧Below w.heap.size w w':=by
 have hk:bE 4 0 6=true:=rfl
 have hidx:∀W,(Instr.index 304 (.agg cE) (.int .i64 4)).run Tryz.prog W=.ok (.agg #[.bool true,.bool false,.bool true,.bool false,.bool false]) W:=fun W=>by kernel_rfl
 obtain⟨Ba,hBa⟩:∃b,(a==0)=b:=⟨_,rfl⟩;obtain⟨Be,hBe⟩:∃b,(e==0)=b:=⟨_,rfl⟩;obtain⟨Bc,hBc⟩:∃b,(c==0)=b:=⟨_,rfl⟩;obtain⟨Bo,hBo⟩:∃b,o.toList.isEmpty=b:=⟨_,rfl⟩;obtain⟨Bn,hBn⟩:∃b,n.toList.isEmpty=b:=⟨_,rfl⟩
 go_enter Tryz.func144,Tryz.ntmps144
 go_wp2_with (first | (go_at_call 152;refine(aM _ _ _ _).mono ?_;rintro e w' ⟨rfl,rfl⟩))
 refine cF 4 _ (.cells #[.bool false,.bool false,.bool false,.bool false,.bool false] 303) (by kernel_rfl) (by kernel_rfl) rfl (by kernel_rfl) (fun ev X=>by kernel_rfl) ?_;apply Exists.intro;refine⟨fun X hX=>?_,?_⟩
 · obtain⟨hcX,hfX⟩:=aK hX
   have hsX:w.heap.size<X.heap.size:=by have:=hX.size;simp at this;omega
   simp only[List.take_succ_cons,List.take_zero]
   (repeat (go_big_quiet_step ((first | (go_at_call 213;exact Calls.regrown_of (eS _))))))
   exact wpQuiet_nil rfl
 · intro b1 W1 hbW1 hle hblk
   simp only[List.drop_succ_cons,List.drop_zero,Act.put,List.setIfInBounds_toArray,List.set_cons_succ,List.set_cons_zero];refine aW rfl 303 _ _ rfl rfl b1 _ rfl rfl _ hbW1 hle 303 _ hblk (by kernel_rfl) rfl (by kernel_rfl) ?_;intro W2 hb2 hbox2 _;obtain⟨hcW2,hfW2⟩:=aK hb2;have hx2:=hbox2.cells
   have hs2:w.heap.size<W2.heap.size:=by have:=hb2.size;simp at this;omega
   clear hbW1 hle hblk hidx;apply wpList_nil
   go_upto_region 4 with (fail)
   go_cut [4] (fun s4 wx=>s4=.bool (bB ⟨4,a,e,c,o,n⟩)∧W2=wx)
   case first=>
    go_wp2_with fail
    all_goals
     go_meet
     refine⟨congrArg Value.bool ?_,rfl⟩;rw[isEmpty_eq] at hBo hBn;simp only[bB,iZ,fo,dm,fe,fc,hBa,hBe,hBc,hBo,hBn]
     (try simp_all [bE])
   case rest=>
   obtain⟨rfl,rfl⟩:=hcut;obtain⟨form,hform⟩:∃b,b=bB ⟨4,a,e,c,o,n⟩:=⟨_,rfl⟩;rw[←hform];have HForm:=Lib.hid hform;clear hform
   go_upto_region 14 with (fail)
   all_goals
    go_cut [7] (fun s7 wx=>s7=.int .i64 (bI ⟨4,a,e,c,o,n⟩:Nat)∧W2=wx)
    case first=>
     go_wp2_with fail
     all_goals
      go_meet
      refine⟨congrArg (Value.int .i64) ?_,rfl⟩;simp only[bI];omega
    case rest=>
    obtain⟨rfl,rfl⟩:=hcut;obtain⟨L,hL⟩:∃b,b=bI ⟨4,a,e,c,o,n⟩:=⟨_,rfl⟩;rw[←hL];have HL:=Lib.hid hL;clear hL
    go_wp2_with fail
    (refine bh 20 (by kernel_rfl) (by kernel_rfl) ?_;simp only[List.take_succ_cons,List.take_zero,List.drop_succ_cons,List.drop_zero];(repeat (go_big_quiet_step ((first | (go_at_call 151;exact Calls.reg_pure (aN _ _ _)) | (go_at_call 214;exact Calls.regrown_of (sg _ _ _ _ _ _ ho hn))))));(with_reducible refine wpQuiet_nil ?_);intro W3 hreg;have hbW3:=aH hreg;clear hreg;obtain⟨hcW3,hfW3⟩:=aK hbW3)
    go_wp2_with (first | (go_at_call 143;refine(aZ [_,_,_,_,_] W3 (by simp)).mono ?_;rintro e w' ⟨rfl,rfl⟩))
    go_ret
    refine⟨cT (js rfl HForm.out ?_ ?_ ?_),by(repeat (first | assumption | exact Below.refl _ _ | refine au ?_ _ | refine ao ?_ _ | refine ar ?_ (by assumption) | refine Below.trans ?_ (by assumption)))⟩
    all_goals
     (try rw[←HL.out])
     (try simp only[isEmpty_eq,et])
     rw[Bool.eq_iff_iff]
     (try simp[cC,cY,bE,-ByteArray.size_eq_zero_iff])
     (try omega)
set_option maxRecDepth 100000 in
set_option maxHeartbeats 1000000 in
theorem ue (a e c:Int) (o n:ByteArray) (w:World) (ho:o.size≤3100) (hn:n.size≤3100) :
 Calls Tryz.prog 144 #[.agg #[.int .i64 5,.int .i64 a,.int .i64 e,.int .i64 c,.string o,.string n]] w fun r w'=>r=.returned (.int .i64 (dq ⟨5,a,e,c,o,n⟩))∧Below w.heap.size w w':=by
 have hk:bE 5 0 6=true:=rfl
 have hidx:∀W,(Instr.index 304 (.agg cE) (.int .i64 5)).run Tryz.prog W=.ok (.agg #[.bool true,.bool false,.bool true,.bool false,.bool false]) W:=fun W=>by kernel_rfl
 obtain⟨Ba,hBa⟩:∃b,(a==0)=b:=⟨_,rfl⟩;obtain⟨Be,hBe⟩:∃b,(e==0)=b:=⟨_,rfl⟩;obtain⟨Bc,hBc⟩:∃b,(c==0)=b:=⟨_,rfl⟩;obtain⟨Bo,hBo⟩:∃b,o.toList.isEmpty=b:=⟨_,rfl⟩;obtain⟨Bn,hBn⟩:∃b,n.toList.isEmpty=b:=⟨_,rfl⟩
 go_enter Tryz.func144,Tryz.ntmps144
 go_wp2_with (first | (go_at_call 152;refine(aM _ _ _ _).mono ?_;rintro e w' ⟨rfl,rfl⟩))
 refine cF 4 _ (.cells #[.bool false,.bool false,.bool false,.bool false,.bool false] 303) (by kernel_rfl) (by kernel_rfl) rfl (by kernel_rfl) (fun ev X=>by kernel_rfl) ?_;apply Exists.intro;refine⟨fun X hX=>?_,?_⟩
 · obtain⟨hcX,hfX⟩:=aK hX
   have hsX:w.heap.size<X.heap.size:=by have:=hX.size;simp at this;omega
   simp only[List.take_succ_cons,List.take_zero]
   (repeat (go_big_quiet_step ((first | (go_at_call 213;exact Calls.regrown_of (eS _))))))
   exact wpQuiet_nil rfl
 · intro b1 W1 hbW1 hle hblk
   simp only[List.drop_succ_cons,List.drop_zero,Act.put,List.setIfInBounds_toArray,List.set_cons_succ,List.set_cons_zero];refine aW rfl 303 _ _ rfl rfl b1 _ rfl rfl _ hbW1 hle 303 _ hblk (by kernel_rfl) rfl (by kernel_rfl) ?_;intro W2 hb2 hbox2 _;obtain⟨hcW2,hfW2⟩:=aK hb2;have hx2:=hbox2.cells
   have hs2:w.heap.size<W2.heap.size:=by have:=hb2.size;simp at this;omega
   clear hbW1 hle hblk hidx;apply wpList_nil
   go_upto_region 4 with (fail)
   go_cut [4] (fun s4 wx=>s4=.bool (bB ⟨5,a,e,c,o,n⟩)∧W2=wx)
   case first=>
    go_wp2_with fail
    all_goals
     go_meet
     refine⟨congrArg Value.bool ?_,rfl⟩;rw[isEmpty_eq] at hBo hBn;simp only[bB,iZ,fo,dm,fe,fc,hBa,hBe,hBc,hBo,hBn]
     (try simp_all [bE])
   case rest=>
   obtain⟨rfl,rfl⟩:=hcut;obtain⟨form,hform⟩:∃b,b=bB ⟨5,a,e,c,o,n⟩:=⟨_,rfl⟩;rw[←hform];have HForm:=Lib.hid hform;clear hform
   go_upto_region 14 with (fail)
   all_goals
    go_cut [7] (fun s7 wx=>s7=.int .i64 (bI ⟨5,a,e,c,o,n⟩:Nat)∧W2=wx)
    case first=>
     go_wp2_with fail
     all_goals
      go_meet
      refine⟨congrArg (Value.int .i64) ?_,rfl⟩;simp only[bI];omega
    case rest=>
    obtain⟨rfl,rfl⟩:=hcut;obtain⟨L,hL⟩:∃b,b=bI ⟨5,a,e,c,o,n⟩:=⟨_,rfl⟩;rw[←hL];have HL:=Lib.hid hL;clear hL
    go_wp2_with fail
    (refine bh 20 (by kernel_rfl) (by kernel_rfl) ?_;simp only[List.take_succ_cons,List.take_zero,List.drop_succ_cons,List.drop_zero];(repeat (go_big_quiet_step ((first | (go_at_call 151;exact Calls.reg_pure (aN _ _ _)) | (go_at_call 214;exact Calls.regrown_of (sd _ _ _ _ _ _ ho hn))))));(with_reducible refine wpQuiet_nil ?_);intro W3 hreg;have hbW3:=aH hreg;clear hreg;obtain⟨hcW3,hfW3⟩:=aK hbW3)
    go_wp2_with (first | (go_at_call 143;refine(aZ [_,_,_,_,_] W3 (by simp)).mono ?_;rintro e w' ⟨rfl,rfl⟩))
    go_ret
    refine⟨cT (js rfl HForm.out ?_ ?_ ?_),by(repeat (first | assumption | exact Below.refl _ _ | refine au ?_ _ | refine ao ?_ _ | refine ar ?_ (by assumption) | refine Below.trans ?_ (by assumption)))⟩
    all_goals
     (try rw[←HL.out])
     (try simp only[isEmpty_eq,et])
     rw[Bool.eq_iff_iff]
     (try simp[cC,cY,bE,-ByteArray.size_eq_zero_iff])
     (try omega)
set_option maxRecDepth 100000 in
set_option maxHeartbeats 1000000 in
theorem uB (a e c:Int) (o n:ByteArray) (w:World) (ho:o.size≤3100) (hn:n.size≤3100) :
 Calls Tryz.prog 144 #[.agg #[.int .i64 6,.int .i64 a,.int .i64 e,.int .i64 c,.string o,.string n]] w fun r w'=>r=.returned (.int .i64 (dq ⟨6,a,e,c,o,n⟩))∧Below w.heap.size w w':=by
 have hk:bE 6 0 6=true:=rfl
 have hidx:∀W,(Instr.index 304 (.agg cE) (.int .i64 6)).run Tryz.prog W=.ok (.agg #[.bool false,.bool false,.bool false,.bool true,.bool true]) W:=fun W=>by kernel_rfl
 obtain⟨Ba,hBa⟩:∃b,(a==0)=b:=⟨_,rfl⟩;obtain⟨Be,hBe⟩:∃b,(e==0)=b:=⟨_,rfl⟩;obtain⟨Bc,hBc⟩:∃b,(c==0)=b:=⟨_,rfl⟩;obtain⟨Bo,hBo⟩:∃b,o.toList.isEmpty=b:=⟨_,rfl⟩;obtain⟨Bn,hBn⟩:∃b,n.toList.isEmpty=b:=⟨_,rfl⟩
 go_enter Tryz.func144,Tryz.ntmps144
 go_wp2_with (first | (go_at_call 152;refine(aM _ _ _ _).mono ?_;rintro e w' ⟨rfl,rfl⟩))
 refine cF 4 _ (.cells #[.bool false,.bool false,.bool false,.bool false,.bool false] 303) (by kernel_rfl) (by kernel_rfl) rfl (by kernel_rfl) (fun ev X=>by kernel_rfl) ?_;apply Exists.intro;refine⟨fun X hX=>?_,?_⟩
 · obtain⟨hcX,hfX⟩:=aK hX
   have hsX:w.heap.size<X.heap.size:=by have:=hX.size;simp at this;omega
   simp only[List.take_succ_cons,List.take_zero]
   (repeat (go_big_quiet_step ((first | (go_at_call 213;exact Calls.regrown_of (eS _))))))
   exact wpQuiet_nil rfl
 · intro b1 W1 hbW1 hle hblk
   simp only[List.drop_succ_cons,List.drop_zero,Act.put,List.setIfInBounds_toArray,List.set_cons_succ,List.set_cons_zero];refine aW rfl 303 _ _ rfl rfl b1 _ rfl rfl _ hbW1 hle 303 _ hblk (by kernel_rfl) rfl (by kernel_rfl) ?_;intro W2 hb2 hbox2 _;obtain⟨hcW2,hfW2⟩:=aK hb2;have hx2:=hbox2.cells
   have hs2:w.heap.size<W2.heap.size:=by have:=hb2.size;simp at this;omega
   clear hbW1 hle hblk hidx;apply wpList_nil
   go_upto_region 4 with (fail)
   go_cut [4] (fun s4 wx=>s4=.bool (bB ⟨6,a,e,c,o,n⟩)∧W2=wx)
   case first=>
    go_wp2_with fail
    all_goals
     go_meet
     refine⟨congrArg Value.bool ?_,rfl⟩;rw[isEmpty_eq] at hBo hBn;simp only[bB,iZ,fo,dm,fe,fc,hBa,hBe,hBc,hBo,hBn]
     (try simp_all [bE])
   case rest=>
   obtain⟨rfl,rfl⟩:=hcut;obtain⟨form,hform⟩:∃b,b=bB ⟨6,a,e,c,o,n⟩:=⟨_,rfl⟩;rw[←hform];have HForm:=Lib.hid hform;clear hform
   go_upto_region 14 with (fail)
   all_goals
    go_cut [7] (fun s7 wx=>s7=.int .i64 (bI ⟨6,a,e,c,o,n⟩:Nat)∧W2=wx)
    case first=>
     go_wp2_with fail
     all_goals
      go_meet
      refine⟨congrArg (Value.int .i64) ?_,rfl⟩;simp only[bI];omega
    case rest=>
    obtain⟨rfl,rfl⟩:=hcut;obtain⟨L,hL⟩:∃b,b=bI ⟨6,a,e,c,o,n⟩:=⟨_,rfl⟩;rw[←hL];have HL:=Lib.hid hL;clear hL
    go_wp2_with fail
    (refine bh 20 (by kernel_rfl) (by kernel_rfl) ?_;simp only[List.take_succ_cons,List.take_zero,List.drop_succ_cons,List.drop_zero];(repeat (go_big_quiet_step ((first | (go_at_call 151;exact Calls.reg_pure (aN _ _ _)) | (go_at_call 214;exact Calls.regrown_of (sR _ _ _ _ _ _ ho hn))))));(with_reducible refine wpQuiet_nil ?_);intro W3 hreg;have hbW3:=aH hreg;clear hreg;obtain⟨hcW3,hfW3⟩:=aK hbW3)
    go_wp2_with (first | (go_at_call 143;refine(aZ [_,_,_,_,_] W3 (by simp)).mono ?_;rintro e w' ⟨rfl,rfl⟩))
    go_ret
    refine⟨cT (js rfl HForm.out ?_ ?_ ?_),by(repeat (first | assumption | exact Below.refl _ _ | refine au ?_ _ | refine ao ?_ _ | refine ar ?_ (by assumption) | refine Below.trans ?_ (by assumption)))⟩
    all_goals
     (try rw[←HL.out])
     (try simp only[isEmpty_eq,et])
     rw[Bool.eq_iff_iff]
     (try simp[cC,cY,bE,-ByteArray.size_eq_zero_iff])
     (try omega)
end Go.Proofs.YtcfdpfmchchkaaaGreatDoor
