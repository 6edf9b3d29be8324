/-
  Chapter 21: the page after an operation, and whether it fits: apply; Applied and Fits of the reference.
  Chapter 21: kinds, the table of the fields of operations.
  Chapter 21: CheckOp, kind by kind.
-/
import Derived.Test.YtcfdpfmchchkaaaGreatDoorOpC
import Derived.Handy
import Derived.Deep.DeepCutAuto
namespace Go.Proofs.YtcfdpfmchchkaaaGreatDoor
set_option maxRecDepth 100000
set_option maxHeartbeats 1000000
set_option linter.unusedVariables false
set_option linter.unusedSimpArgs false
open Go.RowKit Go.Sort
theorem uO (p:ByteArray) (a:Nat):bl (p.extract 0 a)=(bl p).take a:=by rw[bD,List.drop_zero]
theorem uC (p:ByteArray) (a:Nat):bl (p.extract a p.size)=(bl p).drop a:=by rw[bD,←aW,List.take_length]
theorem CZ (p:ByteArray) (a b:Nat):bl (p.extract a b)=eJ (bl p) a b:=bD p a b
theorem yt (s t:ByteArray):(s.toList==t.toList)=(bl s==bl t):=by rw[toList_eq,toList_eq]
theorem CM (p n:ByteArray) (A E:Nat):p.extract 0 A ++ n ++ p.extract A E ++ p.extract (E+n.size) p.size=bs (BB (bl p) A E (bl n)):=by
 apply jS;rw[ej,ej,ej,uO,uC,bD];rfl
theorem CF (p:ByteArray) (A E N:Nat):p.extract 0 A ++ p.extract (A+N) E ++ bs (bX N) ++ p.extract E p.size=bs (BY (bl p) A E N):=by
 apply jS;rw[ej,ej,ej,uO,uC,bD];rfl
theorem BI (p:ByteArray) (A:Nat) (o n:ByteArray) (w:World) (hp:p.size=512) (h1:o.size=n.size) (h2:o.size≤200) (h3:A+o.size≤512) :
 Calls Tryz.prog 205 #[.string p,.agg #[.int .i64 1,.int .i64 A,.int .i64 0,.int .i64 0,.string o,.string n]] w fun r w'=>r=.returned (.tuple #[.string (gq p ⟨1,A,0,0,o,n⟩),.bool (fe p ⟨1,A,0,0,o,n⟩)])∧Below w.heap.size w w':=by
 have hp1:p.size≤3100:=by omega
 have hp2:(A:Int)≤p.size:=by omega
 have hp3:A+n.size≤p.size:=by omega
 have hp4:(o.size:Int)≤(p.size:Int)-A:=by omega
 have ho:o.size≤3100:=by omega
 have hn:n.size≤3100:=by omega
 have HP:=Lib.hid hp;have H1:=Lib.hid h1;clear hp h1
 go_enter Tryz.func205,Tryz.ntmps205
 go_wp2_with (first | ((go_at_call 240;refine(eU _ _ _ _ o n _ ho hn).mono ?_;rintro e W1 ⟨rfl,hbW1⟩;obtain⟨hcW1,hfW1⟩:=aJ hbW1);have hsW1:w.heap.size<W1.heap.size:=(by have h:=hbW1.size;simp at h;omega)))
 (refine wp_region_quiet_below aa aa ?_;(repeat (go_big_quiet_step ((first | (go_at_call 215;exact Calls.regrown_of (lB p n A _ hp1 hp3))))));(with_reducible refine wpQuiet_nil ?_);intro W2 hreg;have hbW2:=aD hreg;clear hreg;obtain⟨hcW2,hfW2⟩:=aJ hbW2)
 go_wp2
 go_ret2
 exact⟨oU rfl (by rw[yt,qe];rfl),bu⟩
theorem BO (p:ByteArray) (A E:Nat) (o n:ByteArray) (w:World) (hp:p.size=512) (h1:o.size=0) (h2:n.size≤200) (h3:A≤E) (h4:E+n.size≤512) :
 Calls Tryz.prog 205 #[.string p,.agg #[.int .i64 2,.int .i64 A,.int .i64 E,.int .i64 0,.string o,.string n]] w fun r w'=>r=.returned (.tuple #[.string (gq p ⟨2,A,E,0,o,n⟩),.bool (fe p ⟨2,A,E,0,o,n⟩)])∧Below w.heap.size w w':=by
 have hp1:p.size≤3100:=by omega
 have hp2:(A:Int)≤p.size:=by omega
 have hp3:E+n.size≤p.size:=by omega
 have ho:o.size≤3100:=by omega
 have hn:n.size≤3100:=by omega
 have hz0:(o ++ n).size=n.size:=by rw[ByteArray.size_append];omega
 have hz1:(p.extract 0 A ++ n).size=A+n.size:=by rw[ByteArray.size_append,ByteArray.size_extract];omega
 have hz2:(p.extract 0 A ++ n ++ p.extract A E).size=E+n.size:=by rw[ByteArray.size_append,hz1,ByteArray.size_extract];omega
 have HP:=Lib.hid hp;have H1:=Lib.hid h1;clear hp h1
 go_enter Tryz.func205,Tryz.ntmps205
 go_wp2_with (first | ((go_at_call 240;refine(eU _ _ _ _ o n _ ho hn).mono ?_;rintro e W1 ⟨rfl,hbW1⟩;obtain⟨hcW1,hfW1⟩:=aJ hbW1);have hsW1:w.heap.size<W1.heap.size:=(by have h:=hbW1.size;simp at h;omega)))
 (refine wp_region_quiet_below aa aa ?_;(repeat (go_big_quiet_step ((first | (go_at_call 241;exact Calls.regrown_of (tf _ _ (by rw[ByteArray.size_extract];omega)))))));(with_reducible refine wpQuiet_nil ?_);intro W2 hreg;have hbW2:=aD hreg;clear hreg;obtain⟨hcW2,hfW2⟩:=aJ hbW2)
 go_wp2
 go_ret2
 exact⟨oU (CM p n A E) (by rw[CZ,←fb];rfl),bu⟩
theorem BQ (p:ByteArray) (A E:Nat) (o n:ByteArray) (w:World) (hp:p.size=512) (h1:n.size=0) (h2:o.size≤200) (h3:A+o.size≤E) (h4:E≤512) :
 Calls Tryz.prog 205 #[.string p,.agg #[.int .i64 3,.int .i64 A,.int .i64 E,.int .i64 0,.string o,.string n]] w fun r w'=>r=.returned (.tuple #[.string (gq p ⟨3,A,E,0,o,n⟩),.bool (fe p ⟨3,A,E,0,o,n⟩)])∧Below w.heap.size w w':=by
 have hp1:p.size≤3100:=by omega
 have hp2:(A:Int)≤p.size:=by omega
 have hp3:E≤p.size:=by omega
 have hp4:(o.size:Int)≤(p.size:Int)-A:=by omega
 have ho:o.size≤3100:=by omega
 have hn:n.size≤3100:=by omega
 have hz0:(o ++ n).size=o.size:=by rw[ByteArray.size_append];omega
 have hz1:(p.extract 0 A ++ p.extract (A+o.size) E).size=E-o.size:=by rw[ByteArray.size_append,ByteArray.size_extract,ByteArray.size_extract];omega
 have hz3:(bs (bX o.size)).size=o.size:=qJ _
 have hz2:(p.extract 0 A ++ p.extract (A+o.size) E ++ bs (bX o.size)).size=E:=by rw[ByteArray.size_append,hz1,hz3];omega
 have HP:=Lib.hid hp;have H1:=Lib.hid h1;clear hp h1
 go_enter Tryz.func205,Tryz.ntmps205
 go_wp2_with (first | ((go_at_call 240;refine(eU _ _ _ _ o n _ ho hn).mono ?_;rintro e W1 ⟨rfl,hbW1⟩;obtain⟨hcW1,hfW1⟩:=aJ hbW1);have hsW1:w.heap.size<W1.heap.size:=(by have h:=hbW1.size;simp at h;omega)))
 (refine wp_region_quiet_below aa aa ?_;(repeat (go_big_quiet_step ((first | (go_at_call 242;exact Calls.regrown_of (xj o.size _ ab))))));(with_reducible refine wpQuiet_nil ?_);intro W2 hreg;have hbW2:=aD hreg;clear hreg;obtain⟨hcW2,hfW2⟩:=aJ hbW2)
 go_wp2
 go_ret2
 exact⟨oU (CF p A E o.size) (by rw[yt,qe];rfl),bu⟩
theorem BK (p:ByteArray) (A C:Nat) (o n:ByteArray) (w:World) (hp:p.size=512) (h1:o.size=0) (h2:n.size=0) (h3:A+C≤4096) :
 Calls Tryz.prog 205 #[.string p,.agg #[.int .i64 4,.int .i64 A,.int .i64 0,.int .i64 C,.string o,.string n]] w fun r w'=>r=.returned (.tuple #[.string (gq p ⟨4,A,0,C,o,n⟩),.bool (fe p ⟨4,A,0,C,o,n⟩)])∧Below w.heap.size w w':=by
 have hp1:p.size≤3100:=by omega
 have hp2:A+C≤8*p.size:=by omega
 have ho:o.size≤3100:=by omega
 have hn:n.size≤3100:=by omega
 have HP:=Lib.hid hp;clear hp h1 h2
 go_enter Tryz.func205,Tryz.ntmps205
 go_wp2_with (first | ((go_at_call 240;refine(eU _ _ _ _ o n _ ho hn).mono ?_;rintro e W1 ⟨rfl,hbW1⟩;obtain⟨hcW1,hfW1⟩:=aJ hbW1);have hsW1:w.heap.size<W1.heap.size:=(by have h:=hbW1.size;simp at h;omega)) | (go_at_call 243;refine(nQ p A C _ hp1 hp2).mono ?_;rintro e W2 ⟨rfl,hbW2⟩;obtain⟨hcW2,hfW2⟩:=aJ hbW2))
 go_ret2
 exact⟨rfl,bu⟩
theorem AO (p:ByteArray) (A C:Nat) (o n:ByteArray) (w:World) (hp:p.size=512) (h1:o.size=0) (h2:n.size=0) (h3:A+C≤4096) :
 Calls Tryz.prog 205 #[.string p,.agg #[.int .i64 5,.int .i64 A,.int .i64 0,.int .i64 C,.string o,.string n]] w fun r w'=>r=.returned (.tuple #[.string (gq p ⟨5,A,0,C,o,n⟩),.bool (fe p ⟨5,A,0,C,o,n⟩)])∧Below w.heap.size w w':=by
 have hp1:p.size≤3100:=by omega
 have hp2:A+C≤8*p.size:=by omega
 have ho:o.size≤3100:=by omega
 have hn:n.size≤3100:=by omega
 have HP:=Lib.hid hp;clear hp h1 h2
 go_enter Tryz.func205,Tryz.ntmps205
 go_wp2_with (first | ((go_at_call 240;refine(eU _ _ _ _ o n _ ho hn).mono ?_;rintro e W1 ⟨rfl,hbW1⟩;obtain⟨hcW1,hfW1⟩:=aJ hbW1);have hsW1:w.heap.size<W1.heap.size:=(by have h:=hbW1.size;simp at h;omega)) | (go_at_call 243;refine(nK p A C _ hp1 hp2).mono ?_;rintro e W2 ⟨rfl,hbW2⟩;obtain⟨hcW2,hfW2⟩:=aJ hbW2))
 go_ret2
 exact⟨rfl,bu⟩
theorem A9 (p:ByteArray) (o n:ByteArray) (w:World) (ho:o.size≤3100) (hn:n.size≤3100) :
 Calls Tryz.prog 205 #[.string p,.agg #[.int .i64 6,.int .i64 0,.int .i64 0,.int .i64 0,.string o,.string n]] w fun r w'=>r=.returned (.tuple #[.string (gq p ⟨6,0,0,0,o,n⟩),.bool (fe p ⟨6,0,0,0,o,n⟩)])∧Below w.heap.size w w':=by
 go_enter Tryz.func205,Tryz.ntmps205
 go_wp2_with (first | ((go_at_call 240;refine(eU _ _ _ _ o n _ ho hn).mono ?_;rintro e W1 ⟨rfl,hbW1⟩;obtain⟨hcW1,hfW1⟩:=aJ hbW1);have hsW1:w.heap.size<W1.heap.size:=(by have h:=hbW1.size;simp at h;omega)))
 (refine wp_region_quiet_below aa aa ?_;(repeat (go_big_quiet_step ((first | fail))));(with_reducible refine wpQuiet_nil ?_);intro W2 hreg;have hbW2:=aD hreg;clear hreg;obtain⟨hcW2,hfW2⟩:=aJ hbW2)
 go_wp2
 go_ret2
 exact⟨oU rfl (by rw[yt];rfl),bu⟩
theorem BS (p:ByteArray) (o n:ByteArray) (w:World) (ho:o.size≤3100) (hn:n.size≤3100) :
 Calls Tryz.prog 205 #[.string p,.agg #[.int .i64 0,.int .i64 0,.int .i64 0,.int .i64 0,.string o,.string n]] w fun r w'=>r=.returned (.tuple #[.string (gq p ⟨0,0,0,0,o,n⟩),.bool (fe p ⟨0,0,0,0,o,n⟩)])∧Below w.heap.size w w':=by
 go_enter Tryz.func205,Tryz.ntmps205
 go_wp2_with (first | ((go_at_call 240;refine(eU _ _ _ _ o n _ ho hn).mono ?_;rintro e W1 ⟨rfl,hbW1⟩;obtain⟨hcW1,hfW1⟩:=aJ hbW1);have hsW1:w.heap.size<W1.heap.size:=(by have h:=hbW1.size;simp at h;omega)))
 go_ret2
 exact⟨rfl,bu⟩
theorem py (p:ByteArray) (x:Op) (w:World) (hp:p.size=512) (h:nq x) :
 Calls Tryz.prog 205 #[.string p,gA x] w fun r w'=>r=.returned (.tuple #[.string (gq p x),.bool (fe p x)])∧Below w.heap.size w w':=by
 obtain⟨k,a,e,c,o,n⟩:=x;unfold nq at h
 dsimp only at h
 rcases h with ⟨rfl,rfl,rfl,rfl,ho,hn⟩ | ⟨rfl,rfl,rfl,hs,h1,h2,h3,h4⟩ | ⟨rfl,rfl,ho,h1,h2,h3,h4,h5⟩ | ⟨rfl,rfl,hn,h1,h2,h3,h4,h5⟩ | ⟨hk,rfl,ho,hn,h1,h2,h3,h4⟩ | ⟨rfl,rfl,rfl,rfl,ho,hn⟩
 · exact BS p o n w ab ab
 · obtain⟨A,rfl⟩:=Int.eq_ofNat_of_zero_le h3
   exact BI p A o n w hp hs h2 ab
 · obtain⟨A,rfl⟩:=Int.eq_ofNat_of_zero_le h3
   obtain⟨E,rfl⟩:=Int.eq_ofNat_of_zero_le (show 0≤e by omega);exact BO p A E o n w hp ho h2 ab ab
 · obtain⟨A,rfl⟩:=Int.eq_ofNat_of_zero_le h3
   obtain⟨E,rfl⟩:=Int.eq_ofNat_of_zero_le (show 0≤e by omega);exact BQ p A E o n w hp hn h2 ab ab
 · obtain⟨A,rfl⟩:=Int.eq_ofNat_of_zero_le h1
   obtain⟨C,rfl⟩:=Int.eq_ofNat_of_zero_le (show 0≤c by omega);rcases hk with rfl | rfl
   · exact BK p A C o n w hp ho hn ab
   · exact AO p A C o n w hp ho hn ab
 · exact A9 p o n w ab ab
open Go.RowKit
section
variable {P:Program}
theorem cG {ops:Array Oper} {rest:List Oper} {o:Oper} {a:Act} {w:World} {Q:Exit→Act→World→Prop} (hg:o.guard=none) (t:TypeId) (parts:Array (Nat × Operand)) (ho:o.op=.build t parts)
 (cells:Array Value) (hc:P.built t (parts.map fun (i,x)=>(i,a.eval x)).toList=some cells)
 (h:wpList P ops Q rest (a.put o.dst (.agg cells)) w):wpList P ops Q (o::rest) a w:=
 wpList_build hg t parts ho (by rw[hc];rfl) (by rw[hc];exact h)
end
def cz:Array Value:=#[.bool false,.bool false,.bool false,.bool false,.bool false,.bool true,.bool false,.bool false,.bool true,.bool true,
 .bool true,.bool true,.bool false,.bool false,.bool true,.bool true,.bool true,.bool false,.bool true,.bool false,.bool true,.bool false,.bool true,.bool false,.bool false,
 .bool true,.bool false,.bool true,.bool false,.bool false,.bool false,.bool false,.bool false,.bool true,.bool true]
def ry:Array Value:=Array.replicate 35 (.bool false)
theorem eS (w:World):Calls Tryz.prog 213 #[] w fun e w'=>e=.returned (.agg cz)∧Below w.heap.size w w':=by
 go_enter Tryz.func213,Tryz.ntmps213
 go_upto_region 1 with (fail)
 apply wp_region_lit;refine cG rfl 303 _ rfl #[.bool false,.bool false,.bool false,.bool false,.bool false] aa ?_;refine cG rfl 303 _ rfl #[.bool true,.bool false,.bool false,.bool true,.bool true] aa ?_;refine cG rfl 303 _ rfl #[.bool true,.bool true,.bool false,.bool false,.bool true] aa ?_;refine cG rfl 303 _ rfl #[.bool true,.bool true,.bool false,.bool true,.bool false] aa ?_;refine cG rfl 303 _ rfl #[.bool true,.bool false,.bool true,.bool false,.bool false] aa ?_;refine cG rfl 303 _ rfl #[.bool true,.bool false,.bool true,.bool false,.bool false] aa ?_;refine cG rfl 303 _ rfl #[.bool false,.bool false,.bool false,.bool true,.bool true] aa ?_;refine cG rfl 304 _ rfl cz aa ?_;refine wpList_store_row rfl 304 _ _ rfl w.heap.size cz aa aa 304 _ (heap_alloc_new w _) aa aa aa ?_;apply wpList_nil;have hr:=setRow_heap _ w.heap.size _ cz 304 (0,0) (heap_alloc_new w (.cells ry 304));have hb:=below_setRow (g:=w.heap.size) (aV (Below.refl w.heap.size w) (.cells ry 304)) (Nat.le_refl _) cz
 go_wp2
 refine bodyPost_ret (results_cell_row Tryz.results213 _ _ w.heap.size 304 _ (0,0) _ aa hr Tryz.underlying304 rfl aa) rfl ?_;exact⟨rfl,hb⟩
open Go.RowKit Go.Sort
theorem jM {x:Op} {A B C D:Bool} (hk:bm x.k 0 6=true) (hA:A=bf x) (hB:B=cx x) (hC:C=(!cJ x.k||decide (0<bn x))) (hD:D=(!cJ x.k||decide (bn x≤200))) :
 au [aS A 3,aS B 10,aS C 17,aS D 8,aS (gI x) 2]=dp x:=by
 unfold dp;rw[hk,if_neg aq,hA,hB,hC,hD]
theorem vP (a e c:Int) (o n:ByteArray) (w:World) (ho:o.size≤3100) (hn:n.size≤3100) :
 Calls Tryz.prog 144 #[.agg #[.int .i64 0,.int .i64 a,.int .i64 e,.int .i64 c,.string o,.string n]] w fun r w'=>r=.returned (.int .i64 (dp ⟨0,a,e,c,o,n⟩))∧Below w.heap.size w w':=by
 have hk:bm 0 0 6=true:=rfl
 have hidx:∀W,(Instr.index 304 (.agg cz) (.int .i64 0)).run Tryz.prog W=.ok (.agg #[.bool false,.bool false,.bool false,.bool false,.bool false]) W:=fun W=>by kernel_rfl
 obtain⟨Ba,hBa⟩:∃b,(a==0)=b:=⟨_,rfl⟩;obtain⟨Be,hBe⟩:∃b,(e==0)=b:=⟨_,rfl⟩;obtain⟨Bc,hBc⟩:∃b,(c==0)=b:=⟨_,rfl⟩;obtain⟨Bo,hBo⟩:∃b,o.toList.isEmpty=b:=⟨_,rfl⟩;obtain⟨Bn,hBn⟩:∃b,n.toList.isEmpty=b:=⟨_,rfl⟩
 go_enter Tryz.func144,Tryz.ntmps144
 go_wp2_with (first | (go_at_call 152;refine(a8 _ _ _ _).mono ?_;rintro e w' ⟨rfl,rfl⟩))
 refine bE 4 _ (.cells #[.bool false,.bool false,.bool false,.bool false,.bool false] 303) aa aa rfl aa (fun ev X=>by kernel_rfl) ?_;apply Exists.intro;refine⟨fun X hX=>?_,?_⟩
 · obtain⟨hcX,hfX⟩:=aJ hX
   have hsX:w.heap.size<X.heap.size:=by have:=hX.size;simp at this;omega
   simp only[List.take_succ_cons,List.take_zero]
   (repeat (go_big_quiet_step ((first | (go_at_call 213;exact Calls.regrown_of (eS _))))))
   exact wpQuiet_nil rfl
 · intro b1 W1 hbW1 hle hblk
   simp only[List.drop_succ_cons,List.drop_zero,Act.put,List.setIfInBounds_toArray,List.set_cons_succ,List.set_cons_zero];refine ai rfl 303 _ _ rfl rfl b1 _ rfl rfl _ hbW1 hle 303 _ hblk aa rfl aa ?_;intro W2 hb2 hbox2 _;obtain⟨hcW2,hfW2⟩:=aJ hb2;have hx2:=hbox2.cells
   have hs2:w.heap.size<W2.heap.size:=by have:=hb2.size;simp at this;omega
   clear hbW1 hle hblk hidx;apply wpList_nil
   go_upto_region 4 with (fail)
   go_cut [4] (fun s4 wx=>s4=.bool (bf ⟨0,a,e,c,o,n⟩)∧W2=wx)
   case first=>
    go_wp2_with fail
    all_goals
     go_meet
     refine⟨congrArg Value.bool ?_,rfl⟩;rw[isEmpty_eq] at hBo hBn;simp only[bf,js,ft,dc,fg,fj,hBa,hBe,hBc,hBo,hBn]
     (try simp_all [bm])
   case rest=>
   obtain⟨rfl,rfl⟩:=hcut;obtain⟨form,hform⟩:∃b,b=bf ⟨0,a,e,c,o,n⟩:=⟨_,rfl⟩;rw[←hform];have HForm:=Lib.hid hform;clear hform
   go_upto_region 14 with (fail)
   all_goals
    go_cut [7] (fun s7 wx=>s7=.int .i64 (bn ⟨0,a,e,c,o,n⟩:Nat)∧W2=wx)
    case first=>
     go_wp2_with fail
     all_goals
      go_meet
      refine⟨congrArg (Value.int .i64) ?_,rfl⟩;simp only[bn];omega
    case rest=>
    obtain⟨rfl,rfl⟩:=hcut;obtain⟨L,hL⟩:∃b,b=bn ⟨0,a,e,c,o,n⟩:=⟨_,rfl⟩;rw[←hL];have HL:=Lib.hid hL;clear hL
    go_wp2_with fail
    (refine aM 20 aa aa ?_;simp only[List.take_succ_cons,List.take_zero,List.drop_succ_cons,List.drop_zero];(repeat (go_big_quiet_step ((first | (go_at_call 151;exact Calls.reg_pure (aB _ _ _)) | (go_at_call 214;exact Calls.regrown_of (rangeErr_0 _ _ _ _ _ _ ho hn))))));(with_reducible refine wpQuiet_nil ?_);intro W3 hreg;have hbW3:=aD hreg;clear hreg;obtain⟨hcW3,hfW3⟩:=aJ hbW3)
    go_wp2_with (first | (go_at_call 143;refine(ax [_,_,_,_,_] W3 a6).mono ?_;rintro e w' ⟨rfl,rfl⟩))
    go_ret
    refine⟨dt (jM rfl HForm.out ?_ ?_ ?_),bu⟩
    all_goals
     (try rw[←HL.out])
     (try simp only[isEmpty_eq,ec])
     rw[Bool.eq_iff_iff]
     (try simp[cx,cJ,bm,-ByteArray.size_eq_zero_iff])
     (try omega)
theorem we (a e c:Int) (o n:ByteArray) (w:World) (ho:o.size≤3100) (hn:n.size≤3100) :
 Calls Tryz.prog 144 #[.agg #[.int .i64 1,.int .i64 a,.int .i64 e,.int .i64 c,.string o,.string n]] w fun r w'=>r=.returned (.int .i64 (dp ⟨1,a,e,c,o,n⟩))∧Below w.heap.size w w':=by
 have hk:bm 1 0 6=true:=rfl
 have hidx:∀W,(Instr.index 304 (.agg cz) (.int .i64 1)).run Tryz.prog W=.ok (.agg #[.bool true,.bool false,.bool false,.bool true,.bool true]) W:=fun W=>by kernel_rfl
 obtain⟨Ba,hBa⟩:∃b,(a==0)=b:=⟨_,rfl⟩;obtain⟨Be,hBe⟩:∃b,(e==0)=b:=⟨_,rfl⟩;obtain⟨Bc,hBc⟩:∃b,(c==0)=b:=⟨_,rfl⟩;obtain⟨Bo,hBo⟩:∃b,o.toList.isEmpty=b:=⟨_,rfl⟩;obtain⟨Bn,hBn⟩:∃b,n.toList.isEmpty=b:=⟨_,rfl⟩
 go_enter Tryz.func144,Tryz.ntmps144
 go_wp2_with (first | (go_at_call 152;refine(a8 _ _ _ _).mono ?_;rintro e w' ⟨rfl,rfl⟩))
 refine bE 4 _ (.cells #[.bool false,.bool false,.bool false,.bool false,.bool false] 303) aa aa rfl aa (fun ev X=>by kernel_rfl) ?_;apply Exists.intro;refine⟨fun X hX=>?_,?_⟩
 · obtain⟨hcX,hfX⟩:=aJ hX
   have hsX:w.heap.size<X.heap.size:=by have:=hX.size;simp at this;omega
   simp only[List.take_succ_cons,List.take_zero]
   (repeat (go_big_quiet_step ((first | (go_at_call 213;exact Calls.regrown_of (eS _))))))
   exact wpQuiet_nil rfl
 · intro b1 W1 hbW1 hle hblk
   simp only[List.drop_succ_cons,List.drop_zero,Act.put,List.setIfInBounds_toArray,List.set_cons_succ,List.set_cons_zero];refine ai rfl 303 _ _ rfl rfl b1 _ rfl rfl _ hbW1 hle 303 _ hblk aa rfl aa ?_;intro W2 hb2 hbox2 _;obtain⟨hcW2,hfW2⟩:=aJ hb2;have hx2:=hbox2.cells
   have hs2:w.heap.size<W2.heap.size:=by have:=hb2.size;simp at this;omega
   clear hbW1 hle hblk hidx;apply wpList_nil
   go_upto_region 4 with (fail)
   go_cut [4] (fun s4 wx=>s4=.bool (bf ⟨1,a,e,c,o,n⟩)∧W2=wx)
   case first=>
    go_wp2_with fail
    all_goals
     go_meet
     refine⟨congrArg Value.bool ?_,rfl⟩;rw[isEmpty_eq] at hBo hBn;simp only[bf,js,ft,dc,fg,fj,hBa,hBe,hBc,hBo,hBn]
     (try simp_all [bm])
   case rest=>
   obtain⟨rfl,rfl⟩:=hcut;obtain⟨form,hform⟩:∃b,b=bf ⟨1,a,e,c,o,n⟩:=⟨_,rfl⟩;rw[←hform];have HForm:=Lib.hid hform;clear hform
   go_upto_region 14 with (fail)
   all_goals
    go_cut [7] (fun s7 wx=>s7=.int .i64 (bn ⟨1,a,e,c,o,n⟩:Nat)∧W2=wx)
    case first=>
     go_wp2_with fail
     all_goals
      go_meet
      refine⟨congrArg (Value.int .i64) ?_,rfl⟩;simp only[bn];omega
    case rest=>
    obtain⟨rfl,rfl⟩:=hcut;obtain⟨L,hL⟩:∃b,b=bn ⟨1,a,e,c,o,n⟩:=⟨_,rfl⟩;rw[←hL];have HL:=Lib.hid hL;clear hL
    go_wp2_with fail
    (refine aM 20 aa aa ?_;simp only[List.take_succ_cons,List.take_zero,List.drop_succ_cons,List.drop_zero];(repeat (go_big_quiet_step ((first | (go_at_call 151;exact Calls.reg_pure (aB _ _ _)) | (go_at_call 214;exact Calls.regrown_of (rangeErr_1 _ _ _ _ _ _ ho hn))))));(with_reducible refine wpQuiet_nil ?_);intro W3 hreg;have hbW3:=aD hreg;clear hreg;obtain⟨hcW3,hfW3⟩:=aJ hbW3)
    go_wp2_with (first | (go_at_call 143;refine(ax [_,_,_,_,_] W3 a6).mono ?_;rintro e w' ⟨rfl,rfl⟩))
    go_ret
    refine⟨dt (jM rfl HForm.out ?_ ?_ ?_),bu⟩
    all_goals
     (try rw[←HL.out])
     (try simp only[isEmpty_eq,ec])
     rw[Bool.eq_iff_iff]
     (try simp[cx,cJ,bm,-ByteArray.size_eq_zero_iff])
     (try omega)
theorem xE (a e c:Int) (o n:ByteArray) (w:World) (ho:o.size≤3100) (hn:n.size≤3100) :
 Calls Tryz.prog 144 #[.agg #[.int .i64 2,.int .i64 a,.int .i64 e,.int .i64 c,.string o,.string n]] w fun r w'=>r=.returned (.int .i64 (dp ⟨2,a,e,c,o,n⟩))∧Below w.heap.size w w':=by
 have hk:bm 2 0 6=true:=rfl
 have hidx:∀W,(Instr.index 304 (.agg cz) (.int .i64 2)).run Tryz.prog W=.ok (.agg #[.bool true,.bool true,.bool false,.bool false,.bool true]) W:=fun W=>by kernel_rfl
 obtain⟨Ba,hBa⟩:∃b,(a==0)=b:=⟨_,rfl⟩;obtain⟨Be,hBe⟩:∃b,(e==0)=b:=⟨_,rfl⟩;obtain⟨Bc,hBc⟩:∃b,(c==0)=b:=⟨_,rfl⟩;obtain⟨Bo,hBo⟩:∃b,o.toList.isEmpty=b:=⟨_,rfl⟩;obtain⟨Bn,hBn⟩:∃b,n.toList.isEmpty=b:=⟨_,rfl⟩
 go_enter Tryz.func144,Tryz.ntmps144
 go_wp2_with (first | (go_at_call 152;refine(a8 _ _ _ _).mono ?_;rintro e w' ⟨rfl,rfl⟩))
 refine bE 4 _ (.cells #[.bool false,.bool false,.bool false,.bool false,.bool false] 303) aa aa rfl aa (fun ev X=>by kernel_rfl) ?_;apply Exists.intro;refine⟨fun X hX=>?_,?_⟩
 · obtain⟨hcX,hfX⟩:=aJ hX
   have hsX:w.heap.size<X.heap.size:=by have:=hX.size;simp at this;omega
   simp only[List.take_succ_cons,List.take_zero]
   (repeat (go_big_quiet_step ((first | (go_at_call 213;exact Calls.regrown_of (eS _))))))
   exact wpQuiet_nil rfl
 · intro b1 W1 hbW1 hle hblk
   simp only[List.drop_succ_cons,List.drop_zero,Act.put,List.setIfInBounds_toArray,List.set_cons_succ,List.set_cons_zero];refine ai rfl 303 _ _ rfl rfl b1 _ rfl rfl _ hbW1 hle 303 _ hblk aa rfl aa ?_;intro W2 hb2 hbox2 _;obtain⟨hcW2,hfW2⟩:=aJ hb2;have hx2:=hbox2.cells
   have hs2:w.heap.size<W2.heap.size:=by have:=hb2.size;simp at this;omega
   clear hbW1 hle hblk hidx;apply wpList_nil
   go_upto_region 4 with (fail)
   go_cut [4] (fun s4 wx=>s4=.bool (bf ⟨2,a,e,c,o,n⟩)∧W2=wx)
   case first=>
    go_wp2_with fail
    all_goals
     go_meet
     refine⟨congrArg Value.bool ?_,rfl⟩;rw[isEmpty_eq] at hBo hBn;simp only[bf,js,ft,dc,fg,fj,hBa,hBe,hBc,hBo,hBn]
     (try simp_all [bm])
   case rest=>
   obtain⟨rfl,rfl⟩:=hcut;obtain⟨form,hform⟩:∃b,b=bf ⟨2,a,e,c,o,n⟩:=⟨_,rfl⟩;rw[←hform];have HForm:=Lib.hid hform;clear hform
   go_upto_region 14 with (fail)
   all_goals
    go_cut [7] (fun s7 wx=>s7=.int .i64 (bn ⟨2,a,e,c,o,n⟩:Nat)∧W2=wx)
    case first=>
     go_wp2_with fail
     all_goals
      go_meet
      refine⟨congrArg (Value.int .i64) ?_,rfl⟩;simp only[bn];omega
    case rest=>
    obtain⟨rfl,rfl⟩:=hcut;obtain⟨L,hL⟩:∃b,b=bn ⟨2,a,e,c,o,n⟩:=⟨_,rfl⟩;rw[←hL];have HL:=Lib.hid hL;clear hL
    go_wp2_with fail
    (refine aM 20 aa aa ?_;simp only[List.take_succ_cons,List.take_zero,List.drop_succ_cons,List.drop_zero];(repeat (go_big_quiet_step ((first | (go_at_call 151;exact Calls.reg_pure (aB _ _ _)) | (go_at_call 214;exact Calls.regrown_of (rangeErr_2 _ _ _ _ _ _ ho hn))))));(with_reducible refine wpQuiet_nil ?_);intro W3 hreg;have hbW3:=aD hreg;clear hreg;obtain⟨hcW3,hfW3⟩:=aJ hbW3)
    go_wp2_with (first | (go_at_call 143;refine(ax [_,_,_,_,_] W3 a6).mono ?_;rintro e w' ⟨rfl,rfl⟩))
    go_ret
    refine⟨dt (jM rfl HForm.out ?_ ?_ ?_),bu⟩
    all_goals
     (try rw[←HL.out])
     (try simp only[isEmpty_eq,ec])
     rw[Bool.eq_iff_iff]
     (try simp[cx,cJ,bm,-ByteArray.size_eq_zero_iff])
     (try omega)
theorem xa (a e c:Int) (o n:ByteArray) (w:World) (ho:o.size≤3100) (hn:n.size≤3100) :
 Calls Tryz.prog 144 #[.agg #[.int .i64 3,.int .i64 a,.int .i64 e,.int .i64 c,.string o,.string n]] w fun r w'=>r=.returned (.int .i64 (dp ⟨3,a,e,c,o,n⟩))∧Below w.heap.size w w':=by
 have hk:bm 3 0 6=true:=rfl
 have hidx:∀W,(Instr.index 304 (.agg cz) (.int .i64 3)).run Tryz.prog W=.ok (.agg #[.bool true,.bool true,.bool false,.bool true,.bool false]) W:=fun W=>by kernel_rfl
 obtain⟨Ba,hBa⟩:∃b,(a==0)=b:=⟨_,rfl⟩;obtain⟨Be,hBe⟩:∃b,(e==0)=b:=⟨_,rfl⟩;obtain⟨Bc,hBc⟩:∃b,(c==0)=b:=⟨_,rfl⟩;obtain⟨Bo,hBo⟩:∃b,o.toList.isEmpty=b:=⟨_,rfl⟩;obtain⟨Bn,hBn⟩:∃b,n.toList.isEmpty=b:=⟨_,rfl⟩
 go_enter Tryz.func144,Tryz.ntmps144
 go_wp2_with (first | (go_at_call 152;refine(a8 _ _ _ _).mono ?_;rintro e w' ⟨rfl,rfl⟩))
 refine bE 4 _ (.cells #[.bool false,.bool false,.bool false,.bool false,.bool false] 303) aa aa rfl aa (fun ev X=>by kernel_rfl) ?_;apply Exists.intro;refine⟨fun X hX=>?_,?_⟩
 · obtain⟨hcX,hfX⟩:=aJ hX
   have hsX:w.heap.size<X.heap.size:=by have:=hX.size;simp at this;omega
   simp only[List.take_succ_cons,List.take_zero]
   (repeat (go_big_quiet_step ((first | (go_at_call 213;exact Calls.regrown_of (eS _))))))
   exact wpQuiet_nil rfl
 · intro b1 W1 hbW1 hle hblk
   simp only[List.drop_succ_cons,List.drop_zero,Act.put,List.setIfInBounds_toArray,List.set_cons_succ,List.set_cons_zero];refine ai rfl 303 _ _ rfl rfl b1 _ rfl rfl _ hbW1 hle 303 _ hblk aa rfl aa ?_;intro W2 hb2 hbox2 _;obtain⟨hcW2,hfW2⟩:=aJ hb2;have hx2:=hbox2.cells
   have hs2:w.heap.size<W2.heap.size:=by have:=hb2.size;simp at this;omega
   clear hbW1 hle hblk hidx;apply wpList_nil
   go_upto_region 4 with (fail)
   go_cut [4] (fun s4 wx=>s4=.bool (bf ⟨3,a,e,c,o,n⟩)∧W2=wx)
   case first=>
    go_wp2_with fail
    all_goals
     go_meet
     refine⟨congrArg Value.bool ?_,rfl⟩;rw[isEmpty_eq] at hBo hBn;simp only[bf,js,ft,dc,fg,fj,hBa,hBe,hBc,hBo,hBn]
     (try simp_all [bm])
   case rest=>
   obtain⟨rfl,rfl⟩:=hcut;obtain⟨form,hform⟩:∃b,b=bf ⟨3,a,e,c,o,n⟩:=⟨_,rfl⟩;rw[←hform];have HForm:=Lib.hid hform;clear hform
   go_upto_region 14 with (fail)
   all_goals
    go_cut [7] (fun s7 wx=>s7=.int .i64 (bn ⟨3,a,e,c,o,n⟩:Nat)∧W2=wx)
    case first=>
     go_wp2_with fail
     all_goals
      go_meet
      refine⟨congrArg (Value.int .i64) ?_,rfl⟩;simp only[bn];omega
    case rest=>
    obtain⟨rfl,rfl⟩:=hcut;obtain⟨L,hL⟩:∃b,b=bn ⟨3,a,e,c,o,n⟩:=⟨_,rfl⟩;rw[←hL];have HL:=Lib.hid hL;clear hL
    go_wp2_with fail
    (refine aM 20 aa aa ?_;simp only[List.take_succ_cons,List.take_zero,List.drop_succ_cons,List.drop_zero];(repeat (go_big_quiet_step ((first | (go_at_call 151;exact Calls.reg_pure (aB _ _ _)) | (go_at_call 214;exact Calls.regrown_of (rangeErr_3 _ _ _ _ _ _ ho hn))))));(with_reducible refine wpQuiet_nil ?_);intro W3 hreg;have hbW3:=aD hreg;clear hreg;obtain⟨hcW3,hfW3⟩:=aJ hbW3)
    go_wp2_with (first | (go_at_call 143;refine(ax [_,_,_,_,_] W3 a6).mono ?_;rintro e w' ⟨rfl,rfl⟩))
    go_ret
    refine⟨dt (jM rfl HForm.out ?_ ?_ ?_),bu⟩
    all_goals
     (try rw[←HL.out])
     (try simp only[isEmpty_eq,ec])
     rw[Bool.eq_iff_iff]
     (try simp[cx,cJ,bm,-ByteArray.size_eq_zero_iff])
     (try omega)
theorem wF (a e c:Int) (o n:ByteArray) (w:World) (ho:o.size≤3100) (hn:n.size≤3100) :
 Calls Tryz.prog 144 #[.agg #[.int .i64 4,.int .i64 a,.int .i64 e,.int .i64 c,.string o,.string n]] w fun r w'=>r=.returned (.int .i64 (dp ⟨4,a,e,c,o,n⟩))∧Below w.heap.size w w':=by
 have hk:bm 4 0 6=true:=rfl
 have hidx:∀W,(Instr.index 304 (.agg cz) (.int .i64 4)).run Tryz.prog W=.ok (.agg #[.bool true,.bool false,.bool true,.bool false,.bool false]) W:=fun W=>by kernel_rfl
 obtain⟨Ba,hBa⟩:∃b,(a==0)=b:=⟨_,rfl⟩;obtain⟨Be,hBe⟩:∃b,(e==0)=b:=⟨_,rfl⟩;obtain⟨Bc,hBc⟩:∃b,(c==0)=b:=⟨_,rfl⟩;obtain⟨Bo,hBo⟩:∃b,o.toList.isEmpty=b:=⟨_,rfl⟩;obtain⟨Bn,hBn⟩:∃b,n.toList.isEmpty=b:=⟨_,rfl⟩
 go_enter Tryz.func144,Tryz.ntmps144
 go_wp2_with (first | (go_at_call 152;refine(a8 _ _ _ _).mono ?_;rintro e w' ⟨rfl,rfl⟩))
 refine bE 4 _ (.cells #[.bool false,.bool false,.bool false,.bool false,.bool false] 303) aa aa rfl aa (fun ev X=>by kernel_rfl) ?_;apply Exists.intro;refine⟨fun X hX=>?_,?_⟩
 · obtain⟨hcX,hfX⟩:=aJ hX
   have hsX:w.heap.size<X.heap.size:=by have:=hX.size;simp at this;omega
   simp only[List.take_succ_cons,List.take_zero]
   (repeat (go_big_quiet_step ((first | (go_at_call 213;exact Calls.regrown_of (eS _))))))
   exact wpQuiet_nil rfl
 · intro b1 W1 hbW1 hle hblk
   simp only[List.drop_succ_cons,List.drop_zero,Act.put,List.setIfInBounds_toArray,List.set_cons_succ,List.set_cons_zero];refine ai rfl 303 _ _ rfl rfl b1 _ rfl rfl _ hbW1 hle 303 _ hblk aa rfl aa ?_;intro W2 hb2 hbox2 _;obtain⟨hcW2,hfW2⟩:=aJ hb2;have hx2:=hbox2.cells
   have hs2:w.heap.size<W2.heap.size:=by have:=hb2.size;simp at this;omega
   clear hbW1 hle hblk hidx;apply wpList_nil
   go_upto_region 4 with (fail)
   go_cut [4] (fun s4 wx=>s4=.bool (bf ⟨4,a,e,c,o,n⟩)∧W2=wx)
   case first=>
    go_wp2_with fail
    all_goals
     go_meet
     refine⟨congrArg Value.bool ?_,rfl⟩;rw[isEmpty_eq] at hBo hBn;simp only[bf,js,ft,dc,fg,fj,hBa,hBe,hBc,hBo,hBn]
     (try simp_all [bm])
   case rest=>
   obtain⟨rfl,rfl⟩:=hcut;obtain⟨form,hform⟩:∃b,b=bf ⟨4,a,e,c,o,n⟩:=⟨_,rfl⟩;rw[←hform];have HForm:=Lib.hid hform;clear hform
   go_upto_region 14 with (fail)
   all_goals
    go_cut [7] (fun s7 wx=>s7=.int .i64 (bn ⟨4,a,e,c,o,n⟩:Nat)∧W2=wx)
    case first=>
     go_wp2_with fail
     all_goals
      go_meet
      refine⟨congrArg (Value.int .i64) ?_,rfl⟩;simp only[bn];omega
    case rest=>
    obtain⟨rfl,rfl⟩:=hcut;obtain⟨L,hL⟩:∃b,b=bn ⟨4,a,e,c,o,n⟩:=⟨_,rfl⟩;rw[←hL];have HL:=Lib.hid hL;clear hL
    go_wp2_with fail
    (refine aM 20 aa aa ?_;simp only[List.take_succ_cons,List.take_zero,List.drop_succ_cons,List.drop_zero];(repeat (go_big_quiet_step ((first | (go_at_call 151;exact Calls.reg_pure (aB _ _ _)) | (go_at_call 214;exact Calls.regrown_of (rangeErr_4 _ _ _ _ _ _ ho hn))))));(with_reducible refine wpQuiet_nil ?_);intro W3 hreg;have hbW3:=aD hreg;clear hreg;obtain⟨hcW3,hfW3⟩:=aJ hbW3)
    go_wp2_with (first | (go_at_call 143;refine(ax [_,_,_,_,_] W3 a6).mono ?_;rintro e w' ⟨rfl,rfl⟩))
    go_ret
    refine⟨dt (jM rfl HForm.out ?_ ?_ ?_),bu⟩
    all_goals
     (try rw[←HL.out])
     (try simp only[isEmpty_eq,ec])
     rw[Bool.eq_iff_iff]
     (try simp[cx,cJ,bm,-ByteArray.size_eq_zero_iff])
     (try omega)
theorem vZ (a e c:Int) (o n:ByteArray) (w:World) (ho:o.size≤3100) (hn:n.size≤3100) :
 Calls Tryz.prog 144 #[.agg #[.int .i64 5,.int .i64 a,.int .i64 e,.int .i64 c,.string o,.string n]] w fun r w'=>r=.returned (.int .i64 (dp ⟨5,a,e,c,o,n⟩))∧Below w.heap.size w w':=by
 have hk:bm 5 0 6=true:=rfl
 have hidx:∀W,(Instr.index 304 (.agg cz) (.int .i64 5)).run Tryz.prog W=.ok (.agg #[.bool true,.bool false,.bool true,.bool false,.bool false]) W:=fun W=>by kernel_rfl
 obtain⟨Ba,hBa⟩:∃b,(a==0)=b:=⟨_,rfl⟩;obtain⟨Be,hBe⟩:∃b,(e==0)=b:=⟨_,rfl⟩;obtain⟨Bc,hBc⟩:∃b,(c==0)=b:=⟨_,rfl⟩;obtain⟨Bo,hBo⟩:∃b,o.toList.isEmpty=b:=⟨_,rfl⟩;obtain⟨Bn,hBn⟩:∃b,n.toList.isEmpty=b:=⟨_,rfl⟩
 go_enter Tryz.func144,Tryz.ntmps144
 go_wp2_with (first | (go_at_call 152;refine(a8 _ _ _ _).mono ?_;rintro e w' ⟨rfl,rfl⟩))
 refine bE 4 _ (.cells #[.bool false,.bool false,.bool false,.bool false,.bool false] 303) aa aa rfl aa (fun ev X=>by kernel_rfl) ?_;apply Exists.intro;refine⟨fun X hX=>?_,?_⟩
 · obtain⟨hcX,hfX⟩:=aJ hX
   have hsX:w.heap.size<X.heap.size:=by have:=hX.size;simp at this;omega
   simp only[List.take_succ_cons,List.take_zero]
   (repeat (go_big_quiet_step ((first | (go_at_call 213;exact Calls.regrown_of (eS _))))))
   exact wpQuiet_nil rfl
 · intro b1 W1 hbW1 hle hblk
   simp only[List.drop_succ_cons,List.drop_zero,Act.put,List.setIfInBounds_toArray,List.set_cons_succ,List.set_cons_zero];refine ai rfl 303 _ _ rfl rfl b1 _ rfl rfl _ hbW1 hle 303 _ hblk aa rfl aa ?_;intro W2 hb2 hbox2 _;obtain⟨hcW2,hfW2⟩:=aJ hb2;have hx2:=hbox2.cells
   have hs2:w.heap.size<W2.heap.size:=by have:=hb2.size;simp at this;omega
   clear hbW1 hle hblk hidx;apply wpList_nil
   go_upto_region 4 with (fail)
   go_cut [4] (fun s4 wx=>s4=.bool (bf ⟨5,a,e,c,o,n⟩)∧W2=wx)
   case first=>
    go_wp2_with fail
    all_goals
     go_meet
     refine⟨congrArg Value.bool ?_,rfl⟩;rw[isEmpty_eq] at hBo hBn;simp only[bf,js,ft,dc,fg,fj,hBa,hBe,hBc,hBo,hBn]
     (try simp_all [bm])
   case rest=>
   obtain⟨rfl,rfl⟩:=hcut;obtain⟨form,hform⟩:∃b,b=bf ⟨5,a,e,c,o,n⟩:=⟨_,rfl⟩;rw[←hform];have HForm:=Lib.hid hform;clear hform
   go_upto_region 14 with (fail)
   all_goals
    go_cut [7] (fun s7 wx=>s7=.int .i64 (bn ⟨5,a,e,c,o,n⟩:Nat)∧W2=wx)
    case first=>
     go_wp2_with fail
     all_goals
      go_meet
      refine⟨congrArg (Value.int .i64) ?_,rfl⟩;simp only[bn];omega
    case rest=>
    obtain⟨rfl,rfl⟩:=hcut;obtain⟨L,hL⟩:∃b,b=bn ⟨5,a,e,c,o,n⟩:=⟨_,rfl⟩;rw[←hL];have HL:=Lib.hid hL;clear hL
    go_wp2_with fail
    (refine aM 20 aa aa ?_;simp only[List.take_succ_cons,List.take_zero,List.drop_succ_cons,List.drop_zero];(repeat (go_big_quiet_step ((first | (go_at_call 151;exact Calls.reg_pure (aB _ _ _)) | (go_at_call 214;exact Calls.regrown_of (rangeErr_5 _ _ _ _ _ _ ho hn))))));(with_reducible refine wpQuiet_nil ?_);intro W3 hreg;have hbW3:=aD hreg;clear hreg;obtain⟨hcW3,hfW3⟩:=aJ hbW3)
    go_wp2_with (first | (go_at_call 143;refine(ax [_,_,_,_,_] W3 a6).mono ?_;rintro e w' ⟨rfl,rfl⟩))
    go_ret
    refine⟨dt (jM rfl HForm.out ?_ ?_ ?_),bu⟩
    all_goals
     (try rw[←HL.out])
     (try simp only[isEmpty_eq,ec])
     rw[Bool.eq_iff_iff]
     (try simp[cx,cJ,bm,-ByteArray.size_eq_zero_iff])
     (try omega)
theorem xJ (a e c:Int) (o n:ByteArray) (w:World) (ho:o.size≤3100) (hn:n.size≤3100) :
 Calls Tryz.prog 144 #[.agg #[.int .i64 6,.int .i64 a,.int .i64 e,.int .i64 c,.string o,.string n]] w fun r w'=>r=.returned (.int .i64 (dp ⟨6,a,e,c,o,n⟩))∧Below w.heap.size w w':=by
 have hk:bm 6 0 6=true:=rfl
 have hidx:∀W,(Instr.index 304 (.agg cz) (.int .i64 6)).run Tryz.prog W=.ok (.agg #[.bool false,.bool false,.bool false,.bool true,.bool true]) W:=fun W=>by kernel_rfl
 obtain⟨Ba,hBa⟩:∃b,(a==0)=b:=⟨_,rfl⟩;obtain⟨Be,hBe⟩:∃b,(e==0)=b:=⟨_,rfl⟩;obtain⟨Bc,hBc⟩:∃b,(c==0)=b:=⟨_,rfl⟩;obtain⟨Bo,hBo⟩:∃b,o.toList.isEmpty=b:=⟨_,rfl⟩;obtain⟨Bn,hBn⟩:∃b,n.toList.isEmpty=b:=⟨_,rfl⟩
 go_enter Tryz.func144,Tryz.ntmps144
 go_wp2_with (first | (go_at_call 152;refine(a8 _ _ _ _).mono ?_;rintro e w' ⟨rfl,rfl⟩))
 refine bE 4 _ (.cells #[.bool false,.bool false,.bool false,.bool false,.bool false] 303) aa aa rfl aa (fun ev X=>by kernel_rfl) ?_;apply Exists.intro;refine⟨fun X hX=>?_,?_⟩
 · obtain⟨hcX,hfX⟩:=aJ hX
   have hsX:w.heap.size<X.heap.size:=by have:=hX.size;simp at this;omega
   simp only[List.take_succ_cons,List.take_zero]
   (repeat (go_big_quiet_step ((first | (go_at_call 213;exact Calls.regrown_of (eS _))))))
   exact wpQuiet_nil rfl
 · intro b1 W1 hbW1 hle hblk
   simp only[List.drop_succ_cons,List.drop_zero,Act.put,List.setIfInBounds_toArray,List.set_cons_succ,List.set_cons_zero];refine ai rfl 303 _ _ rfl rfl b1 _ rfl rfl _ hbW1 hle 303 _ hblk aa rfl aa ?_;intro W2 hb2 hbox2 _;obtain⟨hcW2,hfW2⟩:=aJ hb2;have hx2:=hbox2.cells
   have hs2:w.heap.size<W2.heap.size:=by have:=hb2.size;simp at this;omega
   clear hbW1 hle hblk hidx;apply wpList_nil
   go_upto_region 4 with (fail)
   go_cut [4] (fun s4 wx=>s4=.bool (bf ⟨6,a,e,c,o,n⟩)∧W2=wx)
   case first=>
    go_wp2_with fail
    all_goals
     go_meet
     refine⟨congrArg Value.bool ?_,rfl⟩;rw[isEmpty_eq] at hBo hBn;simp only[bf,js,ft,dc,fg,fj,hBa,hBe,hBc,hBo,hBn]
     (try simp_all [bm])
   case rest=>
   obtain⟨rfl,rfl⟩:=hcut;obtain⟨form,hform⟩:∃b,b=bf ⟨6,a,e,c,o,n⟩:=⟨_,rfl⟩;rw[←hform];have HForm:=Lib.hid hform;clear hform
   go_upto_region 14 with (fail)
   all_goals
    go_cut [7] (fun s7 wx=>s7=.int .i64 (bn ⟨6,a,e,c,o,n⟩:Nat)∧W2=wx)
    case first=>
     go_wp2_with fail
     all_goals
      go_meet
      refine⟨congrArg (Value.int .i64) ?_,rfl⟩;simp only[bn];omega
    case rest=>
    obtain⟨rfl,rfl⟩:=hcut;obtain⟨L,hL⟩:∃b,b=bn ⟨6,a,e,c,o,n⟩:=⟨_,rfl⟩;rw[←hL];have HL:=Lib.hid hL;clear hL
    go_wp2_with fail
    (refine aM 20 aa aa ?_;simp only[List.take_succ_cons,List.take_zero,List.drop_succ_cons,List.drop_zero];(repeat (go_big_quiet_step ((first | (go_at_call 151;exact Calls.reg_pure (aB _ _ _)) | (go_at_call 214;exact Calls.regrown_of (rangeErr_6 _ _ _ _ _ _ ho hn))))));(with_reducible refine wpQuiet_nil ?_);intro W3 hreg;have hbW3:=aD hreg;clear hreg;obtain⟨hcW3,hfW3⟩:=aJ hbW3)
    go_wp2_with (first | (go_at_call 143;refine(ax [_,_,_,_,_] W3 a6).mono ?_;rintro e w' ⟨rfl,rfl⟩))
    go_ret
    refine⟨dt (jM rfl HForm.out ?_ ?_ ?_),bu⟩
    all_goals
     (try rw[←HL.out])
     (try simp only[isEmpty_eq,ec])
     rw[Bool.eq_iff_iff]
     (try simp[cx,cJ,bm,-ByteArray.size_eq_zero_iff])
     (try omega)
end Go.Proofs.YtcfdpfmchchkaaaGreatDoor
