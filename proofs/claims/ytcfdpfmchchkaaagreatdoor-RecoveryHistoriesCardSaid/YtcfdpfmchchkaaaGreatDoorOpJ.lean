/-
  Chapter 21: the operation with some bytes: the reference.
  Chapter 21: the entry with some bytes: the reference.
  Chapter 21: the operation with some bytes.
  Chapter 21: the entry with some bytes.
-/
import Derived.Test.YtcfdpfmchchkaaaGreatDoorOpEnt3
import Derived.IntWalk
namespace Go.Proofs.YtcfdpfmchchkaaaGreatDoor
set_option maxRecDepth 100000
set_option maxHeartbeats 4000000
set_option linter.unusedVariables false
set_option linter.unusedSimpArgs false
open Go.RowKit Go.Sort
def ay (s:ByteArray) (i c:Nat):Int:=num (((bl s).drop i).take c)
theorem fD (s:ByteArray) (i:Nat):0≤ay s i 2∧ay s i 2<65536:=by
 have h:=dO (((bl s).drop i).take 2)
 have hl:(((bl s).drop i).take 2).length≤2:=by rw[List.length_take];omega
 have hp:(256:Int) ^ (((bl s).drop i).take 2).length≤256 ^ 2:=by
  have:∀n:Nat,n≤2→(256:Int) ^ n≤256 ^ 2:=by decide
  exact this _ hl
 have:(256:Int) ^ 2=65536:=by decide
 unfold ay;omega
theorem vV (s:ByteArray) (i:Nat):0≤ay s i 1∧ay s i 1<256:=by
 have h:=dO (((bl s).drop i).take 1)
 have hl:(((bl s).drop i).take 1).length≤1:=by rw[List.length_take];omega
 have hp:(256:Int) ^ (((bl s).drop i).take 1).length≤256 ^ 1:=by
  have:∀n:Nat,n≤1→(256:Int) ^ n≤256 ^ 1:=by decide
  exact this _ hl
 have:(256:Int) ^ 1=256:=by decide
 unfold ay;omega
def sW (s:ByteArray):Op:=⟨ay s 0 1,ay s 1 2,ay s 3 2,ay s 5 2,s.extract 11 (11+(ay s 7 2).toNat),s.extract (11+(ay s 7 2).toNat) s.size⟩
def je (s:ByteArray):Int:=if 1035<s.size then 8 else if s.size<11 then 14 else if (s.size:Int)<11+ay s 7 2+ay s 9 2 then 14 else if 11+ay s 7 2+ay s 9 2<(s.size:Int) then 3 else dp (sW s)
def ur (s:ByteArray):Op:=if je s=0 then sW s else CE
theorem fZ {s:ByteArray} {e:Int} (h:je s=e) (h0:e≠0):ur s=CE:=by unfold ur;rw[if_neg (by rw[h];exact h0)]
theorem xr (s:ByteArray) (w:World) (hs:s.size≤maxLen) :
 Calls Tryz.prog 178 #[.string s] w fun r w'=>r=.returned (.tuple #[gA (ur s),.int .i64 (je s)])∧Below w.heap.size w w':=by
 have hbel0:Below w.heap.size w (w.alloc (.cells Cv 141)):=aV (Below.refl _ _) _;have hblk0:Box (w.alloc (.cells Cv 141)) w.heap.size Cv 141:=Box.new w _ _;have hsI:=hs;unfold maxLen at hsI;by_cases h1:1035<s.size
 · have e1:je s=8:=by unfold je;rw[if_pos h1]
   rw[fZ e1 aq,e1]
   have h1':(1035:Int)<s.size:=by omega
   clear e1 h1;unfold Cv at *
   go_enter Tryz.func178,Tryz.ntmps178
   go_wp2_with (refine ai rfl 141 (.tmp 2) (.tmp 11) rfl rfl w.heap.size #[.int .i64 0,.int .i64 0,.int .i64 0,.int .i64 0,.string ⟨#[]⟩,.string ⟨#[]⟩] rfl rfl w hbel0 (Nat.le_refl _) 141 _ hblk0 aa aa aa ?_;intro W3 hb3 hbox3 _)
   exact bodyPost_ret (results_cell_tmp Tryz.results178 _ W3 w.heap.size 141 _ _ _ rfl rfl hbox3 Tryz.underlying141 rfl aa) rfl ⟨rfl,hb3⟩
 · have h1':(s.size:Int)≤1035:=by omega
   by_cases h2:s.size<11
   · have e1:je s=14:=by unfold je;rw[if_neg h1,if_pos h2]
     rw[fZ e1 aq,e1]
     have h2':(s.size:Int)<11:=by omega
     clear e1 h1 h2;unfold Cv at *
     go_enter Tryz.func178,Tryz.ntmps178
     go_wp2_with (refine ai rfl 141 (.tmp 2) (.tmp 15) rfl rfl w.heap.size #[.int .i64 0,.int .i64 0,.int .i64 0,.int .i64 0,.string ⟨#[]⟩,.string ⟨#[]⟩] rfl rfl w hbel0 (Nat.le_refl _) 141 _ hblk0 aa aa aa ?_;intro W3 hb3 hbox3 _)
     exact bodyPost_ret (results_cell_tmp Tryz.results178 _ W3 w.heap.size 141 _ _ _ rfl rfl hbox3 Tryz.underlying141 rfl aa) rfl ⟨rfl,hb3⟩
   · have h2':(11:Int)≤s.size:=by omega
     have hL:=fun (i c:Nat) (h:i+c≤s.size) (hc:c≤6) W=>im s i c h hs hc W;have hL7:∀W,Calls Tryz.prog 73 #[.string s,.int .i64 7,.int .i64 2] W fun e w'=>e=.returned (.int .i64 (ay s 7 2))∧W=w':=hL 7 2 ab ab;have hL9:∀W,Calls Tryz.prog 73 #[.string s,.int .i64 9,.int .i64 2] W fun e w'=>e=.returned (.int .i64 (ay s 9 2))∧W=w':=hL 9 2 ab ab;have hL0:∀W,Calls Tryz.prog 73 #[.string s,.int .i64 0,.int .i64 1] W fun e w'=>e=.returned (.int .i64 (ay s 0 1))∧W=w':=hL 0 1 ab ab;have hL1:∀W,Calls Tryz.prog 73 #[.string s,.int .i64 1,.int .i64 2] W fun e w'=>e=.returned (.int .i64 (ay s 1 2))∧W=w':=hL 1 2 ab ab;have hL3:∀W,Calls Tryz.prog 73 #[.string s,.int .i64 3,.int .i64 2] W fun e w'=>e=.returned (.int .i64 (ay s 3 2))∧W=w':=hL 3 2 ab ab;have hL5:∀W,Calls Tryz.prog 73 #[.string s,.int .i64 5,.int .i64 2] W fun e w'=>e=.returned (.int .i64 (ay s 5 2))∧W=w':=hL 5 2 ab ab;obtain⟨b7,c7⟩:=fD s 7;obtain⟨b9,c9⟩:=fD s 9;obtain⟨N,hN⟩:=Int.eq_ofNat_of_zero_le b7;obtain⟨M,hM⟩:=Int.eq_ofNat_of_zero_le b9
     have ev:sW s=⟨ay s 0 1,ay s 1 2,ay s 3 2,ay s 5 2,s.extract 11 (11+N),s.extract (11+N) s.size⟩:=by unfold sW;rw[hN];rfl
     have ee:je s=if (s.size:Int)<11+(N:Int)+M then 14 else if 11+(N:Int)+M<(s.size:Int) then 3 else dp (sW s):=by unfold je;rw[if_neg h1,if_neg h2,hN,hM]
     rw[hN] at hL7 c7;rw[hM] at hL9 c9;have w1:IntKind.i64.wrap (11+(N:Int))=11+(N:Int):=IntWalk.i64_in _ ab;have w2:IntKind.i64.wrap (11+(N:Int)+(M:Int))=11+(N:Int)+(M:Int):=IntWalk.i64_in _ ab
     have w3:0≤11+(N:Int):=by omega
     have w4:(11+(N:Int)).toNat=11+N:=by omega
     clear c7 c9;have HL7:=Lib.hid hL7;have HL9:=Lib.hid hL9;clear hL hL7 hL9 b7 b9 hN hM h1 h2;by_cases h3:(s.size:Int)<11+(N:Int)+M
     · have e1:je s=14:=by rw[ee,if_pos h3]
       rw[fZ e1 aq,e1];clear e1 ev ee hL0 hL1 hL3 hL5;unfold Cv at *
       go_enter Tryz.func178,Tryz.ntmps178
       go_wp2_with (first | (go_at_call 73;(with_reducible refine(HL7.out _).mono ?_);rintro e w' ⟨rfl,rfl⟩) | (go_at_call 73;(with_reducible refine(HL9.out _).mono ?_);rintro e w' ⟨rfl,rfl⟩) | (refine ai rfl 141 (.tmp 2) (.tmp 27) rfl rfl w.heap.size #[.int .i64 0,.int .i64 0,.int .i64 0,.int .i64 0,.string ⟨#[]⟩,.string ⟨#[]⟩] rfl rfl w hbel0 (Nat.le_refl _) 141 _ hblk0 aa aa aa ?_;intro W3 hb3 hbox3 _))
       exact bodyPost_ret (results_cell_tmp Tryz.results178 _ W3 w.heap.size 141 _ _ _ rfl rfl hbox3 Tryz.underlying141 rfl aa) rfl ⟨rfl,hb3⟩
     · by_cases h4:11+(N:Int)+M<(s.size:Int)
       · have h3':11+(N:Int)+M≤(s.size:Int):=by omega
         have e1:je s=3:=by rw[ee,if_neg h3,if_pos h4]
         rw[fZ e1 aq,e1];clear e1 ev ee hL0 hL1 hL3 hL5 h3;unfold Cv at *
         go_enter Tryz.func178,Tryz.ntmps178
         go_wp2_with (first | (go_at_call 73;(with_reducible refine(HL7.out _).mono ?_);rintro e w' ⟨rfl,rfl⟩) | (go_at_call 73;(with_reducible refine(HL9.out _).mono ?_);rintro e w' ⟨rfl,rfl⟩) | (refine ai rfl 141 (.tmp 2) (.tmp 35) rfl rfl w.heap.size #[.int .i64 0,.int .i64 0,.int .i64 0,.int .i64 0,.string ⟨#[]⟩,.string ⟨#[]⟩] rfl rfl w hbel0 (Nat.le_refl _) 141 _ hblk0 aa aa aa ?_;intro W3 hb3 hbox3 _))
         exact bodyPost_ret (results_cell_tmp Tryz.results178 _ W3 w.heap.size 141 _ _ _ rfl rfl hbox3 Tryz.underlying141 rfl aa) rfl ⟨rfl,hb3⟩
       · have e0:je s=dp (sW s):=by rw[ee,if_neg h3,if_neg h4]
         have hz1:(s.extract 11 (11+N)).size≤3100:=by rw[ByteArray.size_extract];omega
         have hz2:(s.extract (11+N) s.size).size≤3100:=by rw[ByteArray.size_extract];omega
         have hE:=fun W=>kb (sW s) W (by rw[ev];exact hz1) (by rw[ev];exact hz2);obtain⟨V,hV⟩:∃V,V=sW s:=⟨_,rfl⟩;have ev':V=⟨ay s 0 1,ay s 1 2,ay s 3 2,ay s 5 2,s.extract 11 (11+N),s.extract (11+N) s.size⟩:=hV.trans ev
         have q1:ay s 0 1=V.k:=by rw[ev']
         have q2:ay s 1 2=V.a:=by rw[ev']
         have q3:ay s 3 2=V.e:=by rw[ev']
         have q4:ay s 5 2=V.c:=by rw[ev']
         have q5:s.extract 11 (11+N)=V.o:=by rw[ev']
         have q6:s.extract (11+N) s.size=V.n:=by rw[ev']
         rw[q1] at hL0;rw[q2] at hL1;rw[q3] at hL3;rw[q4] at hL5;rw[←hV] at hE
         have hr:ur s=if je s=0 then V else CE:=by rw[hV];rfl
         rw[hr,e0,←hV];obtain⟨er,her⟩:∃e,e=dp V:=⟨_,rfl⟩;rw[←her] at hE ⊢;obtain⟨R,hR⟩:∃R,R=if er=0 then V else CE:=⟨_,rfl⟩;rw[←hR];have HRR:=Lib.hid hR;have HL0:=Lib.hid hL0;have HL1:=Lib.hid hL1;have HL3:=Lib.hid hL3;have HL5:=Lib.hid hL5;have HE:=Lib.hid hE;have Q5:=Lib.hid q5;have Q6:=Lib.hid q6
         have h3':11+(N:Int)+M≤(s.size:Int):=by omega
         have h4':(s.size:Int)≤11+(N:Int)+M:=by omega
         have w5:(11:Int)+(N:Int)≤s.size:=by omega
         clear hR hL0 hL1 hL3 hL5 hE q1 q2 q3 q4 q5 q6 ev ev' ee e0 hV hr her h3 h4 hz1 hz2;unfold gA at HE;unfold Cv at *
         go_enter Tryz.func178,Tryz.ntmps178
         go_wp2_with (first | (go_at_call 73;(with_reducible refine(HL7.out _).mono ?_);rintro e w' ⟨rfl,rfl⟩) | (go_at_call 73;(with_reducible refine(HL9.out _).mono ?_);rintro e w' ⟨rfl,rfl⟩))
         refine bE 17 _ (.cells #[.int .i64 0,.int .i64 0,.int .i64 0,.int .i64 0,.string ⟨#[]⟩,.string ⟨#[]⟩] 141) aa aa rfl aa (fun ev X=>by kernel_rfl) ?_;apply Exists.intro;refine⟨fun X hX=>?_,?_⟩
         · obtain⟨hcX,hfX⟩:=aJ hX
           have hsX:w.heap.size<X.heap.size:=by have:=hX.size;simp at this;omega
           simp only[List.take_succ_cons,List.take_zero]
           (repeat (go_big_quiet_step ((first | (go_at_call 73;(with_reducible exact Calls.reg_pure (HL0.out _))) | (go_at_call 73;(with_reducible exact Calls.reg_pure (HL1.out _))) | (go_at_call 73;(with_reducible exact Calls.reg_pure (HL3.out _))) | (go_at_call 73;(with_reducible exact Calls.reg_pure (HL5.out _)))))))
           exact wpQuiet_nil rfl
         · intro b1 W1 hbW1 hle hblk
           simp only[List.drop_succ_cons,List.drop_zero,Act.put,List.setIfInBounds_toArray,List.set_cons_succ,List.set_cons_zero];refine ai rfl 141 _ _ rfl rfl b1 _ rfl rfl _ hbW1 hle 141 _ hblk aa rfl aa ?_;intro W2 hb2 hbox2 _;rw[Q5.out,Q6.out] at hbox2;have hx2:=hbox2.cells;have hr2:=hblk0.below hb2;have hbw2:=aZ hbel0 hb2;have hlt2:=hbox2.lt;clear hbW1 hle hblk w1 w2 w4;apply wpList_nil;have HBOX2:=Lib.hid hbox2;have HR2:=Lib.hid hr2;clear hbox2 hr2;have e:=HRR.out;by_cases h0:er=0
           · rw[if_pos h0] at e
             have e:=e.symm;subst h0;subst e
             go_wp2_with (first | (go_at_call 139;(with_reducible refine(HE.out _).mono ?_);rintro e W3 ⟨rfl,hbW3⟩;have hbw3:=aZ hbw2 hbW3;have hbox3:=HBOX2.out.below hbW3;have hx3:=hbox3.cells;have hr3:=HR2.out.below hbW3;have HR3:=Lib.hid hr3;clear hbox3 hr3) | (refine ai rfl 141 (.tmp 2) (.tmp 59) rfl rfl w.heap.size #[.int .i64 V.k,.int .i64 V.a,.int .i64 V.e,.int .i64 V.c,.string V.o,.string V.n] rfl rfl w hbw3 (Nat.le_refl _) 141 _ HR3.out aa aa aa ?_;intro W4 hb4 hbox4 _))
             exact bodyPost_ret (results_cell_tmp Tryz.results178 _ W4 w.heap.size 141 _ _ _ rfl rfl hbox4 Tryz.underlying141 rfl aa) rfl ⟨rfl,hb4⟩
           · rw[if_neg h0] at e
             have h0':(er != 0)=true:=by simp[h0]
             subst e;clear h0
             go_wp2_with (first | (go_at_call 139;(with_reducible refine(HE.out _).mono ?_);rintro e W3 ⟨rfl,hbW3⟩;have hbw3:=aZ hbw2 hbW3;have hbox3:=HBOX2.out.below hbW3;have hx3:=hbox3.cells;have hr3:=HR2.out.below hbW3;have HR3:=Lib.hid hr3;clear hbox3 hr3) | (refine ai rfl 141 (.tmp 2) (.tmp 57) rfl rfl w.heap.size #[.int .i64 0,.int .i64 0,.int .i64 0,.int .i64 0,.string ⟨#[]⟩,.string ⟨#[]⟩] rfl rfl w hbw3 (Nat.le_refl _) 141 _ HR3.out aa aa aa ?_;intro W4 hb4 hbox4 _))
             exact bodyPost_ret (results_cell_tmp Tryz.results178 _ W4 w.heap.size 141 _ _ _ rfl rfl hbox4 Tryz.underlying141 rfl aa) rfl ⟨rfl,hb4⟩
open Go.RowKit Go.Sort
def AZ:Lge:=⟨0,0,0,0,0,false,CE,⟨#[]⟩⟩
def bU (s:ByteArray):ByteArray:=s.extract (16+(ay s 14 2).toNat) s.size
def fo (s:ByteArray):Lge:=⟨ay s 0 1,ay s 2 2,ay s 4 4,ay s 8 4,ay s 12 2,ay s 1 1==1,ur (bU s),s.extract 16 (16+(ay s 14 2).toNat)⟩
def bz (s:ByteArray):Int:=if 3000<s.size then 8 else if s.size<16 then 14 else if (s.size:Int)<16+ay s 14 2 then 14 else if 1<ay s 1 1 then 3 else if je (bU s)≠0 then je (bU s) else dC (fo s)
def dx (s:ByteArray):Lge:=if bz s=0 then fo s else AZ
theorem cN {s:ByteArray} {e:Int} (h:bz s=e) (h0:e≠0):dx s=AZ:=by unfold dx;rw[if_neg (by rw[h];exact h0)]
theorem mZ (s:ByteArray) (hs:s.size≤3100):(ur s).o.size≤3100∧(ur s).n.size≤3100:=by
 unfold ur
 split
 · unfold sW;dsimp only
   rw[ByteArray.size_extract,ByteArray.size_extract];omega
 · exact⟨Nat.zero_le _,Nat.zero_le _⟩
theorem nk (s:ByteArray) (w:World) (hs:s.size≤maxLen) :
 Calls Tryz.prog 110 #[.string s] w fun r w'=>r=.returned (.tuple #[dM (dx s),.int .i64 (bz s)])∧Below w.heap.size w w':=by
 have hbel0:Below w.heap.size w (w.alloc (.cells #[.int .i64 0,.int .i64 0,.int .i64 0,.int .i64 0,.int .i64 0,.bool false,.int .i64 0,.int .i64 0,.int .i64 0,.int .i64 0,.string ⟨#[]⟩,.string ⟨#[]⟩,.string ⟨#[]⟩] 143)):=aV (Below.refl _ _) _;have hblk0:Box (w.alloc (.cells #[.int .i64 0,.int .i64 0,.int .i64 0,.int .i64 0,.int .i64 0,.bool false,.int .i64 0,.int .i64 0,.int .i64 0,.int .i64 0,.string ⟨#[]⟩,.string ⟨#[]⟩,.string ⟨#[]⟩] 143)) w.heap.size #[.int .i64 0,.int .i64 0,.int .i64 0,.int .i64 0,.int .i64 0,.bool false,.int .i64 0,.int .i64 0,.int .i64 0,.int .i64 0,.string ⟨#[]⟩,.string ⟨#[]⟩,.string ⟨#[]⟩] 143:=Box.new w _ _;have hsI:=hs;unfold maxLen at hsI;by_cases h1:3000<s.size
 · have e1:bz s=8:=by unfold bz;rw[if_pos h1]
   rw[cN e1 aq,e1]
   have h1':(3000:Int)<s.size:=by omega
   clear e1 h1
   go_enter Tryz.func110,Tryz.ntmps110
   go_wp2_with (refine ai rfl 143 (.tmp 2) (.tmp 13) rfl rfl w.heap.size #[.int .i64 0,.int .i64 0,.int .i64 0,.int .i64 0,.int .i64 0,.bool false,.int .i64 0,.int .i64 0,.int .i64 0,.int .i64 0,.string ⟨#[]⟩,.string ⟨#[]⟩,.string ⟨#[]⟩] rfl rfl w hbel0 (Nat.le_refl _) 143 _ hblk0 aa aa aa ?_;intro W3 hb3 hbox3 _)
   exact bodyPost_ret (results_cell_tmp Tryz.results110 _ W3 w.heap.size 143 _ _ _ rfl rfl hbox3 Tryz.underlying143 rfl aa) rfl ⟨rfl,hb3⟩
 · have h1':(s.size:Int)≤3000:=by omega
   by_cases h2:s.size<16
   · have e1:bz s=14:=by unfold bz;rw[if_neg h1,if_pos h2]
     rw[cN e1 aq,e1]
     have h2':(s.size:Int)<16:=by omega
     clear e1 h1 h2
     go_enter Tryz.func110,Tryz.ntmps110
     go_wp2_with (refine ai rfl 143 (.tmp 2) (.tmp 17) rfl rfl w.heap.size #[.int .i64 0,.int .i64 0,.int .i64 0,.int .i64 0,.int .i64 0,.bool false,.int .i64 0,.int .i64 0,.int .i64 0,.int .i64 0,.string ⟨#[]⟩,.string ⟨#[]⟩,.string ⟨#[]⟩] rfl rfl w hbel0 (Nat.le_refl _) 143 _ hblk0 aa aa aa ?_;intro W3 hb3 hbox3 _)
     exact bodyPost_ret (results_cell_tmp Tryz.results110 _ W3 w.heap.size 143 _ _ _ rfl rfl hbox3 Tryz.underlying143 rfl aa) rfl ⟨rfl,hb3⟩
   · have h2':(16:Int)≤s.size:=by omega
     have hL:=fun (i c:Nat) (h:i+c≤s.size) (hc:c≤6) W=>im s i c h hs hc W;have hL14:∀W,Calls Tryz.prog 73 #[.string s,.int .i64 14,.int .i64 2] W fun e w'=>e=.returned (.int .i64 (ay s 14 2))∧W=w':=hL 14 2 ab ab;have hL1:∀W,Calls Tryz.prog 73 #[.string s,.int .i64 1,.int .i64 1] W fun e w'=>e=.returned (.int .i64 (ay s 1 1))∧W=w':=hL 1 1 ab ab;have hL0:∀W,Calls Tryz.prog 73 #[.string s,.int .i64 0,.int .i64 1] W fun e w'=>e=.returned (.int .i64 (ay s 0 1))∧W=w':=hL 0 1 ab ab;have hL2:∀W,Calls Tryz.prog 73 #[.string s,.int .i64 2,.int .i64 2] W fun e w'=>e=.returned (.int .i64 (ay s 2 2))∧W=w':=hL 2 2 ab ab;have hL4:∀W,Calls Tryz.prog 73 #[.string s,.int .i64 4,.int .i64 4] W fun e w'=>e=.returned (.int .i64 (ay s 4 4))∧W=w':=hL 4 4 ab ab;have hL8:∀W,Calls Tryz.prog 73 #[.string s,.int .i64 8,.int .i64 4] W fun e w'=>e=.returned (.int .i64 (ay s 8 4))∧W=w':=hL 8 4 ab ab;have hL12:∀W,Calls Tryz.prog 73 #[.string s,.int .i64 12,.int .i64 2] W fun e w'=>e=.returned (.int .i64 (ay s 12 2))∧W=w':=hL 12 2 ab ab;obtain⟨b7,c7⟩:=fD s 14;obtain⟨N,hN⟩:=Int.eq_ofNat_of_zero_le b7
     have et:bU s=s.extract (16+N) s.size:=by unfold bU;rw[hN];rfl
     have hO:=fun W=>xr (bU s) W (by rw[et,ByteArray.size_extract];unfold maxLen;omega);have ho:=mZ (bU s) (by rw[et,ByteArray.size_extract];omega)
     have ev:fo s=⟨ay s 0 1,ay s 2 2,ay s 4 4,ay s 8 4,ay s 12 2,ay s 1 1==1,ur (bU s),s.extract 16 (16+N)⟩:=by unfold fo;rw[hN];rfl
     have ee:bz s=if (s.size:Int)<16+(N:Int) then 14 else if 1<ay s 1 1 then 3 else if je (bU s)≠0 then je (bU s) else dC (fo s):=by unfold bz;rw[if_neg h1,if_neg h2,hN]
     rw[hN] at hL14 c7;have w1:IntKind.i64.wrap (16+(N:Int))=16+(N:Int):=IntWalk.i64_in _ ab
     have w3:0≤16+(N:Int):=by omega
     have w4:(16+(N:Int)).toNat=16+N:=by omega
     have HL14:=Lib.hid hL14;clear c7 hL hL14 b7 hN h1 h2;by_cases h3:(s.size:Int)<16+(N:Int)
     · have e1:bz s=14:=by rw[ee,if_pos h3]
       rw[cN e1 aq,e1];clear e1 ev ee et hO ho hL0 hL1 hL2 hL4 hL8 hL12
       go_enter Tryz.func110,Tryz.ntmps110
       go_wp2_with (first | (go_at_call 73;(with_reducible refine(HL14.out _).mono ?_);rintro e w' ⟨rfl,rfl⟩) | (refine ai rfl 143 (.tmp 2) (.tmp 25) rfl rfl w.heap.size #[.int .i64 0,.int .i64 0,.int .i64 0,.int .i64 0,.int .i64 0,.bool false,.int .i64 0,.int .i64 0,.int .i64 0,.int .i64 0,.string ⟨#[]⟩,.string ⟨#[]⟩,.string ⟨#[]⟩] rfl rfl w hbel0 (Nat.le_refl _) 143 _ hblk0 aa aa aa ?_;intro W3 hb3 hbox3 _))
       exact bodyPost_ret (results_cell_tmp Tryz.results110 _ W3 w.heap.size 143 _ _ _ rfl rfl hbox3 Tryz.underlying143 rfl aa) rfl ⟨rfl,hb3⟩
     · have h3':16+(N:Int)≤(s.size:Int):=by omega
       obtain⟨m,hm⟩:∃m,m=ay s 1 1:=⟨_,rfl⟩;have hm0:=(vV s 1).1;rw[←hm] at hL1 hm0 ee ev;have HL1:=Lib.hid hL1;clear hL1 hm;by_cases h4:1<m
       · have e1:bz s=3:=by rw[ee,if_neg h3,if_pos h4]
         rw[cN e1 aq,e1];clear e1 ev ee et hO ho hL0 hL2 hL4 hL8 hL12 h3
         go_enter Tryz.func110,Tryz.ntmps110
         go_wp2_with (first | (go_at_call 73;(with_reducible refine(HL14.out _).mono ?_);rintro e w' ⟨rfl,rfl⟩) | (go_at_call 73;(with_reducible refine(HL1.out _).mono ?_);rintro e w' ⟨rfl,rfl⟩) | (refine ai rfl 143 (.tmp 2) (.tmp 30) rfl rfl w.heap.size #[.int .i64 0,.int .i64 0,.int .i64 0,.int .i64 0,.int .i64 0,.bool false,.int .i64 0,.int .i64 0,.int .i64 0,.int .i64 0,.string ⟨#[]⟩,.string ⟨#[]⟩,.string ⟨#[]⟩] rfl rfl w hbel0 (Nat.le_refl _) 143 _ hblk0 aa aa aa ?_;intro W3 hb3 hbox3 _))
         exact bodyPost_ret (results_cell_tmp Tryz.results110 _ W3 w.heap.size 143 _ _ _ rfl rfl hbox3 Tryz.underlying143 rfl aa) rfl ⟨rfl,hb3⟩
       · have h4':m≤1:=by omega
         rw[if_neg h3,if_neg h4] at ee;rw[et] at hO;obtain⟨O,hOO⟩:∃O,O=ur (bU s):=⟨_,rfl⟩;obtain⟨eo,heo⟩:∃e,e=je (bU s):=⟨_,rfl⟩;rw[←et,←hOO,←heo,et] at hO;rw[←hOO] at ev ho;rw[←heo] at ee;unfold gA at hO;have HO:=Lib.hid hO;clear hO;by_cases h5:eo=0
         · rw[if_neg (fun h=>h h5)] at ee
           obtain⟨V,hV⟩:∃V,V=fo s:=⟨_,rfl⟩;have ev':=hV.trans ev
           have q1:ay s 0 1=V.k:=by rw[ev']
           have q2:ay s 2 2=V.t:=by rw[ev']
           have q3:ay s 4 4=V.p:=by rw[ev']
           have q4:ay s 8 4=V.x:=by rw[ev']
           have q5:ay s 12 2=V.g:=by rw[ev']
           have q6:(m==1)=V.f:=by rw[ev']
           have q7:O=V.o:=by rw[ev']
           have q8:s.extract 16 (16+N)=V.d:=by rw[ev']
           rw[q1] at hL0;rw[q2] at hL2;rw[q3] at hL4;rw[q4] at hL8;rw[q5] at hL12;have hE:=fun W=>iA V W (by rw[←q7];exact ho.1) (by rw[←q7];exact ho.2) (by rw[←q8,ByteArray.size_extract];unfold maxLen;omega);rw[AH] at hE;rw[←hV] at ee
           have hr:dx s=if bz s=0 then V else AZ:=by rw[hV];rfl
           rw[hr,ee];obtain⟨er,her⟩:∃e,e=dC V:=⟨_,rfl⟩;rw[←her] at hE ⊢;obtain⟨R,hR⟩:∃R,R=if er=0 then V else AZ:=⟨_,rfl⟩;rw[←hR];have HRR:=Lib.hid hR;have HL0:=Lib.hid hL0;have HL2:=Lib.hid hL2;have HL4:=Lib.hid hL4;have HL8:=Lib.hid hL8;have HL12:=Lib.hid hL12;have HE:=Lib.hid hE;have Q6:=Lib.hid q6;have Q8:=Lib.hid q8;clear hR hL0 hL2 hL4 hL8 hL12 hE q1 q2 q3 q4 q5 q6 q8 ev ev' ee hV hr her h3 h4 et hOO heo ho;subst q7;subst h5
           go_enter Tryz.func110,Tryz.ntmps110
           go_wp2_with (first | (go_at_call 73;(with_reducible refine(HL14.out _).mono ?_);rintro e w' ⟨rfl,rfl⟩) | (go_at_call 73;(with_reducible refine(HL1.out _).mono ?_);rintro e w' ⟨rfl,rfl⟩) | (go_at_call 178;(with_reducible refine(HO.out _).mono ?_);rintro e W1 ⟨rfl,hbW1⟩;have hbw1:=aZ hbel0 hbW1;have hr1:=hblk0.below hbW1;have hn1:=Box.new W1 #[.int .i64 0,.int .i64 0,.int .i64 0,.int .i64 0,.string ⟨#[]⟩,.string ⟨#[]⟩] 141;have hlt1:w.heap.size<W1.heap.size:=hr1.lt;have hba1:=aV hbw1 (.cells #[.int .i64 0,.int .i64 0,.int .i64 0,.int .i64 0,.string ⟨#[]⟩,.string ⟨#[]⟩] 141);have HR1:=Lib.hid hr1;have HN1:=Lib.hid hn1;clear hr1 hn1) | (refine ai rfl 141 (.tmp 6) (.tmp 37) rfl rfl W1.heap.size #[.int .i64 V.o.k,.int .i64 V.o.a,.int .i64 V.o.e,.int .i64 V.o.c,.string V.o.o,.string V.o.n] rfl rfl w hba1 (Nat.le_of_lt hlt1) 141 _ HN1.out aa aa aa ?_;intro W2 hb2 hbox2 hk2;have hr2:=hk2 _ _ _ (Nat.ne_of_lt hlt1) (HR1.out.old _);have HBOX2:=Lib.hid hbox2;have HR2:=Lib.hid hr2;clear hbox2 hr2 hk2))
           refine bE 18 _ (.cells #[.int .i64 0,.int .i64 0,.int .i64 0,.int .i64 0,.int .i64 0,.bool false,.int .i64 0,.int .i64 0,.int .i64 0,.int .i64 0,.string ⟨#[]⟩,.string ⟨#[]⟩,.string ⟨#[]⟩] 143) aa aa rfl aa (fun ev X=>by kernel_rfl) ?_;apply Exists.intro;have hx2:=HBOX2.out.cells;have hlo2:=HBOX2.out.lt;refine⟨fun X hX=>?_,?_⟩
           · obtain⟨hcX,hfX⟩:=aJ hX
             have hsX:W1.heap.size<X.heap.size:=Nat.lt_of_lt_of_le hlo2 hX.size;simp only[List.take_succ_cons,List.take_zero]
             (repeat (go_big_quiet_step ((first | (go_at_call 73;(with_reducible exact Calls.reg_pure (HL0.out _))) | (go_at_call 73;(with_reducible exact Calls.reg_pure (HL2.out _))) | (go_at_call 73;(with_reducible exact Calls.reg_pure (HL4.out _))) | (go_at_call 73;(with_reducible exact Calls.reg_pure (HL8.out _))) | (go_at_call 73;(with_reducible exact Calls.reg_pure (HL12.out _)))))))
             exact wpQuiet_nil rfl
           · intro b1 W5 hbW5 hle hblk
             simp only[List.drop_succ_cons,List.drop_zero,Act.put,List.setIfInBounds_toArray,List.set_cons_succ,List.set_cons_zero];refine ai rfl 143 _ _ rfl rfl b1 _ rfl rfl _ hbW5 hle 143 _ hblk aa rfl aa ?_;intro W6 hb6 hbox6 _;rw[Q6.out,Q8.out] at hbox6;have hx6:=hbox6.cells;have hr6:=HR2.out.below hb6;have hbw6:=aZ hb2 hb6;have hlt6:=hbox6.lt;clear hbW5 hle hblk w1 w4;apply wpList_nil;have HBOX6:=Lib.hid hbox6;have HR6:=Lib.hid hr6;clear hbox6 hr6;have e:=HRR.out;by_cases h0:er=0
             · rw[if_pos h0] at e
               have e:=e.symm;subst h0;subst e
               go_wp2_with (first | (go_at_call 107;(with_reducible refine(HE.out _).mono ?_);rintro e W7 ⟨rfl,hbW7⟩;have hbw7:=aZ hbw6 hbW7;have hbox7:=HBOX6.out.below hbW7;have hx7:=hbox7.cells;have hr7:=HR6.out.below hbW7;have HR7:=Lib.hid hr7;clear hbox7 hr7) | (refine ai rfl 143 (.tmp 2) (.tmp 67) rfl rfl w.heap.size #[.int .i64 V.k,.int .i64 V.t,.int .i64 V.p,.int .i64 V.x,.int .i64 V.g,.bool V.f,.int .i64 V.o.k,.int .i64 V.o.a,.int .i64 V.o.e,.int .i64 V.o.c,.string V.o.o,.string V.o.n,.string V.d] rfl rfl w hbw7 (Nat.le_refl _) 143 _ HR7.out aa aa aa ?_;intro W8 hb8 hbox8 _))
               exact bodyPost_ret (results_cell_tmp Tryz.results110 _ W8 w.heap.size 143 _ _ _ rfl rfl hbox8 Tryz.underlying143 rfl aa) rfl ⟨rfl,hb8⟩
             · rw[if_neg h0] at e
               have h0':(er != 0)=true:=by simp[h0]
               subst e;clear h0
               go_wp2_with (first | (go_at_call 107;(with_reducible refine(HE.out _).mono ?_);rintro e W7 ⟨rfl,hbW7⟩;have hbw7:=aZ hbw6 hbW7;have hbox7:=HBOX6.out.below hbW7;have hx7:=hbox7.cells;have hr7:=HR6.out.below hbW7;have HR7:=Lib.hid hr7;clear hbox7 hr7) | (refine ai rfl 143 (.tmp 2) (.tmp 65) rfl rfl w.heap.size #[.int .i64 0,.int .i64 0,.int .i64 0,.int .i64 0,.int .i64 0,.bool false,.int .i64 0,.int .i64 0,.int .i64 0,.int .i64 0,.string ⟨#[]⟩,.string ⟨#[]⟩,.string ⟨#[]⟩] rfl rfl w hbw7 (Nat.le_refl _) 143 _ HR7.out aa aa aa ?_;intro W8 hb8 hbox8 _))
               exact bodyPost_ret (results_cell_tmp Tryz.results110 _ W8 w.heap.size 143 _ _ _ rfl rfl hbox8 Tryz.underlying143 rfl aa) rfl ⟨rfl,hb8⟩
         · have e1:bz s=eo:=by rw[ee,if_pos h5]
           rw[cN e1 h5,e1]
           have h5':(eo != 0)=true:=by simp[h5]
           clear e1 ev ee et ho hL0 hL2 hL4 hL8 hL12 h3 h4 h5 hOO heo
           go_enter Tryz.func110,Tryz.ntmps110
           go_wp2_with (first | (go_at_call 73;(with_reducible refine(HL14.out _).mono ?_);rintro e w' ⟨rfl,rfl⟩) | (go_at_call 73;(with_reducible refine(HL1.out _).mono ?_);rintro e w' ⟨rfl,rfl⟩) | (go_at_call 178;(with_reducible refine(HO.out _).mono ?_);rintro e W1 ⟨rfl,hbW1⟩;have hbw1:=aZ hbel0 hbW1;have hr1:=hblk0.below hbW1;have hn1:=Box.new W1 #[.int .i64 0,.int .i64 0,.int .i64 0,.int .i64 0,.string ⟨#[]⟩,.string ⟨#[]⟩] 141;have hlt1:w.heap.size<W1.heap.size:=hr1.lt;have hba1:=aV hbw1 (.cells #[.int .i64 0,.int .i64 0,.int .i64 0,.int .i64 0,.string ⟨#[]⟩,.string ⟨#[]⟩] 141);have HR1:=Lib.hid hr1;have HN1:=Lib.hid hn1;clear hr1 hn1) | (refine ai rfl 141 (.tmp 6) (.tmp 37) rfl rfl W1.heap.size #[.int .i64 O.k,.int .i64 O.a,.int .i64 O.e,.int .i64 O.c,.string O.o,.string O.n] rfl rfl w hba1 (Nat.le_of_lt hlt1) 141 _ HN1.out aa aa aa ?_;intro W2 hb2 hbox2 hk2;have hr2:=hk2 _ _ _ (Nat.ne_of_lt hlt1) (HR1.out.old _);have HBOX2:=Lib.hid hbox2;have HR2:=Lib.hid hr2;clear hbox2 hr2 hk2) | (refine ai rfl 143 (.tmp 2) (.tmp 41) rfl rfl w.heap.size #[.int .i64 0,.int .i64 0,.int .i64 0,.int .i64 0,.int .i64 0,.bool false,.int .i64 0,.int .i64 0,.int .i64 0,.int .i64 0,.string ⟨#[]⟩,.string ⟨#[]⟩,.string ⟨#[]⟩] rfl rfl w hb2 (Nat.le_refl _) 143 _ HR2.out aa aa aa ?_;intro W3 hb3 hbox3 _))
           exact bodyPost_ret (results_cell_tmp Tryz.results110 _ W3 w.heap.size 143 _ _ _ rfl rfl hbox3 Tryz.underlying143 rfl aa) rfl ⟨rfl,hb3⟩
open Go.RowKit Go.Sort
theorem za (s:ByteArray) (B N:Nat) (h:B+N≤s.size):(s.extract B s.size).extract 0 N=s.extract B (B+N):=by
 apply jS;rw[bD,bD,bD];apply List.ext_getElem?;intro i;rw[List.getElem?_drop,List.getElem?_take,List.getElem?_drop,List.getElem?_take,List.getElem?_drop,List.getElem?_take,Nat.zero_add];by_cases h1:i<N
 · rw[if_pos h1,if_pos ab,if_pos ab]
 · rw[if_neg h1,if_neg ab]
theorem yj (s:ByteArray) (B N:Nat) (h:B+N≤s.size):(s.extract B s.size).extract N (s.extract B s.size).size=s.extract (B+N) s.size:=by
 apply jS;rw[bD,bD,bD,ByteArray.size_extract];apply List.ext_getElem?;intro i;rw[List.getElem?_drop,List.getElem?_take,List.getElem?_drop,List.getElem?_take,List.getElem?_drop,List.getElem?_take];by_cases h1:B+N+i<s.size
 · rw[if_pos ab,if_pos ab,if_pos ab,Nat.add_assoc]
 · rw[if_neg ab,if_neg ab]
theorem BU (s:ByteArray) (i c:Nat):num (bl ((s.extract i s.size).extract 0 c))=ay s i c:=by rw[qe];rfl
theorem B9 (s:ByteArray) (i j c:Nat) (h:j=i+c):num (bl (s.extract i j))=ay s i c:=by
 subst h;rw[bD];unfold ay
 congr 1
 apply List.ext_getElem?;intro k;rw[List.getElem?_drop,List.getElem?_take,List.getElem?_take,List.getElem?_drop];by_cases h:k<c
 · rw[if_pos h,if_pos ab]
 · rw[if_neg h,if_neg ab]
theorem Box.other {w:World} {b g:Nat} {cs:Array Value} {T:TypeId} (h:Box w b cs T) (j:Nat) (v:Value) (hne:b≠g):Box (w.setCell ⟨g,j,none⟩ v) b cs T:=(heap_setCell_other w _ b v hne).trans h
theorem fE (s:ByteArray) (i c:Nat) (hc:c≤6) (W:World):Calls Tryz.prog 171 #[.string ((s.extract i s.size).extract 0 c)] W fun e w'=>e=.returned (.int .i64 (ay s i c))∧Below W.heap.size W w':=by
 rw[←BU];exact eO _ W (by rw[ByteArray.size_extract];omega)
theorem ei (s:ByteArray) (i j c:Nat) (h:j=i+c) (hc:c≤6) (W:World):Calls Tryz.prog 171 #[.string (s.extract i j)] W fun e w'=>e=.returned (.int .i64 (ay s i c))∧Below W.heap.size W w':=by
 rw[←B9 s i j c h];exact eO _ W (by rw[ByteArray.size_extract];omega)
theorem xU (s:ByteArray) (w:World) (hs:s.size≤maxLen) :
 Calls Tryz.prog 172 #[.string s] w fun r w'=>r=.returned (.tuple #[gA (ur s),.int .i64 (je s)])∧Below w.heap.size w w':=by
 have hbel0:Below w.heap.size w (w.alloc (.cells #[.int .i64 0,.int .i64 0,.int .i64 0,.int .i64 0,.string ⟨#[]⟩,.string ⟨#[]⟩] 141)):=aV (Below.refl _ _) _;have hblk0:Box (w.alloc (.cells #[.int .i64 0,.int .i64 0,.int .i64 0,.int .i64 0,.string ⟨#[]⟩,.string ⟨#[]⟩] 141)) w.heap.size #[.int .i64 0,.int .i64 0,.int .i64 0,.int .i64 0,.string ⟨#[]⟩,.string ⟨#[]⟩] 141:=Box.new w _ _;have hsI:=hs;unfold maxLen at hsI;by_cases h1:1035<s.size
 · have e1:je s=8:=by unfold je;rw[if_pos h1]
   rw[fZ e1 aq,e1]
   have d1:decide ((s.size:Int)≤1035)=false:=by rw[decide_eq_false_iff_not];omega
   have d2:decide ((s.size:Int)≥11)=true:=by rw[decide_eq_true_eq];omega
   have h1':(1035:Int)<s.size:=by omega
   have h2':(11:Int)≤s.size:=by omega
   have hf:au [aS false 8,aS true 14]=8:=rfl;clear e1 h1
   go_enter Tryz.func172,Tryz.ntmps172
   go_upto_region 1 with (fail)
   obtain⟨W0,hW0⟩:∃W0,W0=w.alloc (.cells #[.int .i64 0,.int .i64 0,.int .i64 0,.int .i64 0,.string ⟨#[]⟩,.string ⟨#[]⟩] 141):=⟨_,rfl⟩;rw[←hW0] at hbel0 hblk0;rw[←hW0];clear hW0
   go_wp2_with (first | (go_at_call 151;refine(aB _ _ _).mono ?_;rintro e w' ⟨rfl,rfl⟩) | (go_at_call 143;refine(ax [_,_] W0 a6).mono ?_;rintro e w' ⟨rfl,rfl⟩;have hbw1:=aV hbel0 (.cells #[.int .i64 8,.int .i64 0] 28);have HB1:=Lib.hid (hblk0.old (.cells #[.int .i64 8,.int .i64 0] 28))) | (refine ai rfl 141 (.tmp 2) (.tmp 25) rfl rfl w.heap.size #[.int .i64 0,.int .i64 0,.int .i64 0,.int .i64 0,.string ⟨#[]⟩,.string ⟨#[]⟩] rfl rfl w hbw1 (Nat.le_refl _) 141 _ HB1.out aa aa aa ?_;intro W3 hb3 hbox3 _))
   exact bodyPost_ret (results_cell_tmp Tryz.results172 _ W3 w.heap.size 141 _ _ _ rfl rfl hbox3 Tryz.underlying141 rfl aa) rfl ⟨rfl,hb3⟩
 · have h1':(s.size:Int)≤1035:=by omega
   have d1:decide ((s.size:Int)≤1035)=true:=by rw[decide_eq_true_eq];omega
   by_cases h2:s.size<11
   · have e1:je s=14:=by unfold je;rw[if_neg h1,if_pos h2]
     rw[fZ e1 aq,e1]
     have d2:decide ((s.size:Int)≥11)=false:=by rw[decide_eq_false_iff_not];omega
     have h2':(s.size:Int)<11:=by omega
     have hf:au [aS true 8,aS false 14]=14:=rfl;clear e1 h1 h2
     go_enter Tryz.func172,Tryz.ntmps172
     go_upto_region 1 with (fail)
     obtain⟨W0,hW0⟩:∃W0,W0=w.alloc (.cells #[.int .i64 0,.int .i64 0,.int .i64 0,.int .i64 0,.string ⟨#[]⟩,.string ⟨#[]⟩] 141):=⟨_,rfl⟩;rw[←hW0] at hbel0 hblk0;rw[←hW0];clear hW0
     go_wp2_with (first | (go_at_call 151;refine(aB _ _ _).mono ?_;rintro e w' ⟨rfl,rfl⟩) | (go_at_call 143;refine(ax [_,_] W0 a6).mono ?_;rintro e w' ⟨rfl,rfl⟩;have hbw1:=aV hbel0 (.cells #[.int .i64 0,.int .i64 14] 28);have HB1:=Lib.hid (hblk0.old (.cells #[.int .i64 0,.int .i64 14] 28))) | (refine ai rfl 141 (.tmp 2) (.tmp 25) rfl rfl w.heap.size #[.int .i64 0,.int .i64 0,.int .i64 0,.int .i64 0,.string ⟨#[]⟩,.string ⟨#[]⟩] rfl rfl w hbw1 (Nat.le_refl _) 141 _ HB1.out aa aa aa ?_;intro W3 hb3 hbox3 _))
     exact bodyPost_ret (results_cell_tmp Tryz.results172 _ W3 w.heap.size 141 _ _ _ rfl rfl hbox3 Tryz.underlying141 rfl aa) rfl ⟨rfl,hb3⟩
   · have d2:decide ((s.size:Int)≥11)=true:=by rw[decide_eq_true_eq];omega
     have h2':(11:Int)≤s.size:=by omega
     have hf:au [aS true 8,aS true 14]=0:=rfl;have HN0:=Lib.hid (ei s 0 1 1 rfl ab);have HN1:=Lib.hid (fE s 1 2 ab);have HN3:=Lib.hid (fE s 3 2 ab);have HN5:=Lib.hid (fE s 5 2 ab);obtain⟨b7,c7⟩:=fD s 7;obtain⟨b9,c9⟩:=fD s 9;obtain⟨N,hN⟩:=Int.eq_ofNat_of_zero_le b7;obtain⟨M,hM⟩:=Int.eq_ofNat_of_zero_le b9;have hn7:=fE s 7 2 ab;have hn9:=fE s 9 2 ab;rw[hN] at hn7 c7;rw[hM] at hn9 c9;have HN7:=Lib.hid hn7;have HN9:=Lib.hid hn9;obtain⟨R,hRv⟩:∃R,R=ur s:=⟨_,rfl⟩;obtain⟨E,hEv⟩:∃E,E=je s:=⟨_,rfl⟩;rw[←hRv,←hEv];have HRv:=Lib.hid hRv;have HEv:=Lib.hid hEv;clear hRv hEv
     have ev:sW s=⟨ay s 0 1,ay s 1 2,ay s 3 2,ay s 5 2,s.extract 11 (11+N),s.extract (11+N) s.size⟩:=by unfold sW;rw[hN];rfl
     have ee:je s=if (s.size:Int)<11+(N:Int)+M then 14 else if 11+(N:Int)+M<(s.size:Int) then 3 else dp (sW s):=by unfold je;rw[if_neg h1,if_neg h2,hN,hM]
     have w1:IntKind.i64.wrap ((N:Int)+(M:Int))=(N:Int)+(M:Int):=IntWalk.i64_in _ ab
     have w3:0≤(N:Int)+(M:Int):=by omega
     have EV:=Lib.hid ev;have EE:=Lib.hid ee;have Za:=Lib.hid w1;clear hn7 hn9 b7 b9 c7 c9 hN hM ev ee h1 h2 w1
     go_enter Tryz.func172,Tryz.ntmps172
     go_upto_region 1 with (fail)
     obtain⟨W0,hW0⟩:∃W0,W0=w.alloc (.cells #[.int .i64 0,.int .i64 0,.int .i64 0,.int .i64 0,.string ⟨#[]⟩,.string ⟨#[]⟩] 141):=⟨_,rfl⟩;rw[←hW0] at hbel0 hblk0;rw[←hW0];clear hW0
     go_wp2_with (first | (go_at_call 151;refine(aB _ _ _).mono ?_;rintro e w' ⟨rfl,rfl⟩) | (go_at_call 143;refine(ax [_,_] W0 a6).mono ?_;rintro e w' ⟨rfl,rfl⟩;have hbw1:=aV hbel0 (.cells #[.int .i64 0,.int .i64 0] 28);have HB1:=Lib.hid (hblk0.old (.cells #[.int .i64 0,.int .i64 0] 28))) | (go_at_call 171;(with_reducible refine(HN0.out _).mono ?_);rintro e W1 ⟨rfl,hbW1⟩;have hbw2:=aZ hbw1 hbW1;have hr1:=HB1.out.below hbW1;have hlt1:=hr1.lt;have HR1:=Lib.hid hr1;clear hr1;have HNN:=Lib.hid (Box.new W1 #[.int .i64 0,.int .i64 0,.int .i64 0,.int .i64 0,.string ⟨#[]⟩,.string ⟨#[]⟩] 141);have hba1:=aV hbw2 (.cells #[.int .i64 0,.int .i64 0,.int .i64 0,.int .i64 0,.string ⟨#[]⟩,.string ⟨#[]⟩] 141)) | (refine ai rfl 141 (.tmp 5) (.tmp 30) rfl rfl W1.heap.size #[.int .i64 (ay s 0 1),.int .i64 0,.int .i64 0,.int .i64 0,.string ⟨#[]⟩,.string ⟨#[]⟩] rfl rfl w hba1 (Nat.le_of_lt hlt1) 141 _ HNN.out aa aa aa ?_;intro W2 hb2 hbox2 hk2;have hr2:=hk2 _ _ _ (Nat.ne_of_lt hlt1) (HR1.out.old _);have hlt2:=hbox2.lt;have HBOX2:=Lib.hid hbox2;have HR2:=Lib.hid hr2;clear hbox2 hr2 hk2))
     clear d1 d2 hf
     go_loopw [35] (fun i wr=>∃k:Nat,k≤5∧i=.int .i64 k∧Below w.heap.size w wr∧Box wr w.heap.size #[.int .i64 0,.int .i64 0,.int .i64 0,.int .i64 0,.string ⟨#[]⟩,.string ⟨#[]⟩] 141∧Box wr W1.heap.size #[.int .i64 (ay s 0 1),.int .i64 (if 0<k then ay s 1 2 else 0),.int .i64 (if 1<k then ay s 3 2 else 0),.int .i64 (if 2<k then ay s 5 2 else 0),.string ⟨#[]⟩,.string ⟨#[]⟩] 141∧Box wr W2.heap.size #[.int .i64 (if 3<k then (N:Int) else 0)] 3∧Box wr (W2.heap.size+1) #[.int .i64 (if 4<k then (M:Int) else 0)] 3) (fun i _=>5-(intOf i).toNat)
     case atStart=>exact⟨0,by omega,rfl,aV (aV hb2 _) _,(HR2.out.old _).old _,(HBOX2.out.old _).old _,(Box.new W2 _ _).old _,by simpa using Box.new (W2.alloc (.cells #[.int .i64 0] 3)) #[.int .i64 0] 3⟩
     case round=>
      obtain⟨k,hk,rfl,hb,hR,hB5,hB6,hB7⟩:=hrel
      have:k=0∨k=1∨k=2∨k=3∨k=4∨k=5:=by omega
      rcases this with rfl | rfl | rfl | rfl | rfl | rfl
      · have k5:Box wr W1.heap.size #[.int .i64 (ay s 0 1),.int .i64 (0),.int .i64 (0),.int .i64 (0),.string ⟨#[]⟩,.string ⟨#[]⟩] 141:=hB5
        have k6:Box wr W2.heap.size #[.int .i64 (0)] 3:=hB6;have k7:Box wr (W2.heap.size+1) #[.int .i64 (0)] 3:=hB7;have K5:=Lib.hid k5;have K6:=Lib.hid k6;have K7:=Lib.hid k7;have KR:=Lib.hid hR
        have hix:∀W,(Instr.index 311 (.agg #[.pointer (some ⟨W1.heap.size,1,none⟩),.pointer (some ⟨W1.heap.size,2,none⟩),.pointer (some ⟨W1.heap.size,3,none⟩),.pointer (some ⟨W2.heap.size,0,none⟩),.pointer (some ⟨W2.heap.size+1,0,none⟩)]) (.int .i64 0)).run Tryz.prog W=.ok (.pointer (some ⟨W1.heap.size,1,none⟩)) W:=fun W=>by kernel_rfl
        clear k5 k6 k7 hB5 hB6 hB7 hR
        go_wp2_with (first | (go_at_call 171;(with_reducible refine(HN1.out _).mono ?_);rintro e W3 ⟨rfl,hbW3⟩;have hbw3:=aZ hb hbW3;have H5:=Lib.hid (K5.out.below hbW3);have H6:=Lib.hid (K6.out.below hbW3);have H7:=Lib.hid (K7.out.below hbW3);have HR3:=Lib.hid (KR.out.below hbW3)) | (refine az rfl 3 (.tmp 47) (.tmp 46) rfl rfl (W1.heap.size) 1 (.int .i64 (ay s 1 2)) rfl rfl rfl aa w hbw3 ab 141 _ H5.out a6 ?_;intro W4 hb4 hbox4 hk4))
        go_roundw
        case rel=>exact⟨1,by omega,by go_num,hb4,hk4 _ _ _ ab HR3.out,hbox4,hk4 _ _ _ ab H6.out,hk4 _ _ _ ab H7.out⟩
        case measure=>simp[intOf]
      · have k5:Box wr W1.heap.size #[.int .i64 (ay s 0 1),.int .i64 (ay s 1 2),.int .i64 (0),.int .i64 (0),.string ⟨#[]⟩,.string ⟨#[]⟩] 141:=hB5
        have k6:Box wr W2.heap.size #[.int .i64 (0)] 3:=hB6;have k7:Box wr (W2.heap.size+1) #[.int .i64 (0)] 3:=hB7;have K5:=Lib.hid k5;have K6:=Lib.hid k6;have K7:=Lib.hid k7;have KR:=Lib.hid hR
        have hix:∀W,(Instr.index 311 (.agg #[.pointer (some ⟨W1.heap.size,1,none⟩),.pointer (some ⟨W1.heap.size,2,none⟩),.pointer (some ⟨W1.heap.size,3,none⟩),.pointer (some ⟨W2.heap.size,0,none⟩),.pointer (some ⟨W2.heap.size+1,0,none⟩)]) (.int .i64 1)).run Tryz.prog W=.ok (.pointer (some ⟨W1.heap.size,2,none⟩)) W:=fun W=>by kernel_rfl
        clear k5 k6 k7 hB5 hB6 hB7 hR
        go_wp2_with (first | (go_at_call 171;(with_reducible refine(HN3.out _).mono ?_);rintro e W3 ⟨rfl,hbW3⟩;have hbw3:=aZ hb hbW3;have H5:=Lib.hid (K5.out.below hbW3);have H6:=Lib.hid (K6.out.below hbW3);have H7:=Lib.hid (K7.out.below hbW3);have HR3:=Lib.hid (KR.out.below hbW3)) | (refine az rfl 3 (.tmp 47) (.tmp 46) rfl rfl (W1.heap.size) 2 (.int .i64 (ay s 3 2)) rfl rfl rfl aa w hbw3 ab 141 _ H5.out a6 ?_;intro W4 hb4 hbox4 hk4))
        go_roundw
        case rel=>exact⟨2,by omega,by go_num,hb4,hk4 _ _ _ ab HR3.out,hbox4,hk4 _ _ _ ab H6.out,hk4 _ _ _ ab H7.out⟩
        case measure=>simp[intOf]
      · have k5:Box wr W1.heap.size #[.int .i64 (ay s 0 1),.int .i64 (ay s 1 2),.int .i64 (ay s 3 2),.int .i64 (0),.string ⟨#[]⟩,.string ⟨#[]⟩] 141:=hB5
        have k6:Box wr W2.heap.size #[.int .i64 (0)] 3:=hB6;have k7:Box wr (W2.heap.size+1) #[.int .i64 (0)] 3:=hB7;have K5:=Lib.hid k5;have K6:=Lib.hid k6;have K7:=Lib.hid k7;have KR:=Lib.hid hR
        have hix:∀W,(Instr.index 311 (.agg #[.pointer (some ⟨W1.heap.size,1,none⟩),.pointer (some ⟨W1.heap.size,2,none⟩),.pointer (some ⟨W1.heap.size,3,none⟩),.pointer (some ⟨W2.heap.size,0,none⟩),.pointer (some ⟨W2.heap.size+1,0,none⟩)]) (.int .i64 2)).run Tryz.prog W=.ok (.pointer (some ⟨W1.heap.size,3,none⟩)) W:=fun W=>by kernel_rfl
        clear k5 k6 k7 hB5 hB6 hB7 hR
        go_wp2_with (first | (go_at_call 171;(with_reducible refine(HN5.out _).mono ?_);rintro e W3 ⟨rfl,hbW3⟩;have hbw3:=aZ hb hbW3;have H5:=Lib.hid (K5.out.below hbW3);have H6:=Lib.hid (K6.out.below hbW3);have H7:=Lib.hid (K7.out.below hbW3);have HR3:=Lib.hid (KR.out.below hbW3)) | (refine az rfl 3 (.tmp 47) (.tmp 46) rfl rfl (W1.heap.size) 3 (.int .i64 (ay s 5 2)) rfl rfl rfl aa w hbw3 ab 141 _ H5.out a6 ?_;intro W4 hb4 hbox4 hk4))
        go_roundw
        case rel=>exact⟨3,by omega,by go_num,hb4,hk4 _ _ _ ab HR3.out,hbox4,hk4 _ _ _ ab H6.out,hk4 _ _ _ ab H7.out⟩
        case measure=>simp[intOf]
      · have k5:Box wr W1.heap.size #[.int .i64 (ay s 0 1),.int .i64 (ay s 1 2),.int .i64 (ay s 3 2),.int .i64 (ay s 5 2),.string ⟨#[]⟩,.string ⟨#[]⟩] 141:=hB5
        have k6:Box wr W2.heap.size #[.int .i64 (0)] 3:=hB6;have k7:Box wr (W2.heap.size+1) #[.int .i64 (0)] 3:=hB7;have K5:=Lib.hid k5;have K6:=Lib.hid k6;have K7:=Lib.hid k7;have KR:=Lib.hid hR
        have hix:∀W,(Instr.index 311 (.agg #[.pointer (some ⟨W1.heap.size,1,none⟩),.pointer (some ⟨W1.heap.size,2,none⟩),.pointer (some ⟨W1.heap.size,3,none⟩),.pointer (some ⟨W2.heap.size,0,none⟩),.pointer (some ⟨W2.heap.size+1,0,none⟩)]) (.int .i64 3)).run Tryz.prog W=.ok (.pointer (some ⟨W2.heap.size,0,none⟩)) W:=fun W=>by kernel_rfl
        clear k5 k6 k7 hB5 hB6 hB7 hR
        go_wp2_with (first | (go_at_call 171;(with_reducible refine(HN7.out _).mono ?_);rintro e W3 ⟨rfl,hbW3⟩;have hbw3:=aZ hb hbW3;have H5:=Lib.hid (K5.out.below hbW3);have H6:=Lib.hid (K6.out.below hbW3);have H7:=Lib.hid (K7.out.below hbW3);have HR3:=Lib.hid (KR.out.below hbW3)) | (refine az rfl 3 (.tmp 47) (.tmp 46) rfl rfl (W2.heap.size) 0 (.int .i64 (N)) rfl rfl rfl aa w hbw3 ab 3 _ H6.out a6 ?_;intro W4 hb4 hbox4 hk4))
        go_roundw
        case rel=>exact⟨4,by omega,by go_num,hb4,hk4 _ _ _ ab HR3.out,hk4 _ _ _ ab H5.out,hbox4,hk4 _ _ _ ab H7.out⟩
        case measure=>simp[intOf]
      · have k5:Box wr W1.heap.size #[.int .i64 (ay s 0 1),.int .i64 (ay s 1 2),.int .i64 (ay s 3 2),.int .i64 (ay s 5 2),.string ⟨#[]⟩,.string ⟨#[]⟩] 141:=hB5
        have k6:Box wr W2.heap.size #[.int .i64 (N)] 3:=hB6;have k7:Box wr (W2.heap.size+1) #[.int .i64 (0)] 3:=hB7;have K5:=Lib.hid k5;have K6:=Lib.hid k6;have K7:=Lib.hid k7;have KR:=Lib.hid hR
        have hix:∀W,(Instr.index 311 (.agg #[.pointer (some ⟨W1.heap.size,1,none⟩),.pointer (some ⟨W1.heap.size,2,none⟩),.pointer (some ⟨W1.heap.size,3,none⟩),.pointer (some ⟨W2.heap.size,0,none⟩),.pointer (some ⟨W2.heap.size+1,0,none⟩)]) (.int .i64 4)).run Tryz.prog W=.ok (.pointer (some ⟨W2.heap.size+1,0,none⟩)) W:=fun W=>by kernel_rfl
        clear k5 k6 k7 hB5 hB6 hB7 hR
        go_wp2_with (first | (go_at_call 171;(with_reducible refine(HN9.out _).mono ?_);rintro e W3 ⟨rfl,hbW3⟩;have hbw3:=aZ hb hbW3;have H5:=Lib.hid (K5.out.below hbW3);have H6:=Lib.hid (K6.out.below hbW3);have H7:=Lib.hid (K7.out.below hbW3);have HR3:=Lib.hid (KR.out.below hbW3)) | (refine az rfl 3 (.tmp 47) (.tmp 46) rfl rfl (W2.heap.size+1) 0 (.int .i64 (M)) rfl rfl rfl aa w hbw3 ab 3 _ H7.out a6 ?_;intro W4 hb4 hbox4 hk4))
        go_roundw
        case rel=>exact⟨5,by omega,by go_num,hb4,hk4 _ _ _ ab HR3.out,hk4 _ _ _ ab H5.out,hk4 _ _ _ ab H6.out,hbox4⟩
        case measure=>simp[intOf]
      · have k5:Box wr W1.heap.size #[.int .i64 (ay s 0 1),.int .i64 (ay s 1 2),.int .i64 (ay s 3 2),.int .i64 (ay s 5 2),.string ⟨#[]⟩,.string ⟨#[]⟩] 141:=hB5
        have k6:Box wr W2.heap.size #[.int .i64 N] 3:=hB6;have k7:Box wr (W2.heap.size+1) #[.int .i64 M] 3:=hB7;have hx6:=k6.cells;have hx7:=k7.cells;have hl6:=k6.lt;have hl7:=k7.lt;have K5:=Lib.hid k5;have K6:=Lib.hid k6;have K7:=Lib.hid k7;have KR:=Lib.hid hR;clear k5 k6 k7 hB5 hB6 hB7 hR
        go_upto_region 12 with (fail)
        obtain⟨rs,hrs⟩:∃rs,rs=s.extract 11 s.size:=⟨_,rfl⟩;rw[←hrs]
        have hz1:(rs.size:Int)=s.size-11:=by rw[hrs,ByteArray.size_extract];omega
        have w1:=Za.out;have HRS:=Lib.hid hrs;by_cases h3:(s.size:Int)<11+(N:Int)+M
        · have e1:je s=14:=by rw[EE.out,if_pos h3]
          have E1:=Lib.hid e1
          have d3:decide ((rs.size:Int)≥(N:Int)+M)=false:=by rw[decide_eq_false_iff_not];omega
          have d3':(rs.size:Int)<(N:Int)+M:=by omega
          have d4:(rs.size:Int)≤(N:Int)+M:=by omega
          have hf:au [aS false 14,aS true 3]=14:=rfl;clear e1 h3 hz1 hrs
          (refine aM 14 aa aa ?_;simp only[List.take_succ_cons,List.take_zero,List.drop_succ_cons,List.drop_zero];(repeat (go_big_quiet_step ((first | (go_at_call 151;exact Calls.reg_pure (aB _ _ _))))));(with_reducible refine wpQuiet_nil ?_);intro W5 hreg;have hbW5:=aD hreg;clear hreg;obtain⟨hcW5,hfW5⟩:=aJ hbW5)
          go_wp2_with (first | (go_at_call 143;refine(ax [_,_] W5 a6).mono ?_;rintro e w' ⟨rfl,rfl⟩;have hbw5:=aV (aZ hb hbW5) (.cells #[.int .i64 14,.int .i64 0] 28);have HR5:=Lib.hid ((KR.out.below hbW5).old (.cells #[.int .i64 14,.int .i64 0] 28))) | (refine ai rfl 141 (.tmp 2) (.tmp 69) rfl rfl w.heap.size #[.int .i64 0,.int .i64 0,.int .i64 0,.int .i64 0,.string ⟨#[]⟩,.string ⟨#[]⟩] rfl rfl w hbw5 (Nat.le_refl _) 141 _ HR5.out aa aa aa ?_;intro W8 hb8 hbox8 _))
          exact bodyPost_ret (results_cell_tmp Tryz.results172 _ W8 w.heap.size 141 _ _ _ rfl rfl hbox8 Tryz.underlying141 rfl aa) rfl ⟨by rw[HRv.out,HEv.out,fZ E1.out aq,E1.out];rfl,hb8⟩
        · by_cases h4:11+(N:Int)+M<(s.size:Int)
          · have e1:je s=3:=by rw[EE.out,if_neg h3,if_pos h4]
            have E1:=Lib.hid e1
            have d3:(N:Int)+M≤(rs.size:Int):=by omega
            have d4:decide ((rs.size:Int)≤(N:Int)+M)=false:=by rw[decide_eq_false_iff_not];omega
            have d4':(N:Int)+M<(rs.size:Int):=by omega
            have hf:au [aS true 14,aS false 3]=3:=rfl;clear e1 h3 h4 hz1 hrs
            (refine aM 14 aa aa ?_;simp only[List.take_succ_cons,List.take_zero,List.drop_succ_cons,List.drop_zero];(repeat (go_big_quiet_step ((first | (go_at_call 151;exact Calls.reg_pure (aB _ _ _))))));(with_reducible refine wpQuiet_nil ?_);intro W5 hreg;have hbW5:=aD hreg;clear hreg;obtain⟨hcW5,hfW5⟩:=aJ hbW5)
            go_wp2_with (first | (go_at_call 143;refine(ax [_,_] W5 a6).mono ?_;rintro e w' ⟨rfl,rfl⟩;have hbw5:=aV (aZ hb hbW5) (.cells #[.int .i64 0,.int .i64 3] 28);have HR5:=Lib.hid ((KR.out.below hbW5).old (.cells #[.int .i64 0,.int .i64 3] 28))) | (refine ai rfl 141 (.tmp 2) (.tmp 69) rfl rfl w.heap.size #[.int .i64 0,.int .i64 0,.int .i64 0,.int .i64 0,.string ⟨#[]⟩,.string ⟨#[]⟩] rfl rfl w hbw5 (Nat.le_refl _) 141 _ HR5.out aa aa aa ?_;intro W8 hb8 hbox8 _))
            exact bodyPost_ret (results_cell_tmp Tryz.results172 _ W8 w.heap.size 141 _ _ _ rfl rfl hbox8 Tryz.underlying141 rfl aa) rfl ⟨by rw[HRv.out,HEv.out,fZ E1.out aq,E1.out];rfl,hb8⟩
          · have e0:je s=dp (sW s):=by rw[EE.out,if_neg h3,if_neg h4]
            have d3:(N:Int)+M≤(rs.size:Int):=by omega
            have d4:(rs.size:Int)≤(N:Int)+M:=by omega
            have hf:au [aS true 14,aS true 3]=0:=rfl;have hcl:=za s 11 N ab;have hch:=yj s 11 N ab;rw[←hrs] at hcl hch
            have hzo:(s.extract 11 (11+N)).size≤3100:=by rw[ByteArray.size_extract];omega
            have hzn:(s.extract (11+N) s.size).size≤3100:=by rw[ByteArray.size_extract];omega
            have hE:=fun W=>cp (sW s) W (by rw[EV.out];exact hzo) (by rw[EV.out];exact hzn)
            have hN1:(N:Int)≤(rs.size:Int):=by omega
            obtain⟨V,hV⟩:∃V,V=sW s:=⟨_,rfl⟩;have ev':=hV.trans EV.out
            have q1:ay s 0 1=V.k:=by rw[ev']
            have q2:ay s 1 2=V.a:=by rw[ev']
            have q3:ay s 3 2=V.e:=by rw[ev']
            have q4:ay s 5 2=V.c:=by rw[ev']
            have q5:rs.extract 0 N=V.o:=by rw[ev',hcl]
            have q6:rs.extract N rs.size=V.n:=by rw[ev',hch]
            have k5:=K5.out;rw[q1,q2,q3,q4] at k5;have K5:=Lib.hid k5;rw[←hV] at hE
            have hr:ur s=if je s=0 then V else CE:=by rw[hV];rfl
            rw[e0,←hV] at hr;rw[←hV] at e0;obtain⟨er,her⟩:∃e,e=dp V:=⟨_,rfl⟩;rw[←her] at hE hr e0;have HRV:=Lib.hid hr;have HEV:=Lib.hid e0
            have hE':∀W,Calls Tryz.prog 144 #[.agg #[.int .i64 V.k,.int .i64 V.a,.int .i64 V.e,.int .i64 V.c,.string (rs.extract 0 N),.string (rs.extract N rs.size)]] W fun r w'=>r=.returned (.int .i64 er)∧Below W.heap.size W w':=by rw[q5,q6];exact hE
            have HE:=Lib.hid hE';have Q5:=Lib.hid q5;have Q6:=Lib.hid q6;clear hE hE' q1 q2 q3 q4 q5 q6 k5 ev' e0 hr her hV h3 h4 hz1 hrs hcl hch hzo hzn
            (refine aM 14 aa aa ?_;simp only[List.take_succ_cons,List.take_zero,List.drop_succ_cons,List.drop_zero];(repeat (go_big_quiet_step ((first | (go_at_call 151;exact Calls.reg_pure (aB _ _ _))))));(with_reducible refine wpQuiet_nil ?_);intro W5 hreg;have hbW5:=aD hreg;clear hreg;obtain⟨hcW5,hfW5⟩:=aJ hbW5)
            go_wp2_with (first | (go_at_call 143;refine(ax [_,_] W5 a6).mono ?_;rintro e w' ⟨rfl,rfl⟩;have hbw5:=aV (aZ hb hbW5) (.cells #[.int .i64 0,.int .i64 0] 28);have HR5:=Lib.hid ((KR.out.below hbW5).old (.cells #[.int .i64 0,.int .i64 0] 28))))
            have g5:=(K5.out.below hbW5).old (.cells #[.int .i64 (aS true 14),.int .i64 (aS true 3)] 28);have g6:=(K6.out.below hbW5).old (.cells #[.int .i64 (aS true 14),.int .i64 (aS true 3)] 28);obtain⟨W6,hW6⟩:∃W6,W6=W5.alloc (.cells #[.int .i64 (aS true 14),.int .i64 (aS true 3)] 28):=⟨_,rfl⟩;have hr6:=(KR.out.below hbW5).old (.cells #[.int .i64 (aS true 14),.int .i64 (aS true 3)] 28);have hbw6:=aV (aZ hb hbW5) (.cells #[.int .i64 (aS true 14),.int .i64 (aS true 3)] 28);rw[←hW6] at g5 g6 hbw6 hr6;rw[←hW6];have HR6:=Lib.hid hr6;have G5:=Lib.hid g5;have G6:=Lib.hid g6;have Zb:=g5.cells;have hf5:=g5.frozen;have Zc:=g6.cells;have hl5:=g5.lt;have hl6':=g6.lt;clear hW6 hr6 g5 g6 hx6 hx7 hbw5 HR5 hbW5 hcW5 hfW5
            go_region
            by_cases h0:er=0
            · have e:=HRV.out
              rw[if_pos h0] at e;have E9:=Lib.hid e;have E8:=Lib.hid (HEV.out.trans h0);subst h0
              go_wp2_with (first | (go_at_call 144;(with_reducible refine(HE.out _).mono ?_);rintro e W7 ⟨rfl,hbW7⟩;have hbw7:Below w.heap.size w W7:=aZ (by exact((kU hbw6 _).setCell (Nat.le_of_lt hlt1) _).setCell (Nat.le_of_lt hlt1) _) hbW7;have g7:Box W7 W1.heap.size #[.int .i64 V.k,.int .i64 V.a,.int .i64 V.e,.int .i64 V.c,.string (rs.extract 0 N),.string (rs.extract N rs.size)] 141:=Box.below (by exact Box.setCell (Box.setCell G5.out 4 _) 5 _) hbW7;have hx7:=g7.cells;have G7:=Lib.hid g7;have HR7:Hid (Box W7 w.heap.size #[.int .i64 0,.int .i64 0,.int .i64 0,.int .i64 0,.string ⟨#[]⟩,.string ⟨#[]⟩] 141):=Lib.hid (Box.below (by exact Box.other (Box.other HR6.out 4 _ (Nat.ne_of_lt hlt1)) 5 _ (Nat.ne_of_lt hlt1)) hbW7);have hl7':=g7.lt;clear g7) | (refine ai rfl 141 (.tmp 2) (.tmp 85) rfl rfl w.heap.size #[.int .i64 V.k,.int .i64 V.a,.int .i64 V.e,.int .i64 V.c,.string (rs.extract 0 N),.string (rs.extract N rs.size)] rfl rfl w hbw7 (Nat.le_refl _) 141 _ HR7.out aa aa aa ?_;intro W8 hb8 hbox8 _))
              exact bodyPost_ret (results_cell_tmp Tryz.results172 _ W8 w.heap.size 141 _ _ _ rfl rfl hbox8 Tryz.underlying141 rfl aa) rfl ⟨by rw[HRv.out,HEv.out,E9.out,E8.out,Q5.out,Q6.out];rfl,hb8⟩
            · have h0':(er != 0)=true:=by simp[h0]
              have e:=HRV.out;rw[if_neg h0] at e;have E9:=Lib.hid e;clear h0 e
              go_wp2_with (first | (go_at_call 144;(with_reducible refine(HE.out _).mono ?_);rintro e W7 ⟨rfl,hbW7⟩;have hbw7:Below w.heap.size w W7:=aZ (by exact((kU hbw6 _).setCell (Nat.le_of_lt hlt1) _).setCell (Nat.le_of_lt hlt1) _) hbW7;have g7:Box W7 W1.heap.size #[.int .i64 V.k,.int .i64 V.a,.int .i64 V.e,.int .i64 V.c,.string (rs.extract 0 N),.string (rs.extract N rs.size)] 141:=Box.below (by exact Box.setCell (Box.setCell G5.out 4 _) 5 _) hbW7;have hx7:=g7.cells;have G7:=Lib.hid g7;have HR7:Hid (Box W7 w.heap.size #[.int .i64 0,.int .i64 0,.int .i64 0,.int .i64 0,.string ⟨#[]⟩,.string ⟨#[]⟩] 141):=Lib.hid (Box.below (by exact Box.other (Box.other HR6.out 4 _ (Nat.ne_of_lt hlt1)) 5 _ (Nat.ne_of_lt hlt1)) hbW7);have hl7':=g7.lt;clear g7) | (refine ai rfl 141 (.tmp 2) (.tmp 83) rfl rfl w.heap.size #[.int .i64 0,.int .i64 0,.int .i64 0,.int .i64 0,.string ⟨#[]⟩,.string ⟨#[]⟩] rfl rfl w hbw7 (Nat.le_refl _) 141 _ HR7.out aa aa aa ?_;intro W8 hb8 hbox8 _))
              exact bodyPost_ret (results_cell_tmp Tryz.results172 _ W8 w.heap.size 141 _ _ _ rfl rfl hbox8 Tryz.underlying141 rfl aa) rfl ⟨by rw[HRv.out,HEv.out,E9.out,HEV.out];rfl,hb8⟩
open Go.RowKit Go.Sort
theorem rI {a w:World} (h:Below a.heap.size a w):Below a.heap.size a w.drew:=⟨h.os,h.tape,h.output,h.size,h.block⟩
theorem Box.drew {w:World} {b:Nat} {cs:Array Value} {T:TypeId} (h:Box w b cs T):Box w.drew b cs T:=h
theorem vM (s:ByteArray) (i:Nat) (h:i<s.size):ay s i 1=(s[i].toNat:Int):=by
 unfold ay;rw[vp s i h];simp[num]
theorem vC {s:ByteArray} (h1:¬3000<s.size) (h2:¬s.size<16) (h3:¬(s.size:Int)<16+ay s 14 2) (h4:¬1<ay s 1 1):bz s=au [je (bU s),dC (fo s)]:=by
 unfold bz;rw[if_neg h1,if_neg h2,if_neg h3,if_neg h4];by_cases h:je (bU s)=0
 · rw[if_neg (fun g=>g h),h]
   by_cases h':dC (fo s)=0<;>simp[au,h']
 · rw[if_pos h];simp[au,h]
theorem qV (s:ByteArray) (w:World) (hs:s.size≤maxLen) :
 Calls Tryz.prog 106 #[.string s] w fun r w'=>r=.returned (.tuple #[dM (dx s),.int .i64 (bz s)])∧Below w.heap.size w w':=by
 have hbel0:Below w.heap.size w (w.alloc (.cells #[.int .i64 0,.int .i64 0,.int .i64 0,.int .i64 0,.int .i64 0,.bool false,.int .i64 0,.int .i64 0,.int .i64 0,.int .i64 0,.string ⟨#[]⟩,.string ⟨#[]⟩,.string ⟨#[]⟩] 143)):=aV (Below.refl _ _) _;have hblk0:Box (w.alloc (.cells #[.int .i64 0,.int .i64 0,.int .i64 0,.int .i64 0,.int .i64 0,.bool false,.int .i64 0,.int .i64 0,.int .i64 0,.int .i64 0,.string ⟨#[]⟩,.string ⟨#[]⟩,.string ⟨#[]⟩] 143)) w.heap.size #[.int .i64 0,.int .i64 0,.int .i64 0,.int .i64 0,.int .i64 0,.bool false,.int .i64 0,.int .i64 0,.int .i64 0,.int .i64 0,.string ⟨#[]⟩,.string ⟨#[]⟩,.string ⟨#[]⟩] 143:=Box.new w _ _;have hsI:=hs;unfold maxLen at hsI;by_cases h1:3000<s.size
 · have e1:bz s=8:=by unfold bz;rw[if_pos h1]
   rw[cN e1 aq,e1]
   have d1:decide ((s.size:Int)≤3000)=false:=by rw[decide_eq_false_iff_not];omega
   have d2:decide ((s.size:Int)≥16)=true:=by rw[decide_eq_true_eq];omega
   have h1':(3000:Int)<s.size:=by omega
   have h2':(16:Int)≤s.size:=by omega
   have hf:au [aS false 8,aS true 14]=8:=rfl;clear e1 h1
   go_enter Tryz.func106,Tryz.ntmps106
   go_upto_region 1 with (fail)
   obtain⟨W0,hW0⟩:∃W0,W0=w.alloc (.cells #[.int .i64 0,.int .i64 0,.int .i64 0,.int .i64 0,.int .i64 0,.bool false,.int .i64 0,.int .i64 0,.int .i64 0,.int .i64 0,.string ⟨#[]⟩,.string ⟨#[]⟩,.string ⟨#[]⟩] 143):=⟨_,rfl⟩;rw[←hW0] at hbel0 hblk0;rw[←hW0];clear hW0
   go_wp2_with (first | (go_at_call 151;refine(aB _ _ _).mono ?_;rintro e w' ⟨rfl,rfl⟩) | (go_at_call 143;refine(ax [_,_] W0 a6).mono ?_;rintro e w' ⟨rfl,rfl⟩;have hbw1:=aV hbel0 (.cells #[.int .i64 (aS false 8),.int .i64 (aS true 14)] 28);have HR1:=Lib.hid (Box.old hblk0 (.cells #[.int .i64 (aS false 8),.int .i64 (aS true 14)] 28))) | (refine ai rfl 143 (.tmp 2) (.tmp 23) rfl rfl w.heap.size #[.int .i64 0,.int .i64 0,.int .i64 0,.int .i64 0,.int .i64 0,.bool false,.int .i64 0,.int .i64 0,.int .i64 0,.int .i64 0,.string ⟨#[]⟩,.string ⟨#[]⟩,.string ⟨#[]⟩] rfl rfl w hbw1 (Nat.le_refl _) 143 _ HR1.out aa aa aa ?_;intro W3 hb3 hbox3 _))
   exact bodyPost_ret (results_cell_tmp Tryz.results106 _ W3 w.heap.size 143 _ _ _ rfl rfl hbox3 Tryz.underlying143 rfl aa) rfl ⟨rfl,hb3⟩
 · have h1':(s.size:Int)≤3000:=by omega
   have d1:decide ((s.size:Int)≤3000)=true:=by rw[decide_eq_true_eq];omega
   by_cases h2:s.size<16
   · have e1:bz s=14:=by unfold bz;rw[if_neg h1,if_pos h2]
     rw[cN e1 aq,e1]
     have d2:decide ((s.size:Int)≥16)=false:=by rw[decide_eq_false_iff_not];omega
     have h2':(s.size:Int)<16:=by omega
     have hf:au [aS true 8,aS false 14]=14:=rfl;clear e1 h1 h2
     go_enter Tryz.func106,Tryz.ntmps106
     go_upto_region 1 with (fail)
     obtain⟨W0,hW0⟩:∃W0,W0=w.alloc (.cells #[.int .i64 0,.int .i64 0,.int .i64 0,.int .i64 0,.int .i64 0,.bool false,.int .i64 0,.int .i64 0,.int .i64 0,.int .i64 0,.string ⟨#[]⟩,.string ⟨#[]⟩,.string ⟨#[]⟩] 143):=⟨_,rfl⟩;rw[←hW0] at hbel0 hblk0;rw[←hW0];clear hW0
     go_wp2_with (first | (go_at_call 151;refine(aB _ _ _).mono ?_;rintro e w' ⟨rfl,rfl⟩) | (go_at_call 143;refine(ax [_,_] W0 a6).mono ?_;rintro e w' ⟨rfl,rfl⟩;have hbw1:=aV hbel0 (.cells #[.int .i64 (aS true 8),.int .i64 (aS false 14)] 28);have HR1:=Lib.hid (Box.old hblk0 (.cells #[.int .i64 (aS true 8),.int .i64 (aS false 14)] 28))) | (refine ai rfl 143 (.tmp 2) (.tmp 23) rfl rfl w.heap.size #[.int .i64 0,.int .i64 0,.int .i64 0,.int .i64 0,.int .i64 0,.bool false,.int .i64 0,.int .i64 0,.int .i64 0,.int .i64 0,.string ⟨#[]⟩,.string ⟨#[]⟩,.string ⟨#[]⟩] rfl rfl w hbw1 (Nat.le_refl _) 143 _ HR1.out aa aa aa ?_;intro W3 hb3 hbox3 _))
     exact bodyPost_ret (results_cell_tmp Tryz.results106 _ W3 w.heap.size 143 _ _ _ rfl rfl hbox3 Tryz.underlying143 rfl aa) rfl ⟨rfl,hb3⟩
   · have d2:decide ((s.size:Int)≥16)=true:=by rw[decide_eq_true_eq];omega
     have h2':(16:Int)≤s.size:=by omega
     have hf:au [aS true 8,aS true 14]=0:=rfl
     have hs1:1<s.size:=by omega
     have hs1':(1:Int)<s.size:=by omega
     have HN0:=Lib.hid (ei s 0 1 1 rfl ab);have HN2:=Lib.hid (ei s 2 4 2 rfl ab);have HN4:=Lib.hid (ei s 4 8 4 rfl ab);have HN8:=Lib.hid (ei s 8 12 4 rfl ab);have HN12:=Lib.hid (ei s 12 14 2 rfl ab);obtain⟨b7,c7⟩:=fD s 14;obtain⟨N,hN⟩:=Int.eq_ofNat_of_zero_le b7;have hn14:=ei s 14 16 2 rfl ab;rw[hN] at hn14;have HN14:=Lib.hid hn14;have hm1:=vM s 1 hs1;obtain⟨R,hRv⟩:∃R,R=dx s:=⟨_,rfl⟩;obtain⟨E,hEv⟩:∃E,E=bz s:=⟨_,rfl⟩;rw[←hRv,←hEv];have HRv:=Lib.hid hRv;have HEv:=Lib.hid hEv
     have e14:(s.size:Int)<16+(N:Int)→bz s=14:=fun h=>by unfold bz;rw[if_neg h1,if_neg h2,hN,if_pos h]
     have e3:¬(s.size:Int)<16+(N:Int)→(1:Int)<(s[1].toNat:Int)→bz s=3:=fun h h'=>by unfold bz;rw[if_neg h1,if_neg h2,hN,if_neg h,hm1,if_pos h']
     have eok:¬(s.size:Int)<16+(N:Int)→¬(1:Int)<(s[1].toNat:Int)→bz s=au [je (bU s),dC (fo s)]:=fun h h'=>vC h1 h2 (by rw[hN];exact h) (by rw[hm1];exact h')
     have et:bU s=s.extract (16+N) s.size:=by unfold bU;rw[hN];rfl
     have ev:fo s=⟨ay s 0 1,ay s 2 2,ay s 4 4,ay s 8 4,ay s 12 2,(s[1].toNat:Int)==1,ur (bU s),s.extract 16 (16+N)⟩:=by unfold fo;rw[hN,hm1];rfl
     have E14:=Lib.hid e14;have E3:=Lib.hid e3;have EOK:=Lib.hid eok;have ET:=Lib.hid et;have EV:=Lib.hid ev;clear hn14 b7 c7 hN hm1 hRv hEv e14 e3 eok et ev h1 h2
     go_enter Tryz.func106,Tryz.ntmps106
     go_upto_region 1 with (fail)
     obtain⟨W0,hW0⟩:∃W0,W0=w.alloc (.cells #[.int .i64 0,.int .i64 0,.int .i64 0,.int .i64 0,.int .i64 0,.bool false,.int .i64 0,.int .i64 0,.int .i64 0,.int .i64 0,.string ⟨#[]⟩,.string ⟨#[]⟩,.string ⟨#[]⟩] 143):=⟨_,rfl⟩;rw[←hW0] at hbel0 hblk0;rw[←hW0];clear hW0
     go_wp2_with (first | (go_at_call 151;refine(aB _ _ _).mono ?_;rintro e w' ⟨rfl,rfl⟩) | (go_at_call 143;refine(ax [_,_] W0 a6).mono ?_;rintro e w' ⟨rfl,rfl⟩;have hbw1:=aV hbel0 (.cells #[.int .i64 (aS true 8),.int .i64 (aS true 14)] 28);have HR1:=Lib.hid (Box.old hblk0 (.cells #[.int .i64 (aS true 8),.int .i64 (aS true 14)] 28))))
     have hr1:=HR1.out;obtain⟨W1,hW1⟩:∃W1,W1=W0.alloc (.cells #[.int .i64 (aS true 8),.int .i64 (aS true 14)] 28):=⟨_,rfl⟩;rw[←hW1] at hbw1 hr1;rw[←hW1];clear hW1 HR1 hbel0 hblk0 d1 d2 hf;have HR1:=Lib.hid hr1;clear hr1;refine bE 19 _ (.cells #[.int .i64 0,.int .i64 0,.int .i64 0,.int .i64 0,.int .i64 0,.bool false,.int .i64 0,.int .i64 0,.int .i64 0,.int .i64 0,.string ⟨#[]⟩,.string ⟨#[]⟩,.string ⟨#[]⟩] 143) aa aa rfl aa (fun ev X=>by kernel_rfl) ?_;apply Exists.intro;refine⟨fun X hX=>?_,?_⟩
     · obtain⟨hcX,hfX⟩:=aJ hX
       simp only[List.take_succ_cons,List.take_zero]
       (repeat (go_big_quiet_step ((first | (go_at_call 171;(with_reducible exact Calls.regrown_of (HN0.out _))) | (go_at_call 171;(with_reducible exact Calls.regrown_of (HN2.out _))) | (go_at_call 171;(with_reducible exact Calls.regrown_of (HN4.out _))) | (go_at_call 171;(with_reducible exact Calls.regrown_of (HN8.out _))) | (go_at_call 171;(with_reducible exact Calls.regrown_of (HN12.out _)))))))
       exact wpQuiet_nil rfl
     · intro b1 W2 hbW2 hle hblk
       simp only[List.drop_succ_cons,List.drop_zero,Act.put,List.setIfInBounds_toArray,List.set_cons_succ,List.set_cons_zero];refine ai rfl 143 _ _ rfl rfl b1 #[.int .i64 (ay s 0 1),.int .i64 (ay s 2 2),.int .i64 (ay s 4 4),.int .i64 (ay s 8 4),.int .i64 (ay s 12 2),.bool ((s[1].toNat:Int)==1),.int .i64 0,.int .i64 0,.int .i64 0,.int .i64 0,.string ⟨#[]⟩,.string ⟨#[]⟩,.string ⟨#[]⟩] rfl rfl _ hbW2 hle 143 _ hblk aa rfl aa ?_;intro W3 hb3 hbox3 _;have hr3:=HR1.out.below hb3;have hbw3:=aZ hbw1 hb3;have hwb:w.heap.size<b1:=Nat.lt_of_lt_of_le HR1.out.lt hle;have HBX:=Lib.hid hbox3;have HR3:=Lib.hid hr3;clear hbW2 hle hblk hbox3 hr3 hb3;apply wpList_nil
       go_wp2_with fail
       (refine wp_region_quiet_below aa aa ?_;(repeat (go_big_quiet_step ((first | (go_at_call 171;(with_reducible exact Calls.regrown_of (HN14.out _)))))));(with_reducible refine wpQuiet_nil ?_);intro W4 hreg;have hbW4:=aD hreg;clear hreg;obtain⟨hcW4,hfW4⟩:=aJ hbW4)
       go_upto_region 6 with (fail)
       obtain⟨rs,hrs⟩:∃rs,rs=s.extract 16 s.size:=⟨_,rfl⟩;rw[←hrs]
       have hz1:(rs.size:Int)=s.size-16:=by rw[hrs,ByteArray.size_extract];omega
       have HRS:=Lib.hid hrs;have hbw4:=aZ hbw3 hbW4;have HR4:=Lib.hid (HR3.out.below hbW4);have HB4:=Lib.hid (HBX.out.below hbW4);clear hrs hcW4 hfW4 hbW4;by_cases h3:(s.size:Int)<16+(N:Int)
       · have E1:=Lib.hid (E14.out ab)
         have d3:decide (N≤rs.size)=false:=by rw[decide_eq_false_iff_not];omega
         have d3':(rs.size:Int)<(N:Int):=by omega
         by_cases h4:(1:Int)<(s[1].toNat:Int)
         · have d4:decide ((s[1].toNat:Int)≤1)=false:=by rw[decide_eq_false_iff_not];omega
           have hf:au [aS false 14,aS false 3]=14:=rfl;clear h3 hz1
           (refine aM 9 aa aa ?_;simp only[List.take_succ_cons,List.take_zero,List.drop_succ_cons,List.drop_zero];(repeat (go_big_quiet_step ((first | (go_at_call 151;exact Calls.reg_pure (aB _ _ _))))));(with_reducible refine wpQuiet_nil ?_);intro W5 hreg;have hbW5:=aD hreg;clear hreg;obtain⟨hcW5,hfW5⟩:=aJ hbW5)
           go_wp2_with (first | (go_at_call 143;refine(ax [_,_] W5 a6).mono ?_;rintro e w' ⟨rfl,rfl⟩;have hbw5:=aV (aZ hbw4 hbW5) (.cells #[.int .i64 (aS false 14),.int .i64 (aS false 3)] 28);have HR5:=Lib.hid (Box.old (HR4.out.below hbW5) (.cells #[.int .i64 (aS false 14),.int .i64 (aS false 3)] 28))) | (refine ai rfl 143 (.tmp 2) (.tmp 62) rfl rfl w.heap.size #[.int .i64 0,.int .i64 0,.int .i64 0,.int .i64 0,.int .i64 0,.bool false,.int .i64 0,.int .i64 0,.int .i64 0,.int .i64 0,.string ⟨#[]⟩,.string ⟨#[]⟩,.string ⟨#[]⟩] rfl rfl w hbw5 (Nat.le_refl _) 143 _ HR5.out aa aa aa ?_;intro W8 hb8 hbox8 _))
           exact bodyPost_ret (results_cell_tmp Tryz.results106 _ W8 w.heap.size 143 _ _ _ rfl rfl hbox8 Tryz.underlying143 rfl aa) rfl ⟨by rw[HRv.out,HEv.out,cN E1.out aq,E1.out];rfl,hb8⟩
         · have d4:(s[1].toNat:Int)≤1:=by omega
           have hf:au [aS false 14,aS true 3]=14:=rfl;clear h3 h4 hz1
           (refine aM 9 aa aa ?_;simp only[List.take_succ_cons,List.take_zero,List.drop_succ_cons,List.drop_zero];(repeat (go_big_quiet_step ((first | (go_at_call 151;exact Calls.reg_pure (aB _ _ _))))));(with_reducible refine wpQuiet_nil ?_);intro W5 hreg;have hbW5:=aD hreg;clear hreg;obtain⟨hcW5,hfW5⟩:=aJ hbW5)
           go_wp2_with (first | (go_at_call 143;refine(ax [_,_] W5 a6).mono ?_;rintro e w' ⟨rfl,rfl⟩;have hbw5:=aV (aZ hbw4 hbW5) (.cells #[.int .i64 (aS false 14),.int .i64 (aS true 3)] 28);have HR5:=Lib.hid (Box.old (HR4.out.below hbW5) (.cells #[.int .i64 (aS false 14),.int .i64 (aS true 3)] 28))) | (refine ai rfl 143 (.tmp 2) (.tmp 62) rfl rfl w.heap.size #[.int .i64 0,.int .i64 0,.int .i64 0,.int .i64 0,.int .i64 0,.bool false,.int .i64 0,.int .i64 0,.int .i64 0,.int .i64 0,.string ⟨#[]⟩,.string ⟨#[]⟩,.string ⟨#[]⟩] rfl rfl w hbw5 (Nat.le_refl _) 143 _ HR5.out aa aa aa ?_;intro W8 hb8 hbox8 _))
           exact bodyPost_ret (results_cell_tmp Tryz.results106 _ W8 w.heap.size 143 _ _ _ rfl rfl hbox8 Tryz.underlying143 rfl aa) rfl ⟨by rw[HRv.out,HEv.out,cN E1.out aq,E1.out];rfl,hb8⟩
       · by_cases h4:(1:Int)<(s[1].toNat:Int)
         · have E1:=Lib.hid (E3.out ab ab)
           have d3:(N:Int)≤(rs.size:Int):=by omega
           have d4:decide ((s[1].toNat:Int)≤1)=false:=by rw[decide_eq_false_iff_not];omega
           have hf:au [aS true 14,aS false 3]=3:=rfl;clear h3 hz1
           (refine aM 9 aa aa ?_;simp only[List.take_succ_cons,List.take_zero,List.drop_succ_cons,List.drop_zero];(repeat (go_big_quiet_step ((first | (go_at_call 151;exact Calls.reg_pure (aB _ _ _))))));(with_reducible refine wpQuiet_nil ?_);intro W5 hreg;have hbW5:=aD hreg;clear hreg;obtain⟨hcW5,hfW5⟩:=aJ hbW5)
           go_wp2_with (first | (go_at_call 143;refine(ax [_,_] W5 a6).mono ?_;rintro e w' ⟨rfl,rfl⟩;have hbw5:=aV (aZ hbw4 hbW5) (.cells #[.int .i64 (aS true 14),.int .i64 (aS false 3)] 28);have HR5:=Lib.hid (Box.old (HR4.out.below hbW5) (.cells #[.int .i64 (aS true 14),.int .i64 (aS false 3)] 28))) | (refine ai rfl 143 (.tmp 2) (.tmp 62) rfl rfl w.heap.size #[.int .i64 0,.int .i64 0,.int .i64 0,.int .i64 0,.int .i64 0,.bool false,.int .i64 0,.int .i64 0,.int .i64 0,.int .i64 0,.string ⟨#[]⟩,.string ⟨#[]⟩,.string ⟨#[]⟩] rfl rfl w hbw5 (Nat.le_refl _) 143 _ HR5.out aa aa aa ?_;intro W8 hb8 hbox8 _))
           exact bodyPost_ret (results_cell_tmp Tryz.results106 _ W8 w.heap.size 143 _ _ _ rfl rfl hbox8 Tryz.underlying143 rfl aa) rfl ⟨by rw[HRv.out,HEv.out,cN E1.out aq,E1.out];rfl,hb8⟩
         · have d3:(N:Int)≤(rs.size:Int):=by omega
           have d4:(s[1].toNat:Int)≤1:=by omega
           have hf:au [aS true 14,aS true 3]=0:=rfl;have hcl:=za s 16 N ab;have hch:=yj s 16 N ab;rw[←HRS.out] at hcl hch;have hte:rs.extract N rs.size=bU s:=hch.trans ET.out.symm
           have hsz:(rs.extract N rs.size).size≤3100:=by rw[ByteArray.size_extract];omega
           have hO:=fun W=>xU (rs.extract N rs.size) W (by unfold maxLen;omega);have ho:=mZ (rs.extract N rs.size) hsz;rw[hte] at hO ho;have eok:=EOK.out ab ab;have ev:=EV.out;obtain⟨O,hOO⟩:∃O,O=ur (bU s):=⟨_,rfl⟩;obtain⟨eo,heo⟩:∃e,e=je (bU s):=⟨_,rfl⟩;rw[←hOO,←heo] at hO;rw[←hOO] at ho ev;rw[←heo] at eok;rw[←hte] at hO;rw[←hcl] at ev;have hE:=fun W=>kD (ay s 0 1) (ay s 2 2) (ay s 4 4) (ay s 8 4) (ay s 12 2) ((s[1].toNat:Int)==1) O (rs.extract 0 N) W ho.1 ho.2 (by rw[ByteArray.size_extract];unfold maxLen;omega);rw[←ev] at hE;obtain⟨e2,he2⟩:∃e,e=dC (fo s):=⟨_,rfl⟩;rw[←he2] at hE eok;unfold gA at hO;have HO:=Lib.hid hO;have HE:=Lib.hid hE;have EOK2:=Lib.hid eok;have EV2:=Lib.hid ev;have hN1:(N:Int)≤(rs.size:Int):=d3;clear hO hE eok ev hcl hch hte hsz ho hOO heo he2 h3 h4 hz1
           (refine aM 9 aa aa ?_;simp only[List.take_succ_cons,List.take_zero,List.drop_succ_cons,List.drop_zero];(repeat (go_big_quiet_step ((first | (go_at_call 151;exact Calls.reg_pure (aB _ _ _))))));(with_reducible refine wpQuiet_nil ?_);intro W5 hreg;have hbW5:=aD hreg;clear hreg;obtain⟨hcW5,hfW5⟩:=aJ hbW5)
           go_wp2_with (first | (go_at_call 143;refine(ax [_,_] W5 a6).mono ?_;rintro e w' ⟨rfl,rfl⟩;have hbw5:=aV (aZ hbw4 hbW5) (.cells #[.int .i64 (aS true 14),.int .i64 (aS true 3)] 28);have HR5:=Lib.hid (Box.old (HR4.out.below hbW5) (.cells #[.int .i64 (aS true 14),.int .i64 (aS true 3)] 28))) | (go_at_call 172;(with_reducible refine(HO.out _).mono ?_);rintro e W6 ⟨rfl,hbW6⟩;have hbw6:=aZ hbw5 hbW6;have hr6:=HR5.out.below hbW6;have hlt6:=hr6.lt;have hx6:=((HB4.out.below hbW5).old (.cells #[.int .i64 (aS true 14),.int .i64 (aS true 3)] 28)).below hbW6;have hltb:=hx6.lt;have HR6:=Lib.hid hr6;have HX6:=Lib.hid hx6;have HNN:=Lib.hid (Box.new W6 #[.int .i64 0,.int .i64 0,.int .i64 0,.int .i64 0,.string ⟨#[]⟩,.string ⟨#[]⟩] 141);have hba6:=aV hbw6 (.cells #[.int .i64 0,.int .i64 0,.int .i64 0,.int .i64 0,.string ⟨#[]⟩,.string ⟨#[]⟩] 141);clear hr6 hx6) | (refine ai rfl 141 (.tmp 9) (.tmp 69) rfl rfl W6.heap.size #[.int .i64 O.k,.int .i64 O.a,.int .i64 O.e,.int .i64 O.c,.string O.o,.string O.n] rfl rfl w hba6 (Nat.le_of_lt hlt6) 141 _ HNN.out aa aa aa ?_;intro W7 hb7 hbox7 hk7;have hr7:=hk7 _ _ _ (Nat.ne_of_lt hlt6) (HR6.out.old _);have hx7:=hk7 _ _ _ (Nat.ne_of_lt hltb) (HX6.out.old _);have HBO:=Lib.hid hbox7;have HR7:=Lib.hid hr7;have HX7:=Lib.hid hx7;clear hbox7 hr7 hx7 hk7))
           have Za:=HBO.out.cells;have hl9:=HBO.out.lt;have hcx:=HX7.out.cells;have hfx:=HX7.out.frozen;have hlx:=HX7.out.lt;clear hcW5 hfW5
           go_region
           have y0:=HX7.out.setCell 12 (.string (rs.extract 0 N));have r0:=HR7.out.other 12 (.string (rs.extract 0 N)) (Nat.ne_of_lt hwb);have z0:=Below.setCell (p:=⟨b1,12,none⟩) hb7 (Nat.le_of_lt hwb) (.string (rs.extract 0 N));have y1:=y0.setCell 6 (.int .i64 O.k);have r1:=r0.other 6 (.int .i64 O.k) (Nat.ne_of_lt hwb);have z1:=Below.setCell (p:=⟨b1,6,none⟩) z0 (Nat.le_of_lt hwb) (.int .i64 O.k);have y2:=y1.setCell 7 (.int .i64 O.a);have r2:=r1.other 7 (.int .i64 O.a) (Nat.ne_of_lt hwb);have z2:=Below.setCell (p:=⟨b1,7,none⟩) z1 (Nat.le_of_lt hwb) (.int .i64 O.a);have y3:=y2.setCell 8 (.int .i64 O.e);have r3:=r2.other 8 (.int .i64 O.e) (Nat.ne_of_lt hwb);have z3:=Below.setCell (p:=⟨b1,8,none⟩) z2 (Nat.le_of_lt hwb) (.int .i64 O.e);have y4:=y3.setCell 9 (.int .i64 O.c);have r4:=r3.other 9 (.int .i64 O.c) (Nat.ne_of_lt hwb);have z4:=Below.setCell (p:=⟨b1,9,none⟩) z3 (Nat.le_of_lt hwb) (.int .i64 O.c);have y5:=y4.setCell 10 (.string O.o);have r5:=r4.other 10 (.string O.o) (Nat.ne_of_lt hwb);have z5:=Below.setCell (p:=⟨b1,10,none⟩) z4 (Nat.le_of_lt hwb) (.string O.o);have y6:=y5.setCell 11 (.string O.n);have r6:=r5.other 11 (.string O.n) (Nat.ne_of_lt hwb);have z6:=Below.setCell (p:=⟨b1,11,none⟩) z5 (Nat.le_of_lt hwb) (.string O.n);have Y6:Hid (Box _ b1 #[.int .i64 (ay s 0 1),.int .i64 (ay s 2 2),.int .i64 (ay s 4 4),.int .i64 (ay s 8 4),.int .i64 (ay s 12 2),.bool ((s[1].toNat:Int)==1),.int .i64 O.k,.int .i64 O.a,.int .i64 O.e,.int .i64 O.c,.string O.o,.string O.n,.string (rs.extract 0 N)] 143):=Lib.hid y6;have R6:=Lib.hid r6;have Z6:=Lib.hid z6;clear y0 r0 z0 y1 r1 z1 y2 r2 z2 y3 r3 z3 y4 r4 z4 y5 r5 z5 y6 r6 z6;obtain⟨e9,he9⟩:∃e,e=au [eo,e2]:=⟨_,rfl⟩;have HF9:=Lib.hid he9;have hfi:au [eo,e2]=e9:=he9.symm;by_cases h0:e9=0
           · have E8:=Lib.hid (EOK2.out.trans (hfi.trans h0))
             have hfi':(au [eo,e2] != 0)=false:=by rw[hfi,h0];rfl
             clear he9 hfi h0
             go_wp2_with (first | (go_at_call 154;(with_reducible refine(HE.out _).mono ?_);rintro e W9 ⟨rfl,hbW9⟩;have hbw9:Below w.heap.size w W9:=aZ (rI Z6.out) hbW9;have g9:Box W9 b1 #[.int .i64 (ay s 0 1),.int .i64 (ay s 2 2),.int .i64 (ay s 4 4),.int .i64 (ay s 8 4),.int .i64 (ay s 12 2),.bool ((s[1].toNat:Int)==1),.int .i64 O.k,.int .i64 O.a,.int .i64 O.e,.int .i64 O.c,.string O.o,.string O.n,.string (rs.extract 0 N)] 143:=Box.below (Box.drew Y6.out) hbW9;have hx9:=g9.cells;have hl9':=g9.lt;have G9:=Lib.hid g9;have HR9:Hid (Box W9 w.heap.size #[.int .i64 0,.int .i64 0,.int .i64 0,.int .i64 0,.int .i64 0,.bool false,.int .i64 0,.int .i64 0,.int .i64 0,.int .i64 0,.string ⟨#[]⟩,.string ⟨#[]⟩,.string ⟨#[]⟩] 143):=Lib.hid (Box.below (Box.drew R6.out) hbW9);clear g9) | (go_at_call 143;refine(ax [_,_] W9 a6).mono ?_;rintro e w' ⟨rfl,rfl⟩;have hbw10:=aV hbw9 (.cells #[.int .i64 eo,.int .i64 e2] 28);have HR10:=Lib.hid (Box.old HR9.out (.cells #[.int .i64 eo,.int .i64 e2] 28));have hx10:=(Box.old G9.out (.cells #[.int .i64 eo,.int .i64 e2] 28)).cells) | (refine ai rfl 143 (.tmp 2) (.tmp 86) rfl rfl w.heap.size #[.int .i64 (ay s 0 1),.int .i64 (ay s 2 2),.int .i64 (ay s 4 4),.int .i64 (ay s 8 4),.int .i64 (ay s 12 2),.bool ((s[1].toNat:Int)==1),.int .i64 O.k,.int .i64 O.a,.int .i64 O.e,.int .i64 O.c,.string O.o,.string O.n,.string (rs.extract 0 N)] rfl rfl w hbw10 (Nat.le_refl _) 143 _ HR10.out aa aa aa ?_;intro W11 hb11 hbox11 _))
             exact bodyPost_ret (results_cell_tmp Tryz.results106 _ W11 w.heap.size 143 _ _ _ rfl rfl hbox11 Tryz.underlying143 rfl aa) rfl ⟨by rw[HRv.out,HEv.out,E8.out];unfold dx;rw[if_pos E8.out,EV2.out];rfl,hb11⟩
           · have E8:=Lib.hid (EOK2.out.trans hfi)
             have hfi':(au [eo,e2] != 0)=true:=by rw[hfi];simp[h0]
             have H0:=Lib.hid h0;clear he9 hfi h0
             go_wp2_with (first | (go_at_call 154;(with_reducible refine(HE.out _).mono ?_);rintro e W9 ⟨rfl,hbW9⟩;have hbw9:Below w.heap.size w W9:=aZ (rI Z6.out) hbW9;have g9:Box W9 b1 #[.int .i64 (ay s 0 1),.int .i64 (ay s 2 2),.int .i64 (ay s 4 4),.int .i64 (ay s 8 4),.int .i64 (ay s 12 2),.bool ((s[1].toNat:Int)==1),.int .i64 O.k,.int .i64 O.a,.int .i64 O.e,.int .i64 O.c,.string O.o,.string O.n,.string (rs.extract 0 N)] 143:=Box.below (Box.drew Y6.out) hbW9;have hx9:=g9.cells;have hl9':=g9.lt;have G9:=Lib.hid g9;have HR9:Hid (Box W9 w.heap.size #[.int .i64 0,.int .i64 0,.int .i64 0,.int .i64 0,.int .i64 0,.bool false,.int .i64 0,.int .i64 0,.int .i64 0,.int .i64 0,.string ⟨#[]⟩,.string ⟨#[]⟩,.string ⟨#[]⟩] 143):=Lib.hid (Box.below (Box.drew R6.out) hbW9);clear g9) | (go_at_call 143;refine(ax [_,_] W9 a6).mono ?_;rintro e w' ⟨rfl,rfl⟩;have hbw10:=aV hbw9 (.cells #[.int .i64 eo,.int .i64 e2] 28);have HR10:=Lib.hid (Box.old HR9.out (.cells #[.int .i64 eo,.int .i64 e2] 28));have hx10:=(Box.old G9.out (.cells #[.int .i64 eo,.int .i64 e2] 28)).cells) | (refine ai rfl 143 (.tmp 2) (.tmp 84) rfl rfl w.heap.size #[.int .i64 0,.int .i64 0,.int .i64 0,.int .i64 0,.int .i64 0,.bool false,.int .i64 0,.int .i64 0,.int .i64 0,.int .i64 0,.string ⟨#[]⟩,.string ⟨#[]⟩,.string ⟨#[]⟩] rfl rfl w hbw10 (Nat.le_refl _) 143 _ HR10.out aa aa aa ?_;intro W11 hb11 hbox11 _))
             exact bodyPost_ret (results_cell_tmp Tryz.results106 _ W11 w.heap.size 143 _ _ _ rfl rfl hbox11 Tryz.underlying143 rfl aa) rfl ⟨by rw[HRv.out,HEv.out,cN E8.out H0.out,E8.out,HF9.out];rfl,hb11⟩
end Go.Proofs.YtcfdpfmchchkaaaGreatDoor
