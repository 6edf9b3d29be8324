/-
  Chapter 21: the errors of operations, as the references have them: formErr, bytesErr, OpErr.
  Chapter 21: CheckOp and OpErr, joined.
-/
import Derived.Test.YtcfdpfmchchkaaaGreatDoorOpD
namespace Go.Proofs.YtcfdpfmchchkaaaGreatDoor
set_option maxRecDepth 100000
set_option maxHeartbeats 1000000
set_option linter.unusedVariables false
set_option linter.unusedSimpArgs false
open Go.RowKit Go.Sort
theorem eG (x:Op):dp x=if bm x.k 0 6=false then 15 else if bf x=false then 3 else if cx x=false then 10 else if cJ x.k=true∧bn x=0 then 17
 else if cJ x.k=true∧200<bn x then 8 else if gI x=false then 2 else 0:=by
 unfold dp
 cases hk:bm x.k 0 6
 · rfl
 · rw[if_neg aq,if_neg aq]
   have h1:(!cJ x.k||decide (0<bn x))=!(decide (cJ x.k=true∧bn x=0)):=by
    cases cJ x.k
    · simp
    · rw[Bool.eq_iff_iff];simp only[Bool.not_true,Bool.false_or,true_and,Bool.not_eq_true',decide_eq_true_eq,decide_eq_false_iff_not];omega
   have h2:(!cJ x.k||decide (bn x≤200))=!(decide (cJ x.k=true∧200<bn x)):=by
    cases cJ x.k
    · simp
    · rw[Bool.eq_iff_iff];simp only[Bool.not_true,Bool.false_or,true_and,Bool.not_eq_true',decide_eq_true_eq,decide_eq_false_iff_not];omega
   rw[h1,h2]
   cases bf x
   · simp[au,aS]
   · cases cx x
     · simp[au,aS]
     · by_cases g1:cJ x.k=true∧bn x=0
       · simp[au,aS,g1]
       · by_cases g2:cJ x.k=true∧200<bn x
         · simp only[au,aS,decide_eq_false g1,decide_eq_true g2,if_neg g1,if_pos g2];simp
         · simp only[au,aS,decide_eq_false g1,decide_eq_false g2,if_neg g1,if_neg g2]
           cases gI x<;>simp
def l9 (c:Int) (r:Bool):Int:=if c=0 then 17 else if 200<c then 8 else aS r 2
theorem bB (x:Op) (c:Int) (r:Bool) (w:World) (hc:0≤c) :
 Calls Tryz.prog 209 #[.agg #[.int .i64 x.k,.int .i64 x.a,.int .i64 x.e,.int .i64 x.c,.string x.o,.string x.n],.int .i64 c,.bool r] w fun e w'=>e=.returned (.int .i64 (l9 c r))∧Below w.heap.size w w':=by
 by_cases h0:c=0
 · subst h0
   go_enter Tryz.func209,Tryz.ntmps209
   go_wp2
   go_ret
   exact⟨rfl,bu⟩
 · have h0':(c==0)=false:=by simp[h0]
   by_cases h1:200<c
   · have e:l9 c r=8:=by unfold l9;rw[if_neg h0,if_pos h1]
     have E:=Lib.hid e;clear e h0
     go_enter Tryz.func209,Tryz.ntmps209
     go_wp2
     go_ret
     exact⟨dt E.out.symm,bu⟩
   · have e:l9 c r=aS r 2:=by unfold l9;rw[if_neg h0,if_neg h1]
     have E:=Lib.hid e;clear e h0
     cases r
     · go_enter Tryz.func209,Tryz.ntmps209
       go_wp2
       go_ret
       exact⟨dt E.out.symm,bu⟩
     · go_enter Tryz.func209,Tryz.ntmps209
       go_wp2
       go_ret
       exact⟨dt E.out.symm,bu⟩
theorem xw (a e c:Int) (o n:ByteArray) (w:World) :
 Calls Tryz.prog 208 #[.agg #[.int .i64 0,.int .i64 a,.int .i64 e,.int .i64 c,.string o,.string n]] w fun r w'=>r=.returned (.int .i64 (aS (bf ⟨0,a,e,c,o,n⟩) 3))∧Below w.heap.size w w':=by
 go_enter Tryz.func208,Tryz.ntmps208
 go_wp2
 all_goals
  go_ret
  refine⟨dt ?_,bu⟩
  (try simp only[toList_nil,isEmpty_eq] at *)
  simp_all [bf,js,ft,dc,fg,fj,bm,aS]
theorem wQ (a e c:Int) (o n:ByteArray) (w:World) :
 Calls Tryz.prog 208 #[.agg #[.int .i64 1,.int .i64 a,.int .i64 e,.int .i64 c,.string o,.string n]] w fun r w'=>r=.returned (.int .i64 (aS (bf ⟨1,a,e,c,o,n⟩) 3))∧Below w.heap.size w w':=by
 go_enter Tryz.func208,Tryz.ntmps208
 go_wp2
 all_goals
  go_ret
  refine⟨dt ?_,bu⟩
  (try simp only[toList_nil,isEmpty_eq] at *)
  simp_all [bf,js,ft,dc,fg,fj,bm,aS]
theorem xo (a e c:Int) (o n:ByteArray) (w:World) :
 Calls Tryz.prog 208 #[.agg #[.int .i64 2,.int .i64 a,.int .i64 e,.int .i64 c,.string o,.string n]] w fun r w'=>r=.returned (.int .i64 (aS (bf ⟨2,a,e,c,o,n⟩) 3))∧Below w.heap.size w w':=by
 go_enter Tryz.func208,Tryz.ntmps208
 go_wp2
 all_goals
  go_ret
  refine⟨dt ?_,bu⟩
  (try simp only[toList_nil,isEmpty_eq] at *)
  simp_all [bf,js,ft,dc,fg,fj,bm,aS]
theorem wM (a e c:Int) (o n:ByteArray) (w:World) :
 Calls Tryz.prog 208 #[.agg #[.int .i64 3,.int .i64 a,.int .i64 e,.int .i64 c,.string o,.string n]] w fun r w'=>r=.returned (.int .i64 (aS (bf ⟨3,a,e,c,o,n⟩) 3))∧Below w.heap.size w w':=by
 go_enter Tryz.func208,Tryz.ntmps208
 go_wp2
 all_goals
  go_ret
  refine⟨dt ?_,bu⟩
  (try simp only[toList_nil,isEmpty_eq] at *)
  simp_all [bf,js,ft,dc,fg,fj,bm,aS]
theorem wz (a e c:Int) (o n:ByteArray) (w:World) :
 Calls Tryz.prog 208 #[.agg #[.int .i64 4,.int .i64 a,.int .i64 e,.int .i64 c,.string o,.string n]] w fun r w'=>r=.returned (.int .i64 (aS (bf ⟨4,a,e,c,o,n⟩) 3))∧Below w.heap.size w w':=by
 go_enter Tryz.func208,Tryz.ntmps208
 go_wp2
 all_goals
  go_ret
  refine⟨dt ?_,bu⟩
  (try simp only[toList_nil,isEmpty_eq] at *)
  simp_all [bf,js,ft,dc,fg,fj,bm,aS]
theorem vr (a e c:Int) (o n:ByteArray) (w:World) :
 Calls Tryz.prog 208 #[.agg #[.int .i64 5,.int .i64 a,.int .i64 e,.int .i64 c,.string o,.string n]] w fun r w'=>r=.returned (.int .i64 (aS (bf ⟨5,a,e,c,o,n⟩) 3))∧Below w.heap.size w w':=by
 go_enter Tryz.func208,Tryz.ntmps208
 go_wp2
 all_goals
  go_ret
  refine⟨dt ?_,bu⟩
  (try simp only[toList_nil,isEmpty_eq] at *)
  simp_all [bf,js,ft,dc,fg,fj,bm,aS]
theorem wS (a e c:Int) (o n:ByteArray) (w:World) :
 Calls Tryz.prog 208 #[.agg #[.int .i64 6,.int .i64 a,.int .i64 e,.int .i64 c,.string o,.string n]] w fun r w'=>r=.returned (.int .i64 (aS (bf ⟨6,a,e,c,o,n⟩) 3))∧Below w.heap.size w w':=by
 go_enter Tryz.func208,Tryz.ntmps208
 go_wp2
 all_goals
  go_ret
  refine⟨dt ?_,bu⟩
  (try simp only[toList_nil,isEmpty_eq] at *)
  simp_all [bf,js,ft,dc,fg,fj,bm,aS]
open Go.RowKit Go.Sort
theorem sK (x:Op) (w:World) (hk:bm x.k 0 6=false) :
 Calls Tryz.prog 144 #[gA x] w fun r w'=>r=.returned (.int .i64 (dp x))∧Below w.heap.size w w':=by
 have e:dp x=15:=by unfold dp;rw[hk];rfl
 have E:=Lib.hid e;clear e;unfold gA
 go_enter Tryz.func144,Tryz.ntmps144
 go_wp2_with (first | (go_at_call 152;refine(a8 _ _ _ _).mono ?_;rintro e w' ⟨rfl,rfl⟩))
 go_ret
 exact⟨dt E.out.symm,bu⟩
theorem cp (x:Op) (w:World) (ho:x.o.size≤3100) (hn:x.n.size≤3100) :
 Calls Tryz.prog 144 #[gA x] w fun r w'=>r=.returned (.int .i64 (dp x))∧Below w.heap.size w w':=by
 cases hk:bm x.k 0 6
 · exact sK x w hk
 · obtain⟨k,a,e,c,o,n⟩:=x
   rw[inB_true] at hk
   dsimp only at hk
   have:k=0∨k=1∨k=2∨k=3∨k=4∨k=5∨k=6:=by omega
   rcases this with rfl | rfl | rfl | rfl | rfl | rfl | rfl
   · exact vP a e c o n w ho hn
   · exact we a e c o n w ho hn
   · exact xE a e c o n w ho hn
   · exact xa a e c o n w ho hn
   · exact wF a e c o n w ho hn
   · exact vZ a e c o n w ho hn
   · exact xJ a e c o n w ho hn
theorem qa (x:Op) (w:World) (hk:bm x.k 0 6=false) :
 Calls Tryz.prog 139 #[gA x] w fun r w'=>r=.returned (.int .i64 (dp x))∧Below w.heap.size w w':=by
 have e:dp x=15:=by unfold dp;rw[hk];rfl
 have E:=Lib.hid e;clear e;unfold gA
 go_enter Tryz.func139,Tryz.ntmps139
 go_wp2_with (first | (go_at_call 74;refine(aF _ _ _ _).mono ?_;rintro e w' ⟨rfl,rfl⟩))
 go_ret
 exact⟨dt E.out.symm,bu⟩
theorem dE {k a e c:Int} {o n:ByteArray} (h:true=bf ⟨k,a,e,c,o,n⟩):(k=2→o.size=0)∧(k=3→n.size=0):=by
 simp only[bf,fg,fj,Bool.and_eq_true,Bool.or_eq_true,beq_iff_eq] at h;have h:=h.symm;simp only[Bool.and_eq_true,Bool.or_eq_true,beq_iff_eq] at h;omega
theorem ug (a e c:Int) (o n:ByteArray) (w:World) (ho:o.size≤3100) (hn:n.size≤3100) :
 Calls Tryz.prog 139 #[.agg #[.int .i64 0,.int .i64 a,.int .i64 e,.int .i64 c,.string o,.string n]] w fun r w'=>r=.returned (.int .i64 (dp ⟨0,a,e,c,o,n⟩))∧Below w.heap.size w w':=by
 have hk:bm 0 0 6=true:=rfl;obtain⟨form,hform⟩:∃b,b=bf ⟨0,a,e,c,o,n⟩:=⟨_,rfl⟩;have hF:=fun w=>xw a e c o n w;rw[←hform] at hF;have HF:=Lib.hid hF;have HForm:=Lib.hid hform;clear hF hform
 cases form
 · have h3:aS false 3=3:=rfl
   have h3':(aS false 3 != 0)=true:=rfl
   go_enter Tryz.func139,Tryz.ntmps139
   go_wp2_with (first | (go_at_call 74;refine(aF _ _ _ _).mono ?_;rintro e w' ⟨rfl,rfl⟩) | (go_at_call 208;refine(HF.out _).mono ?_;rintro e W1 ⟨rfl,hbW1⟩;obtain⟨hcW1,hfW1⟩:=aJ hbW1))
   go_ret
   refine⟨dt ?_,bu⟩;rw[eG,←HForm.out];simp[hk,aS]
 · have h3:aS true 3=0:=rfl
   have h3':(aS true 3 != 0)=false:=rfl;obtain⟨in1,hin1⟩:∃b,b=bm a 0 511:=⟨_,rfl⟩;obtain⟨in2,hin2⟩:∃b,b=bm a 0 4095:=⟨_,rfl⟩;have hW1:=fun w=>aF a 0 511 w;have hW2:=fun w=>aF a 0 4095 w;rw[←hin1] at hW1;rw[←hin2] at hW2;have Zc:=Lib.hid hW1;have Zd:=Lib.hid hW2;have Za:=Lib.hid hin1;have Zb:=Lib.hid hin2;clear hW1 hW2 hin1 hin2
   cases in1<;>cases in2
   all_goals
    first
    | (exfalso;have h1:=Za.out;have h2:=Zb.out;have h2:=h2.symm;have h1:=h1.symm;rw[eZ] at h2;rw[inB_true] at h1;omega)
    | skip
   all_goals
    (try (have hb:=inB_true.1 Za.out.symm))
    (try (have hb2:=inB_true.1 Zb.out.symm))
    go_enter Tryz.func139,Tryz.ntmps139
    go_wp2_with (first | (go_at_call 74;(with_reducible refine(Zc.out _).mono ?_);rintro e w' ⟨rfl,rfl⟩) | (go_at_call 74;(with_reducible refine(Zd.out _).mono ?_);rintro e w' ⟨rfl,rfl⟩) | (go_at_call 74;refine(aF _ _ _ _).mono ?_;rintro e w' ⟨rfl,rfl⟩) | ((go_at_call 208;(with_reducible refine(HF.out _).mono ?_);rintro e W1 ⟨rfl,hbW1⟩;obtain⟨hcW1,hfW1⟩:=aJ hbW1);have hsW1:w.heap.size<W1.heap.size:=(by have h:=hbW1.size;simp at h;omega)) | (go_at_call 209;refine(bB ⟨_,_,_,_,_,_⟩ _ _ _ ab).mono ?_;rintro e W2 ⟨rfl,hbW2⟩;obtain⟨hcW2,hfW2⟩:=aJ hbW2))
    all_goals (try ((refine wp_region_quiet_below aa aa ?_;(repeat (go_big_quiet_step ((first | (go_at_call 74;exact Calls.reg_pure (Zc.out _)) | (go_at_call 209;exact Calls.regrown_of (bB ⟨_,_,_,_,_,_⟩ _ _ _ ab))))));(with_reducible refine wpQuiet_nil ?_);intro W2 hreg;have hbW2:=aD hreg;clear hreg;obtain⟨hcW2,hfW2⟩:=aJ hbW2);go_wp2))
    all_goals
     go_ret
     refine⟨dt ?_,bu⟩;have hz:=dE HForm.out;have hi1:=Za.out;have hi2:=Zb.out;rw[eG,←HForm.out,if_neg (fun h=>absurd (hk.symm.trans h) aq),if_neg aq];clear hk h3 h3' HF HForm Zc Za Zd Zb
     (try clear hbW1 hcW1 hfW1 hsW1)
     (try clear hbW2 hcW2 hfW2)
     simp[cx,cJ,bn,gI,l9,aS,bm,ec,-ByteArray.size_eq_zero_iff] at *
     try ((repeat' split)<;>(first | omega | simp_all | (simp_all<;>omega)))
theorem ud (a e c:Int) (o n:ByteArray) (w:World) (ho:o.size≤3100) (hn:n.size≤3100) :
 Calls Tryz.prog 139 #[.agg #[.int .i64 1,.int .i64 a,.int .i64 e,.int .i64 c,.string o,.string n]] w fun r w'=>r=.returned (.int .i64 (dp ⟨1,a,e,c,o,n⟩))∧Below w.heap.size w w':=by
 have hk:bm 1 0 6=true:=rfl;obtain⟨form,hform⟩:∃b,b=bf ⟨1,a,e,c,o,n⟩:=⟨_,rfl⟩;have hF:=fun w=>wQ a e c o n w;rw[←hform] at hF;have HF:=Lib.hid hF;have HForm:=Lib.hid hform;clear hF hform
 cases form
 · have h3:aS false 3=3:=rfl
   have h3':(aS false 3 != 0)=true:=rfl
   go_enter Tryz.func139,Tryz.ntmps139
   go_wp2_with (first | (go_at_call 74;refine(aF _ _ _ _).mono ?_;rintro e w' ⟨rfl,rfl⟩) | (go_at_call 208;refine(HF.out _).mono ?_;rintro e W1 ⟨rfl,hbW1⟩;obtain⟨hcW1,hfW1⟩:=aJ hbW1))
   go_ret
   refine⟨dt ?_,bu⟩;rw[eG,←HForm.out];simp[hk,aS]
 · have h3:aS true 3=0:=rfl
   have h3':(aS true 3 != 0)=false:=rfl;obtain⟨in1,hin1⟩:∃b,b=bm a 0 511:=⟨_,rfl⟩;obtain⟨in2,hin2⟩:∃b,b=bm a 0 4095:=⟨_,rfl⟩;have hW1:=fun w=>aF a 0 511 w;have hW2:=fun w=>aF a 0 4095 w;rw[←hin1] at hW1;rw[←hin2] at hW2;have Zc:=Lib.hid hW1;have Zd:=Lib.hid hW2;have Za:=Lib.hid hin1;have Zb:=Lib.hid hin2;clear hW1 hW2 hin1 hin2
   cases in1<;>cases in2
   all_goals
    first
    | (exfalso;have h1:=Za.out;have h2:=Zb.out;have h2:=h2.symm;have h1:=h1.symm;rw[eZ] at h2;rw[inB_true] at h1;omega)
    | skip
   all_goals
    (try (have hb:=inB_true.1 Za.out.symm))
    (try (have hb2:=inB_true.1 Zb.out.symm))
    go_enter Tryz.func139,Tryz.ntmps139
    go_wp2_with (first | (go_at_call 74;(with_reducible refine(Zc.out _).mono ?_);rintro e w' ⟨rfl,rfl⟩) | (go_at_call 74;(with_reducible refine(Zd.out _).mono ?_);rintro e w' ⟨rfl,rfl⟩) | (go_at_call 74;refine(aF _ _ _ _).mono ?_;rintro e w' ⟨rfl,rfl⟩) | ((go_at_call 208;(with_reducible refine(HF.out _).mono ?_);rintro e W1 ⟨rfl,hbW1⟩;obtain⟨hcW1,hfW1⟩:=aJ hbW1);have hsW1:w.heap.size<W1.heap.size:=(by have h:=hbW1.size;simp at h;omega)) | (go_at_call 209;refine(bB ⟨_,_,_,_,_,_⟩ _ _ _ ab).mono ?_;rintro e W2 ⟨rfl,hbW2⟩;obtain⟨hcW2,hfW2⟩:=aJ hbW2))
    all_goals (try ((refine wp_region_quiet_below aa aa ?_;(repeat (go_big_quiet_step ((first | (go_at_call 74;exact Calls.reg_pure (Zc.out _)) | (go_at_call 209;exact Calls.regrown_of (bB ⟨_,_,_,_,_,_⟩ _ _ _ ab))))));(with_reducible refine wpQuiet_nil ?_);intro W2 hreg;have hbW2:=aD hreg;clear hreg;obtain⟨hcW2,hfW2⟩:=aJ hbW2);go_wp2))
    all_goals
     go_ret
     refine⟨dt ?_,bu⟩;have hz:=dE HForm.out;have hi1:=Za.out;have hi2:=Zb.out;rw[eG,←HForm.out,if_neg (fun h=>absurd (hk.symm.trans h) aq),if_neg aq];clear hk h3 h3' HF HForm Zc Za Zd Zb
     (try clear hbW1 hcW1 hfW1 hsW1)
     (try clear hbW2 hcW2 hfW2)
     simp[cx,cJ,bn,gI,l9,aS,bm,ec,-ByteArray.size_eq_zero_iff] at *
     try ((repeat' split)<;>(first | omega | simp_all | (simp_all<;>omega)))
theorem ui (a e c:Int) (o n:ByteArray) (w:World) (ho:o.size≤3100) (hn:n.size≤3100) :
 Calls Tryz.prog 139 #[.agg #[.int .i64 2,.int .i64 a,.int .i64 e,.int .i64 c,.string o,.string n]] w fun r w'=>r=.returned (.int .i64 (dp ⟨2,a,e,c,o,n⟩))∧Below w.heap.size w w':=by
 have hk:bm 2 0 6=true:=rfl;obtain⟨form,hform⟩:∃b,b=bf ⟨2,a,e,c,o,n⟩:=⟨_,rfl⟩;have hF:=fun w=>xo a e c o n w;rw[←hform] at hF;have HF:=Lib.hid hF;have HForm:=Lib.hid hform;clear hF hform
 cases form
 · have h3:aS false 3=3:=rfl
   have h3':(aS false 3 != 0)=true:=rfl
   go_enter Tryz.func139,Tryz.ntmps139
   go_wp2_with (first | (go_at_call 74;refine(aF _ _ _ _).mono ?_;rintro e w' ⟨rfl,rfl⟩) | (go_at_call 208;refine(HF.out _).mono ?_;rintro e W1 ⟨rfl,hbW1⟩;obtain⟨hcW1,hfW1⟩:=aJ hbW1))
   go_ret
   refine⟨dt ?_,bu⟩;rw[eG,←HForm.out];simp[hk,aS]
 · have h3:aS true 3=0:=rfl
   have h3':(aS true 3 != 0)=false:=rfl;obtain⟨in1,hin1⟩:∃b,b=bm a 0 511:=⟨_,rfl⟩;obtain⟨in2,hin2⟩:∃b,b=bm a 0 4095:=⟨_,rfl⟩;have hW1:=fun w=>aF a 0 511 w;have hW2:=fun w=>aF a 0 4095 w;rw[←hin1] at hW1;rw[←hin2] at hW2;have Zc:=Lib.hid hW1;have Zd:=Lib.hid hW2;have Za:=Lib.hid hin1;have Zb:=Lib.hid hin2;clear hW1 hW2 hin1 hin2
   cases in1<;>cases in2
   all_goals
    first
    | (exfalso;have h1:=Za.out;have h2:=Zb.out;have h2:=h2.symm;have h1:=h1.symm;rw[eZ] at h2;rw[inB_true] at h1;omega)
    | skip
   all_goals
    (try (have hb:=inB_true.1 Za.out.symm))
    (try (have hb2:=inB_true.1 Zb.out.symm))
    go_enter Tryz.func139,Tryz.ntmps139
    go_wp2_with (first | (go_at_call 74;(with_reducible refine(Zc.out _).mono ?_);rintro e w' ⟨rfl,rfl⟩) | (go_at_call 74;(with_reducible refine(Zd.out _).mono ?_);rintro e w' ⟨rfl,rfl⟩) | (go_at_call 74;refine(aF _ _ _ _).mono ?_;rintro e w' ⟨rfl,rfl⟩) | ((go_at_call 208;(with_reducible refine(HF.out _).mono ?_);rintro e W1 ⟨rfl,hbW1⟩;obtain⟨hcW1,hfW1⟩:=aJ hbW1);have hsW1:w.heap.size<W1.heap.size:=(by have h:=hbW1.size;simp at h;omega)) | (go_at_call 209;refine(bB ⟨_,_,_,_,_,_⟩ _ _ _ ab).mono ?_;rintro e W2 ⟨rfl,hbW2⟩;obtain⟨hcW2,hfW2⟩:=aJ hbW2))
    all_goals (try ((refine wp_region_quiet_below aa aa ?_;(repeat (go_big_quiet_step ((first | (go_at_call 74;exact Calls.reg_pure (Zc.out _)) | (go_at_call 209;exact Calls.regrown_of (bB ⟨_,_,_,_,_,_⟩ _ _ _ ab))))));(with_reducible refine wpQuiet_nil ?_);intro W2 hreg;have hbW2:=aD hreg;clear hreg;obtain⟨hcW2,hfW2⟩:=aJ hbW2);go_wp2))
    all_goals
     go_ret
     refine⟨dt ?_,bu⟩;have hz:=dE HForm.out;have hi1:=Za.out;have hi2:=Zb.out;rw[eG,←HForm.out,if_neg (fun h=>absurd (hk.symm.trans h) aq),if_neg aq];clear hk h3 h3' HF HForm Zc Za Zd Zb
     (try clear hbW1 hcW1 hfW1 hsW1)
     (try clear hbW2 hcW2 hfW2)
     simp[cx,cJ,bn,gI,l9,aS,bm,ec,-ByteArray.size_eq_zero_iff] at *
     try ((repeat' split)<;>(first | omega | simp_all | (simp_all<;>omega)))
theorem tG (a e c:Int) (o n:ByteArray) (w:World) (ho:o.size≤3100) (hn:n.size≤3100) :
 Calls Tryz.prog 139 #[.agg #[.int .i64 3,.int .i64 a,.int .i64 e,.int .i64 c,.string o,.string n]] w fun r w'=>r=.returned (.int .i64 (dp ⟨3,a,e,c,o,n⟩))∧Below w.heap.size w w':=by
 have hk:bm 3 0 6=true:=rfl;obtain⟨form,hform⟩:∃b,b=bf ⟨3,a,e,c,o,n⟩:=⟨_,rfl⟩;have hF:=fun w=>wM a e c o n w;rw[←hform] at hF;have HF:=Lib.hid hF;have HForm:=Lib.hid hform;clear hF hform
 cases form
 · have h3:aS false 3=3:=rfl
   have h3':(aS false 3 != 0)=true:=rfl
   go_enter Tryz.func139,Tryz.ntmps139
   go_wp2_with (first | (go_at_call 74;refine(aF _ _ _ _).mono ?_;rintro e w' ⟨rfl,rfl⟩) | (go_at_call 208;refine(HF.out _).mono ?_;rintro e W1 ⟨rfl,hbW1⟩;obtain⟨hcW1,hfW1⟩:=aJ hbW1))
   go_ret
   refine⟨dt ?_,bu⟩;rw[eG,←HForm.out];simp[hk,aS]
 · have h3:aS true 3=0:=rfl
   have h3':(aS true 3 != 0)=false:=rfl;obtain⟨in1,hin1⟩:∃b,b=bm a 0 511:=⟨_,rfl⟩;obtain⟨in2,hin2⟩:∃b,b=bm a 0 4095:=⟨_,rfl⟩;have hW1:=fun w=>aF a 0 511 w;have hW2:=fun w=>aF a 0 4095 w;rw[←hin1] at hW1;rw[←hin2] at hW2;have Zc:=Lib.hid hW1;have Zd:=Lib.hid hW2;have Za:=Lib.hid hin1;have Zb:=Lib.hid hin2;clear hW1 hW2 hin1 hin2
   cases in1<;>cases in2
   all_goals
    first
    | (exfalso;have h1:=Za.out;have h2:=Zb.out;have h2:=h2.symm;have h1:=h1.symm;rw[eZ] at h2;rw[inB_true] at h1;omega)
    | skip
   all_goals
    (try (have hb:=inB_true.1 Za.out.symm))
    (try (have hb2:=inB_true.1 Zb.out.symm))
    go_enter Tryz.func139,Tryz.ntmps139
    go_wp2_with (first | (go_at_call 74;(with_reducible refine(Zc.out _).mono ?_);rintro e w' ⟨rfl,rfl⟩) | (go_at_call 74;(with_reducible refine(Zd.out _).mono ?_);rintro e w' ⟨rfl,rfl⟩) | (go_at_call 74;refine(aF _ _ _ _).mono ?_;rintro e w' ⟨rfl,rfl⟩) | ((go_at_call 208;(with_reducible refine(HF.out _).mono ?_);rintro e W1 ⟨rfl,hbW1⟩;obtain⟨hcW1,hfW1⟩:=aJ hbW1);have hsW1:w.heap.size<W1.heap.size:=(by have h:=hbW1.size;simp at h;omega)) | (go_at_call 209;refine(bB ⟨_,_,_,_,_,_⟩ _ _ _ ab).mono ?_;rintro e W2 ⟨rfl,hbW2⟩;obtain⟨hcW2,hfW2⟩:=aJ hbW2))
    all_goals (try ((refine wp_region_quiet_below aa aa ?_;(repeat (go_big_quiet_step ((first | (go_at_call 74;exact Calls.reg_pure (Zc.out _)) | (go_at_call 209;exact Calls.regrown_of (bB ⟨_,_,_,_,_,_⟩ _ _ _ ab))))));(with_reducible refine wpQuiet_nil ?_);intro W2 hreg;have hbW2:=aD hreg;clear hreg;obtain⟨hcW2,hfW2⟩:=aJ hbW2);go_wp2))
    all_goals
     go_ret
     refine⟨dt ?_,bu⟩;have hz:=dE HForm.out;have hi1:=Za.out;have hi2:=Zb.out;rw[eG,←HForm.out,if_neg (fun h=>absurd (hk.symm.trans h) aq),if_neg aq];clear hk h3 h3' HF HForm Zc Za Zd Zb
     (try clear hbW1 hcW1 hfW1 hsW1)
     (try clear hbW2 hcW2 hfW2)
     simp[cx,cJ,bn,gI,l9,aS,bm,ec,-ByteArray.size_eq_zero_iff] at *
     try ((repeat' split)<;>(first | omega | simp_all | (simp_all<;>omega)))
theorem s6 (a e c:Int) (o n:ByteArray) (w:World) (ho:o.size≤3100) (hn:n.size≤3100) :
 Calls Tryz.prog 139 #[.agg #[.int .i64 4,.int .i64 a,.int .i64 e,.int .i64 c,.string o,.string n]] w fun r w'=>r=.returned (.int .i64 (dp ⟨4,a,e,c,o,n⟩))∧Below w.heap.size w w':=by
 have hk:bm 4 0 6=true:=rfl;obtain⟨form,hform⟩:∃b,b=bf ⟨4,a,e,c,o,n⟩:=⟨_,rfl⟩;have hF:=fun w=>wz a e c o n w;rw[←hform] at hF;have HF:=Lib.hid hF;have HForm:=Lib.hid hform;clear hF hform
 cases form
 · have h3:aS false 3=3:=rfl
   have h3':(aS false 3 != 0)=true:=rfl
   go_enter Tryz.func139,Tryz.ntmps139
   go_wp2_with (first | (go_at_call 74;refine(aF _ _ _ _).mono ?_;rintro e w' ⟨rfl,rfl⟩) | (go_at_call 208;refine(HF.out _).mono ?_;rintro e W1 ⟨rfl,hbW1⟩;obtain⟨hcW1,hfW1⟩:=aJ hbW1))
   go_ret
   refine⟨dt ?_,bu⟩;rw[eG,←HForm.out];simp[hk,aS]
 · have h3:aS true 3=0:=rfl
   have h3':(aS true 3 != 0)=false:=rfl;obtain⟨in1,hin1⟩:∃b,b=bm a 0 511:=⟨_,rfl⟩;obtain⟨in2,hin2⟩:∃b,b=bm a 0 4095:=⟨_,rfl⟩;have hW1:=fun w=>aF a 0 511 w;have hW2:=fun w=>aF a 0 4095 w;rw[←hin1] at hW1;rw[←hin2] at hW2;have Zc:=Lib.hid hW1;have Zd:=Lib.hid hW2;have Za:=Lib.hid hin1;have Zb:=Lib.hid hin2;clear hW1 hW2 hin1 hin2
   cases in1<;>cases in2
   all_goals
    first
    | (exfalso;have h1:=Za.out;have h2:=Zb.out;have h2:=h2.symm;have h1:=h1.symm;rw[eZ] at h2;rw[inB_true] at h1;omega)
    | skip
   all_goals
    (try (have hb:=inB_true.1 Za.out.symm))
    (try (have hb2:=inB_true.1 Zb.out.symm))
    go_enter Tryz.func139,Tryz.ntmps139
    go_wp2_with (first | (go_at_call 74;(with_reducible refine(Zc.out _).mono ?_);rintro e w' ⟨rfl,rfl⟩) | (go_at_call 74;(with_reducible refine(Zd.out _).mono ?_);rintro e w' ⟨rfl,rfl⟩) | (go_at_call 74;refine(aF _ _ _ _).mono ?_;rintro e w' ⟨rfl,rfl⟩) | ((go_at_call 208;(with_reducible refine(HF.out _).mono ?_);rintro e W1 ⟨rfl,hbW1⟩;obtain⟨hcW1,hfW1⟩:=aJ hbW1);have hsW1:w.heap.size<W1.heap.size:=(by have h:=hbW1.size;simp at h;omega)) | (go_at_call 209;refine(bB ⟨_,_,_,_,_,_⟩ _ _ _ ab).mono ?_;rintro e W2 ⟨rfl,hbW2⟩;obtain⟨hcW2,hfW2⟩:=aJ hbW2))
    all_goals (try ((refine wp_region_quiet_below aa aa ?_;(repeat (go_big_quiet_step ((first | (go_at_call 74;exact Calls.reg_pure (Zc.out _)) | (go_at_call 209;exact Calls.regrown_of (bB ⟨_,_,_,_,_,_⟩ _ _ _ ab))))));(with_reducible refine wpQuiet_nil ?_);intro W2 hreg;have hbW2:=aD hreg;clear hreg;obtain⟨hcW2,hfW2⟩:=aJ hbW2);go_wp2))
    all_goals
     go_ret
     refine⟨dt ?_,bu⟩;have hz:=dE HForm.out;have hi1:=Za.out;have hi2:=Zb.out;rw[eG,←HForm.out,if_neg (fun h=>absurd (hk.symm.trans h) aq),if_neg aq];clear hk h3 h3' HF HForm Zc Za Zd Zb
     (try clear hbW1 hcW1 hfW1 hsW1)
     (try clear hbW2 hcW2 hfW2)
     simp[cx,cJ,bn,gI,l9,aS,bm,ec,-ByteArray.size_eq_zero_iff] at *
     try ((repeat' split)<;>(first | omega | simp_all | (simp_all<;>omega)))
theorem ux (a e c:Int) (o n:ByteArray) (w:World) (ho:o.size≤3100) (hn:n.size≤3100) :
 Calls Tryz.prog 139 #[.agg #[.int .i64 5,.int .i64 a,.int .i64 e,.int .i64 c,.string o,.string n]] w fun r w'=>r=.returned (.int .i64 (dp ⟨5,a,e,c,o,n⟩))∧Below w.heap.size w w':=by
 have hk:bm 5 0 6=true:=rfl;obtain⟨form,hform⟩:∃b,b=bf ⟨5,a,e,c,o,n⟩:=⟨_,rfl⟩;have hF:=fun w=>vr a e c o n w;rw[←hform] at hF;have HF:=Lib.hid hF;have HForm:=Lib.hid hform;clear hF hform
 cases form
 · have h3:aS false 3=3:=rfl
   have h3':(aS false 3 != 0)=true:=rfl
   go_enter Tryz.func139,Tryz.ntmps139
   go_wp2_with (first | (go_at_call 74;refine(aF _ _ _ _).mono ?_;rintro e w' ⟨rfl,rfl⟩) | (go_at_call 208;refine(HF.out _).mono ?_;rintro e W1 ⟨rfl,hbW1⟩;obtain⟨hcW1,hfW1⟩:=aJ hbW1))
   go_ret
   refine⟨dt ?_,bu⟩;rw[eG,←HForm.out];simp[hk,aS]
 · have h3:aS true 3=0:=rfl
   have h3':(aS true 3 != 0)=false:=rfl;obtain⟨in1,hin1⟩:∃b,b=bm a 0 511:=⟨_,rfl⟩;obtain⟨in2,hin2⟩:∃b,b=bm a 0 4095:=⟨_,rfl⟩;have hW1:=fun w=>aF a 0 511 w;have hW2:=fun w=>aF a 0 4095 w;rw[←hin1] at hW1;rw[←hin2] at hW2;have Zc:=Lib.hid hW1;have Zd:=Lib.hid hW2;have Za:=Lib.hid hin1;have Zb:=Lib.hid hin2;clear hW1 hW2 hin1 hin2
   cases in1<;>cases in2
   all_goals
    first
    | (exfalso;have h1:=Za.out;have h2:=Zb.out;have h2:=h2.symm;have h1:=h1.symm;rw[eZ] at h2;rw[inB_true] at h1;omega)
    | skip
   all_goals
    (try (have hb:=inB_true.1 Za.out.symm))
    (try (have hb2:=inB_true.1 Zb.out.symm))
    go_enter Tryz.func139,Tryz.ntmps139
    go_wp2_with (first | (go_at_call 74;(with_reducible refine(Zc.out _).mono ?_);rintro e w' ⟨rfl,rfl⟩) | (go_at_call 74;(with_reducible refine(Zd.out _).mono ?_);rintro e w' ⟨rfl,rfl⟩) | (go_at_call 74;refine(aF _ _ _ _).mono ?_;rintro e w' ⟨rfl,rfl⟩) | ((go_at_call 208;(with_reducible refine(HF.out _).mono ?_);rintro e W1 ⟨rfl,hbW1⟩;obtain⟨hcW1,hfW1⟩:=aJ hbW1);have hsW1:w.heap.size<W1.heap.size:=(by have h:=hbW1.size;simp at h;omega)) | (go_at_call 209;refine(bB ⟨_,_,_,_,_,_⟩ _ _ _ ab).mono ?_;rintro e W2 ⟨rfl,hbW2⟩;obtain⟨hcW2,hfW2⟩:=aJ hbW2))
    all_goals (try ((refine wp_region_quiet_below aa aa ?_;(repeat (go_big_quiet_step ((first | (go_at_call 74;exact Calls.reg_pure (Zc.out _)) | (go_at_call 209;exact Calls.regrown_of (bB ⟨_,_,_,_,_,_⟩ _ _ _ ab))))));(with_reducible refine wpQuiet_nil ?_);intro W2 hreg;have hbW2:=aD hreg;clear hreg;obtain⟨hcW2,hfW2⟩:=aJ hbW2);go_wp2))
    all_goals
     go_ret
     refine⟨dt ?_,bu⟩;have hz:=dE HForm.out;have hi1:=Za.out;have hi2:=Zb.out;rw[eG,←HForm.out,if_neg (fun h=>absurd (hk.symm.trans h) aq),if_neg aq];clear hk h3 h3' HF HForm Zc Za Zd Zb
     (try clear hbW1 hcW1 hfW1 hsW1)
     (try clear hbW2 hcW2 hfW2)
     simp[cx,cJ,bn,gI,l9,aS,bm,ec,-ByteArray.size_eq_zero_iff] at *
     try ((repeat' split)<;>(first | omega | simp_all | (simp_all<;>omega)))
theorem tL (a e c:Int) (o n:ByteArray) (w:World) (ho:o.size≤3100) (hn:n.size≤3100) :
 Calls Tryz.prog 139 #[.agg #[.int .i64 6,.int .i64 a,.int .i64 e,.int .i64 c,.string o,.string n]] w fun r w'=>r=.returned (.int .i64 (dp ⟨6,a,e,c,o,n⟩))∧Below w.heap.size w w':=by
 have hk:bm 6 0 6=true:=rfl;obtain⟨form,hform⟩:∃b,b=bf ⟨6,a,e,c,o,n⟩:=⟨_,rfl⟩;have hF:=fun w=>wS a e c o n w;rw[←hform] at hF;have HF:=Lib.hid hF;have HForm:=Lib.hid hform;clear hF hform
 cases form
 · have h3:aS false 3=3:=rfl
   have h3':(aS false 3 != 0)=true:=rfl
   go_enter Tryz.func139,Tryz.ntmps139
   go_wp2_with (first | (go_at_call 74;refine(aF _ _ _ _).mono ?_;rintro e w' ⟨rfl,rfl⟩) | (go_at_call 208;refine(HF.out _).mono ?_;rintro e W1 ⟨rfl,hbW1⟩;obtain⟨hcW1,hfW1⟩:=aJ hbW1))
   go_ret
   refine⟨dt ?_,bu⟩;rw[eG,←HForm.out];simp[hk,aS]
 · have h3:aS true 3=0:=rfl
   have h3':(aS true 3 != 0)=false:=rfl;obtain⟨in1,hin1⟩:∃b,b=bm a 0 511:=⟨_,rfl⟩;obtain⟨in2,hin2⟩:∃b,b=bm a 0 4095:=⟨_,rfl⟩;have hW1:=fun w=>aF a 0 511 w;have hW2:=fun w=>aF a 0 4095 w;rw[←hin1] at hW1;rw[←hin2] at hW2;have Zc:=Lib.hid hW1;have Zd:=Lib.hid hW2;have Za:=Lib.hid hin1;have Zb:=Lib.hid hin2;clear hW1 hW2 hin1 hin2
   cases in1<;>cases in2
   all_goals
    first
    | (exfalso;have h1:=Za.out;have h2:=Zb.out;have h2:=h2.symm;have h1:=h1.symm;rw[eZ] at h2;rw[inB_true] at h1;omega)
    | skip
   all_goals
    (try (have hb:=inB_true.1 Za.out.symm))
    (try (have hb2:=inB_true.1 Zb.out.symm))
    go_enter Tryz.func139,Tryz.ntmps139
    go_wp2_with (first | (go_at_call 74;(with_reducible refine(Zc.out _).mono ?_);rintro e w' ⟨rfl,rfl⟩) | (go_at_call 74;(with_reducible refine(Zd.out _).mono ?_);rintro e w' ⟨rfl,rfl⟩) | (go_at_call 74;refine(aF _ _ _ _).mono ?_;rintro e w' ⟨rfl,rfl⟩) | ((go_at_call 208;(with_reducible refine(HF.out _).mono ?_);rintro e W1 ⟨rfl,hbW1⟩;obtain⟨hcW1,hfW1⟩:=aJ hbW1);have hsW1:w.heap.size<W1.heap.size:=(by have h:=hbW1.size;simp at h;omega)) | (go_at_call 209;refine(bB ⟨_,_,_,_,_,_⟩ _ _ _ ab).mono ?_;rintro e W2 ⟨rfl,hbW2⟩;obtain⟨hcW2,hfW2⟩:=aJ hbW2))
    all_goals (try ((refine wp_region_quiet_below aa aa ?_;(repeat (go_big_quiet_step ((first | (go_at_call 74;exact Calls.reg_pure (Zc.out _)) | (go_at_call 209;exact Calls.regrown_of (bB ⟨_,_,_,_,_,_⟩ _ _ _ ab))))));(with_reducible refine wpQuiet_nil ?_);intro W2 hreg;have hbW2:=aD hreg;clear hreg;obtain⟨hcW2,hfW2⟩:=aJ hbW2);go_wp2))
    all_goals
     go_ret
     refine⟨dt ?_,bu⟩;have hz:=dE HForm.out;have hi1:=Za.out;have hi2:=Zb.out;rw[eG,←HForm.out,if_neg (fun h=>absurd (hk.symm.trans h) aq),if_neg aq];clear hk h3 h3' HF HForm Zc Za Zd Zb
     (try clear hbW1 hcW1 hfW1 hsW1)
     (try clear hbW2 hcW2 hfW2)
     simp[cx,cJ,bn,gI,l9,aS,bm,ec,-ByteArray.size_eq_zero_iff] at *
     try ((repeat' split)<;>(first | omega | simp_all | (simp_all<;>omega)))
end Go.Proofs.YtcfdpfmchchkaaaGreatDoor
