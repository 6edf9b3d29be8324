/-
  Chapter 21: the errors of operations, as the references have them: formErr, bytesErr, OpErr.
  Chapter 21: CheckOp and OpErr, joined.
-/
import Derived.Test.YtcfdpfmchchkaaaGreatDoorOpD
namespace Go.Proofs.YtcfdpfmchchkaaaGreatDoor
set_option linter.unusedVariables false
set_option linter.unusedSimpArgs false
open Go.RowKit Go.Sort
theorem eA (x:Op):dP x=if bH x.k 0 6=false then 15 else if bA x=false then 3 else if cB x=false then 10 else if cO x.k=true∧bG x=0 then 17
 else if cO x.k=true∧200<bG x then 8 else if cy x=false then 2 else 0:=by
 unfold dP
 cases hk:bH x.k 0 6
 · rfl
 · rw[if_neg (by decide),if_neg (by decide)]
   have h1:(!cO x.k||decide (0<bG x))=!(decide (cO x.k=true∧bG x=0)):=by
    cases cO x.k
    · simp
    · rw[Bool.eq_iff_iff];simp only[Bool.not_true,Bool.false_or,true_and,Bool.not_eq_true',decide_eq_true_eq,decide_eq_false_iff_not];omega
   have h2:(!cO x.k||decide (bG x≤200))=!(decide (cO x.k=true∧200<bG x)):=by
    cases cO x.k
    · simp
    · rw[Bool.eq_iff_iff];simp only[Bool.not_true,Bool.false_or,true_and,Bool.not_eq_true',decide_eq_true_eq,decide_eq_false_iff_not];omega
   rw[h1,h2]
   cases bA x
   · simp[aO,bL]
   · cases cB x
     · simp[aO,bL]
     · by_cases g1:cO x.k=true∧bG x=0
       · simp[aO,bL,g1]
       · by_cases g2:cO x.k=true∧200<bG x
         · simp only[aO,bL,decide_eq_false g1,decide_eq_true g2,if_neg g1,if_pos g2];simp
         · simp only[aO,bL,decide_eq_false g1,decide_eq_false g2,if_neg g1,if_neg g2]
           cases cy x<;>simp
def lg (c:Int) (r:Bool):Int:=if c=0 then 17 else if 200<c then 8 else bL r 2
set_option maxRecDepth 100000 in
theorem bP (x:Op) (c:Int) (r:Bool) (w:World) (hc:0≤c) :
 Calls Tryz.prog 209 #[.agg #[.int .i64 x.k,.int .i64 x.a,.int .i64 x.e,.int .i64 x.c,.string x.o,.string x.n],.int .i64 c,.bool r] w fun e w'=>e=.returned (.int .i64 (lg c r))∧Below w.heap.size w w':=by
 by_cases h0:c=0
 · subst h0
   go_enter Tryz.func209,Tryz.ntmps209
   go_wp2
   go_ret
   exact⟨rfl,by(repeat (first | assumption | exact Below.refl _ _ | refine ay ?_ _ | refine aw ?_ _ | refine ax ?_ (by assumption) | refine Below.trans ?_ (by assumption)))⟩
 · have h0':(c==0)=false:=by simp[h0]
   by_cases h1:200<c
   · have e:lg c r=8:=by unfold lg;rw[if_neg h0,if_pos h1]
     have E:=Lib.hid e;clear e h0
     go_enter Tryz.func209,Tryz.ntmps209
     go_wp2
     go_ret
     exact⟨cP E.out.symm,by(repeat (first | assumption | exact Below.refl _ _ | refine ay ?_ _ | refine aw ?_ _ | refine ax ?_ (by assumption) | refine Below.trans ?_ (by assumption)))⟩
   · have e:lg c r=bL r 2:=by unfold lg;rw[if_neg h0,if_neg h1]
     have E:=Lib.hid e;clear e h0
     cases r
     · go_enter Tryz.func209,Tryz.ntmps209
       go_wp2
       go_ret
       exact⟨cP E.out.symm,by(repeat (first | assumption | exact Below.refl _ _ | refine ay ?_ _ | refine aw ?_ _ | refine ax ?_ (by assumption) | refine Below.trans ?_ (by assumption)))⟩
     · go_enter Tryz.func209,Tryz.ntmps209
       go_wp2
       go_ret
       exact⟨cP E.out.symm,by(repeat (first | assumption | exact Below.refl _ _ | refine ay ?_ _ | refine aw ?_ _ | refine ax ?_ (by assumption) | refine Below.trans ?_ (by assumption)))⟩
set_option maxRecDepth 100000 in
theorem uV (a e c:Int) (o n:ByteArray) (w:World) :
 Calls Tryz.prog 208 #[.agg #[.int .i64 0,.int .i64 a,.int .i64 e,.int .i64 c,.string o,.string n]] w fun r w'=>r=.returned (.int .i64 (bL (bA ⟨0,a,e,c,o,n⟩) 3))∧Below w.heap.size w w':=by
 go_enter Tryz.func208,Tryz.ntmps208
 go_wp2
 all_goals
  go_ret
  refine⟨cP ?_,by(repeat (first | assumption | exact Below.refl _ _ | refine ay ?_ _ | refine aw ?_ _ | refine ax ?_ (by assumption) | refine Below.trans ?_ (by assumption)))⟩
  (try simp only[toList_nil,isEmpty_eq] at *)
  simp_all [bA,iW,fj,db,e8,fc,bH,bL]
set_option maxRecDepth 100000 in
theorem tn (a e c:Int) (o n:ByteArray) (w:World) :
 Calls Tryz.prog 208 #[.agg #[.int .i64 1,.int .i64 a,.int .i64 e,.int .i64 c,.string o,.string n]] w fun r w'=>r=.returned (.int .i64 (bL (bA ⟨1,a,e,c,o,n⟩) 3))∧Below w.heap.size w w':=by
 go_enter Tryz.func208,Tryz.ntmps208
 go_wp2
 all_goals
  go_ret
  refine⟨cP ?_,by(repeat (first | assumption | exact Below.refl _ _ | refine ay ?_ _ | refine aw ?_ _ | refine ax ?_ (by assumption) | refine Below.trans ?_ (by assumption)))⟩
  (try simp only[toList_nil,isEmpty_eq] at *)
  simp_all [bA,iW,fj,db,e8,fc,bH,bL]
set_option maxRecDepth 100000 in
theorem tj (a e c:Int) (o n:ByteArray) (w:World) :
 Calls Tryz.prog 208 #[.agg #[.int .i64 2,.int .i64 a,.int .i64 e,.int .i64 c,.string o,.string n]] w fun r w'=>r=.returned (.int .i64 (bL (bA ⟨2,a,e,c,o,n⟩) 3))∧Below w.heap.size w w':=by
 go_enter Tryz.func208,Tryz.ntmps208
 go_wp2
 all_goals
  go_ret
  refine⟨cP ?_,by(repeat (first | assumption | exact Below.refl _ _ | refine ay ?_ _ | refine aw ?_ _ | refine ax ?_ (by assumption) | refine Below.trans ?_ (by assumption)))⟩
  (try simp only[toList_nil,isEmpty_eq] at *)
  simp_all [bA,iW,fj,db,e8,fc,bH,bL]
set_option maxRecDepth 100000 in
theorem tR (a e c:Int) (o n:ByteArray) (w:World) :
 Calls Tryz.prog 208 #[.agg #[.int .i64 3,.int .i64 a,.int .i64 e,.int .i64 c,.string o,.string n]] w fun r w'=>r=.returned (.int .i64 (bL (bA ⟨3,a,e,c,o,n⟩) 3))∧Below w.heap.size w w':=by
 go_enter Tryz.func208,Tryz.ntmps208
 go_wp2
 all_goals
  go_ret
  refine⟨cP ?_,by(repeat (first | assumption | exact Below.refl _ _ | refine ay ?_ _ | refine aw ?_ _ | refine ax ?_ (by assumption) | refine Below.trans ?_ (by assumption)))⟩
  (try simp only[toList_nil,isEmpty_eq] at *)
  simp_all [bA,iW,fj,db,e8,fc,bH,bL]
set_option maxRecDepth 100000 in
theorem um (a e c:Int) (o n:ByteArray) (w:World) :
 Calls Tryz.prog 208 #[.agg #[.int .i64 4,.int .i64 a,.int .i64 e,.int .i64 c,.string o,.string n]] w fun r w'=>r=.returned (.int .i64 (bL (bA ⟨4,a,e,c,o,n⟩) 3))∧Below w.heap.size w w':=by
 go_enter Tryz.func208,Tryz.ntmps208
 go_wp2
 all_goals
  go_ret
  refine⟨cP ?_,by(repeat (first | assumption | exact Below.refl _ _ | refine ay ?_ _ | refine aw ?_ _ | refine ax ?_ (by assumption) | refine Below.trans ?_ (by assumption)))⟩
  (try simp only[toList_nil,isEmpty_eq] at *)
  simp_all [bA,iW,fj,db,e8,fc,bH,bL]
set_option maxRecDepth 100000 in
theorem uW (a e c:Int) (o n:ByteArray) (w:World) :
 Calls Tryz.prog 208 #[.agg #[.int .i64 5,.int .i64 a,.int .i64 e,.int .i64 c,.string o,.string n]] w fun r w'=>r=.returned (.int .i64 (bL (bA ⟨5,a,e,c,o,n⟩) 3))∧Below w.heap.size w w':=by
 go_enter Tryz.func208,Tryz.ntmps208
 go_wp2
 all_goals
  go_ret
  refine⟨cP ?_,by(repeat (first | assumption | exact Below.refl _ _ | refine ay ?_ _ | refine aw ?_ _ | refine ax ?_ (by assumption) | refine Below.trans ?_ (by assumption)))⟩
  (try simp only[toList_nil,isEmpty_eq] at *)
  simp_all [bA,iW,fj,db,e8,fc,bH,bL]
set_option maxRecDepth 100000 in
theorem tL (a e c:Int) (o n:ByteArray) (w:World) :
 Calls Tryz.prog 208 #[.agg #[.int .i64 6,.int .i64 a,.int .i64 e,.int .i64 c,.string o,.string n]] w fun r w'=>r=.returned (.int .i64 (bL (bA ⟨6,a,e,c,o,n⟩) 3))∧Below w.heap.size w w':=by
 go_enter Tryz.func208,Tryz.ntmps208
 go_wp2
 all_goals
  go_ret
  refine⟨cP ?_,by(repeat (first | assumption | exact Below.refl _ _ | refine ay ?_ _ | refine aw ?_ _ | refine ax ?_ (by assumption) | refine Below.trans ?_ (by assumption)))⟩
  (try simp only[toList_nil,isEmpty_eq] at *)
  simp_all [bA,iW,fj,db,e8,fc,bH,bL]
open Go.RowKit Go.Sort
set_option maxRecDepth 100000 in
theorem qj (x:Op) (w:World) (hk:bH x.k 0 6=false) :
 Calls Tryz.prog 144 #[gZ x] w fun r w'=>r=.returned (.int .i64 (dP x))∧Below w.heap.size w w':=by
 have e:dP x=15:=by unfold dP;rw[hk];rfl
 have E:=Lib.hid e;clear e;unfold gZ
 go_enter Tryz.func144,Tryz.ntmps144
 go_wp2_with (first | (go_at_call 152;refine(aI _ _ _ _).mono ?_;rintro e w' ⟨rfl,rfl⟩))
 go_ret
 exact⟨cP E.out.symm,by(repeat (first | assumption | exact Below.refl _ _ | refine ay ?_ _ | refine aw ?_ _ | refine ax ?_ (by assumption) | refine Below.trans ?_ (by assumption)))⟩
theorem cM (x:Op) (w:World) (ho:x.o.size≤3100) (hn:x.n.size≤3100) :
 Calls Tryz.prog 144 #[gZ x] w fun r w'=>r=.returned (.int .i64 (dP x))∧Below w.heap.size w w':=by
 cases hk:bH x.k 0 6
 · exact qj x w hk
 · obtain⟨k,a,e,c,o,n⟩:=x
   rw[inB_true] at hk
   dsimp only at hk
   have:k=0∨k=1∨k=2∨k=3∨k=4∨k=5∨k=6:=by omega
   rcases this with rfl | rfl | rfl | rfl | rfl | rfl | rfl
   · exact tO a e c o n w ho hn
   · exact uc a e c o n w ho hn
   · exact uB a e c o n w ho hn
   · exact tA a e c o n w ho hn
   · exact tX a e c o n w ho hn
   · exact tG a e c o n w ho hn
   · exact tQ a e c o n w ho hn
set_option maxRecDepth 100000 in
theorem oE (x:Op) (w:World) (hk:bH x.k 0 6=false) :
 Calls Tryz.prog 139 #[gZ x] w fun r w'=>r=.returned (.int .i64 (dP x))∧Below w.heap.size w w':=by
 have e:dP x=15:=by unfold dP;rw[hk];rfl
 have E:=Lib.hid e;clear e;unfold gZ
 go_enter Tryz.func139,Tryz.ntmps139
 go_wp2_with (first | (go_at_call 74;refine(aQ _ _ _ _).mono ?_;rintro e w' ⟨rfl,rfl⟩))
 go_ret
 exact⟨cP E.out.symm,by(repeat (first | assumption | exact Below.refl _ _ | refine ay ?_ _ | refine aw ?_ _ | refine ax ?_ (by assumption) | refine Below.trans ?_ (by assumption)))⟩
theorem dI {k a e c:Int} {o n:ByteArray} (h:true=bA ⟨k,a,e,c,o,n⟩):(k=2→o.size=0)∧(k=3→n.size=0):=by
 simp only[bA,e8,fc,Bool.and_eq_true,Bool.or_eq_true,beq_iff_eq] at h;have h:=h.symm;simp only[Bool.and_eq_true,Bool.or_eq_true,beq_iff_eq] at h;omega
set_option maxRecDepth 100000 in
set_option maxHeartbeats 1000000 in
theorem rG (a e c:Int) (o n:ByteArray) (w:World) (ho:o.size≤3100) (hn:n.size≤3100) :
 Calls Tryz.prog 139 #[.agg #[.int .i64 0,.int .i64 a,.int .i64 e,.int .i64 c,.string o,.string n]] w fun r w'=>r=.returned (.int .i64 (dP ⟨0,a,e,c,o,n⟩))∧Below w.heap.size w w':=by
 have hk:bH 0 0 6=true:=rfl;obtain⟨form,hform⟩:∃b,b=bA ⟨0,a,e,c,o,n⟩:=⟨_,rfl⟩;have hF:=fun w=>uV a e c o n w;rw[←hform] at hF;have HF:=Lib.hid hF;have HForm:=Lib.hid hform;clear hF hform
 cases form
 · have h3:bL false 3=3:=rfl
   have h3':(bL false 3 != 0)=true:=rfl
   go_enter Tryz.func139,Tryz.ntmps139
   go_wp2_with (first | (go_at_call 74;refine(aQ _ _ _ _).mono ?_;rintro e w' ⟨rfl,rfl⟩) | (go_at_call 208;refine(HF.out _).mono ?_;rintro e W1 ⟨rfl,hbW1⟩;obtain⟨hcW1,hfW1⟩:=aR hbW1))
   go_ret
   refine⟨cP ?_,by(repeat (first | assumption | exact Below.refl _ _ | refine ay ?_ _ | refine aw ?_ _ | refine ax ?_ (by assumption) | refine Below.trans ?_ (by assumption)))⟩;rw[eA,←HForm.out];simp[hk,bL]
 · have h3:bL true 3=0:=rfl
   have h3':(bL true 3 != 0)=false:=rfl;obtain⟨in1,hin1⟩:∃b,b=bH a 0 511:=⟨_,rfl⟩;obtain⟨in2,hin2⟩:∃b,b=bH a 0 4095:=⟨_,rfl⟩;have hW1:=fun w=>aQ a 0 511 w;have hW2:=fun w=>aQ a 0 4095 w;rw[←hin1] at hW1;rw[←hin2] at hW2;have HW1:=Lib.hid hW1;have HW2:=Lib.hid hW2;have HI1:=Lib.hid hin1;have HI2:=Lib.hid hin2;clear hW1 hW2 hin1 hin2
   cases in1<;>cases in2
   all_goals
    first
    | (exfalso;have h1:=HI1.out;have h2:=HI2.out;have h2:=h2.symm;have h1:=h1.symm;rw[eL] at h2;rw[inB_true] at h1;omega)
    | skip
   all_goals
    (try (have hb:=inB_true.1 HI1.out.symm))
    (try (have hb2:=inB_true.1 HI2.out.symm))
    go_enter Tryz.func139,Tryz.ntmps139
    go_wp2_with (first | (go_at_call 74;(with_reducible refine(HW1.out _).mono ?_);rintro e w' ⟨rfl,rfl⟩) | (go_at_call 74;(with_reducible refine(HW2.out _).mono ?_);rintro e w' ⟨rfl,rfl⟩) | (go_at_call 74;refine(aQ _ _ _ _).mono ?_;rintro e w' ⟨rfl,rfl⟩) | ((go_at_call 208;(with_reducible refine(HF.out _).mono ?_);rintro e W1 ⟨rfl,hbW1⟩;obtain⟨hcW1,hfW1⟩:=aR hbW1);have hsW1:w.heap.size<W1.heap.size:=(by have h:=hbW1.size;simp at h;omega)) | (go_at_call 209;refine(bP ⟨_,_,_,_,_,_⟩ _ _ _ (by omega)).mono ?_;rintro e W2 ⟨rfl,hbW2⟩;obtain⟨hcW2,hfW2⟩:=aR hbW2))
    all_goals (try ((refine wp_region_quiet_below (by kernel_rfl) (by kernel_rfl) ?_;(repeat (go_big_quiet_step ((first | (go_at_call 74;exact Calls.reg_pure (HW1.out _)) | (go_at_call 209;exact Calls.regrown_of (bP ⟨_,_,_,_,_,_⟩ _ _ _ (by omega)))))));(with_reducible refine wpQuiet_nil ?_);intro W2 hreg;have hbW2:=aU hreg;clear hreg;obtain⟨hcW2,hfW2⟩:=aR hbW2);go_wp2))
    all_goals
     go_ret
     refine⟨cP ?_,by(repeat (first | assumption | exact Below.refl _ _ | refine ay ?_ _ | refine aw ?_ _ | refine ax ?_ (by assumption) | refine Below.trans ?_ (by assumption)))⟩;have hz:=dI HForm.out;have hi1:=HI1.out;have hi2:=HI2.out;rw[eA,←HForm.out,if_neg (fun h=>absurd (hk.symm.trans h) (by decide)),if_neg (by decide)];clear hk h3 h3' HF HForm HW1 HI1 HW2 HI2
     (try clear hbW1 hcW1 hfW1 hsW1)
     (try clear hbW2 hcW2 hfW2)
     simp[cB,cO,bG,cy,lg,bL,bH,ec,-ByteArray.size_eq_zero_iff] at *
     try ((repeat' split)<;>(first | omega | simp_all | (simp_all<;>omega)))
set_option maxRecDepth 100000 in
set_option maxHeartbeats 1000000 in
theorem sh (a e c:Int) (o n:ByteArray) (w:World) (ho:o.size≤3100) (hn:n.size≤3100) :
 Calls Tryz.prog 139 #[.agg #[.int .i64 1,.int .i64 a,.int .i64 e,.int .i64 c,.string o,.string n]] w fun r w'=>r=.returned (.int .i64 (dP ⟨1,a,e,c,o,n⟩))∧Below w.heap.size w w':=by
 have hk:bH 1 0 6=true:=rfl;obtain⟨form,hform⟩:∃b,b=bA ⟨1,a,e,c,o,n⟩:=⟨_,rfl⟩;have hF:=fun w=>tn a e c o n w;rw[←hform] at hF;have HF:=Lib.hid hF;have HForm:=Lib.hid hform;clear hF hform
 cases form
 · have h3:bL false 3=3:=rfl
   have h3':(bL false 3 != 0)=true:=rfl
   go_enter Tryz.func139,Tryz.ntmps139
   go_wp2_with (first | (go_at_call 74;refine(aQ _ _ _ _).mono ?_;rintro e w' ⟨rfl,rfl⟩) | (go_at_call 208;refine(HF.out _).mono ?_;rintro e W1 ⟨rfl,hbW1⟩;obtain⟨hcW1,hfW1⟩:=aR hbW1))
   go_ret
   refine⟨cP ?_,by(repeat (first | assumption | exact Below.refl _ _ | refine ay ?_ _ | refine aw ?_ _ | refine ax ?_ (by assumption) | refine Below.trans ?_ (by assumption)))⟩;rw[eA,←HForm.out];simp[hk,bL]
 · have h3:bL true 3=0:=rfl
   have h3':(bL true 3 != 0)=false:=rfl;obtain⟨in1,hin1⟩:∃b,b=bH a 0 511:=⟨_,rfl⟩;obtain⟨in2,hin2⟩:∃b,b=bH a 0 4095:=⟨_,rfl⟩;have hW1:=fun w=>aQ a 0 511 w;have hW2:=fun w=>aQ a 0 4095 w;rw[←hin1] at hW1;rw[←hin2] at hW2;have HW1:=Lib.hid hW1;have HW2:=Lib.hid hW2;have HI1:=Lib.hid hin1;have HI2:=Lib.hid hin2;clear hW1 hW2 hin1 hin2
   cases in1<;>cases in2
   all_goals
    first
    | (exfalso;have h1:=HI1.out;have h2:=HI2.out;have h2:=h2.symm;have h1:=h1.symm;rw[eL] at h2;rw[inB_true] at h1;omega)
    | skip
   all_goals
    (try (have hb:=inB_true.1 HI1.out.symm))
    (try (have hb2:=inB_true.1 HI2.out.symm))
    go_enter Tryz.func139,Tryz.ntmps139
    go_wp2_with (first | (go_at_call 74;(with_reducible refine(HW1.out _).mono ?_);rintro e w' ⟨rfl,rfl⟩) | (go_at_call 74;(with_reducible refine(HW2.out _).mono ?_);rintro e w' ⟨rfl,rfl⟩) | (go_at_call 74;refine(aQ _ _ _ _).mono ?_;rintro e w' ⟨rfl,rfl⟩) | ((go_at_call 208;(with_reducible refine(HF.out _).mono ?_);rintro e W1 ⟨rfl,hbW1⟩;obtain⟨hcW1,hfW1⟩:=aR hbW1);have hsW1:w.heap.size<W1.heap.size:=(by have h:=hbW1.size;simp at h;omega)) | (go_at_call 209;refine(bP ⟨_,_,_,_,_,_⟩ _ _ _ (by omega)).mono ?_;rintro e W2 ⟨rfl,hbW2⟩;obtain⟨hcW2,hfW2⟩:=aR hbW2))
    all_goals (try ((refine wp_region_quiet_below (by kernel_rfl) (by kernel_rfl) ?_;(repeat (go_big_quiet_step ((first | (go_at_call 74;exact Calls.reg_pure (HW1.out _)) | (go_at_call 209;exact Calls.regrown_of (bP ⟨_,_,_,_,_,_⟩ _ _ _ (by omega)))))));(with_reducible refine wpQuiet_nil ?_);intro W2 hreg;have hbW2:=aU hreg;clear hreg;obtain⟨hcW2,hfW2⟩:=aR hbW2);go_wp2))
    all_goals
     go_ret
     refine⟨cP ?_,by(repeat (first | assumption | exact Below.refl _ _ | refine ay ?_ _ | refine aw ?_ _ | refine ax ?_ (by assumption) | refine Below.trans ?_ (by assumption)))⟩;have hz:=dI HForm.out;have hi1:=HI1.out;have hi2:=HI2.out;rw[eA,←HForm.out,if_neg (fun h=>absurd (hk.symm.trans h) (by decide)),if_neg (by decide)];clear hk h3 h3' HF HForm HW1 HI1 HW2 HI2
     (try clear hbW1 hcW1 hfW1 hsW1)
     (try clear hbW2 hcW2 hfW2)
     simp[cB,cO,bG,cy,lg,bL,bH,ec,-ByteArray.size_eq_zero_iff] at *
     try ((repeat' split)<;>(first | omega | simp_all | (simp_all<;>omega)))
set_option maxRecDepth 100000 in
set_option maxHeartbeats 1000000 in
theorem qX (a e c:Int) (o n:ByteArray) (w:World) (ho:o.size≤3100) (hn:n.size≤3100) :
 Calls Tryz.prog 139 #[.agg #[.int .i64 2,.int .i64 a,.int .i64 e,.int .i64 c,.string o,.string n]] w fun r w'=>r=.returned (.int .i64 (dP ⟨2,a,e,c,o,n⟩))∧Below w.heap.size w w':=by
 have hk:bH 2 0 6=true:=rfl;obtain⟨form,hform⟩:∃b,b=bA ⟨2,a,e,c,o,n⟩:=⟨_,rfl⟩;have hF:=fun w=>tj a e c o n w;rw[←hform] at hF;have HF:=Lib.hid hF;have HForm:=Lib.hid hform;clear hF hform
 cases form
 · have h3:bL false 3=3:=rfl
   have h3':(bL false 3 != 0)=true:=rfl
   go_enter Tryz.func139,Tryz.ntmps139
   go_wp2_with (first | (go_at_call 74;refine(aQ _ _ _ _).mono ?_;rintro e w' ⟨rfl,rfl⟩) | (go_at_call 208;refine(HF.out _).mono ?_;rintro e W1 ⟨rfl,hbW1⟩;obtain⟨hcW1,hfW1⟩:=aR hbW1))
   go_ret
   refine⟨cP ?_,by(repeat (first | assumption | exact Below.refl _ _ | refine ay ?_ _ | refine aw ?_ _ | refine ax ?_ (by assumption) | refine Below.trans ?_ (by assumption)))⟩;rw[eA,←HForm.out];simp[hk,bL]
 · have h3:bL true 3=0:=rfl
   have h3':(bL true 3 != 0)=false:=rfl;obtain⟨in1,hin1⟩:∃b,b=bH a 0 511:=⟨_,rfl⟩;obtain⟨in2,hin2⟩:∃b,b=bH a 0 4095:=⟨_,rfl⟩;have hW1:=fun w=>aQ a 0 511 w;have hW2:=fun w=>aQ a 0 4095 w;rw[←hin1] at hW1;rw[←hin2] at hW2;have HW1:=Lib.hid hW1;have HW2:=Lib.hid hW2;have HI1:=Lib.hid hin1;have HI2:=Lib.hid hin2;clear hW1 hW2 hin1 hin2
   cases in1<;>cases in2
   all_goals
    first
    | (exfalso;have h1:=HI1.out;have h2:=HI2.out;have h2:=h2.symm;have h1:=h1.symm;rw[eL] at h2;rw[inB_true] at h1;omega)
    | skip
   all_goals
    (try (have hb:=inB_true.1 HI1.out.symm))
    (try (have hb2:=inB_true.1 HI2.out.symm))
    go_enter Tryz.func139,Tryz.ntmps139
    go_wp2_with (first | (go_at_call 74;(with_reducible refine(HW1.out _).mono ?_);rintro e w' ⟨rfl,rfl⟩) | (go_at_call 74;(with_reducible refine(HW2.out _).mono ?_);rintro e w' ⟨rfl,rfl⟩) | (go_at_call 74;refine(aQ _ _ _ _).mono ?_;rintro e w' ⟨rfl,rfl⟩) | ((go_at_call 208;(with_reducible refine(HF.out _).mono ?_);rintro e W1 ⟨rfl,hbW1⟩;obtain⟨hcW1,hfW1⟩:=aR hbW1);have hsW1:w.heap.size<W1.heap.size:=(by have h:=hbW1.size;simp at h;omega)) | (go_at_call 209;refine(bP ⟨_,_,_,_,_,_⟩ _ _ _ (by omega)).mono ?_;rintro e W2 ⟨rfl,hbW2⟩;obtain⟨hcW2,hfW2⟩:=aR hbW2))
    all_goals (try ((refine wp_region_quiet_below (by kernel_rfl) (by kernel_rfl) ?_;(repeat (go_big_quiet_step ((first | (go_at_call 74;exact Calls.reg_pure (HW1.out _)) | (go_at_call 209;exact Calls.regrown_of (bP ⟨_,_,_,_,_,_⟩ _ _ _ (by omega)))))));(with_reducible refine wpQuiet_nil ?_);intro W2 hreg;have hbW2:=aU hreg;clear hreg;obtain⟨hcW2,hfW2⟩:=aR hbW2);go_wp2))
    all_goals
     go_ret
     refine⟨cP ?_,by(repeat (first | assumption | exact Below.refl _ _ | refine ay ?_ _ | refine aw ?_ _ | refine ax ?_ (by assumption) | refine Below.trans ?_ (by assumption)))⟩;have hz:=dI HForm.out;have hi1:=HI1.out;have hi2:=HI2.out;rw[eA,←HForm.out,if_neg (fun h=>absurd (hk.symm.trans h) (by decide)),if_neg (by decide)];clear hk h3 h3' HF HForm HW1 HI1 HW2 HI2
     (try clear hbW1 hcW1 hfW1 hsW1)
     (try clear hbW2 hcW2 hfW2)
     simp[cB,cO,bG,cy,lg,bL,bH,ec,-ByteArray.size_eq_zero_iff] at *
     try ((repeat' split)<;>(first | omega | simp_all | (simp_all<;>omega)))
set_option maxRecDepth 100000 in
set_option maxHeartbeats 1000000 in
theorem rU (a e c:Int) (o n:ByteArray) (w:World) (ho:o.size≤3100) (hn:n.size≤3100) :
 Calls Tryz.prog 139 #[.agg #[.int .i64 3,.int .i64 a,.int .i64 e,.int .i64 c,.string o,.string n]] w fun r w'=>r=.returned (.int .i64 (dP ⟨3,a,e,c,o,n⟩))∧Below w.heap.size w w':=by
 have hk:bH 3 0 6=true:=rfl;obtain⟨form,hform⟩:∃b,b=bA ⟨3,a,e,c,o,n⟩:=⟨_,rfl⟩;have hF:=fun w=>tR a e c o n w;rw[←hform] at hF;have HF:=Lib.hid hF;have HForm:=Lib.hid hform;clear hF hform
 cases form
 · have h3:bL false 3=3:=rfl
   have h3':(bL false 3 != 0)=true:=rfl
   go_enter Tryz.func139,Tryz.ntmps139
   go_wp2_with (first | (go_at_call 74;refine(aQ _ _ _ _).mono ?_;rintro e w' ⟨rfl,rfl⟩) | (go_at_call 208;refine(HF.out _).mono ?_;rintro e W1 ⟨rfl,hbW1⟩;obtain⟨hcW1,hfW1⟩:=aR hbW1))
   go_ret
   refine⟨cP ?_,by(repeat (first | assumption | exact Below.refl _ _ | refine ay ?_ _ | refine aw ?_ _ | refine ax ?_ (by assumption) | refine Below.trans ?_ (by assumption)))⟩;rw[eA,←HForm.out];simp[hk,bL]
 · have h3:bL true 3=0:=rfl
   have h3':(bL true 3 != 0)=false:=rfl;obtain⟨in1,hin1⟩:∃b,b=bH a 0 511:=⟨_,rfl⟩;obtain⟨in2,hin2⟩:∃b,b=bH a 0 4095:=⟨_,rfl⟩;have hW1:=fun w=>aQ a 0 511 w;have hW2:=fun w=>aQ a 0 4095 w;rw[←hin1] at hW1;rw[←hin2] at hW2;have HW1:=Lib.hid hW1;have HW2:=Lib.hid hW2;have HI1:=Lib.hid hin1;have HI2:=Lib.hid hin2;clear hW1 hW2 hin1 hin2
   cases in1<;>cases in2
   all_goals
    first
    | (exfalso;have h1:=HI1.out;have h2:=HI2.out;have h2:=h2.symm;have h1:=h1.symm;rw[eL] at h2;rw[inB_true] at h1;omega)
    | skip
   all_goals
    (try (have hb:=inB_true.1 HI1.out.symm))
    (try (have hb2:=inB_true.1 HI2.out.symm))
    go_enter Tryz.func139,Tryz.ntmps139
    go_wp2_with (first | (go_at_call 74;(with_reducible refine(HW1.out _).mono ?_);rintro e w' ⟨rfl,rfl⟩) | (go_at_call 74;(with_reducible refine(HW2.out _).mono ?_);rintro e w' ⟨rfl,rfl⟩) | (go_at_call 74;refine(aQ _ _ _ _).mono ?_;rintro e w' ⟨rfl,rfl⟩) | ((go_at_call 208;(with_reducible refine(HF.out _).mono ?_);rintro e W1 ⟨rfl,hbW1⟩;obtain⟨hcW1,hfW1⟩:=aR hbW1);have hsW1:w.heap.size<W1.heap.size:=(by have h:=hbW1.size;simp at h;omega)) | (go_at_call 209;refine(bP ⟨_,_,_,_,_,_⟩ _ _ _ (by omega)).mono ?_;rintro e W2 ⟨rfl,hbW2⟩;obtain⟨hcW2,hfW2⟩:=aR hbW2))
    all_goals (try ((refine wp_region_quiet_below (by kernel_rfl) (by kernel_rfl) ?_;(repeat (go_big_quiet_step ((first | (go_at_call 74;exact Calls.reg_pure (HW1.out _)) | (go_at_call 209;exact Calls.regrown_of (bP ⟨_,_,_,_,_,_⟩ _ _ _ (by omega)))))));(with_reducible refine wpQuiet_nil ?_);intro W2 hreg;have hbW2:=aU hreg;clear hreg;obtain⟨hcW2,hfW2⟩:=aR hbW2);go_wp2))
    all_goals
     go_ret
     refine⟨cP ?_,by(repeat (first | assumption | exact Below.refl _ _ | refine ay ?_ _ | refine aw ?_ _ | refine ax ?_ (by assumption) | refine Below.trans ?_ (by assumption)))⟩;have hz:=dI HForm.out;have hi1:=HI1.out;have hi2:=HI2.out;rw[eA,←HForm.out,if_neg (fun h=>absurd (hk.symm.trans h) (by decide)),if_neg (by decide)];clear hk h3 h3' HF HForm HW1 HI1 HW2 HI2
     (try clear hbW1 hcW1 hfW1 hsW1)
     (try clear hbW2 hcW2 hfW2)
     simp[cB,cO,bG,cy,lg,bL,bH,ec,-ByteArray.size_eq_zero_iff] at *
     try ((repeat' split)<;>(first | omega | simp_all | (simp_all<;>omega)))
set_option maxRecDepth 100000 in
set_option maxHeartbeats 1000000 in
theorem rz (a e c:Int) (o n:ByteArray) (w:World) (ho:o.size≤3100) (hn:n.size≤3100) :
 Calls Tryz.prog 139 #[.agg #[.int .i64 4,.int .i64 a,.int .i64 e,.int .i64 c,.string o,.string n]] w fun r w'=>r=.returned (.int .i64 (dP ⟨4,a,e,c,o,n⟩))∧Below w.heap.size w w':=by
 have hk:bH 4 0 6=true:=rfl;obtain⟨form,hform⟩:∃b,b=bA ⟨4,a,e,c,o,n⟩:=⟨_,rfl⟩;have hF:=fun w=>um a e c o n w;rw[←hform] at hF;have HF:=Lib.hid hF;have HForm:=Lib.hid hform;clear hF hform
 cases form
 · have h3:bL false 3=3:=rfl
   have h3':(bL false 3 != 0)=true:=rfl
   go_enter Tryz.func139,Tryz.ntmps139
   go_wp2_with (first | (go_at_call 74;refine(aQ _ _ _ _).mono ?_;rintro e w' ⟨rfl,rfl⟩) | (go_at_call 208;refine(HF.out _).mono ?_;rintro e W1 ⟨rfl,hbW1⟩;obtain⟨hcW1,hfW1⟩:=aR hbW1))
   go_ret
   refine⟨cP ?_,by(repeat (first | assumption | exact Below.refl _ _ | refine ay ?_ _ | refine aw ?_ _ | refine ax ?_ (by assumption) | refine Below.trans ?_ (by assumption)))⟩;rw[eA,←HForm.out];simp[hk,bL]
 · have h3:bL true 3=0:=rfl
   have h3':(bL true 3 != 0)=false:=rfl;obtain⟨in1,hin1⟩:∃b,b=bH a 0 511:=⟨_,rfl⟩;obtain⟨in2,hin2⟩:∃b,b=bH a 0 4095:=⟨_,rfl⟩;have hW1:=fun w=>aQ a 0 511 w;have hW2:=fun w=>aQ a 0 4095 w;rw[←hin1] at hW1;rw[←hin2] at hW2;have HW1:=Lib.hid hW1;have HW2:=Lib.hid hW2;have HI1:=Lib.hid hin1;have HI2:=Lib.hid hin2;clear hW1 hW2 hin1 hin2
   cases in1<;>cases in2
   all_goals
    first
    | (exfalso;have h1:=HI1.out;have h2:=HI2.out;have h2:=h2.symm;have h1:=h1.symm;rw[eL] at h2;rw[inB_true] at h1;omega)
    | skip
   all_goals
    (try (have hb:=inB_true.1 HI1.out.symm))
    (try (have hb2:=inB_true.1 HI2.out.symm))
    go_enter Tryz.func139,Tryz.ntmps139
    go_wp2_with (first | (go_at_call 74;(with_reducible refine(HW1.out _).mono ?_);rintro e w' ⟨rfl,rfl⟩) | (go_at_call 74;(with_reducible refine(HW2.out _).mono ?_);rintro e w' ⟨rfl,rfl⟩) | (go_at_call 74;refine(aQ _ _ _ _).mono ?_;rintro e w' ⟨rfl,rfl⟩) | ((go_at_call 208;(with_reducible refine(HF.out _).mono ?_);rintro e W1 ⟨rfl,hbW1⟩;obtain⟨hcW1,hfW1⟩:=aR hbW1);have hsW1:w.heap.size<W1.heap.size:=(by have h:=hbW1.size;simp at h;omega)) | (go_at_call 209;refine(bP ⟨_,_,_,_,_,_⟩ _ _ _ (by omega)).mono ?_;rintro e W2 ⟨rfl,hbW2⟩;obtain⟨hcW2,hfW2⟩:=aR hbW2))
    all_goals (try ((refine wp_region_quiet_below (by kernel_rfl) (by kernel_rfl) ?_;(repeat (go_big_quiet_step ((first | (go_at_call 74;exact Calls.reg_pure (HW1.out _)) | (go_at_call 209;exact Calls.regrown_of (bP ⟨_,_,_,_,_,_⟩ _ _ _ (by omega)))))));(with_reducible refine wpQuiet_nil ?_);intro W2 hreg;have hbW2:=aU hreg;clear hreg;obtain⟨hcW2,hfW2⟩:=aR hbW2);go_wp2))
    all_goals
     go_ret
     refine⟨cP ?_,by(repeat (first | assumption | exact Below.refl _ _ | refine ay ?_ _ | refine aw ?_ _ | refine ax ?_ (by assumption) | refine Below.trans ?_ (by assumption)))⟩;have hz:=dI HForm.out;have hi1:=HI1.out;have hi2:=HI2.out;rw[eA,←HForm.out,if_neg (fun h=>absurd (hk.symm.trans h) (by decide)),if_neg (by decide)];clear hk h3 h3' HF HForm HW1 HI1 HW2 HI2
     (try clear hbW1 hcW1 hfW1 hsW1)
     (try clear hbW2 hcW2 hfW2)
     simp[cB,cO,bG,cy,lg,bL,bH,ec,-ByteArray.size_eq_zero_iff] at *
     try ((repeat' split)<;>(first | omega | simp_all | (simp_all<;>omega)))
set_option maxRecDepth 100000 in
set_option maxHeartbeats 1000000 in
theorem sq (a e c:Int) (o n:ByteArray) (w:World) (ho:o.size≤3100) (hn:n.size≤3100) :
 Calls Tryz.prog 139 #[.agg #[.int .i64 5,.int .i64 a,.int .i64 e,.int .i64 c,.string o,.string n]] w fun r w'=>r=.returned (.int .i64 (dP ⟨5,a,e,c,o,n⟩))∧Below w.heap.size w w':=by
 have hk:bH 5 0 6=true:=rfl;obtain⟨form,hform⟩:∃b,b=bA ⟨5,a,e,c,o,n⟩:=⟨_,rfl⟩;have hF:=fun w=>uW a e c o n w;rw[←hform] at hF;have HF:=Lib.hid hF;have HForm:=Lib.hid hform;clear hF hform
 cases form
 · have h3:bL false 3=3:=rfl
   have h3':(bL false 3 != 0)=true:=rfl
   go_enter Tryz.func139,Tryz.ntmps139
   go_wp2_with (first | (go_at_call 74;refine(aQ _ _ _ _).mono ?_;rintro e w' ⟨rfl,rfl⟩) | (go_at_call 208;refine(HF.out _).mono ?_;rintro e W1 ⟨rfl,hbW1⟩;obtain⟨hcW1,hfW1⟩:=aR hbW1))
   go_ret
   refine⟨cP ?_,by(repeat (first | assumption | exact Below.refl _ _ | refine ay ?_ _ | refine aw ?_ _ | refine ax ?_ (by assumption) | refine Below.trans ?_ (by assumption)))⟩;rw[eA,←HForm.out];simp[hk,bL]
 · have h3:bL true 3=0:=rfl
   have h3':(bL true 3 != 0)=false:=rfl;obtain⟨in1,hin1⟩:∃b,b=bH a 0 511:=⟨_,rfl⟩;obtain⟨in2,hin2⟩:∃b,b=bH a 0 4095:=⟨_,rfl⟩;have hW1:=fun w=>aQ a 0 511 w;have hW2:=fun w=>aQ a 0 4095 w;rw[←hin1] at hW1;rw[←hin2] at hW2;have HW1:=Lib.hid hW1;have HW2:=Lib.hid hW2;have HI1:=Lib.hid hin1;have HI2:=Lib.hid hin2;clear hW1 hW2 hin1 hin2
   cases in1<;>cases in2
   all_goals
    first
    | (exfalso;have h1:=HI1.out;have h2:=HI2.out;have h2:=h2.symm;have h1:=h1.symm;rw[eL] at h2;rw[inB_true] at h1;omega)
    | skip
   all_goals
    (try (have hb:=inB_true.1 HI1.out.symm))
    (try (have hb2:=inB_true.1 HI2.out.symm))
    go_enter Tryz.func139,Tryz.ntmps139
    go_wp2_with (first | (go_at_call 74;(with_reducible refine(HW1.out _).mono ?_);rintro e w' ⟨rfl,rfl⟩) | (go_at_call 74;(with_reducible refine(HW2.out _).mono ?_);rintro e w' ⟨rfl,rfl⟩) | (go_at_call 74;refine(aQ _ _ _ _).mono ?_;rintro e w' ⟨rfl,rfl⟩) | ((go_at_call 208;(with_reducible refine(HF.out _).mono ?_);rintro e W1 ⟨rfl,hbW1⟩;obtain⟨hcW1,hfW1⟩:=aR hbW1);have hsW1:w.heap.size<W1.heap.size:=(by have h:=hbW1.size;simp at h;omega)) | (go_at_call 209;refine(bP ⟨_,_,_,_,_,_⟩ _ _ _ (by omega)).mono ?_;rintro e W2 ⟨rfl,hbW2⟩;obtain⟨hcW2,hfW2⟩:=aR hbW2))
    all_goals (try ((refine wp_region_quiet_below (by kernel_rfl) (by kernel_rfl) ?_;(repeat (go_big_quiet_step ((first | (go_at_call 74;exact Calls.reg_pure (HW1.out _)) | (go_at_call 209;exact Calls.regrown_of (bP ⟨_,_,_,_,_,_⟩ _ _ _ (by omega)))))));(with_reducible refine wpQuiet_nil ?_);intro W2 hreg;have hbW2:=aU hreg;clear hreg;obtain⟨hcW2,hfW2⟩:=aR hbW2);go_wp2))
    all_goals
     go_ret
     refine⟨cP ?_,by(repeat (first | assumption | exact Below.refl _ _ | refine ay ?_ _ | refine aw ?_ _ | refine ax ?_ (by assumption) | refine Below.trans ?_ (by assumption)))⟩;have hz:=dI HForm.out;have hi1:=HI1.out;have hi2:=HI2.out;rw[eA,←HForm.out,if_neg (fun h=>absurd (hk.symm.trans h) (by decide)),if_neg (by decide)];clear hk h3 h3' HF HForm HW1 HI1 HW2 HI2
     (try clear hbW1 hcW1 hfW1 hsW1)
     (try clear hbW2 hcW2 hfW2)
     simp[cB,cO,bG,cy,lg,bL,bH,ec,-ByteArray.size_eq_zero_iff] at *
     try ((repeat' split)<;>(first | omega | simp_all | (simp_all<;>omega)))
set_option maxRecDepth 100000 in
set_option maxHeartbeats 1000000 in
theorem sj (a e c:Int) (o n:ByteArray) (w:World) (ho:o.size≤3100) (hn:n.size≤3100) :
 Calls Tryz.prog 139 #[.agg #[.int .i64 6,.int .i64 a,.int .i64 e,.int .i64 c,.string o,.string n]] w fun r w'=>r=.returned (.int .i64 (dP ⟨6,a,e,c,o,n⟩))∧Below w.heap.size w w':=by
 have hk:bH 6 0 6=true:=rfl;obtain⟨form,hform⟩:∃b,b=bA ⟨6,a,e,c,o,n⟩:=⟨_,rfl⟩;have hF:=fun w=>tL a e c o n w;rw[←hform] at hF;have HF:=Lib.hid hF;have HForm:=Lib.hid hform;clear hF hform
 cases form
 · have h3:bL false 3=3:=rfl
   have h3':(bL false 3 != 0)=true:=rfl
   go_enter Tryz.func139,Tryz.ntmps139
   go_wp2_with (first | (go_at_call 74;refine(aQ _ _ _ _).mono ?_;rintro e w' ⟨rfl,rfl⟩) | (go_at_call 208;refine(HF.out _).mono ?_;rintro e W1 ⟨rfl,hbW1⟩;obtain⟨hcW1,hfW1⟩:=aR hbW1))
   go_ret
   refine⟨cP ?_,by(repeat (first | assumption | exact Below.refl _ _ | refine ay ?_ _ | refine aw ?_ _ | refine ax ?_ (by assumption) | refine Below.trans ?_ (by assumption)))⟩;rw[eA,←HForm.out];simp[hk,bL]
 · have h3:bL true 3=0:=rfl
   have h3':(bL true 3 != 0)=false:=rfl;obtain⟨in1,hin1⟩:∃b,b=bH a 0 511:=⟨_,rfl⟩;obtain⟨in2,hin2⟩:∃b,b=bH a 0 4095:=⟨_,rfl⟩;have hW1:=fun w=>aQ a 0 511 w;have hW2:=fun w=>aQ a 0 4095 w;rw[←hin1] at hW1;rw[←hin2] at hW2;have HW1:=Lib.hid hW1;have HW2:=Lib.hid hW2;have HI1:=Lib.hid hin1;have HI2:=Lib.hid hin2;clear hW1 hW2 hin1 hin2
   cases in1<;>cases in2
   all_goals
    first
    | (exfalso;have h1:=HI1.out;have h2:=HI2.out;have h2:=h2.symm;have h1:=h1.symm;rw[eL] at h2;rw[inB_true] at h1;omega)
    | skip
   all_goals
    (try (have hb:=inB_true.1 HI1.out.symm))
    (try (have hb2:=inB_true.1 HI2.out.symm))
    go_enter Tryz.func139,Tryz.ntmps139
    go_wp2_with (first | (go_at_call 74;(with_reducible refine(HW1.out _).mono ?_);rintro e w' ⟨rfl,rfl⟩) | (go_at_call 74;(with_reducible refine(HW2.out _).mono ?_);rintro e w' ⟨rfl,rfl⟩) | (go_at_call 74;refine(aQ _ _ _ _).mono ?_;rintro e w' ⟨rfl,rfl⟩) | ((go_at_call 208;(with_reducible refine(HF.out _).mono ?_);rintro e W1 ⟨rfl,hbW1⟩;obtain⟨hcW1,hfW1⟩:=aR hbW1);have hsW1:w.heap.size<W1.heap.size:=(by have h:=hbW1.size;simp at h;omega)) | (go_at_call 209;refine(bP ⟨_,_,_,_,_,_⟩ _ _ _ (by omega)).mono ?_;rintro e W2 ⟨rfl,hbW2⟩;obtain⟨hcW2,hfW2⟩:=aR hbW2))
    all_goals (try ((refine wp_region_quiet_below (by kernel_rfl) (by kernel_rfl) ?_;(repeat (go_big_quiet_step ((first | (go_at_call 74;exact Calls.reg_pure (HW1.out _)) | (go_at_call 209;exact Calls.regrown_of (bP ⟨_,_,_,_,_,_⟩ _ _ _ (by omega)))))));(with_reducible refine wpQuiet_nil ?_);intro W2 hreg;have hbW2:=aU hreg;clear hreg;obtain⟨hcW2,hfW2⟩:=aR hbW2);go_wp2))
    all_goals
     go_ret
     refine⟨cP ?_,by(repeat (first | assumption | exact Below.refl _ _ | refine ay ?_ _ | refine aw ?_ _ | refine ax ?_ (by assumption) | refine Below.trans ?_ (by assumption)))⟩;have hz:=dI HForm.out;have hi1:=HI1.out;have hi2:=HI2.out;rw[eA,←HForm.out,if_neg (fun h=>absurd (hk.symm.trans h) (by decide)),if_neg (by decide)];clear hk h3 h3' HF HForm HW1 HI1 HW2 HI2
     (try clear hbW1 hcW1 hfW1 hsW1)
     (try clear hbW2 hcW2 hfW2)
     simp[cB,cO,bG,cy,lg,bL,bH,ec,-ByteArray.size_eq_zero_iff] at *
     try ((repeat' split)<;>(first | omega | simp_all | (simp_all<;>omega)))
end Go.Proofs.YtcfdpfmchchkaaaGreatDoor
