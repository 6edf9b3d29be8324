/-
  Chapter 21: the errors of operations, as the references have them: formErr, bytesErr, OpErr.
  Chapter 21: CheckOp and OpErr, joined.
-/
import Derived.Test.YtcfdpfmchchkaaaGreatDoorOpD
namespace Go.Proofs.YtcfdpfmchchkaaaGreatDoor
set_option linter.unusedVariables false
set_option linter.unusedSimpArgs false
open Go.RowKit Go.Sort
theorem eJ (x:Op):dq x=if bE x.k 0 6=false then 15 else if bB x=false then 3 else if cC x=false then 10 else if cY x.k=true∧bI x=0 then 17
 else if cY x.k=true∧200<bI x then 8 else if cz x=false then 2 else 0:=by
 unfold dq
 cases hk:bE x.k 0 6
 · rfl
 · rw[if_neg (by decide),if_neg (by decide)]
   have h1:(!cY x.k||decide (0<bI x))=!(decide (cY x.k=true∧bI x=0)):=by
    cases cY x.k
    · simp
    · rw[Bool.eq_iff_iff];simp only[Bool.not_true,Bool.false_or,true_and,Bool.not_eq_true',decide_eq_true_eq,decide_eq_false_iff_not];omega
   have h2:(!cY x.k||decide (bI x≤200))=!(decide (cY x.k=true∧200<bI x)):=by
    cases cY x.k
    · simp
    · rw[Bool.eq_iff_iff];simp only[Bool.not_true,Bool.false_or,true_and,Bool.not_eq_true',decide_eq_true_eq,decide_eq_false_iff_not];omega
   rw[h1,h2]
   cases bB x
   · simp[aP,bO]
   · cases cC x
     · simp[aP,bO]
     · by_cases g1:cY x.k=true∧bI x=0
       · simp[aP,bO,g1]
       · by_cases g2:cY x.k=true∧200<bI x
         · simp only[aP,bO,decide_eq_false g1,decide_eq_true g2,if_neg g1,if_pos g2];simp
         · simp only[aP,bO,decide_eq_false g1,decide_eq_false g2,if_neg g1,if_neg g2]
           cases cz x<;>simp
def lk (c:Int) (r:Bool):Int:=if c=0 then 17 else if 200<c then 8 else bO r 2
set_option maxRecDepth 100000 in
theorem bS (x:Op) (c:Int) (r:Bool) (w:World) (hc:0≤c) :
 Calls Tryz.prog 209 #[.agg #[.int .i64 x.k,.int .i64 x.a,.int .i64 x.e,.int .i64 x.c,.string x.o,.string x.n],.int .i64 c,.bool r] w fun e w'=>e=.returned (.int .i64 (lk c r))∧Below w.heap.size w w':=by
 by_cases h0:c=0
 · subst h0
   go_enter Tryz.func209,Tryz.ntmps209
   go_wp2
   go_ret
   exact⟨rfl,by(repeat (first | assumption | exact Below.refl _ _ | refine au ?_ _ | refine ao ?_ _ | refine ar ?_ (by assumption) | refine Below.trans ?_ (by assumption)))⟩
 · have h0':(c==0)=false:=by simp[h0]
   by_cases h1:200<c
   · have e:lk c r=8:=by unfold lk;rw[if_neg h0,if_pos h1]
     have E:=Lib.hid e;clear e h0
     go_enter Tryz.func209,Tryz.ntmps209
     go_wp2
     go_ret
     exact⟨cT E.out.symm,by(repeat (first | assumption | exact Below.refl _ _ | refine au ?_ _ | refine ao ?_ _ | refine ar ?_ (by assumption) | refine Below.trans ?_ (by assumption)))⟩
   · have e:lk c r=bO r 2:=by unfold lk;rw[if_neg h0,if_neg h1]
     have E:=Lib.hid e;clear e h0
     cases r
     · go_enter Tryz.func209,Tryz.ntmps209
       go_wp2
       go_ret
       exact⟨cT E.out.symm,by(repeat (first | assumption | exact Below.refl _ _ | refine au ?_ _ | refine ao ?_ _ | refine ar ?_ (by assumption) | refine Below.trans ?_ (by assumption)))⟩
     · go_enter Tryz.func209,Tryz.ntmps209
       go_wp2
       go_ret
       exact⟨cT E.out.symm,by(repeat (first | assumption | exact Below.refl _ _ | refine au ?_ _ | refine ao ?_ _ | refine ar ?_ (by assumption) | refine Below.trans ?_ (by assumption)))⟩
set_option maxRecDepth 100000 in
theorem uR (a e c:Int) (o n:ByteArray) (w:World) :
 Calls Tryz.prog 208 #[.agg #[.int .i64 0,.int .i64 a,.int .i64 e,.int .i64 c,.string o,.string n]] w fun r w'=>r=.returned (.int .i64 (bO (bB ⟨0,a,e,c,o,n⟩) 3))∧Below w.heap.size w w':=by
 go_enter Tryz.func208,Tryz.ntmps208
 go_wp2
 all_goals
  go_ret
  refine⟨cT ?_,by(repeat (first | assumption | exact Below.refl _ _ | refine au ?_ _ | refine ao ?_ _ | refine ar ?_ (by assumption) | refine Below.trans ?_ (by assumption)))⟩
  (try simp only[toList_nil,isEmpty_eq] at *)
  simp_all [bB,iZ,fo,dm,fe,fc,bE,bO]
set_option maxRecDepth 100000 in
theorem ua (a e c:Int) (o n:ByteArray) (w:World) :
 Calls Tryz.prog 208 #[.agg #[.int .i64 1,.int .i64 a,.int .i64 e,.int .i64 c,.string o,.string n]] w fun r w'=>r=.returned (.int .i64 (bO (bB ⟨1,a,e,c,o,n⟩) 3))∧Below w.heap.size w w':=by
 go_enter Tryz.func208,Tryz.ntmps208
 go_wp2
 all_goals
  go_ret
  refine⟨cT ?_,by(repeat (first | assumption | exact Below.refl _ _ | refine au ?_ _ | refine ao ?_ _ | refine ar ?_ (by assumption) | refine Below.trans ?_ (by assumption)))⟩
  (try simp only[toList_nil,isEmpty_eq] at *)
  simp_all [bB,iZ,fo,dm,fe,fc,bE,bO]
set_option maxRecDepth 100000 in
theorem uC (a e c:Int) (o n:ByteArray) (w:World) :
 Calls Tryz.prog 208 #[.agg #[.int .i64 2,.int .i64 a,.int .i64 e,.int .i64 c,.string o,.string n]] w fun r w'=>r=.returned (.int .i64 (bO (bB ⟨2,a,e,c,o,n⟩) 3))∧Below w.heap.size w w':=by
 go_enter Tryz.func208,Tryz.ntmps208
 go_wp2
 all_goals
  go_ret
  refine⟨cT ?_,by(repeat (first | assumption | exact Below.refl _ _ | refine au ?_ _ | refine ao ?_ _ | refine ar ?_ (by assumption) | refine Below.trans ?_ (by assumption)))⟩
  (try simp only[toList_nil,isEmpty_eq] at *)
  simp_all [bB,iZ,fo,dm,fe,fc,bE,bO]
set_option maxRecDepth 100000 in
theorem tP (a e c:Int) (o n:ByteArray) (w:World) :
 Calls Tryz.prog 208 #[.agg #[.int .i64 3,.int .i64 a,.int .i64 e,.int .i64 c,.string o,.string n]] w fun r w'=>r=.returned (.int .i64 (bO (bB ⟨3,a,e,c,o,n⟩) 3))∧Below w.heap.size w w':=by
 go_enter Tryz.func208,Tryz.ntmps208
 go_wp2
 all_goals
  go_ret
  refine⟨cT ?_,by(repeat (first | assumption | exact Below.refl _ _ | refine au ?_ _ | refine ao ?_ _ | refine ar ?_ (by assumption) | refine Below.trans ?_ (by assumption)))⟩
  (try simp only[toList_nil,isEmpty_eq] at *)
  simp_all [bB,iZ,fo,dm,fe,fc,bE,bO]
set_option maxRecDepth 100000 in
theorem vt (a e c:Int) (o n:ByteArray) (w:World) :
 Calls Tryz.prog 208 #[.agg #[.int .i64 4,.int .i64 a,.int .i64 e,.int .i64 c,.string o,.string n]] w fun r w'=>r=.returned (.int .i64 (bO (bB ⟨4,a,e,c,o,n⟩) 3))∧Below w.heap.size w w':=by
 go_enter Tryz.func208,Tryz.ntmps208
 go_wp2
 all_goals
  go_ret
  refine⟨cT ?_,by(repeat (first | assumption | exact Below.refl _ _ | refine au ?_ _ | refine ao ?_ _ | refine ar ?_ (by assumption) | refine Below.trans ?_ (by assumption)))⟩
  (try simp only[toList_nil,isEmpty_eq] at *)
  simp_all [bB,iZ,fo,dm,fe,fc,bE,bO]
set_option maxRecDepth 100000 in
theorem uA (a e c:Int) (o n:ByteArray) (w:World) :
 Calls Tryz.prog 208 #[.agg #[.int .i64 5,.int .i64 a,.int .i64 e,.int .i64 c,.string o,.string n]] w fun r w'=>r=.returned (.int .i64 (bO (bB ⟨5,a,e,c,o,n⟩) 3))∧Below w.heap.size w w':=by
 go_enter Tryz.func208,Tryz.ntmps208
 go_wp2
 all_goals
  go_ret
  refine⟨cT ?_,by(repeat (first | assumption | exact Below.refl _ _ | refine au ?_ _ | refine ao ?_ _ | refine ar ?_ (by assumption) | refine Below.trans ?_ (by assumption)))⟩
  (try simp only[toList_nil,isEmpty_eq] at *)
  simp_all [bB,iZ,fo,dm,fe,fc,bE,bO]
set_option maxRecDepth 100000 in
theorem uL (a e c:Int) (o n:ByteArray) (w:World) :
 Calls Tryz.prog 208 #[.agg #[.int .i64 6,.int .i64 a,.int .i64 e,.int .i64 c,.string o,.string n]] w fun r w'=>r=.returned (.int .i64 (bO (bB ⟨6,a,e,c,o,n⟩) 3))∧Below w.heap.size w w':=by
 go_enter Tryz.func208,Tryz.ntmps208
 go_wp2
 all_goals
  go_ret
  refine⟨cT ?_,by(repeat (first | assumption | exact Below.refl _ _ | refine au ?_ _ | refine ao ?_ _ | refine ar ?_ (by assumption) | refine Below.trans ?_ (by assumption)))⟩
  (try simp only[toList_nil,isEmpty_eq] at *)
  simp_all [bB,iZ,fo,dm,fe,fc,bE,bO]
open Go.RowKit Go.Sort
set_option maxRecDepth 100000 in
theorem qC (x:Op) (w:World) (hk:bE x.k 0 6=false) :
 Calls Tryz.prog 144 #[eQ x] w fun r w'=>r=.returned (.int .i64 (dq x))∧Below w.heap.size w w':=by
 have e:dq x=15:=by unfold dq;rw[hk];rfl
 have E:=Lib.hid e;clear e;unfold eQ
 go_enter Tryz.func144,Tryz.ntmps144
 go_wp2_with (first | (go_at_call 152;refine(aM _ _ _ _).mono ?_;rintro e w' ⟨rfl,rfl⟩))
 go_ret
 exact⟨cT E.out.symm,by(repeat (first | assumption | exact Below.refl _ _ | refine au ?_ _ | refine ao ?_ _ | refine ar ?_ (by assumption) | refine Below.trans ?_ (by assumption)))⟩
theorem cp (x:Op) (w:World) (ho:x.o.size≤3100) (hn:x.n.size≤3100) :
 Calls Tryz.prog 144 #[eQ x] w fun r w'=>r=.returned (.int .i64 (dq x))∧Below w.heap.size w w':=by
 cases hk:bE x.k 0 6
 · exact qC x w hk
 · obtain⟨k,a,e,c,o,n⟩:=x
   rw[inB_true] at hk
   dsimp only at hk
   have:k=0∨k=1∨k=2∨k=3∨k=4∨k=5∨k=6:=by omega
   rcases this with rfl | rfl | rfl | rfl | rfl | rfl | rfl
   · exact tN a e c o n w ho hn
   · exact tM a e c o n w ho hn
   · exact vb a e c o n w ho hn
   · exact tV a e c o n w ho hn
   · exact vn a e c o n w ho hn
   · exact ue a e c o n w ho hn
   · exact uB a e c o n w ho hn
set_option maxRecDepth 100000 in
theorem oU (x:Op) (w:World) (hk:bE x.k 0 6=false) :
 Calls Tryz.prog 139 #[eQ x] w fun r w'=>r=.returned (.int .i64 (dq x))∧Below w.heap.size w w':=by
 have e:dq x=15:=by unfold dq;rw[hk];rfl
 have E:=Lib.hid e;clear e;unfold eQ
 go_enter Tryz.func139,Tryz.ntmps139
 go_wp2_with (first | (go_at_call 74;refine(aT _ _ _ _).mono ?_;rintro e w' ⟨rfl,rfl⟩))
 go_ret
 exact⟨cT E.out.symm,by(repeat (first | assumption | exact Below.refl _ _ | refine au ?_ _ | refine ao ?_ _ | refine ar ?_ (by assumption) | refine Below.trans ?_ (by assumption)))⟩
theorem dS {k a e c:Int} {o n:ByteArray} (h:true=bB ⟨k,a,e,c,o,n⟩):(k=2→o.size=0)∧(k=3→n.size=0):=by
 simp only[bB,fe,fc,Bool.and_eq_true,Bool.or_eq_true,beq_iff_eq] at h;have h:=h.symm;simp only[Bool.and_eq_true,Bool.or_eq_true,beq_iff_eq] at h;omega
set_option maxRecDepth 100000 in
set_option maxHeartbeats 1000000 in
theorem sD (a e c:Int) (o n:ByteArray) (w:World) (ho:o.size≤3100) (hn:n.size≤3100) :
 Calls Tryz.prog 139 #[.agg #[.int .i64 0,.int .i64 a,.int .i64 e,.int .i64 c,.string o,.string n]] w fun r w'=>r=.returned (.int .i64 (dq ⟨0,a,e,c,o,n⟩))∧Below w.heap.size w w':=by
 have hk:bE 0 0 6=true:=rfl;obtain⟨form,hform⟩:∃b,b=bB ⟨0,a,e,c,o,n⟩:=⟨_,rfl⟩;have hF:=fun w=>uR a e c o n w;rw[←hform] at hF;have HF:=Lib.hid hF;have HForm:=Lib.hid hform;clear hF hform
 cases form
 · have h3:bO false 3=3:=rfl
   have h3':(bO false 3 != 0)=true:=rfl
   go_enter Tryz.func139,Tryz.ntmps139
   go_wp2_with (first | (go_at_call 74;refine(aT _ _ _ _).mono ?_;rintro e w' ⟨rfl,rfl⟩) | (go_at_call 208;refine(HF.out _).mono ?_;rintro e W1 ⟨rfl,hbW1⟩;obtain⟨hcW1,hfW1⟩:=aK hbW1))
   go_ret
   refine⟨cT ?_,by(repeat (first | assumption | exact Below.refl _ _ | refine au ?_ _ | refine ao ?_ _ | refine ar ?_ (by assumption) | refine Below.trans ?_ (by assumption)))⟩;rw[eJ,←HForm.out];simp[hk,bO]
 · have h3:bO true 3=0:=rfl
   have h3':(bO true 3 != 0)=false:=rfl;obtain⟨in1,hin1⟩:∃b,b=bE a 0 511:=⟨_,rfl⟩;obtain⟨in2,hin2⟩:∃b,b=bE a 0 4095:=⟨_,rfl⟩;have hW1:=fun w=>aT a 0 511 w;have hW2:=fun w=>aT a 0 4095 w;rw[←hin1] at hW1;rw[←hin2] at hW2;have HW1:=Lib.hid hW1;have HW2:=Lib.hid hW2;have HI1:=Lib.hid hin1;have HI2:=Lib.hid hin2;clear hW1 hW2 hin1 hin2
   cases in1<;>cases in2
   all_goals
    first
    | (exfalso;have h1:=HI1.out;have h2:=HI2.out;have h2:=h2.symm;have h1:=h1.symm;rw[eP] at h2;rw[inB_true] at h1;omega)
    | skip
   all_goals
    (try (have hb:=inB_true.1 HI1.out.symm))
    (try (have hb2:=inB_true.1 HI2.out.symm))
    go_enter Tryz.func139,Tryz.ntmps139
    go_wp2_with (first | (go_at_call 74;(with_reducible refine(HW1.out _).mono ?_);rintro e w' ⟨rfl,rfl⟩) | (go_at_call 74;(with_reducible refine(HW2.out _).mono ?_);rintro e w' ⟨rfl,rfl⟩) | (go_at_call 74;refine(aT _ _ _ _).mono ?_;rintro e w' ⟨rfl,rfl⟩) | ((go_at_call 208;(with_reducible refine(HF.out _).mono ?_);rintro e W1 ⟨rfl,hbW1⟩;obtain⟨hcW1,hfW1⟩:=aK hbW1);have hsW1:w.heap.size<W1.heap.size:=(by have h:=hbW1.size;simp at h;omega)) | (go_at_call 209;refine(bS ⟨_,_,_,_,_,_⟩ _ _ _ (by omega)).mono ?_;rintro e W2 ⟨rfl,hbW2⟩;obtain⟨hcW2,hfW2⟩:=aK hbW2))
    all_goals (try ((refine wp_region_quiet_below (by kernel_rfl) (by kernel_rfl) ?_;(repeat (go_big_quiet_step ((first | (go_at_call 74;exact Calls.reg_pure (HW1.out _)) | (go_at_call 209;exact Calls.regrown_of (bS ⟨_,_,_,_,_,_⟩ _ _ _ (by omega)))))));(with_reducible refine wpQuiet_nil ?_);intro W2 hreg;have hbW2:=aH hreg;clear hreg;obtain⟨hcW2,hfW2⟩:=aK hbW2);go_wp2))
    all_goals
     go_ret
     refine⟨cT ?_,by(repeat (first | assumption | exact Below.refl _ _ | refine au ?_ _ | refine ao ?_ _ | refine ar ?_ (by assumption) | refine Below.trans ?_ (by assumption)))⟩;have hz:=dS HForm.out;have hi1:=HI1.out;have hi2:=HI2.out;rw[eJ,←HForm.out,if_neg (fun h=>absurd (hk.symm.trans h) (by decide)),if_neg (by decide)];clear hk h3 h3' HF HForm HW1 HI1 HW2 HI2
     (try clear hbW1 hcW1 hfW1 hsW1)
     (try clear hbW2 hcW2 hfW2)
     simp[cC,cY,bI,cz,lk,bO,bE,et,-ByteArray.size_eq_zero_iff] at *
     try ((repeat' split)<;>(first | omega | simp_all | (simp_all<;>omega)))
set_option maxRecDepth 100000 in
set_option maxHeartbeats 1000000 in
theorem rC (a e c:Int) (o n:ByteArray) (w:World) (ho:o.size≤3100) (hn:n.size≤3100) :
 Calls Tryz.prog 139 #[.agg #[.int .i64 1,.int .i64 a,.int .i64 e,.int .i64 c,.string o,.string n]] w fun r w'=>r=.returned (.int .i64 (dq ⟨1,a,e,c,o,n⟩))∧Below w.heap.size w w':=by
 have hk:bE 1 0 6=true:=rfl;obtain⟨form,hform⟩:∃b,b=bB ⟨1,a,e,c,o,n⟩:=⟨_,rfl⟩;have hF:=fun w=>ua a e c o n w;rw[←hform] at hF;have HF:=Lib.hid hF;have HForm:=Lib.hid hform;clear hF hform
 cases form
 · have h3:bO false 3=3:=rfl
   have h3':(bO false 3 != 0)=true:=rfl
   go_enter Tryz.func139,Tryz.ntmps139
   go_wp2_with (first | (go_at_call 74;refine(aT _ _ _ _).mono ?_;rintro e w' ⟨rfl,rfl⟩) | (go_at_call 208;refine(HF.out _).mono ?_;rintro e W1 ⟨rfl,hbW1⟩;obtain⟨hcW1,hfW1⟩:=aK hbW1))
   go_ret
   refine⟨cT ?_,by(repeat (first | assumption | exact Below.refl _ _ | refine au ?_ _ | refine ao ?_ _ | refine ar ?_ (by assumption) | refine Below.trans ?_ (by assumption)))⟩;rw[eJ,←HForm.out];simp[hk,bO]
 · have h3:bO true 3=0:=rfl
   have h3':(bO true 3 != 0)=false:=rfl;obtain⟨in1,hin1⟩:∃b,b=bE a 0 511:=⟨_,rfl⟩;obtain⟨in2,hin2⟩:∃b,b=bE a 0 4095:=⟨_,rfl⟩;have hW1:=fun w=>aT a 0 511 w;have hW2:=fun w=>aT a 0 4095 w;rw[←hin1] at hW1;rw[←hin2] at hW2;have HW1:=Lib.hid hW1;have HW2:=Lib.hid hW2;have HI1:=Lib.hid hin1;have HI2:=Lib.hid hin2;clear hW1 hW2 hin1 hin2
   cases in1<;>cases in2
   all_goals
    first
    | (exfalso;have h1:=HI1.out;have h2:=HI2.out;have h2:=h2.symm;have h1:=h1.symm;rw[eP] at h2;rw[inB_true] at h1;omega)
    | skip
   all_goals
    (try (have hb:=inB_true.1 HI1.out.symm))
    (try (have hb2:=inB_true.1 HI2.out.symm))
    go_enter Tryz.func139,Tryz.ntmps139
    go_wp2_with (first | (go_at_call 74;(with_reducible refine(HW1.out _).mono ?_);rintro e w' ⟨rfl,rfl⟩) | (go_at_call 74;(with_reducible refine(HW2.out _).mono ?_);rintro e w' ⟨rfl,rfl⟩) | (go_at_call 74;refine(aT _ _ _ _).mono ?_;rintro e w' ⟨rfl,rfl⟩) | ((go_at_call 208;(with_reducible refine(HF.out _).mono ?_);rintro e W1 ⟨rfl,hbW1⟩;obtain⟨hcW1,hfW1⟩:=aK hbW1);have hsW1:w.heap.size<W1.heap.size:=(by have h:=hbW1.size;simp at h;omega)) | (go_at_call 209;refine(bS ⟨_,_,_,_,_,_⟩ _ _ _ (by omega)).mono ?_;rintro e W2 ⟨rfl,hbW2⟩;obtain⟨hcW2,hfW2⟩:=aK hbW2))
    all_goals (try ((refine wp_region_quiet_below (by kernel_rfl) (by kernel_rfl) ?_;(repeat (go_big_quiet_step ((first | (go_at_call 74;exact Calls.reg_pure (HW1.out _)) | (go_at_call 209;exact Calls.regrown_of (bS ⟨_,_,_,_,_,_⟩ _ _ _ (by omega)))))));(with_reducible refine wpQuiet_nil ?_);intro W2 hreg;have hbW2:=aH hreg;clear hreg;obtain⟨hcW2,hfW2⟩:=aK hbW2);go_wp2))
    all_goals
     go_ret
     refine⟨cT ?_,by(repeat (first | assumption | exact Below.refl _ _ | refine au ?_ _ | refine ao ?_ _ | refine ar ?_ (by assumption) | refine Below.trans ?_ (by assumption)))⟩;have hz:=dS HForm.out;have hi1:=HI1.out;have hi2:=HI2.out;rw[eJ,←HForm.out,if_neg (fun h=>absurd (hk.symm.trans h) (by decide)),if_neg (by decide)];clear hk h3 h3' HF HForm HW1 HI1 HW2 HI2
     (try clear hbW1 hcW1 hfW1 hsW1)
     (try clear hbW2 hcW2 hfW2)
     simp[cC,cY,bI,cz,lk,bO,bE,et,-ByteArray.size_eq_zero_iff] at *
     try ((repeat' split)<;>(first | omega | simp_all | (simp_all<;>omega)))
set_option maxRecDepth 100000 in
set_option maxHeartbeats 1000000 in
theorem sr (a e c:Int) (o n:ByteArray) (w:World) (ho:o.size≤3100) (hn:n.size≤3100) :
 Calls Tryz.prog 139 #[.agg #[.int .i64 2,.int .i64 a,.int .i64 e,.int .i64 c,.string o,.string n]] w fun r w'=>r=.returned (.int .i64 (dq ⟨2,a,e,c,o,n⟩))∧Below w.heap.size w w':=by
 have hk:bE 2 0 6=true:=rfl;obtain⟨form,hform⟩:∃b,b=bB ⟨2,a,e,c,o,n⟩:=⟨_,rfl⟩;have hF:=fun w=>uC a e c o n w;rw[←hform] at hF;have HF:=Lib.hid hF;have HForm:=Lib.hid hform;clear hF hform
 cases form
 · have h3:bO false 3=3:=rfl
   have h3':(bO false 3 != 0)=true:=rfl
   go_enter Tryz.func139,Tryz.ntmps139
   go_wp2_with (first | (go_at_call 74;refine(aT _ _ _ _).mono ?_;rintro e w' ⟨rfl,rfl⟩) | (go_at_call 208;refine(HF.out _).mono ?_;rintro e W1 ⟨rfl,hbW1⟩;obtain⟨hcW1,hfW1⟩:=aK hbW1))
   go_ret
   refine⟨cT ?_,by(repeat (first | assumption | exact Below.refl _ _ | refine au ?_ _ | refine ao ?_ _ | refine ar ?_ (by assumption) | refine Below.trans ?_ (by assumption)))⟩;rw[eJ,←HForm.out];simp[hk,bO]
 · have h3:bO true 3=0:=rfl
   have h3':(bO true 3 != 0)=false:=rfl;obtain⟨in1,hin1⟩:∃b,b=bE a 0 511:=⟨_,rfl⟩;obtain⟨in2,hin2⟩:∃b,b=bE a 0 4095:=⟨_,rfl⟩;have hW1:=fun w=>aT a 0 511 w;have hW2:=fun w=>aT a 0 4095 w;rw[←hin1] at hW1;rw[←hin2] at hW2;have HW1:=Lib.hid hW1;have HW2:=Lib.hid hW2;have HI1:=Lib.hid hin1;have HI2:=Lib.hid hin2;clear hW1 hW2 hin1 hin2
   cases in1<;>cases in2
   all_goals
    first
    | (exfalso;have h1:=HI1.out;have h2:=HI2.out;have h2:=h2.symm;have h1:=h1.symm;rw[eP] at h2;rw[inB_true] at h1;omega)
    | skip
   all_goals
    (try (have hb:=inB_true.1 HI1.out.symm))
    (try (have hb2:=inB_true.1 HI2.out.symm))
    go_enter Tryz.func139,Tryz.ntmps139
    go_wp2_with (first | (go_at_call 74;(with_reducible refine(HW1.out _).mono ?_);rintro e w' ⟨rfl,rfl⟩) | (go_at_call 74;(with_reducible refine(HW2.out _).mono ?_);rintro e w' ⟨rfl,rfl⟩) | (go_at_call 74;refine(aT _ _ _ _).mono ?_;rintro e w' ⟨rfl,rfl⟩) | ((go_at_call 208;(with_reducible refine(HF.out _).mono ?_);rintro e W1 ⟨rfl,hbW1⟩;obtain⟨hcW1,hfW1⟩:=aK hbW1);have hsW1:w.heap.size<W1.heap.size:=(by have h:=hbW1.size;simp at h;omega)) | (go_at_call 209;refine(bS ⟨_,_,_,_,_,_⟩ _ _ _ (by omega)).mono ?_;rintro e W2 ⟨rfl,hbW2⟩;obtain⟨hcW2,hfW2⟩:=aK hbW2))
    all_goals (try ((refine wp_region_quiet_below (by kernel_rfl) (by kernel_rfl) ?_;(repeat (go_big_quiet_step ((first | (go_at_call 74;exact Calls.reg_pure (HW1.out _)) | (go_at_call 209;exact Calls.regrown_of (bS ⟨_,_,_,_,_,_⟩ _ _ _ (by omega)))))));(with_reducible refine wpQuiet_nil ?_);intro W2 hreg;have hbW2:=aH hreg;clear hreg;obtain⟨hcW2,hfW2⟩:=aK hbW2);go_wp2))
    all_goals
     go_ret
     refine⟨cT ?_,by(repeat (first | assumption | exact Below.refl _ _ | refine au ?_ _ | refine ao ?_ _ | refine ar ?_ (by assumption) | refine Below.trans ?_ (by assumption)))⟩;have hz:=dS HForm.out;have hi1:=HI1.out;have hi2:=HI2.out;rw[eJ,←HForm.out,if_neg (fun h=>absurd (hk.symm.trans h) (by decide)),if_neg (by decide)];clear hk h3 h3' HF HForm HW1 HI1 HW2 HI2
     (try clear hbW1 hcW1 hfW1 hsW1)
     (try clear hbW2 hcW2 hfW2)
     simp[cC,cY,bI,cz,lk,bO,bE,et,-ByteArray.size_eq_zero_iff] at *
     try ((repeat' split)<;>(first | omega | simp_all | (simp_all<;>omega)))
set_option maxRecDepth 100000 in
set_option maxHeartbeats 1000000 in
theorem rO (a e c:Int) (o n:ByteArray) (w:World) (ho:o.size≤3100) (hn:n.size≤3100) :
 Calls Tryz.prog 139 #[.agg #[.int .i64 3,.int .i64 a,.int .i64 e,.int .i64 c,.string o,.string n]] w fun r w'=>r=.returned (.int .i64 (dq ⟨3,a,e,c,o,n⟩))∧Below w.heap.size w w':=by
 have hk:bE 3 0 6=true:=rfl;obtain⟨form,hform⟩:∃b,b=bB ⟨3,a,e,c,o,n⟩:=⟨_,rfl⟩;have hF:=fun w=>tP a e c o n w;rw[←hform] at hF;have HF:=Lib.hid hF;have HForm:=Lib.hid hform;clear hF hform
 cases form
 · have h3:bO false 3=3:=rfl
   have h3':(bO false 3 != 0)=true:=rfl
   go_enter Tryz.func139,Tryz.ntmps139
   go_wp2_with (first | (go_at_call 74;refine(aT _ _ _ _).mono ?_;rintro e w' ⟨rfl,rfl⟩) | (go_at_call 208;refine(HF.out _).mono ?_;rintro e W1 ⟨rfl,hbW1⟩;obtain⟨hcW1,hfW1⟩:=aK hbW1))
   go_ret
   refine⟨cT ?_,by(repeat (first | assumption | exact Below.refl _ _ | refine au ?_ _ | refine ao ?_ _ | refine ar ?_ (by assumption) | refine Below.trans ?_ (by assumption)))⟩;rw[eJ,←HForm.out];simp[hk,bO]
 · have h3:bO true 3=0:=rfl
   have h3':(bO true 3 != 0)=false:=rfl;obtain⟨in1,hin1⟩:∃b,b=bE a 0 511:=⟨_,rfl⟩;obtain⟨in2,hin2⟩:∃b,b=bE a 0 4095:=⟨_,rfl⟩;have hW1:=fun w=>aT a 0 511 w;have hW2:=fun w=>aT a 0 4095 w;rw[←hin1] at hW1;rw[←hin2] at hW2;have HW1:=Lib.hid hW1;have HW2:=Lib.hid hW2;have HI1:=Lib.hid hin1;have HI2:=Lib.hid hin2;clear hW1 hW2 hin1 hin2
   cases in1<;>cases in2
   all_goals
    first
    | (exfalso;have h1:=HI1.out;have h2:=HI2.out;have h2:=h2.symm;have h1:=h1.symm;rw[eP] at h2;rw[inB_true] at h1;omega)
    | skip
   all_goals
    (try (have hb:=inB_true.1 HI1.out.symm))
    (try (have hb2:=inB_true.1 HI2.out.symm))
    go_enter Tryz.func139,Tryz.ntmps139
    go_wp2_with (first | (go_at_call 74;(with_reducible refine(HW1.out _).mono ?_);rintro e w' ⟨rfl,rfl⟩) | (go_at_call 74;(with_reducible refine(HW2.out _).mono ?_);rintro e w' ⟨rfl,rfl⟩) | (go_at_call 74;refine(aT _ _ _ _).mono ?_;rintro e w' ⟨rfl,rfl⟩) | ((go_at_call 208;(with_reducible refine(HF.out _).mono ?_);rintro e W1 ⟨rfl,hbW1⟩;obtain⟨hcW1,hfW1⟩:=aK hbW1);have hsW1:w.heap.size<W1.heap.size:=(by have h:=hbW1.size;simp at h;omega)) | (go_at_call 209;refine(bS ⟨_,_,_,_,_,_⟩ _ _ _ (by omega)).mono ?_;rintro e W2 ⟨rfl,hbW2⟩;obtain⟨hcW2,hfW2⟩:=aK hbW2))
    all_goals (try ((refine wp_region_quiet_below (by kernel_rfl) (by kernel_rfl) ?_;(repeat (go_big_quiet_step ((first | (go_at_call 74;exact Calls.reg_pure (HW1.out _)) | (go_at_call 209;exact Calls.regrown_of (bS ⟨_,_,_,_,_,_⟩ _ _ _ (by omega)))))));(with_reducible refine wpQuiet_nil ?_);intro W2 hreg;have hbW2:=aH hreg;clear hreg;obtain⟨hcW2,hfW2⟩:=aK hbW2);go_wp2))
    all_goals
     go_ret
     refine⟨cT ?_,by(repeat (first | assumption | exact Below.refl _ _ | refine au ?_ _ | refine ao ?_ _ | refine ar ?_ (by assumption) | refine Below.trans ?_ (by assumption)))⟩;have hz:=dS HForm.out;have hi1:=HI1.out;have hi2:=HI2.out;rw[eJ,←HForm.out,if_neg (fun h=>absurd (hk.symm.trans h) (by decide)),if_neg (by decide)];clear hk h3 h3' HF HForm HW1 HI1 HW2 HI2
     (try clear hbW1 hcW1 hfW1 hsW1)
     (try clear hbW2 hcW2 hfW2)
     simp[cC,cY,bI,cz,lk,bO,bE,et,-ByteArray.size_eq_zero_iff] at *
     try ((repeat' split)<;>(first | omega | simp_all | (simp_all<;>omega)))
set_option maxRecDepth 100000 in
set_option maxHeartbeats 1000000 in
theorem sE (a e c:Int) (o n:ByteArray) (w:World) (ho:o.size≤3100) (hn:n.size≤3100) :
 Calls Tryz.prog 139 #[.agg #[.int .i64 4,.int .i64 a,.int .i64 e,.int .i64 c,.string o,.string n]] w fun r w'=>r=.returned (.int .i64 (dq ⟨4,a,e,c,o,n⟩))∧Below w.heap.size w w':=by
 have hk:bE 4 0 6=true:=rfl;obtain⟨form,hform⟩:∃b,b=bB ⟨4,a,e,c,o,n⟩:=⟨_,rfl⟩;have hF:=fun w=>vt a e c o n w;rw[←hform] at hF;have HF:=Lib.hid hF;have HForm:=Lib.hid hform;clear hF hform
 cases form
 · have h3:bO false 3=3:=rfl
   have h3':(bO false 3 != 0)=true:=rfl
   go_enter Tryz.func139,Tryz.ntmps139
   go_wp2_with (first | (go_at_call 74;refine(aT _ _ _ _).mono ?_;rintro e w' ⟨rfl,rfl⟩) | (go_at_call 208;refine(HF.out _).mono ?_;rintro e W1 ⟨rfl,hbW1⟩;obtain⟨hcW1,hfW1⟩:=aK hbW1))
   go_ret
   refine⟨cT ?_,by(repeat (first | assumption | exact Below.refl _ _ | refine au ?_ _ | refine ao ?_ _ | refine ar ?_ (by assumption) | refine Below.trans ?_ (by assumption)))⟩;rw[eJ,←HForm.out];simp[hk,bO]
 · have h3:bO true 3=0:=rfl
   have h3':(bO true 3 != 0)=false:=rfl;obtain⟨in1,hin1⟩:∃b,b=bE a 0 511:=⟨_,rfl⟩;obtain⟨in2,hin2⟩:∃b,b=bE a 0 4095:=⟨_,rfl⟩;have hW1:=fun w=>aT a 0 511 w;have hW2:=fun w=>aT a 0 4095 w;rw[←hin1] at hW1;rw[←hin2] at hW2;have HW1:=Lib.hid hW1;have HW2:=Lib.hid hW2;have HI1:=Lib.hid hin1;have HI2:=Lib.hid hin2;clear hW1 hW2 hin1 hin2
   cases in1<;>cases in2
   all_goals
    first
    | (exfalso;have h1:=HI1.out;have h2:=HI2.out;have h2:=h2.symm;have h1:=h1.symm;rw[eP] at h2;rw[inB_true] at h1;omega)
    | skip
   all_goals
    (try (have hb:=inB_true.1 HI1.out.symm))
    (try (have hb2:=inB_true.1 HI2.out.symm))
    go_enter Tryz.func139,Tryz.ntmps139
    go_wp2_with (first | (go_at_call 74;(with_reducible refine(HW1.out _).mono ?_);rintro e w' ⟨rfl,rfl⟩) | (go_at_call 74;(with_reducible refine(HW2.out _).mono ?_);rintro e w' ⟨rfl,rfl⟩) | (go_at_call 74;refine(aT _ _ _ _).mono ?_;rintro e w' ⟨rfl,rfl⟩) | ((go_at_call 208;(with_reducible refine(HF.out _).mono ?_);rintro e W1 ⟨rfl,hbW1⟩;obtain⟨hcW1,hfW1⟩:=aK hbW1);have hsW1:w.heap.size<W1.heap.size:=(by have h:=hbW1.size;simp at h;omega)) | (go_at_call 209;refine(bS ⟨_,_,_,_,_,_⟩ _ _ _ (by omega)).mono ?_;rintro e W2 ⟨rfl,hbW2⟩;obtain⟨hcW2,hfW2⟩:=aK hbW2))
    all_goals (try ((refine wp_region_quiet_below (by kernel_rfl) (by kernel_rfl) ?_;(repeat (go_big_quiet_step ((first | (go_at_call 74;exact Calls.reg_pure (HW1.out _)) | (go_at_call 209;exact Calls.regrown_of (bS ⟨_,_,_,_,_,_⟩ _ _ _ (by omega)))))));(with_reducible refine wpQuiet_nil ?_);intro W2 hreg;have hbW2:=aH hreg;clear hreg;obtain⟨hcW2,hfW2⟩:=aK hbW2);go_wp2))
    all_goals
     go_ret
     refine⟨cT ?_,by(repeat (first | assumption | exact Below.refl _ _ | refine au ?_ _ | refine ao ?_ _ | refine ar ?_ (by assumption) | refine Below.trans ?_ (by assumption)))⟩;have hz:=dS HForm.out;have hi1:=HI1.out;have hi2:=HI2.out;rw[eJ,←HForm.out,if_neg (fun h=>absurd (hk.symm.trans h) (by decide)),if_neg (by decide)];clear hk h3 h3' HF HForm HW1 HI1 HW2 HI2
     (try clear hbW1 hcW1 hfW1 hsW1)
     (try clear hbW2 hcW2 hfW2)
     simp[cC,cY,bI,cz,lk,bO,bE,et,-ByteArray.size_eq_zero_iff] at *
     try ((repeat' split)<;>(first | omega | simp_all | (simp_all<;>omega)))
set_option maxRecDepth 100000 in
set_option maxHeartbeats 1000000 in
theorem sb (a e c:Int) (o n:ByteArray) (w:World) (ho:o.size≤3100) (hn:n.size≤3100) :
 Calls Tryz.prog 139 #[.agg #[.int .i64 5,.int .i64 a,.int .i64 e,.int .i64 c,.string o,.string n]] w fun r w'=>r=.returned (.int .i64 (dq ⟨5,a,e,c,o,n⟩))∧Below w.heap.size w w':=by
 have hk:bE 5 0 6=true:=rfl;obtain⟨form,hform⟩:∃b,b=bB ⟨5,a,e,c,o,n⟩:=⟨_,rfl⟩;have hF:=fun w=>uA a e c o n w;rw[←hform] at hF;have HF:=Lib.hid hF;have HForm:=Lib.hid hform;clear hF hform
 cases form
 · have h3:bO false 3=3:=rfl
   have h3':(bO false 3 != 0)=true:=rfl
   go_enter Tryz.func139,Tryz.ntmps139
   go_wp2_with (first | (go_at_call 74;refine(aT _ _ _ _).mono ?_;rintro e w' ⟨rfl,rfl⟩) | (go_at_call 208;refine(HF.out _).mono ?_;rintro e W1 ⟨rfl,hbW1⟩;obtain⟨hcW1,hfW1⟩:=aK hbW1))
   go_ret
   refine⟨cT ?_,by(repeat (first | assumption | exact Below.refl _ _ | refine au ?_ _ | refine ao ?_ _ | refine ar ?_ (by assumption) | refine Below.trans ?_ (by assumption)))⟩;rw[eJ,←HForm.out];simp[hk,bO]
 · have h3:bO true 3=0:=rfl
   have h3':(bO true 3 != 0)=false:=rfl;obtain⟨in1,hin1⟩:∃b,b=bE a 0 511:=⟨_,rfl⟩;obtain⟨in2,hin2⟩:∃b,b=bE a 0 4095:=⟨_,rfl⟩;have hW1:=fun w=>aT a 0 511 w;have hW2:=fun w=>aT a 0 4095 w;rw[←hin1] at hW1;rw[←hin2] at hW2;have HW1:=Lib.hid hW1;have HW2:=Lib.hid hW2;have HI1:=Lib.hid hin1;have HI2:=Lib.hid hin2;clear hW1 hW2 hin1 hin2
   cases in1<;>cases in2
   all_goals
    first
    | (exfalso;have h1:=HI1.out;have h2:=HI2.out;have h2:=h2.symm;have h1:=h1.symm;rw[eP] at h2;rw[inB_true] at h1;omega)
    | skip
   all_goals
    (try (have hb:=inB_true.1 HI1.out.symm))
    (try (have hb2:=inB_true.1 HI2.out.symm))
    go_enter Tryz.func139,Tryz.ntmps139
    go_wp2_with (first | (go_at_call 74;(with_reducible refine(HW1.out _).mono ?_);rintro e w' ⟨rfl,rfl⟩) | (go_at_call 74;(with_reducible refine(HW2.out _).mono ?_);rintro e w' ⟨rfl,rfl⟩) | (go_at_call 74;refine(aT _ _ _ _).mono ?_;rintro e w' ⟨rfl,rfl⟩) | ((go_at_call 208;(with_reducible refine(HF.out _).mono ?_);rintro e W1 ⟨rfl,hbW1⟩;obtain⟨hcW1,hfW1⟩:=aK hbW1);have hsW1:w.heap.size<W1.heap.size:=(by have h:=hbW1.size;simp at h;omega)) | (go_at_call 209;refine(bS ⟨_,_,_,_,_,_⟩ _ _ _ (by omega)).mono ?_;rintro e W2 ⟨rfl,hbW2⟩;obtain⟨hcW2,hfW2⟩:=aK hbW2))
    all_goals (try ((refine wp_region_quiet_below (by kernel_rfl) (by kernel_rfl) ?_;(repeat (go_big_quiet_step ((first | (go_at_call 74;exact Calls.reg_pure (HW1.out _)) | (go_at_call 209;exact Calls.regrown_of (bS ⟨_,_,_,_,_,_⟩ _ _ _ (by omega)))))));(with_reducible refine wpQuiet_nil ?_);intro W2 hreg;have hbW2:=aH hreg;clear hreg;obtain⟨hcW2,hfW2⟩:=aK hbW2);go_wp2))
    all_goals
     go_ret
     refine⟨cT ?_,by(repeat (first | assumption | exact Below.refl _ _ | refine au ?_ _ | refine ao ?_ _ | refine ar ?_ (by assumption) | refine Below.trans ?_ (by assumption)))⟩;have hz:=dS HForm.out;have hi1:=HI1.out;have hi2:=HI2.out;rw[eJ,←HForm.out,if_neg (fun h=>absurd (hk.symm.trans h) (by decide)),if_neg (by decide)];clear hk h3 h3' HF HForm HW1 HI1 HW2 HI2
     (try clear hbW1 hcW1 hfW1 hsW1)
     (try clear hbW2 hcW2 hfW2)
     simp[cC,cY,bI,cz,lk,bO,bE,et,-ByteArray.size_eq_zero_iff] at *
     try ((repeat' split)<;>(first | omega | simp_all | (simp_all<;>omega)))
set_option maxRecDepth 100000 in
set_option maxHeartbeats 1000000 in
theorem sP (a e c:Int) (o n:ByteArray) (w:World) (ho:o.size≤3100) (hn:n.size≤3100) :
 Calls Tryz.prog 139 #[.agg #[.int .i64 6,.int .i64 a,.int .i64 e,.int .i64 c,.string o,.string n]] w fun r w'=>r=.returned (.int .i64 (dq ⟨6,a,e,c,o,n⟩))∧Below w.heap.size w w':=by
 have hk:bE 6 0 6=true:=rfl;obtain⟨form,hform⟩:∃b,b=bB ⟨6,a,e,c,o,n⟩:=⟨_,rfl⟩;have hF:=fun w=>uL a e c o n w;rw[←hform] at hF;have HF:=Lib.hid hF;have HForm:=Lib.hid hform;clear hF hform
 cases form
 · have h3:bO false 3=3:=rfl
   have h3':(bO false 3 != 0)=true:=rfl
   go_enter Tryz.func139,Tryz.ntmps139
   go_wp2_with (first | (go_at_call 74;refine(aT _ _ _ _).mono ?_;rintro e w' ⟨rfl,rfl⟩) | (go_at_call 208;refine(HF.out _).mono ?_;rintro e W1 ⟨rfl,hbW1⟩;obtain⟨hcW1,hfW1⟩:=aK hbW1))
   go_ret
   refine⟨cT ?_,by(repeat (first | assumption | exact Below.refl _ _ | refine au ?_ _ | refine ao ?_ _ | refine ar ?_ (by assumption) | refine Below.trans ?_ (by assumption)))⟩;rw[eJ,←HForm.out];simp[hk,bO]
 · have h3:bO true 3=0:=rfl
   have h3':(bO true 3 != 0)=false:=rfl;obtain⟨in1,hin1⟩:∃b,b=bE a 0 511:=⟨_,rfl⟩;obtain⟨in2,hin2⟩:∃b,b=bE a 0 4095:=⟨_,rfl⟩;have hW1:=fun w=>aT a 0 511 w;have hW2:=fun w=>aT a 0 4095 w;rw[←hin1] at hW1;rw[←hin2] at hW2;have HW1:=Lib.hid hW1;have HW2:=Lib.hid hW2;have HI1:=Lib.hid hin1;have HI2:=Lib.hid hin2;clear hW1 hW2 hin1 hin2
   cases in1<;>cases in2
   all_goals
    first
    | (exfalso;have h1:=HI1.out;have h2:=HI2.out;have h2:=h2.symm;have h1:=h1.symm;rw[eP] at h2;rw[inB_true] at h1;omega)
    | skip
   all_goals
    (try (have hb:=inB_true.1 HI1.out.symm))
    (try (have hb2:=inB_true.1 HI2.out.symm))
    go_enter Tryz.func139,Tryz.ntmps139
    go_wp2_with (first | (go_at_call 74;(with_reducible refine(HW1.out _).mono ?_);rintro e w' ⟨rfl,rfl⟩) | (go_at_call 74;(with_reducible refine(HW2.out _).mono ?_);rintro e w' ⟨rfl,rfl⟩) | (go_at_call 74;refine(aT _ _ _ _).mono ?_;rintro e w' ⟨rfl,rfl⟩) | ((go_at_call 208;(with_reducible refine(HF.out _).mono ?_);rintro e W1 ⟨rfl,hbW1⟩;obtain⟨hcW1,hfW1⟩:=aK hbW1);have hsW1:w.heap.size<W1.heap.size:=(by have h:=hbW1.size;simp at h;omega)) | (go_at_call 209;refine(bS ⟨_,_,_,_,_,_⟩ _ _ _ (by omega)).mono ?_;rintro e W2 ⟨rfl,hbW2⟩;obtain⟨hcW2,hfW2⟩:=aK hbW2))
    all_goals (try ((refine wp_region_quiet_below (by kernel_rfl) (by kernel_rfl) ?_;(repeat (go_big_quiet_step ((first | (go_at_call 74;exact Calls.reg_pure (HW1.out _)) | (go_at_call 209;exact Calls.regrown_of (bS ⟨_,_,_,_,_,_⟩ _ _ _ (by omega)))))));(with_reducible refine wpQuiet_nil ?_);intro W2 hreg;have hbW2:=aH hreg;clear hreg;obtain⟨hcW2,hfW2⟩:=aK hbW2);go_wp2))
    all_goals
     go_ret
     refine⟨cT ?_,by(repeat (first | assumption | exact Below.refl _ _ | refine au ?_ _ | refine ao ?_ _ | refine ar ?_ (by assumption) | refine Below.trans ?_ (by assumption)))⟩;have hz:=dS HForm.out;have hi1:=HI1.out;have hi2:=HI2.out;rw[eJ,←HForm.out,if_neg (fun h=>absurd (hk.symm.trans h) (by decide)),if_neg (by decide)];clear hk h3 h3' HF HForm HW1 HI1 HW2 HI2
     (try clear hbW1 hcW1 hfW1 hsW1)
     (try clear hbW2 hcW2 hfW2)
     simp[cC,cY,bI,cz,lk,bO,bE,et,-ByteArray.size_eq_zero_iff] at *
     try ((repeat' split)<;>(first | omega | simp_all | (simp_all<;>omega)))
end Go.Proofs.YtcfdpfmchchkaaaGreatDoor
