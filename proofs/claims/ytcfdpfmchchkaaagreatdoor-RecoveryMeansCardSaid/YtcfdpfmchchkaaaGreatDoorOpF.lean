/-
  Chapter 21: the reference's Applied, Fits, Try.
  Chapter 21: lists of operations: AppliedAll, Applied; All and Try of the reference; inverses.
  Operations, entries and the like that came in: slices, pairs, structs.
  Chapter 22: plain words of tables. No program in sight.
-/
import Derived.Test.YtcfdpfmchchkaaaGreatDoorOpE
namespace Go.Proofs.YtcfdpfmchchkaaaGreatDoor
set_option linter.unusedVariables false
set_option linter.unusedSimpArgs false
open Go.RowKit Go.Sort
set_option maxRecDepth 100000 in
set_option maxHeartbeats 1000000 in
theorem pv (p:ByteArray) (A:Nat) (o n:ByteArray) (w:World) (hp:p.size=512) (h1:o.size=n.size) (h2:o.size≤200) (h3:A+o.size≤512) :
 Calls Tryz.prog 140 #[.string p,.agg #[.int .i64 1,.int .i64 A,.int .i64 0,.int .i64 0,.string o,.string n]] w fun r w'=>r=.returned (.string (eF p ⟨1,A,0,0,o,n⟩))∧Below w.heap.size w w':=by
 have hp1:p.size≤1000000:=by omega
 have hp3:A+n.size≤p.size:=by omega
 clear hp h1
 go_enter Tryz.func140,Tryz.ntmps140
 go_wp2_with (first | (go_at_call 101;refine(nA p n A _ hp1 hp3).mono ?_;rintro e W1 ⟨rfl,hbW1⟩;obtain⟨hcW1,hfW1⟩:=aK hbW1))
 go_ret
 exact⟨rfl,by(repeat (first | assumption | exact Below.refl _ _ | refine au ?_ _ | refine ao ?_ _ | refine ar ?_ (by assumption) | refine Below.trans ?_ (by assumption)))⟩
set_option maxRecDepth 100000 in
set_option maxHeartbeats 1000000 in
theorem oK (p:ByteArray) (A E:Nat) (o n:ByteArray) (w:World) (hp:p.size=512) (h1:o.size=0) (h2:n.size≤200) (h3:A≤E) (h4:E+n.size≤512) :
 Calls Tryz.prog 140 #[.string p,.agg #[.int .i64 2,.int .i64 A,.int .i64 E,.int .i64 0,.string o,.string n]] w fun r w'=>r=.returned (.string (eF p ⟨2,A,E,0,o,n⟩))∧Below w.heap.size w w':=by
 have hp1:p.size≤3100:=by omega
 have hp2:(A:Int)≤p.size:=by omega
 have hp3:E+n.size≤p.size:=by omega
 have hz1:(p.extract 0 A ++ n).size=A+n.size:=by rw[ByteArray.size_append,ByteArray.size_extract];omega
 have hz2:(p.extract 0 A ++ n ++ p.extract A E).size=E+n.size:=by rw[ByteArray.size_append,hz1,ByteArray.size_extract];omega
 clear hp h1
 go_enter Tryz.func140,Tryz.ntmps140
 go_wp2
 (refine wp_region_quiet_below (by kernel_rfl) (by kernel_rfl) ?_;(repeat (go_big_quiet_step ((first | fail))));(with_reducible refine wpQuiet_nil ?_);intro W2 hreg;have hbW2:=aH hreg;clear hreg;obtain⟨hcW2,hfW2⟩:=aK hbW2)
 go_wp2
 go_ret
 exact⟨yx (xD p n A E),by(repeat (first | assumption | exact Below.refl _ _ | refine au ?_ _ | refine ao ?_ _ | refine ar ?_ (by assumption) | refine Below.trans ?_ (by assumption)))⟩
set_option maxRecDepth 100000 in
set_option maxHeartbeats 1000000 in
theorem oF (p:ByteArray) (A E:Nat) (o n:ByteArray) (w:World) (hp:p.size=512) (h1:n.size=0) (h2:o.size≤200) (h3:A+o.size≤E) (h4:E≤512) :
 Calls Tryz.prog 140 #[.string p,.agg #[.int .i64 3,.int .i64 A,.int .i64 E,.int .i64 0,.string o,.string n]] w fun r w'=>r=.returned (.string (eF p ⟨3,A,E,0,o,n⟩))∧Below w.heap.size w w':=by
 have hp1:p.size≤3100:=by omega
 have hp2:(A:Int)≤p.size:=by omega
 have hp3:E≤p.size:=by omega
 have hz1:(p.extract 0 A ++ p.extract (A+o.size) E).size=E-o.size:=by rw[ByteArray.size_append,ByteArray.size_extract,ByteArray.size_extract];omega
 have hz3:(bs (dU o.size)).size=o.size:=kP _
 have hz2:(p.extract 0 A ++ p.extract (A+o.size) E ++ bs (dU o.size)).size=E:=by rw[ByteArray.size_append,hz1,hz3];omega
 clear hp h1
 go_enter Tryz.func140,Tryz.ntmps140
 go_wp2
 (refine wp_region_quiet_below (by kernel_rfl) (by kernel_rfl) ?_;(repeat (go_big_quiet_step ((first | (go_at_call 126;exact Calls.regrown_of (kf o.size _ (by omega)))))));(with_reducible refine wpQuiet_nil ?_);intro W2 hreg;have hbW2:=aH hreg;clear hreg;obtain⟨hcW2,hfW2⟩:=aK hbW2)
 go_wp2
 go_ret
 exact⟨yx (yk p A E o.size),by(repeat (first | assumption | exact Below.refl _ _ | refine au ?_ _ | refine ao ?_ _ | refine ar ?_ (by assumption) | refine Below.trans ?_ (by assumption)))⟩
set_option maxRecDepth 100000 in
set_option maxHeartbeats 1000000 in
theorem pk (p:ByteArray) (A C:Nat) (o n:ByteArray) (w:World) (hp:p.size=512) (h1:o.size=0) (h2:n.size=0) (h3:A+C≤4096) :
 Calls Tryz.prog 140 #[.string p,.agg #[.int .i64 4,.int .i64 A,.int .i64 0,.int .i64 C,.string o,.string n]] w fun r w'=>r=.returned (.string (eF p ⟨4,A,0,C,o,n⟩))∧Below w.heap.size w w':=by
 have hp1:p.size≤3100:=by omega
 have hp2:A+C≤8*p.size:=by omega
 clear hp h1 h2
 go_enter Tryz.func140,Tryz.ntmps140
 go_wp2
 (refine wp_region_quiet_below (by kernel_rfl) (by kernel_rfl) ?_;(repeat (go_big_quiet_step ((first | (go_at_call 76;exact Calls.reg_pure (lE _ _)) | (go_at_call 210;exact Calls.regrown_of (mV p A C _ hp1 hp2))))));(with_reducible refine wpQuiet_nil ?_);intro W2 hreg;have hbW2:=aH hreg;clear hreg;obtain⟨hcW2,hfW2⟩:=aK hbW2)
 go_wp2
 go_ret
 exact⟨rfl,by(repeat (first | assumption | exact Below.refl _ _ | refine au ?_ _ | refine ao ?_ _ | refine ar ?_ (by assumption) | refine Below.trans ?_ (by assumption)))⟩
set_option maxRecDepth 100000 in
set_option maxHeartbeats 1000000 in
theorem ou (p:ByteArray) (A C:Nat) (o n:ByteArray) (w:World) (hp:p.size=512) (h1:o.size=0) (h2:n.size=0) (h3:A+C≤4096) :
 Calls Tryz.prog 140 #[.string p,.agg #[.int .i64 5,.int .i64 A,.int .i64 0,.int .i64 C,.string o,.string n]] w fun r w'=>r=.returned (.string (eF p ⟨5,A,0,C,o,n⟩))∧Below w.heap.size w w':=by
 have hp1:p.size≤3100:=by omega
 have hp2:A+C≤8*p.size:=by omega
 clear hp h1 h2
 go_enter Tryz.func140,Tryz.ntmps140
 go_wp2
 (refine wp_region_quiet_below (by kernel_rfl) (by kernel_rfl) ?_;(repeat (go_big_quiet_step ((first | (go_at_call 76;exact Calls.reg_pure (lE _ _)) | (go_at_call 210;exact Calls.regrown_of (mr p A C _ hp1 hp2))))));(with_reducible refine wpQuiet_nil ?_);intro W2 hreg;have hbW2:=aH hreg;clear hreg;obtain⟨hcW2,hfW2⟩:=aK hbW2)
 go_wp2
 go_ret
 exact⟨rfl,by(repeat (first | assumption | exact Below.refl _ _ | refine au ?_ _ | refine ao ?_ _ | refine ar ?_ (by assumption) | refine Below.trans ?_ (by assumption)))⟩
set_option maxRecDepth 100000 in
set_option maxHeartbeats 1000000 in
theorem oG (p:ByteArray) (o n:ByteArray) (w:World) :
 Calls Tryz.prog 140 #[.string p,.agg #[.int .i64 0,.int .i64 0,.int .i64 0,.int .i64 0,.string o,.string n]] w fun r w'=>r=.returned (.string (eF p ⟨0,0,0,0,o,n⟩))∧Below w.heap.size w w':=by
 go_enter Tryz.func140,Tryz.ntmps140
 go_wp2
 go_ret
 exact⟨rfl,by(repeat (first | assumption | exact Below.refl _ _ | refine au ?_ _ | refine ao ?_ _ | refine ar ?_ (by assumption) | refine Below.trans ?_ (by assumption)))⟩
set_option maxRecDepth 100000 in
set_option maxHeartbeats 1000000 in
theorem ov (p:ByteArray) (o n:ByteArray) (w:World) :
 Calls Tryz.prog 140 #[.string p,.agg #[.int .i64 6,.int .i64 0,.int .i64 0,.int .i64 0,.string o,.string n]] w fun r w'=>r=.returned (.string (eF p ⟨6,0,0,0,o,n⟩))∧Below w.heap.size w w':=by
 go_enter Tryz.func140,Tryz.ntmps140
 go_wp2
 go_ret
 exact⟨rfl,by(repeat (first | assumption | exact Below.refl _ _ | refine au ?_ _ | refine ao ?_ _ | refine ar ?_ (by assumption) | refine Below.trans ?_ (by assumption)))⟩
set_option maxRecDepth 100000 in
set_option maxHeartbeats 1000000 in
theorem AM (p:ByteArray) (A:Nat) (o n:ByteArray) (w:World) (hp:p.size=512) (h1:o.size=n.size) (h2:o.size≤200) (h3:A+o.size≤512) :
 Calls Tryz.prog 141 #[.string p,.agg #[.int .i64 1,.int .i64 A,.int .i64 0,.int .i64 0,.string o,.string n]] w fun r w'=>r=.returned (.bool (dc p ⟨1,A,0,0,o,n⟩))∧Below w.heap.size w w':=by
 have hp1:p.size≤3100:=by omega
 have hp3:(A:Int)+o.size≤p.size:=by omega
 clear hp h1
 go_enter Tryz.func141,Tryz.ntmps141
 go_wp2
 (refine wp_region_quiet_below (by kernel_rfl) (by kernel_rfl) ?_;(repeat (go_big_quiet_step ((first | fail))));(with_reducible refine wpQuiet_nil ?_);intro W2 hreg;have hbW2:=aH hreg;clear hreg;obtain⟨hcW2,hfW2⟩:=aK hbW2)
 go_wp2
 go_ret
 exact⟨jJ (by rw[nt,pq,←dg];rfl),by(repeat (first | assumption | exact Below.refl _ _ | refine au ?_ _ | refine ao ?_ _ | refine ar ?_ (by assumption) | refine Below.trans ?_ (by assumption)))⟩
set_option maxRecDepth 100000 in
set_option maxHeartbeats 1000000 in
theorem AF (p:ByteArray) (A E:Nat) (o n:ByteArray) (w:World) (hp:p.size=512) (h1:n.size=0) (h2:o.size≤200) (h3:A+o.size≤E) (h4:E≤512) :
 Calls Tryz.prog 141 #[.string p,.agg #[.int .i64 3,.int .i64 A,.int .i64 E,.int .i64 0,.string o,.string n]] w fun r w'=>r=.returned (.bool (dc p ⟨3,A,E,0,o,n⟩))∧Below w.heap.size w w':=by
 have hp1:p.size≤3100:=by omega
 have hp3:(A:Int)+o.size≤p.size:=by omega
 clear hp h1
 go_enter Tryz.func141,Tryz.ntmps141
 go_wp2
 (refine wp_region_quiet_below (by kernel_rfl) (by kernel_rfl) ?_;(repeat (go_big_quiet_step ((first | fail))));(with_reducible refine wpQuiet_nil ?_);intro W2 hreg;have hbW2:=aH hreg;clear hreg;obtain⟨hcW2,hfW2⟩:=aK hbW2)
 go_wp2
 go_ret
 exact⟨jJ (by rw[nt,pq,←dg];rfl),by(repeat (first | assumption | exact Below.refl _ _ | refine au ?_ _ | refine ao ?_ _ | refine ar ?_ (by assumption) | refine Below.trans ?_ (by assumption)))⟩
set_option maxRecDepth 100000 in
set_option maxHeartbeats 1000000 in
theorem As (p:ByteArray) (A E:Nat) (o n:ByteArray) (w:World) (hp:p.size=512) (h1:o.size=0) (h2:n.size≤200) (h3:A≤E) (h4:E+n.size≤512) :
 Calls Tryz.prog 141 #[.string p,.agg #[.int .i64 2,.int .i64 A,.int .i64 E,.int .i64 0,.string o,.string n]] w fun r w'=>r=.returned (.bool (dc p ⟨2,A,E,0,o,n⟩))∧Below w.heap.size w w':=by
 have hp1:p.size≤3100:=by omega
 have hp3:(E:Int)+n.size≤p.size:=by omega
 clear hp h1
 go_enter Tryz.func141,Tryz.ntmps141
 go_wp2_with (first | (go_at_call 211;refine(ra _ _ (by rw[ByteArray.size_extract];unfold maxLen;omega)).mono ?_;rintro e w' ⟨rfl,rfl⟩))
 go_ret
 exact⟨jJ (by rw[pq,←dg];rfl),by(repeat (first | assumption | exact Below.refl _ _ | refine au ?_ _ | refine ao ?_ _ | refine ar ?_ (by assumption) | refine Below.trans ?_ (by assumption)))⟩
set_option maxRecDepth 100000 in
set_option maxHeartbeats 1000000 in
theorem Av (p:ByteArray) (o n:ByteArray) (w:World) :
 Calls Tryz.prog 141 #[.string p,.agg #[.int .i64 6,.int .i64 0,.int .i64 0,.int .i64 0,.string o,.string n]] w fun r w'=>r=.returned (.bool (dc p ⟨6,0,0,0,o,n⟩))∧Below w.heap.size w w':=by
 go_enter Tryz.func141,Tryz.ntmps141
 go_wp2
 go_ret
 exact⟨jJ (by rw[nt];rfl),by(repeat (first | assumption | exact Below.refl _ _ | refine au ?_ _ | refine ao ?_ _ | refine ar ?_ (by assumption) | refine Below.trans ?_ (by assumption)))⟩
set_option maxRecDepth 100000 in
set_option maxHeartbeats 1000000 in
theorem Aq (p:ByteArray) (o n:ByteArray) (w:World) :
 Calls Tryz.prog 141 #[.string p,.agg #[.int .i64 0,.int .i64 0,.int .i64 0,.int .i64 0,.string o,.string n]] w fun r w'=>r=.returned (.bool (dc p ⟨0,0,0,0,o,n⟩))∧Below w.heap.size w w':=by
 go_enter Tryz.func141,Tryz.ntmps141
 go_wp2
 go_ret
 exact⟨rfl,by(repeat (first | assumption | exact Below.refl _ _ | refine au ?_ _ | refine ao ?_ _ | refine ar ?_ (by assumption) | refine Below.trans ?_ (by assumption)))⟩
theorem jd {l:List UInt8} {a k c:Nat} {v:Bool} (hk:k<c) (h:dK l (a+k)=v):bN l a c v=false:=by
 cases hb:bN l a c v
 · rfl
 · have:=(pa l a c v).1 hb (a+k) (by omega) (by omega)
   rw[h] at this;cases v<;>cases this
set_option maxRecDepth 100000 in
set_option maxHeartbeats 1000000 in
theorem z6 (p:ByteArray) (A C:Nat) (o n:ByteArray) (w:World) (hp:p.size=512) (h1:o.size=0) (h2:n.size=0) (h3:A+C≤4096) :
 Calls Tryz.prog 141 #[.string p,.agg #[.int .i64 4,.int .i64 A,.int .i64 0,.int .i64 C,.string o,.string n]] w fun r w'=>r=.returned (.bool (dc p ⟨4,A,0,C,o,n⟩))∧Below w.heap.size w w':=by
 have hfit:dc p ⟨4,A,0,C,o,n⟩=bN (bl p) A C true:=rfl;rw[hfit];clear hfit
 have hp1:p.size≤3100:=by omega
 have hp2:A+C≤8*p.size:=by omega
 clear hp h1 h2
 go_enter Tryz.func141,Tryz.ntmps141
 go_wp2
 go_loopw [5] (fun i wr=>∃k:Nat,k≤C∧i=.int .i64 ((A+k:Nat):Int)∧Below (w.alloc (.cells #[.int .i64 4,.int .i64 A,.int .i64 0,.int .i64 C,.string o,.string n] 141)).heap.size (w.alloc (.cells #[.int .i64 4,.int .i64 A,.int .i64 0,.int .i64 C,.string o,.string n] 141)) wr∧bN (bl p) A k true=true) (fun i _=>A+C-(intOf i).toNat)
 case atStart=>exact⟨0,Nat.zero_le _,rfl,Below.refl _ _,rfl⟩
 case round=>
  obtain⟨k,hk,rfl,hb,hall⟩:=hrel;have HALL:=Lib.hid hall;obtain⟨hcR,hfR⟩:=aK hb
  have hsR:w.heap.size<wr.heap.size:=by have h:=hb.size;simp at h;omega
  clear hall;obtain⟨m,hm⟩:∃m:Nat,m=A+k:=⟨_,rfl⟩;rw[←hm];have HM:=Lib.hid hm;by_cases hlt:k<C
  · have hltm:(m:Int)<(A:Int)+(C:Int):=by omega
    have hBA:=fun W=>iW p m W (by omega) hp1;obtain⟨x,hx⟩:∃x,x=dK (bl p) m:=⟨_,rfl⟩;rw[←hx] at hBA;have HBA:=Lib.hid hBA;have HX:=Lib.hid hx
    have hm0:m<30000:=by omega
    clear hBA hx hm
    cases x
    all_goals
     simp only[if_true,Bool.false_eq_true,if_false] at HBA
     go_wp2
     refine wp_region_quiet_below (by kernel_rfl) (by kernel_rfl) ?_
     (repeat (go_big_quiet_step ((first | (go_at_call 212;exact Calls.regrown_of (HBA.out _)) | (go_at_call 76;exact Calls.reg_pure (lE _ _))))))
     (with_reducible refine wpQuiet_nil ?_)
     intro W2 hreg;have hbW2:=aH hreg;clear hreg;obtain⟨hcW2,hfW2⟩:=aK hbW2
     go_wp2
     first
     | (go_ret
        exact⟨jJ (jd hlt (by rw[←HM.out,←HX.out])).symm,by(repeat (first | assumption | exact Below.refl _ _ | refine au ?_ _ | refine ao ?_ _ | refine ar ?_ (by assumption) | refine Below.trans ?_ (by assumption)))⟩)
     | (go_roundw
        case rel=>exact⟨k+1,by omega,by rw[HM.out];go_num,ar hb hbW2,by unfold bN;rw[HALL.out,←HM.out,←HX.out];rfl⟩
        case measure=>simp[intOf];omega)
  · obtain rfl:k=C:=by omega
    have hgem:(A:Int)+(k:Int)≤(m:Int):=by omega
    clear hm
    go_wp2
    go_ret
    exact⟨jJ HALL.out.symm,by(repeat (first | assumption | exact Below.refl _ _ | refine au ?_ _ | refine ao ?_ _ | refine ar ?_ (by assumption) | refine Below.trans ?_ (by assumption)))⟩
set_option maxRecDepth 100000 in
set_option maxHeartbeats 1000000 in
theorem AD (p:ByteArray) (A C:Nat) (o n:ByteArray) (w:World) (hp:p.size=512) (h1:o.size=0) (h2:n.size=0) (h3:A+C≤4096) :
 Calls Tryz.prog 141 #[.string p,.agg #[.int .i64 5,.int .i64 A,.int .i64 0,.int .i64 C,.string o,.string n]] w fun r w'=>r=.returned (.bool (dc p ⟨5,A,0,C,o,n⟩))∧Below w.heap.size w w':=by
 have hfit:dc p ⟨5,A,0,C,o,n⟩=bN (bl p) A C false:=rfl;rw[hfit];clear hfit
 have hp1:p.size≤3100:=by omega
 have hp2:A+C≤8*p.size:=by omega
 clear hp h1 h2
 go_enter Tryz.func141,Tryz.ntmps141
 go_wp2
 go_loopw [5] (fun i wr=>∃k:Nat,k≤C∧i=.int .i64 ((A+k:Nat):Int)∧Below (w.alloc (.cells #[.int .i64 5,.int .i64 A,.int .i64 0,.int .i64 C,.string o,.string n] 141)).heap.size (w.alloc (.cells #[.int .i64 5,.int .i64 A,.int .i64 0,.int .i64 C,.string o,.string n] 141)) wr∧bN (bl p) A k false=true) (fun i _=>A+C-(intOf i).toNat)
 case atStart=>exact⟨0,Nat.zero_le _,rfl,Below.refl _ _,rfl⟩
 case round=>
  obtain⟨k,hk,rfl,hb,hall⟩:=hrel;have HALL:=Lib.hid hall;obtain⟨hcR,hfR⟩:=aK hb
  have hsR:w.heap.size<wr.heap.size:=by have h:=hb.size;simp at h;omega
  clear hall;obtain⟨m,hm⟩:∃m:Nat,m=A+k:=⟨_,rfl⟩;rw[←hm];have HM:=Lib.hid hm;by_cases hlt:k<C
  · have hltm:(m:Int)<(A:Int)+(C:Int):=by omega
    have hBA:=fun W=>iW p m W (by omega) hp1;obtain⟨x,hx⟩:∃x,x=dK (bl p) m:=⟨_,rfl⟩;rw[←hx] at hBA;have HBA:=Lib.hid hBA;have HX:=Lib.hid hx
    have hm0:m<30000:=by omega
    clear hBA hx hm
    cases x
    all_goals
     simp only[if_true,Bool.false_eq_true,if_false] at HBA
     go_wp2
     refine wp_region_quiet_below (by kernel_rfl) (by kernel_rfl) ?_
     (repeat (go_big_quiet_step ((first | (go_at_call 212;exact Calls.regrown_of (HBA.out _)) | (go_at_call 76;exact Calls.reg_pure (lE _ _))))))
     (with_reducible refine wpQuiet_nil ?_)
     intro W2 hreg;have hbW2:=aH hreg;clear hreg;obtain⟨hcW2,hfW2⟩:=aK hbW2
     go_wp2
     first
     | (go_ret
        exact⟨jJ (jd hlt (by rw[←HM.out,←HX.out])).symm,by(repeat (first | assumption | exact Below.refl _ _ | refine au ?_ _ | refine ao ?_ _ | refine ar ?_ (by assumption) | refine Below.trans ?_ (by assumption)))⟩)
     | (go_roundw
        case rel=>exact⟨k+1,by omega,by rw[HM.out];go_num,ar hb hbW2,by unfold bN;rw[HALL.out,←HM.out,←HX.out];rfl⟩
        case measure=>simp[intOf];omega)
  · obtain rfl:k=C:=by omega
    have hgem:(A:Int)+(k:Int)≤(m:Int):=by omega
    clear hm
    go_wp2
    go_ret
    exact⟨jJ HALL.out.symm,by(repeat (first | assumption | exact Below.refl _ _ | refine au ?_ _ | refine ao ?_ _ | refine ar ?_ (by assumption) | refine Below.trans ?_ (by assumption)))⟩
open Go.RowKit Go.Sort
def opsV (l:List Op):List Value:=l.flatMap qQ
theorem qZ (l:List Op):(opsV l).length=6*l.length:=by
 induction l with
 | nil=>rfl
 | cons f l ih=>simp[opsV,qQ] at ih ⊢;omega
theorem gy (l:List Op):∀(k:Nat) (h:k<l.length) (j:Nat) (u:Value),(qQ l[k])[j]? = some u→(opsV l)[k*6+j]? = some u:=by
 induction l with
 | nil=>intro k h;exact absurd h (by simp)
 | cons f l ih=>
  intro k h j u hu;have hj:j<6:=(List.getElem?_eq_some_iff.1 hu).1
  cases k with
  | zero=>
   show(qQ f ++ opsV l)[0*6+j]? = some u;rw[List.getElem?_append_left (by show _<6;omega),Nat.zero_mul,Nat.zero_add];exact hu
  | succ k=>
   show(qQ f ++ opsV l)[(k+1)*6+j]? = some u;rw[List.getElem?_append_right (by show 6≤_;omega)];have:=ih k (by simpa using h) j u (by simpa using hu);rw[←this]
   congr 1
   show(k+1)*6+j-6=_;omega
def qK (l:List Op):Prop:=∀j (h:j<l.length),l[j].o.size≤3100∧l[j].n.size≤3100
set_option maxRecDepth 100000 in
theorem w2 (p:ByteArray) (x:Op) (w:World) (hp:p.size=512) (h:fm x) :
 Calls Tryz.prog 141 #[.string p,eQ x] w fun r w'=>r=.returned (.bool (dc p x))∧Below w.heap.size w w':=by
 obtain⟨k,a,e,c,o,n⟩:=x;unfold fm at h
 dsimp only at h
 rcases h with ⟨rfl,rfl,rfl,rfl,ho,hn⟩ | ⟨rfl,rfl,rfl,hs,h1,h2,h3,h4⟩ | ⟨rfl,rfl,ho,h1,h2,h3,h4,h5⟩ | ⟨rfl,rfl,hn,h1,h2,h3,h4,h5⟩ | ⟨hk,rfl,ho,hn,h1,h2,h3,h4⟩ | ⟨rfl,rfl,rfl,rfl,ho,hn⟩
 · exact Aq p o n w
 · obtain⟨A,rfl⟩:=Int.eq_ofNat_of_zero_le h3
   exact AM p A o n w hp hs h2 (by omega)
 · obtain⟨A,rfl⟩:=Int.eq_ofNat_of_zero_le h3
   obtain⟨E,rfl⟩:=Int.eq_ofNat_of_zero_le (show 0≤e by omega);exact As p A E o n w hp ho h2 (by omega) (by omega)
 · obtain⟨A,rfl⟩:=Int.eq_ofNat_of_zero_le h3
   obtain⟨E,rfl⟩:=Int.eq_ofNat_of_zero_le (show 0≤e by omega);exact AF p A E o n w hp hn h2 (by omega) (by omega)
 · obtain⟨A,rfl⟩:=Int.eq_ofNat_of_zero_le h1
   obtain⟨C,rfl⟩:=Int.eq_ofNat_of_zero_le (show 0≤c by omega);rcases hk with rfl | rfl
   · exact z6 p A C o n w hp ho hn (by omega)
   · exact AD p A C o n w hp ho hn (by omega)
 · exact Av p o n w
theorem lI (p:ByteArray) (x:Op) (w:World) (hp:p.size=512) (h:fm x) :
 Calls Tryz.prog 140 #[.string p,eQ x] w fun r w'=>r=.returned (.string (eF p x))∧Below w.heap.size w w':=by
 obtain⟨k,a,e,c,o,n⟩:=x;unfold fm at h
 dsimp only at h
 rcases h with ⟨rfl,rfl,rfl,rfl,ho,hn⟩ | ⟨rfl,rfl,rfl,hs,h1,h2,h3,h4⟩ | ⟨rfl,rfl,ho,h1,h2,h3,h4,h5⟩ | ⟨rfl,rfl,hn,h1,h2,h3,h4,h5⟩ | ⟨hk,rfl,ho,hn,h1,h2,h3,h4⟩ | ⟨rfl,rfl,rfl,rfl,ho,hn⟩
 · exact oG p o n w
 · obtain⟨A,rfl⟩:=Int.eq_ofNat_of_zero_le h3
   exact pv p A o n w hp hs h2 (by omega)
 · obtain⟨A,rfl⟩:=Int.eq_ofNat_of_zero_le h3
   obtain⟨E,rfl⟩:=Int.eq_ofNat_of_zero_le (show 0≤e by omega);exact oK p A E o n w hp ho h2 (by omega) (by omega)
 · obtain⟨A,rfl⟩:=Int.eq_ofNat_of_zero_le h3
   obtain⟨E,rfl⟩:=Int.eq_ofNat_of_zero_le (show 0≤e by omega);exact oF p A E o n w hp hn h2 (by omega) (by omega)
 · obtain⟨A,rfl⟩:=Int.eq_ofNat_of_zero_le h1
   obtain⟨C,rfl⟩:=Int.eq_ofNat_of_zero_le (show 0≤c by omega);rcases hk with rfl | rfl
   · exact pk p A C o n w hp ho hn (by omega)
   · exact ou p A C o n w hp ho hn (by omega)
 · exact ov p o n w
theorem ka (x:Op) (w:World) (ho:x.o.size≤3100) (hn:x.n.size≤3100) :
 Calls Tryz.prog 139 #[eQ x] w fun r w'=>r=.returned (.int .i64 (dq x))∧Below w.heap.size w w':=by
 cases hk:bE x.k 0 6
 · exact oU x w hk
 · obtain⟨k,a,e,c,o,n⟩:=x
   rw[inB_true] at hk
   dsimp only at hk
   have:k=0∨k=1∨k=2∨k=3∨k=4∨k=5∨k=6:=by omega
   rcases this with rfl | rfl | rfl | rfl | rfl | rfl | rfl
   · exact sD a e c o n w ho hn
   · exact rC a e c o n w ho hn
   · exact sr a e c o n w ho hn
   · exact rO a e c o n w ho hn
   · exact sE a e c o n w ho hn
   · exact sb a e c o n w ho hn
   · exact sP a e c o n w ho hn
set_option maxRecDepth 100000 in
set_option maxHeartbeats 1000000 in
theorem y8 (p:ByteArray) (x:Op) (w:World) (hp:p.size=512) (ho:x.o.size≤3100) (hn:x.n.size≤3100) :
 Calls Tryz.prog 100 #[.string p,eQ x] w fun r w'=>r=.returned (.tuple #[.string (bQ p x).1,.int .i64 (bQ p x).2])∧Below w.heap.size w w':=by
 have hE:=fun W=>ka x W ho hn;obtain⟨er,her⟩:∃e,e=dq x:=⟨_,rfl⟩;rw[←her] at hE;have HE:=Lib.hid hE;clear hE;by_cases h0:er=0
 · have hok:=(eG x).1 (her.symm.trans h0)
   have hF:=fun W=>w2 p x W hp hok;have hD:=fun W=>lI p x W hp hok
   have ht:bQ p x=if dc p x then (eF p x,0) else (⟨#[]⟩,13):=by unfold bQ;rw[if_neg (by rw[←her];exact fun h=>h h0)]
   obtain⟨f,hf⟩:∃f,f=dc p x:=⟨_,rfl⟩;rw[←hf] at hF ht;have HF:=Lib.hid hF;have HD:=Lib.hid hD;have HT:=Lib.hid ht
   have h0':(er != 0)=false:=by simp[h0]
   clear hF hD ht hok her hf h0;unfold eQ at *
   cases f
   all_goals
    go_enter Tryz.func100,Tryz.ntmps100
    go_wp2_with (first | ((go_at_call 139;(with_reducible refine(HE.out _).mono ?_);rintro e W1 ⟨rfl,hbW1⟩;obtain⟨hcW1,hfW1⟩:=aK hbW1);have hsW1:w.heap.size<W1.heap.size:=(by have h:=hbW1.size;simp at h;omega)) | ((go_at_call 141;(with_reducible refine(HF.out _).mono ?_);rintro e W2 ⟨rfl,hbW2⟩;obtain⟨hcW2,hfW2⟩:=aK hbW2);have hsW2:w.heap.size<W2.heap.size:=(by have h:=hbW2.size;omega)) | (go_at_call 140;(with_reducible refine(HD.out _).mono ?_);rintro e W3 ⟨rfl,hbW3⟩;obtain⟨hcW3,hfW3⟩:=aK hbW3))
    go_ret2
    exact⟨wa (by rw[HT.out];rfl) (by rw[HT.out];rfl),by(repeat (first | assumption | exact Below.refl _ _ | refine au ?_ _ | refine ao ?_ _ | refine ar ?_ (by assumption) | refine Below.trans ?_ (by assumption)))⟩
 · have ht:bQ p x=(⟨#[]⟩,er):=by unfold bQ;rw[←her,if_pos h0]
   have HT:=Lib.hid ht
   have h0':(er != 0)=true:=by simp[h0]
   clear ht her h0;unfold eQ at *
   go_enter Tryz.func100,Tryz.ntmps100
   go_wp2_with (first | ((go_at_call 139;(with_reducible refine(HE.out _).mono ?_);rintro e W1 ⟨rfl,hbW1⟩;obtain⟨hcW1,hfW1⟩:=aK hbW1);have hsW1:w.heap.size<W1.heap.size:=(by have h:=hbW1.size;simp at h;omega)))
   go_ret2
   exact⟨wa (by rw[HT.out]) (by rw[HT.out]),by(repeat (first | assumption | exact Below.refl _ _ | refine au ?_ _ | refine ao ?_ _ | refine ar ?_ (by assumption) | refine Below.trans ?_ (by assumption)))⟩
open Go.ChangeShapes Go.WideShapes Go.ChangeAt Go.RowKit
def AZ (y:Op):Prop:=y.o.size≤maxLen∧y.n.size≤maxLen
set_option maxRecDepth 100000 in
structure Lge where
 k:Int
 t:Int
 p:Int
 x:Int
 g:Int
 f:Bool
 o:Op
 d:ByteArray
def qg (e:Lge):List Value:=[.int .i64 e.k,.int .i64 e.t,.int .i64 e.p,.int .i64 e.x,.int .i64 e.g,.bool e.f,.int .i64 e.o.k,.int .i64 e.o.a,.int .i64 e.o.e,.int .i64 e.o.c,.string e.o.o,.string e.o.n,.string e.d]
def dz (e:Lge):Value:=.agg (qg e).toArray
def lO (e:Lge):Prop:=AZ e.o∧e.d.size≤maxLen
structure Rdo where
 f:Bool
 o:Op
 n:Int
open Go.RowKit
structure Trn where
 i:Int
 l:Int
 u:Int
 c:Bool
 deriving DecidableEq
structure Dty where
 g:Int
 f:Bool
 l:Int
 deriving DecidableEq
structure Tbl where
 ts:List Trn
 ds:List Dty
 deriving DecidableEq
structure Rcd where
 l:Int
 e:Lge
structure Pgp where
 g:Int
 f:Bool
 b:ByteArray
 deriving DecidableEq
def gB:Tbl:=⟨[],[]⟩
def cA (x:Trn):List Value:=[.int .i64 x.i,.int .i64 x.l,.int .i64 x.u,.bool x.c]
def da (x:Dty):List Value:=[.int .i64 x.g,.bool x.f,.int .i64 x.l]
def cg (x:Rcd):List Value:=.int .i64 x.l::qg x.e
def ca (x:Pgp):List Value:=[.int .i64 x.g,.bool x.f,.string x.b]
theorem cW (x:Trn):(cA x).length=4:=rfl
theorem dD (x:Dty):(da x).length=3:=rfl
theorem aJ (x:Rcd):(cg x).length=14:=rfl
theorem bc (x:Pgp):(ca x).length=3:=rfl
theorem vE (x:Trn):∀u∈cA x,u.oneCell'=true:=by
 intro u hu;simp only[cA,List.mem_cons,List.not_mem_nil,or_false] at hu
 rcases hu with rfl | rfl | rfl | rfl<;>rfl
theorem xR (x:Dty):∀u∈da x,u.oneCell'=true:=by
 intro u hu;simp only[da,List.mem_cons,List.not_mem_nil,or_false] at hu
 rcases hu with rfl | rfl | rfl<;>rfl
theorem rl (x:Pgp):∀u∈ca x,u.oneCell'=true:=by
 intro u hu;simp only[ca,List.mem_cons,List.not_mem_nil,or_false] at hu
 rcases hu with rfl | rfl | rfl<;>rfl
theorem xM (x:Rcd):∀u∈cg x,u.oneCell'=true:=by
 intro u hu;simp only[cg,qg,List.mem_cons,List.not_mem_nil,or_false] at hu
 rcases hu with rfl | rfl | rfl | rfl | rfl | rfl | rfl | rfl | rfl | rfl | rfl | rfl | rfl | rfl<;>rfl
def cB {α:Type} (l:List α) (i:Nat):Option α:=if i=0 then none else l[i-1]?
def j4 (p:Option Trn) (x:Trn):Int:=aP [bO (bE x.i 1 9999&&bE x.l 1 2147483647&&bE x.u 0 x.l) 2,bO (match p with | none=>true | some y=>decide (y.i<x.i)) 9]
def jX (p:Option Dty) (x:Dty):Int:=aP [bO (bE x.g 0 600&&bE x.l 1 2147483647) 2,bO (match p with | none=>true | some y=>decide (y.g<x.g)) 9]
def jf (l:List Trn):Int × Int:=dk (fun i x=>j4 (cB l i) x) 0 l
def rn (l:List Dty):Int × Int:=dk (fun i x=>jX (cB l i) x) 0 l
def dR (t:Tbl):Int:=if 60<t.ts.length∨60<t.ds.length then 8 else if (jf t.ts).2≠0 then (jf t.ts).2 else (rn t.ds).2
def mK (b:Bool):Int:=if b then 1 else 0
def uj (x:Trn):List UInt8:=lit x.i 2 ++ (lit x.l 4 ++ (lit x.u 4 ++ lit (mK x.c) 1))
def vo (x:Dty):List UInt8:=lit x.g 2 ++ (lit (mK x.f) 1 ++ lit x.l 4)
def yB (t:Tbl):List UInt8:=lit t.ts.length 1 ++ lit t.ds.length 1 ++ (t.ts.flatMap uj ++ t.ds.flatMap vo)
def tH (s:List UInt8) (a:Nat):Trn:=⟨ja s a 2,ja s (a+2) 4,ja s (a+6) 4,ja s (a+10) 1==1⟩
def th (s:List UInt8) (a:Nat):Dty:=⟨ja s a 2,ja s (a+2) 1==1,ja s (a+3) 4⟩
def bu (s:List UInt8):Nat:=(ja s 0 1).toNat
def dN (s:List UInt8):Nat:=(ja s 1 1).toNat
def ia (s:List UInt8) (k:Nat):List Trn:=(List.range k).map fun i=>tH s (2+11*i)
def i7 (s:List UInt8) (k:Nat):List Dty:=(List.range k).map fun i=>th s (2+11*bu s+7*i)
def fL (s:List UInt8) (k:Nat):Bool:=(List.range k).all fun i=>decide (ja s (2+11*i+10) 1≤1)
def gL (s:List UInt8) (k:Nat):Bool:=(List.range k).all fun i=>decide (ja s (2+11*bu s+7*i+2) 1≤1)
def dX (s:List UInt8):Tbl:=⟨ia s (bu s),i7 s (dN s)⟩
def fQ (s:List UInt8):Int:=if s.length<2 then 10 else if s.length≠2+11*bu s+7*dN s then 10 else aP [bO (fL s (bu s)&&gL s (dN s)) 3,dR (dX s)]
def di (s:List UInt8):Tbl:=if fQ s=0 then dX s else gB
theorem vg (s:List UInt8) (a m n:Nat):(s.drop a).take m ++ (s.drop (a+m)).take n=(s.drop a).take (m+n):=by
 rw[←List.drop_drop];generalize s.drop a=l;rw[←List.take_append_drop m (l.take (m+n)),List.take_take,Nat.min_eq_left (by omega),List.drop_take,Nat.add_sub_cancel_left]
structure TrnOk (x:Trn):Prop where
 i:1≤x.i∧x.i≤9999
 l:1≤x.l∧x.l≤2147483647
 u:0≤x.u∧x.u≤x.l
structure DtyOk (x:Dty):Prop where
 g:0≤x.g∧x.g≤600
 l:1≤x.l∧x.l≤2147483647
theorem trnE_zero {p:Option Trn} {x:Trn}:j4 p x=0↔TrnOk x∧∀y,p=some y→y.i<x.i:=by
 unfold j4;rw[bw];simp only[List.mem_cons,List.not_mem_nil,or_false,forall_eq_or_imp,forall_eq];rw[bC (by decide),bC (by decide),Bool.and_eq_true,Bool.and_eq_true,inB_true,inB_true,inB_true]
 constructor
 · rintro ⟨⟨⟨h1,h2⟩,h3⟩,h4⟩
   refine⟨⟨h1,h2,h3⟩,fun y hy=>?_⟩;subst hy;simpa using h4
 · rintro ⟨⟨h1,h2,h3⟩,h4⟩
   refine⟨⟨⟨h1,h2⟩,h3⟩,?_⟩
   cases p with
   | none=>rfl
   | some y=>simpa using h4 y rfl
theorem dtyE_zero {p:Option Dty} {x:Dty}:jX p x=0↔DtyOk x∧∀y,p=some y→y.g<x.g:=by
 unfold jX;rw[bw];simp only[List.mem_cons,List.not_mem_nil,or_false,forall_eq_or_imp,forall_eq];rw[bC (by decide),bC (by decide),Bool.and_eq_true,inB_true,inB_true]
 constructor
 · rintro ⟨⟨h1,h2⟩,h4⟩
   refine⟨⟨h1,h2⟩,fun y hy=>?_⟩;subst hy;simpa using h4
 · rintro ⟨⟨h1,h2⟩,h4⟩
   refine⟨⟨h1,h2⟩,?_⟩
   cases p with
   | none=>rfl
   | some y=>simpa using h4 y rfl
structure TblOk (t:Tbl):Prop where
 n:t.ts.length≤60
 m:t.ds.length≤60
 ts:∀k (h:k<t.ts.length),TrnOk t.ts[k]
 ds:∀k (h:k<t.ds.length),DtyOk t.ds[k]
 tord:∀k (h:k+1<t.ts.length),t.ts[k].i<t.ts[k+1].i
 dord:∀k (h:k+1<t.ds.length),t.ds[k].g<t.ds[k+1].g
theorem cQ {α:Type} (f:Nat→α→Int) (l:List α):(dk f 0 l).2=0↔∀k (h:k<l.length),f k l[k]=0:=by
 constructor
 · intro h k hk
   have:=lL f l 0 h k hk
   rwa [Nat.zero_add] at this
 · intro h
   rw[dV f l 0 fun k hk=>by rw[Nat.zero_add];exact h k hk]
theorem ew {α:Type} (l:List α) (k:Nat) (h:k<l.length):cB l (k+1)=some l[k]:=by
 unfold cB;rw[if_neg (by omega),Nat.add_sub_cancel,List.getElem?_eq_getElem h]
theorem tblE_zero {t:Tbl}:dR t=0↔TblOk t:=by
 unfold dR jf rn
 constructor
 · intro h
   split at h
   · cases h
   rename_i h0
   split at h
   · rename_i h1;exact absurd h h1
   rename_i h1
   have h1:=(cQ _ _).1 (Classical.not_not.1 h1);have h2:=(cQ _ _).1 h;refine⟨by omega,by omega,fun k hk=>(trnE_zero.1 (h1 k hk)).1,fun k hk=>(dtyE_zero.1 (h2 k hk)).1,fun k hk=>?_,fun k hk=>?_⟩
   · exact(trnE_zero.1 (h1 (k+1) hk)).2 _ (ew _ _ _)
   · exact(dtyE_zero.1 (h2 (k+1) hk)).2 _ (ew _ _ _)
 · intro h
   rw[if_neg (by have:=h.n;have:=h.m;omega)];rw[if_neg]
   · rw[cQ]
     intro k hk;rw[dtyE_zero];refine⟨h.ds k hk,fun y hy=>?_⟩
     cases k with
     | zero=>cases hy
     | succ k=>rw[ew _ _ (by omega)] at hy;cases hy;exact h.dord k hk
   · rw[Classical.not_not,cQ]
     intro k hk;rw[trnE_zero];refine⟨h.ts k hk,fun y hy=>?_⟩
     cases k with
     | zero=>cases hy
     | succ k=>rw[ew _ _ (by omega)] at hy;cases hy;exact h.tord k hk
end Go.Proofs.YtcfdpfmchchkaaaGreatDoor
