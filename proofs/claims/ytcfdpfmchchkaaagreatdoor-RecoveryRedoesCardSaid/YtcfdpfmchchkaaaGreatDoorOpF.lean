/-
  Chapter 21: the reference's Applied, Fits, Try.
  Chapter 21: lists of operations: AppliedAll, Applied; All and Try of the reference; inverses.
  Operations, entries and the like that came in: slices, pairs, structs.
  Chapter 22: plain words of tables. No program in sight.
-/
import Derived.Test.YtcfdpfmchchkaaaGreatDoorOpE
namespace Go.Proofs.YtcfdpfmchchkaaaGreatDoor
set_option linter.unusedVariables false
set_option linter.unusedSimpArgs false
open Go.RowKit Go.Sort
set_option maxRecDepth 100000 in
set_option maxHeartbeats 1000000 in
theorem py (p:ByteArray) (A:Nat) (o n:ByteArray) (w:World) (hp:p.size=512) (h1:o.size=n.size) (h2:o.size≤200) (h3:A+o.size≤512) :
 Calls Tryz.prog 140 #[.string p,.agg #[.int .i64 1,.int .i64 A,.int .i64 0,.int .i64 0,.string o,.string n]] w fun r w'=>r=.returned (.string (eu p ⟨1,A,0,0,o,n⟩))∧Below w.heap.size w w':=by
 have hp1:p.size≤1000000:=by omega
 have hp3:A+n.size≤p.size:=by omega
 clear hp h1
 go_enter Tryz.func140,Tryz.ntmps140
 go_wp2_with (first | (go_at_call 101;refine(oq p n A _ hp1 hp3).mono ?_;rintro e W1 ⟨rfl,hbW1⟩;obtain⟨hcW1,hfW1⟩:=aH hbW1))
 go_ret
 exact⟨rfl,by(repeat (first | assumption | exact Below.refl _ _ | refine ax ?_ _ | refine au ?_ _ | refine aw ?_ (by assumption) | refine Below.trans ?_ (by assumption)))⟩
set_option maxRecDepth 100000 in
set_option maxHeartbeats 1000000 in
theorem oY (p:ByteArray) (A E:Nat) (o n:ByteArray) (w:World) (hp:p.size=512) (h1:o.size=0) (h2:n.size≤200) (h3:A≤E) (h4:E+n.size≤512) :
 Calls Tryz.prog 140 #[.string p,.agg #[.int .i64 2,.int .i64 A,.int .i64 E,.int .i64 0,.string o,.string n]] w fun r w'=>r=.returned (.string (eu p ⟨2,A,E,0,o,n⟩))∧Below w.heap.size w w':=by
 have hp1:p.size≤3100:=by omega
 have hp2:(A:Int)≤p.size:=by omega
 have hp3:E+n.size≤p.size:=by omega
 have hz1:(p.extract 0 A ++ n).size=A+n.size:=by rw[ByteArray.size_append,ByteArray.size_extract];omega
 have hz2:(p.extract 0 A ++ n ++ p.extract A E).size=E+n.size:=by rw[ByteArray.size_append,hz1,ByteArray.size_extract];omega
 clear hp h1
 go_enter Tryz.func140,Tryz.ntmps140
 go_wp2
 (refine wp_region_quiet_below (by kernel_rfl) (by kernel_rfl) ?_;(repeat (go_big_quiet_step ((first | fail))));(with_reducible refine wpQuiet_nil ?_);intro W2 hreg;have hbW2:=aK hreg;clear hreg;obtain⟨hcW2,hfW2⟩:=aH hbW2)
 go_wp2
 go_ret
 exact⟨zb (yv p n A E),by(repeat (first | assumption | exact Below.refl _ _ | refine ax ?_ _ | refine au ?_ _ | refine aw ?_ (by assumption) | refine Below.trans ?_ (by assumption)))⟩
set_option maxRecDepth 100000 in
set_option maxHeartbeats 1000000 in
theorem pn (p:ByteArray) (A E:Nat) (o n:ByteArray) (w:World) (hp:p.size=512) (h1:n.size=0) (h2:o.size≤200) (h3:A+o.size≤E) (h4:E≤512) :
 Calls Tryz.prog 140 #[.string p,.agg #[.int .i64 3,.int .i64 A,.int .i64 E,.int .i64 0,.string o,.string n]] w fun r w'=>r=.returned (.string (eu p ⟨3,A,E,0,o,n⟩))∧Below w.heap.size w w':=by
 have hp1:p.size≤3100:=by omega
 have hp2:(A:Int)≤p.size:=by omega
 have hp3:E≤p.size:=by omega
 have hz1:(p.extract 0 A ++ p.extract (A+o.size) E).size=E-o.size:=by rw[ByteArray.size_append,ByteArray.size_extract,ByteArray.size_extract];omega
 have hz3:(bs (dO o.size)).size=o.size:=lf _
 have hz2:(p.extract 0 A ++ p.extract (A+o.size) E ++ bs (dO o.size)).size=E:=by rw[ByteArray.size_append,hz1,hz3];omega
 clear hp h1
 go_enter Tryz.func140,Tryz.ntmps140
 go_wp2
 (refine wp_region_quiet_below (by kernel_rfl) (by kernel_rfl) ?_;(repeat (go_big_quiet_step ((first | (go_at_call 126;exact Calls.regrown_of (kM o.size _ (by omega)))))));(with_reducible refine wpQuiet_nil ?_);intro W2 hreg;have hbW2:=aK hreg;clear hreg;obtain⟨hcW2,hfW2⟩:=aH hbW2)
 go_wp2
 go_ret
 exact⟨zb (xw p A E o.size),by(repeat (first | assumption | exact Below.refl _ _ | refine ax ?_ _ | refine au ?_ _ | refine aw ?_ (by assumption) | refine Below.trans ?_ (by assumption)))⟩
set_option maxRecDepth 100000 in
set_option maxHeartbeats 1000000 in
theorem oP (p:ByteArray) (A C:Nat) (o n:ByteArray) (w:World) (hp:p.size=512) (h1:o.size=0) (h2:n.size=0) (h3:A+C≤4096) :
 Calls Tryz.prog 140 #[.string p,.agg #[.int .i64 4,.int .i64 A,.int .i64 0,.int .i64 C,.string o,.string n]] w fun r w'=>r=.returned (.string (eu p ⟨4,A,0,C,o,n⟩))∧Below w.heap.size w w':=by
 have hp1:p.size≤3100:=by omega
 have hp2:A+C≤8*p.size:=by omega
 clear hp h1 h2
 go_enter Tryz.func140,Tryz.ntmps140
 go_wp2
 (refine wp_region_quiet_below (by kernel_rfl) (by kernel_rfl) ?_;(repeat (go_big_quiet_step ((first | (go_at_call 76;exact Calls.reg_pure (j6 _ _)) | (go_at_call 210;exact Calls.regrown_of (mX p A C _ hp1 hp2))))));(with_reducible refine wpQuiet_nil ?_);intro W2 hreg;have hbW2:=aK hreg;clear hreg;obtain⟨hcW2,hfW2⟩:=aH hbW2)
 go_wp2
 go_ret
 exact⟨rfl,by(repeat (first | assumption | exact Below.refl _ _ | refine ax ?_ _ | refine au ?_ _ | refine aw ?_ (by assumption) | refine Below.trans ?_ (by assumption)))⟩
set_option maxRecDepth 100000 in
set_option maxHeartbeats 1000000 in
theorem pK (p:ByteArray) (A C:Nat) (o n:ByteArray) (w:World) (hp:p.size=512) (h1:o.size=0) (h2:n.size=0) (h3:A+C≤4096) :
 Calls Tryz.prog 140 #[.string p,.agg #[.int .i64 5,.int .i64 A,.int .i64 0,.int .i64 C,.string o,.string n]] w fun r w'=>r=.returned (.string (eu p ⟨5,A,0,C,o,n⟩))∧Below w.heap.size w w':=by
 have hp1:p.size≤3100:=by omega
 have hp2:A+C≤8*p.size:=by omega
 clear hp h1 h2
 go_enter Tryz.func140,Tryz.ntmps140
 go_wp2
 (refine wp_region_quiet_below (by kernel_rfl) (by kernel_rfl) ?_;(repeat (go_big_quiet_step ((first | (go_at_call 76;exact Calls.reg_pure (j6 _ _)) | (go_at_call 210;exact Calls.regrown_of (mq p A C _ hp1 hp2))))));(with_reducible refine wpQuiet_nil ?_);intro W2 hreg;have hbW2:=aK hreg;clear hreg;obtain⟨hcW2,hfW2⟩:=aH hbW2)
 go_wp2
 go_ret
 exact⟨rfl,by(repeat (first | assumption | exact Below.refl _ _ | refine ax ?_ _ | refine au ?_ _ | refine aw ?_ (by assumption) | refine Below.trans ?_ (by assumption)))⟩
set_option maxRecDepth 100000 in
set_option maxHeartbeats 1000000 in
theorem pD (p:ByteArray) (o n:ByteArray) (w:World) :
 Calls Tryz.prog 140 #[.string p,.agg #[.int .i64 0,.int .i64 0,.int .i64 0,.int .i64 0,.string o,.string n]] w fun r w'=>r=.returned (.string (eu p ⟨0,0,0,0,o,n⟩))∧Below w.heap.size w w':=by
 go_enter Tryz.func140,Tryz.ntmps140
 go_wp2
 go_ret
 exact⟨rfl,by(repeat (first | assumption | exact Below.refl _ _ | refine ax ?_ _ | refine au ?_ _ | refine aw ?_ (by assumption) | refine Below.trans ?_ (by assumption)))⟩
set_option maxRecDepth 100000 in
set_option maxHeartbeats 1000000 in
theorem o8 (p:ByteArray) (o n:ByteArray) (w:World) :
 Calls Tryz.prog 140 #[.string p,.agg #[.int .i64 6,.int .i64 0,.int .i64 0,.int .i64 0,.string o,.string n]] w fun r w'=>r=.returned (.string (eu p ⟨6,0,0,0,o,n⟩))∧Below w.heap.size w w':=by
 go_enter Tryz.func140,Tryz.ntmps140
 go_wp2
 go_ret
 exact⟨rfl,by(repeat (first | assumption | exact Below.refl _ _ | refine ax ?_ _ | refine au ?_ _ | refine aw ?_ (by assumption) | refine Below.trans ?_ (by assumption)))⟩
set_option maxRecDepth 100000 in
set_option maxHeartbeats 1000000 in
theorem AL (p:ByteArray) (A:Nat) (o n:ByteArray) (w:World) (hp:p.size=512) (h1:o.size=n.size) (h2:o.size≤200) (h3:A+o.size≤512) :
 Calls Tryz.prog 141 #[.string p,.agg #[.int .i64 1,.int .i64 A,.int .i64 0,.int .i64 0,.string o,.string n]] w fun r w'=>r=.returned (.bool (dn p ⟨1,A,0,0,o,n⟩))∧Below w.heap.size w w':=by
 have hp1:p.size≤3100:=by omega
 have hp3:(A:Int)+o.size≤p.size:=by omega
 clear hp h1
 go_enter Tryz.func141,Tryz.ntmps141
 go_wp2
 (refine wp_region_quiet_below (by kernel_rfl) (by kernel_rfl) ?_;(repeat (go_big_quiet_step ((first | fail))));(with_reducible refine wpQuiet_nil ?_);intro W2 hreg;have hbW2:=aK hreg;clear hreg;obtain⟨hcW2,hfW2⟩:=aH hbW2)
 go_wp2
 go_ret
 exact⟨l8 (by rw[nI,pS,←di];rfl),by(repeat (first | assumption | exact Below.refl _ _ | refine ax ?_ _ | refine au ?_ _ | refine aw ?_ (by assumption) | refine Below.trans ?_ (by assumption)))⟩
set_option maxRecDepth 100000 in
set_option maxHeartbeats 1000000 in
theorem AM (p:ByteArray) (A E:Nat) (o n:ByteArray) (w:World) (hp:p.size=512) (h1:n.size=0) (h2:o.size≤200) (h3:A+o.size≤E) (h4:E≤512) :
 Calls Tryz.prog 141 #[.string p,.agg #[.int .i64 3,.int .i64 A,.int .i64 E,.int .i64 0,.string o,.string n]] w fun r w'=>r=.returned (.bool (dn p ⟨3,A,E,0,o,n⟩))∧Below w.heap.size w w':=by
 have hp1:p.size≤3100:=by omega
 have hp3:(A:Int)+o.size≤p.size:=by omega
 clear hp h1
 go_enter Tryz.func141,Tryz.ntmps141
 go_wp2
 (refine wp_region_quiet_below (by kernel_rfl) (by kernel_rfl) ?_;(repeat (go_big_quiet_step ((first | fail))));(with_reducible refine wpQuiet_nil ?_);intro W2 hreg;have hbW2:=aK hreg;clear hreg;obtain⟨hcW2,hfW2⟩:=aH hbW2)
 go_wp2
 go_ret
 exact⟨l8 (by rw[nI,pS,←di];rfl),by(repeat (first | assumption | exact Below.refl _ _ | refine ax ?_ _ | refine au ?_ _ | refine aw ?_ (by assumption) | refine Below.trans ?_ (by assumption)))⟩
set_option maxRecDepth 100000 in
set_option maxHeartbeats 1000000 in
theorem AO (p:ByteArray) (A E:Nat) (o n:ByteArray) (w:World) (hp:p.size=512) (h1:o.size=0) (h2:n.size≤200) (h3:A≤E) (h4:E+n.size≤512) :
 Calls Tryz.prog 141 #[.string p,.agg #[.int .i64 2,.int .i64 A,.int .i64 E,.int .i64 0,.string o,.string n]] w fun r w'=>r=.returned (.bool (dn p ⟨2,A,E,0,o,n⟩))∧Below w.heap.size w w':=by
 have hp1:p.size≤3100:=by omega
 have hp3:(E:Int)+n.size≤p.size:=by omega
 clear hp h1
 go_enter Tryz.func141,Tryz.ntmps141
 go_wp2_with (first | (go_at_call 211;refine(qQ _ _ (by rw[ByteArray.size_extract];unfold maxLen;omega)).mono ?_;rintro e w' ⟨rfl,rfl⟩))
 go_ret
 exact⟨l8 (by rw[pS,←di];rfl),by(repeat (first | assumption | exact Below.refl _ _ | refine ax ?_ _ | refine au ?_ _ | refine aw ?_ (by assumption) | refine Below.trans ?_ (by assumption)))⟩
set_option maxRecDepth 100000 in
set_option maxHeartbeats 1000000 in
theorem A4 (p:ByteArray) (o n:ByteArray) (w:World) :
 Calls Tryz.prog 141 #[.string p,.agg #[.int .i64 6,.int .i64 0,.int .i64 0,.int .i64 0,.string o,.string n]] w fun r w'=>r=.returned (.bool (dn p ⟨6,0,0,0,o,n⟩))∧Below w.heap.size w w':=by
 go_enter Tryz.func141,Tryz.ntmps141
 go_wp2
 go_ret
 exact⟨l8 (by rw[nI];rfl),by(repeat (first | assumption | exact Below.refl _ _ | refine ax ?_ _ | refine au ?_ _ | refine aw ?_ (by assumption) | refine Below.trans ?_ (by assumption)))⟩
set_option maxRecDepth 100000 in
set_option maxHeartbeats 1000000 in
theorem AD (p:ByteArray) (o n:ByteArray) (w:World) :
 Calls Tryz.prog 141 #[.string p,.agg #[.int .i64 0,.int .i64 0,.int .i64 0,.int .i64 0,.string o,.string n]] w fun r w'=>r=.returned (.bool (dn p ⟨0,0,0,0,o,n⟩))∧Below w.heap.size w w':=by
 go_enter Tryz.func141,Tryz.ntmps141
 go_wp2
 go_ret
 exact⟨rfl,by(repeat (first | assumption | exact Below.refl _ _ | refine ax ?_ _ | refine au ?_ _ | refine aw ?_ (by assumption) | refine Below.trans ?_ (by assumption)))⟩
theorem jf {l:List UInt8} {a k c:Nat} {v:Bool} (hk:k<c) (h:dG l (a+k)=v):bN l a c v=false:=by
 cases hb:bN l a c v
 · rfl
 · have:=(oW l a c v).1 hb (a+k) (by omega) (by omega)
   rw[h] at this;cases v<;>cases this
set_option maxRecDepth 100000 in
set_option maxHeartbeats 1000000 in
theorem AG (p:ByteArray) (A C:Nat) (o n:ByteArray) (w:World) (hp:p.size=512) (h1:o.size=0) (h2:n.size=0) (h3:A+C≤4096) :
 Calls Tryz.prog 141 #[.string p,.agg #[.int .i64 4,.int .i64 A,.int .i64 0,.int .i64 C,.string o,.string n]] w fun r w'=>r=.returned (.bool (dn p ⟨4,A,0,C,o,n⟩))∧Below w.heap.size w w':=by
 have hfit:dn p ⟨4,A,0,C,o,n⟩=bN (bl p) A C true:=rfl;rw[hfit];clear hfit
 have hp1:p.size≤3100:=by omega
 have hp2:A+C≤8*p.size:=by omega
 clear hp h1 h2
 go_enter Tryz.func141,Tryz.ntmps141
 go_wp2
 go_loopw [5] (fun i wr=>∃k:Nat,k≤C∧i=.int .i64 ((A+k:Nat):Int)∧Below (w.alloc (.cells #[.int .i64 4,.int .i64 A,.int .i64 0,.int .i64 C,.string o,.string n] 141)).heap.size (w.alloc (.cells #[.int .i64 4,.int .i64 A,.int .i64 0,.int .i64 C,.string o,.string n] 141)) wr∧bN (bl p) A k true=true) (fun i _=>A+C-(intOf i).toNat)
 case atStart=>exact⟨0,Nat.zero_le _,rfl,Below.refl _ _,rfl⟩
 case round=>
  obtain⟨k,hk,rfl,hb,hall⟩:=hrel;have HALL:=Lib.hid hall;obtain⟨hcR,hfR⟩:=aH hb
  have hsR:w.heap.size<wr.heap.size:=by have h:=hb.size;simp at h;omega
  clear hall;obtain⟨m,hm⟩:∃m:Nat,m=A+k:=⟨_,rfl⟩;rw[←hm];have HM:=Lib.hid hm;by_cases hlt:k<C
  · have hltm:(m:Int)<(A:Int)+(C:Int):=by omega
    have hBA:=fun W=>iZ p m W (by omega) hp1;obtain⟨x,hx⟩:∃x,x=dG (bl p) m:=⟨_,rfl⟩;rw[←hx] at hBA;have HBA:=Lib.hid hBA;have HX:=Lib.hid hx
    have hm0:m<30000:=by omega
    clear hBA hx hm
    cases x
    all_goals
     simp only[if_true,Bool.false_eq_true,if_false] at HBA
     go_wp2
     refine wp_region_quiet_below (by kernel_rfl) (by kernel_rfl) ?_
     (repeat (go_big_quiet_step ((first | (go_at_call 212;exact Calls.regrown_of (HBA.out _)) | (go_at_call 76;exact Calls.reg_pure (j6 _ _))))))
     (with_reducible refine wpQuiet_nil ?_)
     intro W2 hreg;have hbW2:=aK hreg;clear hreg;obtain⟨hcW2,hfW2⟩:=aH hbW2
     go_wp2
     first
     | (go_ret
        exact⟨l8 (jf hlt (by rw[←HM.out,←HX.out])).symm,by(repeat (first | assumption | exact Below.refl _ _ | refine ax ?_ _ | refine au ?_ _ | refine aw ?_ (by assumption) | refine Below.trans ?_ (by assumption)))⟩)
     | (go_roundw
        case rel=>exact⟨k+1,by omega,by rw[HM.out];go_num,aw hb hbW2,by unfold bN;rw[HALL.out,←HM.out,←HX.out];rfl⟩
        case measure=>simp[intOf];omega)
  · obtain rfl:k=C:=by omega
    have hgem:(A:Int)+(k:Int)≤(m:Int):=by omega
    clear hm
    go_wp2
    go_ret
    exact⟨l8 HALL.out.symm,by(repeat (first | assumption | exact Below.refl _ _ | refine ax ?_ _ | refine au ?_ _ | refine aw ?_ (by assumption) | refine Below.trans ?_ (by assumption)))⟩
set_option maxRecDepth 100000 in
set_option maxHeartbeats 1000000 in
theorem AF (p:ByteArray) (A C:Nat) (o n:ByteArray) (w:World) (hp:p.size=512) (h1:o.size=0) (h2:n.size=0) (h3:A+C≤4096) :
 Calls Tryz.prog 141 #[.string p,.agg #[.int .i64 5,.int .i64 A,.int .i64 0,.int .i64 C,.string o,.string n]] w fun r w'=>r=.returned (.bool (dn p ⟨5,A,0,C,o,n⟩))∧Below w.heap.size w w':=by
 have hfit:dn p ⟨5,A,0,C,o,n⟩=bN (bl p) A C false:=rfl;rw[hfit];clear hfit
 have hp1:p.size≤3100:=by omega
 have hp2:A+C≤8*p.size:=by omega
 clear hp h1 h2
 go_enter Tryz.func141,Tryz.ntmps141
 go_wp2
 go_loopw [5] (fun i wr=>∃k:Nat,k≤C∧i=.int .i64 ((A+k:Nat):Int)∧Below (w.alloc (.cells #[.int .i64 5,.int .i64 A,.int .i64 0,.int .i64 C,.string o,.string n] 141)).heap.size (w.alloc (.cells #[.int .i64 5,.int .i64 A,.int .i64 0,.int .i64 C,.string o,.string n] 141)) wr∧bN (bl p) A k false=true) (fun i _=>A+C-(intOf i).toNat)
 case atStart=>exact⟨0,Nat.zero_le _,rfl,Below.refl _ _,rfl⟩
 case round=>
  obtain⟨k,hk,rfl,hb,hall⟩:=hrel;have HALL:=Lib.hid hall;obtain⟨hcR,hfR⟩:=aH hb
  have hsR:w.heap.size<wr.heap.size:=by have h:=hb.size;simp at h;omega
  clear hall;obtain⟨m,hm⟩:∃m:Nat,m=A+k:=⟨_,rfl⟩;rw[←hm];have HM:=Lib.hid hm;by_cases hlt:k<C
  · have hltm:(m:Int)<(A:Int)+(C:Int):=by omega
    have hBA:=fun W=>iZ p m W (by omega) hp1;obtain⟨x,hx⟩:∃x,x=dG (bl p) m:=⟨_,rfl⟩;rw[←hx] at hBA;have HBA:=Lib.hid hBA;have HX:=Lib.hid hx
    have hm0:m<30000:=by omega
    clear hBA hx hm
    cases x
    all_goals
     simp only[if_true,Bool.false_eq_true,if_false] at HBA
     go_wp2
     refine wp_region_quiet_below (by kernel_rfl) (by kernel_rfl) ?_
     (repeat (go_big_quiet_step ((first | (go_at_call 212;exact Calls.regrown_of (HBA.out _)) | (go_at_call 76;exact Calls.reg_pure (j6 _ _))))))
     (with_reducible refine wpQuiet_nil ?_)
     intro W2 hreg;have hbW2:=aK hreg;clear hreg;obtain⟨hcW2,hfW2⟩:=aH hbW2
     go_wp2
     first
     | (go_ret
        exact⟨l8 (jf hlt (by rw[←HM.out,←HX.out])).symm,by(repeat (first | assumption | exact Below.refl _ _ | refine ax ?_ _ | refine au ?_ _ | refine aw ?_ (by assumption) | refine Below.trans ?_ (by assumption)))⟩)
     | (go_roundw
        case rel=>exact⟨k+1,by omega,by rw[HM.out];go_num,aw hb hbW2,by unfold bN;rw[HALL.out,←HM.out,←HX.out];rfl⟩
        case measure=>simp[intOf];omega)
  · obtain rfl:k=C:=by omega
    have hgem:(A:Int)+(k:Int)≤(m:Int):=by omega
    clear hm
    go_wp2
    go_ret
    exact⟨l8 HALL.out.symm,by(repeat (first | assumption | exact Below.refl _ _ | refine ax ?_ _ | refine au ?_ _ | refine aw ?_ (by assumption) | refine Below.trans ?_ (by assumption)))⟩
open Go.RowKit Go.Sort
def opsV (l:List Op):List Value:=l.flatMap rP
theorem rq (l:List Op):(opsV l).length=6*l.length:=by
 induction l with
 | nil=>rfl
 | cons f l ih=>simp[opsV,rP] at ih ⊢;omega
theorem gI (l:List Op):∀(k:Nat) (h:k<l.length) (j:Nat) (u:Value),(rP l[k])[j]? = some u→(opsV l)[k*6+j]? = some u:=by
 induction l with
 | nil=>intro k h;exact absurd h (by simp)
 | cons f l ih=>
  intro k h j u hu;have hj:j<6:=(List.getElem?_eq_some_iff.1 hu).1
  cases k with
  | zero=>
   show(rP f ++ opsV l)[0*6+j]? = some u;rw[List.getElem?_append_left (by show _<6;omega),Nat.zero_mul,Nat.zero_add];exact hu
  | succ k=>
   show(rP f ++ opsV l)[(k+1)*6+j]? = some u;rw[List.getElem?_append_right (by show 6≤_;omega)];have:=ih k (by simpa using h) j u (by simpa using hu);rw[←this]
   congr 1
   show(k+1)*6+j-6=_;omega
def rm (l:List Op):Prop:=∀j (h:j<l.length),l[j].o.size≤3100∧l[j].n.size≤3100
set_option maxRecDepth 100000 in
theorem xr (p:ByteArray) (x:Op) (w:World) (hp:p.size=512) (h:jy x) :
 Calls Tryz.prog 141 #[.string p,fS x] w fun r w'=>r=.returned (.bool (dn p x))∧Below w.heap.size w w':=by
 obtain⟨k,a,e,c,o,n⟩:=x;unfold jy at h
 dsimp only at h
 rcases h with ⟨rfl,rfl,rfl,rfl,ho,hn⟩ | ⟨rfl,rfl,rfl,hs,h1,h2,h3,h4⟩ | ⟨rfl,rfl,ho,h1,h2,h3,h4,h5⟩ | ⟨rfl,rfl,hn,h1,h2,h3,h4,h5⟩ | ⟨hk,rfl,ho,hn,h1,h2,h3,h4⟩ | ⟨rfl,rfl,rfl,rfl,ho,hn⟩
 · exact AD p o n w
 · obtain⟨A,rfl⟩:=Int.eq_ofNat_of_zero_le h3
   exact AL p A o n w hp hs h2 (by omega)
 · obtain⟨A,rfl⟩:=Int.eq_ofNat_of_zero_le h3
   obtain⟨E,rfl⟩:=Int.eq_ofNat_of_zero_le (show 0≤e by omega);exact AO p A E o n w hp ho h2 (by omega) (by omega)
 · obtain⟨A,rfl⟩:=Int.eq_ofNat_of_zero_le h3
   obtain⟨E,rfl⟩:=Int.eq_ofNat_of_zero_le (show 0≤e by omega);exact AM p A E o n w hp hn h2 (by omega) (by omega)
 · obtain⟨A,rfl⟩:=Int.eq_ofNat_of_zero_le h1
   obtain⟨C,rfl⟩:=Int.eq_ofNat_of_zero_le (show 0≤c by omega);rcases hk with rfl | rfl
   · exact AG p A C o n w hp ho hn (by omega)
   · exact AF p A C o n w hp ho hn (by omega)
 · exact A4 p o n w
theorem me (p:ByteArray) (x:Op) (w:World) (hp:p.size=512) (h:jy x) :
 Calls Tryz.prog 140 #[.string p,fS x] w fun r w'=>r=.returned (.string (eu p x))∧Below w.heap.size w w':=by
 obtain⟨k,a,e,c,o,n⟩:=x;unfold jy at h
 dsimp only at h
 rcases h with ⟨rfl,rfl,rfl,rfl,ho,hn⟩ | ⟨rfl,rfl,rfl,hs,h1,h2,h3,h4⟩ | ⟨rfl,rfl,ho,h1,h2,h3,h4,h5⟩ | ⟨rfl,rfl,hn,h1,h2,h3,h4,h5⟩ | ⟨hk,rfl,ho,hn,h1,h2,h3,h4⟩ | ⟨rfl,rfl,rfl,rfl,ho,hn⟩
 · exact pD p o n w
 · obtain⟨A,rfl⟩:=Int.eq_ofNat_of_zero_le h3
   exact py p A o n w hp hs h2 (by omega)
 · obtain⟨A,rfl⟩:=Int.eq_ofNat_of_zero_le h3
   obtain⟨E,rfl⟩:=Int.eq_ofNat_of_zero_le (show 0≤e by omega);exact oY p A E o n w hp ho h2 (by omega) (by omega)
 · obtain⟨A,rfl⟩:=Int.eq_ofNat_of_zero_le h3
   obtain⟨E,rfl⟩:=Int.eq_ofNat_of_zero_le (show 0≤e by omega);exact pn p A E o n w hp hn h2 (by omega) (by omega)
 · obtain⟨A,rfl⟩:=Int.eq_ofNat_of_zero_le h1
   obtain⟨C,rfl⟩:=Int.eq_ofNat_of_zero_le (show 0≤c by omega);rcases hk with rfl | rfl
   · exact oP p A C o n w hp ho hn (by omega)
   · exact pK p A C o n w hp ho hn (by omega)
 · exact o8 p o n w
theorem jP (x:Op) (w:World) (ho:x.o.size≤3100) (hn:x.n.size≤3100) :
 Calls Tryz.prog 139 #[fS x] w fun r w'=>r=.returned (.int .i64 (dJ x))∧Below w.heap.size w w':=by
 cases hk:bH x.k 0 6
 · exact oN x w hk
 · obtain⟨k,a,e,c,o,n⟩:=x
   rw[inB_true] at hk
   dsimp only at hk
   have:k=0∨k=1∨k=2∨k=3∨k=4∨k=5∨k=6:=by omega
   rcases this with rfl | rfl | rfl | rfl | rfl | rfl | rfl
   · exact sC a e c o n w ho hn
   · exact rY a e c o n w ho hn
   · exact sB a e c o n w ho hn
   · exact s6 a e c o n w ho hn
   · exact se a e c o n w ho hn
   · exact tm a e c o n w ho hn
   · exact sX a e c o n w ho hn
open Go.ChangeShapes Go.WideShapes Go.ChangeAt Go.RowKit
def Bt (y:Op):Prop:=y.o.size≤maxLen∧y.n.size≤maxLen
set_option maxRecDepth 100000 in
structure Lge where
 k:Int
 t:Int
 p:Int
 x:Int
 g:Int
 f:Bool
 o:Op
 d:ByteArray
def qF (e:Lge):List Value:=[.int .i64 e.k,.int .i64 e.t,.int .i64 e.p,.int .i64 e.x,.int .i64 e.g,.bool e.f,.int .i64 e.o.k,.int .i64 e.o.a,.int .i64 e.o.e,.int .i64 e.o.c,.string e.o.o,.string e.o.n,.string e.d]
def ee (e:Lge):Value:=.agg (qF e).toArray
def mQ (e:Lge):Prop:=Bt e.o∧e.d.size≤maxLen
structure Rdo where
 f:Bool
 o:Op
 n:Int
open Go.RowKit
structure Trn where
 i:Int
 l:Int
 u:Int
 c:Bool
 deriving DecidableEq
structure Dty where
 g:Int
 f:Bool
 l:Int
 deriving DecidableEq
structure Tbl where
 ts:List Trn
 ds:List Dty
 deriving DecidableEq
structure Rcd where
 l:Int
 e:Lge
structure Pgp where
 g:Int
 f:Bool
 b:ByteArray
 deriving DecidableEq
def gF:Tbl:=⟨[],[]⟩
def cm (x:Trn):List Value:=[.int .i64 x.i,.int .i64 x.l,.int .i64 x.u,.bool x.c]
def cD (x:Dty):List Value:=[.int .i64 x.g,.bool x.f,.int .i64 x.l]
def cq (x:Rcd):List Value:=.int .i64 x.l::qF x.e
def bX (x:Pgp):List Value:=[.int .i64 x.g,.bool x.f,.string x.b]
theorem bS (x:Trn):(cm x).length=4:=rfl
theorem cy (x:Dty):(cD x).length=3:=rfl
theorem aJ (x:Rcd):(cq x).length=14:=rfl
theorem bf (x:Pgp):(bX x).length=3:=rfl
theorem pZ (x:Trn):∀u∈cm x,u.oneCell'=true:=by
 intro u hu;simp only[cm,List.mem_cons,List.not_mem_nil,or_false] at hu
 rcases hu with rfl | rfl | rfl | rfl<;>rfl
theorem qA (x:Dty):∀u∈cD x,u.oneCell'=true:=by
 intro u hu;simp only[cD,List.mem_cons,List.not_mem_nil,or_false] at hu
 rcases hu with rfl | rfl | rfl<;>rfl
theorem qI (x:Pgp):∀u∈bX x,u.oneCell'=true:=by
 intro u hu;simp only[bX,List.mem_cons,List.not_mem_nil,or_false] at hu
 rcases hu with rfl | rfl | rfl<;>rfl
theorem xz (x:Rcd):∀u∈cq x,u.oneCell'=true:=by
 intro u hu;simp only[cq,qF,List.mem_cons,List.not_mem_nil,or_false] at hu
 rcases hu with rfl | rfl | rfl | rfl | rfl | rfl | rfl | rfl | rfl | rfl | rfl | rfl | rfl | rfl<;>rfl
def cI {α:Type} (l:List α) (i:Nat):Option α:=if i=0 then none else l[i-1]?
def kf (p:Option Trn) (x:Trn):Int:=aP [bO (bH x.i 1 9999&&bH x.l 1 2147483647&&bH x.u 0 x.l) 2,bO (match p with | none=>true | some y=>decide (y.i<x.i)) 9]
def j0 (p:Option Dty) (x:Dty):Int:=aP [bO (bH x.g 0 600&&bH x.l 1 2147483647) 2,bO (match p with | none=>true | some y=>decide (y.g<x.g)) 9]
def jk (l:List Trn):Int × Int:=dp (fun i x=>kf (cI l i) x) 0 l
def qe (l:List Dty):Int × Int:=dp (fun i x=>j0 (cI l i) x) 0 l
def dy (t:Tbl):Int:=if 60<t.ts.length∨60<t.ds.length then 8 else if (jk t.ts).2≠0 then (jk t.ts).2 else (qe t.ds).2
def ka (b:Bool):Int:=if b then 1 else 0
def vb (x:Trn):List UInt8:=lit x.i 2 ++ (lit x.l 4 ++ (lit x.u 4 ++ lit (ka x.c) 1))
def vv (x:Dty):List UInt8:=lit x.g 2 ++ (lit (ka x.f) 1 ++ lit x.l 4)
def zy (t:Tbl):List UInt8:=lit t.ts.length 1 ++ lit t.ds.length 1 ++ (t.ts.flatMap vb ++ t.ds.flatMap vv)
def tE (s:List UInt8) (a:Nat):Trn:=⟨jd s a 2,jd s (a+2) 4,jd s (a+6) 4,jd s (a+10) 1==1⟩
def ud (s:List UInt8) (a:Nat):Dty:=⟨jd s a 2,jd s (a+2) 1==1,jd s (a+3) 4⟩
def bw (s:List UInt8):Nat:=(jd s 0 1).toNat
def dI (s:List UInt8):Nat:=(jd s 1 1).toNat
def gY (s:List UInt8) (k:Nat):List Trn:=(List.range k).map fun i=>tE s (2+11*i)
def ja (s:List UInt8) (k:Nat):List Dty:=(List.range k).map fun i=>ud s (2+11*bw s+7*i)
def fD (s:List UInt8) (k:Nat):Bool:=(List.range k).all fun i=>decide (jd s (2+11*i+10) 1≤1)
def gx (s:List UInt8) (k:Nat):Bool:=(List.range k).all fun i=>decide (jd s (2+11*bw s+7*i+2) 1≤1)
def dV (s:List UInt8):Tbl:=⟨gY s (bw s),ja s (dI s)⟩
def fP (s:List UInt8):Int:=if s.length<2 then 10 else if s.length≠2+11*bw s+7*dI s then 10 else aP [bO (fD s (bw s)&&gx s (dI s)) 3,dy (dV s)]
def dh (s:List UInt8):Tbl:=if fP s=0 then dV s else gF
theorem uu (s:List UInt8) (a m n:Nat):(s.drop a).take m ++ (s.drop (a+m)).take n=(s.drop a).take (m+n):=by
 rw[←List.drop_drop];generalize s.drop a=l;rw[←List.take_append_drop m (l.take (m+n)),List.take_take,Nat.min_eq_left (by omega),List.drop_take,Nat.add_sub_cancel_left]
structure TrnOk (x:Trn):Prop where
 i:1≤x.i∧x.i≤9999
 l:1≤x.l∧x.l≤2147483647
 u:0≤x.u∧x.u≤x.l
structure DtyOk (x:Dty):Prop where
 g:0≤x.g∧x.g≤600
 l:1≤x.l∧x.l≤2147483647
theorem trnE_zero {p:Option Trn} {x:Trn}:kf p x=0↔TrnOk x∧∀y,p=some y→y.i<x.i:=by
 unfold kf;rw[bu];simp only[List.mem_cons,List.not_mem_nil,or_false,forall_eq_or_imp,forall_eq];rw[bE (by decide),bE (by decide),Bool.and_eq_true,Bool.and_eq_true,inB_true,inB_true,inB_true]
 constructor
 · rintro ⟨⟨⟨h1,h2⟩,h3⟩,h4⟩
   refine⟨⟨h1,h2,h3⟩,fun y hy=>?_⟩;subst hy;simpa using h4
 · rintro ⟨⟨h1,h2,h3⟩,h4⟩
   refine⟨⟨⟨h1,h2⟩,h3⟩,?_⟩
   cases p with
   | none=>rfl
   | some y=>simpa using h4 y rfl
theorem dtyE_zero {p:Option Dty} {x:Dty}:j0 p x=0↔DtyOk x∧∀y,p=some y→y.g<x.g:=by
 unfold j0;rw[bu];simp only[List.mem_cons,List.not_mem_nil,or_false,forall_eq_or_imp,forall_eq];rw[bE (by decide),bE (by decide),Bool.and_eq_true,inB_true,inB_true]
 constructor
 · rintro ⟨⟨h1,h2⟩,h4⟩
   refine⟨⟨h1,h2⟩,fun y hy=>?_⟩;subst hy;simpa using h4
 · rintro ⟨⟨h1,h2⟩,h4⟩
   refine⟨⟨h1,h2⟩,?_⟩
   cases p with
   | none=>rfl
   | some y=>simpa using h4 y rfl
structure TblOk (t:Tbl):Prop where
 n:t.ts.length≤60
 m:t.ds.length≤60
 ts:∀k (h:k<t.ts.length),TrnOk t.ts[k]
 ds:∀k (h:k<t.ds.length),DtyOk t.ds[k]
 tord:∀k (h:k+1<t.ts.length),t.ts[k].i<t.ts[k+1].i
 dord:∀k (h:k+1<t.ds.length),t.ds[k].g<t.ds[k+1].g
theorem cW {α:Type} (f:Nat→α→Int) (l:List α):(dp f 0 l).2=0↔∀k (h:k<l.length),f k l[k]=0:=by
 constructor
 · intro h k hk
   have:=mu f l 0 h k hk
   rwa [Nat.zero_add] at this
 · intro h
   rw[dP f l 0 fun k hk=>by rw[Nat.zero_add];exact h k hk]
theorem eE {α:Type} (l:List α) (k:Nat) (h:k<l.length):cI l (k+1)=some l[k]:=by
 unfold cI;rw[if_neg (by omega),Nat.add_sub_cancel,List.getElem?_eq_getElem h]
theorem tblE_zero {t:Tbl}:dy t=0↔TblOk t:=by
 unfold dy jk qe
 constructor
 · intro h
   split at h
   · cases h
   rename_i h0
   split at h
   · rename_i h1;exact absurd h h1
   rename_i h1
   have h1:=(cW _ _).1 (Classical.not_not.1 h1);have h2:=(cW _ _).1 h;refine⟨by omega,by omega,fun k hk=>(trnE_zero.1 (h1 k hk)).1,fun k hk=>(dtyE_zero.1 (h2 k hk)).1,fun k hk=>?_,fun k hk=>?_⟩
   · exact(trnE_zero.1 (h1 (k+1) hk)).2 _ (eE _ _ _)
   · exact(dtyE_zero.1 (h2 (k+1) hk)).2 _ (eE _ _ _)
 · intro h
   rw[if_neg (by have:=h.n;have:=h.m;omega)];rw[if_neg]
   · rw[cW]
     intro k hk;rw[dtyE_zero];refine⟨h.ds k hk,fun y hy=>?_⟩
     cases k with
     | zero=>cases hy
     | succ k=>rw[eE _ _ (by omega)] at hy;cases hy;exact h.dord k hk
   · rw[Classical.not_not,cW]
     intro k hk;rw[trnE_zero];refine⟨h.ts k hk,fun y hy=>?_⟩
     cases k with
     | zero=>cases hy
     | succ k=>rw[eE _ _ (by omega)] at hy;cases hy;exact h.tord k hk
end Go.Proofs.YtcfdpfmchchkaaaGreatDoor
