/-
  Chapter 21: pages with bits that were put.
  Chapter 21: the errors of operations: moved, rangeErr.
-/
import Derived.Test.YtcfdpfmchchkaaaGreatDoorOpB
import Derived.Test.YtcfdpfmchchkaaaGreatDoorSplD
namespace Go.Proofs.YtcfdpfmchchkaaaGreatDoor
set_option maxRecDepth 100000
set_option maxHeartbeats 4000000
set_option linter.unusedVariables false
set_option linter.unusedSimpArgs false
open Go.RowKit Go.Sort
def BytesAt (w:World) (g:Nat) (l:List UInt8):Prop:=∀j,j<l.length→w.cell? ⟨g,j,none⟩=some (bm (l.getD j 0))∧w.frozen? ⟨g,j,none⟩=false
theorem lK (w:World) (s:ByteArray):BytesAt (Lib.bytesWorld w 5 s) w.heap.size (bl s):=fun j hj=>by
 rw[aN] at hj;refine⟨Lib.bytesWorld_cell _ _ _ _ hj,?_⟩;have h1:=Lib.bytesWorld_at_new w 5 s
 have Y:j<(Lib.bytesCells w 5 s).size:=by
  have Y:=Lib.bytesWorld_cell w 5 s j hj;rw[cell_of_row _ _ _ _ _ _ h1] at Y;exact(Array.getElem?_eq_some_iff.1 Y).1
 unfold World.frozen?;rw[h1];simp;omega
theorem BytesAt.set {w:World} {g:Nat} {l:List UInt8} (h:BytesAt w g l) (i:Nat) (hi:i<l.length) (b:UInt8):BytesAt (w.setCell ⟨g,i,none⟩ (bm b)) g (l.set i b):=by
 intro j hj;rw[List.length_set] at hj;obtain⟨h1,h2⟩:=h j hj;refine⟨?_,by rw[World.frozen?_setCell];exact h2⟩;by_cases e:i=j
 · subst e
   rw[World.cell?_setCell_same _ _ _ h1,el,List.getElem?_set_self hi];rfl
 · rw[World.cell?_setCell_other _ _ _ _ (by intro h;injection h with _ h;exact e h),h1,el,el,List.getElem?_set_ne e]
theorem BytesAt.below {w w':World} {g:Nat} {l:List UInt8} (h:BytesAt w g l) (hg:g<w.heap.size) (hb:Below w.heap.size w w'):BytesAt w' g l:=fun j hj=>by
 obtain⟨h1,h2⟩:=h j hj;exact⟨(hb.cell (p:=⟨g,j,none⟩) hg).trans h1,(hb.frozen (p:=⟨g,j,none⟩) hg).trans h2⟩
theorem BytesAt.set2 {w:World} {g:Nat} {l:List UInt8} (h:BytesAt w g l) (i:Nat) (hi:i<l.length) (b b':UInt8):BytesAt ((w.setCell ⟨g,i,none⟩ (bm b)).setCell ⟨g,i,none⟩ (bm b')) g (l.set i b'):=by
 have h1:=(h.set i hi b).set i (by rw[List.length_set];exact hi) b';rw[List.set_set] at h1;exact h1
theorem pk {a b:ByteArray} {c d:Bool} (h:a=b) (h':c=d):Ending.returned (.tuple #[.string a,.bool c])=.returned (.tuple #[.string b,.bool d]):=by rw[h,h']
theorem cw (b:UInt8) (j:Nat) (hj:j<8):(bits .and .u8 (b.toNat:Int) ((2 ^ j:Nat):Int) != 0)=cK b j:=by
 have all:∀n:Fin 256,∀j:Fin 8,(bits .and .u8 ((UInt8.ofNat n.val).toNat:Int) ((2 ^ j.val:Nat):Int) != 0)=cK (UInt8.ofNat n.val) j.val:=by decide +kernel
 simpa using all ⟨b.toNat,b.toNat_lt⟩ ⟨j,hj⟩
theorem bB (b:UInt8) (j:Nat) (hj:j<8):bits .andNot .u8 (b.toNat:Int) ((2 ^ j:Nat):Int)=((bP b j false).toNat:Int):=by
 have all:∀n:Fin 256,∀j:Fin 8,bits .andNot .u8 ((UInt8.ofNat n.val).toNat:Int) ((2 ^ j.val:Nat):Int)=((bP (UInt8.ofNat n.val) j.val false).toNat:Int):=by decide +kernel
 simpa using all ⟨b.toNat,b.toNat_lt⟩ ⟨j,hj⟩
theorem cv (b:UInt8) (j:Nat) (hj:j<8):bits .or .u8 ((bP b j false).toNat:Int) ((2 ^ j:Nat):Int)=((bP b j true).toNat:Int):=by
 have all:∀n:Fin 256,∀j:Fin 8,bits .or .u8 ((bP (UInt8.ofNat n.val) j.val false).toNat:Int) ((2 ^ j.val:Nat):Int)=((bP (UInt8.ofNat n.val) j.val true).toNat:Int):=by decide +kernel
 simpa using all ⟨b.toNat,b.toNat_lt⟩ ⟨j,hj⟩
theorem n5 (s:ByteArray) (a c:Nat) (w:World) (hs:s.size≤3100) (hac:a+c≤8*s.size) :
 Calls Tryz.prog 243 #[.string s,.int .i64 a,.int .i64 c,.bool true] w fun e w'=>e=.returned (.tuple #[.string (bs (bO (bl s) a c true)),.bool (cq (bl s) a c true)])∧Below w.heap.size w w':=by
 have hconv:=Lib.run_convert_string_bytes (P:=Tryz.prog) w 9 126 5 s Tryz.underlying9 Tryz.underlying126 Tryz.underlying5;obtain⟨W1,hW1⟩:∃W1,W1=Lib.bytesWorld w 5 s:=⟨_,rfl⟩;obtain⟨cap,hcap⟩:∃c,c=grownCap w s.size 0 5:=⟨_,rfl⟩;rw[←hW1,←hcap] at hconv
 have hbelow:Below w.heap.size w W1:=by rw[hW1];exact eL _ _ _
 have hcell:BytesAt W1 w.heap.size (bl s):=by rw[hW1];exact lK w s
 clear hW1 hcap;have HB:=Lib.hid hbelow;have HC:=Lib.hid hcell;clear hbelow hcell
 go_enter Tryz.func243,Tryz.ntmps243
 go_wp2
 go_loopw [11,12] (fun al i wr=>∃k:Nat,k≤c∧i=.int .i64 ((a+k:Nat):Int)∧al=.bool (cq (bl s) a k true)∧Below w.heap.size w wr∧BytesAt wr w.heap.size (bO (bl s) a k true)) (fun _ i _=>a+c-(intOf i).toNat)
 case atStart=>exact⟨0,Nat.zero_le _,rfl,rfl,HB.out,HC.out⟩
 case round=>
  obtain⟨k,hk,rfl,rfl,hb,hB⟩:=hrel;clear hconv;obtain⟨al,hal⟩:∃b,b=cq (bl s) a k true:=⟨_,rfl⟩;obtain⟨L,hL⟩:∃L,L=bO (bl s) a k true:=⟨_,rfl⟩;obtain⟨m,hm⟩:∃m:Nat,m=a+k:=⟨_,rfl⟩;rw[←hal,←hm];rw[←hL] at hB
  have hll:L.length=s.size:=by rw[hL,dy,aN]
  by_cases hlt:k<c
  · obtain⟨q,hq⟩:∃q,q=m / 8:=⟨_,rfl⟩
    obtain⟨j,hj⟩:∃j,j=m % 8:=⟨_,rfl⟩
    have hj8:j<8:=by omega
    have hqs:q<s.size:=by omega
    have hdiv:(m:Int) / 8=(q:Int):=by omega
    have hmod:(m:Int) % 8=(j:Int):=by omega
    have hltm:(m:Int)<(a:Int)+(c:Int):=by omega
    have hm0:m<30000:=by omega
    have hq0:q<4000:=by omega
    obtain⟨hx,hfz⟩:=hB q (by rw[hll];exact hqs);obtain⟨b,hbv⟩:∃b,b=L.getD q 0:=⟨_,rfl⟩;rw[←hbv] at hx;unfold bm at hx
    have hbit:cK b j=gF (bl s) m:=by
     have h1:=ji (bl s) a k m true (by rw[aN];omega);rw[if_neg ab,←hL] at h1;rw[←h1,hbv,hq,hj];rfl
    have hnext:bO (bl s) a (k+1) true=L.set q (bP b j true):=by
     show putAt (bO (bl s) a k true) (a+k) true=_;rw[←hL,←hm,hbv,hq,hj];rfl
    have hall:cq (bl s) a (k+1) true=(al&&(cK b j != true)):=by
     show(cq (bl s) a k true&&(gF (bl s) (a+k) != true))=_;rw[←hal,←hm,hbit]
    have hbr:=hb.size;have HN:=Lib.hid hnext;have HA:=Lib.hid hall;have HBT:=Lib.hid hB;have HM:=Lib.hid hm;have HQ:Hid (q<L.length):=Lib.hid (by rw[hll];exact hqs);clear hnext hall hB hal hL hll hbv hbit hq hj hm
    have:j=0∨j=1∨j=2∨j=3∨j=4∨j=5∨j=6∨j=7:=by omega
    rcases this with rfl | rfl | rfl | rfl | rfl | rfl | rfl | rfl
    · have h1:(bits .and .u8 (b.toNat:Int) 1 != 0)=cK b 0:=cw b 0 ar
      have Y:bits .andNot .u8 (b.toNat:Int) 1=((bP b 0 false).toNat:Int):=bB b 0 ar;have Y:bits .or .u8 ((bP b 0 false).toNat:Int) 1=((bP b 0 true).toNat:Int):=cv b 0 ar;have hmod:(m:Int) % 8=0:=hmod
      cases al
      all_goals
       go_wp2
       go_roundw
       case rel=>exact⟨k+1,by omega,by rw[HM.out];go_num,congrArg Value.bool (by rw[HA.out];cases cK b 0<;>rfl),by exact(hb.setCell (Nat.le_refl _) _).setCell (Nat.le_refl _) _,by rw[HN.out];exact HBT.out.set2 q HQ.out _ _⟩
       case measure=>simp[intOf];omega
    · have h1:(bits .and .u8 (b.toNat:Int) 2 != 0)=cK b 1:=cw b 1 ar
      have Y:bits .andNot .u8 (b.toNat:Int) 2=((bP b 1 false).toNat:Int):=bB b 1 ar;have Y:bits .or .u8 ((bP b 1 false).toNat:Int) 2=((bP b 1 true).toNat:Int):=cv b 1 ar;have hmod:(m:Int) % 8=1:=hmod
      cases al
      all_goals
       go_wp2
       go_roundw
       case rel=>exact⟨k+1,by omega,by rw[HM.out];go_num,congrArg Value.bool (by rw[HA.out];cases cK b 1<;>rfl),by exact(hb.setCell (Nat.le_refl _) _).setCell (Nat.le_refl _) _,by rw[HN.out];exact HBT.out.set2 q HQ.out _ _⟩
       case measure=>simp[intOf];omega
    · have h1:(bits .and .u8 (b.toNat:Int) 4 != 0)=cK b 2:=cw b 2 ar
      have Y:bits .andNot .u8 (b.toNat:Int) 4=((bP b 2 false).toNat:Int):=bB b 2 ar;have Y:bits .or .u8 ((bP b 2 false).toNat:Int) 4=((bP b 2 true).toNat:Int):=cv b 2 ar;have hmod:(m:Int) % 8=2:=hmod
      cases al
      all_goals
       go_wp2
       go_roundw
       case rel=>exact⟨k+1,by omega,by rw[HM.out];go_num,congrArg Value.bool (by rw[HA.out];cases cK b 2<;>rfl),by exact(hb.setCell (Nat.le_refl _) _).setCell (Nat.le_refl _) _,by rw[HN.out];exact HBT.out.set2 q HQ.out _ _⟩
       case measure=>simp[intOf];omega
    · have h1:(bits .and .u8 (b.toNat:Int) 8 != 0)=cK b 3:=cw b 3 ar
      have Y:bits .andNot .u8 (b.toNat:Int) 8=((bP b 3 false).toNat:Int):=bB b 3 ar;have Y:bits .or .u8 ((bP b 3 false).toNat:Int) 8=((bP b 3 true).toNat:Int):=cv b 3 ar;have hmod:(m:Int) % 8=3:=hmod
      cases al
      all_goals
       go_wp2
       go_roundw
       case rel=>exact⟨k+1,by omega,by rw[HM.out];go_num,congrArg Value.bool (by rw[HA.out];cases cK b 3<;>rfl),by exact(hb.setCell (Nat.le_refl _) _).setCell (Nat.le_refl _) _,by rw[HN.out];exact HBT.out.set2 q HQ.out _ _⟩
       case measure=>simp[intOf];omega
    · have h1:(bits .and .u8 (b.toNat:Int) 16 != 0)=cK b 4:=cw b 4 ar
      have Y:bits .andNot .u8 (b.toNat:Int) 16=((bP b 4 false).toNat:Int):=bB b 4 ar;have Y:bits .or .u8 ((bP b 4 false).toNat:Int) 16=((bP b 4 true).toNat:Int):=cv b 4 ar;have hmod:(m:Int) % 8=4:=hmod
      cases al
      all_goals
       go_wp2
       go_roundw
       case rel=>exact⟨k+1,by omega,by rw[HM.out];go_num,congrArg Value.bool (by rw[HA.out];cases cK b 4<;>rfl),by exact(hb.setCell (Nat.le_refl _) _).setCell (Nat.le_refl _) _,by rw[HN.out];exact HBT.out.set2 q HQ.out _ _⟩
       case measure=>simp[intOf];omega
    · have h1:(bits .and .u8 (b.toNat:Int) 32 != 0)=cK b 5:=cw b 5 ar
      have Y:bits .andNot .u8 (b.toNat:Int) 32=((bP b 5 false).toNat:Int):=bB b 5 ar;have Y:bits .or .u8 ((bP b 5 false).toNat:Int) 32=((bP b 5 true).toNat:Int):=cv b 5 ar;have hmod:(m:Int) % 8=5:=hmod
      cases al
      all_goals
       go_wp2
       go_roundw
       case rel=>exact⟨k+1,by omega,by rw[HM.out];go_num,congrArg Value.bool (by rw[HA.out];cases cK b 5<;>rfl),by exact(hb.setCell (Nat.le_refl _) _).setCell (Nat.le_refl _) _,by rw[HN.out];exact HBT.out.set2 q HQ.out _ _⟩
       case measure=>simp[intOf];omega
    · have h1:(bits .and .u8 (b.toNat:Int) 64 != 0)=cK b 6:=cw b 6 ar
      have Y:bits .andNot .u8 (b.toNat:Int) 64=((bP b 6 false).toNat:Int):=bB b 6 ar;have Y:bits .or .u8 ((bP b 6 false).toNat:Int) 64=((bP b 6 true).toNat:Int):=cv b 6 ar;have hmod:(m:Int) % 8=6:=hmod
      cases al
      all_goals
       go_wp2
       go_roundw
       case rel=>exact⟨k+1,by omega,by rw[HM.out];go_num,congrArg Value.bool (by rw[HA.out];cases cK b 6<;>rfl),by exact(hb.setCell (Nat.le_refl _) _).setCell (Nat.le_refl _) _,by rw[HN.out];exact HBT.out.set2 q HQ.out _ _⟩
       case measure=>simp[intOf];omega
    · have h1:(bits .and .u8 (b.toNat:Int) 128 != 0)=cK b 7:=cw b 7 ar
      have Y:bits .andNot .u8 (b.toNat:Int) 128=((bP b 7 false).toNat:Int):=bB b 7 ar;have Y:bits .or .u8 ((bP b 7 false).toNat:Int) 128=((bP b 7 true).toNat:Int):=cv b 7 ar;have hmod:(m:Int) % 8=7:=hmod
      cases al
      all_goals
       go_wp2
       go_roundw
       case rel=>exact⟨k+1,by omega,by rw[HM.out];go_num,congrArg Value.bool (by rw[HA.out];cases cK b 7<;>rfl),by exact(hb.setCell (Nat.le_refl _) _).setCell (Nat.le_refl _) _,by rw[HN.out];exact HBT.out.set2 q HQ.out _ _⟩
       case measure=>simp[intOf];omega
  · obtain rfl:k=c:=by omega
    have hcv:=mM wr w.heap.size cap s.size L hll.symm (fun j hj=>by
     obtain⟨h1,_⟩:=hB j hj
     rw[h1,el,List.getElem?_eq_getElem hj];rfl)
    have HL:=Lib.hid hL;have HAL:=Lib.hid hal
    have hgem:(a:Int)+(k:Int)≤(m:Int):=by omega
    clear hL hal hll hm hB
    go_wp2
    go_ret2
    exact⟨pk (by rw[HL.out]) HAL.out,hb⟩
theorem mb (s:ByteArray) (a c:Nat) (w:World) (hs:s.size≤3100) (hac:a+c≤8*s.size) :
 Calls Tryz.prog 243 #[.string s,.int .i64 a,.int .i64 c,.bool false] w fun e w'=>e=.returned (.tuple #[.string (bs (bO (bl s) a c false)),.bool (cq (bl s) a c false)])∧Below w.heap.size w w':=by
 have hconv:=Lib.run_convert_string_bytes (P:=Tryz.prog) w 9 126 5 s Tryz.underlying9 Tryz.underlying126 Tryz.underlying5;obtain⟨W1,hW1⟩:∃W1,W1=Lib.bytesWorld w 5 s:=⟨_,rfl⟩;obtain⟨cap,hcap⟩:∃c,c=grownCap w s.size 0 5:=⟨_,rfl⟩;rw[←hW1,←hcap] at hconv
 have hbelow:Below w.heap.size w W1:=by rw[hW1];exact eL _ _ _
 have hcell:BytesAt W1 w.heap.size (bl s):=by rw[hW1];exact lK w s
 clear hW1 hcap;have HB:=Lib.hid hbelow;have HC:=Lib.hid hcell;clear hbelow hcell
 go_enter Tryz.func243,Tryz.ntmps243
 go_wp2
 go_loopw [11,12] (fun al i wr=>∃k:Nat,k≤c∧i=.int .i64 ((a+k:Nat):Int)∧al=.bool (cq (bl s) a k false)∧Below w.heap.size w wr∧BytesAt wr w.heap.size (bO (bl s) a k false)) (fun _ i _=>a+c-(intOf i).toNat)
 case atStart=>exact⟨0,Nat.zero_le _,rfl,rfl,HB.out,HC.out⟩
 case round=>
  obtain⟨k,hk,rfl,rfl,hb,hB⟩:=hrel;clear hconv;obtain⟨al,hal⟩:∃b,b=cq (bl s) a k false:=⟨_,rfl⟩;obtain⟨L,hL⟩:∃L,L=bO (bl s) a k false:=⟨_,rfl⟩;obtain⟨m,hm⟩:∃m:Nat,m=a+k:=⟨_,rfl⟩;rw[←hal,←hm];rw[←hL] at hB
  have hll:L.length=s.size:=by rw[hL,dy,aN]
  by_cases hlt:k<c
  · obtain⟨q,hq⟩:∃q,q=m / 8:=⟨_,rfl⟩
    obtain⟨j,hj⟩:∃j,j=m % 8:=⟨_,rfl⟩
    have hj8:j<8:=by omega
    have hqs:q<s.size:=by omega
    have hdiv:(m:Int) / 8=(q:Int):=by omega
    have hmod:(m:Int) % 8=(j:Int):=by omega
    have hltm:(m:Int)<(a:Int)+(c:Int):=by omega
    have hm0:m<30000:=by omega
    have hq0:q<4000:=by omega
    obtain⟨hx,hfz⟩:=hB q (by rw[hll];exact hqs);obtain⟨b,hbv⟩:∃b,b=L.getD q 0:=⟨_,rfl⟩;rw[←hbv] at hx;unfold bm at hx
    have hbit:cK b j=gF (bl s) m:=by
     have h1:=ji (bl s) a k m false (by rw[aN];omega);rw[if_neg ab,←hL] at h1;rw[←h1,hbv,hq,hj];rfl
    have hnext:bO (bl s) a (k+1) false=L.set q (bP b j false):=by
     show putAt (bO (bl s) a k false) (a+k) false=_;rw[←hL,←hm,hbv,hq,hj];rfl
    have hall:cq (bl s) a (k+1) false=(al&&(cK b j != false)):=by
     show(cq (bl s) a k false&&(gF (bl s) (a+k) != false))=_;rw[←hal,←hm,hbit]
    have hbr:=hb.size;have HN:=Lib.hid hnext;have HA:=Lib.hid hall;have HBT:=Lib.hid hB;have HM:=Lib.hid hm;have HQ:Hid (q<L.length):=Lib.hid (by rw[hll];exact hqs);clear hnext hall hB hal hL hll hbv hbit hq hj hm
    have:j=0∨j=1∨j=2∨j=3∨j=4∨j=5∨j=6∨j=7:=by omega
    rcases this with rfl | rfl | rfl | rfl | rfl | rfl | rfl | rfl
    · have h1:(bits .and .u8 (b.toNat:Int) 1 != 0)=cK b 0:=cw b 0 ar
      have Y:bits .andNot .u8 (b.toNat:Int) 1=((bP b 0 false).toNat:Int):=bB b 0 ar;have Y:bits .or .u8 ((bP b 0 false).toNat:Int) 1=((bP b 0 true).toNat:Int):=cv b 0 ar;have hmod:(m:Int) % 8=0:=hmod
      cases al
      all_goals
       go_wp2
       go_roundw
       case rel=>exact⟨k+1,by omega,by rw[HM.out];go_num,congrArg Value.bool (by rw[HA.out];cases cK b 0<;>rfl),by exact hb.setCell (Nat.le_refl _) _,by rw[HN.out];exact HBT.out.set q HQ.out _⟩
       case measure=>simp[intOf];omega
    · have h1:(bits .and .u8 (b.toNat:Int) 2 != 0)=cK b 1:=cw b 1 ar
      have Y:bits .andNot .u8 (b.toNat:Int) 2=((bP b 1 false).toNat:Int):=bB b 1 ar;have Y:bits .or .u8 ((bP b 1 false).toNat:Int) 2=((bP b 1 true).toNat:Int):=cv b 1 ar;have hmod:(m:Int) % 8=1:=hmod
      cases al
      all_goals
       go_wp2
       go_roundw
       case rel=>exact⟨k+1,by omega,by rw[HM.out];go_num,congrArg Value.bool (by rw[HA.out];cases cK b 1<;>rfl),by exact hb.setCell (Nat.le_refl _) _,by rw[HN.out];exact HBT.out.set q HQ.out _⟩
       case measure=>simp[intOf];omega
    · have h1:(bits .and .u8 (b.toNat:Int) 4 != 0)=cK b 2:=cw b 2 ar
      have Y:bits .andNot .u8 (b.toNat:Int) 4=((bP b 2 false).toNat:Int):=bB b 2 ar;have Y:bits .or .u8 ((bP b 2 false).toNat:Int) 4=((bP b 2 true).toNat:Int):=cv b 2 ar;have hmod:(m:Int) % 8=2:=hmod
      cases al
      all_goals
       go_wp2
       go_roundw
       case rel=>exact⟨k+1,by omega,by rw[HM.out];go_num,congrArg Value.bool (by rw[HA.out];cases cK b 2<;>rfl),by exact hb.setCell (Nat.le_refl _) _,by rw[HN.out];exact HBT.out.set q HQ.out _⟩
       case measure=>simp[intOf];omega
    · have h1:(bits .and .u8 (b.toNat:Int) 8 != 0)=cK b 3:=cw b 3 ar
      have Y:bits .andNot .u8 (b.toNat:Int) 8=((bP b 3 false).toNat:Int):=bB b 3 ar;have Y:bits .or .u8 ((bP b 3 false).toNat:Int) 8=((bP b 3 true).toNat:Int):=cv b 3 ar;have hmod:(m:Int) % 8=3:=hmod
      cases al
      all_goals
       go_wp2
       go_roundw
       case rel=>exact⟨k+1,by omega,by rw[HM.out];go_num,congrArg Value.bool (by rw[HA.out];cases cK b 3<;>rfl),by exact hb.setCell (Nat.le_refl _) _,by rw[HN.out];exact HBT.out.set q HQ.out _⟩
       case measure=>simp[intOf];omega
    · have h1:(bits .and .u8 (b.toNat:Int) 16 != 0)=cK b 4:=cw b 4 ar
      have Y:bits .andNot .u8 (b.toNat:Int) 16=((bP b 4 false).toNat:Int):=bB b 4 ar;have Y:bits .or .u8 ((bP b 4 false).toNat:Int) 16=((bP b 4 true).toNat:Int):=cv b 4 ar;have hmod:(m:Int) % 8=4:=hmod
      cases al
      all_goals
       go_wp2
       go_roundw
       case rel=>exact⟨k+1,by omega,by rw[HM.out];go_num,congrArg Value.bool (by rw[HA.out];cases cK b 4<;>rfl),by exact hb.setCell (Nat.le_refl _) _,by rw[HN.out];exact HBT.out.set q HQ.out _⟩
       case measure=>simp[intOf];omega
    · have h1:(bits .and .u8 (b.toNat:Int) 32 != 0)=cK b 5:=cw b 5 ar
      have Y:bits .andNot .u8 (b.toNat:Int) 32=((bP b 5 false).toNat:Int):=bB b 5 ar;have Y:bits .or .u8 ((bP b 5 false).toNat:Int) 32=((bP b 5 true).toNat:Int):=cv b 5 ar;have hmod:(m:Int) % 8=5:=hmod
      cases al
      all_goals
       go_wp2
       go_roundw
       case rel=>exact⟨k+1,by omega,by rw[HM.out];go_num,congrArg Value.bool (by rw[HA.out];cases cK b 5<;>rfl),by exact hb.setCell (Nat.le_refl _) _,by rw[HN.out];exact HBT.out.set q HQ.out _⟩
       case measure=>simp[intOf];omega
    · have h1:(bits .and .u8 (b.toNat:Int) 64 != 0)=cK b 6:=cw b 6 ar
      have Y:bits .andNot .u8 (b.toNat:Int) 64=((bP b 6 false).toNat:Int):=bB b 6 ar;have Y:bits .or .u8 ((bP b 6 false).toNat:Int) 64=((bP b 6 true).toNat:Int):=cv b 6 ar;have hmod:(m:Int) % 8=6:=hmod
      cases al
      all_goals
       go_wp2
       go_roundw
       case rel=>exact⟨k+1,by omega,by rw[HM.out];go_num,congrArg Value.bool (by rw[HA.out];cases cK b 6<;>rfl),by exact hb.setCell (Nat.le_refl _) _,by rw[HN.out];exact HBT.out.set q HQ.out _⟩
       case measure=>simp[intOf];omega
    · have h1:(bits .and .u8 (b.toNat:Int) 128 != 0)=cK b 7:=cw b 7 ar
      have Y:bits .andNot .u8 (b.toNat:Int) 128=((bP b 7 false).toNat:Int):=bB b 7 ar;have Y:bits .or .u8 ((bP b 7 false).toNat:Int) 128=((bP b 7 true).toNat:Int):=cv b 7 ar;have hmod:(m:Int) % 8=7:=hmod
      cases al
      all_goals
       go_wp2
       go_roundw
       case rel=>exact⟨k+1,by omega,by rw[HM.out];go_num,congrArg Value.bool (by rw[HA.out];cases cK b 7<;>rfl),by exact hb.setCell (Nat.le_refl _) _,by rw[HN.out];exact HBT.out.set q HQ.out _⟩
       case measure=>simp[intOf];omega
  · obtain rfl:k=c:=by omega
    have hcv:=mM wr w.heap.size cap s.size L hll.symm (fun j hj=>by
     obtain⟨h1,_⟩:=hB j hj
     rw[h1,el,List.getElem?_eq_getElem hj];rfl)
    have HL:=Lib.hid hL;have HAL:=Lib.hid hal
    have hgem:(a:Int)+(k:Int)≤(m:Int):=by omega
    clear hL hal hll hm hB
    go_wp2
    go_ret2
    exact⟨pk (by rw[HL.out]) HAL.out,hb⟩
open Go.RowKit Go.Sort
theorem jL {X:World} {b n:Nat} {T:TypeId} (es:List Int) (hl:es.length≤100) (hn:n=es.length) (hb:Box X b (es.map (.int .i64)).toArray T):Calls Tryz.prog 143 #[.slice (some ⟨b,0,none⟩) n n] X fun e w'=>e=.returned (.int .i64 (au es))∧X=w':=by
 subst hn;exact il b 0 es X hl (fun k hk=>by rw[Nat.zero_add,Box.cells hb k];simp[hk])
theorem ey {X:World} {b:Nat} {e1 e2:Int} {T:TypeId} (hb:Box X b #[.int .i64 e1,.int .i64 e2] T):Calls Tryz.prog 143 #[.slice (some ⟨b,0,none⟩) 2 2] X fun e w'=>e=.returned (.int .i64 (au [e1,e2]))∧X=w':=jL [e1,e2] a7 rfl hb
theorem ql {X:World} {b:Nat} {e1 e2 e3 e4 e5:Int} {T:TypeId} (hb:Box X b #[.int .i64 e1,.int .i64 e2,.int .i64 e3,.int .i64 e4,.int .i64 e5] T):Calls Tryz.prog 143 #[.slice (some ⟨b,0,none⟩) 5 5] X fun e w'=>e=.returned (.int .i64 (au [e1,e2,e3,e4,e5]))∧X=w':=jL [e1,e2,e3,e4,e5] a7 rfl hb
theorem dY (x:Op) (w:World) (ho:x.o.size≤3100) (hn:x.n.size≤3100) :
 Calls Tryz.prog 240 #[fL x] w fun e w'=>e=.returned (.string (x.o ++ x.n))∧Below w.heap.size w w':=by
 refine ao (N:=8) Tryz.func240 rfl rfl rfl (fun _ Y=>?_);have Z:=St.init w;refine ai (aq ?_);refine nb Y rfl rfl Z fun b1 _ _ Za Y Z=>?_;refine GO 9 ?_;intro _ Y;refine sv Y (zS (Y.ev rfl) (Y.ev rfl) ab) fun _ Y=>?_;refine GO 4 ?_;intro _ Y;refine aF Y rfl rfl ?_;exact⟨rfl,Z.below⟩
theorem pW (x:Op) (w:World) (ho:x.o.size≤3100) (hn:x.n.size≤3100) :
 Calls Tryz.prog 214 #[fL x] w fun r w'=>r=.returned (.int .i64 (bo (eF x) 2))∧Below w.heap.size w w':=by
 obtain⟨R,hR⟩:∃R,R=eF x:=⟨_,rfl⟩;rw[←hR];unfold eF at hR;have hsz:(x.o ++ x.n).size=x.o.size+x.n.size:=ByteArray.size_append;refine ao (N:=65) Tryz.func214 rfl rfl rfl (fun _ Y=>?_);have Z:=St.init w;refine ai (aq ?_);refine nb Y rfl rfl Z fun b1 _ _ Zs Y Z=>?_;refine GO 7 ?_;intro _ Y;refine cI Y rfl (aT _ _ _ _) fun _ Y=>?_;refine GO 5 ?_;intro _ Y;refine sv (v:=fL x) Y (ah aa aa (Y.ev rfl) (Z.cellsAll (i:=0) rfl)) fun _ Y=>?_;refine cT Y rfl Z (dY x _ ho hn) fun _ _ Y Z=>?_;refine sv Y (aC (v':=.int .i64 ((x.o.size:Int)+x.n.size)) (by rw[hsz];rfl) (jb Tryz.underlying9 (Y.ev rfl))) fun _ Y=>?_;refine GO 17 ?_;intro _ Y;refine ak (Y.ev rfl) (fun Zg=>?_) (fun Zg=>?_)
 ·
  rw[if_pos (by simpa using Zg)] at hR;refine GO 3 ?_;intro _ Y;apply aZ (x:=decide ((x.o.size:Int)≤512-x.a)) Y Z 16 rfl 8 24
  case ht=>
   intro Zd;refine GO 5 ?_;intro _ Y;refine sy Y (eo (Y.ev rfl) (Y.ev rfl) (by have:=inB_true.1 Zd;omega)) fun _ Y=>?_;refine GO 2 ?_;intro _ Y;exact ae ⟨Y.midE 7,Z⟩
  case hf=>
   intro Zd;refine GO 8 ?_;intro _ Y;exact ae ⟨Y.midE 7,Z⟩
  case h=>
   rintro a33 Zt ⟨Zu,Zl⟩
   refine GO 7 ?_;intro _ Y;refine cI Y rfl (aA _ _ _) fun _ Y=>?_;refine GO 4 ?_;intro _ Y;refine aF Y rfl rfl ?_;exact⟨by rw[hR],Zl.below⟩
 ·
  rw[if_neg (by simpa using Zg)] at hR;refine GO 6 ?_;intro _ Y;refine ak (Y.ev rfl) (fun Zh=>?_) (fun Zh=>?_)
  ·
   rw[if_pos (by simpa using Zh)] at hR;refine GO 3 ?_;intro _ Y;apply aZ (x:=bb x.e x.a (512-(x.o.size+x.n.size))) Y Z 28 rfl 8 36
   case ht=>
    intro Ze;refine GO 6 ?_;intro _ Y;refine bN Y (aj Y _ rfl rfl rfl Ze) (ax a8 (Y.evs rfl) rfl) rfl rfl (aT _ _ _ _) fun _ Y=>?_;refine GO 1 ?_;intro _ Y;exact ae ⟨Y.midE 7,Z⟩
   case hf=>
    intro Ze;refine GO 8 ?_;intro _ Y;exact ae ⟨Y.midE 7,Z⟩
   case h=>
    rintro a58 Zv ⟨Zw,Zm⟩
    refine GO 7 ?_;intro _ Y;refine cI Y rfl (aA _ _ _) fun _ Y=>?_;refine GO 4 ?_;intro _ Y;refine aF Y rfl rfl ?_;exact⟨by rw[hR],Zm.below⟩
  ·
   rw[if_neg (by simpa using Zh)] at hR;refine GO 6 ?_;intro _ Y;refine ak (Y.ev rfl) (fun Zi=>?_) (fun Zi=>?_)
   ·
    rw[if_pos (by simpa using Zi)] at hR;refine GO 3 ?_;intro _ Y;apply aZ (x:=bb x.e (x.a+(x.o.size+x.n.size)) 512) Y Z 40 rfl 8 48
    case ht=>
     intro Zb;refine GO 5 ?_;intro _ Y;refine sy Y (cJ (Y.ev rfl) (Y.ev rfl) (by have:=inB_true.1 Zb;omega)) fun _ Y=>?_;refine bN Y (aj Y _ rfl rfl rfl Zb) (ax a8 (Y.evs rfl) rfl) rfl rfl (aT _ _ _ _) fun _ Y=>?_;refine GO 1 ?_;intro _ Y;exact ae ⟨Y.midE 7,Z⟩
    case hf=>
     intro Zb;refine GO 8 ?_;intro _ Y;exact ae ⟨Y.midE 7,Z⟩
    case h=>
     rintro a83 Zx ⟨Zy,Zn⟩
     refine GO 7 ?_;intro _ Y;refine cI Y rfl (aA _ _ _) fun _ Y=>?_;refine GO 4 ?_;intro _ Y;refine aF Y rfl rfl ?_;exact⟨by rw[hR],Zn.below⟩
   ·
    rw[if_neg (by simpa using Zi)] at hR;refine GO 7 ?_;intro _ Y;refine ak (Y.ev rfl) (fun Zf=>?_) (fun Zf=>?_)
    ·
     rw[if_pos (.inl (by simpa using Zf))] at hR;refine wp_skip (ag ?_);refine ak (Y.ev rfl) (fun Zc=>?_) (fun Zc=>?_)
     ·
      refine GO 3 ?_;intro _ Y;refine cI Y rfl (aT _ _ _ _) fun _ Y=>?_;refine GO 1 ?_;intro _ Y;apply aZ (x:=bb x.c 1 (4096-x.a)) Y Z 55 rfl 7 62
      case ht=>
       intro Za;refine GO 4 ?_;intro _ Y;refine sy Y (eo (Y.ev rfl) (Y.ev rfl) (by have:=inB_true.1 Za;omega)) fun _ Y=>?_;refine bN Y (aj Y _ rfl rfl rfl Za) (ax a8 (Y.evs rfl) rfl) rfl rfl (aT _ _ _ _) fun _ Y=>?_;refine GO 1 ?_;intro _ Y;exact ae ⟨Y.midE 6,Z⟩
      case hf=>
       intro Za;refine GO 7 ?_;intro _ Y;exact ae ⟨Y.midE 6,Z⟩
      case h=>
       rintro a108 Zo ⟨Zp,Zj⟩
       refine GO 7 ?_;intro _ Y;refine cI Y rfl (aA _ _ _) fun _ Y=>?_;refine GO 4 ?_;intro _ Y;refine aF Y rfl rfl ?_;exact⟨by rw[hR],Zj.below⟩
     ·
      exact absurd (Zf.symm.trans Zc) ar
    ·
     refine GO 5 ?_;intro _ Y;refine ak (Y.ev rfl) (fun Zc=>?_) (fun Zc=>?_)
     ·
      rw[if_pos (.inr (by simpa using Zc))] at hR;refine GO 3 ?_;intro _ Y;refine cI Y rfl (aT _ _ _ _) fun _ Y=>?_;refine GO 1 ?_;intro _ Y;apply aZ (x:=bb x.c 1 (4096-x.a)) Y Z 55 rfl 7 62
      case ht=>
       intro Za;refine GO 4 ?_;intro _ Y;refine sy Y (eo (Y.ev rfl) (Y.ev rfl) (by have:=inB_true.1 Za;omega)) fun _ Y=>?_;refine bN Y (aj Y _ rfl rfl rfl Za) (ax a8 (Y.evs rfl) rfl) rfl rfl (aT _ _ _ _) fun _ Y=>?_;refine GO 1 ?_;intro _ Y;exact ae ⟨Y.midE 6,Z⟩
      case hf=>
       intro Za;refine GO 7 ?_;intro _ Y;exact ae ⟨Y.midE 6,Z⟩
      case h=>
       rintro a133 Zq ⟨Zr,Zk⟩
       refine GO 7 ?_;intro _ Y;refine cI Y rfl (aA _ _ _) fun _ Y=>?_;refine GO 4 ?_;intro _ Y;refine aF Y rfl rfl ?_;exact⟨by rw[hR],Zk.below⟩
     ·
      rw[if_neg (by intro h;rcases h with h | h;exact absurd h (by simpa using Zf);exact absurd h (by simpa using Zc))] at hR;refine GO 8 ?_;intro _ Y;refine cI Y rfl (aA _ _ _) fun _ Y=>?_;refine GO 4 ?_;intro _ Y;refine aF Y rfl rfl ?_;exact⟨by rw[hR],Z.below⟩
end Go.Proofs.YtcfdpfmchchkaaaGreatDoor
