/-
  Chapter 21: pages with bits that were put.
  Chapter 21: the errors of operations: moved, rangeErr.
-/
import Derived.Test.YtcfdpfmchchkaaaGreatDoorOpB
import Derived.Test.YtcfdpfmchchkaaaGreatDoorSplD
namespace Go.Proofs.YtcfdpfmchchkaaaGreatDoor
set_option maxRecDepth 100000
set_option maxHeartbeats 4000000
set_option linter.unusedVariables false
set_option linter.unusedSimpArgs false
open Go.RowKit Go.Sort
def BytesAt (w:World) (g:Nat) (l:List UInt8):Prop:=∀j,j<l.length→w.cell? ⟨g,j,none⟩=some (bA (l.getD j 0))∧w.frozen? ⟨g,j,none⟩=false
theorem lL (w:World) (s:ByteArray):BytesAt (Lib.bytesWorld w 5 s) w.heap.size (bl s):=fun j hj=>by
 rw[aW] at hj;refine⟨Lib.bytesWorld_cell _ _ _ _ hj,?_⟩;have h1:=Lib.bytesWorld_at_new w 5 s
 have Y:j<(Lib.bytesCells w 5 s).size:=by
  have Y:=Lib.bytesWorld_cell w 5 s j hj;rw[cell_of_row _ _ _ _ _ _ h1] at Y;exact(Array.getElem?_eq_some_iff.1 Y).1
 unfold World.frozen?;rw[h1];simp;omega
theorem BytesAt.set {w:World} {g:Nat} {l:List UInt8} (h:BytesAt w g l) (i:Nat) (hi:i<l.length) (b:UInt8):BytesAt (w.setCell ⟨g,i,none⟩ (bA b)) g (l.set i b):=by
 intro j hj;rw[List.length_set] at hj;obtain⟨h1,h2⟩:=h j hj;refine⟨?_,by rw[World.frozen?_setCell];exact h2⟩;by_cases e:i=j
 · subst e
   rw[World.cell?_setCell_same _ _ _ h1,ez,List.getElem?_set_self hi];rfl
 · rw[World.cell?_setCell_other _ _ _ _ (by intro h;injection h with _ h;exact e h),h1,ez,ez,List.getElem?_set_ne e]
theorem BytesAt.below {w w':World} {g:Nat} {l:List UInt8} (h:BytesAt w g l) (hg:g<w.heap.size) (hb:Below w.heap.size w w'):BytesAt w' g l:=fun j hj=>by
 obtain⟨h1,h2⟩:=h j hj;exact⟨(hb.cell (p:=⟨g,j,none⟩) hg).trans h1,(hb.frozen (p:=⟨g,j,none⟩) hg).trans h2⟩
theorem BytesAt.set2 {w:World} {g:Nat} {l:List UInt8} (h:BytesAt w g l) (i:Nat) (hi:i<l.length) (b b':UInt8):BytesAt ((w.setCell ⟨g,i,none⟩ (bA b)).setCell ⟨g,i,none⟩ (bA b')) g (l.set i b'):=by
 have h1:=(h.set i hi b).set i (by rw[List.length_set];exact hi) b';rw[List.set_set] at h1;exact h1
theorem oU {a b:ByteArray} {c d:Bool} (h:a=b) (h':c=d):Ending.returned (.tuple #[.string a,.bool c])=.returned (.tuple #[.string b,.bool d]):=by rw[h,h']
theorem cC (b:UInt8) (j:Nat) (hj:j<8):(bits .and .u8 (b.toNat:Int) ((2 ^ j:Nat):Int) != 0)=cQ b j:=by
 have all:∀n:Fin 256,∀j:Fin 8,(bits .and .u8 ((UInt8.ofNat n.val).toNat:Int) ((2 ^ j.val:Nat):Int) != 0)=cQ (UInt8.ofNat n.val) j.val:=by decide +kernel
 simpa using all ⟨b.toNat,b.toNat_lt⟩ ⟨j,hj⟩
theorem bI (b:UInt8) (j:Nat) (hj:j<8):bits .andNot .u8 (b.toNat:Int) ((2 ^ j:Nat):Int)=((bV b j false).toNat:Int):=by
 have all:∀n:Fin 256,∀j:Fin 8,bits .andNot .u8 ((UInt8.ofNat n.val).toNat:Int) ((2 ^ j.val:Nat):Int)=((bV (UInt8.ofNat n.val) j.val false).toNat:Int):=by decide +kernel
 simpa using all ⟨b.toNat,b.toNat_lt⟩ ⟨j,hj⟩
theorem cA (b:UInt8) (j:Nat) (hj:j<8):bits .or .u8 ((bV b j false).toNat:Int) ((2 ^ j:Nat):Int)=((bV b j true).toNat:Int):=by
 have all:∀n:Fin 256,∀j:Fin 8,bits .or .u8 ((bV (UInt8.ofNat n.val) j.val false).toNat:Int) ((2 ^ j.val:Nat):Int)=((bV (UInt8.ofNat n.val) j.val true).toNat:Int):=by decide +kernel
 simpa using all ⟨b.toNat,b.toNat_lt⟩ ⟨j,hj⟩
theorem nQ (s:ByteArray) (a c:Nat) (w:World) (hs:s.size≤3100) (hac:a+c≤8*s.size) :
 Calls Tryz.prog 243 #[.string s,.int .i64 a,.int .i64 c,.bool true] w fun e w'=>e=.returned (.tuple #[.string (bs (bS (bl s) a c true)),.bool (cy (bl s) a c true)])∧Below w.heap.size w w':=by
 have hconv:=Lib.run_convert_string_bytes (P:=Tryz.prog) w 9 126 5 s Tryz.underlying9 Tryz.underlying126 Tryz.underlying5;obtain⟨W1,hW1⟩:∃W1,W1=Lib.bytesWorld w 5 s:=⟨_,rfl⟩;obtain⟨cap,hcap⟩:∃c,c=grownCap w s.size 0 5:=⟨_,rfl⟩;rw[←hW1,←hcap] at hconv
 have hbelow:Below w.heap.size w W1:=by rw[hW1];exact eN _ _ _
 have hcell:BytesAt W1 w.heap.size (bl s):=by rw[hW1];exact lL w s
 clear hW1 hcap;have HB:=Lib.hid hbelow;have HC:=Lib.hid hcell;clear hbelow hcell
 go_enter Tryz.func243,Tryz.ntmps243
 go_wp2
 go_loopw [11,12] (fun al i wr=>∃k:Nat,k≤c∧i=.int .i64 ((a+k:Nat):Int)∧al=.bool (cy (bl s) a k true)∧Below w.heap.size w wr∧BytesAt wr w.heap.size (bS (bl s) a k true)) (fun _ i _=>a+c-(intOf i).toNat)
 case atStart=>exact⟨0,Nat.zero_le _,rfl,rfl,HB.out,HC.out⟩
 case round=>
  obtain⟨k,hk,rfl,rfl,hb,hB⟩:=hrel;clear hconv;obtain⟨al,hal⟩:∃b,b=cy (bl s) a k true:=⟨_,rfl⟩;obtain⟨L,hL⟩:∃L,L=bS (bl s) a k true:=⟨_,rfl⟩;obtain⟨m,hm⟩:∃m:Nat,m=a+k:=⟨_,rfl⟩;rw[←hal,←hm];rw[←hL] at hB
  have hll:L.length=s.size:=by rw[hL,dI,aW]
  by_cases hlt:k<c
  · obtain⟨q,hq⟩:∃q,q=m / 8:=⟨_,rfl⟩
    obtain⟨j,hj⟩:∃j,j=m % 8:=⟨_,rfl⟩
    have hj8:j<8:=by omega
    have hqs:q<s.size:=by omega
    have hdiv:(m:Int) / 8=(q:Int):=by omega
    have hmod:(m:Int) % 8=(j:Int):=by omega
    have hltm:(m:Int)<(a:Int)+(c:Int):=by omega
    have hm0:m<30000:=by omega
    have hq0:q<4000:=by omega
    obtain⟨hx,hfz⟩:=hB q (by rw[hll];exact hqs);obtain⟨b,hbv⟩:∃b,b=L.getD q 0:=⟨_,rfl⟩;rw[←hbv] at hx;unfold bA at hx
    have hbit:cQ b j=gC (bl s) m:=by
     have h1:=jw (bl s) a k m true (by rw[aW];omega);rw[if_neg ab,←hL] at h1;rw[←h1,hbv,hq,hj];rfl
    have hnext:bS (bl s) a (k+1) true=L.set q (bV b j true):=by
     show putAt (bS (bl s) a k true) (a+k) true=_;rw[←hL,←hm,hbv,hq,hj];rfl
    have hall:cy (bl s) a (k+1) true=(al&&(cQ b j != true)):=by
     show(cy (bl s) a k true&&(gC (bl s) (a+k) != true))=_;rw[←hal,←hm,hbit]
    have hbr:=hb.size;have HN:=Lib.hid hnext;have HA:=Lib.hid hall;have HBT:=Lib.hid hB;have HM:=Lib.hid hm;have HQ:Hid (q<L.length):=Lib.hid (by rw[hll];exact hqs);clear hnext hall hB hal hL hll hbv hbit hq hj hm
    have:j=0∨j=1∨j=2∨j=3∨j=4∨j=5∨j=6∨j=7:=by omega
    rcases this with rfl | rfl | rfl | rfl | rfl | rfl | rfl | rfl
    · have h1:(bits .and .u8 (b.toNat:Int) 1 != 0)=cQ b 0:=cC b 0 aq
      have Y:bits .andNot .u8 (b.toNat:Int) 1=((bV b 0 false).toNat:Int):=bI b 0 aq;have Y:bits .or .u8 ((bV b 0 false).toNat:Int) 1=((bV b 0 true).toNat:Int):=cA b 0 aq;have hmod:(m:Int) % 8=0:=hmod
      cases al
      all_goals
       go_wp2
       go_roundw
       case rel=>exact⟨k+1,by omega,by rw[HM.out];go_num,congrArg Value.bool (by rw[HA.out];cases cQ b 0<;>rfl),by exact(hb.setCell (Nat.le_refl _) _).setCell (Nat.le_refl _) _,by rw[HN.out];exact HBT.out.set2 q HQ.out _ _⟩
       case measure=>simp[intOf];omega
    · have h1:(bits .and .u8 (b.toNat:Int) 2 != 0)=cQ b 1:=cC b 1 aq
      have Y:bits .andNot .u8 (b.toNat:Int) 2=((bV b 1 false).toNat:Int):=bI b 1 aq;have Y:bits .or .u8 ((bV b 1 false).toNat:Int) 2=((bV b 1 true).toNat:Int):=cA b 1 aq;have hmod:(m:Int) % 8=1:=hmod
      cases al
      all_goals
       go_wp2
       go_roundw
       case rel=>exact⟨k+1,by omega,by rw[HM.out];go_num,congrArg Value.bool (by rw[HA.out];cases cQ b 1<;>rfl),by exact(hb.setCell (Nat.le_refl _) _).setCell (Nat.le_refl _) _,by rw[HN.out];exact HBT.out.set2 q HQ.out _ _⟩
       case measure=>simp[intOf];omega
    · have h1:(bits .and .u8 (b.toNat:Int) 4 != 0)=cQ b 2:=cC b 2 aq
      have Y:bits .andNot .u8 (b.toNat:Int) 4=((bV b 2 false).toNat:Int):=bI b 2 aq;have Y:bits .or .u8 ((bV b 2 false).toNat:Int) 4=((bV b 2 true).toNat:Int):=cA b 2 aq;have hmod:(m:Int) % 8=2:=hmod
      cases al
      all_goals
       go_wp2
       go_roundw
       case rel=>exact⟨k+1,by omega,by rw[HM.out];go_num,congrArg Value.bool (by rw[HA.out];cases cQ b 2<;>rfl),by exact(hb.setCell (Nat.le_refl _) _).setCell (Nat.le_refl _) _,by rw[HN.out];exact HBT.out.set2 q HQ.out _ _⟩
       case measure=>simp[intOf];omega
    · have h1:(bits .and .u8 (b.toNat:Int) 8 != 0)=cQ b 3:=cC b 3 aq
      have Y:bits .andNot .u8 (b.toNat:Int) 8=((bV b 3 false).toNat:Int):=bI b 3 aq;have Y:bits .or .u8 ((bV b 3 false).toNat:Int) 8=((bV b 3 true).toNat:Int):=cA b 3 aq;have hmod:(m:Int) % 8=3:=hmod
      cases al
      all_goals
       go_wp2
       go_roundw
       case rel=>exact⟨k+1,by omega,by rw[HM.out];go_num,congrArg Value.bool (by rw[HA.out];cases cQ b 3<;>rfl),by exact(hb.setCell (Nat.le_refl _) _).setCell (Nat.le_refl _) _,by rw[HN.out];exact HBT.out.set2 q HQ.out _ _⟩
       case measure=>simp[intOf];omega
    · have h1:(bits .and .u8 (b.toNat:Int) 16 != 0)=cQ b 4:=cC b 4 aq
      have Y:bits .andNot .u8 (b.toNat:Int) 16=((bV b 4 false).toNat:Int):=bI b 4 aq;have Y:bits .or .u8 ((bV b 4 false).toNat:Int) 16=((bV b 4 true).toNat:Int):=cA b 4 aq;have hmod:(m:Int) % 8=4:=hmod
      cases al
      all_goals
       go_wp2
       go_roundw
       case rel=>exact⟨k+1,by omega,by rw[HM.out];go_num,congrArg Value.bool (by rw[HA.out];cases cQ b 4<;>rfl),by exact(hb.setCell (Nat.le_refl _) _).setCell (Nat.le_refl _) _,by rw[HN.out];exact HBT.out.set2 q HQ.out _ _⟩
       case measure=>simp[intOf];omega
    · have h1:(bits .and .u8 (b.toNat:Int) 32 != 0)=cQ b 5:=cC b 5 aq
      have Y:bits .andNot .u8 (b.toNat:Int) 32=((bV b 5 false).toNat:Int):=bI b 5 aq;have Y:bits .or .u8 ((bV b 5 false).toNat:Int) 32=((bV b 5 true).toNat:Int):=cA b 5 aq;have hmod:(m:Int) % 8=5:=hmod
      cases al
      all_goals
       go_wp2
       go_roundw
       case rel=>exact⟨k+1,by omega,by rw[HM.out];go_num,congrArg Value.bool (by rw[HA.out];cases cQ b 5<;>rfl),by exact(hb.setCell (Nat.le_refl _) _).setCell (Nat.le_refl _) _,by rw[HN.out];exact HBT.out.set2 q HQ.out _ _⟩
       case measure=>simp[intOf];omega
    · have h1:(bits .and .u8 (b.toNat:Int) 64 != 0)=cQ b 6:=cC b 6 aq
      have Y:bits .andNot .u8 (b.toNat:Int) 64=((bV b 6 false).toNat:Int):=bI b 6 aq;have Y:bits .or .u8 ((bV b 6 false).toNat:Int) 64=((bV b 6 true).toNat:Int):=cA b 6 aq;have hmod:(m:Int) % 8=6:=hmod
      cases al
      all_goals
       go_wp2
       go_roundw
       case rel=>exact⟨k+1,by omega,by rw[HM.out];go_num,congrArg Value.bool (by rw[HA.out];cases cQ b 6<;>rfl),by exact(hb.setCell (Nat.le_refl _) _).setCell (Nat.le_refl _) _,by rw[HN.out];exact HBT.out.set2 q HQ.out _ _⟩
       case measure=>simp[intOf];omega
    · have h1:(bits .and .u8 (b.toNat:Int) 128 != 0)=cQ b 7:=cC b 7 aq
      have Y:bits .andNot .u8 (b.toNat:Int) 128=((bV b 7 false).toNat:Int):=bI b 7 aq;have Y:bits .or .u8 ((bV b 7 false).toNat:Int) 128=((bV b 7 true).toNat:Int):=cA b 7 aq;have hmod:(m:Int) % 8=7:=hmod
      cases al
      all_goals
       go_wp2
       go_roundw
       case rel=>exact⟨k+1,by omega,by rw[HM.out];go_num,congrArg Value.bool (by rw[HA.out];cases cQ b 7<;>rfl),by exact(hb.setCell (Nat.le_refl _) _).setCell (Nat.le_refl _) _,by rw[HN.out];exact HBT.out.set2 q HQ.out _ _⟩
       case measure=>simp[intOf];omega
  · obtain rfl:k=c:=by omega
    have hcv:=mO wr w.heap.size cap s.size L hll.symm (fun j hj=>by
     obtain⟨h1,_⟩:=hB j hj
     rw[h1,ez,List.getElem?_eq_getElem hj];rfl)
    have HL:=Lib.hid hL;have HAL:=Lib.hid hal
    have hgem:(a:Int)+(k:Int)≤(m:Int):=by omega
    clear hL hal hll hm hB
    go_wp2
    go_ret2
    exact⟨oU (by rw[HL.out]) HAL.out,hb⟩
theorem nK (s:ByteArray) (a c:Nat) (w:World) (hs:s.size≤3100) (hac:a+c≤8*s.size) :
 Calls Tryz.prog 243 #[.string s,.int .i64 a,.int .i64 c,.bool false] w fun e w'=>e=.returned (.tuple #[.string (bs (bS (bl s) a c false)),.bool (cy (bl s) a c false)])∧Below w.heap.size w w':=by
 have hconv:=Lib.run_convert_string_bytes (P:=Tryz.prog) w 9 126 5 s Tryz.underlying9 Tryz.underlying126 Tryz.underlying5;obtain⟨W1,hW1⟩:∃W1,W1=Lib.bytesWorld w 5 s:=⟨_,rfl⟩;obtain⟨cap,hcap⟩:∃c,c=grownCap w s.size 0 5:=⟨_,rfl⟩;rw[←hW1,←hcap] at hconv
 have hbelow:Below w.heap.size w W1:=by rw[hW1];exact eN _ _ _
 have hcell:BytesAt W1 w.heap.size (bl s):=by rw[hW1];exact lL w s
 clear hW1 hcap;have HB:=Lib.hid hbelow;have HC:=Lib.hid hcell;clear hbelow hcell
 go_enter Tryz.func243,Tryz.ntmps243
 go_wp2
 go_loopw [11,12] (fun al i wr=>∃k:Nat,k≤c∧i=.int .i64 ((a+k:Nat):Int)∧al=.bool (cy (bl s) a k false)∧Below w.heap.size w wr∧BytesAt wr w.heap.size (bS (bl s) a k false)) (fun _ i _=>a+c-(intOf i).toNat)
 case atStart=>exact⟨0,Nat.zero_le _,rfl,rfl,HB.out,HC.out⟩
 case round=>
  obtain⟨k,hk,rfl,rfl,hb,hB⟩:=hrel;clear hconv;obtain⟨al,hal⟩:∃b,b=cy (bl s) a k false:=⟨_,rfl⟩;obtain⟨L,hL⟩:∃L,L=bS (bl s) a k false:=⟨_,rfl⟩;obtain⟨m,hm⟩:∃m:Nat,m=a+k:=⟨_,rfl⟩;rw[←hal,←hm];rw[←hL] at hB
  have hll:L.length=s.size:=by rw[hL,dI,aW]
  by_cases hlt:k<c
  · obtain⟨q,hq⟩:∃q,q=m / 8:=⟨_,rfl⟩
    obtain⟨j,hj⟩:∃j,j=m % 8:=⟨_,rfl⟩
    have hj8:j<8:=by omega
    have hqs:q<s.size:=by omega
    have hdiv:(m:Int) / 8=(q:Int):=by omega
    have hmod:(m:Int) % 8=(j:Int):=by omega
    have hltm:(m:Int)<(a:Int)+(c:Int):=by omega
    have hm0:m<30000:=by omega
    have hq0:q<4000:=by omega
    obtain⟨hx,hfz⟩:=hB q (by rw[hll];exact hqs);obtain⟨b,hbv⟩:∃b,b=L.getD q 0:=⟨_,rfl⟩;rw[←hbv] at hx;unfold bA at hx
    have hbit:cQ b j=gC (bl s) m:=by
     have h1:=jw (bl s) a k m false (by rw[aW];omega);rw[if_neg ab,←hL] at h1;rw[←h1,hbv,hq,hj];rfl
    have hnext:bS (bl s) a (k+1) false=L.set q (bV b j false):=by
     show putAt (bS (bl s) a k false) (a+k) false=_;rw[←hL,←hm,hbv,hq,hj];rfl
    have hall:cy (bl s) a (k+1) false=(al&&(cQ b j != false)):=by
     show(cy (bl s) a k false&&(gC (bl s) (a+k) != false))=_;rw[←hal,←hm,hbit]
    have hbr:=hb.size;have HN:=Lib.hid hnext;have HA:=Lib.hid hall;have HBT:=Lib.hid hB;have HM:=Lib.hid hm;have HQ:Hid (q<L.length):=Lib.hid (by rw[hll];exact hqs);clear hnext hall hB hal hL hll hbv hbit hq hj hm
    have:j=0∨j=1∨j=2∨j=3∨j=4∨j=5∨j=6∨j=7:=by omega
    rcases this with rfl | rfl | rfl | rfl | rfl | rfl | rfl | rfl
    · have h1:(bits .and .u8 (b.toNat:Int) 1 != 0)=cQ b 0:=cC b 0 aq
      have Y:bits .andNot .u8 (b.toNat:Int) 1=((bV b 0 false).toNat:Int):=bI b 0 aq;have Y:bits .or .u8 ((bV b 0 false).toNat:Int) 1=((bV b 0 true).toNat:Int):=cA b 0 aq;have hmod:(m:Int) % 8=0:=hmod
      cases al
      all_goals
       go_wp2
       go_roundw
       case rel=>exact⟨k+1,by omega,by rw[HM.out];go_num,congrArg Value.bool (by rw[HA.out];cases cQ b 0<;>rfl),by exact hb.setCell (Nat.le_refl _) _,by rw[HN.out];exact HBT.out.set q HQ.out _⟩
       case measure=>simp[intOf];omega
    · have h1:(bits .and .u8 (b.toNat:Int) 2 != 0)=cQ b 1:=cC b 1 aq
      have Y:bits .andNot .u8 (b.toNat:Int) 2=((bV b 1 false).toNat:Int):=bI b 1 aq;have Y:bits .or .u8 ((bV b 1 false).toNat:Int) 2=((bV b 1 true).toNat:Int):=cA b 1 aq;have hmod:(m:Int) % 8=1:=hmod
      cases al
      all_goals
       go_wp2
       go_roundw
       case rel=>exact⟨k+1,by omega,by rw[HM.out];go_num,congrArg Value.bool (by rw[HA.out];cases cQ b 1<;>rfl),by exact hb.setCell (Nat.le_refl _) _,by rw[HN.out];exact HBT.out.set q HQ.out _⟩
       case measure=>simp[intOf];omega
    · have h1:(bits .and .u8 (b.toNat:Int) 4 != 0)=cQ b 2:=cC b 2 aq
      have Y:bits .andNot .u8 (b.toNat:Int) 4=((bV b 2 false).toNat:Int):=bI b 2 aq;have Y:bits .or .u8 ((bV b 2 false).toNat:Int) 4=((bV b 2 true).toNat:Int):=cA b 2 aq;have hmod:(m:Int) % 8=2:=hmod
      cases al
      all_goals
       go_wp2
       go_roundw
       case rel=>exact⟨k+1,by omega,by rw[HM.out];go_num,congrArg Value.bool (by rw[HA.out];cases cQ b 2<;>rfl),by exact hb.setCell (Nat.le_refl _) _,by rw[HN.out];exact HBT.out.set q HQ.out _⟩
       case measure=>simp[intOf];omega
    · have h1:(bits .and .u8 (b.toNat:Int) 8 != 0)=cQ b 3:=cC b 3 aq
      have Y:bits .andNot .u8 (b.toNat:Int) 8=((bV b 3 false).toNat:Int):=bI b 3 aq;have Y:bits .or .u8 ((bV b 3 false).toNat:Int) 8=((bV b 3 true).toNat:Int):=cA b 3 aq;have hmod:(m:Int) % 8=3:=hmod
      cases al
      all_goals
       go_wp2
       go_roundw
       case rel=>exact⟨k+1,by omega,by rw[HM.out];go_num,congrArg Value.bool (by rw[HA.out];cases cQ b 3<;>rfl),by exact hb.setCell (Nat.le_refl _) _,by rw[HN.out];exact HBT.out.set q HQ.out _⟩
       case measure=>simp[intOf];omega
    · have h1:(bits .and .u8 (b.toNat:Int) 16 != 0)=cQ b 4:=cC b 4 aq
      have Y:bits .andNot .u8 (b.toNat:Int) 16=((bV b 4 false).toNat:Int):=bI b 4 aq;have Y:bits .or .u8 ((bV b 4 false).toNat:Int) 16=((bV b 4 true).toNat:Int):=cA b 4 aq;have hmod:(m:Int) % 8=4:=hmod
      cases al
      all_goals
       go_wp2
       go_roundw
       case rel=>exact⟨k+1,by omega,by rw[HM.out];go_num,congrArg Value.bool (by rw[HA.out];cases cQ b 4<;>rfl),by exact hb.setCell (Nat.le_refl _) _,by rw[HN.out];exact HBT.out.set q HQ.out _⟩
       case measure=>simp[intOf];omega
    · have h1:(bits .and .u8 (b.toNat:Int) 32 != 0)=cQ b 5:=cC b 5 aq
      have Y:bits .andNot .u8 (b.toNat:Int) 32=((bV b 5 false).toNat:Int):=bI b 5 aq;have Y:bits .or .u8 ((bV b 5 false).toNat:Int) 32=((bV b 5 true).toNat:Int):=cA b 5 aq;have hmod:(m:Int) % 8=5:=hmod
      cases al
      all_goals
       go_wp2
       go_roundw
       case rel=>exact⟨k+1,by omega,by rw[HM.out];go_num,congrArg Value.bool (by rw[HA.out];cases cQ b 5<;>rfl),by exact hb.setCell (Nat.le_refl _) _,by rw[HN.out];exact HBT.out.set q HQ.out _⟩
       case measure=>simp[intOf];omega
    · have h1:(bits .and .u8 (b.toNat:Int) 64 != 0)=cQ b 6:=cC b 6 aq
      have Y:bits .andNot .u8 (b.toNat:Int) 64=((bV b 6 false).toNat:Int):=bI b 6 aq;have Y:bits .or .u8 ((bV b 6 false).toNat:Int) 64=((bV b 6 true).toNat:Int):=cA b 6 aq;have hmod:(m:Int) % 8=6:=hmod
      cases al
      all_goals
       go_wp2
       go_roundw
       case rel=>exact⟨k+1,by omega,by rw[HM.out];go_num,congrArg Value.bool (by rw[HA.out];cases cQ b 6<;>rfl),by exact hb.setCell (Nat.le_refl _) _,by rw[HN.out];exact HBT.out.set q HQ.out _⟩
       case measure=>simp[intOf];omega
    · have h1:(bits .and .u8 (b.toNat:Int) 128 != 0)=cQ b 7:=cC b 7 aq
      have Y:bits .andNot .u8 (b.toNat:Int) 128=((bV b 7 false).toNat:Int):=bI b 7 aq;have Y:bits .or .u8 ((bV b 7 false).toNat:Int) 128=((bV b 7 true).toNat:Int):=cA b 7 aq;have hmod:(m:Int) % 8=7:=hmod
      cases al
      all_goals
       go_wp2
       go_roundw
       case rel=>exact⟨k+1,by omega,by rw[HM.out];go_num,congrArg Value.bool (by rw[HA.out];cases cQ b 7<;>rfl),by exact hb.setCell (Nat.le_refl _) _,by rw[HN.out];exact HBT.out.set q HQ.out _⟩
       case measure=>simp[intOf];omega
  · obtain rfl:k=c:=by omega
    have hcv:=mO wr w.heap.size cap s.size L hll.symm (fun j hj=>by
     obtain⟨h1,_⟩:=hB j hj
     rw[h1,ez,List.getElem?_eq_getElem hj];rfl)
    have HL:=Lib.hid hL;have HAL:=Lib.hid hal
    have hgem:(a:Int)+(k:Int)≤(m:Int):=by omega
    clear hL hal hll hm hB
    go_wp2
    go_ret2
    exact⟨oU (by rw[HL.out]) HAL.out,hb⟩
open Go.RowKit Go.Sort Go.Shelf
theorem eU (x:Op) (w:World) (ho:x.o.size≤3100) (hn:x.n.size≤3100) :
 Calls Tryz.prog 240 #[gA x] w fun e w'=>e=.returned (.string (x.o ++ x.n))∧Below w.heap.size w w':=by
 refine ao (N:=8) Tryz.func240 rfl rfl rfl (fun _ Y=>?_);have Z:=St.init w;refine ak (av ?_);refine nb Y rfl rfl Z fun b1 _ _ Za Y Z=>?_;refine GO 9 ?_;intro _ Y;refine sv Y (A0 (Y.ev rfl) (Y.ev rfl) ab) fun _ Y=>?_;refine GO 4 ?_;intro _ Y;refine aP Y rfl rfl ?_;exact⟨rfl,Z.below⟩
end Go.Proofs.YtcfdpfmchchkaaaGreatDoor
