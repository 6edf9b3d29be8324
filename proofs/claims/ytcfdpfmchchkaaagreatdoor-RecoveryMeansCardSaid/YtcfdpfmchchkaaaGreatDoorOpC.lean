/-
  Chapter 21: pages with bits that were put.
  Chapter 21: the errors of operations: moved, rangeErr, kinds, CheckOp; formErr, bytesErr, OpErr.
-/
import Derived.Test.YtcfdpfmchchkaaaGreatDoorOpB
namespace Go.Proofs.YtcfdpfmchchkaaaGreatDoor
set_option linter.unusedVariables false
set_option linter.unusedSimpArgs false
open Go.RowKit Go.Sort
def BytesAt (w:World) (g:Nat) (l:List UInt8):Prop:=∀j,j<l.length→w.cell? ⟨g,j,none⟩=some (bK (l.getD j 0))∧w.frozen? ⟨g,j,none⟩=false
theorem gg (w:World) (s:ByteArray):BytesAt (Lib.bytesWorld w 5 s) w.heap.size (bl s):=fun j hj=>by
 rw[ba] at hj;refine⟨Lib.bytesWorld_cell _ _ _ _ hj,?_⟩;have h1:=Lib.bytesWorld_at_new w 5 s
 have h2:j<(Lib.bytesCells w 5 s).size:=by
  have h3:=Lib.bytesWorld_cell w 5 s j hj;rw[cell_of_row _ _ _ _ _ _ h1] at h3;exact(Array.getElem?_eq_some_iff.1 h3).1
 unfold World.frozen?;rw[h1];simp;omega
theorem BytesAt.set {w:World} {g:Nat} {l:List UInt8} (h:BytesAt w g l) (i:Nat) (hi:i<l.length) (b:UInt8):BytesAt (w.setCell ⟨g,i,none⟩ (bK b)) g (l.set i b):=by
 intro j hj;rw[List.length_set] at hj;obtain⟨h1,h2⟩:=h j hj;refine⟨?_,by rw[World.frozen?_setCell];exact h2⟩;by_cases e:i=j
 · subst e
   rw[World.cell?_setCell_same _ _ _ h1,db,List.getElem?_set_self hi];rfl
 · rw[World.cell?_setCell_other _ _ _ _ (by intro h;injection h with _ h;exact e h),h1,db,db,List.getElem?_set_ne e]
theorem BytesAt.below {w w':World} {g:Nat} {l:List UInt8} (h:BytesAt w g l) (hg:g<w.heap.size) (hb:Below w.heap.size w w'):BytesAt w' g l:=fun j hj=>by
 obtain⟨h1,h2⟩:=h j hj;exact⟨(hb.cell (p:=⟨g,j,none⟩) hg).trans h1,(hb.frozen (p:=⟨g,j,none⟩) hg).trans h2⟩
theorem BytesAt.set2 {w:World} {g:Nat} {l:List UInt8} (h:BytesAt w g l) (i:Nat) (hi:i<l.length) (b b':UInt8):BytesAt ((w.setCell ⟨g,i,none⟩ (bK b)).setCell ⟨g,i,none⟩ (bK b')) g (l.set i b'):=by
 have Y:=(h.set i hi b).set i (by rw[List.length_set];exact hi) b';rw[List.set_set] at Y;exact Y
theorem nD {a b:ByteArray} {c d:Bool} (h:a=b) (h':c=d):Ending.returned (.tuple #[.string a,.bool c])=.returned (.tuple #[.string b,.bool d]):=by rw[h,h']
theorem cJ (b:UInt8) (j:Nat) (hj:j<8):(bits .and .u8 (b.toNat:Int) ((2 ^ j:Nat):Int) != 0)=cx b j:=by
 have all:∀n:Fin 256,∀j:Fin 8,(bits .and .u8 ((UInt8.ofNat n.val).toNat:Int) ((2 ^ j.val:Nat):Int) != 0)=cx (UInt8.ofNat n.val) j.val:=by decide +kernel
 simpa using all ⟨b.toNat,b.toNat_lt⟩ ⟨j,hj⟩
theorem bY (b:UInt8) (j:Nat) (hj:j<8):bits .andNot .u8 (b.toNat:Int) ((2 ^ j:Nat):Int)=((bZ b j false).toNat:Int):=by
 have all:∀n:Fin 256,∀j:Fin 8,bits .andNot .u8 ((UInt8.ofNat n.val).toNat:Int) ((2 ^ j.val:Nat):Int)=((bZ (UInt8.ofNat n.val) j.val false).toNat:Int):=by decide +kernel
 simpa using all ⟨b.toNat,b.toNat_lt⟩ ⟨j,hj⟩
theorem cI (b:UInt8) (j:Nat) (hj:j<8):bits .or .u8 ((bZ b j false).toNat:Int) ((2 ^ j:Nat):Int)=((bZ b j true).toNat:Int):=by
 have all:∀n:Fin 256,∀j:Fin 8,bits .or .u8 ((bZ (UInt8.ofNat n.val) j.val false).toNat:Int) ((2 ^ j.val:Nat):Int)=((bZ (UInt8.ofNat n.val) j.val true).toNat:Int):=by decide +kernel
 simpa using all ⟨b.toNat,b.toNat_lt⟩ ⟨j,hj⟩
set_option maxRecDepth 100000 in
set_option maxHeartbeats 4000000 in
theorem np (s:ByteArray) (a c:Nat) (w:World) (hs:s.size≤3100) (hac:a+c≤8*s.size) :
 Calls Tryz.prog 243 #[.string s,.int .i64 a,.int .i64 c,.bool true] w fun e w'=>e=.returned (.tuple #[.string (bs (bJ (bl s) a c true)),.bool (bN (bl s) a c true)])∧Below w.heap.size w w':=by
 have hconv:=Lib.run_convert_string_bytes (P:=Tryz.prog) w 9 126 5 s Tryz.underlying9 Tryz.underlying126 Tryz.underlying5;obtain⟨W1,hW1⟩:∃W1,W1=Lib.bytesWorld w 5 s:=⟨_,rfl⟩;obtain⟨cap,hcap⟩:∃c,c=grownCap w s.size 0 5:=⟨_,rfl⟩;rw[←hW1,←hcap] at hconv
 have hbelow:Below w.heap.size w W1:=by rw[hW1];exact du _ _ _
 have hcell:BytesAt W1 w.heap.size (bl s):=by rw[hW1];exact gg w s
 clear hW1 hcap;have HB:=Lib.hid hbelow;have HC:=Lib.hid hcell;clear hbelow hcell
 go_enter Tryz.func243,Tryz.ntmps243
 go_wp2
 go_loopw [11,12] (fun al i wr=>∃k:Nat,k≤c∧i=.int .i64 ((a+k:Nat):Int)∧al=.bool (bN (bl s) a k true)∧Below w.heap.size w wr∧BytesAt wr w.heap.size (bJ (bl s) a k true)) (fun _ i _=>a+c-(intOf i).toNat)
 case atStart=>exact⟨0,Nat.zero_le _,rfl,rfl,HB.out,HC.out⟩
 case round=>
  obtain⟨k,hk,rfl,rfl,hb,hB⟩:=hrel;clear hconv;obtain⟨al,hal⟩:∃b,b=bN (bl s) a k true:=⟨_,rfl⟩;obtain⟨L,hL⟩:∃L,L=bJ (bl s) a k true:=⟨_,rfl⟩;obtain⟨m,hm⟩:∃m:Nat,m=a+k:=⟨_,rfl⟩;rw[←hal,←hm];rw[←hL] at hB
  have hll:L.length=s.size:=by rw[hL,cV,ba]
  by_cases hlt:k<c
  · obtain⟨q,hq⟩:∃q,q=m / 8:=⟨_,rfl⟩
    obtain⟨j,hj⟩:∃j,j=m % 8:=⟨_,rfl⟩
    have hj8:j<8:=by omega
    have hqs:q<s.size:=by omega
    have hdiv:(m:Int) / 8=(q:Int):=by omega
    have hmod:(m:Int) % 8=(j:Int):=by omega
    have hltm:(m:Int)<(a:Int)+(c:Int):=by omega
    have hm0:m<30000:=by omega
    have hq0:q<4000:=by omega
    obtain⟨hx,hfz⟩:=hB q (by rw[hll];exact hqs);obtain⟨b,hbv⟩:∃b,b=L.getD q 0:=⟨_,rfl⟩;rw[←hbv] at hx;unfold bK at hx
    have hbit:cx b j=dK (bl s) m:=by
     have h1:=ji (bl s) a k m true (by rw[ba];omega);rw[if_neg (by omega),←hL] at h1;rw[←h1,hbv,hq,hj];rfl
    have hnext:bJ (bl s) a (k+1) true=L.set q (bZ b j true):=by
     show putAt (bJ (bl s) a k true) (a+k) true=_;rw[←hL,←hm,hbv,hq,hj];rfl
    have hall:bN (bl s) a (k+1) true=(al&&(cx b j != true)):=by
     show(bN (bl s) a k true&&(dK (bl s) (a+k) != true))=_;rw[←hal,←hm,hbit]
    have hbr:=hb.size;have HN:=Lib.hid hnext;have HA:=Lib.hid hall;have HBT:=Lib.hid hB;have HM:=Lib.hid hm;have HQ:Hid (q<L.length):=Lib.hid (by rw[hll];exact hqs);clear hnext hall hB hal hL hll hbv hbit hq hj hm
    have:j=0∨j=1∨j=2∨j=3∨j=4∨j=5∨j=6∨j=7:=by omega
    rcases this with rfl | rfl | rfl | rfl | rfl | rfl | rfl | rfl
    · have h1:(bits .and .u8 (b.toNat:Int) 1 != 0)=cx b 0:=cJ b 0 (by decide)
      have h2:bits .andNot .u8 (b.toNat:Int) 1=((bZ b 0 false).toNat:Int):=bY b 0 (by decide);have h3:bits .or .u8 ((bZ b 0 false).toNat:Int) 1=((bZ b 0 true).toNat:Int):=cI b 0 (by decide);have hmod:(m:Int) % 8=0:=hmod
      cases al
      all_goals
       go_wp2
       go_roundw
       case rel=>exact⟨k+1,by omega,by rw[HM.out];go_num,congrArg Value.bool (by rw[HA.out];cases cx b 0<;>rfl),by exact(hb.setCell (Nat.le_refl _) _).setCell (Nat.le_refl _) _,by rw[HN.out];exact HBT.out.set2 q HQ.out _ _⟩
       case measure=>simp[intOf];omega
    · have h1:(bits .and .u8 (b.toNat:Int) 2 != 0)=cx b 1:=cJ b 1 (by decide)
      have h2:bits .andNot .u8 (b.toNat:Int) 2=((bZ b 1 false).toNat:Int):=bY b 1 (by decide);have h3:bits .or .u8 ((bZ b 1 false).toNat:Int) 2=((bZ b 1 true).toNat:Int):=cI b 1 (by decide);have hmod:(m:Int) % 8=1:=hmod
      cases al
      all_goals
       go_wp2
       go_roundw
       case rel=>exact⟨k+1,by omega,by rw[HM.out];go_num,congrArg Value.bool (by rw[HA.out];cases cx b 1<;>rfl),by exact(hb.setCell (Nat.le_refl _) _).setCell (Nat.le_refl _) _,by rw[HN.out];exact HBT.out.set2 q HQ.out _ _⟩
       case measure=>simp[intOf];omega
    · have h1:(bits .and .u8 (b.toNat:Int) 4 != 0)=cx b 2:=cJ b 2 (by decide)
      have h2:bits .andNot .u8 (b.toNat:Int) 4=((bZ b 2 false).toNat:Int):=bY b 2 (by decide);have h3:bits .or .u8 ((bZ b 2 false).toNat:Int) 4=((bZ b 2 true).toNat:Int):=cI b 2 (by decide);have hmod:(m:Int) % 8=2:=hmod
      cases al
      all_goals
       go_wp2
       go_roundw
       case rel=>exact⟨k+1,by omega,by rw[HM.out];go_num,congrArg Value.bool (by rw[HA.out];cases cx b 2<;>rfl),by exact(hb.setCell (Nat.le_refl _) _).setCell (Nat.le_refl _) _,by rw[HN.out];exact HBT.out.set2 q HQ.out _ _⟩
       case measure=>simp[intOf];omega
    · have h1:(bits .and .u8 (b.toNat:Int) 8 != 0)=cx b 3:=cJ b 3 (by decide)
      have h2:bits .andNot .u8 (b.toNat:Int) 8=((bZ b 3 false).toNat:Int):=bY b 3 (by decide);have h3:bits .or .u8 ((bZ b 3 false).toNat:Int) 8=((bZ b 3 true).toNat:Int):=cI b 3 (by decide);have hmod:(m:Int) % 8=3:=hmod
      cases al
      all_goals
       go_wp2
       go_roundw
       case rel=>exact⟨k+1,by omega,by rw[HM.out];go_num,congrArg Value.bool (by rw[HA.out];cases cx b 3<;>rfl),by exact(hb.setCell (Nat.le_refl _) _).setCell (Nat.le_refl _) _,by rw[HN.out];exact HBT.out.set2 q HQ.out _ _⟩
       case measure=>simp[intOf];omega
    · have h1:(bits .and .u8 (b.toNat:Int) 16 != 0)=cx b 4:=cJ b 4 (by decide)
      have h2:bits .andNot .u8 (b.toNat:Int) 16=((bZ b 4 false).toNat:Int):=bY b 4 (by decide);have h3:bits .or .u8 ((bZ b 4 false).toNat:Int) 16=((bZ b 4 true).toNat:Int):=cI b 4 (by decide);have hmod:(m:Int) % 8=4:=hmod
      cases al
      all_goals
       go_wp2
       go_roundw
       case rel=>exact⟨k+1,by omega,by rw[HM.out];go_num,congrArg Value.bool (by rw[HA.out];cases cx b 4<;>rfl),by exact(hb.setCell (Nat.le_refl _) _).setCell (Nat.le_refl _) _,by rw[HN.out];exact HBT.out.set2 q HQ.out _ _⟩
       case measure=>simp[intOf];omega
    · have h1:(bits .and .u8 (b.toNat:Int) 32 != 0)=cx b 5:=cJ b 5 (by decide)
      have h2:bits .andNot .u8 (b.toNat:Int) 32=((bZ b 5 false).toNat:Int):=bY b 5 (by decide);have h3:bits .or .u8 ((bZ b 5 false).toNat:Int) 32=((bZ b 5 true).toNat:Int):=cI b 5 (by decide);have hmod:(m:Int) % 8=5:=hmod
      cases al
      all_goals
       go_wp2
       go_roundw
       case rel=>exact⟨k+1,by omega,by rw[HM.out];go_num,congrArg Value.bool (by rw[HA.out];cases cx b 5<;>rfl),by exact(hb.setCell (Nat.le_refl _) _).setCell (Nat.le_refl _) _,by rw[HN.out];exact HBT.out.set2 q HQ.out _ _⟩
       case measure=>simp[intOf];omega
    · have h1:(bits .and .u8 (b.toNat:Int) 64 != 0)=cx b 6:=cJ b 6 (by decide)
      have h2:bits .andNot .u8 (b.toNat:Int) 64=((bZ b 6 false).toNat:Int):=bY b 6 (by decide);have h3:bits .or .u8 ((bZ b 6 false).toNat:Int) 64=((bZ b 6 true).toNat:Int):=cI b 6 (by decide);have hmod:(m:Int) % 8=6:=hmod
      cases al
      all_goals
       go_wp2
       go_roundw
       case rel=>exact⟨k+1,by omega,by rw[HM.out];go_num,congrArg Value.bool (by rw[HA.out];cases cx b 6<;>rfl),by exact(hb.setCell (Nat.le_refl _) _).setCell (Nat.le_refl _) _,by rw[HN.out];exact HBT.out.set2 q HQ.out _ _⟩
       case measure=>simp[intOf];omega
    · have h1:(bits .and .u8 (b.toNat:Int) 128 != 0)=cx b 7:=cJ b 7 (by decide)
      have h2:bits .andNot .u8 (b.toNat:Int) 128=((bZ b 7 false).toNat:Int):=bY b 7 (by decide);have h3:bits .or .u8 ((bZ b 7 false).toNat:Int) 128=((bZ b 7 true).toNat:Int):=cI b 7 (by decide);have hmod:(m:Int) % 8=7:=hmod
      cases al
      all_goals
       go_wp2
       go_roundw
       case rel=>exact⟨k+1,by omega,by rw[HM.out];go_num,congrArg Value.bool (by rw[HA.out];cases cx b 7<;>rfl),by exact(hb.setCell (Nat.le_refl _) _).setCell (Nat.le_refl _) _,by rw[HN.out];exact HBT.out.set2 q HQ.out _ _⟩
       case measure=>simp[intOf];omega
  · obtain rfl:k=c:=by omega
    have hcv:=fB wr w.heap.size cap s.size L hll.symm (fun j hj=>by
     obtain⟨h1,_⟩:=hB j hj
     rw[h1,db,List.getElem?_eq_getElem hj];rfl)
    have HL:=Lib.hid hL;have HAL:=Lib.hid hal
    have hgem:(a:Int)+(k:Int)≤(m:Int):=by omega
    clear hL hal hll hm hB
    go_wp2
    go_ret2
    exact⟨nD (by rw[HL.out]) HAL.out,hb⟩
set_option maxRecDepth 100000 in
set_option maxHeartbeats 4000000 in
theorem mD (s:ByteArray) (a c:Nat) (w:World) (hs:s.size≤3100) (hac:a+c≤8*s.size) :
 Calls Tryz.prog 243 #[.string s,.int .i64 a,.int .i64 c,.bool false] w fun e w'=>e=.returned (.tuple #[.string (bs (bJ (bl s) a c false)),.bool (bN (bl s) a c false)])∧Below w.heap.size w w':=by
 have hconv:=Lib.run_convert_string_bytes (P:=Tryz.prog) w 9 126 5 s Tryz.underlying9 Tryz.underlying126 Tryz.underlying5;obtain⟨W1,hW1⟩:∃W1,W1=Lib.bytesWorld w 5 s:=⟨_,rfl⟩;obtain⟨cap,hcap⟩:∃c,c=grownCap w s.size 0 5:=⟨_,rfl⟩;rw[←hW1,←hcap] at hconv
 have hbelow:Below w.heap.size w W1:=by rw[hW1];exact du _ _ _
 have hcell:BytesAt W1 w.heap.size (bl s):=by rw[hW1];exact gg w s
 clear hW1 hcap;have HB:=Lib.hid hbelow;have HC:=Lib.hid hcell;clear hbelow hcell
 go_enter Tryz.func243,Tryz.ntmps243
 go_wp2
 go_loopw [11,12] (fun al i wr=>∃k:Nat,k≤c∧i=.int .i64 ((a+k:Nat):Int)∧al=.bool (bN (bl s) a k false)∧Below w.heap.size w wr∧BytesAt wr w.heap.size (bJ (bl s) a k false)) (fun _ i _=>a+c-(intOf i).toNat)
 case atStart=>exact⟨0,Nat.zero_le _,rfl,rfl,HB.out,HC.out⟩
 case round=>
  obtain⟨k,hk,rfl,rfl,hb,hB⟩:=hrel;clear hconv;obtain⟨al,hal⟩:∃b,b=bN (bl s) a k false:=⟨_,rfl⟩;obtain⟨L,hL⟩:∃L,L=bJ (bl s) a k false:=⟨_,rfl⟩;obtain⟨m,hm⟩:∃m:Nat,m=a+k:=⟨_,rfl⟩;rw[←hal,←hm];rw[←hL] at hB
  have hll:L.length=s.size:=by rw[hL,cV,ba]
  by_cases hlt:k<c
  · obtain⟨q,hq⟩:∃q,q=m / 8:=⟨_,rfl⟩
    obtain⟨j,hj⟩:∃j,j=m % 8:=⟨_,rfl⟩
    have hj8:j<8:=by omega
    have hqs:q<s.size:=by omega
    have hdiv:(m:Int) / 8=(q:Int):=by omega
    have hmod:(m:Int) % 8=(j:Int):=by omega
    have hltm:(m:Int)<(a:Int)+(c:Int):=by omega
    have hm0:m<30000:=by omega
    have hq0:q<4000:=by omega
    obtain⟨hx,hfz⟩:=hB q (by rw[hll];exact hqs);obtain⟨b,hbv⟩:∃b,b=L.getD q 0:=⟨_,rfl⟩;rw[←hbv] at hx;unfold bK at hx
    have hbit:cx b j=dK (bl s) m:=by
     have h1:=ji (bl s) a k m false (by rw[ba];omega);rw[if_neg (by omega),←hL] at h1;rw[←h1,hbv,hq,hj];rfl
    have hnext:bJ (bl s) a (k+1) false=L.set q (bZ b j false):=by
     show putAt (bJ (bl s) a k false) (a+k) false=_;rw[←hL,←hm,hbv,hq,hj];rfl
    have hall:bN (bl s) a (k+1) false=(al&&(cx b j != false)):=by
     show(bN (bl s) a k false&&(dK (bl s) (a+k) != false))=_;rw[←hal,←hm,hbit]
    have hbr:=hb.size;have HN:=Lib.hid hnext;have HA:=Lib.hid hall;have HBT:=Lib.hid hB;have HM:=Lib.hid hm;have HQ:Hid (q<L.length):=Lib.hid (by rw[hll];exact hqs);clear hnext hall hB hal hL hll hbv hbit hq hj hm
    have:j=0∨j=1∨j=2∨j=3∨j=4∨j=5∨j=6∨j=7:=by omega
    rcases this with rfl | rfl | rfl | rfl | rfl | rfl | rfl | rfl
    · have h1:(bits .and .u8 (b.toNat:Int) 1 != 0)=cx b 0:=cJ b 0 (by decide)
      have h2:bits .andNot .u8 (b.toNat:Int) 1=((bZ b 0 false).toNat:Int):=bY b 0 (by decide);have h3:bits .or .u8 ((bZ b 0 false).toNat:Int) 1=((bZ b 0 true).toNat:Int):=cI b 0 (by decide);have hmod:(m:Int) % 8=0:=hmod
      cases al
      all_goals
       go_wp2
       go_roundw
       case rel=>exact⟨k+1,by omega,by rw[HM.out];go_num,congrArg Value.bool (by rw[HA.out];cases cx b 0<;>rfl),by exact hb.setCell (Nat.le_refl _) _,by rw[HN.out];exact HBT.out.set q HQ.out _⟩
       case measure=>simp[intOf];omega
    · have h1:(bits .and .u8 (b.toNat:Int) 2 != 0)=cx b 1:=cJ b 1 (by decide)
      have h2:bits .andNot .u8 (b.toNat:Int) 2=((bZ b 1 false).toNat:Int):=bY b 1 (by decide);have h3:bits .or .u8 ((bZ b 1 false).toNat:Int) 2=((bZ b 1 true).toNat:Int):=cI b 1 (by decide);have hmod:(m:Int) % 8=1:=hmod
      cases al
      all_goals
       go_wp2
       go_roundw
       case rel=>exact⟨k+1,by omega,by rw[HM.out];go_num,congrArg Value.bool (by rw[HA.out];cases cx b 1<;>rfl),by exact hb.setCell (Nat.le_refl _) _,by rw[HN.out];exact HBT.out.set q HQ.out _⟩
       case measure=>simp[intOf];omega
    · have h1:(bits .and .u8 (b.toNat:Int) 4 != 0)=cx b 2:=cJ b 2 (by decide)
      have h2:bits .andNot .u8 (b.toNat:Int) 4=((bZ b 2 false).toNat:Int):=bY b 2 (by decide);have h3:bits .or .u8 ((bZ b 2 false).toNat:Int) 4=((bZ b 2 true).toNat:Int):=cI b 2 (by decide);have hmod:(m:Int) % 8=2:=hmod
      cases al
      all_goals
       go_wp2
       go_roundw
       case rel=>exact⟨k+1,by omega,by rw[HM.out];go_num,congrArg Value.bool (by rw[HA.out];cases cx b 2<;>rfl),by exact hb.setCell (Nat.le_refl _) _,by rw[HN.out];exact HBT.out.set q HQ.out _⟩
       case measure=>simp[intOf];omega
    · have h1:(bits .and .u8 (b.toNat:Int) 8 != 0)=cx b 3:=cJ b 3 (by decide)
      have h2:bits .andNot .u8 (b.toNat:Int) 8=((bZ b 3 false).toNat:Int):=bY b 3 (by decide);have h3:bits .or .u8 ((bZ b 3 false).toNat:Int) 8=((bZ b 3 true).toNat:Int):=cI b 3 (by decide);have hmod:(m:Int) % 8=3:=hmod
      cases al
      all_goals
       go_wp2
       go_roundw
       case rel=>exact⟨k+1,by omega,by rw[HM.out];go_num,congrArg Value.bool (by rw[HA.out];cases cx b 3<;>rfl),by exact hb.setCell (Nat.le_refl _) _,by rw[HN.out];exact HBT.out.set q HQ.out _⟩
       case measure=>simp[intOf];omega
    · have h1:(bits .and .u8 (b.toNat:Int) 16 != 0)=cx b 4:=cJ b 4 (by decide)
      have h2:bits .andNot .u8 (b.toNat:Int) 16=((bZ b 4 false).toNat:Int):=bY b 4 (by decide);have h3:bits .or .u8 ((bZ b 4 false).toNat:Int) 16=((bZ b 4 true).toNat:Int):=cI b 4 (by decide);have hmod:(m:Int) % 8=4:=hmod
      cases al
      all_goals
       go_wp2
       go_roundw
       case rel=>exact⟨k+1,by omega,by rw[HM.out];go_num,congrArg Value.bool (by rw[HA.out];cases cx b 4<;>rfl),by exact hb.setCell (Nat.le_refl _) _,by rw[HN.out];exact HBT.out.set q HQ.out _⟩
       case measure=>simp[intOf];omega
    · have h1:(bits .and .u8 (b.toNat:Int) 32 != 0)=cx b 5:=cJ b 5 (by decide)
      have h2:bits .andNot .u8 (b.toNat:Int) 32=((bZ b 5 false).toNat:Int):=bY b 5 (by decide);have h3:bits .or .u8 ((bZ b 5 false).toNat:Int) 32=((bZ b 5 true).toNat:Int):=cI b 5 (by decide);have hmod:(m:Int) % 8=5:=hmod
      cases al
      all_goals
       go_wp2
       go_roundw
       case rel=>exact⟨k+1,by omega,by rw[HM.out];go_num,congrArg Value.bool (by rw[HA.out];cases cx b 5<;>rfl),by exact hb.setCell (Nat.le_refl _) _,by rw[HN.out];exact HBT.out.set q HQ.out _⟩
       case measure=>simp[intOf];omega
    · have h1:(bits .and .u8 (b.toNat:Int) 64 != 0)=cx b 6:=cJ b 6 (by decide)
      have h2:bits .andNot .u8 (b.toNat:Int) 64=((bZ b 6 false).toNat:Int):=bY b 6 (by decide);have h3:bits .or .u8 ((bZ b 6 false).toNat:Int) 64=((bZ b 6 true).toNat:Int):=cI b 6 (by decide);have hmod:(m:Int) % 8=6:=hmod
      cases al
      all_goals
       go_wp2
       go_roundw
       case rel=>exact⟨k+1,by omega,by rw[HM.out];go_num,congrArg Value.bool (by rw[HA.out];cases cx b 6<;>rfl),by exact hb.setCell (Nat.le_refl _) _,by rw[HN.out];exact HBT.out.set q HQ.out _⟩
       case measure=>simp[intOf];omega
    · have h1:(bits .and .u8 (b.toNat:Int) 128 != 0)=cx b 7:=cJ b 7 (by decide)
      have h2:bits .andNot .u8 (b.toNat:Int) 128=((bZ b 7 false).toNat:Int):=bY b 7 (by decide);have h3:bits .or .u8 ((bZ b 7 false).toNat:Int) 128=((bZ b 7 true).toNat:Int):=cI b 7 (by decide);have hmod:(m:Int) % 8=7:=hmod
      cases al
      all_goals
       go_wp2
       go_roundw
       case rel=>exact⟨k+1,by omega,by rw[HM.out];go_num,congrArg Value.bool (by rw[HA.out];cases cx b 7<;>rfl),by exact hb.setCell (Nat.le_refl _) _,by rw[HN.out];exact HBT.out.set q HQ.out _⟩
       case measure=>simp[intOf];omega
  · obtain rfl:k=c:=by omega
    have hcv:=fB wr w.heap.size cap s.size L hll.symm (fun j hj=>by
     obtain⟨h1,_⟩:=hB j hj
     rw[h1,db,List.getElem?_eq_getElem hj];rfl)
    have HL:=Lib.hid hL;have HAL:=Lib.hid hal
    have hgem:(a:Int)+(k:Int)≤(m:Int):=by omega
    clear hL hal hll hm hB
    go_wp2
    go_ret2
    exact⟨nD (by rw[HL.out]) HAL.out,hb⟩
theorem tm (b:UInt8) (j:Nat) (hj:j<8) (v x:Bool) (hx:cx b j=x):((b.toNat:Int)+((if v then 1 else 0)-(if x then 1 else 0))*((2 ^ j:Nat):Int)) % 256=((bZ b j v).toNat:Int):=by
 have all:∀n:Fin 256,∀j:Fin 8,∀v:Bool,(((UInt8.ofNat n.val).toNat:Int)+((if v then 1 else 0)-(if cx (UInt8.ofNat n.val) j.val then 1 else 0))*((2 ^ j.val:Nat):Int)) % 256=((bZ (UInt8.ofNat n.val) j.val v).toNat:Int):=by decide +kernel
 subst hx
 simpa using all ⟨b.toNat,b.toNat_lt⟩ ⟨j,hj⟩ v
set_option maxRecDepth 100000 in
set_option maxHeartbeats 4000000 in
theorem mV (s:ByteArray) (a c:Nat) (w:World) (hs:s.size≤3100) (hac:a+c≤8*s.size) :
 Calls Tryz.prog 210 #[.string s,.int .i64 a,.int .i64 c,.int .i64 1] w fun e w'=>e=.returned (.string (bs (bJ (bl s) a c true)))∧Below w.heap.size w w':=by
 have hconv:=Lib.run_convert_string_bytes (P:=Tryz.prog) w 9 126 5 s Tryz.underlying9 Tryz.underlying126 Tryz.underlying5;obtain⟨W1,hW1⟩:∃W1,W1=Lib.bytesWorld w 5 s:=⟨_,rfl⟩;obtain⟨cap,hcap⟩:∃c,c=grownCap w s.size 0 5:=⟨_,rfl⟩;rw[←hW1,←hcap] at hconv
 have hbelow:Below w.heap.size w W1:=by rw[hW1];exact du _ _ _
 have hcell:BytesAt W1 w.heap.size (bl s):=by rw[hW1];exact gg w s
 have hsz1:w.heap.size<W1.heap.size:=by rw[hW1,Lib.bytesWorld_size];omega
 clear hW1 hcap;have HB:=Lib.hid hbelow;have HC:=Lib.hid hcell;clear hbelow hcell
 go_enter Tryz.func210,Tryz.ntmps210
 go_wp2
 go_loopw [10] (fun i wr=>∃k:Nat,k≤c∧i=.int .i64 ((a+k:Nat):Int)∧Below w.heap.size w wr∧w.heap.size<wr.heap.size∧BytesAt wr w.heap.size (bJ (bl s) a k true)) (fun i _=>a+c-(intOf i).toNat)
 case atStart=>exact⟨0,Nat.zero_le _,rfl,HB.out,hsz1,HC.out⟩
 case round=>
  obtain⟨k,hk,rfl,hb,hbw,hB⟩:=hrel;clear hconv;obtain⟨L,hL⟩:∃L,L=bJ (bl s) a k true:=⟨_,rfl⟩;obtain⟨m,hm⟩:∃m:Nat,m=a+k:=⟨_,rfl⟩;rw[←hm];rw[←hL] at hB
  have hll:L.length=s.size:=by rw[hL,cV,ba]
  by_cases hlt:k<c
  · obtain⟨q,hq⟩:∃q,q=m / 8:=⟨_,rfl⟩
    obtain⟨j,hj⟩:∃j,j=m % 8:=⟨_,rfl⟩
    have hj8:j<8:=by omega
    have hqs:q<s.size:=by omega
    have hdiv:(m:Int) / 8=(q:Int):=by omega
    have hmod:(m:Int) % 8=(j:Int):=by omega
    have hltm:(m:Int)<(a:Int)+(c:Int):=by omega
    have hm0:m<30000:=by omega
    have hq0:q<4000:=by omega
    obtain⟨hx,hfz⟩:=hB q (by rw[hll];exact hqs);obtain⟨b,hbv⟩:∃b,b=L.getD q 0:=⟨_,rfl⟩;rw[←hbv] at hx;unfold bK at hx;have hBA:=fun W=>iW (bs L) m W (by rw[en,hll];omega) (by rw[en,hll];exact hs)
    have hbit:dK (bl (bs L)) m=cx b j:=by rw[s6,hbv,hq,hj];rfl
    rw[hbit] at hBA
    have hnext:bJ (bl s) a (k+1) true=L.set q (bZ b j true):=by
     show putAt (bJ (bl s) a k true) (a+k) true=_;rw[←hL,←hm,hbv,hq,hj];rfl
    have hput:=tm b j hj8 true;have hP:=fun W=>jl j W (by omega)
    have hpos:1≤((2 ^ j:Nat):Int)∧((2 ^ j:Nat):Int)≤128:=by
     have h1:0<2 ^ j:=Nat.pow_pos (by decide);have h2:2 ^ j≤2 ^ 7:=Nat.pow_le_pow_right (by decide) (by omega);omega
    obtain⟨p,hp⟩:∃p:Int,p=((2 ^ j:Nat):Int):=⟨_,rfl⟩;rw[←hp] at hput hP hpos
    have hcv:∀(d:Nat) (os:Array Obj),(convert 126 9 (.slice (some ⟨w.heap.size,0,none⟩) s.size cap)).run Tryz.prog (grow (redrawn wr d) os)=.ok (.string (bs L)) (grow (redrawn wr d) os):=fun d os=>
     fB _ w.heap.size cap s.size L hll.symm (fun i hi=>by
      obtain⟨h1,_⟩:=hB i hi
      rw[cell_regrown h1,db,List.getElem?_eq_getElem hi];rfl)
    have hbr:=hb.size
    have hb256:(b.toNat:Int)<256:=by have:=b.toNat_lt;omega
    have HN:=Lib.hid hnext;have HBA:=Lib.hid hBA;have HP:=Lib.hid hP;have HPUT:=Lib.hid hput;have HBT:=Lib.hid hB;have HM:=Lib.hid hm;have HQ:Hid (q<L.length):=Lib.hid (by rw[hll];exact hqs);obtain⟨hp1,hp2⟩:=hpos;clear hnext hB hL hll hbv hbit hq hj hm hBA hP hput hp hj8;obtain⟨x,hxb⟩:∃x,x=cx b j:=⟨_,rfl⟩;rw[←hxb] at HBA;have hval:=HPUT.out x hxb.symm;clear hxb HPUT
    cases x
    all_goals
     simp only[if_true,Bool.false_eq_true,if_false,Int.sub_self,Int.sub_zero,Int.zero_sub,Int.one_mul,Int.zero_mul,Int.neg_mul,Int.add_zero] at hval HBA;have HV:=Lib.hid hval;clear hval
     go_wp2
     (refine bh 22 (by kernel_rfl) (by kernel_rfl) ?_;simp only[List.take_succ_cons,List.take_zero,List.drop_succ_cons,List.drop_zero];(repeat (go_big_quiet_step ((first | (go_at_call 212;exact Calls.regrown_of (HBA.out _)) | (go_at_call 244;exact Calls.reg_pure (HP.out _))))));(with_reducible refine wpQuiet_nil ?_);intro W2 hreg;have hbW2:=aH hreg;clear hreg;obtain⟨hcW2,hfW2⟩:=aK hbW2)
     have hsW2:=hbW2.size
     go_wp2
     go_roundw
     case rel=>exact⟨k+1,by omega,by rw[HM.out];go_num,(hb.trans (hbW2.mono hbr)).setCell (Nat.le_refl _) _,by simp;omega,by rw[HN.out];have h:=((HBT.out.below hbw hbW2).set q HQ.out (bZ b j true));unfold bK at h;rw[←HV.out] at h;first | exact h | (rw[Int.emod_eq_of_lt (by omega) (by omega)] at h;exact h)⟩
     case measure=>simp[intOf];omega
  · obtain rfl:k=c:=by omega
    have hcv:=fB wr w.heap.size cap s.size L hll.symm (fun j hj=>by
     obtain⟨h1,_⟩:=hB j hj
     rw[h1,db,List.getElem?_eq_getElem hj];rfl)
    have HL:=Lib.hid hL
    have hgem:(a:Int)+(k:Int)≤(m:Int):=by omega
    clear hL hll hm hB
    go_wp2
    go_ret
    exact⟨yx (by rw[HL.out]),hb⟩
set_option maxRecDepth 100000 in
set_option maxHeartbeats 4000000 in
theorem mr (s:ByteArray) (a c:Nat) (w:World) (hs:s.size≤3100) (hac:a+c≤8*s.size) :
 Calls Tryz.prog 210 #[.string s,.int .i64 a,.int .i64 c,.int .i64 0] w fun e w'=>e=.returned (.string (bs (bJ (bl s) a c false)))∧Below w.heap.size w w':=by
 have hconv:=Lib.run_convert_string_bytes (P:=Tryz.prog) w 9 126 5 s Tryz.underlying9 Tryz.underlying126 Tryz.underlying5;obtain⟨W1,hW1⟩:∃W1,W1=Lib.bytesWorld w 5 s:=⟨_,rfl⟩;obtain⟨cap,hcap⟩:∃c,c=grownCap w s.size 0 5:=⟨_,rfl⟩;rw[←hW1,←hcap] at hconv
 have hbelow:Below w.heap.size w W1:=by rw[hW1];exact du _ _ _
 have hcell:BytesAt W1 w.heap.size (bl s):=by rw[hW1];exact gg w s
 have hsz1:w.heap.size<W1.heap.size:=by rw[hW1,Lib.bytesWorld_size];omega
 clear hW1 hcap;have HB:=Lib.hid hbelow;have HC:=Lib.hid hcell;clear hbelow hcell
 go_enter Tryz.func210,Tryz.ntmps210
 go_wp2
 go_loopw [10] (fun i wr=>∃k:Nat,k≤c∧i=.int .i64 ((a+k:Nat):Int)∧Below w.heap.size w wr∧w.heap.size<wr.heap.size∧BytesAt wr w.heap.size (bJ (bl s) a k false)) (fun i _=>a+c-(intOf i).toNat)
 case atStart=>exact⟨0,Nat.zero_le _,rfl,HB.out,hsz1,HC.out⟩
 case round=>
  obtain⟨k,hk,rfl,hb,hbw,hB⟩:=hrel;clear hconv;obtain⟨L,hL⟩:∃L,L=bJ (bl s) a k false:=⟨_,rfl⟩;obtain⟨m,hm⟩:∃m:Nat,m=a+k:=⟨_,rfl⟩;rw[←hm];rw[←hL] at hB
  have hll:L.length=s.size:=by rw[hL,cV,ba]
  by_cases hlt:k<c
  · obtain⟨q,hq⟩:∃q,q=m / 8:=⟨_,rfl⟩
    obtain⟨j,hj⟩:∃j,j=m % 8:=⟨_,rfl⟩
    have hj8:j<8:=by omega
    have hqs:q<s.size:=by omega
    have hdiv:(m:Int) / 8=(q:Int):=by omega
    have hmod:(m:Int) % 8=(j:Int):=by omega
    have hltm:(m:Int)<(a:Int)+(c:Int):=by omega
    have hm0:m<30000:=by omega
    have hq0:q<4000:=by omega
    obtain⟨hx,hfz⟩:=hB q (by rw[hll];exact hqs);obtain⟨b,hbv⟩:∃b,b=L.getD q 0:=⟨_,rfl⟩;rw[←hbv] at hx;unfold bK at hx;have hBA:=fun W=>iW (bs L) m W (by rw[en,hll];omega) (by rw[en,hll];exact hs)
    have hbit:dK (bl (bs L)) m=cx b j:=by rw[s6,hbv,hq,hj];rfl
    rw[hbit] at hBA
    have hnext:bJ (bl s) a (k+1) false=L.set q (bZ b j false):=by
     show putAt (bJ (bl s) a k false) (a+k) false=_;rw[←hL,←hm,hbv,hq,hj];rfl
    have hput:=tm b j hj8 false;have hP:=fun W=>jl j W (by omega)
    have hpos:1≤((2 ^ j:Nat):Int)∧((2 ^ j:Nat):Int)≤128:=by
     have h1:0<2 ^ j:=Nat.pow_pos (by decide);have h2:2 ^ j≤2 ^ 7:=Nat.pow_le_pow_right (by decide) (by omega);omega
    obtain⟨p,hp⟩:∃p:Int,p=((2 ^ j:Nat):Int):=⟨_,rfl⟩;rw[←hp] at hput hP hpos
    have hcv:∀(d:Nat) (os:Array Obj),(convert 126 9 (.slice (some ⟨w.heap.size,0,none⟩) s.size cap)).run Tryz.prog (grow (redrawn wr d) os)=.ok (.string (bs L)) (grow (redrawn wr d) os):=fun d os=>
     fB _ w.heap.size cap s.size L hll.symm (fun i hi=>by
      obtain⟨h1,_⟩:=hB i hi
      rw[cell_regrown h1,db,List.getElem?_eq_getElem hi];rfl)
    have hbr:=hb.size
    have hb256:(b.toNat:Int)<256:=by have:=b.toNat_lt;omega
    have HN:=Lib.hid hnext;have HBA:=Lib.hid hBA;have HP:=Lib.hid hP;have HPUT:=Lib.hid hput;have HBT:=Lib.hid hB;have HM:=Lib.hid hm;have HQ:Hid (q<L.length):=Lib.hid (by rw[hll];exact hqs);obtain⟨hp1,hp2⟩:=hpos;clear hnext hB hL hll hbv hbit hq hj hm hBA hP hput hp hj8;obtain⟨x,hxb⟩:∃x,x=cx b j:=⟨_,rfl⟩;rw[←hxb] at HBA;have hval:=HPUT.out x hxb.symm;clear hxb HPUT
    cases x
    all_goals
     simp only[if_true,Bool.false_eq_true,if_false,Int.sub_self,Int.sub_zero,Int.zero_sub,Int.one_mul,Int.zero_mul,Int.neg_mul,Int.add_zero] at hval HBA;have HV:=Lib.hid hval;clear hval
     go_wp2
     (refine bh 22 (by kernel_rfl) (by kernel_rfl) ?_;simp only[List.take_succ_cons,List.take_zero,List.drop_succ_cons,List.drop_zero];(repeat (go_big_quiet_step ((first | (go_at_call 212;exact Calls.regrown_of (HBA.out _)) | (go_at_call 244;exact Calls.reg_pure (HP.out _))))));(with_reducible refine wpQuiet_nil ?_);intro W2 hreg;have hbW2:=aH hreg;clear hreg;obtain⟨hcW2,hfW2⟩:=aK hbW2)
     have hsW2:=hbW2.size
     go_wp2
     go_roundw
     case rel=>exact⟨k+1,by omega,by rw[HM.out];go_num,(hb.trans (hbW2.mono hbr)).setCell (Nat.le_refl _) _,by simp;omega,by rw[HN.out];have h:=((HBT.out.below hbw hbW2).set q HQ.out (bZ b j false));unfold bK at h;rw[←HV.out] at h;first | exact h | (rw[Int.emod_eq_of_lt (by omega) (by omega)] at h;exact h)⟩
     case measure=>simp[intOf];omega
  · obtain rfl:k=c:=by omega
    have hcv:=fB wr w.heap.size cap s.size L hll.symm (fun j hj=>by
     obtain⟨h1,_⟩:=hB j hj
     rw[h1,db,List.getElem?_eq_getElem hj];rfl)
    have HL:=Lib.hid hL
    have hgem:(a:Int)+(k:Int)≤(m:Int):=by omega
    clear hL hll hm hB
    go_wp2
    go_ret
    exact⟨yx (by rw[HL.out]),hb⟩
open Go.RowKit
theorem bV (k a e c:Int) (o n:ByteArray) (w:World) (ho:o.size≤3100) (hn:n.size≤3100) :
 Calls Tryz.prog 240 #[.agg #[.int .i64 k,.int .i64 a,.int .i64 e,.int .i64 c,.string o,.string n]] w fun e w'=>e=.returned (.string (o ++ n))∧Below w.heap.size w w':=by
 have hnn:¬(9223372036854775807<o.size+n.size):=by omega
 go_enter Tryz.func240,Tryz.ntmps240
 go_wp2
 go_ret
 exact⟨rfl,by(repeat (first | assumption | exact Below.refl _ _ | refine au ?_ _ | refine ao ?_ _ | refine ar ?_ (by assumption) | refine Below.trans ?_ (by assumption)))⟩
theorem r7 (a e c:Int) (o n:ByteArray) (w:World) (ho:o.size≤3100) (hn:n.size≤3100) :
 Calls Tryz.prog 214 #[.agg #[.int .i64 1,.int .i64 a,.int .i64 e,.int .i64 c,.string o,.string n]] w fun r w'=>r=.returned (.int .i64 (bO (cz ⟨1,a,e,c,o,n⟩) 2))∧Below w.heap.size w w':=by
 have hsz:(o ++ n).size=o.size+n.size:=ByteArray.size_append
 cases h:bE a 0 511
 · have hr:cz ⟨1,a,e,c,o,n⟩=false:=by simp[cz,h]
   have HR:=Lib.hid hr;clear hr
   go_enter Tryz.func214,Tryz.ntmps214
   go_wp2_with (first | (go_at_call 152;refine(aM _ _ _ _).mono ?_;rintro e w' ⟨rfl,rfl⟩) | (go_at_call 240;refine(bV _ _ _ _ o n _ ho hn).mono ?_;rintro e W1 ⟨rfl,hbW1⟩;obtain⟨hcW1,hfW1⟩:=aK hbW1) | (go_at_call 151;refine(aN _ _ _).mono ?_;rintro e w' ⟨rfl,rfl⟩))
   go_ret
   exact⟨cT (by rw[HR.out]),by(repeat (first | assumption | exact Below.refl _ _ | refine au ?_ _ | refine ao ?_ _ | refine ar ?_ (by assumption) | refine Below.trans ?_ (by assumption)))⟩
 · have hb:=inB_true.1 h
   go_enter Tryz.func214,Tryz.ntmps214
   go_wp2_with (first | (go_at_call 152;refine(aM _ _ _ _).mono ?_;rintro e w' ⟨rfl,rfl⟩) | (go_at_call 240;refine(bV _ _ _ _ o n _ ho hn).mono ?_;rintro e W1 ⟨rfl,hbW1⟩;obtain⟨hcW1,hfW1⟩:=aK hbW1) | (go_at_call 151;refine(aN _ _ _).mono ?_;rintro e w' ⟨rfl,rfl⟩))
   go_ret
   exact⟨cT (by simp[cz,h]),by(repeat (first | assumption | exact Below.refl _ _ | refine au ?_ _ | refine ao ?_ _ | refine ar ?_ (by assumption) | refine Below.trans ?_ (by assumption)))⟩
theorem sq (a e c:Int) (o n:ByteArray) (w:World) (ho:o.size≤3100) (hn:n.size≤3100) :
 Calls Tryz.prog 214 #[.agg #[.int .i64 2,.int .i64 a,.int .i64 e,.int .i64 c,.string o,.string n]] w fun r w'=>r=.returned (.int .i64 (bO (cz ⟨2,a,e,c,o,n⟩) 2))∧Below w.heap.size w w':=by
 have hsz:(o ++ n).size=o.size+n.size:=ByteArray.size_append
 cases h:bE a 0 511
 · have hr:cz ⟨2,a,e,c,o,n⟩=false:=by simp[cz,h]
   have HR:=Lib.hid hr;clear hr
   go_enter Tryz.func214,Tryz.ntmps214
   go_wp2_with (first | (go_at_call 152;refine(aM _ _ _ _).mono ?_;rintro e w' ⟨rfl,rfl⟩) | (go_at_call 240;refine(bV _ _ _ _ o n _ ho hn).mono ?_;rintro e W1 ⟨rfl,hbW1⟩;obtain⟨hcW1,hfW1⟩:=aK hbW1) | (go_at_call 151;refine(aN _ _ _).mono ?_;rintro e w' ⟨rfl,rfl⟩))
   go_ret
   exact⟨cT (by rw[HR.out]),by(repeat (first | assumption | exact Below.refl _ _ | refine au ?_ _ | refine ao ?_ _ | refine ar ?_ (by assumption) | refine Below.trans ?_ (by assumption)))⟩
 · have hb:=inB_true.1 h
   go_enter Tryz.func214,Tryz.ntmps214
   go_wp2_with (first | (go_at_call 152;refine(aM _ _ _ _).mono ?_;rintro e w' ⟨rfl,rfl⟩) | (go_at_call 240;refine(bV _ _ _ _ o n _ ho hn).mono ?_;rintro e W1 ⟨rfl,hbW1⟩;obtain⟨hcW1,hfW1⟩:=aK hbW1) | (go_at_call 151;refine(aN _ _ _).mono ?_;rintro e w' ⟨rfl,rfl⟩))
   go_ret
   exact⟨cT (by simp[cz,h]),by(repeat (first | assumption | exact Below.refl _ _ | refine au ?_ _ | refine ao ?_ _ | refine ar ?_ (by assumption) | refine Below.trans ?_ (by assumption)))⟩
theorem sx (a e c:Int) (o n:ByteArray) (w:World) (ho:o.size≤3100) (hn:n.size≤3100) :
 Calls Tryz.prog 214 #[.agg #[.int .i64 3,.int .i64 a,.int .i64 e,.int .i64 c,.string o,.string n]] w fun r w'=>r=.returned (.int .i64 (bO (cz ⟨3,a,e,c,o,n⟩) 2))∧Below w.heap.size w w':=by
 have hsz:(o ++ n).size=o.size+n.size:=ByteArray.size_append
 cases h:bE a 0 511
 · have hr:cz ⟨3,a,e,c,o,n⟩=false:=by simp[cz,h]
   have HR:=Lib.hid hr;clear hr
   go_enter Tryz.func214,Tryz.ntmps214
   go_wp2_with (first | (go_at_call 152;refine(aM _ _ _ _).mono ?_;rintro e w' ⟨rfl,rfl⟩) | (go_at_call 240;refine(bV _ _ _ _ o n _ ho hn).mono ?_;rintro e W1 ⟨rfl,hbW1⟩;obtain⟨hcW1,hfW1⟩:=aK hbW1) | (go_at_call 151;refine(aN _ _ _).mono ?_;rintro e w' ⟨rfl,rfl⟩))
   go_ret
   exact⟨cT (by rw[HR.out]),by(repeat (first | assumption | exact Below.refl _ _ | refine au ?_ _ | refine ao ?_ _ | refine ar ?_ (by assumption) | refine Below.trans ?_ (by assumption)))⟩
 · have hb:=inB_true.1 h
   go_enter Tryz.func214,Tryz.ntmps214
   go_wp2_with (first | (go_at_call 152;refine(aM _ _ _ _).mono ?_;rintro e w' ⟨rfl,rfl⟩) | (go_at_call 240;refine(bV _ _ _ _ o n _ ho hn).mono ?_;rintro e W1 ⟨rfl,hbW1⟩;obtain⟨hcW1,hfW1⟩:=aK hbW1) | (go_at_call 151;refine(aN _ _ _).mono ?_;rintro e w' ⟨rfl,rfl⟩))
   go_ret
   exact⟨cT (by simp[cz,h]),by(repeat (first | assumption | exact Below.refl _ _ | refine au ?_ _ | refine ao ?_ _ | refine ar ?_ (by assumption) | refine Below.trans ?_ (by assumption)))⟩
theorem sg (a e c:Int) (o n:ByteArray) (w:World) (ho:o.size≤3100) (hn:n.size≤3100) :
 Calls Tryz.prog 214 #[.agg #[.int .i64 4,.int .i64 a,.int .i64 e,.int .i64 c,.string o,.string n]] w fun r w'=>r=.returned (.int .i64 (bO (cz ⟨4,a,e,c,o,n⟩) 2))∧Below w.heap.size w w':=by
 have hsz:(o ++ n).size=o.size+n.size:=ByteArray.size_append
 cases h:bE a 0 4095
 · have hr:cz ⟨4,a,e,c,o,n⟩=false:=by simp[cz,h]
   have HR:=Lib.hid hr;clear hr
   go_enter Tryz.func214,Tryz.ntmps214
   go_wp2_with (first | (go_at_call 152;refine(aM _ _ _ _).mono ?_;rintro e w' ⟨rfl,rfl⟩) | (go_at_call 240;refine(bV _ _ _ _ o n _ ho hn).mono ?_;rintro e W1 ⟨rfl,hbW1⟩;obtain⟨hcW1,hfW1⟩:=aK hbW1) | (go_at_call 151;refine(aN _ _ _).mono ?_;rintro e w' ⟨rfl,rfl⟩))
   go_ret
   exact⟨cT (by rw[HR.out]),by(repeat (first | assumption | exact Below.refl _ _ | refine au ?_ _ | refine ao ?_ _ | refine ar ?_ (by assumption) | refine Below.trans ?_ (by assumption)))⟩
 · have hb:=inB_true.1 h
   go_enter Tryz.func214,Tryz.ntmps214
   go_wp2_with (first | (go_at_call 152;refine(aM _ _ _ _).mono ?_;rintro e w' ⟨rfl,rfl⟩) | (go_at_call 240;refine(bV _ _ _ _ o n _ ho hn).mono ?_;rintro e W1 ⟨rfl,hbW1⟩;obtain⟨hcW1,hfW1⟩:=aK hbW1) | (go_at_call 151;refine(aN _ _ _).mono ?_;rintro e w' ⟨rfl,rfl⟩))
   go_ret
   exact⟨cT (by simp[cz,h]),by(repeat (first | assumption | exact Below.refl _ _ | refine au ?_ _ | refine ao ?_ _ | refine ar ?_ (by assumption) | refine Below.trans ?_ (by assumption)))⟩
theorem sd (a e c:Int) (o n:ByteArray) (w:World) (ho:o.size≤3100) (hn:n.size≤3100) :
 Calls Tryz.prog 214 #[.agg #[.int .i64 5,.int .i64 a,.int .i64 e,.int .i64 c,.string o,.string n]] w fun r w'=>r=.returned (.int .i64 (bO (cz ⟨5,a,e,c,o,n⟩) 2))∧Below w.heap.size w w':=by
 have hsz:(o ++ n).size=o.size+n.size:=ByteArray.size_append
 cases h:bE a 0 4095
 · have hr:cz ⟨5,a,e,c,o,n⟩=false:=by simp[cz,h]
   have HR:=Lib.hid hr;clear hr
   go_enter Tryz.func214,Tryz.ntmps214
   go_wp2_with (first | (go_at_call 152;refine(aM _ _ _ _).mono ?_;rintro e w' ⟨rfl,rfl⟩) | (go_at_call 240;refine(bV _ _ _ _ o n _ ho hn).mono ?_;rintro e W1 ⟨rfl,hbW1⟩;obtain⟨hcW1,hfW1⟩:=aK hbW1) | (go_at_call 151;refine(aN _ _ _).mono ?_;rintro e w' ⟨rfl,rfl⟩))
   go_ret
   exact⟨cT (by rw[HR.out]),by(repeat (first | assumption | exact Below.refl _ _ | refine au ?_ _ | refine ao ?_ _ | refine ar ?_ (by assumption) | refine Below.trans ?_ (by assumption)))⟩
 · have hb:=inB_true.1 h
   go_enter Tryz.func214,Tryz.ntmps214
   go_wp2_with (first | (go_at_call 152;refine(aM _ _ _ _).mono ?_;rintro e w' ⟨rfl,rfl⟩) | (go_at_call 240;refine(bV _ _ _ _ o n _ ho hn).mono ?_;rintro e W1 ⟨rfl,hbW1⟩;obtain⟨hcW1,hfW1⟩:=aK hbW1) | (go_at_call 151;refine(aN _ _ _).mono ?_;rintro e w' ⟨rfl,rfl⟩))
   go_ret
   exact⟨cT (by simp[cz,h]),by(repeat (first | assumption | exact Below.refl _ _ | refine au ?_ _ | refine ao ?_ _ | refine ar ?_ (by assumption) | refine Below.trans ?_ (by assumption)))⟩
theorem su (a e c:Int) (o n:ByteArray) (w:World) (ho:o.size≤3100) (hn:n.size≤3100) :
 Calls Tryz.prog 214 #[.agg #[.int .i64 0,.int .i64 a,.int .i64 e,.int .i64 c,.string o,.string n]] w fun r w'=>r=.returned (.int .i64 (bO (cz ⟨0,a,e,c,o,n⟩) 2))∧Below w.heap.size w w':=by
 have hsz:(o ++ n).size=o.size+n.size:=ByteArray.size_append
 go_enter Tryz.func214,Tryz.ntmps214
 go_wp2_with (first | (go_at_call 152;refine(aM _ _ _ _).mono ?_;rintro e w' ⟨rfl,rfl⟩) | (go_at_call 240;refine(bV _ _ _ _ o n _ ho hn).mono ?_;rintro e W1 ⟨rfl,hbW1⟩;obtain⟨hcW1,hfW1⟩:=aK hbW1) | (go_at_call 151;refine(aN _ _ _).mono ?_;rintro e w' ⟨rfl,rfl⟩))
 go_ret
 exact⟨rfl,by(repeat (first | assumption | exact Below.refl _ _ | refine au ?_ _ | refine ao ?_ _ | refine ar ?_ (by assumption) | refine Below.trans ?_ (by assumption)))⟩
theorem sR (a e c:Int) (o n:ByteArray) (w:World) (ho:o.size≤3100) (hn:n.size≤3100) :
 Calls Tryz.prog 214 #[.agg #[.int .i64 6,.int .i64 a,.int .i64 e,.int .i64 c,.string o,.string n]] w fun r w'=>r=.returned (.int .i64 (bO (cz ⟨6,a,e,c,o,n⟩) 2))∧Below w.heap.size w w':=by
 have hsz:(o ++ n).size=o.size+n.size:=ByteArray.size_append
 go_enter Tryz.func214,Tryz.ntmps214
 go_wp2_with (first | (go_at_call 152;refine(aM _ _ _ _).mono ?_;rintro e w' ⟨rfl,rfl⟩) | (go_at_call 240;refine(bV _ _ _ _ o n _ ho hn).mono ?_;rintro e W1 ⟨rfl,hbW1⟩;obtain⟨hcW1,hfW1⟩:=aK hbW1) | (go_at_call 151;refine(aN _ _ _).mono ?_;rintro e w' ⟨rfl,rfl⟩))
 go_ret
 exact⟨rfl,by(repeat (first | assumption | exact Below.refl _ _ | refine au ?_ _ | refine ao ?_ _ | refine ar ?_ (by assumption) | refine Below.trans ?_ (by assumption)))⟩
end Go.Proofs.YtcfdpfmchchkaaaGreatDoor
