/- Chapter 21 -/
import Derived.Test.YtcfdpfmchchkaaaGreatDoorOpB
import Derived.Test.YtcfdpfmchchkaaaGreatDoorSplD
namespace Go.Proofs.YtcfdpfmchchkaaaGreatDoor
set_option maxRecDepth 100000
set_option maxHeartbeats 4000000
set_option linter.unusedVariables false
set_option linter.unusedSimpArgs false
open Go.RowKit Go.Sort
def BytesAt (w:World) (g:Nat) (l:List UInt8):Prop:=∀j,j<l.length→w.cell? ⟨g,j,none⟩=some (bA (l.getD j 0))∧w.frozen? ⟨g,j,none⟩=false
theorem pw (w:World) (s:ByteArray):BytesAt (Lib.bytesWorld w 5 s) w.heap.size (bl s):=fun j a=>by
 rw[aO] at a;refine⟨Lib.bytesWorld_cell _ _ _ _ a,?_⟩;have b:=Lib.bytesWorld_at_new w 5 s
 have Y:j<(Lib.bytesCells w 5 s).size:=by
  have Y:=Lib.bytesWorld_cell w 5 s j a;rw[cell_of_row _ _ _ _ _ _ b] at Y;exact(Array.getElem?_eq_some_iff.1 Y).1
 unfold World.frozen?;rw[b];simp;omega
theorem BytesAt.set {w:World} {g:Nat} {l:List UInt8} (h:BytesAt w g l) (i:Nat) (d:i<l.length) (b:UInt8):BytesAt (w.setCell ⟨g,i,none⟩ (bA b)) g (l.set i b):=by
 intro j c;rw[List.length_set] at c;obtain⟨a,f⟩:=h j c;refine⟨?_,by rw[World.frozen?_setCell];exact f⟩;by_cases e:i=j
 · subst e
   rw[World.cell?_setCell_same _ _ _ a,ek,List.getElem?_set_self d];rfl
 · rw[World.cell?_setCell_other _ _ _ _ (by intro h;injection h with _ h;exact e h),a,ek,ek,List.getElem?_set_ne e]
theorem BytesAt.below {w c:World} {g:Nat} {l:List UInt8} (h:BytesAt w g l) (b:g<w.heap.size) (a:Below w.heap.size w c):BytesAt c g l:=fun j e=>by
 obtain⟨d,f⟩:=h j e;exact⟨(a.cell (p:=⟨g,j,none⟩) b).trans d,(a.frozen (p:=⟨g,j,none⟩) b).trans f⟩
theorem Dc (b:UInt8) (j:Nat) (a:j<8):(bits .and .u8 (b.toNat:Int) ((2 ^ j:Nat):Int) != 0)=jV b j:=by
 have all:∀n:Fin 256,∀j:Fin 8,(bits .and .u8 ((UInt8.ofNat n.val).toNat:Int) ((2 ^ j.val:Nat):Int) != 0)=jV (UInt8.ofNat n.val) j.val:=by decide +kernel
 simpa using all ⟨b.toNat,b.toNat_lt⟩ ⟨j,a⟩
theorem x8 (b:UInt8) (j:Nat) (a:j<8):bits .andNot .u8 (b.toNat:Int) ((2 ^ j:Nat):Int)=((jj b j false).toNat:Int):=by
 have all:∀n:Fin 256,∀j:Fin 8,bits .andNot .u8 ((UInt8.ofNat n.val).toNat:Int) ((2 ^ j.val:Nat):Int)=((jj (UInt8.ofNat n.val) j.val false).toNat:Int):=by decide +kernel
 simpa using all ⟨b.toNat,b.toNat_lt⟩ ⟨j,a⟩
theorem Ds (b:UInt8) (j:Nat) (a:j<8):bits .or .u8 ((jj b j false).toNat:Int) ((2 ^ j:Nat):Int)=((jj b j true).toNat:Int):=by
 have all:∀n:Fin 256,∀j:Fin 8,bits .or .u8 ((jj (UInt8.ofNat n.val) j.val false).toNat:Int) ((2 ^ j.val:Nat):Int)=((jj (UInt8.ofNat n.val) j.val true).toNat:Int):=by decide +kernel
 simpa using all ⟨b.toNat,b.toNat_lt⟩ ⟨j,a⟩
theorem zx {α:Type} (L:List α) (q:Nat) (x:α) (h:q<L.length):L.take q ++ [x] ++ L.drop (q+1)=L.set q x:=by
 rw[List.set_eq_take_append_cons_drop,if_pos h];simp
theorem Fa {α:Type} {d:α} (L:List α) (q:Nat) (x:α) (h:q<L.length):(L.set q x).getD q d=x:=by
 rw[List.getD_eq_getElem?_getD,List.getElem?_set_self h];rfl
theorem GN (j:Nat) (h:j<8):IntKind.u8.wrap (1*2 ^ j)=((2 ^ j:Nat):Int):=by
 have all:∀j:Fin 8,IntKind.u8.wrap (1*2 ^ j.val)=((2 ^ j.val:Nat):Int):=by decide +kernel
 exact all ⟨j,h⟩
theorem oE {X:World} {b q:Nat} {l:List UInt8} (h:nN X b l) (a:q<l.length):X.cell? ⟨b,0+q*1,none⟩=some (bA (l.getD q 0)):=by
 obtain⟨cs,T,fr,c,d,_⟩:=h
 have Y:cs.toList[q]? = some (bA (l.getD q 0)):=by
  have Y:(cs.toList.take l.length)[q]? = (l.map bA)[q]?:=by rw[d]
  rw[List.getElem?_take,if_pos a,List.getElem?_map,List.getElem?_eq_getElem a] at Y;rw[Y,List.getD_eq_getElem?_getD,List.getElem?_eq_getElem a];rfl
 unfold World.cell?;rw[show(0+q*1)=q by omega];simp[c]
 simpa using Y
theorem mz (s:ByteArray) (a c:Nat) (v:Bool) (w:World) (O:s.size≤3100) (H:a+c≤8*s.size) :
 bu 243 #[.string s,ae a,ae c,.bool v] w (.tuple #[.string (bs (bK (bl s) a c v)),.bool (cr (bl s) a c v)]):=by
 refine an (N:=60) Tryz.func243 rfl rfl rfl (fun _ Y=>?_);have Z:=St.init w;refine GO 3 ?_;intro _ Y;refine GO 6 ?_;intro _ Y;refine wE Y (wn rfl) ⟨rfl,rfl⟩ rfl dr bY px (Y.ev rfl) Z fun u y _ _ I B Y Z=>GO 16 ?_;intro _ Y;refine aV Y Z [10,9,8,1,2,3] (fun (k:Nat)=>[(12,ae ((a+k:Nat):Int)),(11,.bool (cr (bl s) a k v))]) (fun (k:Nat)=>k≤c) (fun k _=>[.byt u (bK (bl s) a k v)]) (fun (k:Nat)=>c-k) (0) ((Nat.zero_le _)) bC (Z) ?_;intro k _ _ K Y Z;refine GO 10 ?_;intro _ Y;refine ak (Y.ev rfl) (fun t=>?_) (fun t=>?_)
 ·
  have D:k<c:=by have:=of_decide_eq_true t;omega
  obtain⟨L,o⟩:∃L,L=bK (bl s) a k v:=⟨_,rfl⟩;rw[←o] at Z
  have G:L.length=s.size:=by rw[o,dy,aO]
  obtain⟨q,C⟩:∃q,q=(a+k) / 8:=⟨_,rfl⟩;obtain⟨j,z⟩:∃j,j=(a+k) % 8:=⟨_,rfl⟩
  have f:j<8:=by omega
  have b:q<L.length:=by omega
  have e:(((a+k:Nat):Int)) / 8=(q:Int):=by omega
  have m:(((a+k:Nat):Int)) % 8=(j:Int):=by omega
  have l:jV (L.getD q 0) j=eJ (bl s) (a+k):=by
   have Y:=sd (bl s) a k (a+k) v (by rw[aO];omega);rw[if_neg ab,←o] at Y;rw[←Y,C,z];rfl
  have d:bK (bl s) a (k+1) v=L.set q (jj (L.getD q 0) j v):=by
   show putAt (bK (bl s) a k v) (a+k) v=_;rw[←o,C,z];rfl
  refine GO 7 ?_;intro _ Y;refine sv Y (aA (v':=ae (j:Int)) (congrArg _ m) (lV (Y.ev rfl) (Y.ev rfl) ab)) fun _ Y=>?_;refine sv Y (yh (n:=j) (Y.ev rfl) (Y.ev rfl) (Nat.ble_eq_true_of_le (by show j≤8;omega)) (GN j f)) fun _ Y=>?_;refine GO 7 ?_;intro _ Y;apply a8 (x:=(eJ (bl s) (a+k) != v)) Y Z 28 rfl 11 39
  case ht=>
   intro F;refine GO 2 ?_;intro _ Y;refine sy Y (aA (v':=ae (q:Int)) (congrArg _ e) (ma (Y.ev rfl) (Y.ev rfl) ab)) fun _ Y=>?_;refine sy Y (ar (i:=q) (sz:=1) bY aa (Y.ev rfl) (Y.ev rfl) ab ab rfl) fun _ Y=>?_;refine sy Y (lx (Y.ev rfl) (oE (Z.at_ (i:=0) rfl) b)) fun _ Y=>?_;refine GO 1 ?_;intro _ Y;refine sy Y (nc (r:=bits .and .u8 ((L.getD q 0).toNat:Int) ((2 ^ j:Nat):Int)) rfl (Y.ev rfl) (Y.ev rfl) rfl) fun _ Y=>?_;refine sy Y (aA (v':=.bool (eJ (bl s) (a+k))) (congrArg _ ((Dc _ j f).trans l)) (kh (Y.ev rfl) (Y.ev rfl))) fun _ Y=>?_;refine GO 1 ?_;intro _ Y;refine sy Y (uG tX (Y.ev rfl) (Y.ev rfl)) fun _ Y=>?_;refine GO 1 ?_;intro _ Y;exact ag ⟨Y.midE 10,Z⟩
  case hf=>
   intro F;refine GO 11 ?_;intro _ Y;exact ag ⟨Y.midE 10,Z⟩
  case h=>
   rintro E J ⟨M,A⟩
   refine GO 7 ?_;intro _ Y;refine sv Y (aA (v':=ae (q:Int)) (congrArg _ e) (ma (Y.ev rfl) (Y.ev rfl) ab)) fun _ Y=>?_;refine sv Y (ar (i:=q) (sz:=1) bY aa (Y.ev rfl) (Y.ev rfl) ab ab rfl) fun _ Y=>?_;refine sv Y (lx (Y.ev rfl) (oE (A.at_ (i:=0) rfl) b)) fun _ Y=>?_;refine GO 1 ?_;intro _ Y;refine sv Y (nc (r:=((jj (L.getD q 0) j false).toNat:Int)) rfl (Y.ev rfl) (Y.ev rfl) (x8 _ j f)) fun _ Y=>?_;refine sv Y (ar (i:=q) (sz:=1) bY aa (Y.ev rfl) (Y.ev rfl) ab ab rfl) fun _ Y=>?_;refine za Y (wn rfl) ⟨rfl,rfl⟩ aa (Y.ev rfl) (Y.ev rfl) rfl A (i:=0) rfl ab fun _ Z=>?_;rw[show 0+q*1=q by omega,zx L q _ b] at Z;refine GO 7 ?_;intro _ Y;refine ak (Y.ev rfl) (fun p=>?_) (fun p=>?_)
   ·
    obtain rfl:v=true:=p;refine GO 3 ?_;intro _ Y;refine sv Y (aA (v':=ae (q:Int)) (congrArg _ e) (ma (Y.ev rfl) (Y.ev rfl) ab)) fun _ Y=>?_;refine sv Y (ar (i:=q) (sz:=1) bY aa (Y.ev rfl) (Y.ev rfl) ab ab rfl) fun _ Y=>?_;refine sv Y (aA (v':=.int .u8 ((jj (L.getD q 0) j false).toNat:Int)) (by rw[Fa L q _ b];rfl) (lx (Y.ev rfl) (oE (Z.at_ (i:=0) rfl) (by rw[List.length_set];exact b)))) fun _ Y=>?_;refine GO 1 ?_;intro _ Y;refine sv Y (nc (r:=((jj (L.getD q 0) j true).toNat:Int)) rfl (Y.ev rfl) (Y.ev rfl) (Ds _ j f)) fun _ Y=>?_;refine sv Y (ar (i:=q) (sz:=1) bY aa (Y.ev rfl) (Y.ev rfl) ab ab rfl) fun _ Y=>?_;refine za Y (wn rfl) ⟨rfl,rfl⟩ aa (Y.ev rfl) (Y.ev rfl) rfl Z (i:=0) rfl (by rw[List.length_set];omega) fun _ Z=>?_;rw[show 0+q*1=q by omega,zx _ q _ (by rw[List.length_set];exact b),List.set_set,List.set_set,←d] at Z;refine GO 5 ?_;intro _ Y;refine sv Y (aA (v':=ae ((a+(k+1):Nat):Int)) (congrArg _ ab) (cM (Y.ev rfl) (Y.ev rfl) ab)) fun _ Y=>?_;refine GO 3 ?_;intro _ Y;exact⟨k+1,by omega,by omega,Y.re bC,Z⟩
   ·
    obtain rfl:v=false:=p;refine GO 5 ?_;intro _ Y;refine sv Y (aA (v':=ae ((a+(k+1):Nat):Int)) (congrArg _ ab) (cM (Y.ev rfl) (Y.ev rfl) ab)) fun _ Y=>?_;refine GO 3 ?_;intro _ Y;exact⟨k+1,by omega,by omega,Y.re bC,(by rw[d];exact Z)⟩
 ·
  obtain rfl:k=c:=by have:=of_decide_eq_false t;omega
  have g:(bK (bl s) a k v).length=s.size:=by rw[dy,aO]
  refine GO 8 ?_;intro _ Y;refine sv Y (yL bY px dr (Y.ev rfl) (Z.bytStr (i:=0) rfl ab).1 (Z.bytStr (i:=0) rfl ab).2) fun _ Y=>?_;refine GO 6 ?_;intro _ Y;refine bU Y rfl rfl rfl ?_;exact⟨by rw[List.drop_zero,←g,List.take_length],Z.below⟩
theorem zb (b:UInt8) (j:Nat) (a:j<8) (v x:Bool) (hx:jV b j=x):((b.toNat:Int)+((if v then 1 else 0)-(if x then 1 else 0))*((2 ^ j:Nat):Int)) % 256=((jj b j v).toNat:Int):=by
 have all:∀n:Fin 256,∀j:Fin 8,∀v:Bool,(((UInt8.ofNat n.val).toNat:Int)+((if v then 1 else 0)-(if jV (UInt8.ofNat n.val) j.val then 1 else 0))*((2 ^ j.val:Nat):Int)) % 256=((jj (UInt8.ofNat n.val) j.val v).toNat:Int):=by decide +kernel
 subst hx
 simpa using all ⟨b.toNat,b.toNat_lt⟩ ⟨j,a⟩ v
theorem sx (s:ByteArray) (a c:Nat) (w:World) (hs:s.size≤3100) (hac:a+c≤8*s.size) :
 Calls Tryz.prog 210 #[.string s,.int .i64 a,.int .i64 c,.int .i64 1] w fun e w'=>e=.returned (.string (bs (bK (bl s) a c true)))∧Below w.heap.size w w':=by
 have hconv:=Lib.run_convert_string_bytes (P:=Tryz.prog) w 9 126 5 s Tryz.underlying9 Tryz.underlying126 Tryz.underlying5;obtain⟨W1,hW1⟩:∃W1,W1=Lib.bytesWorld w 5 s:=⟨_,rfl⟩;obtain⟨cap,hcap⟩:∃c,c=grownCap w s.size 0 5:=⟨_,rfl⟩;rw[←hW1,←hcap] at hconv
 have hbelow:Below w.heap.size w W1:=by rw[hW1];exact gh _ _ _
 have hcell:BytesAt W1 w.heap.size (bl s):=by rw[hW1];exact pw w s
 have hsz1:w.heap.size<W1.heap.size:=by rw[hW1,Lib.bytesWorld_size];omega
 clear hW1 hcap;have HB:=Lib.hid hbelow;have HC:=Lib.hid hcell;clear hbelow hcell
 go_enter Tryz.func210,Tryz.ntmps210
 go_wp2
 go_loopw [10] (fun i wr=>∃k:Nat,k≤c∧i=.int .i64 ((a+k:Nat):Int)∧Below w.heap.size w wr∧w.heap.size<wr.heap.size∧BytesAt wr w.heap.size (bK (bl s) a k true)) (fun i _=>a+c-(intOf i).toNat)
 case atStart=>exact⟨0,Nat.zero_le _,rfl,HB.out,hsz1,HC.out⟩
 case round=>
  obtain⟨k,hk,rfl,hb,hbw,hB⟩:=hrel;clear hconv;obtain⟨L,hL⟩:∃L,L=bK (bl s) a k true:=⟨_,rfl⟩;obtain⟨m,hm⟩:∃m:Nat,m=a+k:=⟨_,rfl⟩;rw[←hm];rw[←hL] at hB
  have hll:L.length=s.size:=by rw[hL,dy,aO]
  by_cases hlt:k<c
  · obtain⟨q,hq⟩:∃q,q=m / 8:=⟨_,rfl⟩
    obtain⟨j,hj⟩:∃j,j=m % 8:=⟨_,rfl⟩
    have hj8:j<8:=by omega
    have hqs:q<s.size:=by omega
    have hdiv:(m:Int) / 8=(q:Int):=by omega
    have hmod:(m:Int) % 8=(j:Int):=by omega
    have hltm:(m:Int)<(a:Int)+(c:Int):=by omega
    have hm0:m<30000:=by omega
    have hq0:q<4000:=by omega
    obtain⟨hx,hfz⟩:=hB q (by rw[hll];exact hqs);obtain⟨b,hbv⟩:∃b,b=L.getD q 0:=⟨_,rfl⟩;rw[←hbv] at hx;unfold bA at hx;have hBA:=fun W=>ln (bs L) m W (by rw[cm,hll];omega) (by rw[cm,hll];exact hs)
    have hbit:eJ (bl (bs L)) m=jV b j:=by rw[qu,hbv,hq,hj];rfl
    rw[hbit] at hBA
    have hnext:bK (bl s) a (k+1) true=L.set q (jj b j true):=by
     show putAt (bK (bl s) a k true) (a+k) true=_;rw[←hL,←hm,hbv,hq,hj];rfl
    have hput:=zb b j hj8 true;have hP:=fun W=>l5 j W ab
    have hpos:1≤((2 ^ j:Nat):Int)∧((2 ^ j:Nat):Int)≤128:=by
     have h1:0<2 ^ j:=Nat.pow_pos au;have h2:2 ^ j≤2 ^ 7:=Nat.pow_le_pow_right au ab;omega
    obtain⟨p,hp⟩:∃p:Int,p=((2 ^ j:Nat):Int):=⟨_,rfl⟩;rw[←hp] at hput hP hpos
    have hcv:∀(d:Nat) (os:Array Obj),(convert 126 9 (.slice (some ⟨w.heap.size,0,none⟩) s.size cap)).run Tryz.prog (grow (redrawn wr d) os)=.ok (.string (bs L)) (grow (redrawn wr d) os):=fun d os=>
     kM _ w.heap.size cap s.size L hll.symm (fun i hi=>by
      obtain⟨h1,_⟩:=hB i hi
      rw[cell_regrown h1,ek,List.getElem?_eq_getElem hi];rfl)
    have hbr:=hb.size
    have hb256:(b.toNat:Int)<256:=by have:=b.toNat_lt;omega
    have HN:=Lib.hid hnext;have HBA:=Lib.hid hBA;have HP:=Lib.hid hP;have HPUT:=Lib.hid hput;have HBT:=Lib.hid hB;have HM:=Lib.hid hm;have HQ:Hid (q<L.length):=Lib.hid (by rw[hll];exact hqs);obtain⟨hp1,hp2⟩:=hpos;clear hnext hB hL hll hbv hbit hq hj hm hBA hP hput hp hj8;obtain⟨x,hxb⟩:∃x,x=jV b j:=⟨_,rfl⟩;rw[←hxb] at HBA;have hval:=HPUT.out x hxb.symm;clear hxb HPUT
    cases x
    all_goals
     simp only[if_true,Bool.false_eq_true,if_false,Int.sub_self,Int.sub_zero,Int.zero_sub,Int.one_mul,Int.zero_mul,Int.neg_mul,Int.add_zero] at hval HBA;have HV:=Lib.hid hval;clear hval
     go_wp2
     (refine cq 22 aa aa ?_;simp only[List.take_succ_cons,List.take_zero,List.drop_succ_cons,List.drop_zero];(repeat (go_big_quiet_step ((first | (go_at_call 212;exact Calls.regrown_of (HBA.out _)) | (go_at_call 244;exact Calls.reg_pure (HP.out _))))));(with_reducible refine wpQuiet_nil ?_);intro W2 hreg;have hbW2:=a7 hreg;clear hreg;obtain⟨hcW2,hfW2⟩:=bH hbW2)
     have hsW2:=hbW2.size
     go_wp2
     go_roundw
     case rel=>exact⟨k+1,by omega,by rw[HM.out];go_num,(hb.trans (hbW2.mono hbr)).setCell (Nat.le_refl _) _,by simp;omega,by rw[HN.out];have h:=((HBT.out.below hbw hbW2).set q HQ.out (jj b j true));unfold bA at h;rw[←HV.out] at h;first | exact h | (rw[Int.emod_eq_of_lt ab ab] at h;exact h)⟩
     case measure=>simp[intOf];omega
  · obtain rfl:k=c:=by omega
    have hcv:=kM wr w.heap.size cap s.size L hll.symm (fun j hj=>by
     obtain⟨h1,_⟩:=hB j hj
     rw[h1,ek,List.getElem?_eq_getElem hj];rfl)
    have HL:=Lib.hid hL
    have hgem:(a:Int)+(k:Int)≤(m:Int):=by omega
    clear hL hll hm hB
    go_wp2
    go_ret
    exact⟨xt (by rw[HL.out]),hb⟩
theorem qI (s:ByteArray) (a c:Nat) (w:World) (hs:s.size≤3100) (hac:a+c≤8*s.size) :
 Calls Tryz.prog 210 #[.string s,.int .i64 a,.int .i64 c,.int .i64 0] w fun e w'=>e=.returned (.string (bs (bK (bl s) a c false)))∧Below w.heap.size w w':=by
 have hconv:=Lib.run_convert_string_bytes (P:=Tryz.prog) w 9 126 5 s Tryz.underlying9 Tryz.underlying126 Tryz.underlying5;obtain⟨W1,hW1⟩:∃W1,W1=Lib.bytesWorld w 5 s:=⟨_,rfl⟩;obtain⟨cap,hcap⟩:∃c,c=grownCap w s.size 0 5:=⟨_,rfl⟩;rw[←hW1,←hcap] at hconv
 have hbelow:Below w.heap.size w W1:=by rw[hW1];exact gh _ _ _
 have hcell:BytesAt W1 w.heap.size (bl s):=by rw[hW1];exact pw w s
 have hsz1:w.heap.size<W1.heap.size:=by rw[hW1,Lib.bytesWorld_size];omega
 clear hW1 hcap;have HB:=Lib.hid hbelow;have HC:=Lib.hid hcell;clear hbelow hcell
 go_enter Tryz.func210,Tryz.ntmps210
 go_wp2
 go_loopw [10] (fun i wr=>∃k:Nat,k≤c∧i=.int .i64 ((a+k:Nat):Int)∧Below w.heap.size w wr∧w.heap.size<wr.heap.size∧BytesAt wr w.heap.size (bK (bl s) a k false)) (fun i _=>a+c-(intOf i).toNat)
 case atStart=>exact⟨0,Nat.zero_le _,rfl,HB.out,hsz1,HC.out⟩
 case round=>
  obtain⟨k,hk,rfl,hb,hbw,hB⟩:=hrel;clear hconv;obtain⟨L,hL⟩:∃L,L=bK (bl s) a k false:=⟨_,rfl⟩;obtain⟨m,hm⟩:∃m:Nat,m=a+k:=⟨_,rfl⟩;rw[←hm];rw[←hL] at hB
  have hll:L.length=s.size:=by rw[hL,dy,aO]
  by_cases hlt:k<c
  · obtain⟨q,hq⟩:∃q,q=m / 8:=⟨_,rfl⟩
    obtain⟨j,hj⟩:∃j,j=m % 8:=⟨_,rfl⟩
    have hj8:j<8:=by omega
    have hqs:q<s.size:=by omega
    have hdiv:(m:Int) / 8=(q:Int):=by omega
    have hmod:(m:Int) % 8=(j:Int):=by omega
    have hltm:(m:Int)<(a:Int)+(c:Int):=by omega
    have hm0:m<30000:=by omega
    have hq0:q<4000:=by omega
    obtain⟨hx,hfz⟩:=hB q (by rw[hll];exact hqs);obtain⟨b,hbv⟩:∃b,b=L.getD q 0:=⟨_,rfl⟩;rw[←hbv] at hx;unfold bA at hx;have hBA:=fun W=>ln (bs L) m W (by rw[cm,hll];omega) (by rw[cm,hll];exact hs)
    have hbit:eJ (bl (bs L)) m=jV b j:=by rw[qu,hbv,hq,hj];rfl
    rw[hbit] at hBA
    have hnext:bK (bl s) a (k+1) false=L.set q (jj b j false):=by
     show putAt (bK (bl s) a k false) (a+k) false=_;rw[←hL,←hm,hbv,hq,hj];rfl
    have hput:=zb b j hj8 false;have hP:=fun W=>l5 j W ab
    have hpos:1≤((2 ^ j:Nat):Int)∧((2 ^ j:Nat):Int)≤128:=by
     have h1:0<2 ^ j:=Nat.pow_pos au;have h2:2 ^ j≤2 ^ 7:=Nat.pow_le_pow_right au ab;omega
    obtain⟨p,hp⟩:∃p:Int,p=((2 ^ j:Nat):Int):=⟨_,rfl⟩;rw[←hp] at hput hP hpos
    have hcv:∀(d:Nat) (os:Array Obj),(convert 126 9 (.slice (some ⟨w.heap.size,0,none⟩) s.size cap)).run Tryz.prog (grow (redrawn wr d) os)=.ok (.string (bs L)) (grow (redrawn wr d) os):=fun d os=>
     kM _ w.heap.size cap s.size L hll.symm (fun i hi=>by
      obtain⟨h1,_⟩:=hB i hi
      rw[cell_regrown h1,ek,List.getElem?_eq_getElem hi];rfl)
    have hbr:=hb.size
    have hb256:(b.toNat:Int)<256:=by have:=b.toNat_lt;omega
    have HN:=Lib.hid hnext;have HBA:=Lib.hid hBA;have HP:=Lib.hid hP;have HPUT:=Lib.hid hput;have HBT:=Lib.hid hB;have HM:=Lib.hid hm;have HQ:Hid (q<L.length):=Lib.hid (by rw[hll];exact hqs);obtain⟨hp1,hp2⟩:=hpos;clear hnext hB hL hll hbv hbit hq hj hm hBA hP hput hp hj8;obtain⟨x,hxb⟩:∃x,x=jV b j:=⟨_,rfl⟩;rw[←hxb] at HBA;have hval:=HPUT.out x hxb.symm;clear hxb HPUT
    cases x
    all_goals
     simp only[if_true,Bool.false_eq_true,if_false,Int.sub_self,Int.sub_zero,Int.zero_sub,Int.one_mul,Int.zero_mul,Int.neg_mul,Int.add_zero] at hval HBA;have HV:=Lib.hid hval;clear hval
     go_wp2
     (refine cq 22 aa aa ?_;simp only[List.take_succ_cons,List.take_zero,List.drop_succ_cons,List.drop_zero];(repeat (go_big_quiet_step ((first | (go_at_call 212;exact Calls.regrown_of (HBA.out _)) | (go_at_call 244;exact Calls.reg_pure (HP.out _))))));(with_reducible refine wpQuiet_nil ?_);intro W2 hreg;have hbW2:=a7 hreg;clear hreg;obtain⟨hcW2,hfW2⟩:=bH hbW2)
     have hsW2:=hbW2.size
     go_wp2
     go_roundw
     case rel=>exact⟨k+1,by omega,by rw[HM.out];go_num,(hb.trans (hbW2.mono hbr)).setCell (Nat.le_refl _) _,by simp;omega,by rw[HN.out];have h:=((HBT.out.below hbw hbW2).set q HQ.out (jj b j false));unfold bA at h;rw[←HV.out] at h;first | exact h | (rw[Int.emod_eq_of_lt ab ab] at h;exact h)⟩
     case measure=>simp[intOf];omega
  · obtain rfl:k=c:=by omega
    have hcv:=kM wr w.heap.size cap s.size L hll.symm (fun j hj=>by
     obtain⟨h1,_⟩:=hB j hj
     rw[h1,ek,List.getElem?_eq_getElem hj];rfl)
    have HL:=Lib.hid hL
    have hgem:(a:Int)+(k:Int)≤(m:Int):=by omega
    clear hL hll hm hB
    go_wp2
    go_ret
    exact⟨xt (by rw[HL.out]),hb⟩
open Go.RowKit Go.Sort
theorem mG {X:World} {b n:Nat} {T:TypeId} (es:List Int) (d:es.length≤100) (e:n=es.length) (a:Box X b (es.map (.int .i64)).toArray T):gQ 143 #[.slice (some ⟨b,0,none⟩) n n] X (ae (av es)):=by
 subst e;exact ku b 0 es X d (fun k c=>by rw[Nat.zero_add,Box.cells a k];simp[c])
theorem fL {X:World} {b:Nat} {a e2:Int} {T:TypeId} (c:Box X b #[ae a,ae e2] T):gQ 143 #[.slice (some ⟨b,0,none⟩) 2 2] X (ae (av [a,e2])):=mG [a,e2] bw rfl c
theorem u4 {X:World} {b:Nat} {d e2 e3 c a:Int} {T:TypeId} (e:Box X b #[ae d,ae e2,ae e3,ae c,ae a] T):gQ 143 #[.slice (some ⟨b,0,none⟩) 5 5] X (ae (av [d,e2,e3,c,a])):=mG [d,e2,e3,c,a] bw rfl e
theorem tf (x:Op) (w:World) (b:x.o.size≤3100) (c:x.n.size≤3100) :
 bu 240 #[fj x] w (.string (x.o ++ x.n)):=by
 refine an (N:=8) Tryz.func240 rfl rfl rfl (fun _ Y=>?_);have Z:=St.init w;refine aj (aq ?_);refine nb Y rfl rfl Z fun b1 _ _ a Y Z=>GO 9 ?_;intro _ Y;refine sv Y (kc (Y.ev rfl) (Y.ev rfl) ab) fun _ Y=>?_;refine GO 4 ?_;intro _ Y;refine aC Y rfl rfl ?_;exact⟨rfl,Z.below⟩
theorem uQ (x:Op) (w:World) (C:x.o.size≤3100) (D:x.n.size≤3100) :
 bu 214 #[fj x] w (ae (bQ (ga x) 2)):=by
 obtain⟨R,b⟩:∃R,R=ga x:=⟨_,rfl⟩;rw[←b];unfold ga at b;have p:(x.o ++ x.n).size=x.o.size+x.n.size:=ByteArray.size_append;refine an (N:=65) Tryz.func214 rfl rfl rfl (fun _ Y=>?_);have Z:=St.init w;refine aj (aq ?_);refine nb Y rfl rfl Z fun b1 _ _ T Y Z=>GO 7 ?_;intro _ Y;refine dn Y rfl (bf _ _ _ _) fun _ Y=>?_;refine GO 5 ?_;intro _ Y;refine sv (v:=fj x) Y (ah aa aa (Y.ev rfl) (Z.cellsAll (i:=0) rfl)) fun _ Y=>?_;refine cQ Y rfl Z (tf x _ C D) fun _ _ Y Z=>?_;refine sv Y (aA (v':=ae ((x.o.size:Int)+x.n.size)) (by rw[p];rfl) (lq dr (Y.ev rfl))) fun _ Y=>?_;refine GO 17 ?_;intro _ Y;refine ak (Y.ev rfl) (fun k=>?_) (fun k=>?_)
 ·
  rw[if_pos (al k)] at b;refine GO 3 ?_;intro _ Y;apply a8 (x:=decide ((x.o.size:Int)≤512-x.a)) Y Z 16 rfl 8 24
  case ht=>
   intro t;refine GO 5 ?_;intro _ Y;refine sy Y (fN (Y.ev rfl) (Y.ev rfl) (by have:=inB_true.1 t;omega)) fun _ Y=>?_;refine GO 2 ?_;intro _ Y;exact ag ⟨Y.midE 7,Z⟩
  case hf=>
   intro t;refine GO 8 ?_;intro _ Y;exact ag ⟨Y.midE 7,Z⟩
  case h=>
   rintro z S ⟨H,y⟩
   refine GO 7 ?_;intro _ Y;refine dn Y rfl (aJ _ _ _) fun _ Y=>?_;refine GO 4 ?_;intro _ Y;refine aC Y rfl rfl ?_;exact⟨by rw[b],y.below⟩
 ·
  rw[if_neg (al k)] at b;refine GO 6 ?_;intro _ Y;refine ak (Y.ev rfl) (fun m=>?_) (fun m=>?_)
  ·
   rw[if_pos (al m)] at b;refine GO 3 ?_;intro _ Y;apply a8 (x:=bB x.e x.a (512-(x.o.size+x.n.size))) Y Z 28 rfl 8 36
   case ht=>
    intro q;refine GO 6 ?_;intro _ Y;refine cx Y (ao Y _ rfl rfl rfl q) (aw a6 (Y.evs rfl) rfl) rfl rfl (bf _ _ _ _) fun _ Y=>GO 1 ?_;intro _ Y;exact ag ⟨Y.midE 7,Z⟩
   case hf=>
    intro q;refine GO 8 ?_;intro _ Y;exact ag ⟨Y.midE 7,Z⟩
   case h=>
    rintro A O ⟨J,u⟩
    refine GO 7 ?_;intro _ Y;refine dn Y rfl (aJ _ _ _) fun _ Y=>?_;refine GO 4 ?_;intro _ Y;refine aC Y rfl rfl ?_;exact⟨by rw[b],u.below⟩
  ·
   rw[if_neg (al m)] at b;refine GO 6 ?_;intro _ Y;refine ak (Y.ev rfl) (fun j=>?_) (fun j=>?_)
   ·
    rw[if_pos (al j)] at b;refine GO 3 ?_;intro _ Y;apply a8 (x:=bB x.e (x.a+(x.o.size+x.n.size)) 512) Y Z 40 rfl 8 48
    case ht=>
     intro l;refine GO 5 ?_;intro _ Y;refine sy Y (cM (Y.ev rfl) (Y.ev rfl) (by have:=inB_true.1 l;omega)) fun _ Y=>?_;refine cx Y (ao Y _ rfl rfl rfl l) (aw a6 (Y.evs rfl) rfl) rfl rfl (bf _ _ _ _) fun _ Y=>GO 1 ?_;intro _ Y;exact ag ⟨Y.midE 7,Z⟩
    case hf=>
     intro l;refine GO 8 ?_;intro _ Y;exact ag ⟨Y.midE 7,Z⟩
    case h=>
     rintro G P ⟨I,E⟩
     refine GO 7 ?_;intro _ Y;refine dn Y rfl (aJ _ _ _) fun _ Y=>?_;refine GO 4 ?_;intro _ Y;refine aC Y rfl rfl ?_;exact⟨by rw[b],E.below⟩
   ·
    rw[if_neg (al j)] at b;refine GO 7 ?_;intro _ Y;refine ak (Y.ev rfl) (fun g=>?_) (fun g=>?_)
    ·
     rw[if_pos (.inl (al g))] at b;refine wp_skip (ai ?_);refine ak (Y.ev rfl) (fun f=>?_) (fun f=>?_)
     ·
      refine GO 3 ?_;intro _ Y;refine dn Y rfl (bf _ _ _ _) fun _ Y=>?_;refine GO 1 ?_;intro _ Y;apply a8 (x:=bB x.c 1 (4096-x.a)) Y Z 55 rfl 7 62
      case ht=>
       intro d;refine GO 4 ?_;intro _ Y;refine sy Y (fN (Y.ev rfl) (Y.ev rfl) (by have:=inB_true.1 d;omega)) fun _ Y=>?_;refine cx Y (ao Y _ rfl rfl rfl d) (aw a6 (Y.evs rfl) rfl) rfl rfl (bf _ _ _ _) fun _ Y=>GO 1 ?_;intro _ Y;exact ag ⟨Y.midE 6,Z⟩
      case hf=>
       intro d;refine GO 7 ?_;intro _ Y;exact ag ⟨Y.midE 6,Z⟩
      case h=>
       rintro r M ⟨Q,B⟩
       refine GO 7 ?_;intro _ Y;refine dn Y rfl (aJ _ _ _) fun _ Y=>?_;refine GO 4 ?_;intro _ Y;refine aC Y rfl rfl ?_;exact⟨by rw[b],B.below⟩
     ·
      exact absurd (g.symm.trans f) au
    ·
     refine GO 5 ?_;intro _ Y;refine ak (Y.ev rfl) (fun f=>?_) (fun f=>?_)
     ·
      rw[if_pos (.inr (al f))] at b;refine GO 3 ?_;intro _ Y;refine dn Y rfl (bf _ _ _ _) fun _ Y=>?_;refine GO 1 ?_;intro _ Y;apply a8 (x:=bB x.c 1 (4096-x.a)) Y Z 55 rfl 7 62
      case ht=>
       intro d;refine GO 4 ?_;intro _ Y;refine sy Y (fN (Y.ev rfl) (Y.ev rfl) (by have:=inB_true.1 d;omega)) fun _ Y=>?_;refine cx Y (ao Y _ rfl rfl rfl d) (aw a6 (Y.evs rfl) rfl) rfl rfl (bf _ _ _ _) fun _ Y=>GO 1 ?_;intro _ Y;exact ag ⟨Y.midE 6,Z⟩
      case hf=>
       intro d;refine GO 7 ?_;intro _ Y;exact ag ⟨Y.midE 6,Z⟩
      case h=>
       rintro s L ⟨K,F⟩
       refine GO 7 ?_;intro _ Y;refine dn Y rfl (aJ _ _ _) fun _ Y=>?_;refine GO 4 ?_;intro _ Y;refine aC Y rfl rfl ?_;exact⟨by rw[b],F.below⟩
     ·
      rw[if_neg (by intro h;rcases h with h | h;exact absurd h (al g);exact absurd h (al f))] at b;refine GO 8 ?_;intro _ Y;refine dn Y rfl (aJ _ _ _) fun _ Y=>?_;refine GO 4 ?_;intro _ Y;refine aC Y rfl rfl ?_;exact⟨by rw[b],Z.below⟩
end Go.Proofs.YtcfdpfmchchkaaaGreatDoor
