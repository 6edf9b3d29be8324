/-
  Chapter 21: the operation with some bytes: the reference.
  Chapter 21: the entry with some bytes: the reference.
  Chapter 21: the operation with some bytes.
  Chapter 21: the entry with some bytes.
-/
import Derived.Test.YtcfdpfmchchkaaaGreatDoorOpEnt3
import Derived.IntWalk
namespace Go.Proofs.YtcfdpfmchchkaaaGreatDoor
set_option maxHeartbeats 1000000
set_option maxRecDepth 4000
set_option linter.unusedVariables false
set_option linter.unusedSimpArgs false
open Go.RowKit Go.Sort
def aU (s:ByteArray) (i c:Nat):Int:=num (((bl s).drop i).take c)
theorem fj (s:ByteArray) (i:Nat):0≤aU s i 2∧aU s i 2<65536:=by
 have h:=dS (((bl s).drop i).take 2)
 have hl:(((bl s).drop i).take 2).length≤2:=by rw[List.length_take];omega
 have hp:(256:Int) ^ (((bl s).drop i).take 2).length≤256 ^ 2:=by
  have:∀n:Nat,n≤2→(256:Int) ^ n≤256 ^ 2:=by decide
  exact this _ hl
 have:(256:Int) ^ 2=65536:=by decide
 unfold aU;omega
def Bs (s:ByteArray):Op:=⟨aU s 0 1,aU s 1 2,aU s 3 2,aU s 5 2,s.extract 11 (11+(aU s 7 2).toNat),s.extract (11+(aU s 7 2).toNat) s.size⟩
def mb (s:ByteArray):Int:=if 1035<s.size then 8 else if s.size<11 then 14 else if (s.size:Int)<11+aU s 7 2+aU s 9 2 then 14 else if 11+aU s 7 2+aU s 9 2<(s.size:Int) then 3 else e8 (Bs s)
def zC (s:ByteArray):Op:=if mb s=0 then Bs s else Cq
def LA (s:ByteArray) (i c v:Int):Prop:=∀W,Calls Tryz.prog 73 #[.string s,.int .i64 i,.int .i64 c] W fun e w'=>e=.returned (.int .i64 v)∧W=w'
theorem eJ (s:ByteArray) (i c:Nat) (h1:i+c≤s.size) (hs:s.size≤maxLen) (hc:c≤6):LA s i c (aU s i c):=fun W=>ko s i c h1 hs hc W
def Ax (s:ByteArray) (N:Nat):Op:=⟨aU s 0 1,aU s 1 2,aU s 3 2,aU s 5 2,s.extract 11 (11+N),s.extract (11+N) s.size⟩
theorem xf {s:ByteArray} {N M:Nat} (h1:¬1035<s.size) (h2:¬s.size<11) (hN:aU s 7 2=N) (hM:aU s 9 2=M):Bs s=Ax s N∧mb s=if (s.size:Int)<11+(N:Int)+M then 14 else if 11+(N:Int)+M<(s.size:Int) then 3 else e8 (Ax s N):=by
 have ev:Bs s=Ax s N:=by unfold Bs Ax;rw[hN];rfl
 exact⟨ev,by unfold mb;rw[if_neg h1,if_neg h2,hN,hM,ev]⟩
theorem vC (s:ByteArray) (w:World) (hs:s.size≤maxLen) :
 Calls Tryz.prog 178 #[.string s] w fun r w'=>r=.returned (.tuple #[fC (zC s),.int .i64 (mb s)])∧Below w.heap.size w w':=by
 have hsI:=hs;unfold maxLen at hsI;obtain⟨E,hE⟩:∃E,E=mb s:=⟨_,rfl⟩;obtain⟨R,hR⟩:∃R,R=zC s:=⟨_,rfl⟩
 have hRR:R=if E=0 then Bs s else Cq:=by rw[hR,hE];rfl
 rw[←hE,←hR];refine al (N:=60) Tryz.func178 rfl rfl rfl (fun _ Z=>?_);have U:=St.init w;refine ah (ao ?_);refine na (.agg #[.int .i64 0,.int .i64 0,.int .i64 0,.int .i64 0,.string ⟨#[]⟩,.string ⟨#[]⟩]) Z rfl U fun b2 _ _ Zj h1 U=>?_;refine GO 6 ?_;intro _ Z;refine GO 1 ?_;intro _ Z;refine GO 1 ?_;intro _ Z;refine GO 3 ?_;intro _ Z;refine ak (Z.ev rfl) (fun Zb=>?_) (fun Zb=>?_)
 ·
  have e1:mb s=8:=by unfold mb;rw[if_pos (by have:=of_decide_eq_true Zb;omega)]
  rw[e1] at hE;subst hE;refine ah (ao ?_);refine sv Z (ay (zs:=[.int .i64 0,.int .i64 0,.int .i64 0,.int .i64 0,.string ⟨#[]⟩,.string ⟨#[]⟩]) (pl:=[(0,1),(1,1),(2,1),(3,1),(4,1),(5,1)]) aa aa (Z.evs2 rfl) rfl rfl) fun _ Z=>?_;refine sw Z U 0 fun _ U=>?_;refine GO 5 ?_;intro _ Z;refine bo Z rfl rfl rfl U (i:=0) rfl aa aa ?_;exact⟨by rw[hRR];rfl,U.below⟩
 ·
  have h1:¬1035<s.size:=by have:=of_decide_eq_false Zb;omega
  refine GO 10 ?_;intro _ Z;refine ak (Z.ev rfl) (fun Zc=>?_) (fun Zc=>?_)
  ·
   have e1:mb s=14:=by unfold mb;rw[if_neg h1,if_pos (by have:=of_decide_eq_true Zc;omega)]
   rw[e1] at hE;subst hE;refine ah (ao ?_);refine sv Z (ay (zs:=[.int .i64 0,.int .i64 0,.int .i64 0,.int .i64 0,.string ⟨#[]⟩,.string ⟨#[]⟩]) (pl:=[(0,1),(1,1),(2,1),(3,1),(4,1),(5,1)]) aa aa (Z.evs2 rfl) rfl rfl) fun _ Z=>?_;refine sw Z U 0 fun _ U=>?_;refine GO 5 ?_;intro _ Z;refine bo Z rfl rfl rfl U (i:=0) rfl aa aa ?_;exact⟨by rw[hRR];rfl,U.below⟩
  ·
   have Z:¬s.size<11:=by have:=of_decide_eq_false Zc;omega
   obtain⟨b7,c7⟩:=fj s 7;obtain⟨b9,c9⟩:=fj s 9;obtain⟨N,hN⟩:=Int.eq_ofNat_of_zero_le b7;obtain⟨M,hM⟩:=Int.eq_ofNat_of_zero_le b9;rw[hN] at c7;rw[hM] at c9
   have hL7:LA s 7 2 N:=by rw[←hN];exact eJ s 7 2 ab hs ab
   have hL9:LA s 9 2 M:=by rw[←hM];exact eJ s 9 2 ab hs ab
   have hL0:LA s 0 1 (aU s 0 1):=eJ s 0 1 ab hs ab;have hL1:LA s 1 2 (aU s 1 2):=eJ s 1 2 ab hs ab;have hL3:LA s 3 2 (aU s 3 2):=eJ s 3 2 ab hs ab;have hL5:LA s 5 2 (aU s 5 2):=eJ s 5 2 ab hs ab;obtain⟨ev,ee⟩:=xf h1 Z hN hM;rw[ee] at hE;rw[ev] at hRR;refine GO 5 ?_;intro _ Z;refine cC Z rfl (hL7 _) fun _ Z=>?_;refine GO 1 ?_;intro _ Z;refine cC Z rfl (hL9 _) fun _ Z=>?_;refine GO 16 ?_;intro _ Z;refine ak (Z.ev rfl) (fun Zd=>?_) (fun Zd=>?_)
   ·
    rw[if_pos (of_decide_eq_true Zd)] at hE;subst hE;refine ah (ao ?_);refine sv Z (ay (zs:=[.int .i64 0,.int .i64 0,.int .i64 0,.int .i64 0,.string ⟨#[]⟩,.string ⟨#[]⟩]) (pl:=[(0,1),(1,1),(2,1),(3,1),(4,1),(5,1)]) aa aa (Z.evs2 rfl) rfl rfl) fun _ Z=>?_;refine sw Z U 0 fun _ U=>?_;refine GO 5 ?_;intro _ Z;refine bo Z rfl rfl rfl U (i:=0) rfl aa aa ?_;exact⟨by rw[hRR];rfl,U.below⟩
   ·
    have Z:=of_decide_eq_false Zd;rw[if_neg Z] at hE;refine GO 14 ?_;intro _ Za;refine ak (Za.ev rfl) (fun Ze=>?_) (fun Ze=>?_)
    ·
     rw[if_pos (of_decide_eq_true Ze)] at hE;subst hE;refine ah (ao ?_);refine sv Za (ay (zs:=[.int .i64 0,.int .i64 0,.int .i64 0,.int .i64 0,.string ⟨#[]⟩,.string ⟨#[]⟩]) (pl:=[(0,1),(1,1),(2,1),(3,1),(4,1),(5,1)]) aa aa (Za.evs2 rfl) rfl rfl) fun _ Z=>?_;refine sw Z U 0 fun _ U=>?_;refine GO 5 ?_;intro _ Z;refine bo Z rfl rfl rfl U (i:=0) rfl aa aa ?_;exact⟨by rw[hRR];rfl,U.below⟩
    ·
     have Z:=of_decide_eq_false Ze;rw[if_neg Z] at hE;refine wp_skip (ag (ah ?_));apply eS Za (fun _=>False) [] [(18,141)] [false,false,false,false,false,false,false,false,false,false,false,false,false,false,false,false,false,true,true] _ aa bQ
     case h=>
      refine GO 1 ?_;intro _ Z;refine gd Z rfl (fun X hX=>hL0 _) fun _ Z=>?_;refine GO 1 ?_;intro _ Z;refine gd Z rfl (fun X hX=>hL1 _) fun _ Z=>?_;refine GO 1 ?_;intro _ Z;refine gd Z rfl (fun X hX=>hL3 _) fun _ Z=>?_;refine GO 1 ?_;intro _ Z;refine gd Z rfl (fun X hX=>hL5 _) fun _ Z=>?_;refine GO 2 ?_;intro _ Z;refine qv Z (fun X hX=>aw (v':=.int .i64 ((11+N:Nat):Int)) (congrArg _ ab) (bU (Z.ev rfl) (Z.ev rfl) ab)) fun _ Z=>?_;refine qv Z (fun X hX=>aR (l:=11) (h:=11+N) Tryz.underlying9 (Z.ev rfl) (Z.ev rfl) (Z.ev rfl) ab ab) fun _ Z=>?_;refine GO 2 ?_;intro _ Z;refine qv Z (fun X hX=>aw (v':=.int .i64 ((11+N:Nat):Int)) (congrArg _ ab) (bU (Z.ev rfl) (Z.ev rfl) ab)) fun _ Z=>?_;refine qv Z (fun X hX=>aR (l:=11+N) (h:=s.size) Tryz.underlying9 (Z.ev rfl) (Z.ev rfl) rfl ab ab) fun _ Z=>?_;refine qv (v:=fC (Ax s N)) Z (fun X hX=>ay (zs:=[.int .i64 0,.int .i64 0,.int .i64 0,.int .i64 0,.string ⟨#[]⟩,.string ⟨#[]⟩]) (pl:=[(0,1),(1,1),(2,1),(3,1),(4,1),(5,1)]) aa aa (Z.evs2 rfl) rfl rfl) fun _ Z=>?_;refine av ?_;apply ec (O:=(fun _=>False)) (k:=17) (deps:=[]) (R:=NewAny _ 6 _) Z rfl rfl rfl bQ NewAny.stable bQ (wC NewAny.newT)
      case hx=>exact fun X hX hΦ=>kD (eb (z:=.agg #[.int .i64 0,.int .i64 0,.int .i64 0,.int .i64 0,.string ⟨#[]⟩,.string ⟨#[]⟩]) aa) hX.size rfl
      intro v6 _ Z;apply gm (k:=18) (deps:=[17]) (kx:=17) (x:=6) (y:=52) (Y:=p3 _) Z rfl ⟨rfl,rfl⟩ rfl bQ ⟨rfl,rfl⟩ rfl gC rfl rfl (n:=6) aa bQ
      case hx=>
       intro X hX hΦ;exact⟨(bF (k:=17) hΦ rfl rfl),rfl,rfl⟩
      intro vs18;refine iw (O:=(fun _=>False)) bQ fun _ Zf Zg=>?_;obtain⟨b6,rfl,Zi,qb6⟩:=StoY.val (v:=vs18) Z rfl (ba Zg (k:=18) rfl);have U:=U.add (Grw.below Zf) (e:=.box _ _ _) qb6 (fun b hb=>by cases hb;exact⟨Zi,Box.lt qb6⟩);refine ae (ag (ah (ah (ao ?_))));refine sv (v:=fC (Ax s N)) Z (ai aa aa (Z.ev rfl) (U.cellsAll (i:=0) rfl)) fun _ Z=>?_;refine cE Z rfl U (jS (Ax s N) _ (by show(s.extract 11 (11+N)).size≤3100;rw[ByteArray.size_extract];omega) (by show(s.extract (11+N) s.size).size≤3100;rw[ByteArray.size_extract];omega)) fun _ _ Z U=>?_;refine GO 9 ?_;intro _ Z;refine ak (Z.ev rfl) (fun Zh=>?_) (fun Zh=>?_)
      ·
       have hne:E≠0:=by rw[hE];simpa using Zh
       rw[if_neg hne] at hRR;refine ah (ao ?_);refine sv Z (ay (zs:=[.int .i64 0,.int .i64 0,.int .i64 0,.int .i64 0,.string ⟨#[]⟩,.string ⟨#[]⟩]) (pl:=[(0,1),(1,1),(2,1),(3,1),(4,1),(5,1)]) aa aa (Z.evs2 rfl) rfl rfl) fun _ Z=>?_;refine GO 1 ?_;intro _ Z;refine sw Z U 1 fun _ U=>?_;refine GO 5 ?_;intro _ Z;refine bo Z rfl rfl rfl U (i:=1) rfl aa aa ?_;exact⟨by rw[hRR,hE];rfl,U.below⟩
      ·
       have he:E=0:=by rw[hE];simpa using Zh
       rw[if_pos he] at hRR;refine wp_skip (ag (ah (ao ?_)));refine sv Z (ai aa aa (Z.ev rfl) (U.cellsAll (i:=0) rfl)) fun _ Z=>?_;refine sw Z U 1 fun _ U=>?_;refine GO 4 ?_;intro _ Z;refine bo Z rfl rfl rfl U (i:=1) rfl aa aa ?_;exact⟨by rw[hRR,he];rfl,U.below⟩
     case hB=>kernel_rfl
open Go.RowKit Go.Sort
def B9:Lge:=⟨0,0,0,0,0,false,Cq,⟨#[]⟩⟩
def fh (s:ByteArray):ByteArray:=s.extract (16+(aU s 14 2).toNat) s.size
def jt (s:ByteArray):Lge:=⟨aU s 0 1,aU s 2 2,aU s 4 4,aU s 8 4,aU s 12 2,aU s 1 1==1,zC (fh s),s.extract 16 (16+(aU s 14 2).toNat)⟩
def bZ (s:ByteArray):Int:=if 3000<s.size then 8 else if s.size<16 then 14 else if (s.size:Int)<16+aU s 14 2 then 14 else if 1<aU s 1 1 then 3 else if mb (fh s)≠0 then mb (fh s) else dF (jt s)
def dM (s:ByteArray):Lge:=if bZ s=0 then jt s else B9
theorem sb (s:ByteArray) (hs:s.size≤3100):(zC s).o.size≤3100∧(zC s).n.size≤3100:=by
 unfold zC
 split
 · unfold Bs;dsimp only
   rw[ByteArray.size_extract,ByteArray.size_extract];omega
 · exact⟨Nat.zero_le _,Nat.zero_le _⟩
def lj (s:ByteArray) (N:Nat):Lge:=⟨aU s 0 1,aU s 2 2,aU s 4 4,aU s 8 4,aU s 12 2,aU s 1 1==1,zC (s.extract (16+N) s.size),s.extract 16 (16+N)⟩
theorem uI {s:ByteArray} {N:Nat} (h1:¬3000<s.size) (h2:¬s.size<16) (hN:aU s 14 2=N):fh s=s.extract (16+N) s.size∧jt s=lj s N∧bZ s=if (s.size:Int)<16+(N:Int) then 14 else if 1<aU s 1 1 then 3 else if mb (s.extract (16+N) s.size)≠0 then mb (s.extract (16+N) s.size) else dF (lj s N):=by
 have et:fh s=s.extract (16+N) s.size:=by unfold fh;rw[hN];rfl
 have ev:jt s=lj s N:=by unfold jt lj;rw[hN,et];rfl
 exact⟨et,ev,by unfold bZ;rw[if_neg h1,if_neg h2,hN,ev,et]⟩
theorem q7 {s:ByteArray} {N:Nat} (h:s.size≤3000):(lj s N).o.o.size≤3100∧(lj s N).o.n.size≤3100∧(lj s N).d.size≤maxLen:=by
 have:=sb (s.extract (16+N) s.size) (by rw[ByteArray.size_extract];omega);refine⟨this.1,this.2,?_⟩;show(s.extract 16 (16+N)).size≤maxLen;unfold maxLen;rw[ByteArray.size_extract];omega
theorem mF (s:ByteArray) (w:World) (hs:s.size≤maxLen) :
 Calls Tryz.prog 110 #[.string s] w fun r w'=>r=.returned (.tuple #[cY (dM s),.int .i64 (bZ s)])∧Below w.heap.size w w':=by
 have hsI:=hs;unfold maxLen at hsI;obtain⟨E,hE⟩:∃E,E=bZ s:=⟨_,rfl⟩;obtain⟨R,hR⟩:∃R,R=dM s:=⟨_,rfl⟩
 have hRR:R=if E=0 then jt s else B9:=by rw[hR,hE];rfl
 rw[←hE,←hR];refine al (N:=68) Tryz.func110 rfl rfl rfl (fun _ Z=>?_);have U:=St.init w;refine ah (ao ?_);refine na (.agg #[.int .i64 0,.int .i64 0,.int .i64 0,.int .i64 0,.int .i64 0,.bool false,.int .i64 0,.int .i64 0,.int .i64 0,.int .i64 0,.string ⟨#[]⟩,.string ⟨#[]⟩,.string ⟨#[]⟩]) Z rfl U fun b2 _ _ Zj h1 U=>?_;refine GO 6 ?_;intro _ Z;refine GO 1 ?_;intro _ Z;refine GO 4 ?_;intro _ Z;refine ak (Z.ev rfl) (fun Za=>?_) (fun Za=>?_)
 ·
  have e1:bZ s=8:=by unfold bZ;rw[if_pos (by have:=of_decide_eq_true Za;omega)]
  rw[e1] at hE;subst hE;refine ah (ao ?_);refine sv Z (ay (zs:=[.int .i64 0,.int .i64 0,.int .i64 0,.int .i64 0,.int .i64 0,.bool false,.int .i64 0,.int .i64 0,.int .i64 0,.int .i64 0,.string ⟨#[]⟩,.string ⟨#[]⟩,.string ⟨#[]⟩]) (pl:=[(0,1),(1,1),(2,1),(3,1),(4,1),(5,1),(6,6),(12,1)]) aa aa (Z.evs2 rfl) rfl rfl) fun _ Z=>?_;refine sw Z U 0 fun _ U=>?_;refine GO 5 ?_;intro _ Z;refine bo Z rfl rfl rfl U (i:=0) rfl aa aa ?_;exact⟨by rw[hRR];rfl,U.below⟩
 ·
  have h1:¬3000<s.size:=by have:=of_decide_eq_false Za;omega
  refine GO 10 ?_;intro _ Z;refine ak (Z.ev rfl) (fun Zb=>?_) (fun Zb=>?_)
  ·
   have e1:bZ s=14:=by unfold bZ;rw[if_neg h1,if_pos (by have:=of_decide_eq_true Zb;omega)]
   rw[e1] at hE;subst hE;refine ah (ao ?_);refine sv Z (ay (zs:=[.int .i64 0,.int .i64 0,.int .i64 0,.int .i64 0,.int .i64 0,.bool false,.int .i64 0,.int .i64 0,.int .i64 0,.int .i64 0,.string ⟨#[]⟩,.string ⟨#[]⟩,.string ⟨#[]⟩]) (pl:=[(0,1),(1,1),(2,1),(3,1),(4,1),(5,1),(6,6),(12,1)]) aa aa (Z.evs2 rfl) rfl rfl) fun _ Z=>?_;refine sw Z U 0 fun _ U=>?_;refine GO 5 ?_;intro _ Z;refine bo Z rfl rfl rfl U (i:=0) rfl aa aa ?_;exact⟨by rw[hRR];rfl,U.below⟩
  ·
   have Z:¬s.size<16:=by have:=of_decide_eq_false Zb;omega
   obtain⟨b7,c7⟩:=fj s 14;obtain⟨N,hN⟩:=Int.eq_ofNat_of_zero_le b7;rw[hN] at c7
   have hL14:LA s 14 2 N:=by rw[←hN];exact eJ s 14 2 ab hs ab
   have hL0:LA s 0 1 (aU s 0 1):=eJ s 0 1 ab hs ab;have hL1:LA s 1 1 (aU s 1 1):=eJ s 1 1 ab hs ab;have hL2:LA s 2 2 (aU s 2 2):=eJ s 2 2 ab hs ab;have hL4:LA s 4 4 (aU s 4 4):=eJ s 4 4 ab hs ab;have hL8:LA s 8 4 (aU s 8 4):=eJ s 8 4 ab hs ab;have hL12:LA s 12 2 (aU s 12 2):=eJ s 12 2 ab hs ab;obtain⟨et,ev,ee⟩:=uI h1 Z hN;rw[ee] at hE;rw[ev] at hRR;have hfw:=q7 (N:=N) (Nat.le_of_not_lt h1);refine GO 5 ?_;intro _ Z;refine cC Z rfl (hL14 _) fun _ Z=>?_;refine GO 13 ?_;intro _ Z;refine ak (Z.ev rfl) (fun Zc=>?_) (fun Zc=>?_)
   ·
    rw[if_pos (of_decide_eq_true Zc)] at hE;subst hE;refine ah (ao ?_);refine sv Z (ay (zs:=[.int .i64 0,.int .i64 0,.int .i64 0,.int .i64 0,.int .i64 0,.bool false,.int .i64 0,.int .i64 0,.int .i64 0,.int .i64 0,.string ⟨#[]⟩,.string ⟨#[]⟩,.string ⟨#[]⟩]) (pl:=[(0,1),(1,1),(2,1),(3,1),(4,1),(5,1),(6,6),(12,1)]) aa aa (Z.evs2 rfl) rfl rfl) fun _ Z=>?_;refine sw Z U 0 fun _ U=>?_;refine GO 5 ?_;intro _ Z;refine bo Z rfl rfl rfl U (i:=0) rfl aa aa ?_;exact⟨by rw[hRR];rfl,U.below⟩
   ·
    have Z:=of_decide_eq_false Zc;rw[if_neg Z] at hE;refine GO 5 ?_;intro _ Z;refine cC Z rfl (hL1 _) fun _ Z=>?_;refine GO 10 ?_;intro _ Z;refine ak (Z.ev rfl) (fun Zd=>?_) (fun Zd=>?_)
    ·
     rw[if_pos (of_decide_eq_true Zd)] at hE;subst hE;refine ah (ao ?_);refine sv Z (ay (zs:=[.int .i64 0,.int .i64 0,.int .i64 0,.int .i64 0,.int .i64 0,.bool false,.int .i64 0,.int .i64 0,.int .i64 0,.int .i64 0,.string ⟨#[]⟩,.string ⟨#[]⟩,.string ⟨#[]⟩]) (pl:=[(0,1),(1,1),(2,1),(3,1),(4,1),(5,1),(6,6),(12,1)]) aa aa (Z.evs2 rfl) rfl rfl) fun _ Z=>?_;refine sw Z U 0 fun _ U=>?_;refine GO 5 ?_;intro _ Z;refine bo Z rfl rfl rfl U (i:=0) rfl aa aa ?_;exact⟨by rw[hRR];rfl,U.below⟩
    ·
     rw[if_neg (of_decide_eq_false Zd)] at hE;refine GO 6 ?_;intro _ Z;refine sv Z (aw (v':=.int .i64 ((16+N:Nat):Int)) (congrArg _ ab) (bU (Z.ev rfl) (Z.ev rfl) ab)) fun _ Z=>?_;refine sv Z (aR (l:=16+N) (h:=s.size) Tryz.underlying9 (Z.ev rfl) (Z.ev rfl) rfl ab ab) fun _ Z=>?_;refine cE Z rfl U (vC _ _ (by rw[ByteArray.size_extract];unfold maxLen;omega)) fun _ _ Z U=>?_;refine GO 3 ?_;intro _ Z;refine na (.agg #[.int .i64 0,.int .i64 0,.int .i64 0,.int .i64 0,.string ⟨#[]⟩,.string ⟨#[]⟩]) Z rfl U fun b6 _ _ Zk Z U=>?_;refine sw Z U 0 fun _ U=>?_;refine GO 10 ?_;intro _ Z;refine ak (Z.ev rfl) (fun Ze=>?_) (fun Ze=>?_)
     ·
      have hne:mb (s.extract (16+N) s.size)≠0:=by simpa using Ze
      rw[if_pos hne] at hE;rw[if_neg (by rw[hE];exact hne)] at hRR;refine ah (ao ?_);refine sv Z (ay (zs:=[.int .i64 0,.int .i64 0,.int .i64 0,.int .i64 0,.int .i64 0,.bool false,.int .i64 0,.int .i64 0,.int .i64 0,.int .i64 0,.string ⟨#[]⟩,.string ⟨#[]⟩,.string ⟨#[]⟩]) (pl:=[(0,1),(1,1),(2,1),(3,1),(4,1),(5,1),(6,6),(12,1)]) aa aa (Z.evs2 rfl) rfl rfl) fun _ Z=>?_;refine GO 1 ?_;intro _ Z;refine sw Z U 1 fun _ U=>?_;refine GO 5 ?_;intro _ Z;refine bo Z rfl rfl rfl U (i:=1) rfl aa aa ?_;exact⟨by rw[hRR,hE];rfl,U.below⟩
     ·
      have he:mb (s.extract (16+N) s.size)=0:=by simpa using Ze
      rw[if_neg (fun g=>g he)] at hE;refine wp_skip (ag (ah ?_));apply eS Z (fun _=>False) [] [(19,143)] [false,false,false,false,false,false,false,false,false,false,false,false,false,false,false,false,false,false,true,true] _ aa bQ
      case h=>
       refine GO 1 ?_;intro _ Z;refine gd Z rfl (fun X hX=>hL0 _) fun _ Z=>?_;refine GO 3 ?_;intro _ Z;refine gd Z rfl (fun X hX=>hL2 _) fun _ Z=>?_;refine GO 1 ?_;intro _ Z;refine gd Z rfl (fun X hX=>hL4 _) fun _ Z=>?_;refine GO 1 ?_;intro _ Z;refine gd Z rfl (fun X hX=>hL8 _) fun _ Z=>?_;refine GO 1 ?_;intro _ Z;refine gd Z rfl (fun X hX=>hL12 _) fun _ Z=>?_;refine GO 2 ?_;intro _ Z;refine qv Z (fun X hX=>aw (v':=.int .i64 ((16+N:Nat):Int)) (congrArg _ ab) (bU (Z.ev rfl) (Z.ev rfl) ab)) fun _ Z=>?_;refine qv Z (fun X hX=>aR (l:=16) (h:=16+N) Tryz.underlying9 (Z.ev rfl) (Z.ev rfl) (Z.ev rfl) ab ab) fun _ Z=>?_;refine qv Z (fun X hX=>ai aa aa (Z.ev rfl) ((U.grow (Grw.below hX)).cellsAll (i:=0) rfl)) fun _ Z=>?_;refine qv (v:=cY (lj s N)) Z (fun X hX=>ay (zs:=[.int .i64 0,.int .i64 0,.int .i64 0,.int .i64 0,.int .i64 0,.bool false,.int .i64 0,.int .i64 0,.int .i64 0,.int .i64 0,.string ⟨#[]⟩,.string ⟨#[]⟩,.string ⟨#[]⟩]) (pl:=[(0,1),(1,1),(2,1),(3,1),(4,1),(5,1),(6,6),(12,1)]) aa aa (Z.evs2 rfl) rfl rfl) fun _ Z=>?_;refine av ?_;apply ec (O:=(fun _=>False)) (k:=18) (deps:=[]) (R:=NewAny _ 13 _) Z rfl rfl rfl bQ NewAny.stable bQ (wC NewAny.newT)
       case hx=>exact fun X hX hΦ=>kD (eb (z:=.agg #[.int .i64 0,.int .i64 0,.int .i64 0,.int .i64 0,.int .i64 0,.bool false,.int .i64 0,.int .i64 0,.int .i64 0,.int .i64 0,.string ⟨#[]⟩,.string ⟨#[]⟩,.string ⟨#[]⟩]) aa) hX.size rfl
       intro v8 _ Z;apply gm (k:=19) (deps:=[18]) (kx:=18) (x:=8) (y:=60) (Y:=p3 _) Z rfl ⟨rfl,rfl⟩ rfl bQ ⟨rfl,rfl⟩ rfl gC rfl rfl (n:=13) aa bQ
       case hx=>
        intro X hX hΦ;exact⟨(bF (k:=18) hΦ rfl rfl),rfl,rfl⟩
       intro vs19;refine iw (O:=(fun _=>False)) bQ fun _ Zf Zg=>?_;obtain⟨b8,rfl,Zi,qb8⟩:=StoY.val (v:=vs19) Z rfl (ba Zg (k:=19) rfl);have U:=U.add (Grw.below Zf) (e:=.box _ _ _) qb8 (fun b hb=>by cases hb;exact⟨Zi,Box.lt qb8⟩);refine ae (ag (ah (ah (ao ?_))));refine sv (v:=cY (lj s N)) Z (ai aa aa (Z.ev rfl) (U.cellsAll (i:=0) rfl)) fun _ Z=>?_;refine cE Z rfl U (gZ (lj s N) _ hfw.1 hfw.2.1 hfw.2.2) fun _ _ Z U=>?_;refine GO 9 ?_;intro _ Z;refine ak (Z.ev rfl) (fun Zh=>?_) (fun Zh=>?_)
       ·
        have hne:E≠0:=by rw[hE];simpa using Zh
        rw[if_neg hne] at hRR;refine ah (ao ?_);refine sv Z (ay (zs:=[.int .i64 0,.int .i64 0,.int .i64 0,.int .i64 0,.int .i64 0,.bool false,.int .i64 0,.int .i64 0,.int .i64 0,.int .i64 0,.string ⟨#[]⟩,.string ⟨#[]⟩,.string ⟨#[]⟩]) (pl:=[(0,1),(1,1),(2,1),(3,1),(4,1),(5,1),(6,6),(12,1)]) aa aa (Z.evs2 rfl) rfl rfl) fun _ Z=>?_;refine GO 1 ?_;intro _ Z;refine sw Z U 2 fun _ U=>?_;refine GO 5 ?_;intro _ Z;refine bo Z rfl rfl rfl U (i:=2) rfl aa aa ?_;exact⟨by rw[hRR,hE];rfl,U.below⟩
       ·
        have he5:E=0:=by rw[hE];simpa using Zh
        rw[if_pos he5] at hRR;refine wp_skip (ag (ah (ao ?_)));refine sv Z (ai aa aa (Z.ev rfl) (U.cellsAll (i:=0) rfl)) fun _ Z=>?_;refine sw Z U 2 fun _ U=>?_;refine GO 4 ?_;intro _ Z;refine bo Z rfl rfl rfl U (i:=2) rfl aa aa ?_;exact⟨by rw[hRR,he5];rfl,U.below⟩
      case hB=>kernel_rfl
open Go.RowKit Go.Sort
theorem yP (s:ByteArray) (B N:Nat) (h:B+N≤s.size):(s.extract B s.size).extract 0 N=s.extract B (B+N):=by
 apply im;rw[bq,bq,bq];apply List.ext_getElem?;intro i;rw[List.getElem?_drop,List.getElem?_take,List.getElem?_drop,List.getElem?_take,List.getElem?_drop,List.getElem?_take,Nat.zero_add];by_cases h1:i<N
 · rw[if_pos h1,if_pos ab,if_pos ab]
 · rw[if_neg h1,if_neg ab]
theorem yF (s:ByteArray) (B N:Nat) (h:B+N≤s.size):(s.extract B s.size).extract N (s.extract B s.size).size=s.extract (B+N) s.size:=by
 apply im;rw[bq,bq,bq,ByteArray.size_extract];apply List.ext_getElem?;intro i;rw[List.getElem?_drop,List.getElem?_take,List.getElem?_drop,List.getElem?_take,List.getElem?_drop,List.getElem?_take];by_cases h1:B+N+i<s.size
 · rw[if_pos ab,if_pos ab,if_pos ab,Nat.add_assoc]
 · rw[if_neg ab,if_neg ab]
theorem zN (s:ByteArray) (i c:Nat):num (bl ((s.extract i s.size).extract 0 c))=aU s i c:=by rw[qm];rfl
theorem Am (s:ByteArray) (i j c:Nat) (h:j=i+c):num (bl (s.extract i j))=aU s i c:=by
 subst h;rw[bq];unfold aU
 congr 1
 apply List.ext_getElem?;intro k;rw[List.getElem?_drop,List.getElem?_take,List.getElem?_take,List.getElem?_drop];by_cases h:k<c
 · rw[if_pos h,if_pos ab]
 · rw[if_neg h,if_neg ab]
theorem tF (s:ByteArray) (i c:Nat) (hc:c≤6) (W:World):Calls Tryz.prog 171 #[.string ((s.extract i s.size).extract 0 c)] W fun e w'=>e=.returned (.int .i64 (aU s i c))∧Below W.heap.size W w':=by
 rw[←zN];exact eH _ W (by rw[ByteArray.size_extract];omega)
theorem dP (s:ByteArray) (i j c:Nat) (h:j=i+c) (hc:c≤6) (W:World):Calls Tryz.prog 171 #[.string (s.extract i j)] W fun e w'=>e=.returned (.int .i64 (aU s i c))∧Below W.heap.size W w':=by
 rw[←Am s i j c h];exact eH _ W (by rw[ByteArray.size_extract];omega)
def CJ (s:ByteArray) (i j:Nat):Value:=.int .i64 (bif Nat.blt i j then aU s (1+2*i) 2 else 0)
def px (b5 b6 b7:Nat):Nat→Value
 | 0=>.pointer (some ⟨b5,1,none⟩)
 | 1=>.pointer (some ⟨b5,2,none⟩)
 | 2=>.pointer (some ⟨b5,3,none⟩)
 | 3=>.pointer (some ⟨b6,0,none⟩)
 | _=>.pointer (some ⟨b7,0,none⟩)
def C8 (s:ByteArray) (b2 b5 b6 b7 j:Nat):List Ent:=[.box b7 #[CJ s 4 j] 3,.box b6 #[CJ s 3 j] 3,.box b5 #[.int .i64 (aU s 0 1),CJ s 0 j,CJ s 1 j,CJ s 2 j,.string ⟨#[]⟩,.string ⟨#[]⟩] 141,.box b2 #[.int .i64 0,.int .i64 0,.int .i64 0,.int .i64 0,.string ⟨#[]⟩,.string ⟨#[]⟩] 141]
theorem Cd {ρ:Operand→Value} {X:World} {d:Option Tmp} {ty:TypeId} {ps:String} {af:Array Edge} {g:Option (Nat × Bool)} {x y:Operand} {b5 b6 b7 j:Nat} (hj:j<5) (hx:ρ x=.agg #[px b5 b6 b7 0,px b5 b6 b7 1,px b5 b6 b7 2,px b5 b6 b7 3,px b5 b6 b7 4]) (hy:ρ y=.int .i64 (j:Nat)) :
 (execOp ρ ⟨d,.index 311 x y,ty,ps,af,g⟩).run Tryz.prog X=.ok (.value (px b5 b6 b7 j)) X:=by
 have hI:(Instr.index 311 (.agg #[px b5 b6 b7 0,px b5 b6 b7 1,px b5 b6 b7 2,px b5 b6 b7 3,px b5 b6 b7 4]) (.int .i64 (j:Nat))).run Tryz.prog X=.ok (px b5 b6 b7 j) X:=by
  have:j=0∨j=1∨j=2∨j=3∨j=4:=by omega
  rcases this with rfl | rfl | rfl | rfl | rfl<;>(show _=Result.ok _ _;first | kernel_rfl | rfl)
 simp[execOp,hx,hy,hI]
theorem Cg {P:Program} {ρ:Operand→Value} {X:World} {d:Option Tmp} {ty:TypeId} {ps:String} {af:Array Edge} {g:Option (Nat × Bool)} {x:Operand} {b5 b6 b7 j:Nat} (hj:j<5) (hx:ρ x=px b5 b6 b7 j):(execOp ρ ⟨d,.nilCheck x,ty,ps,af,g⟩).run P X=.ok (.value (px b5 b6 b7 j)) X:=by
 have:j=0∨j=1∨j=2∨j=3∨j=4:=by omega
 rcases this with rfl | rfl | rfl | rfl | rfl<;>exact mJ hx
theorem Ca {ops:Array Oper} {rest:List Oper} {o:Oper} {a:Act} {Q:Exit→Act→World→Prop} {w X:World} {N:Nat} {l:List (Nat × Value)} {s:ByteArray} {x' y:Operand} {b2 b5 b6 b7 j:Nat} (ha:Has [] a N l) (hw:Region.wanted o (yielded ops a.tmps)=true) (ho:o.op=.store 3 x' y∧o.dst=none) (hx:a.eval x'=px b5 b6 b7 j) (hy:a.eval y=.int .i64 (aU s (1+2*j) 2)) (hj:j<5)
 (hS:St [] w X (C8 s b2 b5 b6 b7 j)) (k:∀X',St [] w X' (C8 s b2 b5 b6 b7 (j+1))→wpList Tryz.prog ops Q rest a X'):wpList Tryz.prog ops Q (o::rest) a X:=by
 have:j=0∨j=1∨j=2∨j=3∨j=4:=by omega
 rcases this with rfl | rfl | rfl | rfl | rfl
 · exact aN ha hw ho hx hy rfl aa hS (i:=2) rfl rfl rfl k
 · exact aN ha hw ho hx hy rfl aa hS (i:=2) rfl rfl rfl k
 · exact aN ha hw ho hx hy rfl aa hS (i:=2) rfl rfl rfl k
 · exact aN ha hw ho hx hy rfl aa hS (i:=1) rfl rfl rfl k
 · exact aN ha hw ho hx hy rfl aa hS (i:=0) rfl rfl rfl k
theorem vb {ds:List Deferred} {P:Program} {ops:Array Oper} {rest:List Oper} {o:Oper} {a:Act} {Q:Exit→Act→World→Prop} {X:World} {N d:Nat} {l:List (Nat × Value)} (ha:Has ds a N l) (hg:o.guard=none) (t:TypeId) (parts:Array (Nat × Operand)) (ho:o.op=.build t parts) {us:List Value} (hv:parts.toList.map (fun p=>a.eval p.2)=us)
 (cells:Array Value) (hc:P.built t ((parts.toList.map (·.1)).zip us)=some cells) (hd:o.dst=some d) (hN:Nat.blt d N=true) (k:∀a',Has ds a' N ((d,.agg cells)::l)→wpList P ops Q rest a' X):wpList P ops Q (o::rest) a X:=
 bX hg t parts ho cells (by
  have hz:∀l:List (Nat × Operand),l.map (fun x=>(x.1,a.eval x.2))=(l.map (·.1)).zip (l.map fun p=>a.eval p.2):=by
   intro l
   induction l with
   | nil=>rfl
   | cons p l ih=>simp[ih]
  rw[←hc,←hv,←hz];simp) (by rw[hd];exact k _ (ha.put hN _))
theorem yn (s:ByteArray) (w:World) (hs:s.size≤maxLen) :
 Calls Tryz.prog 172 #[.string s] w fun r w'=>r=.returned (.tuple #[fC (zC s),.int .i64 (mb s)])∧Below w.heap.size w w':=by
 have hsI:=hs;unfold maxLen at hsI;obtain⟨E,hE⟩:∃E,E=mb s:=⟨_,rfl⟩;obtain⟨R,hR⟩:∃R,R=zC s:=⟨_,rfl⟩
 have hRR:R=if E=0 then Bs s else Cq:=by rw[hR,hE];rfl
 rw[←hE,←hR];refine al (N:=86) Tryz.func172 rfl rfl rfl (fun _ Y=>?_);have Z:=St.init w;refine ah (ao ?_);refine na (.agg #[.int .i64 0,.int .i64 0,.int .i64 0,.int .i64 0,.string ⟨#[]⟩,.string ⟨#[]⟩]) Y rfl Z fun b2 _ _ Zk h1 Z=>?_;refine GO 6 ?_;intro _ h2;refine GO 3 ?_;intro _ Y;refine cC Y rfl (aA _ _ _) fun _ Y=>?_;refine GO 3 ?_;intro _ Y;refine cC Y rfl (aA _ _ _) fun _ Y=>?_;refine bw Y (wn rfl) (f:=fun b=>.slice (some ⟨b,0,none⟩) 2 2) (aX Tryz.underlying214 aa aa (Y.evs2 rfl) rfl rfl rfl aq aq) rfl rfl Z fun b21 _ _ Zh Y Z=>?_;refine cC Y rfl (ed (Z.at_ (i:=0) rfl)) fun _ Y=>?_;refine GO 9 ?_;intro _ Y;refine ak (Y.ev rfl) (fun Zb=>?_) (fun Zb=>?_)
 ·
  have hne:ar [bn (decide ((s.size:Int)≤1035)) 8,bn (decide ((s.size:Int)≥11)) 14]≠0:=by simpa using Zb
  have he:ar [bn (decide ((s.size:Int)≤1035)) 8,bn (decide ((s.size:Int)≥11)) 14]=mb s:=by
   by_cases h1:1035<s.size
   · unfold mb;rw[if_pos h1,decide_eq_false ab];rfl
   · by_cases h2:s.size<11
     · unfold mb;rw[if_neg h1,if_pos h2,decide_eq_true ab,decide_eq_false ab];rfl
     · exact absurd (by rw[decide_eq_true ab,decide_eq_true ab];rfl) hne
  rw[if_neg (by rw[hE,←he];exact hne)] at hRR;refine ah (ao ?_);refine sv Y (ay (zs:=[.int .i64 0,.int .i64 0,.int .i64 0,.int .i64 0,.string ⟨#[]⟩,.string ⟨#[]⟩]) (pl:=[(0,1),(1,1),(2,1),(3,1),(4,1),(5,1)]) aa aa (Y.evs2 rfl) rfl rfl) fun _ Y=>?_;refine GO 1 ?_;intro _ Y;refine sw Y Z 1 fun _ Z=>?_;refine GO 5 ?_;intro _ Y;refine bo Y rfl rfl rfl Z (i:=1) rfl aa aa ?_;exact⟨by rw[hRR,hE,←he];rfl,Z.below⟩
 ·
  have hze:ar [bn (decide ((s.size:Int)≤1035)) 8,bn (decide ((s.size:Int)≥11)) 14]=0:=by simpa using Zb
  have h1:¬1035<s.size:=fun h=>by rw[decide_eq_false ab] at hze;cases hze
  have h2:¬s.size<11:=fun h=>by rw[decide_eq_true ab,decide_eq_false ab] at hze;cases hze
  refine GO 5 ?_;intro _ Y;refine sv Y (aR (l:=0) (h:=1) Tryz.underlying9 (Y.ev rfl) rfl (Y.ev rfl) ab ab) fun _ Y=>?_;refine cE Y rfl Z (dP s 0 1 1 rfl ab _) fun _ _ Y Z=>?_;refine sv Y (ay (zs:=[.int .i64 0,.int .i64 0,.int .i64 0,.int .i64 0,.string ⟨#[]⟩,.string ⟨#[]⟩]) (pl:=[(0,1),(1,1),(2,1),(3,1),(4,1),(5,1)]) aa aa (Y.evs2 rfl) rfl rfl) fun _ Y=>?_;refine na (.agg #[.int .i64 0,.int .i64 0,.int .i64 0,.int .i64 0,.string ⟨#[]⟩,.string ⟨#[]⟩]) Y rfl Z fun b5 _ _ Zl Y Z=>?_;refine sw Y Z 0 fun _ Z=>?_;refine pk ?_;refine na (.int .i64 0) Y rfl Z fun b6 _ _ Zm Y Z=>?_;refine na (.int .i64 0) Y rfl Z fun b7 _ _ Zn Y Z=>?_;refine GO 8 ?_;intro _ Y;refine vb Y rfl 311 _ rfl (Y.evs2 rfl) #[px b5 b6 b7 0,px b5 b6 b7 1,px b5 b6 b7 2,px b5 b6 b7 3,px b5 b6 b7 4] aa rfl rfl fun _ Y=>?_;refine GO 4 ?_;intro _ Y;refine aY Y Z [34,7,6,5,3,2,0] (fun (j:Nat)=>[(35,.int .i64 (j:Nat))]) (fun (j:Nat)=>j≤5) (fun j _=>C8 s b2 b5 b6 b7 j) (fun (j:Nat)=>5-j) (0) ((Nat.zero_le _)) bz ((Z.sub (.cons_cons _ (.cons_cons _ (.cons_cons _ (.cons _ (.cons_cons _ .slnil))))))) ?_;intro j _ _ Zo Y Z;refine GO 6 ?_;intro _ Y;refine ak (Y.ev rfl) (fun Zc=>?_) (fun Zc=>?_)
  ·
   have hj:j<5:=by have:=of_decide_eq_true Zc;omega
   refine GO 7 ?_;intro _ Y;refine sv Y (Cd hj (Y.ev rfl) (Y.ev rfl)) fun _ Y=>?_;refine GO 8 ?_;intro _ Y;refine sv Y (eW (Y.ev rfl) (Y.ev rfl) ab) fun _ Y=>?_;refine sv Y (aw (v':=.int .i64 ((1+2*j:Nat):Int)) (congrArg _ ab) (bU (Y.ev rfl) (Y.ev rfl) ab)) fun _ Y=>?_;refine sv Y (aR (l:=1+2*j) (h:=s.size) Tryz.underlying9 (Y.ev rfl) (Y.ev rfl) rfl ab ab) fun _ Y=>?_;refine sv Y (aR (l:=0) (h:=2) Tryz.underlying9 (Y.ev rfl) rfl (Y.ev rfl) ab (by rw[ByteArray.size_extract];omega)) fun _ Y=>?_;refine cE Y rfl Z (tF s (1+2*j) 2 ab _) fun _ _ Y Z=>?_;refine sv Y (Cg hj (Y.ev rfl)) fun _ Y=>?_;refine Ca Y (wn rfl) ⟨rfl,rfl⟩ (Y.ev rfl) (Y.ev rfl) hj Z fun _ Z=>?_;refine GO 8 ?_;intro _ Y;exact⟨j+1,by omega,by omega,Y.re bz,Z⟩
  ·
   obtain rfl:j=5:=by have:=of_decide_eq_false Zc;omega
   obtain⟨p7,c7⟩:=fj s 7;obtain⟨p9,c9⟩:=fj s 9;obtain⟨N,hN⟩:=Int.eq_ofNat_of_zero_le p7;obtain⟨M,hM⟩:=Int.eq_ofNat_of_zero_le p9;rw[hN] at c7;rw[hM] at c9;obtain⟨ev,ee⟩:=xf h1 h2 hN hM;rw[ee] at hE;rw[ev] at hRR
   have hsz:(s.extract 11 s.size).size=s.size-11:=by rw[ByteArray.size_extract];omega
   have hF:ar [bn (decide (((s.size-11:Nat):Int)≥(N:Int)+M)) 14,bn (decide (((s.size-11:Nat):Int)≤(N:Int)+M)) 3]=if (s.size:Int)<11+(N:Int)+M then 14 else if 11+(N:Int)+M<(s.size:Int) then 3 else 0:=by
    by_cases g1:(s.size:Int)<11+(N:Int)+M
    · rw[if_pos g1,decide_eq_false ab];rfl
    · rw[if_neg g1,decide_eq_true ab]
      by_cases g2:11+(N:Int)+M<(s.size:Int)
      · rw[if_pos g2,decide_eq_false ab];rfl
      · rw[if_neg g2,decide_eq_true ab];rfl
   refine GO 8 ?_;intro _ Y;refine sv Y (aR (l:=11) (h:=s.size) Tryz.underlying9 (Y.ev rfl) (Y.ev rfl) rfl ab ab) fun _ Y=>?_;refine GO 5 ?_;intro _ Y;apply aH Y (eZ 13) _ aa
   case h=>
    refine GO 1 ?_;intro _ Y;refine qv Y (fun X hX=>aw (v':=.int .i64 ((s.size-11:Nat):Int)) (congrArg (fun n:Nat=>Value.int .i64 n) hsz) (iZ Tryz.underlying9 (Y.ev rfl))) fun _ Y=>?_;refine qv Y (fun X hX=>aw (v':=.int .i64 (N:Int)) (congrArg _ hN) (lx (Y.ev rfl) ((Z.grow hX).cell (i:=1) rfl rfl))) fun _ Y=>?_;refine qv Y (fun X hX=>aw (v':=.int .i64 (M:Int)) (congrArg _ hM) (lx (Y.ev rfl) ((Z.grow hX).cell (i:=0) rfl rfl))) fun _ Y=>?_;refine GO 2 ?_;intro _ Y;refine gd Y rfl (fun X hX=>aA _ _ _) fun _ Y=>?_;refine GO 1 ?_;intro _ Y;refine qv Y (fun X hX=>aw (v':=.int .i64 ((s.size-11:Nat):Int)) (congrArg (fun n:Nat=>Value.int .i64 n) hsz) (iZ Tryz.underlying9 (Y.ev rfl))) fun _ Y=>?_;refine qv Y (fun X hX=>aw (v':=.int .i64 (N:Int)) (congrArg _ hN) (lx (Y.ev rfl) ((Z.grow hX).cell (i:=1) rfl rfl))) fun _ Y=>?_;refine qv Y (fun X hX=>aw (v':=.int .i64 (M:Int)) (congrArg _ hM) (lx (Y.ev rfl) ((Z.grow hX).cell (i:=0) rfl rfl))) fun _ Y=>?_;refine GO 3 ?_;intro _ Y;refine aP fun _ Zd Zi=>?_;have Z:=Z.grow Zd;refine cC Y rfl (aA _ _ _) fun _ Y=>?_;refine bw Y (wn rfl) (f:=fun b=>.slice (some ⟨b,0,none⟩) 2 2) (aX Tryz.underlying214 aa aa (Y.evs2 rfl) rfl rfl rfl aq aq) rfl rfl Z fun b65 _ _ Zj Y Z=>?_;refine cC Y rfl (ed (Z.at_ (i:=0) rfl)) fun _ Y=>?_;refine GO 9 ?_;intro _ Y;refine ak (Y.ev rfl) (fun Za=>?_) (fun Za=>?_)
    ·
     rw[hF] at Y Za
     have hne:E=(if (s.size:Int)<11+(N:Int)+M then 14 else if 11+(N:Int)+M<(s.size:Int) then 3 else 0)∧E≠0:=by
      rw[hE];by_cases g1:(s.size:Int)<11+(N:Int)+M
      · rw[if_pos g1,if_pos g1];exact⟨rfl,by decide⟩
      · rw[if_neg g1] at Za
        rw[if_neg g1,if_neg g1];by_cases g2:11+(N:Int)+M<(s.size:Int)
        · rw[if_pos g2,if_pos g2];exact⟨rfl,by decide⟩
        · rw[if_neg g2] at Za;cases Za
     rw[if_neg hne.2] at hRR;refine ah (ao ?_);refine sv Y (ay (zs:=[.int .i64 0,.int .i64 0,.int .i64 0,.int .i64 0,.string ⟨#[]⟩,.string ⟨#[]⟩]) (pl:=[(0,1),(1,1),(2,1),(3,1),(4,1),(5,1)]) aa aa (Y.evs2 rfl) rfl rfl) fun _ Y=>?_;refine GO 1 ?_;intro _ Y;refine sw Y Z 4 fun _ Z=>?_;refine GO 5 ?_;intro _ Y;refine bo Y rfl rfl rfl Z (i:=4) rfl aa aa ?_;exact⟨by rw[hRR,hne.1];rfl,Z.below⟩
    ·
     rw[hF] at Za
     have g1:¬(s.size:Int)<11+(N:Int)+M:=fun g=>by rw[if_pos g] at Za;cases Za
     have g2:¬11+(N:Int)+M<(s.size:Int):=fun g=>by rw[if_neg g1,if_pos g] at Za;cases Za
     rw[if_neg g1,if_neg g2] at hE;refine wp_skip (ag (ah ?_));apply mY (m:=7) Y (St.domAt Z (i:=3) rfl) 0 [false,false,false,false,false,false,false,true] _ aa
     case h=>
      refine GO 1 ?_;intro _ Y;refine qv Y (fun X hX=>aw (v':=.int .i64 (N:Int)) (congrArg _ hN) (lx (Y.ev rfl) ((Z.growO (i:=3) rfl hX).cell (i:=2) rfl rfl))) fun _ Y=>?_;refine qv Y (fun X hX=>aw (v':=.string (s.extract 11 (11+N))) (congrArg _ (yP s 11 N ab)) (aR (l:=0) (h:=N) Tryz.underlying9 (Y.ev rfl) rfl (Y.ev rfl) ab ab)) fun _ Y=>?_;refine GO 1 ?_;intro _ Y;refine qv Y (fun X hX=>aw (v':=.int .i64 (N:Int)) (congrArg _ hN) (lx (Y.ev rfl) ((Z.growO (i:=3) rfl hX).cell (i:=2) rfl rfl))) fun _ Y=>?_;refine qv Y (fun X hX=>aw (v':=.string (s.extract (11+N) s.size)) (congrArg _ (yF s 11 N ab)) (aR (l:=N) (h:=(s.extract 11 s.size).size) Tryz.underlying9 (Y.ev rfl) (Y.ev rfl) rfl ab ab)) fun _ Y=>?_;refine GO 2 ?_;intro _ Y;apply mR (k:=7) (deps:=[]) (R:=IsBox _ _ _) Y rfl rfl IsBox.stable (fun X hX hΦ=>ke rfl (Y.ev rfl) (Y.ev rfl) rfl aa ((Z.grow hX).at_ (i:=3) rfl) rfl rfl);intro vs7;refine tw fun _ Ze Zf=>?_;have Z:=Z.growBox (i:=3) (v:=vs7) rfl Ze (ba Zf (k:=7) rfl);refine GO 1 ?_;intro _ Y;refine aN Y (wn rfl) ⟨rfl,rfl⟩ (Y.ev rfl) (Y.ev rfl) rfl aa Z (i:=3) rfl rfl rfl fun _ Z=>?_;refine ae (ag (ah (ah (ao ?_))));refine sv (v:=fC (Ax s N)) Y (ai aa aa (Y.ev rfl) (Z.cellsAll (i:=3) rfl)) fun _ Y=>?_;refine cE Y rfl Z (eQ (Ax s N) _ (by show(s.extract 11 (11+N)).size≤3100;rw[ByteArray.size_extract];omega) (by show(s.extract (11+N) s.size).size≤3100;rw[ByteArray.size_extract];omega)) fun _ _ Y Z=>?_;refine GO 9 ?_;intro _ Y;refine ak (Y.ev rfl) (fun Zg=>?_) (fun Zg=>?_)
      ·
       have hne:E≠0:=by rw[hE];simpa using Zg
       rw[if_neg hne] at hRR;refine ah (ao ?_);refine sv Y (ay (zs:=[.int .i64 0,.int .i64 0,.int .i64 0,.int .i64 0,.string ⟨#[]⟩,.string ⟨#[]⟩]) (pl:=[(0,1),(1,1),(2,1),(3,1),(4,1),(5,1)]) aa aa (Y.evs2 rfl) rfl rfl) fun _ Y=>?_;refine GO 1 ?_;intro _ Y;refine sw Y Z 4 fun _ Z=>?_;refine GO 5 ?_;intro _ Y;refine bo Y rfl rfl rfl Z (i:=4) rfl aa aa ?_;exact⟨by rw[hRR,hE];rfl,Z.below⟩
      ·
       have he:E=0:=by rw[hE];simpa using Zg
       rw[if_pos he] at hRR;refine wp_skip (ag (ah (ao ?_)));refine sv Y (ai aa aa (Y.ev rfl) (Z.cellsAll (i:=3) rfl)) fun _ Y=>?_;refine sw Y Z 4 fun _ Z=>?_;refine GO 4 ?_;intro _ Y;refine bo Y rfl rfl rfl Z (i:=4) rfl aa aa ?_;exact⟨by rw[hRR,he];rfl,Z.below⟩
     case hB=>kernel_rfl
     case hst=>rfl
   case hB=>kernel_rfl
   case hst=>rfl
open Go.RowKit Go.Sort
theorem vH (s:ByteArray) (i:Nat) (h:i<s.size):aU s i 1=(s[i].toNat:Int):=by
 unfold aU;rw[uB s i h];simp[num]
def Az (s:ByteArray) (N:Nat) (V:Op):Lge:=⟨aU s 0 1,aU s 2 2,aU s 4 4,aU s 8 4,aU s 12 2,aU s 1 1==1,V,s.extract 16 (16+N)⟩
theorem qT (s:ByteArray) (w:World) (hs:s.size≤maxLen) :
 Calls Tryz.prog 106 #[.string s] w fun r w'=>r=.returned (.tuple #[cY (dM s),.int .i64 (bZ s)])∧Below w.heap.size w w':=by
 have hsI:=hs;unfold maxLen at hsI;obtain⟨E,hE⟩:∃E,E=bZ s:=⟨_,rfl⟩;obtain⟨R,hR⟩:∃R,R=dM s:=⟨_,rfl⟩
 have hRR:R=if E=0 then jt s else B9:=by rw[hR,hE];rfl
 rw[←hE,←hR];refine al (N:=87) Tryz.func106 rfl rfl rfl (fun _ Z=>?_);have U:=St.init w;refine ah (ao ?_);refine na (.agg #[.int .i64 0,.int .i64 0,.int .i64 0,.int .i64 0,.int .i64 0,.bool false,.int .i64 0,.int .i64 0,.int .i64 0,.int .i64 0,.string ⟨#[]⟩,.string ⟨#[]⟩,.string ⟨#[]⟩]) Z rfl U fun b2 _ _ Zs h1 U=>?_;refine GO 6 ?_;intro _ h2;refine GO 3 ?_;intro _ Z;refine cC Z rfl (aA _ _ _) fun _ Z=>?_;refine GO 3 ?_;intro _ Z;refine cC Z rfl (aA _ _ _) fun _ Z=>?_;refine bw Z (wn rfl) (f:=fun b=>.slice (some ⟨b,0,none⟩) 2 2) (aX Tryz.underlying214 aa aa (Z.evs2 rfl) rfl rfl rfl aq aq) rfl rfl U fun b19 _ _ Zm Zc U=>?_;refine cC Zc rfl (ed (U.at_ (i:=0) rfl)) fun _ Z=>?_;refine GO 9 ?_;intro _ Zd;refine ak (Zd.ev rfl) (fun Ze=>?_) (fun Ze=>?_)
 ·
  have hne:ar [bn (decide ((s.size:Int)≤3000)) 8,bn (decide ((s.size:Int)≥16)) 14]≠0:=by simpa using Ze
  have he:ar [bn (decide ((s.size:Int)≤3000)) 8,bn (decide ((s.size:Int)≥16)) 14]=bZ s:=by
   by_cases h1:3000<s.size
   · unfold bZ;rw[if_pos h1,decide_eq_false ab];rfl
   · by_cases h2:s.size<16
     · unfold bZ;rw[if_neg h1,if_pos h2,decide_eq_true ab,decide_eq_false ab];rfl
     · exact absurd (by rw[decide_eq_true ab,decide_eq_true ab];rfl) hne
  rw[if_neg (by rw[hE,←he];exact hne)] at hRR;refine ah (ao ?_);refine sv Zd (ay (zs:=[.int .i64 0,.int .i64 0,.int .i64 0,.int .i64 0,.int .i64 0,.bool false,.int .i64 0,.int .i64 0,.int .i64 0,.int .i64 0,.string ⟨#[]⟩,.string ⟨#[]⟩,.string ⟨#[]⟩]) (pl:=[(0,1),(1,1),(2,1),(3,1),(4,1),(5,1),(6,6),(12,1)]) aa aa (Zd.evs2 rfl) rfl rfl) fun _ Z=>?_;refine GO 1 ?_;intro _ Z;refine sw Z U 1 fun _ U=>?_;refine GO 5 ?_;intro _ Z;refine bo Z rfl rfl rfl U (i:=1) rfl aa aa ?_;exact⟨by rw[hRR,hE,←he];rfl,U.below⟩
 ·
  have hze:ar [bn (decide ((s.size:Int)≤3000)) 8,bn (decide ((s.size:Int)≥16)) 14]=0:=by simpa using Ze
  have h1:¬3000<s.size:=fun h=>by rw[decide_eq_false ab] at hze;cases hze
  have h2:¬s.size<16:=fun h=>by rw[decide_eq_true ab,decide_eq_false ab] at hze;cases hze
  have Zc:(((bl s).getD 1 0).toNat:Int)=aU s 1 1:=by rw[vH s 1 ab,List.getD_eq_getElem?_getD,List.getElem?_eq_getElem (by rw[aO];omega)];rfl
  obtain⟨p7,c7⟩:=fj s 14;obtain⟨N,hN⟩:=Int.eq_ofNat_of_zero_le p7;rw[hN] at c7;obtain⟨et,ev,ee⟩:=uI h1 h2 hN;rw[ee] at hE;rw[ev] at hRR;have hfw:=q7 (N:=N) (Nat.le_of_not_lt h1)
  have hsz:(s.extract 16 s.size).size=s.size-16:=by rw[ByteArray.size_extract];omega
  have hF:ar [bn (decide (((s.size-16:Nat):Int)≥(N:Int))) 14,bn (decide (aU s 1 1≤1)) 3]=if (s.size:Int)<16+(N:Int) then 14 else if 1<aU s 1 1 then 3 else 0:=by
   by_cases g1:(s.size:Int)<16+(N:Int)
   · rw[if_pos g1,decide_eq_false ab];rfl
   · rw[if_neg g1,decide_eq_true ab]
     by_cases g2:1<aU s 1 1
     · rw[if_pos g2,decide_eq_false ab];rfl
     · rw[if_neg g2,decide_eq_true ab];rfl
  refine wp_skip (ag (ah ?_));apply eS Zd (fun _=>False) [] [(20,143)] [false,false,false,false,false,false,false,false,false,false,false,false,false,false,false,false,false,false,false,true,true] _ aa bQ
  case h=>
   refine GO 1 ?_;intro _ Z;refine qv Z (fun X hX=>aR (l:=0) (h:=1) Tryz.underlying9 (Z.ev rfl) rfl (Z.ev rfl) ab ab) fun _ Z=>?_;refine lT Z rfl (fun X hX=>dP s 0 1 1 rfl ab _) fun _ Z=>?_;refine GO 1 ?_;intro _ Z;refine qv Z (fun X hX=>oW (i:=1) Tryz.underlying9 (Z.ev rfl) (Z.ev rfl) ab ab) fun _ Z=>?_;refine qv Z (fun X hX=>aw (v':=.bool (aU s 1 1==1)) (by rw[←Zc]) (dE (Z.ev rfl) (Z.ev rfl))) fun _ Z=>?_;refine GO 1 ?_;intro _ Z;refine qv Z (fun X hX=>aR (l:=2) (h:=4) Tryz.underlying9 (Z.ev rfl) (Z.ev rfl) (Z.ev rfl) ab ab) fun _ Z=>?_;refine lT Z rfl (fun X hX=>dP s 2 4 2 rfl ab _) fun _ Z=>?_;refine GO 1 ?_;intro _ Z;refine qv Z (fun X hX=>aR (l:=4) (h:=8) Tryz.underlying9 (Z.ev rfl) (Z.ev rfl) (Z.ev rfl) ab ab) fun _ Z=>?_;refine lT Z rfl (fun X hX=>dP s 4 8 4 rfl ab _) fun _ Z=>?_;refine GO 1 ?_;intro _ Z;refine qv Z (fun X hX=>aR (l:=8) (h:=12) Tryz.underlying9 (Z.ev rfl) (Z.ev rfl) (Z.ev rfl) ab ab) fun _ Z=>?_;refine lT Z rfl (fun X hX=>dP s 8 12 4 rfl ab _) fun _ Z=>?_;refine GO 1 ?_;intro _ Z;refine qv Z (fun X hX=>aR (l:=12) (h:=14) Tryz.underlying9 (Z.ev rfl) (Z.ev rfl) (Z.ev rfl) ab ab) fun _ Z=>?_;refine lT Z rfl (fun X hX=>dP s 12 14 2 rfl ab _) fun _ Z=>?_;refine qv Z (fun X hX=>ay (zs:=[.int .i64 0,.int .i64 0,.int .i64 0,.int .i64 0,.int .i64 0,.bool false,.int .i64 0,.int .i64 0,.int .i64 0,.int .i64 0,.string ⟨#[]⟩,.string ⟨#[]⟩,.string ⟨#[]⟩]) (pl:=[(0,1),(1,1),(2,1),(3,1),(4,1),(5,1),(6,6),(12,1)]) aa aa (Z.evs2 rfl) rfl rfl) fun _ Z=>?_;refine av ?_;apply ec (O:=(fun _=>False)) (k:=19) (deps:=[]) (R:=NewAny _ 13 _) Z rfl rfl rfl bQ NewAny.stable bQ (wC NewAny.newT)
   case hx=>exact fun X hX hΦ=>kD (eb (z:=.agg #[.int .i64 0,.int .i64 0,.int .i64 0,.int .i64 0,.int .i64 0,.bool false,.int .i64 0,.int .i64 0,.int .i64 0,.int .i64 0,.string ⟨#[]⟩,.string ⟨#[]⟩,.string ⟨#[]⟩]) aa) hX.size rfl
   intro v5 _ Z;apply gm (k:=20) (deps:=[19]) (kx:=19) (x:=5) (y:=43) (Y:=p3 _) Z rfl ⟨rfl,rfl⟩ rfl bQ ⟨rfl,rfl⟩ rfl gC rfl rfl (n:=13) aa bQ
   case hx=>
    intro X hX hΦ;exact⟨(bF (k:=19) hΦ rfl rfl),rfl,rfl⟩
   intro vs20;refine iw (O:=(fun _=>False)) bQ fun _ Zf Zg=>?_;obtain⟨b5,rfl,Zn,qb5⟩:=StoY.val (v:=vs20) Z rfl (ba Zg (k:=20) rfl);have U:=U.add (Grw.below Zf) (e:=.box _ _ _) qb5 (fun b hb=>by cases hb;exact⟨Zn,Box.lt qb5⟩);refine ae (ag (ah ?_));apply aH Z (eZ 6) _ aa
   case h=>
    refine GO 1 ?_;intro _ Z;refine qv Z (fun X hX=>aR (l:=14) (h:=16) Tryz.underlying9 (Z.ev rfl) (Z.ev rfl) (Z.ev rfl) ab ab) fun _ Z=>?_;refine lT Z rfl (fun X hX=>dP s 14 16 2 rfl ab _) fun _ Z=>?_;refine GO 1 ?_;intro _ Z;refine qv Z (fun X hX=>aR (l:=16) (h:=s.size) Tryz.underlying9 (Z.ev rfl) (Z.ev rfl) rfl ab ab) fun _ Z=>?_;refine qv Z (fun X hX=>aw (v':=.int .i64 (N:Int)) (congrArg _ hN) (kz (Z.ev rfl))) fun _ Z=>?_;refine av ?_;refine aP fun _ Zh Zo=>?_;have U:=U.grow Zh;refine GO 5 ?_;intro _ Z;apply aH Z (eZ 8) _ aa
    case h=>
     refine GO 1 ?_;intro _ Z;refine qv Z (fun X hX=>aw (v':=.int .i64 ((s.size-16:Nat):Int)) (congrArg (fun n:Nat=>Value.int .i64 n) hsz) (iZ Tryz.underlying9 (Z.ev rfl))) fun _ Z=>?_;refine GO 2 ?_;intro _ Z;refine gd Z rfl (fun X hX=>aA _ _ _) fun _ Z=>?_;refine GO 1 ?_;intro _ Z;refine qv Z (fun X hX=>oW (i:=1) Tryz.underlying9 (Z.ev rfl) (Z.ev rfl) ab ab) fun _ Z=>?_;refine qv Z (fun X hX=>aw (v':=.bool (decide (aU s 1 1≤1))) (by rw[←Zc]) (kW (Z.ev rfl) (Z.ev rfl))) fun _ Z=>?_;refine av ?_;refine aP fun _ Zi Zp=>?_;have U:=U.grow Zi;refine cC Z rfl (aA _ _ _) fun _ Z=>?_;refine bw Z (wn rfl) (f:=fun b=>.slice (some ⟨b,0,none⟩) 2 2) (aX Tryz.underlying214 aa aa (Z.evs2 rfl) rfl rfl rfl aq aq) rfl rfl U fun b58 _ _ Zq Z U=>?_;refine cC Z rfl (ed (U.at_ (i:=0) rfl)) fun _ Z=>?_;refine GO 9 ?_;intro _ Z;refine ak (Z.ev rfl) (fun Za=>?_) (fun Za=>?_)
     ·
      rw[hF] at Z Za
      have hne:E=(if (s.size:Int)<16+(N:Int) then 14 else if 1<aU s 1 1 then 3 else 0)∧E≠0:=by
       rw[hE];by_cases g1:(s.size:Int)<16+(N:Int)
       · rw[if_pos g1,if_pos g1];exact⟨rfl,by decide⟩
       · rw[if_neg g1] at Za
         rw[if_neg g1,if_neg g1];by_cases g2:1<aU s 1 1
         · rw[if_pos g2,if_pos g2];exact⟨rfl,by decide⟩
         · rw[if_neg g2] at Za;cases Za
      rw[if_neg hne.2] at hRR;refine ah (ao ?_);refine sv Z (ay (zs:=[.int .i64 0,.int .i64 0,.int .i64 0,.int .i64 0,.int .i64 0,.bool false,.int .i64 0,.int .i64 0,.int .i64 0,.int .i64 0,.string ⟨#[]⟩,.string ⟨#[]⟩,.string ⟨#[]⟩]) (pl:=[(0,1),(1,1),(2,1),(3,1),(4,1),(5,1),(6,6),(12,1)]) aa aa (Z.evs2 rfl) rfl rfl) fun _ Z=>?_;refine GO 1 ?_;intro _ Z;refine sw Z U 3 fun _ U=>?_;refine GO 5 ?_;intro _ Z;refine bo Z rfl rfl rfl U (i:=3) rfl aa aa ?_;exact⟨by rw[hRR,hne.1];rfl,U.below⟩
     ·
      rw[hF] at Za
      have g1:¬(s.size:Int)<16+(N:Int):=fun g=>by rw[if_pos g] at Za;cases Za
      have g2:¬1<aU s 1 1:=fun g=>by rw[if_neg g1,if_pos g] at Za;cases Za
      rw[if_neg g1,if_neg g2] at hE
      have hE2:E=ar [mb (s.extract (16+N) s.size),dF (lj s N)]:=by
       rw[hE];by_cases g:mb (s.extract (16+N) s.size)=0
       · rw[if_neg (fun k=>k g),g]
         by_cases g':dF (lj s N)=0<;>simp[ar,g']
       · rw[if_pos g];simp[ar,g]
      obtain⟨V,hV⟩:∃V,V=zC (s.extract (16+N) s.size):=⟨_,rfl⟩;obtain⟨F,Zl⟩:∃F,F=mb (s.extract (16+N) s.size):=⟨_,rfl⟩
      have hO:∀W,Calls Tryz.prog 172 #[.string (s.extract (16+N) s.size)] W fun r w'=>r=.returned (.tuple #[fC V,.int .i64 F])∧Below W.heap.size W w':=fun W=>by rw[hV,Zl];exact yn _ W (by rw[ByteArray.size_extract];unfold maxLen;omega)
      have hU:lj s N=Az s N V:=by rw[hV];rfl
      rw[hU,←Zl] at hE2;rw[hU] at hfw hRR;refine GO 6 ?_;intro _ Z;refine sv Z (aw (v':=.string (s.extract (16+N) s.size)) (congrArg _ (yF s 16 N ab)) (aR (l:=N) (h:=(s.extract 16 s.size).size) Tryz.underlying9 (Z.ev rfl) (Z.ev rfl) rfl ab ab)) fun _ Z=>?_;refine cE Z rfl U (hO _) fun _ _ Z U=>?_;refine GO 3 ?_;intro _ Z;refine na (.agg #[.int .i64 0,.int .i64 0,.int .i64 0,.int .i64 0,.string ⟨#[]⟩,.string ⟨#[]⟩]) Z rfl U fun b9 _ _ Zt Z U=>?_;refine sw Z U 0 fun _ U=>?_;refine GO 4 ?_;intro _ Z;apply mY (m:=5) Z (St.domAt U (i:=2) rfl) 0 [false,false,false,false,false,true] _ aa
      case h=>
       refine GO 2 ?_;intro _ Z;refine qv Z (fun X hX=>aw (v':=.string (s.extract 16 (16+N))) (congrArg _ (yP s 16 N ab)) (aR (l:=0) (h:=N) Tryz.underlying9 (Z.ev rfl) rfl (Z.ev rfl) ab ab)) fun _ Z=>?_;refine qv (v:=fC V) Z (fun X hX=>ai aa aa (Z.ev rfl) ((U.growO (i:=2) rfl hX).cellsAll (i:=0) rfl)) fun _ Z=>?_;refine qv Z (fun X hX=>fx 12 12 (Z.ev rfl)) fun _ Z=>?_;refine av ?_;apply mR (k:=5) (deps:=[]) (R:=IsBox _ _ _) Z rfl rfl IsBox.stable (fun X hX hΦ=>ke rfl (Z.ev rfl) (Z.ev rfl) rfl aa ((U.grow hX).at_ (i:=2) rfl) rfl rfl);intro vs5;refine tw fun _ Zj Zk=>?_;have U:=U.growBox (i:=2) (v:=vs5) rfl Zj (ba Zk (k:=5) rfl);refine GO 1 ?_;intro _ Z;refine aN Z (wn rfl) ⟨rfl,rfl⟩ (Z.ev rfl) (Z.ev rfl) rfl aa U (i:=2) rfl rfl rfl fun _ U=>?_;refine GO 6 ?_;intro _ Z;refine sv (v:=cY (Az s N V)) Z (ai aa aa (Z.ev rfl) (U.cellsAll (i:=2) rfl)) fun _ Z=>?_;refine cE Z rfl U (iK (Az s N V) _ hfw.1 hfw.2.1 hfw.2.2) fun _ _ Z U=>?_;refine bw Z (wn rfl) (f:=fun b=>.slice (some ⟨b,0,none⟩) 2 2) (aX Tryz.underlying214 aa aa (Z.evs2 rfl) rfl rfl rfl aq aq) rfl rfl U fun b80 _ _ Zr Z U=>?_;refine cC Z rfl (ed (U.at_ (i:=0) rfl)) fun _ Z=>?_;refine GO 9 ?_;intro _ Z;refine ak (Z.ev rfl) (fun Zb=>?_) (fun Zb=>?_)
       ·
        rw[←hE2] at Z Zb
        have hne:E≠0:=by simpa using Zb
        rw[if_neg hne] at hRR;refine ah (ao ?_);refine sv Z (ay (zs:=[.int .i64 0,.int .i64 0,.int .i64 0,.int .i64 0,.int .i64 0,.bool false,.int .i64 0,.int .i64 0,.int .i64 0,.int .i64 0,.string ⟨#[]⟩,.string ⟨#[]⟩,.string ⟨#[]⟩]) (pl:=[(0,1),(1,1),(2,1),(3,1),(4,1),(5,1),(6,6),(12,1)]) aa aa (Z.evs2 rfl) rfl rfl) fun _ Z=>?_;refine GO 1 ?_;intro _ Z;refine sw Z U 5 fun _ U=>?_;refine GO 5 ?_;intro _ Z;refine bo Z rfl rfl rfl U (i:=5) rfl aa aa ?_;exact⟨by rw[hRR];rfl,U.below⟩
       ·
        rw[←hE2] at Zb
        have he:E=0:=by simpa using Zb
        rw[if_pos he] at hRR;refine wp_skip (ag (ah (ao ?_)));refine sv (v:=cY (Az s N V)) Z (ai aa aa (Z.ev rfl) (U.cellsAll (i:=3) rfl)) fun _ Z=>?_;refine sw Z U 5 fun _ U=>?_;refine GO 4 ?_;intro _ Z;refine bo Z rfl rfl rfl U (i:=5) rfl aa aa ?_;exact⟨by rw[hRR,he];rfl,U.below⟩
      case hB=>kernel_rfl
      case hst=>rfl
    case hB=>kernel_rfl
    case hst=>rfl
   case hB=>kernel_rfl
   case hst=>rfl
  case hB=>kernel_rfl
end Go.Proofs.YtcfdpfmchchkaaaGreatDoor
