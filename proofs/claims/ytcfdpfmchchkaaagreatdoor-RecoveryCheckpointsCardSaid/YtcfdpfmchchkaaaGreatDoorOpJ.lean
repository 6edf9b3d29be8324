/- Chapter 21 -/
import Derived.Test.YtcfdpfmchchkaaaGreatDoorOpH
import Derived.IntWalk
namespace Go.Proofs.YtcfdpfmchchkaaaGreatDoor
set_option maxHeartbeats 2000000
set_option maxRecDepth 4000
set_option linter.unusedVariables false
set_option linter.unusedSimpArgs false
open Go.RowKit Go.Sort
def aX (s:ByteArray) (i c:Nat):Int:=num (((bl s).drop i).take c)
theorem gH (s:ByteArray) (i:Nat):0≤aX s i 2∧aX s i 2<65536:=by
 have h:=eW (((bl s).drop i).take 2)
 have a:(((bl s).drop i).take 2).length≤2:=by rw[List.length_take];omega
 have b:(256:Int) ^ (((bl s).drop i).take 2).length≤256 ^ 2:=by
  have:∀n:Nat,n≤2→(256:Int) ^ n≤256 ^ 2:=by decide
  exact this _ a
 have:(256:Int) ^ 2=65536:=by decide
 unfold aX;omega
def Dx (s:ByteArray):Op:=⟨aX s 0 1,aX s 1 2,aX s 3 2,aX s 5 2,s.extract 11 (11+(aX s 7 2).toNat),s.extract (11+(aX s 7 2).toNat) s.size⟩
def nZ (s:ByteArray):Int:=if 1035<s.size then 8 else if s.size<11 then 14 else if (s.size:Int)<11+aX s 7 2+aX s 9 2 then 14 else if 11+aX s 7 2+aX s 9 2<(s.size:Int) then 3 else gj (Dx s)
def AV (s:ByteArray):Op:=if nZ s=0 then Dx s else Fv
def LA (s:ByteArray) (i c v:Int):Prop:=∀W,fZ 73 #[.string s,ae i,ae c] W (ae v)
theorem fP (s:ByteArray) (i c:Nat) (d:i+c≤s.size) (b:s.size≤maxLen) (a:c≤6):LA s i c (aX s i c):=fun W=>lY s i c d b a W
def EN (s:ByteArray) (N:Nat):Op:=⟨aX s 0 1,aX s 1 2,aX s 3 2,aX s 5 2,s.extract 11 (11+N),s.extract (11+N) s.size⟩
theorem Cx {s:ByteArray} {N M:Nat} (d:¬1035<s.size) (b:¬s.size<11) (a:aX s 7 2=N) (c:aX s 9 2=M):Dx s=EN s N∧nZ s=if (s.size:Int)<11+(N:Int)+M then 14 else if 11+(N:Int)+M<(s.size:Int) then 3 else gj (EN s N):=by
 have ev:Dx s=EN s N:=by unfold Dx EN;rw[a];rfl
 exact⟨ev,by unfold nZ;rw[if_neg d,if_neg b,a,c,ev]⟩
theorem Ax (s:ByteArray) (w:World) (f:s.size≤maxLen) :
 bz 178 #[.string s] w (.tuple #[gm (AV s),ae (nZ s)]):=by
 have u:=f;unfold maxLen at u;obtain⟨E,c⟩:∃E,E=nZ s:=⟨_,rfl⟩;obtain⟨R,S⟩:∃R,R=AV s:=⟨_,rfl⟩
 have a:R=if E=0 then Dx s else Fv:=by rw[S,c];rfl
 rw[←c,←S];refine aq (N:=60) Tryz.func178 rfl rfl rfl (fun _ Z=>?_);have U:=St.init w;refine ai (an ?_);refine na (.agg sU) Z rfl U fun b2 _ _ Zj G U=>GO 6 ?_;intro _ Z;refine GO 1 ?_;intro _ Z;refine GO 1 ?_;intro _ Z;refine GO 3 ?_;intro _ Z;refine ak (Z.ev rfl) (fun t=>?_) (fun t=>?_)
 ·
  have L:nZ s=8:=by unfold nZ;rw[if_pos (by have:=of_decide_eq_true t;omega)]
  rw[L] at c;subst c;refine ai (an ?_);refine sv Z (ay (zs:=jj) (pl:=jl) aa aa (Z.evs2 rfl) rfl rfl) fun _ Z=>?_;refine sw Z U 0 fun _ U=>?_;refine GO 5 ?_;intro _ Z;refine br Z rfl rfl rfl U (i:=0) rfl aa aa ?_;exact⟨by rw[a];rfl,U.below⟩
 ·
  have G:¬1035<s.size:=by have:=of_decide_eq_false t;omega
  refine GO 10 ?_;intro _ Z;refine ak (Z.ev rfl) (fun D=>?_) (fun D=>?_)
  ·
   have L:nZ s=14:=by unfold nZ;rw[if_neg G,if_pos (by have:=of_decide_eq_true D;omega)]
   rw[L] at c;subst c;refine ai (an ?_);refine sv Z (ay (zs:=jj) (pl:=jl) aa aa (Z.evs2 rfl) rfl rfl) fun _ Z=>?_;refine sw Z U 0 fun _ U=>?_;refine GO 5 ?_;intro _ Z;refine br Z rfl rfl rfl U (i:=0) rfl aa aa ?_;exact⟨by rw[a];rfl,U.below⟩
  ·
   have Z:¬s.size<11:=by have:=of_decide_eq_false D;omega
   obtain⟨T,c7⟩:=gH s 7;obtain⟨b9,c9⟩:=gH s 9;obtain⟨N,F⟩:=Int.eq_ofNat_of_zero_le T;obtain⟨M,q⟩:=Int.eq_ofNat_of_zero_le b9;rw[F] at c7;rw[q] at c9
   have B:LA s 7 2 N:=by rw[←F];exact fP s 7 2 ab f ab
   have H:LA s 9 2 M:=by rw[←q];exact fP s 9 2 ab f ab
   have I:LA s 0 1 (aX s 0 1):=fP s 0 1 ab f ab;have J:LA s 1 2 (aX s 1 2):=fP s 1 2 ab f ab;have C:LA s 3 2 (aX s 3 2):=fP s 3 2 ab f ab;have o:LA s 5 2 (aX s 5 2):=fP s 5 2 ab f ab;obtain⟨ev,ee⟩:=Cx G Z F q;rw[ee] at c;rw[ev] at a;refine GO 5 ?_;intro _ Z;refine cU Z rfl (B _) fun _ Z=>?_;refine GO 1 ?_;intro _ Z;refine cU Z rfl (H _) fun _ Z=>?_;refine GO 16 ?_;intro _ Z;refine ak (Z.ev rfl) (fun A=>?_) (fun A=>?_)
   ·
    rw[if_pos (of_decide_eq_true A)] at c;subst c;refine ai (an ?_);refine sv Z (ay (zs:=jj) (pl:=jl) aa aa (Z.evs2 rfl) rfl rfl) fun _ Z=>?_;refine sw Z U 0 fun _ U=>?_;refine GO 5 ?_;intro _ Z;refine br Z rfl rfl rfl U (i:=0) rfl aa aa ?_;exact⟨by rw[a];rfl,U.below⟩
   ·
    have Z:=of_decide_eq_false A;rw[if_neg Z] at c;refine GO 14 ?_;intro _ m;refine ak (m.ev rfl) (fun r=>?_) (fun r=>?_)
    ·
     rw[if_pos (of_decide_eq_true r)] at c;subst c;refine ai (an ?_);refine sv m (ay (zs:=jj) (pl:=jl) aa aa (m.evs2 rfl) rfl rfl) fun _ Z=>?_;refine sw Z U 0 fun _ U=>?_;refine GO 5 ?_;intro _ Z;refine br Z rfl rfl rfl U (i:=0) rfl aa aa ?_;exact⟨by rw[a];rfl,U.below⟩
    ·
     have Z:=of_decide_eq_false r;rw[if_neg Z] at c;refine wp_skip (aj (ai ?_));apply dN m (fun _=>False) [] [(18,141)] [false,false,false,false,false,false,false,false,false,false,false,false,false,false,false,false,false,true,true] _ aa bC
     case h=>
      refine GO 1 ?_;intro _ Z;refine gp Z rfl (fun X d=>I _) fun _ Z=>?_;refine GO 1 ?_;intro _ Z;refine gp Z rfl (fun X d=>J _) fun _ Z=>?_;refine GO 1 ?_;intro _ Z;refine gp Z rfl (fun X d=>C _) fun _ Z=>?_;refine GO 1 ?_;intro _ Z;refine gp Z rfl (fun X d=>o _) fun _ Z=>?_;refine GO 2 ?_;intro _ Z;refine qv Z (fun X d=>aA (v':=ae ((11+N:Nat):Int)) (congrArg _ ab) (cy (Z.ev rfl) (Z.ev rfl) ab)) fun _ Z=>?_;refine qv Z (fun X d=>bf (l:=11) (h:=11+N) dh (Z.ev rfl) (Z.ev rfl) (Z.ev rfl) ab ab) fun _ Z=>?_;refine GO 2 ?_;intro _ Z;refine qv Z (fun X d=>aA (v':=ae ((11+N:Nat):Int)) (congrArg _ ab) (cy (Z.ev rfl) (Z.ev rfl) ab)) fun _ Z=>?_;refine qv Z (fun X d=>bf (l:=11+N) (h:=s.size) dh (Z.ev rfl) (Z.ev rfl) rfl ab ab) fun _ Z=>?_;refine qv (v:=gm (EN s N)) Z (fun X d=>ay (zs:=jj) (pl:=jl) aa aa (Z.evs2 rfl) rfl rfl) fun _ Z=>?_;refine ax ?_;apply cJ (O:=(fun _=>False)) (k:=17) (deps:=[]) (R:=NewAny _ 6 _) Z rfl rfl rfl bC NewAny.stable bC (kZ NewAny.newT)
      case hx=>exact fun X d P=>jh (dM (z:=.agg sU) aa) d.size rfl
      intro v6 _ Z;apply fj (k:=18) (deps:=[17]) (kx:=17) (x:=6) (y:=52) (Y:=tn _) Z rfl ⟨rfl,rfl⟩ rfl bC ⟨rfl,rfl⟩ rfl iC rfl rfl (n:=6) aa bC
      case hx=>
       intro X d P;exact⟨(aN (k:=17) P rfl rfl),rfl,rfl⟩
      intro j;refine gi (O:=(fun _=>False)) bC fun _ V W=>?_;obtain⟨b6,rfl,Zi,g⟩:=StoY.val (v:=j) Z rfl (aF W (k:=18) rfl);have U:=U.add (Grw.below V) (e:=.box _ _ _) g (fun b hb=>by cases hb;exact⟨Zi,Box.lt g⟩);refine ah (aj (ai (ai (an ?_))));refine sv (v:=gm (EN s N)) Z (ag aa aa (Z.ev rfl) (U.cellsAll (i:=0) rfl)) fun _ Z=>?_;refine cN Z rfl U (mD (EN s N) _ (by show(s.extract 11 (11+N)).size≤3100;rw[ByteArray.size_extract];omega) (by show(s.extract (11+N) s.size).size≤3100;rw[ByteArray.size_extract];omega)) fun _ _ Z U=>?_;refine GO 9 ?_;intro _ Z;refine ak (Z.ev rfl) (fun p=>?_) (fun p=>?_)
      ·
       have K:E≠0:=by rw[c];simpa using p
       rw[if_neg K] at a;refine ai (an ?_);refine sv Z (ay (zs:=jj) (pl:=jl) aa aa (Z.evs2 rfl) rfl rfl) fun _ Z=>?_;refine GO 1 ?_;intro _ Z;refine sw Z U 1 fun _ U=>?_;refine GO 5 ?_;intro _ Z;refine br Z rfl rfl rfl U (i:=1) rfl aa aa ?_;exact⟨by rw[a,c];rfl,U.below⟩
      ·
       have Q:E=0:=by rw[c];simpa using p
       rw[if_pos Q] at a;refine wp_skip (aj (ai (an ?_)));refine sv Z (ag aa aa (Z.ev rfl) (U.cellsAll (i:=0) rfl)) fun _ Z=>?_;refine sw Z U 1 fun _ U=>?_;refine GO 4 ?_;intro _ Z;refine br Z rfl rfl rfl U (i:=1) rfl aa aa ?_;exact⟨by rw[a,Q];rfl,U.below⟩
     case hB=>kernel_rfl
open Go.RowKit Go.Sort
def FK:Lge:=⟨0,0,0,0,0,false,Fv,⟨#[]⟩⟩
def fc (s:ByteArray):ByteArray:=s.extract (16+(aX s 14 2).toNat) s.size
def je (s:ByteArray):Lge:=⟨aX s 0 1,aX s 2 2,aX s 4 4,aX s 8 4,aX s 12 2,aX s 1 1==1,AV (fc s),s.extract 16 (16+(aX s 14 2).toNat)⟩
def cx (s:ByteArray):Int:=if 3000<s.size then 8 else if s.size<16 then 14 else if (s.size:Int)<16+aX s 14 2 then 14 else if 1<aX s 1 1 then 3 else if nZ (fc s)≠0 then nZ (fc s) else cD (je s)
def dW (s:ByteArray):Lge:=if cx s=0 then je s else FK
theorem uj (s:ByteArray) (a:s.size≤3100):(AV s).o.size≤3100∧(AV s).n.size≤3100:=by
 unfold AV
 split
 · unfold Dx;dsimp only
   rw[ByteArray.size_extract,ByteArray.size_extract];omega
 · exact⟨Nat.zero_le _,Nat.zero_le _⟩
def nD (s:ByteArray) (N:Nat):Lge:=⟨aX s 0 1,aX s 2 2,aX s 4 4,aX s 8 4,aX s 12 2,aX s 1 1==1,AV (s.extract (16+N) s.size),s.extract 16 (16+N)⟩
theorem yH {s:ByteArray} {N:Nat} (d:¬3000<s.size) (c:¬s.size<16) (a:aX s 14 2=N):fc s=s.extract (16+N) s.size∧je s=nD s N∧cx s=if (s.size:Int)<16+(N:Int) then 14 else if 1<aX s 1 1 then 3 else if nZ (s.extract (16+N) s.size)≠0 then nZ (s.extract (16+N) s.size) else cD (nD s N):=by
 have b:fc s=s.extract (16+N) s.size:=by unfold fc;rw[a];rfl
 have ev:je s=nD s N:=by unfold je nD;rw[a,b];rfl
 exact⟨b,ev,by unfold cx;rw[if_neg d,if_neg c,a,ev,b]⟩
theorem vJ {s:ByteArray} {N:Nat} (h:s.size≤3000):(nD s N).o.o.size≤3100∧(nD s N).o.n.size≤3100∧(nD s N).d.size≤maxLen:=by
 have:=uj (s.extract (16+N) s.size) (by rw[ByteArray.size_extract];omega);refine⟨this.1,this.2,?_⟩;show(s.extract 16 (16+N)).size≤maxLen;unfold maxLen;rw[ByteArray.size_extract];omega
theorem qm (s:ByteArray) (w:World) (j:s.size≤maxLen) :
 bz 110 #[.string s] w (.tuple #[cZ (dW s),ae (cx s)]):=by
 have D:=j;unfold maxLen at D;obtain⟨E,c⟩:∃E,E=cx s:=⟨_,rfl⟩;obtain⟨R,T⟩:∃R,R=dW s:=⟨_,rfl⟩
 have a:R=if E=0 then je s else FK:=by rw[T,c];rfl
 rw[←c,←T];refine aq (N:=68) Tryz.func110 rfl rfl rfl (fun _ Z=>?_);have U:=St.init w;refine ai (an ?_);refine na (.agg q8) Z rfl U fun b2 _ _ Zj u U=>GO 6 ?_;intro _ Z;refine GO 1 ?_;intro _ Z;refine GO 4 ?_;intro _ Z;refine ak (Z.ev rfl) (fun M=>?_) (fun M=>?_)
 ·
  have Q:cx s=8:=by unfold cx;rw[if_pos (by have:=of_decide_eq_true M;omega)]
  rw[Q] at c;subst c;refine ai (an ?_);refine sv Z (ay (zs:=jT) (pl:=jS) aa aa (Z.evs2 rfl) rfl rfl) fun _ Z=>?_;refine sw Z U 0 fun _ U=>?_;refine GO 5 ?_;intro _ Z;refine br Z rfl rfl rfl U (i:=0) rfl aa aa ?_;exact⟨by rw[a];rfl,U.below⟩
 ·
  have u:¬3000<s.size:=by have:=of_decide_eq_false M;omega
  refine GO 10 ?_;intro _ Z;refine ak (Z.ev rfl) (fun C=>?_) (fun C=>?_)
  ·
   have Q:cx s=14:=by unfold cx;rw[if_neg u,if_pos (by have:=of_decide_eq_true C;omega)]
   rw[Q] at c;subst c;refine ai (an ?_);refine sv Z (ay (zs:=jT) (pl:=jS) aa aa (Z.evs2 rfl) rfl rfl) fun _ Z=>?_;refine sw Z U 0 fun _ U=>?_;refine GO 5 ?_;intro _ Z;refine br Z rfl rfl rfl U (i:=0) rfl aa aa ?_;exact⟨by rw[a];rfl,U.below⟩
  ·
   have Z:¬s.size<16:=by have:=of_decide_eq_false C;omega
   obtain⟨V,c7⟩:=gH s 14;obtain⟨N,H⟩:=Int.eq_ofNat_of_zero_le V;rw[H] at c7
   have q:LA s 14 2 N:=by rw[←H];exact fP s 14 2 ab j ab
   have K:LA s 0 1 (aX s 0 1):=fP s 0 1 ab j ab;have P:LA s 1 1 (aX s 1 1):=fP s 1 1 ab j ab;have J:LA s 2 2 (aX s 2 2):=fP s 2 2 ab j ab;have L:LA s 4 4 (aX s 4 4):=fP s 4 4 ab j ab;have I:LA s 8 4 (aX s 8 4):=fP s 8 4 ab j ab;have o:LA s 12 2 (aX s 12 2):=fP s 12 2 ab j ab;obtain⟨et,ev,ee⟩:=yH u Z H;rw[ee] at c;rw[ev] at a;have m:=vJ (N:=N) (Nat.le_of_not_lt u);refine GO 5 ?_;intro _ Z;refine cU Z rfl (q _) fun _ Z=>?_;refine GO 13 ?_;intro _ Z;refine ak (Z.ev rfl) (fun G=>?_) (fun G=>?_)
   ·
    rw[if_pos (of_decide_eq_true G)] at c;subst c;refine ai (an ?_);refine sv Z (ay (zs:=jT) (pl:=jS) aa aa (Z.evs2 rfl) rfl rfl) fun _ Z=>?_;refine sw Z U 0 fun _ U=>?_;refine GO 5 ?_;intro _ Z;refine br Z rfl rfl rfl U (i:=0) rfl aa aa ?_;exact⟨by rw[a];rfl,U.below⟩
   ·
    have Z:=of_decide_eq_false G;rw[if_neg Z] at c;refine GO 5 ?_;intro _ Z;refine cU Z rfl (P _) fun _ Z=>?_;refine GO 10 ?_;intro _ Z;refine ak (Z.ev rfl) (fun F=>?_) (fun F=>?_)
    ·
     rw[if_pos (of_decide_eq_true F)] at c;subst c;refine ai (an ?_);refine sv Z (ay (zs:=jT) (pl:=jS) aa aa (Z.evs2 rfl) rfl rfl) fun _ Z=>?_;refine sw Z U 0 fun _ U=>?_;refine GO 5 ?_;intro _ Z;refine br Z rfl rfl rfl U (i:=0) rfl aa aa ?_;exact⟨by rw[a];rfl,U.below⟩
    ·
     rw[if_neg (of_decide_eq_false F)] at c;refine GO 6 ?_;intro _ Z;refine sv Z (aA (v':=ae ((16+N:Nat):Int)) (congrArg _ ab) (cy (Z.ev rfl) (Z.ev rfl) ab)) fun _ Z=>?_;refine sv Z (bf (l:=16+N) (h:=s.size) dh (Z.ev rfl) (Z.ev rfl) rfl ab ab) fun _ Z=>?_;refine cN Z rfl U (Ax _ _ (by rw[ByteArray.size_extract];unfold maxLen;omega)) fun _ _ Z U=>?_;refine GO 3 ?_;intro _ Z;refine na (.agg sU) Z rfl U fun b6 _ _ Zk Z U=>sw Z U 0 fun _ U=>?_;refine GO 10 ?_;intro _ Z;refine ak (Z.ev rfl) (fun B=>?_) (fun B=>?_)
     ·
      have f:nZ (s.extract (16+N) s.size)≠0:=ar B;rw[if_pos f] at c;rw[if_neg (by rw[c];exact f)] at a;refine ai (an ?_);refine sv Z (ay (zs:=jT) (pl:=jS) aa aa (Z.evs2 rfl) rfl rfl) fun _ Z=>?_;refine GO 1 ?_;intro _ Z;refine sw Z U 1 fun _ U=>?_;refine GO 5 ?_;intro _ Z;refine br Z rfl rfl rfl U (i:=1) rfl aa aa ?_;exact⟨by rw[a,c];rfl,U.below⟩
     ·
      have W:nZ (s.extract (16+N) s.size)=0:=ar B;rw[if_neg (fun g=>g W)] at c;refine wp_skip (aj (ai ?_));apply dN Z (fun _=>False) [] [(19,143)] [false,false,false,false,false,false,false,false,false,false,false,false,false,false,false,false,false,false,true,true] _ aa bC
      case h=>
       refine GO 1 ?_;intro _ Z;refine gp Z rfl (fun X d=>K _) fun _ Z=>?_;refine GO 3 ?_;intro _ Z;refine gp Z rfl (fun X d=>J _) fun _ Z=>?_;refine GO 1 ?_;intro _ Z;refine gp Z rfl (fun X d=>L _) fun _ Z=>?_;refine GO 1 ?_;intro _ Z;refine gp Z rfl (fun X d=>I _) fun _ Z=>?_;refine GO 1 ?_;intro _ Z;refine gp Z rfl (fun X d=>o _) fun _ Z=>?_;refine GO 2 ?_;intro _ Z;refine qv Z (fun X d=>aA (v':=ae ((16+N:Nat):Int)) (congrArg _ ab) (cy (Z.ev rfl) (Z.ev rfl) ab)) fun _ Z=>?_;refine qv Z (fun X d=>bf (l:=16) (h:=16+N) dh (Z.ev rfl) (Z.ev rfl) (Z.ev rfl) ab ab) fun _ Z=>?_;refine qv Z (fun X d=>ag aa aa (Z.ev rfl) ((U.grow (Grw.below d)).cellsAll (i:=0) rfl)) fun _ Z=>?_;refine qv (v:=cZ (nD s N)) Z (fun X d=>ay (zs:=jT) (pl:=jS) aa aa (Z.evs2 rfl) rfl rfl) fun _ Z=>?_;refine ax ?_;apply cJ (O:=(fun _=>False)) (k:=18) (deps:=[]) (R:=NewAny _ 13 _) Z rfl rfl rfl bC NewAny.stable bC (kZ NewAny.newT)
       case hx=>exact fun X d S=>jh (dM (z:=.agg q8) aa) d.size rfl
       intro v8 _ Z;apply fj (k:=19) (deps:=[18]) (kx:=18) (x:=8) (y:=60) (Y:=tn _) Z rfl ⟨rfl,rfl⟩ rfl bC ⟨rfl,rfl⟩ rfl iC rfl rfl (n:=13) aa bC
       case hx=>
        intro X d S;exact⟨(aN (k:=18) S rfl rfl),rfl,rfl⟩
       intro r;refine gi (O:=(fun _=>False)) bC fun _ Zf Zg=>?_;obtain⟨b8,rfl,Zi,p⟩:=StoY.val (v:=r) Z rfl (aF Zg (k:=19) rfl);have U:=U.add (Grw.below Zf) (e:=.box _ _ _) p (fun b hb=>by cases hb;exact⟨Zi,Box.lt p⟩);refine ah (aj (ai (ai (an ?_))));refine sv (v:=cZ (nD s N)) Z (ag aa aa (Z.ev rfl) (U.cellsAll (i:=0) rfl)) fun _ Z=>?_;refine cN Z rfl U (gd (nD s N) _ m.1 m.2.1 m.2.2) fun _ _ Z U=>?_;refine GO 9 ?_;intro _ Z;refine ak (Z.ev rfl) (fun A=>?_) (fun A=>?_)
       ·
        have f:E≠0:=by rw[c];simpa using A
        rw[if_neg f] at a;refine ai (an ?_);refine sv Z (ay (zs:=jT) (pl:=jS) aa aa (Z.evs2 rfl) rfl rfl) fun _ Z=>?_;refine GO 1 ?_;intro _ Z;refine sw Z U 2 fun _ U=>?_;refine GO 5 ?_;intro _ Z;refine br Z rfl rfl rfl U (i:=2) rfl aa aa ?_;exact⟨by rw[a,c];rfl,U.below⟩
       ·
        have t:E=0:=by rw[c];simpa using A
        rw[if_pos t] at a;refine wp_skip (aj (ai (an ?_)));refine sv Z (ag aa aa (Z.ev rfl) (U.cellsAll (i:=0) rfl)) fun _ Z=>?_;refine sw Z U 2 fun _ U=>?_;refine GO 4 ?_;intro _ Z;refine br Z rfl rfl rfl U (i:=2) rfl aa aa ?_;exact⟨by rw[a,t];rfl,U.below⟩
      case hB=>kernel_rfl
open Go.RowKit Go.Sort
theorem C0 (s:ByteArray) (B N:Nat) (h:B+N≤s.size):(s.extract B s.size).extract 0 N=s.extract B (B+N):=by
 apply dU;rw[bL,bL,bL];apply List.ext_getElem?;intro i;rw[List.getElem?_drop,List.getElem?_take,List.getElem?_drop,List.getElem?_take,List.getElem?_drop,List.getElem?_take,Nat.zero_add];by_cases a:i<N
 · rw[if_pos a,if_pos ab,if_pos ab]
 · rw[if_neg a,if_neg ab]
theorem CO (s:ByteArray) (B N:Nat) (h:B+N≤s.size):(s.extract B s.size).extract N (s.extract B s.size).size=s.extract (B+N) s.size:=by
 apply dU;rw[bL,bL,bL,ByteArray.size_extract];apply List.ext_getElem?;intro i;rw[List.getElem?_drop,List.getElem?_take,List.getElem?_drop,List.getElem?_take,List.getElem?_drop,List.getElem?_take];by_cases a:B+N+i<s.size
 · rw[if_pos ab,if_pos ab,if_pos ab,Nat.add_assoc]
 · rw[if_neg ab,if_neg ab]
theorem D6 (s:ByteArray) (i c:Nat):num (bl ((s.extract i s.size).extract 0 c))=aX s i c:=by rw[sO];rfl
theorem EF (s:ByteArray) (i j c:Nat) (h:j=i+c):num (bl (s.extract i j))=aX s i c:=by
 subst h;rw[bL];unfold aX
 congr 1
 apply List.ext_getElem?;intro k;rw[List.getElem?_drop,List.getElem?_take,List.getElem?_take,List.getElem?_drop];by_cases h:k<c
 · rw[if_pos h,if_pos ab]
 · rw[if_neg h,if_neg ab]
theorem Box.other {w:World} {b g:Nat} {cs:Array Value} {T:TypeId} (h:Box w b cs T) (j:Nat) (v:Value) (a:b≠g):Box (w.setCell ⟨g,j,none⟩ v) b cs T:=(heap_setCell_other w _ b v a).trans h
theorem xk (s:ByteArray) (i c:Nat) (a:c≤6) (W:World):bz 171 #[.string ((s.extract i s.size).extract 0 c)] W (ae (aX s i c)):=by
 rw[←D6];exact fR _ W (by rw[ByteArray.size_extract];omega)
theorem eJ (s:ByteArray) (i j c:Nat) (h:j=i+c) (a:c≤6) (W:World):bz 171 #[.string (s.extract i j)] W (ae (aX s i c)):=by
 rw[←EF s i j c h];exact fR _ W (by rw[ByteArray.size_extract];omega)
def Hf (s:ByteArray) (i j:Nat):Value:=ae (bif Nat.blt i j then aX s (1+2*i) 2 else 0)
def rS (a b c:Nat):Nat→Value
 | 0=>.pointer (some ⟨a,1,none⟩)
 | 1=>.pointer (some ⟨a,2,none⟩)
 | 2=>.pointer (some ⟨a,3,none⟩)
 | 3=>.pointer (some ⟨b,0,none⟩)
 | _=>.pointer (some ⟨c,0,none⟩)
def HO (s:ByteArray) (d b a c j:Nat):List Ent:=[.box c #[Hf s 4 j] 3,.box a #[Hf s 3 j] 3,.box b #[ae (aX s 0 1),Hf s 0 j,Hf s 1 j,Hf s 2 j,.string ⟨#[]⟩,.string ⟨#[]⟩] 141,.box d #[ae 0,ae 0,ae 0,ae 0,.string ⟨#[]⟩,.string ⟨#[]⟩] 141]
theorem F1 {ρ:Operand→Value} {X:World} {d:Option Tmp} {ty:TypeId} {ps:String} {f:Array Edge} {g:Option (Nat × Bool)} {x y:Operand} {b a c j:Nat} (i:j<5) (hx:ρ x=.agg #[rS b a c 0,rS b a c 1,rS b a c 2,rS b a c 3,rS b a c 4]) (h:ρ y=ae (j:Nat)) :
 (execOp ρ ⟨d,.index 311 x y,ty,ps,f,g⟩).run Tryz.prog X=.ok (.value (rS b a c j)) X:=by
 have e:(Instr.index 311 (.agg #[rS b a c 0,rS b a c 1,rS b a c 2,rS b a c 3,rS b a c 4]) (ae (j:Nat))).run Tryz.prog X=.ok (rS b a c j) X:=by
  have:j=0∨j=1∨j=2∨j=3∨j=4:=by omega
  rcases this with rfl | rfl | rfl | rfl | rfl<;>(show _=Result.ok _ _;first | kernel_rfl | rfl)
 simp[execOp,hx,h,e]
theorem Gx {P:Program} {ρ:Operand→Value} {X:World} {d:Option Tmp} {ty:TypeId} {ps:String} {e:Array Edge} {g:Option (Nat × Bool)} {x:Operand} {b a c j:Nat} (f:j<5) (hx:ρ x=rS b a c j):(execOp ρ ⟨d,.nilCheck x,ty,ps,e,g⟩).run P X=.ok (.value (rS b a c j)) X:=by
 have:j=0∨j=1∨j=2∨j=3∨j=4:=by omega
 rcases this with rfl | rfl | rfl | rfl | rfl<;>exact px hx
theorem Gd {ops:Array Oper} {rest:List Oper} {o:Oper} {a:Act} {Q:Exit→Act→World→Prop} {w X:World} {N:Nat} {l:List (Nat × Value)} {s:ByteArray} {p y:Operand} {n g h m j:Nat} (f:Has [] a N l) (b:Region.wanted o (yielded ops a.tmps)=true) (d:o.op=.store 3 p y∧o.dst=none) (hx:a.eval p=rS g h m j) (e:a.eval y=ae (aX s (1+2*j) 2)) (q:j<5)
 (c:St [] w X (HO s n g h m j)) (k:∀X',St [] w X' (HO s n g h m (j+1))→wpList Tryz.prog ops Q rest a X'):wpList Tryz.prog ops Q (o::rest) a X:=by
 have:j=0∨j=1∨j=2∨j=3∨j=4:=by omega
 rcases this with rfl | rfl | rfl | rfl | rfl
 · exact aM f b d hx e rfl aa c (i:=2) rfl rfl rfl k
 · exact aM f b d hx e rfl aa c (i:=2) rfl rfl rfl k
 · exact aM f b d hx e rfl aa c (i:=2) rfl rfl rfl k
 · exact aM f b d hx e rfl aa c (i:=1) rfl rfl rfl k
 · exact aM f b d hx e rfl aa c (i:=0) rfl rfl rfl k
theorem zV {ds:List Deferred} {P:Program} {ops:Array Oper} {rest:List Oper} {o:Oper} {a:Act} {Q:Exit→Act→World→Prop} {X:World} {N d:Nat} {l:List (Nat × Value)} (f:Has ds a N l) (j:o.guard=none) (t:TypeId) (b:Array (Nat × Operand)) (i:o.op=.build t b) {us:List Value} (n:b.toList.map (fun p=>a.eval p.2)=us)
 (cells:Array Value) (g:P.built t ((b.toList.map (·.1)).zip us)=some cells) (m:o.dst=some d) (e:Nat.blt d N=true) (k:∀c,Has ds c N ((d,.agg cells)::l)→wpList P ops Q rest c X):wpList P ops Q (o::rest) a X:=
 cI j t b i cells (by
  have h:∀l:List (Nat × Operand),l.map (fun x=>(x.1,a.eval x.2))=(l.map (·.1)).zip (l.map fun p=>a.eval p.2):=by
   intro l
   induction l with
   | nil=>rfl
   | cons p l ih=>simp[ih]
  rw[←g,←n,←h];simp) (by rw[m];exact k _ (f.put e _))
theorem CU (s:ByteArray) (w:World) (O:s.size≤maxLen) :
 bz 172 #[.string s] w (.tuple #[gm (AV s),ae (nZ s)]):=by
 have G:=O;unfold maxLen at G;obtain⟨E,o⟩:∃E,E=nZ s:=⟨_,rfl⟩;obtain⟨R,L⟩:∃R,R=AV s:=⟨_,rfl⟩
 have a:R=if E=0 then Dx s else Fv:=by rw[L,o];rfl
 rw[←o,←L];refine aq (N:=86) Tryz.func172 rfl rfl rfl (fun _ Y=>?_);have Z:=St.init w;refine ai (an ?_);refine na (.agg sU) Y rfl Z fun U _ _ Zk B Z=>GO 6 ?_;intro _ D;refine GO 3 ?_;intro _ Y;refine cU Y rfl (aE _ _ _) fun _ Y=>?_;refine GO 3 ?_;intro _ Y;refine cU Y rfl (aE _ _ _) fun _ Y=>?_;refine bV Y (wn rfl) (f:=fun b=>.slice (some ⟨b,0,none⟩) 2 2) (bb cT aa aa (Y.evs2 rfl) rfl rfl rfl au au) rfl rfl Z fun Q _ _ Zh Y Z=>cU Y rfl (fm (Z.at_ (i:=0) rfl)) fun _ Y=>?_;refine GO 9 ?_;intro _ Y;refine ak (Y.ev rfl) (fun F=>?_) (fun F=>?_)
 ·
  have d:aw [bF (decide ((s.size:Int)≤1035)) 8,bF (decide ((s.size:Int)≥11)) 14]≠0:=ar F
  have A:aw [bF (decide ((s.size:Int)≤1035)) 8,bF (decide ((s.size:Int)≥11)) 14]=nZ s:=by
   by_cases B:1035<s.size
   · unfold nZ;rw[if_pos B,decide_eq_false ab];rfl
   · by_cases D:s.size<11
     · unfold nZ;rw[if_neg B,if_pos D,decide_eq_true ab,decide_eq_false ab];rfl
     · exact absurd (by rw[decide_eq_true ab,decide_eq_true ab];rfl) d
  rw[if_neg (by rw[o,←A];exact d)] at a;refine ai (an ?_);refine sv Y (ay (zs:=jj) (pl:=jl) aa aa (Y.evs2 rfl) rfl rfl) fun _ Y=>?_;refine GO 1 ?_;intro _ Y;refine sw Y Z 1 fun _ Z=>?_;refine GO 5 ?_;intro _ Y;refine br Y rfl rfl rfl Z (i:=1) rfl aa aa ?_;exact⟨by rw[a,o,←A];rfl,Z.below⟩
 ·
  have q:aw [bF (decide ((s.size:Int)≤1035)) 8,bF (decide ((s.size:Int)≥11)) 14]=0:=ar F
  have B:¬1035<s.size:=fun h=>by rw[decide_eq_false ab] at q;cases q
  have D:¬s.size<11:=fun h=>by rw[decide_eq_true ab,decide_eq_false ab] at q;cases q
  refine GO 5 ?_;intro _ Y;refine sv Y (bf (l:=0) (h:=1) dh (Y.ev rfl) rfl (Y.ev rfl) ab ab) fun _ Y=>?_;refine cN Y rfl Z (eJ s 0 1 1 rfl ab _) fun _ _ Y Z=>?_;refine sv Y (ay (zs:=jj) (pl:=jl) aa aa (Y.evs2 rfl) rfl rfl) fun _ Y=>?_;refine na (.agg sU) Y rfl Z fun t _ _ Zl Y Z=>sw Y Z 0 fun _ Z=>?_;refine mM ?_;refine na (ae 0) Y rfl Z fun y _ _ Zm Y Z=>na (ae 0) Y rfl Z fun u _ _ Zn Y Z=>GO 8 ?_;intro _ Y;refine zV Y rfl 311 _ rfl (Y.evs2 rfl) #[rS t y u 0,rS t y u 1,rS t y u 2,rS t y u 3,rS t y u 4] aa rfl rfl fun _ Y=>GO 4 ?_;intro _ Y;refine aY Y Z [34,7,6,5,3,2,0] (fun (j:Nat)=>[(35,ae (j:Nat))]) (fun (j:Nat)=>j≤5) (fun j _=>HO s U t y u j) (fun (j:Nat)=>5-j) (0) ((Nat.zero_le _)) bN ((Z.sub (aL 23))) ?_;intro j _ _ Zo Y Z;refine GO 6 ?_;intro _ Y;refine ak (Y.ev rfl) (fun I=>?_) (fun I=>?_)
  ·
   have K:j<5:=by have:=of_decide_eq_true I;omega
   refine GO 7 ?_;intro _ Y;refine sv Y (F1 K (Y.ev rfl) (Y.ev rfl)) fun _ Y=>?_;refine GO 8 ?_;intro _ Y;refine sv Y (gg (Y.ev rfl) (Y.ev rfl) ab) fun _ Y=>?_;refine sv Y (aA (v':=ae ((1+2*j:Nat):Int)) (congrArg _ ab) (cy (Y.ev rfl) (Y.ev rfl) ab)) fun _ Y=>?_;refine sv Y (bf (l:=1+2*j) (h:=s.size) dh (Y.ev rfl) (Y.ev rfl) rfl ab ab) fun _ Y=>?_;refine sv Y (bf (l:=0) (h:=2) dh (Y.ev rfl) rfl (Y.ev rfl) ab (by rw[ByteArray.size_extract];omega)) fun _ Y=>?_;refine cN Y rfl Z (xk s (1+2*j) 2 ab _) fun _ _ Y Z=>?_;refine sv Y (Gx K (Y.ev rfl)) fun _ Y=>?_;refine Gd Y (wn rfl) ⟨rfl,rfl⟩ (Y.ev rfl) (Y.ev rfl) K Z fun _ Z=>GO 8 ?_;intro _ Y;exact⟨j+1,by omega,by omega,Y.re bN,Z⟩
  ·
   obtain rfl:j=5:=by have:=of_decide_eq_false I;omega
   obtain⟨T,c7⟩:=gH s 7;obtain⟨V,c9⟩:=gH s 9;obtain⟨N,x⟩:=Int.eq_ofNat_of_zero_le T;obtain⟨M,C⟩:=Int.eq_ofNat_of_zero_le V;rw[x] at c7;rw[C] at c9;obtain⟨ev,ee⟩:=Cx B D x C;rw[ee] at o;rw[ev] at a
   have z:(s.extract 11 s.size).size=s.size-11:=by rw[ByteArray.size_extract];omega
   have hF:aw [bF (decide (((s.size-11:Nat):Int)≥(N:Int)+M)) 14,bF (decide (((s.size-11:Nat):Int)≤(N:Int)+M)) 3]=if (s.size:Int)<11+(N:Int)+M then 14 else if 11+(N:Int)+M<(s.size:Int) then 3 else 0:=by
    by_cases e:(s.size:Int)<11+(N:Int)+M
    · rw[if_pos e,decide_eq_false ab];rfl
    · rw[if_neg e,decide_eq_true ab]
      by_cases r:11+(N:Int)+M<(s.size:Int)
      · rw[if_pos r,decide_eq_false ab];rfl
      · rw[if_neg r,decide_eq_true ab];rfl
   refine GO 8 ?_;intro _ Y;refine sv Y (bf (l:=11) (h:=s.size) dh (Y.ev rfl) (Y.ev rfl) rfl ab ab) fun _ Y=>?_;refine GO 5 ?_;intro _ Y;apply aK Y (fA 13) _ aa
   case h=>
    refine GO 1 ?_;intro _ Y;refine qv Y (fun X c=>aA (v':=ae ((s.size-11:Nat):Int)) (congrArg (fun n:Nat=>Value.int .i64 n) z) (kB dh (Y.ev rfl))) fun _ Y=>?_;refine qv Y (fun X c=>aA (v':=ae (N:Int)) (congrArg _ x) (lx (Y.ev rfl) ((Z.grow c).cell (i:=1) rfl rfl))) fun _ Y=>?_;refine qv Y (fun X c=>aA (v':=ae (M:Int)) (congrArg _ C) (lx (Y.ev rfl) ((Z.grow c).cell (i:=0) rfl rfl))) fun _ Y=>?_;refine GO 2 ?_;intro _ Y;refine gp Y rfl (fun X c=>aE _ _ _) fun _ Y=>?_;refine GO 1 ?_;intro _ Y;refine qv Y (fun X c=>aA (v':=ae ((s.size-11:Nat):Int)) (congrArg (fun n:Nat=>Value.int .i64 n) z) (kB dh (Y.ev rfl))) fun _ Y=>?_;refine qv Y (fun X c=>aA (v':=ae (N:Int)) (congrArg _ x) (lx (Y.ev rfl) ((Z.grow c).cell (i:=1) rfl rfl))) fun _ Y=>?_;refine qv Y (fun X c=>aA (v':=ae (M:Int)) (congrArg _ C) (lx (Y.ev rfl) ((Z.grow c).cell (i:=0) rfl rfl))) fun _ Y=>?_;refine GO 3 ?_;intro _ Y;refine aV fun _ S Zi=>?_;have Z:=Z.grow S;refine cU Y rfl (aE _ _ _) fun _ Y=>?_;refine bV Y (wn rfl) (f:=fun b=>.slice (some ⟨b,0,none⟩) 2 2) (bb cT aa aa (Y.evs2 rfl) rfl rfl rfl au au) rfl rfl Z fun Jv _ _ Zj Y Z=>cU Y rfl (fm (Z.at_ (i:=0) rfl)) fun _ Y=>?_;refine GO 9 ?_;intro _ Y;refine ak (Y.ev rfl) (fun p=>?_) (fun p=>?_)
    ·
     rw[hF] at Y p
     have d:E=(if (s.size:Int)<11+(N:Int)+M then 14 else if 11+(N:Int)+M<(s.size:Int) then 3 else 0)∧E≠0:=by
      rw[o];by_cases e:(s.size:Int)<11+(N:Int)+M
      · rw[if_pos e,if_pos e];exact⟨rfl,by decide⟩
      · rw[if_neg e] at p
        rw[if_neg e,if_neg e];by_cases r:11+(N:Int)+M<(s.size:Int)
        · rw[if_pos r,if_pos r];exact⟨rfl,by decide⟩
        · rw[if_neg r] at p;cases p
     rw[if_neg d.2] at a;refine ai (an ?_);refine sv Y (ay (zs:=jj) (pl:=jl) aa aa (Y.evs2 rfl) rfl rfl) fun _ Y=>?_;refine GO 1 ?_;intro _ Y;refine sw Y Z 4 fun _ Z=>?_;refine GO 5 ?_;intro _ Y;refine br Y rfl rfl rfl Z (i:=4) rfl aa aa ?_;exact⟨by rw[a,d.1];rfl,Z.below⟩
    ·
     rw[hF] at p
     have e:¬(s.size:Int)<11+(N:Int)+M:=fun g=>by rw[if_pos g] at p;cases p
     have r:¬11+(N:Int)+M<(s.size:Int):=fun g=>by rw[if_neg e,if_pos g] at p;cases p
     rw[if_neg e,if_neg r] at o;refine wp_skip (aj (ai ?_));apply iS (m:=7) Y (St.domAt Z (i:=3) rfl) 0 [false,false,false,false,false,false,false,true] _ aa
     case h=>
      refine GO 1 ?_;intro _ Y;refine qv Y (fun X c=>aA (v':=ae (N:Int)) (congrArg _ x) (lx (Y.ev rfl) ((Z.growO (i:=3) rfl c).cell (i:=2) rfl rfl))) fun _ Y=>?_;refine qv Y (fun X c=>aA (v':=.string (s.extract 11 (11+N))) (congrArg _ (C0 s 11 N ab)) (bf (l:=0) (h:=N) dh (Y.ev rfl) rfl (Y.ev rfl) ab ab)) fun _ Y=>?_;refine GO 1 ?_;intro _ Y;refine qv Y (fun X c=>aA (v':=ae (N:Int)) (congrArg _ x) (lx (Y.ev rfl) ((Z.growO (i:=3) rfl c).cell (i:=2) rfl rfl))) fun _ Y=>?_;refine qv Y (fun X c=>aA (v':=.string (s.extract (11+N) s.size)) (congrArg _ (CO s 11 N ab)) (bf (l:=N) (h:=(s.extract 11 s.size).size) dh (Y.ev rfl) (Y.ev rfl) rfl ab ab)) fun _ Y=>?_;refine GO 2 ?_;intro _ Y;apply jY (k:=7) (deps:=[]) (R:=IsBox _ _ _) Y rfl rfl IsBox.stable (fun X c hΦ=>mw rfl (Y.ev rfl) (Y.ev rfl) rfl aa ((Z.grow c).at_ (i:=3) rfl) rfl rfl);intro H;refine nh fun _ P W=>?_;have Z:=Z.growBox (i:=3) (v:=H) rfl P (aF W (k:=7) rfl);refine GO 1 ?_;intro _ Y;refine aM Y (wn rfl) ⟨rfl,rfl⟩ (Y.ev rfl) (Y.ev rfl) rfl aa Z (i:=3) rfl rfl rfl fun _ Z=>ah (aj (ai (ai (an ?_))));refine sv (v:=gm (EN s N)) Y (ag aa aa (Y.ev rfl) (Z.cellsAll (i:=3) rfl)) fun _ Y=>?_;refine cN Y rfl Z (fY (EN s N) _ (by show(s.extract 11 (11+N)).size≤3100;rw[ByteArray.size_extract];omega) (by show(s.extract (11+N) s.size).size≤3100;rw[ByteArray.size_extract];omega)) fun _ _ Y Z=>?_;refine GO 9 ?_;intro _ Y;refine ak (Y.ev rfl) (fun J=>?_) (fun J=>?_)
      ·
       have d:E≠0:=by rw[o];simpa using J
       rw[if_neg d] at a;refine ai (an ?_);refine sv Y (ay (zs:=jj) (pl:=jl) aa aa (Y.evs2 rfl) rfl rfl) fun _ Y=>?_;refine GO 1 ?_;intro _ Y;refine sw Y Z 4 fun _ Z=>?_;refine GO 5 ?_;intro _ Y;refine br Y rfl rfl rfl Z (i:=4) rfl aa aa ?_;exact⟨by rw[a,o];rfl,Z.below⟩
      ·
       have A:E=0:=by rw[o];simpa using J
       rw[if_pos A] at a;refine wp_skip (aj (ai (an ?_)));refine sv Y (ag aa aa (Y.ev rfl) (Z.cellsAll (i:=3) rfl)) fun _ Y=>?_;refine sw Y Z 4 fun _ Z=>?_;refine GO 4 ?_;intro _ Y;refine br Y rfl rfl rfl Z (i:=4) rfl aa aa ?_;exact⟨by rw[a,A];rfl,Z.below⟩
     case hB=>kernel_rfl
     case hst=>rfl
   case hB=>kernel_rfl
   case hst=>rfl
open Go.RowKit Go.Sort
theorem AO (s:ByteArray) (i:Nat) (h:i<s.size):aX s i 1=(s[i].toNat:Int):=by
 unfold aX;rw[yy s i h];simp[num]
def DF (s:ByteArray) (N:Nat) (V:Op):Lge:=⟨aX s 0 1,aX s 2 2,aX s 4 4,aX s 8 4,aX s 12 2,aX s 1 1==1,V,s.extract 16 (16+N)⟩
theorem vk (s:ByteArray) (w:World) (hs:s.size≤maxLen) :
 bz 106 #[.string s] w (.tuple #[cZ (dW s),ae (cx s)]):=by
 have K:=hs;unfold maxLen at K;obtain⟨E,r⟩:∃E,E=cx s:=⟨_,rfl⟩;obtain⟨R,hR⟩:∃R,R=dW s:=⟨_,rfl⟩
 have c:R=if E=0 then je s else FK:=by rw[hR,r];rfl
 rw[←r,←hR];refine aq (N:=87) Tryz.func106 rfl rfl rfl (fun _ Z=>?_);have U:=St.init w;refine ai (an ?_);refine na (.agg q8) Z rfl U fun b2 _ _ Zs A U=>GO 6 ?_;intro _ J;refine GO 3 ?_;intro _ Z;refine cU Z rfl (aE _ _ _) fun _ Z=>?_;refine GO 3 ?_;intro _ Z;refine cU Z rfl (aE _ _ _) fun _ Z=>?_;refine bV Z (wn rfl) (f:=fun b=>.slice (some ⟨b,0,none⟩) 2 2) (bb cT aa aa (Z.evs2 rfl) rfl rfl rfl au au) rfl rfl U fun Jv _ _ Zm H U=>cU H rfl (fm (U.at_ (i:=0) rfl)) fun _ Z=>?_;refine GO 9 ?_;intro _ I;refine ak (I.ev rfl) (fun P=>?_) (fun P=>?_)
 ·
  have d:aw [bF (decide ((s.size:Int)≤3000)) 8,bF (decide ((s.size:Int)≥16)) 14]≠0:=ar P
  have C:aw [bF (decide ((s.size:Int)≤3000)) 8,bF (decide ((s.size:Int)≥16)) 14]=cx s:=by
   by_cases A:3000<s.size
   · unfold cx;rw[if_pos A,decide_eq_false ab];rfl
   · by_cases J:s.size<16
     · unfold cx;rw[if_neg A,if_pos J,decide_eq_true ab,decide_eq_false ab];rfl
     · exact absurd (by rw[decide_eq_true ab,decide_eq_true ab];rfl) d
  rw[if_neg (by rw[r,←C];exact d)] at c;refine ai (an ?_);refine sv I (ay (zs:=jT) (pl:=jS) aa aa (I.evs2 rfl) rfl rfl) fun _ Z=>?_;refine GO 1 ?_;intro _ Z;refine sw Z U 1 fun _ U=>?_;refine GO 5 ?_;intro _ Z;refine br Z rfl rfl rfl U (i:=1) rfl aa aa ?_;exact⟨by rw[c,r,←C];rfl,U.below⟩
 ·
  have q:aw [bF (decide ((s.size:Int)≤3000)) 8,bF (decide ((s.size:Int)≥16)) 14]=0:=ar P
  have A:¬3000<s.size:=fun h=>by rw[decide_eq_false ab] at q;cases q
  have J:¬s.size<16:=fun h=>by rw[decide_eq_true ab,decide_eq_false ab] at q;cases q
  have H:(((bl s).getD 1 0).toNat:Int)=aX s 1 1:=by rw[AO s 1 ab,List.getD_eq_getElem?_getD,List.getElem?_eq_getElem (by rw[aP];omega)];rfl
  obtain⟨p7,c7⟩:=gH s 14;obtain⟨N,S⟩:=Int.eq_ofNat_of_zero_le p7;rw[S] at c7;obtain⟨et,ev,ee⟩:=yH A J S;rw[ee] at r;rw[ev] at c;have p:=vJ (N:=N) (Nat.le_of_not_lt A)
  have L:(s.extract 16 s.size).size=s.size-16:=by rw[ByteArray.size_extract];omega
  have hF:aw [bF (decide (((s.size-16:Nat):Int)≥(N:Int))) 14,bF (decide (aX s 1 1≤1)) 3]=if (s.size:Int)<16+(N:Int) then 14 else if 1<aX s 1 1 then 3 else 0:=by
   by_cases j:(s.size:Int)<16+(N:Int)
   · rw[if_pos j,decide_eq_false ab];rfl
   · rw[if_neg j,decide_eq_true ab]
     by_cases t:1<aX s 1 1
     · rw[if_pos t,decide_eq_false ab];rfl
     · rw[if_neg t,decide_eq_true ab];rfl
  refine wp_skip (aj (ai ?_));apply dN I (fun _=>False) [] [(20,143)] [false,false,false,false,false,false,false,false,false,false,false,false,false,false,false,false,false,false,false,true,true] _ aa bC
  case h=>
   refine GO 1 ?_;intro _ Z;refine qv Z (fun X a=>bf (l:=0) (h:=1) dh (Z.ev rfl) rfl (Z.ev rfl) ab ab) fun _ Z=>?_;refine jM Z rfl (fun X a=>eJ s 0 1 1 rfl ab _) fun _ Z=>?_;refine GO 1 ?_;intro _ Z;refine qv Z (fun X a=>sj (i:=1) dh (Z.ev rfl) (Z.ev rfl) ab ab) fun _ Z=>?_;refine qv Z (fun X a=>aA (v':=.bool (aX s 1 1==1)) (by rw[←H]) (eI (Z.ev rfl) (Z.ev rfl))) fun _ Z=>?_;refine GO 1 ?_;intro _ Z;refine qv Z (fun X a=>bf (l:=2) (h:=4) dh (Z.ev rfl) (Z.ev rfl) (Z.ev rfl) ab ab) fun _ Z=>?_;refine jM Z rfl (fun X a=>eJ s 2 4 2 rfl ab _) fun _ Z=>?_;refine GO 1 ?_;intro _ Z;refine qv Z (fun X a=>bf (l:=4) (h:=8) dh (Z.ev rfl) (Z.ev rfl) (Z.ev rfl) ab ab) fun _ Z=>?_;refine jM Z rfl (fun X a=>eJ s 4 8 4 rfl ab _) fun _ Z=>?_;refine GO 1 ?_;intro _ Z;refine qv Z (fun X a=>bf (l:=8) (h:=12) dh (Z.ev rfl) (Z.ev rfl) (Z.ev rfl) ab ab) fun _ Z=>?_;refine jM Z rfl (fun X a=>eJ s 8 12 4 rfl ab _) fun _ Z=>?_;refine GO 1 ?_;intro _ Z;refine qv Z (fun X a=>bf (l:=12) (h:=14) dh (Z.ev rfl) (Z.ev rfl) (Z.ev rfl) ab ab) fun _ Z=>?_;refine jM Z rfl (fun X a=>eJ s 12 14 2 rfl ab _) fun _ Z=>?_;refine qv Z (fun X a=>ay (zs:=jT) (pl:=jS) aa aa (Z.evs2 rfl) rfl rfl) fun _ Z=>?_;refine ax ?_;apply cJ (O:=(fun _=>False)) (k:=19) (deps:=[]) (R:=NewAny _ 13 _) Z rfl rfl rfl bC NewAny.stable bC (kZ NewAny.newT)
   case hx=>exact fun X a M=>jh (dM (z:=.agg q8) aa) a.size rfl
   intro v5 _ Z;apply fj (k:=20) (deps:=[19]) (kx:=19) (x:=5) (y:=43) (Y:=tn _) Z rfl ⟨rfl,rfl⟩ rfl bC ⟨rfl,rfl⟩ rfl iC rfl rfl (n:=13) aa bC
   case hx=>
    intro X a M;exact⟨(aN (k:=19) M rfl rfl),rfl,rfl⟩
   intro D;refine gi (O:=(fun _=>False)) bC fun _ Zf Zg=>?_;obtain⟨b5,rfl,Zn,G⟩:=StoY.val (v:=D) Z rfl (aF Zg (k:=20) rfl);have U:=U.add (Grw.below Zf) (e:=.box _ _ _) G (fun b hb=>by cases hb;exact⟨Zn,Box.lt G⟩);refine ah (aj (ai ?_));apply aK Z (fA 6) _ aa
   case h=>
    refine GO 1 ?_;intro _ Z;refine qv Z (fun X a=>bf (l:=14) (h:=16) dh (Z.ev rfl) (Z.ev rfl) (Z.ev rfl) ab ab) fun _ Z=>?_;refine jM Z rfl (fun X a=>eJ s 14 16 2 rfl ab _) fun _ Z=>?_;refine GO 1 ?_;intro _ Z;refine qv Z (fun X a=>bf (l:=16) (h:=s.size) dh (Z.ev rfl) (Z.ev rfl) rfl ab ab) fun _ Z=>?_;refine qv Z (fun X a=>aA (v':=ae (N:Int)) (congrArg _ S) (ns (Z.ev rfl))) fun _ Z=>?_;refine ax ?_;refine aV fun _ Zh Zo=>?_;have U:=U.grow Zh;refine GO 5 ?_;intro _ Z;apply aK Z (fA 8) _ aa
    case h=>
     refine GO 1 ?_;intro _ Z;refine qv Z (fun X a=>aA (v':=ae ((s.size-16:Nat):Int)) (congrArg (fun n:Nat=>Value.int .i64 n) L) (kB dh (Z.ev rfl))) fun _ Z=>?_;refine GO 2 ?_;intro _ Z;refine gp Z rfl (fun X a=>aE _ _ _) fun _ Z=>?_;refine GO 1 ?_;intro _ Z;refine qv Z (fun X a=>sj (i:=1) dh (Z.ev rfl) (Z.ev rfl) ab ab) fun _ Z=>?_;refine qv Z (fun X a=>aA (v':=.bool (decide (aX s 1 1≤1))) (by rw[←H]) (mU (Z.ev rfl) (Z.ev rfl))) fun _ Z=>?_;refine ax ?_;refine aV fun _ Zi Zp=>?_;have U:=U.grow Zi;refine cU Z rfl (aE _ _ _) fun _ Z=>?_;refine bV Z (wn rfl) (f:=fun b=>.slice (some ⟨b,0,none⟩) 2 2) (bb cT aa aa (Z.evs2 rfl) rfl rfl rfl au au) rfl rfl U fun Jx _ _ Zq Z U=>cU Z rfl (fm (U.at_ (i:=0) rfl)) fun _ Z=>?_;refine GO 9 ?_;intro _ Z;refine ak (Z.ev rfl) (fun o=>?_) (fun o=>?_)
     ·
      rw[hF] at Z o
      have d:E=(if (s.size:Int)<16+(N:Int) then 14 else if 1<aX s 1 1 then 3 else 0)∧E≠0:=by
       rw[r];by_cases j:(s.size:Int)<16+(N:Int)
       · rw[if_pos j,if_pos j];exact⟨rfl,by decide⟩
       · rw[if_neg j] at o
         rw[if_neg j,if_neg j];by_cases t:1<aX s 1 1
         · rw[if_pos t,if_pos t];exact⟨rfl,by decide⟩
         · rw[if_neg t] at o;cases o
      rw[if_neg d.2] at c;refine ai (an ?_);refine sv Z (ay (zs:=jT) (pl:=jS) aa aa (Z.evs2 rfl) rfl rfl) fun _ Z=>?_;refine GO 1 ?_;intro _ Z;refine sw Z U 3 fun _ U=>?_;refine GO 5 ?_;intro _ Z;refine br Z rfl rfl rfl U (i:=3) rfl aa aa ?_;exact⟨by rw[c,d.1];rfl,U.below⟩
     ·
      rw[hF] at o
      have j:¬(s.size:Int)<16+(N:Int):=fun g=>by rw[if_pos g] at o;cases o
      have t:¬1<aX s 1 1:=fun g=>by rw[if_neg j,if_pos g] at o;cases o
      rw[if_neg j,if_neg t] at r
      have u:E=aw [nZ (s.extract (16+N) s.size),cD (nD s N)]:=by
       rw[r];by_cases g:nZ (s.extract (16+N) s.size)=0
       · rw[if_neg (fun k=>k g),g]
         by_cases g':cD (nD s N)=0<;>simp[aw,g']
       · rw[if_pos g];simp[aw,g]
      obtain⟨V,hV⟩:∃V,V=AV (s.extract (16+N) s.size):=⟨_,rfl⟩;obtain⟨F,Zl⟩:∃F,F=nZ (s.extract (16+N) s.size):=⟨_,rfl⟩
      have hO:∀W,bz 172 #[.string (s.extract (16+N) s.size)] W (.tuple #[gm V,ae F]):=fun W=>by rw[hV,Zl];exact CU _ W (by rw[ByteArray.size_extract];unfold maxLen;omega)
      have T:nD s N=DF s N V:=by rw[hV];rfl
      rw[T,←Zl] at u;rw[T] at p c;refine GO 6 ?_;intro _ Z;refine sv Z (aA (v':=.string (s.extract (16+N) s.size)) (congrArg _ (CO s 16 N ab)) (bf (l:=N) (h:=(s.extract 16 s.size).size) dh (Z.ev rfl) (Z.ev rfl) rfl ab ab)) fun _ Z=>?_;refine cN Z rfl U (hO _) fun _ _ Z U=>?_;refine GO 3 ?_;intro _ Z;refine na (.agg sU) Z rfl U fun b9 _ _ Zt Z U=>sw Z U 0 fun _ U=>?_;refine GO 4 ?_;intro _ Z;apply iS (m:=5) Z (St.domAt U (i:=2) rfl) 0 [false,false,false,false,false,true] _ aa
      case h=>
       refine GO 2 ?_;intro _ Z;refine qv Z (fun X a=>aA (v':=.string (s.extract 16 (16+N))) (congrArg _ (C0 s 16 N ab)) (bf (l:=0) (h:=N) dh (Z.ev rfl) rfl (Z.ev rfl) ab ab)) fun _ Z=>?_;refine qv (v:=gm V) Z (fun X a=>ag aa aa (Z.ev rfl) ((U.growO (i:=2) rfl a).cellsAll (i:=0) rfl)) fun _ Z=>?_;refine qv Z (fun X a=>fx 12 12 (Z.ev rfl)) fun _ Z=>?_;refine ax ?_;apply jY (k:=5) (deps:=[]) (R:=IsBox _ _ _) Z rfl rfl IsBox.stable (fun X a M=>mw rfl (Z.ev rfl) (Z.ev rfl) rfl aa ((U.grow a).at_ (i:=2) rfl) rfl rfl);intro Q;refine nh fun _ Zj Zk=>?_;have U:=U.growBox (i:=2) (v:=Q) rfl Zj (aF Zk (k:=5) rfl);refine GO 1 ?_;intro _ Z;refine aM Z (wn rfl) ⟨rfl,rfl⟩ (Z.ev rfl) (Z.ev rfl) rfl aa U (i:=2) rfl rfl rfl fun _ U=>GO 6 ?_;intro _ Z;refine sv (v:=cZ (DF s N V)) Z (ag aa aa (Z.ev rfl) (U.cellsAll (i:=2) rfl)) fun _ Z=>?_;refine cN Z rfl U (ka (DF s N V) _ p.1 p.2.1 p.2.2) fun _ _ Z U=>?_;refine bV Z (wn rfl) (f:=fun b=>.slice (some ⟨b,0,none⟩) 2 2) (bb cT aa aa (Z.evs2 rfl) rfl rfl rfl au au) rfl rfl U fun Jw _ _ Zr Z U=>cU Z rfl (fm (U.at_ (i:=0) rfl)) fun _ Z=>?_;refine GO 9 ?_;intro _ Z;refine ak (Z.ev rfl) (fun B=>?_) (fun B=>?_)
       ·
        rw[←u] at Z B;have d:E≠0:=ar B;rw[if_neg d] at c;refine ai (an ?_);refine sv Z (ay (zs:=jT) (pl:=jS) aa aa (Z.evs2 rfl) rfl rfl) fun _ Z=>?_;refine GO 1 ?_;intro _ Z;refine sw Z U 5 fun _ U=>?_;refine GO 5 ?_;intro _ Z;refine br Z rfl rfl rfl U (i:=5) rfl aa aa ?_;exact⟨by rw[c];rfl,U.below⟩
       ·
        rw[←u] at B;have C:E=0:=ar B;rw[if_pos C] at c;refine wp_skip (aj (ai (an ?_)));refine sv (v:=cZ (DF s N V)) Z (ag aa aa (Z.ev rfl) (U.cellsAll (i:=3) rfl)) fun _ Z=>?_;refine sw Z U 5 fun _ U=>?_;refine GO 4 ?_;intro _ Z;refine br Z rfl rfl rfl U (i:=5) rfl aa aa ?_;exact⟨by rw[c,C];rfl,U.below⟩
      case hB=>kernel_rfl
      case hst=>rfl
    case hB=>kernel_rfl
    case hst=>rfl
   case hB=>kernel_rfl
   case hst=>rfl
  case hB=>kernel_rfl
end Go.Proofs.YtcfdpfmchchkaaaGreatDoor
