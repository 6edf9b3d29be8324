/- Chapter 21 -/
import Derived.Test.YtcfdpfmchchkaaaGreatDoorOpH
import Derived.IntWalk
namespace Go.Proofs.YtcfdpfmchchkaaaGreatDoor
set_option maxHeartbeats 1000000
set_option maxRecDepth 4000
set_option linter.unusedVariables false
set_option linter.unusedSimpArgs false
open Go.RowKit Go.Sort
def bo (s:ByteArray) (i c:Nat):Int:=num (((bl s).drop i).take c)
theorem ig (s:ByteArray) (i:Nat):0≤bo s i 2∧bo s i 2<65536:=by
 have h:=fC (((bl s).drop i).take 2)
 have a:(((bl s).drop i).take 2).length≤2:=by rw[List.length_take];omega
 have b:(256:Int) ^ (((bl s).drop i).take 2).length≤256 ^ 2:=by
  have:∀n:Nat,n≤2→(256:Int) ^ n≤256 ^ 2:=by decide
  exact this _ a
 have:(256:Int) ^ 2=65536:=by decide
 unfold bo;omega
def Gn (s:ByteArray):Op:=⟨bo s 0 1,bo s 1 2,bo s 3 2,bo s 5 2,s.extract 11 (11+(bo s 7 2).toNat),s.extract (11+(bo s 7 2).toNat) s.size⟩
def qH (s:ByteArray):Int:=if 1035<s.size then 8 else if s.size<11 then 14 else if (s.size:Int)<11+bo s 7 2+bo s 9 2 then 14 else if 11+bo s 7 2+bo s 9 2<(s.size:Int) then 3 else gy (Gn s)
def Eu (s:ByteArray):Op:=if qH s=0 then Gn s else GW
def LA (s:ByteArray) (i c v:Int):Prop:=∀W,gQ 73 #[.string s,ae i,ae c] W (ae v)
theorem gq (s:ByteArray) (i c:Nat) (d:i+c≤s.size) (a:s.size≤maxLen) (b:c≤6):LA s i c (bo s i c):=fun W=>mu s i c d a b W
def Ft (s:ByteArray) (N:Nat):Op:=⟨bo s 0 1,bo s 1 2,bo s 3 2,bo s 5 2,s.extract 11 (11+N),s.extract (11+N) s.size⟩
theorem Eb {s:ByteArray} {N M:Nat} (b:¬1035<s.size) (d:¬s.size<11) (a:bo s 7 2=N) (c:bo s 9 2=M):Gn s=Ft s N∧qH s=if (s.size:Int)<11+(N:Int)+M then 14 else if 11+(N:Int)+M<(s.size:Int) then 3 else gy (Ft s N):=by
 have ev:Gn s=Ft s N:=by unfold Gn Ft;rw[a];rfl
 exact⟨ev,by unfold qH;rw[if_neg b,if_neg d,a,c,ev]⟩
theorem AU (s:ByteArray) (w:World) (f:s.size≤maxLen) :
 bu 178 #[.string s] w (.tuple #[fj (Eu s),ae (qH s)]):=by
 have C:=f;unfold maxLen at C;obtain⟨E,c⟩:∃E,E=qH s:=⟨_,rfl⟩;obtain⟨R,Q⟩:∃R,R=Eu s:=⟨_,rfl⟩
 have a:R=if E=0 then Gn s else GW:=by rw[Q,c];rfl
 rw[←c,←Q];refine an (N:=60) Tryz.func178 rfl rfl rfl (fun _ Z=>?_);have U:=St.init w;refine aj (aq ?_);refine na (.agg qo) Z rfl U fun b2 _ _ Zj o U=>GO 6 ?_;intro _ Z;refine GO 1 ?_;intro _ Z;refine GO 1 ?_;intro _ Z;refine GO 3 ?_;intro _ Z;refine ak (Z.ev rfl) (fun B=>?_) (fun B=>?_)
 ·
  have K:qH s=8:=by unfold qH;rw[if_pos (by have:=of_decide_eq_true B;omega)]
  rw[K] at c;subst c;refine aj (aq ?_);refine sv Z (az (zs:=j2) (pl:=kj) aa aa (Z.evs2 rfl) rfl rfl) fun _ Z=>?_;refine sw Z U 0 fun _ U=>?_;refine GO 5 ?_;intro _ Z;refine bZ Z rfl rfl rfl U (i:=0) rfl aa aa ?_;exact⟨by rw[a];rfl,U.below⟩
 ·
  have o:¬1035<s.size:=by have:=of_decide_eq_false B;omega
  refine GO 10 ?_;intro _ Z;refine ak (Z.ev rfl) (fun q=>?_) (fun q=>?_)
  ·
   have K:qH s=14:=by unfold qH;rw[if_neg o,if_pos (by have:=of_decide_eq_true q;omega)]
   rw[K] at c;subst c;refine aj (aq ?_);refine sv Z (az (zs:=j2) (pl:=kj) aa aa (Z.evs2 rfl) rfl rfl) fun _ Z=>?_;refine sw Z U 0 fun _ U=>?_;refine GO 5 ?_;intro _ Z;refine bZ Z rfl rfl rfl U (i:=0) rfl aa aa ?_;exact⟨by rw[a];rfl,U.below⟩
  ·
   have Z:¬s.size<11:=by have:=of_decide_eq_false q;omega
   obtain⟨b7,T⟩:=ig s 7;obtain⟨S,c9⟩:=ig s 9;obtain⟨N,p⟩:=Int.eq_ofNat_of_zero_le b7;obtain⟨M,t⟩:=Int.eq_ofNat_of_zero_le S;rw[p] at T;rw[t] at c9
   have r:LA s 7 2 N:=by rw[←p];exact gq s 7 2 ab f ab
   have J:LA s 9 2 M:=by rw[←t];exact gq s 9 2 ab f ab
   have F:LA s 0 1 (bo s 0 1):=gq s 0 1 ab f ab;have u:LA s 1 2 (bo s 1 2):=gq s 1 2 ab f ab;have H:LA s 3 2 (bo s 3 2):=gq s 3 2 ab f ab;have D:LA s 5 2 (bo s 5 2):=gq s 5 2 ab f ab;obtain⟨ev,ee⟩:=Eb o Z p t;rw[ee] at c;rw[ev] at a;refine GO 5 ?_;intro _ Z;refine dn Z rfl (r _) fun _ Z=>?_;refine GO 1 ?_;intro _ Z;refine dn Z rfl (J _) fun _ Z=>?_;refine GO 16 ?_;intro _ Z;refine ak (Z.ev rfl) (fun I=>?_) (fun I=>?_)
   ·
    rw[if_pos (of_decide_eq_true I)] at c;subst c;refine aj (aq ?_);refine sv Z (az (zs:=j2) (pl:=kj) aa aa (Z.evs2 rfl) rfl rfl) fun _ Z=>?_;refine sw Z U 0 fun _ U=>?_;refine GO 5 ?_;intro _ Z;refine bZ Z rfl rfl rfl U (i:=0) rfl aa aa ?_;exact⟨by rw[a];rfl,U.below⟩
   ·
    have Z:=of_decide_eq_false I;rw[if_neg Z] at c;refine GO 14 ?_;intro _ m;refine ak (m.ev rfl) (fun A=>?_) (fun A=>?_)
    ·
     rw[if_pos (of_decide_eq_true A)] at c;subst c;refine aj (aq ?_);refine sv m (az (zs:=j2) (pl:=kj) aa aa (m.evs2 rfl) rfl rfl) fun _ Z=>?_;refine sw Z U 0 fun _ U=>?_;refine GO 5 ?_;intro _ Z;refine bZ Z rfl rfl rfl U (i:=0) rfl aa aa ?_;exact⟨by rw[a];rfl,U.below⟩
    ·
     have Z:=of_decide_eq_false A;rw[if_neg Z] at c;refine wp_skip (ai (aj ?_));apply eG m (fun _=>False) [] [(18,141)] [false,false,false,false,false,false,false,false,false,false,false,false,false,false,false,false,false,true,true] _ aa bG
     case h=>
      refine GO 1 ?_;intro _ Z;refine iW Z rfl (fun X d=>F _) fun _ Z=>?_;refine GO 1 ?_;intro _ Z;refine iW Z rfl (fun X d=>u _) fun _ Z=>?_;refine GO 1 ?_;intro _ Z;refine iW Z rfl (fun X d=>H _) fun _ Z=>?_;refine GO 1 ?_;intro _ Z;refine iW Z rfl (fun X d=>D _) fun _ Z=>?_;refine GO 2 ?_;intro _ Z;refine qv Z (fun X d=>aA (v':=ae ((11+N:Nat):Int)) (congrArg _ ab) (cM (Z.ev rfl) (Z.ev rfl) ab)) fun _ Z=>?_;refine qv Z (fun X d=>bb (l:=11) (h:=11+N) dr (Z.ev rfl) (Z.ev rfl) (Z.ev rfl) ab ab) fun _ Z=>?_;refine GO 2 ?_;intro _ Z;refine qv Z (fun X d=>aA (v':=ae ((11+N:Nat):Int)) (congrArg _ ab) (cM (Z.ev rfl) (Z.ev rfl) ab)) fun _ Z=>?_;refine qv Z (fun X d=>bb (l:=11+N) (h:=s.size) dr (Z.ev rfl) (Z.ev rfl) rfl ab ab) fun _ Z=>?_;refine qv (v:=fj (Ft s N)) Z (fun X d=>az (zs:=j2) (pl:=kj) aa aa (Z.evs2 rfl) rfl rfl) fun _ Z=>?_;refine ax ?_;apply cE (O:=(fun _=>False)) (k:=17) (deps:=[]) (R:=NewAny _ 6 _) Z rfl rfl rfl bG NewAny.stable bG (ia NewAny.newT)
      case hx=>exact fun X d L=>kN (dV (z:=.agg qo) aa) d.size rfl
      intro v6 _ Z;apply gF (k:=18) (deps:=[17]) (kx:=17) (x:=6) (y:=52) (Y:=tU _) Z rfl ⟨rfl,rfl⟩ rfl bG ⟨rfl,rfl⟩ rfl jy rfl rfl (n:=6) aa bG
      case hx=>
       intro X d L;exact⟨(aM (k:=17) L rfl rfl),rfl,rfl⟩
      intro j;refine iA (O:=(fun _=>False)) bG fun _ Zf W=>?_;obtain⟨b6,rfl,V,g⟩:=StoY.val (v:=j) Z rfl (aD W (k:=18) rfl);have U:=U.add (Grw.below Zf) (e:=.box _ _ _) g (fun b hb=>by cases hb;exact⟨V,Box.lt g⟩);refine ag (ai (aj (aj (aq ?_))));refine sv (v:=fj (Ft s N)) Z (ah aa aa (Z.ev rfl) (U.cellsAll (i:=0) rfl)) fun _ Z=>?_;refine cQ Z rfl U (j3 (Ft s N) _ (by show(s.extract 11 (11+N)).size≤3100;rw[ByteArray.size_extract];omega) (by show(s.extract (11+N) s.size).size≤3100;rw[ByteArray.size_extract];omega)) fun _ _ Z U=>?_;refine GO 9 ?_;intro _ Z;refine ak (Z.ev rfl) (fun G=>?_) (fun G=>?_)
      ·
       have hne:E≠0:=by rw[c];simpa using G
       rw[if_neg hne] at a;refine aj (aq ?_);refine sv Z (az (zs:=j2) (pl:=kj) aa aa (Z.evs2 rfl) rfl rfl) fun _ Z=>?_;refine GO 1 ?_;intro _ Z;refine sw Z U 1 fun _ U=>?_;refine GO 5 ?_;intro _ Z;refine bZ Z rfl rfl rfl U (i:=1) rfl aa aa ?_;exact⟨by rw[a,c];rfl,U.below⟩
      ·
       have P:E=0:=by rw[c];simpa using G
       rw[if_pos P] at a;refine wp_skip (ai (aj (aq ?_)));refine sv Z (ah aa aa (Z.ev rfl) (U.cellsAll (i:=0) rfl)) fun _ Z=>?_;refine sw Z U 1 fun _ U=>?_;refine GO 4 ?_;intro _ Z;refine bZ Z rfl rfl rfl U (i:=1) rfl aa aa ?_;exact⟨by rw[a,P];rfl,U.below⟩
     case hB=>kernel_rfl
open Go.RowKit Go.Sort
def He:Lge:=⟨0,0,0,0,0,false,GW,⟨#[]⟩⟩
def gW (s:ByteArray):ByteArray:=s.extract (16+(bo s 14 2).toNat) s.size
def lW (s:ByteArray):Lge:=⟨bo s 0 1,bo s 2 2,bo s 4 4,bo s 8 4,bo s 12 2,bo s 1 1==1,Eu (gW s),s.extract 16 (16+(bo s 14 2).toNat)⟩
def cX (s:ByteArray):Int:=if 3000<s.size then 8 else if s.size<16 then 14 else if (s.size:Int)<16+bo s 14 2 then 14 else if 1<bo s 1 1 then 3 else if qH (gW s)≠0 then qH (gW s) else cA (lW s)
def ft (s:ByteArray):Lge:=if cX s=0 then lW s else He
theorem vK (s:ByteArray) (a:s.size≤3100):(Eu s).o.size≤3100∧(Eu s).n.size≤3100:=by
 unfold Eu
 split
 · unfold Gn;dsimp only
   rw[ByteArray.size_extract,ByteArray.size_extract];omega
 · exact⟨Nat.zero_le _,Nat.zero_le _⟩
def ot (s:ByteArray) (N:Nat):Lge:=⟨bo s 0 1,bo s 2 2,bo s 4 4,bo s 8 4,bo s 12 2,bo s 1 1==1,Eu (s.extract (16+N) s.size),s.extract 16 (16+N)⟩
theorem yN {s:ByteArray} {N:Nat} (c:¬3000<s.size) (d:¬s.size<16) (b:bo s 14 2=N):gW s=s.extract (16+N) s.size∧lW s=ot s N∧cX s=if (s.size:Int)<16+(N:Int) then 14 else if 1<bo s 1 1 then 3 else if qH (s.extract (16+N) s.size)≠0 then qH (s.extract (16+N) s.size) else cA (ot s N):=by
 have a:gW s=s.extract (16+N) s.size:=by unfold gW;rw[b];rfl
 have ev:lW s=ot s N:=by unfold lW ot;rw[b,a];rfl
 exact⟨a,ev,by unfold cX;rw[if_neg c,if_neg d,b,ev,a]⟩
theorem xj {s:ByteArray} {N:Nat} (h:s.size≤3000):(ot s N).o.o.size≤3100∧(ot s N).o.n.size≤3100∧(ot s N).d.size≤maxLen:=by
 have:=vK (s.extract (16+N) s.size) (by rw[ByteArray.size_extract];omega);refine⟨this.1,this.2,?_⟩;show(s.extract 16 (16+N)).size≤maxLen;unfold maxLen;rw[ByteArray.size_extract];omega
theorem pX (s:ByteArray) (w:World) (f:s.size≤maxLen) :
 bu 110 #[.string s] w (.tuple #[cy (ft s),ae (cX s)]):=by
 have G:=f;unfold maxLen at G;obtain⟨E,c⟩:∃E,E=cX s:=⟨_,rfl⟩;obtain⟨R,S⟩:∃R,R=ft s:=⟨_,rfl⟩
 have a:R=if E=0 then lW s else He:=by rw[S,c];rfl
 rw[←c,←S];refine an (N:=68) Tryz.func110 rfl rfl rfl (fun _ Z=>?_);have U:=St.init w;refine aj (aq ?_);refine na (.agg sc) Z rfl U fun b2 _ _ Zj t U=>GO 6 ?_;intro _ Z;refine GO 1 ?_;intro _ Z;refine GO 4 ?_;intro _ Z;refine ak (Z.ev rfl) (fun I=>?_) (fun I=>?_)
 ·
  have P:cX s=8:=by unfold cX;rw[if_pos (by have:=of_decide_eq_true I;omega)]
  rw[P] at c;subst c;refine aj (aq ?_);refine sv Z (az (zs:=km) (pl:=j7) aa aa (Z.evs2 rfl) rfl rfl) fun _ Z=>?_;refine sw Z U 0 fun _ U=>?_;refine GO 5 ?_;intro _ Z;refine bZ Z rfl rfl rfl U (i:=0) rfl aa aa ?_;exact⟨by rw[a];rfl,U.below⟩
 ·
  have t:¬3000<s.size:=by have:=of_decide_eq_false I;omega
  refine GO 10 ?_;intro _ Z;refine ak (Z.ev rfl) (fun F=>?_) (fun F=>?_)
  ·
   have P:cX s=14:=by unfold cX;rw[if_neg t,if_pos (by have:=of_decide_eq_true F;omega)]
   rw[P] at c;subst c;refine aj (aq ?_);refine sv Z (az (zs:=km) (pl:=j7) aa aa (Z.evs2 rfl) rfl rfl) fun _ Z=>?_;refine sw Z U 0 fun _ U=>?_;refine GO 5 ?_;intro _ Z;refine bZ Z rfl rfl rfl U (i:=0) rfl aa aa ?_;exact⟨by rw[a];rfl,U.below⟩
  ·
   have Z:¬s.size<16:=by have:=of_decide_eq_false F;omega
   obtain⟨b7,V⟩:=ig s 14;obtain⟨N,u⟩:=Int.eq_ofNat_of_zero_le b7;rw[u] at V
   have m:LA s 14 2 N:=by rw[←u];exact gq s 14 2 ab f ab
   have H:LA s 0 1 (bo s 0 1):=gq s 0 1 ab f ab;have C:LA s 1 1 (bo s 1 1):=gq s 1 1 ab f ab;have M:LA s 2 2 (bo s 2 2):=gq s 2 2 ab f ab;have B:LA s 4 4 (bo s 4 4):=gq s 4 4 ab f ab;have L:LA s 8 4 (bo s 8 4):=gq s 8 4 ab f ab;have p:LA s 12 2 (bo s 12 2):=gq s 12 2 ab f ab;obtain⟨et,ev,ee⟩:=yN t Z u;rw[ee] at c;rw[ev] at a;have j:=xj (N:=N) (Nat.le_of_not_lt t);refine GO 5 ?_;intro _ Z;refine dn Z rfl (m _) fun _ Z=>?_;refine GO 13 ?_;intro _ Z;refine ak (Z.ev rfl) (fun A=>?_) (fun A=>?_)
   ·
    rw[if_pos (of_decide_eq_true A)] at c;subst c;refine aj (aq ?_);refine sv Z (az (zs:=km) (pl:=j7) aa aa (Z.evs2 rfl) rfl rfl) fun _ Z=>?_;refine sw Z U 0 fun _ U=>?_;refine GO 5 ?_;intro _ Z;refine bZ Z rfl rfl rfl U (i:=0) rfl aa aa ?_;exact⟨by rw[a];rfl,U.below⟩
   ·
    have Z:=of_decide_eq_false A;rw[if_neg Z] at c;refine GO 5 ?_;intro _ Z;refine dn Z rfl (C _) fun _ Z=>?_;refine GO 10 ?_;intro _ Z;refine ak (Z.ev rfl) (fun K=>?_) (fun K=>?_)
    ·
     rw[if_pos (of_decide_eq_true K)] at c;subst c;refine aj (aq ?_);refine sv Z (az (zs:=km) (pl:=j7) aa aa (Z.evs2 rfl) rfl rfl) fun _ Z=>?_;refine sw Z U 0 fun _ U=>?_;refine GO 5 ?_;intro _ Z;refine bZ Z rfl rfl rfl U (i:=0) rfl aa aa ?_;exact⟨by rw[a];rfl,U.below⟩
    ·
     rw[if_neg (of_decide_eq_false K)] at c;refine GO 6 ?_;intro _ Z;refine sv Z (aA (v':=ae ((16+N:Nat):Int)) (congrArg _ ab) (cM (Z.ev rfl) (Z.ev rfl) ab)) fun _ Z=>?_;refine sv Z (bb (l:=16+N) (h:=s.size) dr (Z.ev rfl) (Z.ev rfl) rfl ab ab) fun _ Z=>?_;refine cQ Z rfl U (AU _ _ (by rw[ByteArray.size_extract];unfold maxLen;omega)) fun _ _ Z U=>?_;refine GO 3 ?_;intro _ Z;refine na (.agg qo) Z rfl U fun b6 _ _ Zk Z U=>sw Z U 0 fun _ U=>?_;refine GO 10 ?_;intro _ Z;refine ak (Z.ev rfl) (fun D=>?_) (fun D=>?_)
     ·
      have hne:qH (s.extract (16+N) s.size)≠0:=al D;rw[if_pos hne] at c;rw[if_neg (by rw[c];exact hne)] at a;refine aj (aq ?_);refine sv Z (az (zs:=km) (pl:=j7) aa aa (Z.evs2 rfl) rfl rfl) fun _ Z=>?_;refine GO 1 ?_;intro _ Z;refine sw Z U 1 fun _ U=>?_;refine GO 5 ?_;intro _ Z;refine bZ Z rfl rfl rfl U (i:=1) rfl aa aa ?_;exact⟨by rw[a,c];rfl,U.below⟩
     ·
      have T:qH (s.extract (16+N) s.size)=0:=al D;rw[if_neg (fun g=>g T)] at c;refine wp_skip (ai (aj ?_));apply eG Z (fun _=>False) [] [(19,143)] [false,false,false,false,false,false,false,false,false,false,false,false,false,false,false,false,false,false,true,true] _ aa bG
      case h=>
       refine GO 1 ?_;intro _ Z;refine iW Z rfl (fun X d=>H _) fun _ Z=>?_;refine GO 3 ?_;intro _ Z;refine iW Z rfl (fun X d=>M _) fun _ Z=>?_;refine GO 1 ?_;intro _ Z;refine iW Z rfl (fun X d=>B _) fun _ Z=>?_;refine GO 1 ?_;intro _ Z;refine iW Z rfl (fun X d=>L _) fun _ Z=>?_;refine GO 1 ?_;intro _ Z;refine iW Z rfl (fun X d=>p _) fun _ Z=>?_;refine GO 2 ?_;intro _ Z;refine qv Z (fun X d=>aA (v':=ae ((16+N:Nat):Int)) (congrArg _ ab) (cM (Z.ev rfl) (Z.ev rfl) ab)) fun _ Z=>?_;refine qv Z (fun X d=>bb (l:=16) (h:=16+N) dr (Z.ev rfl) (Z.ev rfl) (Z.ev rfl) ab ab) fun _ Z=>?_;refine qv Z (fun X d=>ah aa aa (Z.ev rfl) ((U.grow (Grw.below d)).cellsAll (i:=0) rfl)) fun _ Z=>?_;refine qv (v:=cy (ot s N)) Z (fun X d=>az (zs:=km) (pl:=j7) aa aa (Z.evs2 rfl) rfl rfl) fun _ Z=>?_;refine ax ?_;apply cE (O:=(fun _=>False)) (k:=18) (deps:=[]) (R:=NewAny _ 13 _) Z rfl rfl rfl bG NewAny.stable bG (ia NewAny.newT)
       case hx=>exact fun X d Q=>kN (dV (z:=.agg sc) aa) d.size rfl
       intro v8 _ Z;apply gF (k:=19) (deps:=[18]) (kx:=18) (x:=8) (y:=60) (Y:=tU _) Z rfl ⟨rfl,rfl⟩ rfl bG ⟨rfl,rfl⟩ rfl jy rfl rfl (n:=13) aa bG
       case hx=>
        intro X d Q;exact⟨(aM (k:=18) Q rfl rfl),rfl,rfl⟩
       intro r;refine iA (O:=(fun _=>False)) bG fun _ Zf Zg=>?_;obtain⟨b8,rfl,W,q⟩:=StoY.val (v:=r) Z rfl (aD Zg (k:=19) rfl);have U:=U.add (Grw.below Zf) (e:=.box _ _ _) q (fun b hb=>by cases hb;exact⟨W,Box.lt q⟩);refine ag (ai (aj (aj (aq ?_))));refine sv (v:=cy (ot s N)) Z (ah aa aa (Z.ev rfl) (U.cellsAll (i:=0) rfl)) fun _ Z=>?_;refine cQ Z rfl U (kq (ot s N) _ j.1 j.2.1 j.2.2) fun _ _ Z U=>?_;refine GO 9 ?_;intro _ Z;refine ak (Z.ev rfl) (fun J=>?_) (fun J=>?_)
       ·
        have hne:E≠0:=by rw[c];simpa using J
        rw[if_neg hne] at a;refine aj (aq ?_);refine sv Z (az (zs:=km) (pl:=j7) aa aa (Z.evs2 rfl) rfl rfl) fun _ Z=>?_;refine GO 1 ?_;intro _ Z;refine sw Z U 2 fun _ U=>?_;refine GO 5 ?_;intro _ Z;refine bZ Z rfl rfl rfl U (i:=2) rfl aa aa ?_;exact⟨by rw[a,c];rfl,U.below⟩
       ·
        have o:E=0:=by rw[c];simpa using J
        rw[if_pos o] at a;refine wp_skip (ai (aj (aq ?_)));refine sv Z (ah aa aa (Z.ev rfl) (U.cellsAll (i:=0) rfl)) fun _ Z=>?_;refine sw Z U 2 fun _ U=>?_;refine GO 4 ?_;intro _ Z;refine bZ Z rfl rfl rfl U (i:=2) rfl aa aa ?_;exact⟨by rw[a,o];rfl,U.below⟩
      case hB=>kernel_rfl
open Go.RowKit Go.Sort
theorem Cj (s:ByteArray) (B N:Nat) (h:B+N≤s.size):(s.extract B s.size).extract 0 N=s.extract B (B+N):=by
 apply gb;rw[ca,ca,ca];apply List.ext_getElem?;intro i;rw[List.getElem?_drop,List.getElem?_take,List.getElem?_drop,List.getElem?_take,List.getElem?_drop,List.getElem?_take,Nat.zero_add];by_cases a:i<N
 · rw[if_pos a,if_pos ab,if_pos ab]
 · rw[if_neg a,if_neg ab]
theorem CB (s:ByteArray) (B N:Nat) (h:B+N≤s.size):(s.extract B s.size).extract N (s.extract B s.size).size=s.extract (B+N) s.size:=by
 apply gb;rw[ca,ca,ca,ByteArray.size_extract];apply List.ext_getElem?;intro i;rw[List.getElem?_drop,List.getElem?_take,List.getElem?_drop,List.getElem?_take,List.getElem?_drop,List.getElem?_take];by_cases a:B+N+i<s.size
 · rw[if_pos ab,if_pos ab,if_pos ab,Nat.add_assoc]
 · rw[if_neg ab,if_neg ab]
theorem EP (s:ByteArray) (i c:Nat):num (bl ((s.extract i s.size).extract 0 c))=bo s i c:=by rw[vi];rfl
theorem FQ (s:ByteArray) (i j c:Nat) (h:j=i+c):num (bl (s.extract i j))=bo s i c:=by
 subst h;rw[ca];unfold bo
 congr 1
 apply List.ext_getElem?;intro k;rw[List.getElem?_drop,List.getElem?_take,List.getElem?_take,List.getElem?_drop];by_cases h:k<c
 · rw[if_pos h,if_pos ab]
 · rw[if_neg h,if_neg ab]
theorem yz (s:ByteArray) (i c:Nat) (a:c≤6) (W:World):bu 171 #[.string ((s.extract i s.size).extract 0 c)] W (ae (bo s i c)):=by
 rw[←EP];exact gm _ W (by rw[ByteArray.size_extract];omega)
theorem fq (s:ByteArray) (i j c:Nat) (h:j=i+c) (a:c≤6) (W:World):bu 171 #[.string (s.extract i j)] W (ae (bo s i c)):=by
 rw[←FQ s i j c h];exact gm _ W (by rw[ByteArray.size_extract];omega)
def Ie (s:ByteArray) (i j:Nat):Value:=ae (bif Nat.blt i j then bo s (1+2*i) 2 else 0)
def sU (a c b:Nat):Nat→Value
 | 0=>.pointer (some ⟨a,1,none⟩)
 | 1=>.pointer (some ⟨a,2,none⟩)
 | 2=>.pointer (some ⟨a,3,none⟩)
 | 3=>.pointer (some ⟨c,0,none⟩)
 | _=>.pointer (some ⟨b,0,none⟩)
def IC (s:ByteArray) (c a d b j:Nat):List Ent:=[.box b #[Ie s 4 j] 3,.box d #[Ie s 3 j] 3,.box a #[ae (bo s 0 1),Ie s 0 j,Ie s 1 j,Ie s 2 j,.string ⟨#[]⟩,.string ⟨#[]⟩] 141,.box c #[ae 0,ae 0,ae 0,ae 0,.string ⟨#[]⟩,.string ⟨#[]⟩] 141]
theorem G5 {ρ:Operand→Value} {X:World} {d:Option Tmp} {ty:TypeId} {ps:String} {e:Array Edge} {g:Option (Nat × Bool)} {x y:Operand} {c b a j:Nat} (i:j<5) (hx:ρ x=.agg #[sU c b a 0,sU c b a 1,sU c b a 2,sU c b a 3,sU c b a 4]) (f:ρ y=ae (j:Nat)) :
 (execOp ρ ⟨d,.index 311 x y,ty,ps,e,g⟩).run Tryz.prog X=.ok (.value (sU c b a j)) X:=by
 have h:(Instr.index 311 (.agg #[sU c b a 0,sU c b a 1,sU c b a 2,sU c b a 3,sU c b a 4]) (ae (j:Nat))).run Tryz.prog X=.ok (sU c b a j) X:=by
  have:j=0∨j=1∨j=2∨j=3∨j=4:=by omega
  rcases this with rfl | rfl | rfl | rfl | rfl<;>(show _=Result.ok _ _;first | kernel_rfl | rfl)
 simp[execOp,hx,f,h]
theorem GL {P:Program} {ρ:Operand→Value} {X:World} {d:Option Tmp} {ty:TypeId} {ps:String} {e:Array Edge} {g:Option (Nat × Bool)} {x:Operand} {c b a j:Nat} (f:j<5) (hx:ρ x=sU c b a j):(execOp ρ ⟨d,.nilCheck x,ty,ps,e,g⟩).run P X=.ok (.value (sU c b a j)) X:=by
 have:j=0∨j=1∨j=2∨j=3∨j=4:=by omega
 rcases this with rfl | rfl | rfl | rfl | rfl<;>exact qN hx
theorem Gu {ops:Array Oper} {rest:List Oper} {o:Oper} {a:Act} {Q:Exit→Act→World→Prop} {w X:World} {N:Nat} {l:List (Nat × Value)} {s:ByteArray} {p y:Operand} {n g m h j:Nat} (f:Has [] a N l) (e:Region.wanted o (yielded ops a.tmps)=true) (b:o.op=.store 3 p y∧o.dst=none) (hx:a.eval p=sU g m h j) (c:a.eval y=ae (bo s (1+2*j) 2)) (q:j<5)
 (d:St [] w X (IC s n g m h j)) (k:∀X',St [] w X' (IC s n g m h (j+1))→wpList Tryz.prog ops Q rest a X'):wpList Tryz.prog ops Q (o::rest) a X:=by
 have:j=0∨j=1∨j=2∨j=3∨j=4:=by omega
 rcases this with rfl | rfl | rfl | rfl | rfl
 · exact aS f e b hx c rfl aa d (i:=2) rfl rfl rfl k
 · exact aS f e b hx c rfl aa d (i:=2) rfl rfl rfl k
 · exact aS f e b hx c rfl aa d (i:=2) rfl rfl rfl k
 · exact aS f e b hx c rfl aa d (i:=1) rfl rfl rfl k
 · exact aS f e b hx c rfl aa d (i:=0) rfl rfl rfl k
theorem zU {ds:List Deferred} {P:Program} {ops:Array Oper} {rest:List Oper} {o:Oper} {a:Act} {Q:Exit→Act→World→Prop} {X:World} {N d:Nat} {l:List (Nat × Value)} (j:Has ds a N l) (e:o.guard=none) (t:TypeId) (b:Array (Nat × Operand)) (i:o.op=.build t b) {us:List Value} (m:b.toList.map (fun p=>a.eval p.2)=us)
 (cells:Array Value) (f:P.built t ((b.toList.map (·.1)).zip us)=some cells) (g:o.dst=some d) (c:Nat.blt d N=true) (k:∀a',Has ds a' N ((d,.agg cells)::l)→wpList P ops Q rest a' X):wpList P ops Q (o::rest) a X:=
 cU e t b i cells (by
  have h:∀l:List (Nat × Operand),l.map (fun x=>(x.1,a.eval x.2))=(l.map (·.1)).zip (l.map fun p=>a.eval p.2):=by
   intro l
   induction l with
   | nil=>rfl
   | cons p l ih=>simp[ih]
  rw[←f,←m,←h];simp) (by rw[g];exact k _ (j.put c _))
theorem Cn (s:ByteArray) (w:World) (W:s.size≤maxLen) :
 bu 172 #[.string s] w (.tuple #[fj (Eu s),ae (qH s)]):=by
 have H:=W;unfold maxLen at H;obtain⟨E,o⟩:∃E,E=qH s:=⟨_,rfl⟩;obtain⟨R,K⟩:∃R,R=Eu s:=⟨_,rfl⟩
 have a:R=if E=0 then Gn s else GW:=by rw[K,o];rfl
 rw[←o,←K];refine an (N:=86) Tryz.func172 rfl rfl rfl (fun _ Y=>?_);have Z:=St.init w;refine aj (aq ?_);refine na (.agg qo) Y rfl Z fun O _ _ Zk y Z=>GO 6 ?_;intro _ C;refine GO 3 ?_;intro _ Y;refine dn Y rfl (aJ _ _ _) fun _ Y=>?_;refine GO 3 ?_;intro _ Y;refine dn Y rfl (aJ _ _ _) fun _ Y=>?_;refine bV Y (wn rfl) (f:=fun b=>.slice (some ⟨b,0,none⟩) 2 2) (ba dt aa aa (Y.evs2 rfl) rfl rfl rfl au au) rfl rfl Z fun S _ _ Zh Y Z=>dn Y rfl (fL (Z.at_ (i:=0) rfl)) fun _ Y=>?_;refine GO 9 ?_;intro _ Y;refine ak (Y.ev rfl) (fun G=>?_) (fun G=>?_)
 ·
  have hne:av [bQ (decide ((s.size:Int)≤1035)) 8,bQ (decide ((s.size:Int)≥11)) 14]≠0:=al G
  have z:av [bQ (decide ((s.size:Int)≤1035)) 8,bQ (decide ((s.size:Int)≥11)) 14]=qH s:=by
   by_cases y:1035<s.size
   · unfold qH;rw[if_pos y,decide_eq_false ab];rfl
   · by_cases C:s.size<11
     · unfold qH;rw[if_neg y,if_pos C,decide_eq_true ab,decide_eq_false ab];rfl
     · exact absurd (by rw[decide_eq_true ab,decide_eq_true ab];rfl) hne
  rw[if_neg (by rw[o,←z];exact hne)] at a;refine aj (aq ?_);refine sv Y (az (zs:=j2) (pl:=kj) aa aa (Y.evs2 rfl) rfl rfl) fun _ Y=>?_;refine GO 1 ?_;intro _ Y;refine sw Y Z 1 fun _ Z=>?_;refine GO 5 ?_;intro _ Y;refine bZ Y rfl rfl rfl Z (i:=1) rfl aa aa ?_;exact⟨by rw[a,o,←z];rfl,Z.below⟩
 ·
  have p:av [bQ (decide ((s.size:Int)≤1035)) 8,bQ (decide ((s.size:Int)≥11)) 14]=0:=al G
  have y:¬1035<s.size:=fun h=>by rw[decide_eq_false ab] at p;cases p
  have C:¬s.size<11:=fun h=>by rw[decide_eq_true ab,decide_eq_false ab] at p;cases p
  refine GO 5 ?_;intro _ Y;refine sv Y (bb (l:=0) (h:=1) dr (Y.ev rfl) rfl (Y.ev rfl) ab ab) fun _ Y=>?_;refine cQ Y rfl Z (fq s 0 1 1 rfl ab _) fun _ _ Y Z=>?_;refine sv Y (az (zs:=j2) (pl:=kj) aa aa (Y.evs2 rfl) rfl rfl) fun _ Y=>?_;refine na (.agg qo) Y rfl Z fun t _ _ Zl Y Z=>sw Y Z 0 fun _ Z=>?_;refine rV ?_;refine na (ae 0) Y rfl Z fun x _ _ Zm Y Z=>na (ae 0) Y rfl Z fun u _ _ Zn Y Z=>GO 8 ?_;intro _ Y;refine zU Y rfl 311 _ rfl (Y.evs2 rfl) #[sU t x u 0,sU t x u 1,sU t x u 2,sU t x u 3,sU t x u 4] aa rfl rfl fun _ Y=>GO 4 ?_;intro _ Y;refine aV Y Z [34,7,6,5,3,2,0] (fun (j:Nat)=>[(35,ae (j:Nat))]) (fun (j:Nat)=>j≤5) (fun j _=>IC s O t x u j) (fun (j:Nat)=>5-j) (0) ((Nat.zero_le _)) bC ((Z.sub (aB 23))) ?_;intro j _ _ Zo Y Z;refine GO 6 ?_;intro _ Y;refine ak (Y.ev rfl) (fun D=>?_) (fun D=>?_)
  ·
   have I:j<5:=by have:=of_decide_eq_true D;omega
   refine GO 7 ?_;intro _ Y;refine sv Y (G5 I (Y.ev rfl) (Y.ev rfl)) fun _ Y=>?_;refine GO 8 ?_;intro _ Y;refine sv Y (gT (Y.ev rfl) (Y.ev rfl) ab) fun _ Y=>?_;refine sv Y (aA (v':=ae ((1+2*j:Nat):Int)) (congrArg _ ab) (cM (Y.ev rfl) (Y.ev rfl) ab)) fun _ Y=>?_;refine sv Y (bb (l:=1+2*j) (h:=s.size) dr (Y.ev rfl) (Y.ev rfl) rfl ab ab) fun _ Y=>?_;refine sv Y (bb (l:=0) (h:=2) dr (Y.ev rfl) rfl (Y.ev rfl) ab (by rw[ByteArray.size_extract];omega)) fun _ Y=>?_;refine cQ Y rfl Z (yz s (1+2*j) 2 ab _) fun _ _ Y Z=>?_;refine sv Y (GL I (Y.ev rfl)) fun _ Y=>?_;refine Gu Y (wn rfl) ⟨rfl,rfl⟩ (Y.ev rfl) (Y.ev rfl) I Z fun _ Z=>GO 8 ?_;intro _ Y;exact⟨j+1,by omega,by omega,Y.re bC,Z⟩
  ·
   obtain rfl:j=5:=by have:=of_decide_eq_false D;omega
   obtain⟨Q,L⟩:=ig s 7;obtain⟨V,c9⟩:=ig s 9;obtain⟨N,r⟩:=Int.eq_ofNat_of_zero_le Q;obtain⟨M,B⟩:=Int.eq_ofNat_of_zero_le V;rw[r] at L;rw[B] at c9;obtain⟨ev,ee⟩:=Eb y C r B;rw[ee] at o;rw[ev] at a
   have A:(s.extract 11 s.size).size=s.size-11:=by rw[ByteArray.size_extract];omega
   have hF:av [bQ (decide (((s.size-11:Nat):Int)≥(N:Int)+M)) 14,bQ (decide (((s.size-11:Nat):Int)≤(N:Int)+M)) 3]=if (s.size:Int)<11+(N:Int)+M then 14 else if 11+(N:Int)+M<(s.size:Int) then 3 else 0:=by
    by_cases d:(s.size:Int)<11+(N:Int)+M
    · rw[if_pos d,decide_eq_false ab];rfl
    · rw[if_neg d,decide_eq_true ab]
      by_cases q:11+(N:Int)+M<(s.size:Int)
      · rw[if_pos q,decide_eq_false ab];rfl
      · rw[if_neg q,decide_eq_true ab];rfl
   refine GO 8 ?_;intro _ Y;refine sv Y (bb (l:=11) (h:=s.size) dr (Y.ev rfl) (Y.ev rfl) rfl ab ab) fun _ Y=>?_;refine GO 5 ?_;intro _ Y;apply aK Y (fK 13) _ aa
   case h=>
    refine GO 1 ?_;intro _ Y;refine qv Y (fun X c=>aA (v':=ae ((s.size-11:Nat):Int)) (congrArg (fun n:Nat=>Value.int .i64 n) A) (lq dr (Y.ev rfl))) fun _ Y=>?_;refine qv Y (fun X c=>aA (v':=ae (N:Int)) (congrArg _ r) (lx (Y.ev rfl) ((Z.grow c).cell (i:=1) rfl rfl))) fun _ Y=>?_;refine qv Y (fun X c=>aA (v':=ae (M:Int)) (congrArg _ B) (lx (Y.ev rfl) ((Z.grow c).cell (i:=0) rfl rfl))) fun _ Y=>?_;refine GO 2 ?_;intro _ Y;refine iW Y rfl (fun X c=>aJ _ _ _) fun _ Y=>?_;refine GO 1 ?_;intro _ Y;refine qv Y (fun X c=>aA (v':=ae ((s.size-11:Nat):Int)) (congrArg (fun n:Nat=>Value.int .i64 n) A) (lq dr (Y.ev rfl))) fun _ Y=>?_;refine qv Y (fun X c=>aA (v':=ae (N:Int)) (congrArg _ r) (lx (Y.ev rfl) ((Z.grow c).cell (i:=1) rfl rfl))) fun _ Y=>?_;refine qv Y (fun X c=>aA (v':=ae (M:Int)) (congrArg _ B) (lx (Y.ev rfl) ((Z.grow c).cell (i:=0) rfl rfl))) fun _ Y=>?_;refine GO 3 ?_;intro _ Y;refine aT fun _ Zd Zi=>?_;have Z:=Z.grow Zd;refine dn Y rfl (aJ _ _ _) fun _ Y=>?_;refine bV Y (wn rfl) (f:=fun b=>.slice (some ⟨b,0,none⟩) 2 2) (ba dt aa aa (Y.evs2 rfl) rfl rfl rfl au au) rfl rfl Z fun T _ _ Zj Y Z=>dn Y rfl (fL (Z.at_ (i:=0) rfl)) fun _ Y=>?_;refine GO 9 ?_;intro _ Y;refine ak (Y.ev rfl) (fun e=>?_) (fun e=>?_)
    ·
     rw[hF] at Y e
     have hne:E=(if (s.size:Int)<11+(N:Int)+M then 14 else if 11+(N:Int)+M<(s.size:Int) then 3 else 0)∧E≠0:=by
      rw[o];by_cases d:(s.size:Int)<11+(N:Int)+M
      · rw[if_pos d,if_pos d];exact⟨rfl,by decide⟩
      · rw[if_neg d] at e
        rw[if_neg d,if_neg d];by_cases q:11+(N:Int)+M<(s.size:Int)
        · rw[if_pos q,if_pos q];exact⟨rfl,by decide⟩
        · rw[if_neg q] at e;cases e
     rw[if_neg hne.2] at a;refine aj (aq ?_);refine sv Y (az (zs:=j2) (pl:=kj) aa aa (Y.evs2 rfl) rfl rfl) fun _ Y=>?_;refine GO 1 ?_;intro _ Y;refine sw Y Z 4 fun _ Z=>?_;refine GO 5 ?_;intro _ Y;refine bZ Y rfl rfl rfl Z (i:=4) rfl aa aa ?_;exact⟨by rw[a,hne.1];rfl,Z.below⟩
    ·
     rw[hF] at e
     have d:¬(s.size:Int)<11+(N:Int)+M:=fun g=>by rw[if_pos g] at e;cases e
     have q:¬11+(N:Int)+M<(s.size:Int):=fun g=>by rw[if_neg d,if_pos g] at e;cases e
     rw[if_neg d,if_neg q] at o;refine wp_skip (ai (aj ?_));apply gB (m:=7) Y (St.domAt Z (i:=3) rfl) 0 [false,false,false,false,false,false,false,true] _ aa
     case h=>
      refine GO 1 ?_;intro _ Y;refine qv Y (fun X c=>aA (v':=ae (N:Int)) (congrArg _ r) (lx (Y.ev rfl) ((Z.growO (i:=3) rfl c).cell (i:=2) rfl rfl))) fun _ Y=>?_;refine qv Y (fun X c=>aA (v':=.string (s.extract 11 (11+N))) (congrArg _ (Cj s 11 N ab)) (bb (l:=0) (h:=N) dr (Y.ev rfl) rfl (Y.ev rfl) ab ab)) fun _ Y=>?_;refine GO 1 ?_;intro _ Y;refine qv Y (fun X c=>aA (v':=ae (N:Int)) (congrArg _ r) (lx (Y.ev rfl) ((Z.growO (i:=3) rfl c).cell (i:=2) rfl rfl))) fun _ Y=>?_;refine qv Y (fun X c=>aA (v':=.string (s.extract (11+N) s.size)) (congrArg _ (CB s 11 N ab)) (bb (l:=N) (h:=(s.extract 11 s.size).size) dr (Y.ev rfl) (Y.ev rfl) rfl ab ab)) fun _ Y=>?_;refine GO 2 ?_;intro _ Y;apply iw (k:=7) (deps:=[]) (R:=IsBox _ _ _) Y rfl rfl IsBox.stable (fun X c hΦ=>nr rfl (Y.ev rfl) (Y.ev rfl) rfl aa ((Z.grow c).at_ (i:=3) rfl) rfl rfl);intro J;refine k5 fun _ P U=>?_;have Z:=Z.growBox (i:=3) (v:=J) rfl P (aD U (k:=7) rfl);refine GO 1 ?_;intro _ Y;refine aS Y (wn rfl) ⟨rfl,rfl⟩ (Y.ev rfl) (Y.ev rfl) rfl aa Z (i:=3) rfl rfl rfl fun _ Z=>ag (ai (aj (aj (aq ?_))));refine sv (v:=fj (Ft s N)) Y (ah aa aa (Y.ev rfl) (Z.cellsAll (i:=3) rfl)) fun _ Y=>?_;refine cQ Y rfl Z (gI (Ft s N) _ (by show(s.extract 11 (11+N)).size≤3100;rw[ByteArray.size_extract];omega) (by show(s.extract (11+N) s.size).size≤3100;rw[ByteArray.size_extract];omega)) fun _ _ Y Z=>?_;refine GO 9 ?_;intro _ Y;refine ak (Y.ev rfl) (fun F=>?_) (fun F=>?_)
      ·
       have hne:E≠0:=by rw[o];simpa using F
       rw[if_neg hne] at a;refine aj (aq ?_);refine sv Y (az (zs:=j2) (pl:=kj) aa aa (Y.evs2 rfl) rfl rfl) fun _ Y=>?_;refine GO 1 ?_;intro _ Y;refine sw Y Z 4 fun _ Z=>?_;refine GO 5 ?_;intro _ Y;refine bZ Y rfl rfl rfl Z (i:=4) rfl aa aa ?_;exact⟨by rw[a,o];rfl,Z.below⟩
      ·
       have z:E=0:=by rw[o];simpa using F
       rw[if_pos z] at a;refine wp_skip (ai (aj (aq ?_)));refine sv Y (ah aa aa (Y.ev rfl) (Z.cellsAll (i:=3) rfl)) fun _ Y=>?_;refine sw Y Z 4 fun _ Z=>?_;refine GO 4 ?_;intro _ Y;refine bZ Y rfl rfl rfl Z (i:=4) rfl aa aa ?_;exact⟨by rw[a,z];rfl,Z.below⟩
     case hB=>kernel_rfl
     case hst=>rfl
   case hB=>kernel_rfl
   case hst=>rfl
open Go.RowKit Go.Sort
theorem AO (s:ByteArray) (i:Nat) (h:i<s.size):bo s i 1=(s[i].toNat:Int):=by
 unfold bo;rw[uR s i h];simp[num]
def EO (s:ByteArray) (N:Nat) (V:Op):Lge:=⟨bo s 0 1,bo s 2 2,bo s 4 4,bo s 8 4,bo s 12 2,bo s 1 1==1,V,s.extract 16 (16+N)⟩
theorem wG (s:ByteArray) (w:World) (hs:s.size≤maxLen) :
 bu 106 #[.string s] w (.tuple #[cy (ft s),ae (cX s)]):=by
 have Q:=hs;unfold maxLen at Q;obtain⟨E,q⟩:∃E,E=cX s:=⟨_,rfl⟩;obtain⟨R,hR⟩:∃R,R=ft s:=⟨_,rfl⟩
 have c:R=if E=0 then lW s else He:=by rw[hR,q];rfl
 rw[←q,←hR];refine an (N:=87) Tryz.func106 rfl rfl rfl (fun _ Z=>?_);have U:=St.init w;refine aj (aq ?_);refine na (.agg sc) Z rfl U fun b2 _ _ Zs u U=>GO 6 ?_;intro _ G;refine GO 3 ?_;intro _ Z;refine dn Z rfl (aJ _ _ _) fun _ Z=>?_;refine GO 3 ?_;intro _ Z;refine dn Z rfl (aJ _ _ _) fun _ Z=>?_;refine bV Z (wn rfl) (f:=fun b=>.slice (some ⟨b,0,none⟩) 2 2) (ba dt aa aa (Z.evs2 rfl) rfl rfl rfl au au) rfl rfl U fun Jx _ _ Zm H U=>dn H rfl (fL (U.at_ (i:=0) rfl)) fun _ Z=>?_;refine GO 9 ?_;intro _ I;refine ak (I.ev rfl) (fun P=>?_) (fun P=>?_)
 ·
  have hne:av [bQ (decide ((s.size:Int)≤3000)) 8,bQ (decide ((s.size:Int)≥16)) 14]≠0:=al P
  have A:av [bQ (decide ((s.size:Int)≤3000)) 8,bQ (decide ((s.size:Int)≥16)) 14]=cX s:=by
   by_cases u:3000<s.size
   · unfold cX;rw[if_pos u,decide_eq_false ab];rfl
   · by_cases G:s.size<16
     · unfold cX;rw[if_neg u,if_pos G,decide_eq_true ab,decide_eq_false ab];rfl
     · exact absurd (by rw[decide_eq_true ab,decide_eq_true ab];rfl) hne
  rw[if_neg (by rw[q,←A];exact hne)] at c;refine aj (aq ?_);refine sv I (az (zs:=km) (pl:=j7) aa aa (I.evs2 rfl) rfl rfl) fun _ Z=>?_;refine GO 1 ?_;intro _ Z;refine sw Z U 1 fun _ U=>?_;refine GO 5 ?_;intro _ Z;refine bZ Z rfl rfl rfl U (i:=1) rfl aa aa ?_;exact⟨by rw[c,q,←A];rfl,U.below⟩
 ·
  have p:av [bQ (decide ((s.size:Int)≤3000)) 8,bQ (decide ((s.size:Int)≥16)) 14]=0:=al P
  have u:¬3000<s.size:=fun h=>by rw[decide_eq_false ab] at p;cases p
  have G:¬s.size<16:=fun h=>by rw[decide_eq_true ab,decide_eq_false ab] at p;cases p
  have H:(((bl s).getD 1 0).toNat:Int)=bo s 1 1:=by rw[AO s 1 ab,List.getD_eq_getElem?_getD,List.getElem?_eq_getElem (by rw[aO];omega)];rfl
  obtain⟨p7,c7⟩:=ig s 14;obtain⟨N,L⟩:=Int.eq_ofNat_of_zero_le p7;rw[L] at c7;obtain⟨et,ev,ee⟩:=yN u G L;rw[ee] at q;rw[ev] at c;have o:=xj (N:=N) (Nat.le_of_not_lt u)
  have M:(s.extract 16 s.size).size=s.size-16:=by rw[ByteArray.size_extract];omega
  have hF:av [bQ (decide (((s.size-16:Nat):Int)≥(N:Int))) 14,bQ (decide (bo s 1 1≤1)) 3]=if (s.size:Int)<16+(N:Int) then 14 else if 1<bo s 1 1 then 3 else 0:=by
   by_cases d:(s.size:Int)<16+(N:Int)
   · rw[if_pos d,decide_eq_false ab];rfl
   · rw[if_neg d,decide_eq_true ab]
     by_cases r:1<bo s 1 1
     · rw[if_pos r,decide_eq_false ab];rfl
     · rw[if_neg r,decide_eq_true ab];rfl
  refine wp_skip (ai (aj ?_));apply eG I (fun _=>False) [] [(20,143)] [false,false,false,false,false,false,false,false,false,false,false,false,false,false,false,false,false,false,false,true,true] _ aa bG
  case h=>
   refine GO 1 ?_;intro _ Z;refine qv Z (fun X a=>bb (l:=0) (h:=1) dr (Z.ev rfl) rfl (Z.ev rfl) ab ab) fun _ Z=>?_;refine nH Z rfl (fun X a=>fq s 0 1 1 rfl ab _) fun _ Z=>?_;refine GO 1 ?_;intro _ Z;refine qv Z (fun X a=>th (i:=1) dr (Z.ev rfl) (Z.ev rfl) ab ab) fun _ Z=>?_;refine qv Z (fun X a=>aA (v':=.bool (bo s 1 1==1)) (by rw[←H]) (eV (Z.ev rfl) (Z.ev rfl))) fun _ Z=>?_;refine GO 1 ?_;intro _ Z;refine qv Z (fun X a=>bb (l:=2) (h:=4) dr (Z.ev rfl) (Z.ev rfl) (Z.ev rfl) ab ab) fun _ Z=>?_;refine nH Z rfl (fun X a=>fq s 2 4 2 rfl ab _) fun _ Z=>?_;refine GO 1 ?_;intro _ Z;refine qv Z (fun X a=>bb (l:=4) (h:=8) dr (Z.ev rfl) (Z.ev rfl) (Z.ev rfl) ab ab) fun _ Z=>?_;refine nH Z rfl (fun X a=>fq s 4 8 4 rfl ab _) fun _ Z=>?_;refine GO 1 ?_;intro _ Z;refine qv Z (fun X a=>bb (l:=8) (h:=12) dr (Z.ev rfl) (Z.ev rfl) (Z.ev rfl) ab ab) fun _ Z=>?_;refine nH Z rfl (fun X a=>fq s 8 12 4 rfl ab _) fun _ Z=>?_;refine GO 1 ?_;intro _ Z;refine qv Z (fun X a=>bb (l:=12) (h:=14) dr (Z.ev rfl) (Z.ev rfl) (Z.ev rfl) ab ab) fun _ Z=>?_;refine nH Z rfl (fun X a=>fq s 12 14 2 rfl ab _) fun _ Z=>?_;refine qv Z (fun X a=>az (zs:=km) (pl:=j7) aa aa (Z.evs2 rfl) rfl rfl) fun _ Z=>?_;refine ax ?_;apply cE (O:=(fun _=>False)) (k:=19) (deps:=[]) (R:=NewAny _ 13 _) Z rfl rfl rfl bG NewAny.stable bG (ia NewAny.newT)
   case hx=>exact fun X a J=>kN (dV (z:=.agg sc) aa) a.size rfl
   intro v5 _ Z;apply gF (k:=20) (deps:=[19]) (kx:=19) (x:=5) (y:=43) (Y:=tU _) Z rfl ⟨rfl,rfl⟩ rfl bG ⟨rfl,rfl⟩ rfl jy rfl rfl (n:=13) aa bG
   case hx=>
    intro X a J;exact⟨(aM (k:=19) J rfl rfl),rfl,rfl⟩
   intro D;refine iA (O:=(fun _=>False)) bG fun _ Zf Zg=>?_;obtain⟨b5,rfl,Zn,B⟩:=StoY.val (v:=D) Z rfl (aD Zg (k:=20) rfl);have U:=U.add (Grw.below Zf) (e:=.box _ _ _) B (fun b hb=>by cases hb;exact⟨Zn,Box.lt B⟩);refine ag (ai (aj ?_));apply aK Z (fK 6) _ aa
   case h=>
    refine GO 1 ?_;intro _ Z;refine qv Z (fun X a=>bb (l:=14) (h:=16) dr (Z.ev rfl) (Z.ev rfl) (Z.ev rfl) ab ab) fun _ Z=>?_;refine nH Z rfl (fun X a=>fq s 14 16 2 rfl ab _) fun _ Z=>?_;refine GO 1 ?_;intro _ Z;refine qv Z (fun X a=>bb (l:=16) (h:=s.size) dr (Z.ev rfl) (Z.ev rfl) rfl ab ab) fun _ Z=>?_;refine qv Z (fun X a=>aA (v':=ae (N:Int)) (congrArg _ L) (oB (Z.ev rfl))) fun _ Z=>?_;refine ax ?_;refine aT fun _ Zh Zo=>?_;have U:=U.grow Zh;refine GO 5 ?_;intro _ Z;apply aK Z (fK 8) _ aa
    case h=>
     refine GO 1 ?_;intro _ Z;refine qv Z (fun X a=>aA (v':=ae ((s.size-16:Nat):Int)) (congrArg (fun n:Nat=>Value.int .i64 n) M) (lq dr (Z.ev rfl))) fun _ Z=>?_;refine GO 2 ?_;intro _ Z;refine iW Z rfl (fun X a=>aJ _ _ _) fun _ Z=>?_;refine GO 1 ?_;intro _ Z;refine qv Z (fun X a=>th (i:=1) dr (Z.ev rfl) (Z.ev rfl) ab ab) fun _ Z=>?_;refine qv Z (fun X a=>aA (v':=.bool (decide (bo s 1 1≤1))) (by rw[←H]) (lY (Z.ev rfl) (Z.ev rfl))) fun _ Z=>?_;refine ax ?_;refine aT fun _ Zi Zp=>?_;have U:=U.grow Zi;refine dn Z rfl (aJ _ _ _) fun _ Z=>?_;refine bV Z (wn rfl) (f:=fun b=>.slice (some ⟨b,0,none⟩) 2 2) (ba dt aa aa (Z.evs2 rfl) rfl rfl rfl au au) rfl rfl U fun Jv _ _ Zq Z U=>dn Z rfl (fL (U.at_ (i:=0) rfl)) fun _ Z=>?_;refine GO 9 ?_;intro _ Z;refine ak (Z.ev rfl) (fun j=>?_) (fun j=>?_)
     ·
      rw[hF] at Z j
      have hne:E=(if (s.size:Int)<16+(N:Int) then 14 else if 1<bo s 1 1 then 3 else 0)∧E≠0:=by
       rw[q];by_cases d:(s.size:Int)<16+(N:Int)
       · rw[if_pos d,if_pos d];exact⟨rfl,by decide⟩
       · rw[if_neg d] at j
         rw[if_neg d,if_neg d];by_cases r:1<bo s 1 1
         · rw[if_pos r,if_pos r];exact⟨rfl,by decide⟩
         · rw[if_neg r] at j;cases j
      rw[if_neg hne.2] at c;refine aj (aq ?_);refine sv Z (az (zs:=km) (pl:=j7) aa aa (Z.evs2 rfl) rfl rfl) fun _ Z=>?_;refine GO 1 ?_;intro _ Z;refine sw Z U 3 fun _ U=>?_;refine GO 5 ?_;intro _ Z;refine bZ Z rfl rfl rfl U (i:=3) rfl aa aa ?_;exact⟨by rw[c,hne.1];rfl,U.below⟩
     ·
      rw[hF] at j
      have d:¬(s.size:Int)<16+(N:Int):=fun g=>by rw[if_pos g] at j;cases j
      have r:¬1<bo s 1 1:=fun g=>by rw[if_neg d,if_pos g] at j;cases j
      rw[if_neg d,if_neg r] at q
      have t:E=av [qH (s.extract (16+N) s.size),cA (ot s N)]:=by
       rw[q];by_cases g:qH (s.extract (16+N) s.size)=0
       · rw[if_neg (fun k=>k g),g]
         by_cases g':cA (ot s N)=0<;>simp[av,g']
       · rw[if_pos g];simp[av,g]
      obtain⟨V,hV⟩:∃V,V=Eu (s.extract (16+N) s.size):=⟨_,rfl⟩;obtain⟨F,T⟩:∃F,F=qH (s.extract (16+N) s.size):=⟨_,rfl⟩
      have hO:∀W,bu 172 #[.string (s.extract (16+N) s.size)] W (.tuple #[fj V,ae F]):=fun W=>by rw[hV,T];exact Cn _ W (by rw[ByteArray.size_extract];unfold maxLen;omega)
      have S:ot s N=EO s N V:=by rw[hV];rfl
      rw[S,←T] at t;rw[S] at o c;refine GO 6 ?_;intro _ Z;refine sv Z (aA (v':=.string (s.extract (16+N) s.size)) (congrArg _ (CB s 16 N ab)) (bb (l:=N) (h:=(s.extract 16 s.size).size) dr (Z.ev rfl) (Z.ev rfl) rfl ab ab)) fun _ Z=>?_;refine cQ Z rfl U (hO _) fun _ _ Z U=>?_;refine GO 3 ?_;intro _ Z;refine na (.agg qo) Z rfl U fun b9 _ _ Zt Z U=>sw Z U 0 fun _ U=>?_;refine GO 4 ?_;intro _ Z;apply gB (m:=5) Z (St.domAt U (i:=2) rfl) 0 [false,false,false,false,false,true] _ aa
      case h=>
       refine GO 2 ?_;intro _ Z;refine qv Z (fun X a=>aA (v':=.string (s.extract 16 (16+N))) (congrArg _ (Cj s 16 N ab)) (bb (l:=0) (h:=N) dr (Z.ev rfl) rfl (Z.ev rfl) ab ab)) fun _ Z=>?_;refine qv (v:=fj V) Z (fun X a=>ah aa aa (Z.ev rfl) ((U.growO (i:=2) rfl a).cellsAll (i:=0) rfl)) fun _ Z=>?_;refine qv Z (fun X a=>fx 12 12 (Z.ev rfl)) fun _ Z=>?_;refine ax ?_;apply iw (k:=5) (deps:=[]) (R:=IsBox _ _ _) Z rfl rfl IsBox.stable (fun X a J=>nr rfl (Z.ev rfl) (Z.ev rfl) rfl aa ((U.grow a).at_ (i:=2) rfl) rfl rfl);intro K;refine k5 fun _ Zj Zk=>?_;have U:=U.growBox (i:=2) (v:=K) rfl Zj (aD Zk (k:=5) rfl);refine GO 1 ?_;intro _ Z;refine aS Z (wn rfl) ⟨rfl,rfl⟩ (Z.ev rfl) (Z.ev rfl) rfl aa U (i:=2) rfl rfl rfl fun _ U=>GO 6 ?_;intro _ Z;refine sv (v:=cy (EO s N V)) Z (ah aa aa (Z.ev rfl) (U.cellsAll (i:=2) rfl)) fun _ Z=>?_;refine cQ Z rfl U (kW (EO s N V) _ o.1 o.2.1 o.2.2) fun _ _ Z U=>?_;refine bV Z (wn rfl) (f:=fun b=>.slice (some ⟨b,0,none⟩) 2 2) (ba dt aa aa (Z.evs2 rfl) rfl rfl rfl au au) rfl rfl U fun Jw _ _ Zr Z U=>dn Z rfl (fL (U.at_ (i:=0) rfl)) fun _ Z=>?_;refine GO 9 ?_;intro _ Z;refine ak (Z.ev rfl) (fun C=>?_) (fun C=>?_)
       ·
        rw[←t] at Z C;have hne:E≠0:=al C;rw[if_neg hne] at c;refine aj (aq ?_);refine sv Z (az (zs:=km) (pl:=j7) aa aa (Z.evs2 rfl) rfl rfl) fun _ Z=>?_;refine GO 1 ?_;intro _ Z;refine sw Z U 5 fun _ U=>?_;refine GO 5 ?_;intro _ Z;refine bZ Z rfl rfl rfl U (i:=5) rfl aa aa ?_;exact⟨by rw[c];rfl,U.below⟩
       ·
        rw[←t] at C;have A:E=0:=al C;rw[if_pos A] at c;refine wp_skip (ai (aj (aq ?_)));refine sv (v:=cy (EO s N V)) Z (ah aa aa (Z.ev rfl) (U.cellsAll (i:=3) rfl)) fun _ Z=>?_;refine sw Z U 5 fun _ U=>?_;refine GO 4 ?_;intro _ Z;refine bZ Z rfl rfl rfl U (i:=5) rfl aa aa ?_;exact⟨by rw[c,A];rfl,U.below⟩
      case hB=>kernel_rfl
      case hst=>rfl
    case hB=>kernel_rfl
    case hst=>rfl
   case hB=>kernel_rfl
   case hst=>rfl
  case hB=>kernel_rfl
end Go.Proofs.YtcfdpfmchchkaaaGreatDoor
