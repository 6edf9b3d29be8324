/- Chapter 21 -/
import Derived.Test.YtcfdpfmchchkaaaGreatDoorOpB
import Derived.Test.YtcfdpfmchchkaaaGreatDoorSplD
namespace Go.Proofs.YtcfdpfmchchkaaaGreatDoor
set_option maxHeartbeats 1000000
set_option maxRecDepth 4000
set_option linter.unusedVariables false
set_option linter.unusedSimpArgs false
open Go.RowKit Go.Sort
def BytesAt (w:World) (g:Nat) (l:List UInt8):Prop:=∀j,j<l.length→w.cell? ⟨g,j,none⟩=some (bB (l.getD j 0))∧w.frozen? ⟨g,j,none⟩=false
theorem BytesAt.set {w:World} {g:Nat} {l:List UInt8} (h:BytesAt w g l) (i:Nat) (f:i<l.length) (b:UInt8):BytesAt (w.setCell ⟨g,i,none⟩ (bB b)) g (l.set i b):=by
 intro j a;rw[List.length_set] at a;obtain⟨c,d⟩:=h j a;refine⟨?_,by rw[World.frozen?_setCell];exact d⟩;by_cases e:i=j
 · subst e
   rw[World.cell?_setCell_same _ _ _ c,gJ,List.getElem?_set_self f];rfl
 · rw[World.cell?_setCell_other _ _ _ _ (by intro h;injection h with _ h;exact e h),c,gJ,gJ,List.getElem?_set_ne e]
theorem BytesAt.below {w b:World} {g:Nat} {l:List UInt8} (h:BytesAt w g l) (a:g<w.heap.size) (c:Below w.heap.size w b):BytesAt b g l:=fun j d=>by
 obtain⟨f,e⟩:=h j d;exact⟨(c.cell (p:=⟨g,j,none⟩) a).trans f,(c.frozen (p:=⟨g,j,none⟩) a).trans e⟩
theorem Dp (b:UInt8) (j:Nat) (a:j<8):(bits .and .u8 (b.toNat:Int) ((2 ^ j:Nat):Int) != 0)=rl b j:=by
 have all:∀n:Fin 256,∀j:Fin 8,(bits .and .u8 ((UInt8.ofNat n.val).toNat:Int) ((2 ^ j.val:Nat):Int) != 0)=rl (UInt8.ofNat n.val) j.val:=by decide +kernel
 simpa using all ⟨b.toNat,b.toNat_lt⟩ ⟨j,a⟩
theorem wT (b:UInt8) (j:Nat) (a:j<8):bits .andNot .u8 (b.toNat:Int) ((2 ^ j:Nat):Int)=((lj b j false).toNat:Int):=by
 have all:∀n:Fin 256,∀j:Fin 8,bits .andNot .u8 ((UInt8.ofNat n.val).toNat:Int) ((2 ^ j.val:Nat):Int)=((lj (UInt8.ofNat n.val) j.val false).toNat:Int):=by decide +kernel
 simpa using all ⟨b.toNat,b.toNat_lt⟩ ⟨j,a⟩
theorem Cp (b:UInt8) (j:Nat) (a:j<8):bits .or .u8 ((lj b j false).toNat:Int) ((2 ^ j:Nat):Int)=((lj b j true).toNat:Int):=by
 have all:∀n:Fin 256,∀j:Fin 8,bits .or .u8 ((lj (UInt8.ofNat n.val) j.val false).toNat:Int) ((2 ^ j.val:Nat):Int)=((lj (UInt8.ofNat n.val) j.val true).toNat:Int):=by decide +kernel
 simpa using all ⟨b.toNat,b.toNat_lt⟩ ⟨j,a⟩
theorem xO {α:Type} (L:List α) (q:Nat) (x:α) (h:q<L.length):L.take q ++ [x] ++ L.drop (q+1)=L.set q x:=by
 rw[List.set_eq_take_append_cons_drop,if_pos h];simp
theorem DE {α:Type} {d:α} (L:List α) (q:Nat) (x:α) (h:q<L.length):(L.set q x).getD q d=x:=by
 rw[List.getD_eq_getElem?_getD,List.getElem?_set_self h];rfl
theorem FC (j:Nat) (h:j<8):IntKind.u8.wrap (1*2 ^ j)=((2 ^ j:Nat):Int):=by
 have all:∀j:Fin 8,IntKind.u8.wrap (1*2 ^ j.val)=((2 ^ j.val:Nat):Int):=by decide +kernel
 exact all ⟨j,h⟩
theorem ng {X:World} {b q:Nat} {l:List UInt8} (h:nC X b l) (a:q<l.length):X.cell? ⟨b,0+q*1,none⟩=some (bB (l.getD q 0)):=by
 obtain⟨cs,T,fr,d,c,_⟩:=h
 have Y:cs.toList[q]? = some (bB (l.getD q 0)):=by
  have Y:(cs.toList.take l.length)[q]? = (l.map bB)[q]?:=by rw[c]
  rw[List.getElem?_take,if_pos a,List.getElem?_map,List.getElem?_eq_getElem a] at Y;rw[Y,List.getD_eq_getElem?_getD,List.getElem?_eq_getElem a];rfl
 unfold World.cell?;rw[show(0+q*1)=q by omega];simp[d]
 simpa using Y
theorem mm (s:ByteArray) (a c:Nat) (v:Bool) (w:World) (J:s.size≤3100) (E:a+c≤8*s.size) :
 bz 243 #[.string s,ae a,ae c,.bool v] w (.tuple #[.string (bs (cB (bl s) a c v)),.bool (dX (bl s) a c v)]):=by
 refine aq (N:=60) Tryz.func243 rfl rfl rfl (fun _ Y=>?_);have Z:=St.init w;refine GO 3 ?_;intro _ Y;refine GO 6 ?_;intro _ Y;refine uS Y (wn rfl) ⟨rfl,rfl⟩ rfl dh bX oy (Y.ev rfl) Z fun t A _ _ K y Y Z=>GO 16 ?_;intro _ Y;refine aY Y Z [10,9,8,1,2,3] (fun (k:Nat)=>[(12,ae ((a+k:Nat):Int)),(11,.bool (dX (bl s) a k v))]) (fun (k:Nat)=>k≤c) (fun k _=>[.byt t (cB (bl s) a k v)]) (fun (k:Nat)=>c-k) (0) ((Nat.zero_le _)) bN (Z) ?_;intro k _ _ M Y Z;refine GO 10 ?_;intro _ Y;refine ak (Y.ev rfl) (fun u=>?_) (fun u=>?_)
 ·
  have H:k<c:=by have:=of_decide_eq_true u;omega
  obtain⟨L,o⟩:∃L,L=cB (bl s) a k v:=⟨_,rfl⟩;rw[←o] at Z
  have F:L.length=s.size:=by rw[o,ek,aP]
  obtain⟨q,C⟩:∃q,q=(a+k) / 8:=⟨_,rfl⟩;obtain⟨j,B⟩:∃j,j=(a+k) % 8:=⟨_,rfl⟩
  have f:j<8:=by omega
  have b:q<L.length:=by omega
  have e:(((a+k:Nat):Int)) / 8=(q:Int):=by omega
  have m:(((a+k:Nat):Int)) % 8=(j:Int):=by omega
  have l:rl (L.getD q 0) j=jI (bl s) (a+k):=by
   have Y:=ra (bl s) a k (a+k) v (by rw[aP];omega);rw[if_neg ab,←o] at Y;rw[←Y,C,B];rfl
  have d:cB (bl s) a (k+1) v=L.set q (lj (L.getD q 0) j v):=by
   show putAt (cB (bl s) a k v) (a+k) v=_;rw[←o,C,B];rfl
  refine GO 7 ?_;intro _ Y;refine sv Y (aA (v':=ae (j:Int)) (congrArg _ m) (kY (Y.ev rfl) (Y.ev rfl) ab)) fun _ Y=>?_;refine sv Y (xB (n:=j) (Y.ev rfl) (Y.ev rfl) (Nat.ble_eq_true_of_le (by show j≤8;omega)) (FC j f)) fun _ Y=>?_;refine GO 7 ?_;intro _ Y;apply bo (x:=(jI (bl s) (a+k) != v)) Y Z 28 rfl 11 39
  case ht=>
   intro D;refine GO 2 ?_;intro _ Y;refine sy Y (aA (v':=ae (q:Int)) (congrArg _ e) (lA (Y.ev rfl) (Y.ev rfl) ab)) fun _ Y=>?_;refine sy Y (av (i:=q) (sz:=1) bX aa (Y.ev rfl) (Y.ev rfl) ab ab rfl) fun _ Y=>?_;refine sy Y (lx (Y.ev rfl) (ng (Z.at_ (i:=0) rfl) b)) fun _ Y=>?_;refine GO 1 ?_;intro _ Y;refine sy Y (mj (r:=bits .and .u8 ((L.getD q 0).toNat:Int) ((2 ^ j:Nat):Int)) rfl (Y.ev rfl) (Y.ev rfl) rfl) fun _ Y=>?_;refine sy Y (aA (v':=.bool (jI (bl s) (a+k))) (congrArg _ ((Dp _ j f).trans l)) (kW (Y.ev rfl) (Y.ev rfl))) fun _ Y=>?_;refine GO 1 ?_;intro _ Y;refine sy Y (yj xx (Y.ev rfl) (Y.ev rfl)) fun _ Y=>?_;refine GO 1 ?_;intro _ Y;exact ah ⟨Y.midE 10,Z⟩
  case hf=>
   intro D;refine GO 11 ?_;intro _ Y;exact ah ⟨Y.midE 10,Z⟩
  case h=>
   rintro G O ⟨I,z⟩
   refine GO 7 ?_;intro _ Y;refine sv Y (aA (v':=ae (q:Int)) (congrArg _ e) (lA (Y.ev rfl) (Y.ev rfl) ab)) fun _ Y=>?_;refine sv Y (av (i:=q) (sz:=1) bX aa (Y.ev rfl) (Y.ev rfl) ab ab rfl) fun _ Y=>?_;refine sv Y (lx (Y.ev rfl) (ng (z.at_ (i:=0) rfl) b)) fun _ Y=>?_;refine GO 1 ?_;intro _ Y;refine sv Y (mj (r:=((lj (L.getD q 0) j false).toNat:Int)) rfl (Y.ev rfl) (Y.ev rfl) (wT _ j f)) fun _ Y=>?_;refine sv Y (av (i:=q) (sz:=1) bX aa (Y.ev rfl) (Y.ev rfl) ab ab rfl) fun _ Y=>?_;refine yM Y (wn rfl) ⟨rfl,rfl⟩ aa (Y.ev rfl) (Y.ev rfl) rfl z (i:=0) rfl ab fun _ Z=>?_;rw[show 0+q*1=q by omega,xO L q _ b] at Z;refine GO 7 ?_;intro _ Y;refine ak (Y.ev rfl) (fun p=>?_) (fun p=>?_)
   ·
    obtain rfl:v=true:=p;refine GO 3 ?_;intro _ Y;refine sv Y (aA (v':=ae (q:Int)) (congrArg _ e) (lA (Y.ev rfl) (Y.ev rfl) ab)) fun _ Y=>?_;refine sv Y (av (i:=q) (sz:=1) bX aa (Y.ev rfl) (Y.ev rfl) ab ab rfl) fun _ Y=>?_;refine sv Y (aA (v':=.int .u8 ((lj (L.getD q 0) j false).toNat:Int)) (by rw[DE L q _ b];rfl) (lx (Y.ev rfl) (ng (Z.at_ (i:=0) rfl) (by rw[List.length_set];exact b)))) fun _ Y=>?_;refine GO 1 ?_;intro _ Y;refine sv Y (mj (r:=((lj (L.getD q 0) j true).toNat:Int)) rfl (Y.ev rfl) (Y.ev rfl) (Cp _ j f)) fun _ Y=>?_;refine sv Y (av (i:=q) (sz:=1) bX aa (Y.ev rfl) (Y.ev rfl) ab ab rfl) fun _ Y=>?_;refine yM Y (wn rfl) ⟨rfl,rfl⟩ aa (Y.ev rfl) (Y.ev rfl) rfl Z (i:=0) rfl (by rw[List.length_set];omega) fun _ Z=>?_;rw[show 0+q*1=q by omega,xO _ q _ (by rw[List.length_set];exact b),List.set_set,List.set_set,←d] at Z;refine GO 5 ?_;intro _ Y;refine sv Y (aA (v':=ae ((a+(k+1):Nat):Int)) (congrArg _ ab) (cy (Y.ev rfl) (Y.ev rfl) ab)) fun _ Y=>?_;refine GO 3 ?_;intro _ Y;exact⟨k+1,by omega,by omega,Y.re bN,Z⟩
   ·
    obtain rfl:v=false:=p;refine GO 5 ?_;intro _ Y;refine sv Y (aA (v':=ae ((a+(k+1):Nat):Int)) (congrArg _ ab) (cy (Y.ev rfl) (Y.ev rfl) ab)) fun _ Y=>?_;refine GO 3 ?_;intro _ Y;exact⟨k+1,by omega,by omega,Y.re bN,(by rw[d];exact Z)⟩
 ·
  obtain rfl:k=c:=by have:=of_decide_eq_false u;omega
  have g:(cB (bl s) a k v).length=s.size:=by rw[ek,aP]
  refine GO 8 ?_;intro _ Y;refine sv Y (yv bX oy dh (Y.ev rfl) (Z.bytStr (i:=0) rfl ab).1 (Z.bytStr (i:=0) rfl ab).2) fun _ Y=>?_;refine GO 6 ?_;intro _ Y;refine cd Y rfl rfl rfl ?_;exact⟨by rw[List.drop_zero,←g,List.take_length],Z.below⟩
open Go.RowKit Go.Sort
theorem l3 {X:World} {b n:Nat} {T:TypeId} (es:List Int) (d:es.length≤100) (e:n=es.length) (c:Box X b (es.map (.int .i64)).toArray T):fZ 143 #[.slice (some ⟨b,0,none⟩) n n] X (ae (aw es)):=by
 subst e;exact jC b 0 es X d (fun k a=>by rw[Nat.zero_add,Box.cells c k];simp[a])
theorem fm {X:World} {b:Nat} {a e2:Int} {T:TypeId} (c:Box X b #[ae a,ae e2] T):fZ 143 #[.slice (some ⟨b,0,none⟩) 2 2] X (ae (aw [a,e2])):=l3 [a,e2] bm rfl c
theorem tB {X:World} {b:Nat} {d e2 e3 a c:Int} {T:TypeId} (e:Box X b #[ae d,ae e2,ae e3,ae a,ae c] T):fZ 143 #[.slice (some ⟨b,0,none⟩) 5 5] X (ae (aw [d,e2,e3,a,c])):=l3 [d,e2,e3,a,c] bm rfl e
theorem r4 (x:Op) (w:World) (b:x.o.size≤3100) (c:x.n.size≤3100) :
 bz 240 #[gm x] w (.string (x.o ++ x.n)):=by
 refine aq (N:=8) Tryz.func240 rfl rfl rfl (fun _ Y=>?_);have Z:=St.init w;refine ai (an ?_);refine nb Y rfl rfl Z fun b1 _ _ a Y Z=>GO 9 ?_;intro _ Y;refine sv Y (dH (Y.ev rfl) (Y.ev rfl) ab) fun _ Y=>?_;refine GO 4 ?_;intro _ Y;refine aI Y rfl rfl ?_;exact⟨rfl,Z.below⟩
theorem tp (x:Op) (w:World) (G:x.o.size≤3100) (A:x.n.size≤3100) :
 bz 214 #[gm x] w (ae (bF (fD x) 2)):=by
 obtain⟨R,b⟩:∃R,R=fD x:=⟨_,rfl⟩;rw[←b];unfold fD at b;have k:(x.o ++ x.n).size=x.o.size+x.n.size:=ByteArray.size_append;refine aq (N:=65) Tryz.func214 rfl rfl rfl (fun _ Y=>?_);have Z:=St.init w;refine ai (an ?_);refine nb Y rfl rfl Z fun b1 _ _ P Y Z=>GO 7 ?_;intro _ Y;refine cU Y rfl (bn _ _ _ _) fun _ Y=>?_;refine GO 5 ?_;intro _ Y;refine sv (v:=gm x) Y (ag aa aa (Y.ev rfl) (Z.cellsAll (i:=0) rfl)) fun _ Y=>?_;refine cN Y rfl Z (r4 x _ G A) fun _ _ Y Z=>?_;refine sv Y (aA (v':=ae ((x.o.size:Int)+x.n.size)) (by rw[k];rfl) (kB dh (Y.ev rfl))) fun _ Y=>?_;refine GO 17 ?_;intro _ Y;refine ak (Y.ev rfl) (fun m=>?_) (fun m=>?_)
 ·
  rw[if_pos (ar m)] at b;refine GO 3 ?_;intro _ Y;apply bo (x:=decide ((x.o.size:Int)≤512-x.a)) Y Z 16 rfl 8 24
  case ht=>
   intro r;refine GO 5 ?_;intro _ Y;refine sy Y (fp (Y.ev rfl) (Y.ev rfl) (by have:=inB_true.1 r;omega)) fun _ Y=>?_;refine GO 2 ?_;intro _ Y;exact ah ⟨Y.midE 7,Z⟩
  case hf=>
   intro r;refine GO 8 ?_;intro _ Y;exact ah ⟨Y.midE 7,Z⟩
  case h=>
   rintro z J ⟨T,F⟩
   refine GO 7 ?_;intro _ Y;refine cU Y rfl (aE _ _ _) fun _ Y=>?_;refine GO 4 ?_;intro _ Y;refine aI Y rfl rfl ?_;exact⟨by rw[b],F.below⟩
 ·
  rw[if_neg (ar m)] at b;refine GO 6 ?_;intro _ Y;refine ak (Y.ev rfl) (fun j=>?_) (fun j=>?_)
  ·
   rw[if_pos (ar j)] at b;refine GO 3 ?_;intro _ Y;apply bo (x:=bD x.e x.a (512-(x.o.size+x.n.size))) Y Z 28 rfl 8 36
   case ht=>
    intro q;refine GO 6 ?_;intro _ Y;refine ct Y (ao Y _ rfl rfl rfl q) (az bc (Y.evs rfl) rfl) rfl rfl (bn _ _ _ _) fun _ Y=>GO 1 ?_;intro _ Y;exact ah ⟨Y.midE 7,Z⟩
   case hf=>
    intro q;refine GO 8 ?_;intro _ Y;exact ah ⟨Y.midE 7,Z⟩
   case h=>
    rintro D K ⟨S,u⟩
    refine GO 7 ?_;intro _ Y;refine cU Y rfl (aE _ _ _) fun _ Y=>?_;refine GO 4 ?_;intro _ Y;refine aI Y rfl rfl ?_;exact⟨by rw[b],u.below⟩
  ·
   rw[if_neg (ar j)] at b;refine GO 6 ?_;intro _ Y;refine ak (Y.ev rfl) (fun p=>?_) (fun p=>?_)
   ·
    rw[if_pos (ar p)] at b;refine GO 3 ?_;intro _ Y;apply bo (x:=bD x.e (x.a+(x.o.size+x.n.size)) 512) Y Z 40 rfl 8 48
    case ht=>
     intro l;refine GO 5 ?_;intro _ Y;refine sy Y (cy (Y.ev rfl) (Y.ev rfl) (by have:=inB_true.1 l;omega)) fun _ Y=>?_;refine ct Y (ao Y _ rfl rfl rfl l) (az bc (Y.evs rfl) rfl) rfl rfl (bn _ _ _ _) fun _ Y=>GO 1 ?_;intro _ Y;exact ah ⟨Y.midE 7,Z⟩
    case hf=>
     intro l;refine GO 8 ?_;intro _ Y;exact ah ⟨Y.midE 7,Z⟩
    case h=>
     rintro C I ⟨M,E⟩
     refine GO 7 ?_;intro _ Y;refine cU Y rfl (aE _ _ _) fun _ Y=>?_;refine GO 4 ?_;intro _ Y;refine aI Y rfl rfl ?_;exact⟨by rw[b],E.below⟩
   ·
    rw[if_neg (ar p)] at b;refine GO 7 ?_;intro _ Y;refine ak (Y.ev rfl) (fun g=>?_) (fun g=>?_)
    ·
     rw[if_pos (.inl (ar g))] at b;refine wp_skip (aj ?_);refine ak (Y.ev rfl) (fun f=>?_) (fun f=>?_)
     ·
      refine GO 3 ?_;intro _ Y;refine cU Y rfl (bn _ _ _ _) fun _ Y=>?_;refine GO 1 ?_;intro _ Y;apply bo (x:=bD x.c 1 (4096-x.a)) Y Z 55 rfl 7 62
      case ht=>
       intro d;refine GO 4 ?_;intro _ Y;refine sy Y (fp (Y.ev rfl) (Y.ev rfl) (by have:=inB_true.1 d;omega)) fun _ Y=>?_;refine ct Y (ao Y _ rfl rfl rfl d) (az bc (Y.evs rfl) rfl) rfl rfl (bn _ _ _ _) fun _ Y=>GO 1 ?_;intro _ Y;exact ah ⟨Y.midE 6,Z⟩
      case hf=>
       intro d;refine GO 7 ?_;intro _ Y;exact ah ⟨Y.midE 6,Z⟩
      case h=>
       rintro s L ⟨H,y⟩
       refine GO 7 ?_;intro _ Y;refine cU Y rfl (aE _ _ _) fun _ Y=>?_;refine GO 4 ?_;intro _ Y;refine aI Y rfl rfl ?_;exact⟨by rw[b],y.below⟩
     ·
      exact absurd (g.symm.trans f) au
    ·
     refine GO 5 ?_;intro _ Y;refine ak (Y.ev rfl) (fun f=>?_) (fun f=>?_)
     ·
      rw[if_pos (.inr (ar f))] at b;refine GO 3 ?_;intro _ Y;refine cU Y rfl (bn _ _ _ _) fun _ Y=>?_;refine GO 1 ?_;intro _ Y;apply bo (x:=bD x.c 1 (4096-x.a)) Y Z 55 rfl 7 62
      case ht=>
       intro d;refine GO 4 ?_;intro _ Y;refine sy Y (fp (Y.ev rfl) (Y.ev rfl) (by have:=inB_true.1 d;omega)) fun _ Y=>?_;refine ct Y (ao Y _ rfl rfl rfl d) (az bc (Y.evs rfl) rfl) rfl rfl (bn _ _ _ _) fun _ Y=>GO 1 ?_;intro _ Y;exact ah ⟨Y.midE 6,Z⟩
      case hf=>
       intro d;refine GO 7 ?_;intro _ Y;exact ah ⟨Y.midE 6,Z⟩
      case h=>
       rintro t O ⟨Q,B⟩
       refine GO 7 ?_;intro _ Y;refine cU Y rfl (aE _ _ _) fun _ Y=>?_;refine GO 4 ?_;intro _ Y;refine aI Y rfl rfl ?_;exact⟨by rw[b],B.below⟩
     ·
      rw[if_neg (by intro h;rcases h with h | h;exact absurd h (ar g);exact absurd h (ar f))] at b;refine GO 8 ?_;intro _ Y;refine cU Y rfl (aE _ _ _) fun _ Y=>?_;refine GO 4 ?_;intro _ Y;refine aI Y rfl rfl ?_;exact⟨by rw[b],Z.below⟩
end Go.Proofs.YtcfdpfmchchkaaaGreatDoor
