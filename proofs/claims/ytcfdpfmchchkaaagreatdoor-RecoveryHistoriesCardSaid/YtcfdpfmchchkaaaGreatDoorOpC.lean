/-
  Chapter 21: bits of a page.
  Chapter 21: the errors of operations: moved, rangeErr.
-/
import Derived.Test.YtcfdpfmchchkaaaGreatDoorOpB
import Derived.Test.YtcfdpfmchchkaaaGreatDoorSplD
namespace Go.Proofs.YtcfdpfmchchkaaaGreatDoor
set_option maxHeartbeats 1000000
set_option maxRecDepth 4000
set_option linter.unusedVariables false
set_option linter.unusedSimpArgs false
open Go.RowKit Go.Sort
def BytesAt (w:World) (g:Nat) (l:List UInt8):Prop:=∀j,j<l.length→w.cell? ⟨g,j,none⟩=some (bb (l.getD j 0))∧w.frozen? ⟨g,j,none⟩=false
theorem BytesAt.set {w:World} {g:Nat} {l:List UInt8} (h:BytesAt w g l) (i:Nat) (hi:i<l.length) (b:UInt8):BytesAt (w.setCell ⟨g,i,none⟩ (bb b)) g (l.set i b):=by
 intro j hj;rw[List.length_set] at hj;obtain⟨h1,h2⟩:=h j hj;refine⟨?_,by rw[World.frozen?_setCell];exact h2⟩;by_cases e:i=j
 · subst e
   rw[World.cell?_setCell_same _ _ _ h1,fo,List.getElem?_set_self hi];rfl
 · rw[World.cell?_setCell_other _ _ _ _ (by intro h;injection h with _ h;exact e h),h1,fo,fo,List.getElem?_set_ne e]
theorem BytesAt.below {w w':World} {g:Nat} {l:List UInt8} (h:BytesAt w g l) (hg:g<w.heap.size) (hb:Below w.heap.size w w'):BytesAt w' g l:=fun j hj=>by
 obtain⟨h1,h2⟩:=h j hj;exact⟨(hb.cell (p:=⟨g,j,none⟩) hg).trans h1,(hb.frozen (p:=⟨g,j,none⟩) hg).trans h2⟩
theorem zi (b:UInt8) (j:Nat) (hj:j<8):(bits .and .u8 (b.toNat:Int) ((2 ^ j:Nat):Int) != 0)=nV b j:=by
 have all:∀n:Fin 256,∀j:Fin 8,(bits .and .u8 ((UInt8.ofNat n.val).toNat:Int) ((2 ^ j.val:Nat):Int) != 0)=nV (UInt8.ofNat n.val) j.val:=by decide +kernel
 simpa using all ⟨b.toNat,b.toNat_lt⟩ ⟨j,hj⟩
theorem sS (b:UInt8) (j:Nat) (hj:j<8):bits .andNot .u8 (b.toNat:Int) ((2 ^ j:Nat):Int)=((jr b j false).toNat:Int):=by
 have all:∀n:Fin 256,∀j:Fin 8,bits .andNot .u8 ((UInt8.ofNat n.val).toNat:Int) ((2 ^ j.val:Nat):Int)=((jr (UInt8.ofNat n.val) j.val false).toNat:Int):=by decide +kernel
 simpa using all ⟨b.toNat,b.toNat_lt⟩ ⟨j,hj⟩
theorem wY (b:UInt8) (j:Nat) (hj:j<8):bits .or .u8 ((jr b j false).toNat:Int) ((2 ^ j:Nat):Int)=((jr b j true).toNat:Int):=by
 have all:∀n:Fin 256,∀j:Fin 8,bits .or .u8 ((jr (UInt8.ofNat n.val) j.val false).toNat:Int) ((2 ^ j.val:Nat):Int)=((jr (UInt8.ofNat n.val) j.val true).toNat:Int):=by decide +kernel
 simpa using all ⟨b.toNat,b.toNat_lt⟩ ⟨j,hj⟩
theorem uq {α:Type} (L:List α) (q:Nat) (x:α) (h:q<L.length):L.take q ++ [x] ++ L.drop (q+1)=L.set q x:=by
 rw[List.set_eq_take_append_cons_drop,if_pos h];simp
theorem Ak {α:Type} {d:α} (L:List α) (q:Nat) (x:α) (h:q<L.length):(L.set q x).getD q d=x:=by
 rw[List.getD_eq_getElem?_getD,List.getElem?_set_self h];rfl
theorem Ch (j:Nat) (h:j<8):IntKind.u8.wrap (1*2 ^ j)=((2 ^ j:Nat):Int):=by
 have all:∀j:Fin 8,IntKind.u8.wrap (1*2 ^ j.val)=((2 ^ j.val:Nat):Int):=by decide +kernel
 exact all ⟨j,h⟩
theorem kK {X:World} {b q:Nat} {l:List UInt8} (h:kC X b l) (hq:q<l.length):X.cell? ⟨b,0+q*1,none⟩=some (bb (l.getD q 0)):=by
 obtain⟨cs,T,fr,h1,h2,_⟩:=h
 have Y:cs.toList[q]? = some (bb (l.getD q 0)):=by
  have Y:(cs.toList.take l.length)[q]? = (l.map bb)[q]?:=by rw[h2]
  rw[List.getElem?_take,if_pos hq,List.getElem?_map,List.getElem?_eq_getElem hq] at Y;rw[Y,List.getD_eq_getElem?_getD,List.getElem?_eq_getElem hq];rfl
 unfold World.cell?;rw[show(0+q*1)=q by omega];simp[h1]
 simpa using Y
theorem j3 (s:ByteArray) (a c:Nat) (v:Bool) (w:World) (hs:s.size≤3100) (hac:a+c≤8*s.size) :
 Calls Tryz.prog 243 #[.string s,.int .i64 a,.int .i64 c,.bool v] w fun e w'=>e=.returned (.tuple #[.string (bs (bO (bl s) a c v)),.bool (di (bl s) a c v)])∧Below w.heap.size w w':=by
 refine al (N:=60) Tryz.func243 rfl rfl rfl (fun _ Y=>?_);have Z:=St.init w;refine GO 3 ?_;intro _ Y;refine GO 6 ?_;intro _ Y;refine rq Y (wn rfl) ⟨rfl,rfl⟩ rfl Tryz.underlying9 Tryz.underlying126 Tryz.underlying5 (Y.ev rfl) Z fun b15 cb15 _ _ Ze zb15 Y Z=>?_;refine GO 16 ?_;intro _ Y;refine aY Y Z [10,9,8,1,2,3] (fun (k:Nat)=>[(12,.int .i64 ((a+k:Nat):Int)),(11,.bool (di (bl s) a k v))]) (fun (k:Nat)=>k≤c) (fun k _=>[.byt b15 (bO (bl s) a k v)]) (fun (k:Nat)=>c-k) (0) ((Nat.zero_le _)) bz (Z) ?_;intro k _ _ Zf Y Z;refine GO 10 ?_;intro _ Y;refine ak (Y.ev rfl) (fun Za=>?_) (fun Za=>?_)
 ·
  have hlt:k<c:=by have:=of_decide_eq_true Za;omega
  obtain⟨L,hL⟩:∃L,L=bO (bl s) a k v:=⟨_,rfl⟩;rw[←hL] at Z
  have hll:L.length=s.size:=by rw[hL,dr,aO]
  obtain⟨q,hq⟩:∃q,q=(a+k) / 8:=⟨_,rfl⟩;obtain⟨j,hj⟩:∃j,j=(a+k) % 8:=⟨_,rfl⟩
  have hj8:j<8:=by omega
  have hqs:q<L.length:=by omega
  have hdiv:(((a+k:Nat):Int)) / 8=(q:Int):=by omega
  have hmod:(((a+k:Nat):Int)) % 8=(j:Int):=by omega
  have hbit:nV (L.getD q 0) j=ia (bl s) (a+k):=by
   have Y:=n4 (bl s) a k (a+k) v (by rw[aO];omega);rw[if_neg ab,←hL] at Y;rw[←Y,hq,hj];rfl
  have hnext:bO (bl s) a (k+1) v=L.set q (jr (L.getD q 0) j v):=by
   show putAt (bO (bl s) a k v) (a+k) v=_;rw[←hL,hq,hj];rfl
  refine GO 7 ?_;intro _ Y;refine sv Y (aw (v':=.int .i64 (j:Int)) (congrArg _ hmod) (js (Y.ev rfl) (Y.ev rfl) ab)) fun _ Y=>?_;refine sv Y (tx (n:=j) (Y.ev rfl) (Y.ev rfl) (Nat.ble_eq_true_of_le (by show j≤8;omega)) (Ch j hj8)) fun _ Y=>?_;refine GO 7 ?_;intro _ Y;apply aZ (x:=(ia (bl s) (a+k) != v)) Y Z 28 rfl 11 39
  case ht=>
   intro Zb;refine GO 2 ?_;intro _ Y;refine sy Y (aw (v':=.int .i64 (q:Int)) (congrArg _ hdiv) (jE (Y.ev rfl) (Y.ev rfl) ab)) fun _ Y=>?_;refine sy Y (au (i:=q) (sz:=1) Tryz.underlying126 aa (Y.ev rfl) (Y.ev rfl) ab ab rfl) fun _ Y=>?_;refine sy Y (lx (Y.ev rfl) (kK (Z.at_ (i:=0) rfl) hqs)) fun _ Y=>?_;refine GO 1 ?_;intro _ Y;refine sy Y (ki (r:=bits .and .u8 ((L.getD q 0).toNat:Int) ((2 ^ j:Nat):Int)) rfl (Y.ev rfl) (Y.ev rfl) rfl) fun _ Y=>?_;refine sy Y (aw (v':=.bool (ia (bl s) (a+k))) (congrArg _ ((zi _ j hj8).trans hbit)) (iE (Y.ev rfl) (Y.ev rfl))) fun _ Y=>?_;refine GO 1 ?_;intro _ Y;refine sy Y (uD Tryz.underlying4 (Y.ev rfl) (Y.ev rfl)) fun _ Y=>?_;refine GO 1 ?_;intro _ Y;exact ae ⟨Y.midE 10,Z⟩
  case hf=>
   intro Zb;refine GO 11 ?_;intro _ Y;exact ae ⟨Y.midE 10,Z⟩
  case h=>
   rintro a43 Zg ⟨Zh,Zd⟩
   refine GO 7 ?_;intro _ Y;refine sv Y (aw (v':=.int .i64 (q:Int)) (congrArg _ hdiv) (jE (Y.ev rfl) (Y.ev rfl) ab)) fun _ Y=>?_;refine sv Y (au (i:=q) (sz:=1) Tryz.underlying126 aa (Y.ev rfl) (Y.ev rfl) ab ab rfl) fun _ Y=>?_;refine sv Y (lx (Y.ev rfl) (kK (Zd.at_ (i:=0) rfl) hqs)) fun _ Y=>?_;refine GO 1 ?_;intro _ Y;refine sv Y (ki (r:=((jr (L.getD q 0) j false).toNat:Int)) rfl (Y.ev rfl) (Y.ev rfl) (sS _ j hj8)) fun _ Y=>?_;refine sv Y (au (i:=q) (sz:=1) Tryz.underlying126 aa (Y.ev rfl) (Y.ev rfl) ab ab rfl) fun _ Y=>?_;refine uk Y (wn rfl) ⟨rfl,rfl⟩ aa (Y.ev rfl) (Y.ev rfl) rfl Zd (i:=0) rfl ab fun _ Z=>?_;rw[show 0+q*1=q by omega,uq L q _ hqs] at Z;refine GO 7 ?_;intro _ Y;refine ak (Y.ev rfl) (fun Zc=>?_) (fun Zc=>?_)
   ·
    obtain rfl:v=true:=Zc;refine GO 3 ?_;intro _ Y;refine sv Y (aw (v':=.int .i64 (q:Int)) (congrArg _ hdiv) (jE (Y.ev rfl) (Y.ev rfl) ab)) fun _ Y=>?_;refine sv Y (au (i:=q) (sz:=1) Tryz.underlying126 aa (Y.ev rfl) (Y.ev rfl) ab ab rfl) fun _ Y=>?_;refine sv Y (aw (v':=.int .u8 ((jr (L.getD q 0) j false).toNat:Int)) (by rw[Ak L q _ hqs];rfl) (lx (Y.ev rfl) (kK (Z.at_ (i:=0) rfl) (by rw[List.length_set];exact hqs)))) fun _ Y=>?_;refine GO 1 ?_;intro _ Y;refine sv Y (ki (r:=((jr (L.getD q 0) j true).toNat:Int)) rfl (Y.ev rfl) (Y.ev rfl) (wY _ j hj8)) fun _ Y=>?_;refine sv Y (au (i:=q) (sz:=1) Tryz.underlying126 aa (Y.ev rfl) (Y.ev rfl) ab ab rfl) fun _ Y=>?_;refine uk Y (wn rfl) ⟨rfl,rfl⟩ aa (Y.ev rfl) (Y.ev rfl) rfl Z (i:=0) rfl (by rw[List.length_set];omega) fun _ Z=>?_;rw[show 0+q*1=q by omega,uq _ q _ (by rw[List.length_set];exact hqs),List.set_set,List.set_set,←hnext] at Z;refine GO 5 ?_;intro _ Y;refine sv Y (aw (v':=.int .i64 ((a+(k+1):Nat):Int)) (congrArg _ ab) (bU (Y.ev rfl) (Y.ev rfl) ab)) fun _ Y=>?_;refine GO 3 ?_;intro _ Y;exact⟨k+1,by omega,by omega,Y.re bz,Z⟩
   ·
    obtain rfl:v=false:=Zc;refine GO 5 ?_;intro _ Y;refine sv Y (aw (v':=.int .i64 ((a+(k+1):Nat):Int)) (congrArg _ ab) (bU (Y.ev rfl) (Y.ev rfl) ab)) fun _ Y=>?_;refine GO 3 ?_;intro _ Y;exact⟨k+1,by omega,by omega,Y.re bz,(by rw[hnext];exact Z)⟩
 ·
  obtain rfl:k=c:=by have:=of_decide_eq_false Za;omega
  have hlen:(bO (bl s) a k v).length=s.size:=by rw[dr,aO]
  refine GO 8 ?_;intro _ Y;refine sv Y (uG Tryz.underlying126 Tryz.underlying5 Tryz.underlying9 (Y.ev rfl) (Z.bytStr (i:=0) rfl ab).1 (Z.bytStr (i:=0) rfl ab).2) fun _ Y=>?_;refine GO 6 ?_;intro _ Y;refine bC Y rfl rfl rfl ?_;exact⟨by rw[List.drop_zero,←hlen,List.take_length],Z.below⟩
open Go.RowKit Go.Sort
theorem jN {X:World} {b n:Nat} {T:TypeId} (es:List Int) (hl:es.length≤100) (hn:n=es.length) (hb:Box X b (es.map (.int .i64)).toArray T):Calls Tryz.prog 143 #[.slice (some ⟨b,0,none⟩) n n] X fun e w'=>e=.returned (.int .i64 (ar es))∧X=w':=by
 subst hn;exact hZ b 0 es X hl (fun k hk=>by rw[Nat.zero_add,Box.cells hb k];simp[hk])
theorem ed {X:World} {b:Nat} {e1 e2:Int} {T:TypeId} (hb:Box X b #[.int .i64 e1,.int .i64 e2] T):Calls Tryz.prog 143 #[.slice (some ⟨b,0,none⟩) 2 2] X fun e w'=>e=.returned (.int .i64 (ar [e1,e2]))∧X=w':=jN [e1,e2] a7 rfl hb
theorem pO {X:World} {b:Nat} {e1 e2 e3 e4 e5:Int} {T:TypeId} (hb:Box X b #[.int .i64 e1,.int .i64 e2,.int .i64 e3,.int .i64 e4,.int .i64 e5] T):Calls Tryz.prog 143 #[.slice (some ⟨b,0,none⟩) 5 5] X fun e w'=>e=.returned (.int .i64 (ar [e1,e2,e3,e4,e5]))∧X=w':=jN [e1,e2,e3,e4,e5] a7 rfl hb
theorem oH (x:Op) (w:World) (ho:x.o.size≤3100) (hn:x.n.size≤3100) :
 Calls Tryz.prog 240 #[fC x] w fun e w'=>e=.returned (.string (x.o ++ x.n))∧Below w.heap.size w w':=by
 refine al (N:=8) Tryz.func240 rfl rfl rfl (fun _ Y=>?_);have Z:=St.init w;refine ah (ao ?_);refine nb Y rfl rfl Z fun b1 _ _ Za Y Z=>?_;refine GO 9 ?_;intro _ Y;refine sv Y (gM (Y.ev rfl) (Y.ev rfl) ab) fun _ Y=>?_;refine GO 4 ?_;intro _ Y;refine aD Y rfl rfl ?_;exact⟨rfl,Z.below⟩
theorem qc (x:Op) (w:World) (ho:x.o.size≤3100) (hn:x.n.size≤3100) :
 Calls Tryz.prog 214 #[fC x] w fun r w'=>r=.returned (.int .i64 (bn (eu x) 2))∧Below w.heap.size w w':=by
 obtain⟨R,hR⟩:∃R,R=eu x:=⟨_,rfl⟩;rw[←hR];unfold eu at hR;have hsz:(x.o ++ x.n).size=x.o.size+x.n.size:=ByteArray.size_append;refine al (N:=65) Tryz.func214 rfl rfl rfl (fun _ Y=>?_);have Z:=St.init w;refine ah (ao ?_);refine nb Y rfl rfl Z fun b1 _ _ Zs Y Z=>?_;refine GO 7 ?_;intro _ Y;refine cC Y rfl (aT _ _ _ _) fun _ Y=>?_;refine GO 5 ?_;intro _ Y;refine sv (v:=fC x) Y (ai aa aa (Y.ev rfl) (Z.cellsAll (i:=0) rfl)) fun _ Y=>?_;refine cE Y rfl Z (oH x _ ho hn) fun _ _ Y Z=>?_;refine sv Y (aw (v':=.int .i64 ((x.o.size:Int)+x.n.size)) (by rw[hsz];rfl) (iZ Tryz.underlying9 (Y.ev rfl))) fun _ Y=>?_;refine GO 17 ?_;intro _ Y;refine ak (Y.ev rfl) (fun Zg=>?_) (fun Zg=>?_)
 ·
  rw[if_pos (by simpa using Zg)] at hR;refine GO 3 ?_;intro _ Y;apply aZ (x:=decide ((x.o.size:Int)≤512-x.a)) Y Z 16 rfl 8 24
  case ht=>
   intro Zd;refine GO 5 ?_;intro _ Y;refine sy Y (ek (Y.ev rfl) (Y.ev rfl) (by have:=inB_true.1 Zd;omega)) fun _ Y=>?_;refine GO 2 ?_;intro _ Y;exact ae ⟨Y.midE 7,Z⟩
  case hf=>
   intro Zd;refine GO 8 ?_;intro _ Y;exact ae ⟨Y.midE 7,Z⟩
  case h=>
   rintro a33 Zt ⟨Zu,Zl⟩
   refine GO 7 ?_;intro _ Y;refine cC Y rfl (aA _ _ _) fun _ Y=>?_;refine GO 4 ?_;intro _ Y;refine aD Y rfl rfl ?_;exact⟨by rw[hR],Zl.below⟩
 ·
  rw[if_neg (by simpa using Zg)] at hR;refine GO 6 ?_;intro _ Y;refine ak (Y.ev rfl) (fun Zh=>?_) (fun Zh=>?_)
  ·
   rw[if_pos (by simpa using Zh)] at hR;refine GO 3 ?_;intro _ Y;apply aZ (x:=bf x.e x.a (512-(x.o.size+x.n.size))) Y Z 28 rfl 8 36
   case ht=>
    intro Ze;refine GO 6 ?_;intro _ Y;refine bJ Y (aj Y _ rfl rfl rfl Ze) (ax a8 (Y.evs rfl) rfl) rfl rfl (aT _ _ _ _) fun _ Y=>?_;refine GO 1 ?_;intro _ Y;exact ae ⟨Y.midE 7,Z⟩
   case hf=>
    intro Ze;refine GO 8 ?_;intro _ Y;exact ae ⟨Y.midE 7,Z⟩
   case h=>
    rintro a58 Zv ⟨Zw,Zm⟩
    refine GO 7 ?_;intro _ Y;refine cC Y rfl (aA _ _ _) fun _ Y=>?_;refine GO 4 ?_;intro _ Y;refine aD Y rfl rfl ?_;exact⟨by rw[hR],Zm.below⟩
  ·
   rw[if_neg (by simpa using Zh)] at hR;refine GO 6 ?_;intro _ Y;refine ak (Y.ev rfl) (fun Zi=>?_) (fun Zi=>?_)
   ·
    rw[if_pos (by simpa using Zi)] at hR;refine GO 3 ?_;intro _ Y;apply aZ (x:=bf x.e (x.a+(x.o.size+x.n.size)) 512) Y Z 40 rfl 8 48
    case ht=>
     intro Zb;refine GO 5 ?_;intro _ Y;refine sy Y (bU (Y.ev rfl) (Y.ev rfl) (by have:=inB_true.1 Zb;omega)) fun _ Y=>?_;refine bJ Y (aj Y _ rfl rfl rfl Zb) (ax a8 (Y.evs rfl) rfl) rfl rfl (aT _ _ _ _) fun _ Y=>?_;refine GO 1 ?_;intro _ Y;exact ae ⟨Y.midE 7,Z⟩
    case hf=>
     intro Zb;refine GO 8 ?_;intro _ Y;exact ae ⟨Y.midE 7,Z⟩
    case h=>
     rintro a83 Zx ⟨Zy,Zn⟩
     refine GO 7 ?_;intro _ Y;refine cC Y rfl (aA _ _ _) fun _ Y=>?_;refine GO 4 ?_;intro _ Y;refine aD Y rfl rfl ?_;exact⟨by rw[hR],Zn.below⟩
   ·
    rw[if_neg (by simpa using Zi)] at hR;refine GO 7 ?_;intro _ Y;refine ak (Y.ev rfl) (fun Zf=>?_) (fun Zf=>?_)
    ·
     rw[if_pos (.inl (by simpa using Zf))] at hR;refine wp_skip (ag ?_);refine ak (Y.ev rfl) (fun Zc=>?_) (fun Zc=>?_)
     ·
      refine GO 3 ?_;intro _ Y;refine cC Y rfl (aT _ _ _ _) fun _ Y=>?_;refine GO 1 ?_;intro _ Y;apply aZ (x:=bf x.c 1 (4096-x.a)) Y Z 55 rfl 7 62
      case ht=>
       intro Za;refine GO 4 ?_;intro _ Y;refine sy Y (ek (Y.ev rfl) (Y.ev rfl) (by have:=inB_true.1 Za;omega)) fun _ Y=>?_;refine bJ Y (aj Y _ rfl rfl rfl Za) (ax a8 (Y.evs rfl) rfl) rfl rfl (aT _ _ _ _) fun _ Y=>?_;refine GO 1 ?_;intro _ Y;exact ae ⟨Y.midE 6,Z⟩
      case hf=>
       intro Za;refine GO 7 ?_;intro _ Y;exact ae ⟨Y.midE 6,Z⟩
      case h=>
       rintro a108 Zo ⟨Zp,Zj⟩
       refine GO 7 ?_;intro _ Y;refine cC Y rfl (aA _ _ _) fun _ Y=>?_;refine GO 4 ?_;intro _ Y;refine aD Y rfl rfl ?_;exact⟨by rw[hR],Zj.below⟩
     ·
      exact absurd (Zf.symm.trans Zc) aq
    ·
     refine GO 5 ?_;intro _ Y;refine ak (Y.ev rfl) (fun Zc=>?_) (fun Zc=>?_)
     ·
      rw[if_pos (.inr (by simpa using Zc))] at hR;refine GO 3 ?_;intro _ Y;refine cC Y rfl (aT _ _ _ _) fun _ Y=>?_;refine GO 1 ?_;intro _ Y;apply aZ (x:=bf x.c 1 (4096-x.a)) Y Z 55 rfl 7 62
      case ht=>
       intro Za;refine GO 4 ?_;intro _ Y;refine sy Y (ek (Y.ev rfl) (Y.ev rfl) (by have:=inB_true.1 Za;omega)) fun _ Y=>?_;refine bJ Y (aj Y _ rfl rfl rfl Za) (ax a8 (Y.evs rfl) rfl) rfl rfl (aT _ _ _ _) fun _ Y=>?_;refine GO 1 ?_;intro _ Y;exact ae ⟨Y.midE 6,Z⟩
      case hf=>
       intro Za;refine GO 7 ?_;intro _ Y;exact ae ⟨Y.midE 6,Z⟩
      case h=>
       rintro a133 Zq ⟨Zr,Zk⟩
       refine GO 7 ?_;intro _ Y;refine cC Y rfl (aA _ _ _) fun _ Y=>?_;refine GO 4 ?_;intro _ Y;refine aD Y rfl rfl ?_;exact⟨by rw[hR],Zk.below⟩
     ·
      rw[if_neg (by intro h;rcases h with h | h;exact absurd h (by simpa using Zf);exact absurd h (by simpa using Zc))] at hR;refine GO 8 ?_;intro _ Y;refine cC Y rfl (aA _ _ _) fun _ Y=>?_;refine GO 4 ?_;intro _ Y;refine aD Y rfl rfl ?_;exact⟨by rw[hR],Z.below⟩
end Go.Proofs.YtcfdpfmchchkaaaGreatDoor
