/-
  Chapter 22: the examples of the chapter hold.
-/
import Derived.Test.YtcfdpfmchchkaaaGreatDoorRcAw
namespace Go.Proofs.YtcfdpfmchchkaaaGreatDoor
set_option maxHeartbeats 1000000
set_option maxRecDepth 4000
set_option linter.unusedVariables false
set_option linter.unusedSimpArgs false
open Go.RowKit Go.Sort Go.Shelf
theorem gK {w:World} {base sz n c:Nat} {T:TypeId} {A:Option Addr} {xs:List Value} (h:w.ownsRow base T sz (.slice A n c) n xs):n≤c:=by
 rcases h.2 with ⟨h1,h2⟩ | ⟨g,cap,cur,h1,_,_,h2,_⟩
 · omega
 · injection h1 with _ _ h1
   omega
theorem uL:∀x∈awH,FewE x.e∧I6 x.e.g:=by
 intro x hx;simp only[awH,List.mem_cons,List.not_mem_nil,or_false] at hx
 rcases hx with rfl | rfl | rfl | rfl<;>exact⟨⟨by decide +kernel,by decide +kernel,by decide +kernel⟩,by decide,by decide⟩
def awPR:List Pgp:=(iH awH awT awP).1
def awPM:List Pgp:=(kB awH awP).1
theorem AZ (A:Option Addr) (c:Nat) (w:World) (ho:w.ownsRow 0 145 14 (.slice A awH.length c) awH.length (awH.flatMap bA)) (hF:FolT w) :
 Calls Tryz.prog 24 #[.slice A awH.length c,.int .i64 0] w fun e w'=>∃i:Option Addr × Nat × Option Addr × Nat,e=.returned (.tuple #[cv awT i.1 i.2.1 i.2.2.1 i.2.2.2,.int .i64 0]) ∧
  St [] w w' [.row (.slice i.1 awT.ts.length i.2.1) awT.ts.length 116 4 (awT.ts.flatMap cd),.row (.slice i.2.2.1 awT.ds.length i.2.2.2) awT.ds.length 124 3 (awT.ds.flatMap cK)]:=by
 have h:=pG awH A c 0 w (Rd.of_own ho) aq (gK ho) hF (fun x hx=>(uL x hx).1);rw[BN] at h;exact h
theorem AA (A:Option Addr) (c:Nat) (A':Option Addr) (c':Nat) (TA:Option Addr) (tc:Nat) (TB:Option Addr) (td:Nat) (w:World) (ho:w.ownsRow 0 145 14 (.slice A awH.length c) awH.length (awH.flatMap bA)) (hp:w.ownsRow 0 111 3 (.slice A' awP.length c') awP.length (awP.flatMap cx))
 (ht1:Rd w w.heap.size TA (awT.ts.flatMap cd)) (ht2:Rd w w.heap.size TB (awT.ds.flatMap cK)) (hF:FolT w) :
 Calls Tryz.prog 29 #[.slice A awH.length c,cv awT TA tc TB td,.slice A' awP.length c'] w fun e w'=>∃B d,e=.returned (.tuple #[.slice B awPR.length d,.int .i64 3,.int .i64 0])∧w'.ownsRow w.heap.size 111 3 (.slice B awPR.length d) awPR.length (awPR.flatMap cx)∧Below w.heap.size w w':=by
 refine(pI awH A c awT TA tc TB td awP A' c' w (Rd.of_own hp) (Rd.of_own ho) ht1 ht2 aq (gK ho) aq hF uL).mono fun e w' ⟨i,h1,h2⟩=>⟨i.1,i.2,?_,h2.ownB (i:=0) rfl,h2.below⟩;rw[h1,aw_rdo.1];rfl
theorem AP (A:Option Addr) (c:Nat) (TA:Option Addr) (tc:Nat) (TB:Option Addr) (td:Nat) (w:World) (ho:w.ownsRow 0 145 14 (.slice A awH.length c) awH.length (awH.flatMap bA))
 (ht1:Rd w w.heap.size TA (awT.ts.flatMap cd)) (ht2:Rd w w.heap.size TB (awT.ds.flatMap cK)) (hF:FolT w) :
 Calls Tryz.prog 31 #[.slice A awH.length c,cv awT TA tc TB td] w fun e w'=>∃B d,e=.returned (.tuple #[.slice B ([113,41]:List Int).length d,.int .i64 0])∧w'.ownsRow w.heap.size 3 1 (.slice B ([113,41]:List Int).length d) ([113,41]:List Int).length (([113,41]:List Int).map (.int .i64))∧Below w.heap.size w w':=by
 have h:=nW awH A c awT TA tc TB td w (Rd.of_own ho) ht1 ht2 aq (gK ho) hF (fun x hx=>(uL x hx).1);rw[aw_uo.1,aw_uo.2] at h;exact h.mono fun e w' ⟨i,h1,h2⟩=>⟨i.1,i.2,h1,h2.ownB (i:=0) rfl,h2.below⟩
theorem zM (A:Option Addr) (c:Nat) (A':Option Addr) (c':Nat) (w:World) (ho:w.ownsRow 0 145 14 (.slice A awH.length c) awH.length (awH.flatMap bA)) (hp:w.ownsRow 0 111 3 (.slice A' awP.length c') awP.length (awP.flatMap cx)) (hF:FolT w) :
 Calls Tryz.prog 38 #[.slice A awH.length c,.slice A' awP.length c'] w fun e w'=>∃B d,e=.returned (.tuple #[.slice B awPM.length d,.int .i64 1,.int .i64 0])∧w'.ownsRow w.heap.size 111 3 (.slice B awPM.length d) awPM.length (awPM.flatMap cx)∧Below w.heap.size w w':=by
 refine(nL awH A c awP A' c' w (Rd.of_own hp) (Rd.of_own ho) aq (gK ho) aq hF uL).mono fun e w' ⟨i,h1,h2⟩=>⟨i.1,i.2,?_,h2.ownB (i:=0) rfl,h2.below⟩;rw[h1,aw_mng.1];rfl
theorem qV {α β:Type} {l:List α} {f:α→β} {x:β} (h:(l.map f).head? = some x):∃h0:0<l.length,f l[0]=x:=by
 cases l with
 | nil=>cases h
 | cons a r=>
  injection h with h;exact⟨by simp,h⟩
theorem yC {s:ByteArray} {a b:Nat} {l:List UInt8} (hab:a≤b) (h:((bl s).drop a).take (b-a)=l):s.extract a b=bs l:=by
 apply im;rw[bq,Bo,←h,List.drop_take]
theorem yq:awPR.length=2:=aw_rdo.2.1
theorem AW:∃h0:0<awPR.length,awPR[0].b.size=512∧awPR[0].b.extract 70 71=⟨#[98]⟩:=by
 obtain⟨h0,h⟩:=qV (l:=awPR) aw_rdo.2.2;simp only[Prod.mk.injEq] at h;exact⟨h0,h.1,yC aq h.2⟩
theorem z7:∃h0:0<awPM.length,awPM[0].b.size=512∧awPM[0].b.extract 64 71=⟨#[97,0,0,0,0,0,0]⟩:=by
 obtain⟨h0,h⟩:=qV (l:=awPM) aw_mng.2;simp only[Prod.mk.injEq] at h;exact⟨h0,h.1,yC aq h.2⟩
attribute [local irreducible] awPR awPM
theorem rE (w:World) (hF:FolT w):Calls Tryz.prog 13 #[] w fun e w'=>e=.returned (.bool true)∧Below w.heap.size w w':=by
 obtain⟨hR0,hR1,hR2⟩:=AW;obtain⟨hM0,hM1,hM2⟩:=z7;have hRl:awPR.length=2:=yq;refine al (N:=115) Tryz.func13 rfl rfl rfl (fun _ Y=>?_);have Z:=St.init w;refine GO 7 ?_;intro _ Y;refine kI Y (wn rfl) (ax a8 (Y.evs rfl) rfl) rfl rfl Z (fK _) (Nat.le_refl _) fun A14 c14 _ _ Y Z=>?_;refine cO Y (wn rfl) (ax a8 (Y.evs rfl) rfl) rfl rfl Z (AZ A14 c14 _ (Z.at_ (i:=0) rfl) (hF.below Z.below)) fun p15 _ _ Y Z=>?_;refine GO 1 ?_;intro _ Y;refine sv (v:=cv awT p15.1 p15.2.1 p15.2.2.1 p15.2.2.2) Y (bD (Y.ev rfl) rfl) fun _ Y=>?_;refine GO 1 ?_;intro _ Y;refine na (.agg #[.slice none 0 0,.slice none 0 0]) Y rfl Z fun b1 _ _ Zp Y Z=>?_;refine sw Y Z 0 fun _ Z=>?_;refine GO 4 ?_;intro _ Y;apply eS Y (fun _=>False) [] [] [true,false,true,true,true,true,true,true,true,true] _ aa bQ
 case h=>
  refine qv (v:=cv awT p15.1 p15.2.1 p15.2.2.1 p15.2.2.2) Y (fun X hX=>ai aa aa (Y.ev rfl) ((Z.grow (Grw.below hX)).cellsAll (i:=0) rfl)) fun _ Y=>?_;refine av ?_;apply ec (O:=(fun _=>False)) (k:=0) (deps:=[]) (R:=OwnB _ _ _ _ _) Y rfl rfl rfl bQ OwnB.stable bQ bQ
  case hx=>exact fun X hX hΦ=>tb (ax a8 (Y.evs rfl) rfl) (fK _) hX.size
  intro v19 _ Y;apply ec (O:=(fun _=>False)) (k:=2) (deps:=[]) (R:=OwnB _ _ _ _ _) Y rfl rfl rfl bQ OwnB.stable bQ bQ
  case hx=>exact fun X hX hΦ=>tb (ax a8 (Y.evs rfl) rfl) (py _) hX.size
  intro v21 _ Y;apply ec (O:=(fun _=>False)) (k:=3) (deps:=[0,2]) (R:=RowU _ _ _ _ _ _) Y rfl rfl rfl bQ RowU.stable bQ bQ
  case hx=>
   intro X hX hΦ;obtain⟨A19,c19,rfl,q19⟩:=(bF (k:=0) hΦ rfl rfl);obtain⟨A21,c21,rfl,q21⟩:=(bF (k:=2) hΦ rfl rfl);exact uA (ax a8 (Y.evs rfl) rfl) (AA A19 c19 A21 c21 p15.1 p15.2.1 p15.2.2.1 p15.2.2.2 _ (bW q19 (Nat.zero_le _)) (bW q21 (Nat.zero_le _)) ((Z.grow (Grw.below hX)).rdOf (i:=1) rfl) ((Z.grow (Grw.below hX)).rdOf (i:=2) rfl) (hF.below (Z.grow (Grw.below hX)).below)) hX.size
  intro v22 _ Zc;apply nC (k:=4) (deps:=[0,2,3]) (kx:=3) (src:=22) Zc rfl (.inl rfl) rfl rfl ⟨rfl,rfl⟩ rfl;intro v18 _ Zg;apply mm (k:=5) (deps:=[0,2,3,4]) (kx:=4) (src:=18) (i:=0) Zg rfl rfl rfl rfl ⟨rfl,rfl⟩ rfl
  case hx=>
   intro X hΦ;obtain⟨_,_,e1,_⟩:=(bF (k:=3) hΦ rfl rfl);exact⟨_,_,((MovS.get Zc rfl (bF (k:=4) hΦ rfl rfl)).trans e1),rfl⟩
  intro v23 _ Zh;apply mm (k:=6) (deps:=[0,2,3,4]) (kx:=4) (src:=18) (i:=1) Zh rfl rfl rfl rfl ⟨rfl,rfl⟩ rfl
  case hx=>
   intro X hΦ;obtain⟨_,_,e1,_⟩:=(bF (k:=3) hΦ rfl rfl);exact⟨_,_,((MovS.get Zc rfl (bF (k:=4) hΦ rfl rfl)).trans e1),rfl⟩
  intro v24 _ Zi;apply mm (k:=7) (deps:=[0,2,3,4]) (kx:=4) (src:=18) (i:=2) Zi rfl rfl rfl rfl ⟨rfl,rfl⟩ rfl
  case hx=>
   intro X hΦ;obtain⟨_,_,e1,_⟩:=(bF (k:=3) hΦ rfl rfl);exact⟨_,_,((MovS.get Zc rfl (bF (k:=4) hΦ rfl rfl)).trans e1),rfl⟩
  intro v25 _ Zj;apply nC (k:=8) (deps:=[0,2,3,4,5]) (kx:=5) (src:=23) Zj rfl (.inr rfl) rfl rfl ⟨rfl,rfl⟩ rfl;intro v3 _ Zk;apply nC (k:=9) (deps:=[0,2,3,4,6]) (kx:=6) (src:=24) Zk rfl (.inr rfl) rfl rfl ⟨rfl,rfl⟩ rfl;intro v4 _ Y;refine iw (O:=(fun _=>False)) bQ fun _ Ze Za=>?_;obtain⟨A22,c22,rfl,qr22⟩:=ba Za (k:=3) rfl;obtain rfl:=MovS.get Zc rfl (ba Za (k:=4) rfl);obtain rfl:=ExtS.get Zg rfl rfl (ba Za (k:=5) rfl);obtain rfl:=ExtS.get Zh rfl rfl (ba Za (k:=6) rfl);obtain rfl:=ExtS.get Zi rfl rfl (ba Za (k:=7) rfl);obtain rfl:=MovS.get Zj rfl (ba Za (k:=8) rfl);obtain rfl:=MovS.get Zk rfl (ba Za (k:=9) rfl);have Z:=St.addRow Z (Z.grow (Grw.below Ze)) (fun e he b hb=>(Z.new e he b hb).2) qr22;refine GO 4 ?_;intro _ Y;apply eS Y (fun _=>False) [] [] [true,false,true,true,true,true,true] _ aa bQ
  case h=>
   refine qv (v:=cv awT p15.1 p15.2.1 p15.2.2.1 p15.2.2.2) Y (fun X hX=>ai aa aa (Y.ev rfl) ((Z.grow (Grw.below hX)).cellsAll (i:=1) rfl)) fun _ Y=>?_;refine av ?_;apply ec (O:=(fun _=>False)) (k:=0) (deps:=[]) (R:=OwnB _ _ _ _ _) Y rfl rfl rfl bQ OwnB.stable bQ bQ
   case hx=>exact fun X hX hΦ=>tb (ax a8 (Y.evs rfl) rfl) (fK _) hX.size
   intro v27 _ Y;apply ec (O:=(fun _=>False)) (k:=2) (deps:=[0]) (R:=RowU _ _ _ _ _ _) Y rfl rfl rfl bQ RowU.stable bQ bQ
   case hx=>
    intro X hX hΦ;obtain⟨A27,c27,rfl,q27⟩:=(bF (k:=0) hΦ rfl rfl);exact uA (ax a8 (Y.evs rfl) rfl) (AP A27 c27 p15.1 p15.2.1 p15.2.2.1 p15.2.2.2 _ (bW q27 (Nat.zero_le _)) ((Z.grow (Grw.below hX)).rdOf (i:=2) rfl) ((Z.grow (Grw.below hX)).rdOf (i:=3) rfl) (hF.below (Z.grow (Grw.below hX)).below)) hX.size
   intro v29 _ Zd;apply nC (k:=3) (deps:=[0,2]) (kx:=2) (src:=29) Zd rfl (.inl rfl) rfl rfl ⟨rfl,rfl⟩ rfl;intro v26 _ Zl;apply mm (k:=4) (deps:=[0,2,3]) (kx:=3) (src:=26) (i:=0) Zl rfl rfl rfl rfl ⟨rfl,rfl⟩ rfl
   case hx=>
    intro X hΦ;obtain⟨_,_,e1,_⟩:=(bF (k:=2) hΦ rfl rfl);exact⟨_,_,((MovS.get Zd rfl (bF (k:=3) hΦ rfl rfl)).trans e1),rfl⟩
   intro v30 _ Zm;apply mm (k:=5) (deps:=[0,2,3]) (kx:=3) (src:=26) (i:=1) Zm rfl rfl rfl rfl ⟨rfl,rfl⟩ rfl
   case hx=>
    intro X hΦ;obtain⟨_,_,e1,_⟩:=(bF (k:=2) hΦ rfl rfl);exact⟨_,_,((MovS.get Zd rfl (bF (k:=3) hΦ rfl rfl)).trans e1),rfl⟩
   intro v31 _ Zn;apply nC (k:=6) (deps:=[0,2,3,4]) (kx:=4) (src:=30) Zn rfl (.inr rfl) rfl rfl ⟨rfl,rfl⟩ rfl;intro v6 _ Y;refine iw (O:=(fun _=>False)) bQ fun _ Zf Zb=>?_;obtain⟨A29,c29,rfl,qr29⟩:=ba Zb (k:=2) rfl;obtain rfl:=MovS.get Zd rfl (ba Zb (k:=3) rfl);obtain rfl:=ExtS.get Zl rfl rfl (ba Zb (k:=4) rfl);obtain rfl:=ExtS.get Zm rfl rfl (ba Zb (k:=5) rfl);obtain rfl:=MovS.get Zn rfl (ba Zb (k:=6) rfl);have Z:=St.addRow Z (Z.grow (Grw.below Zf)) (fun e he b hb=>(Z.new e he b hb).2) qr29;refine GO 5 ?_;intro _ Y;refine kI Y (wn rfl) (ax a8 (Y.evs rfl) rfl) rfl rfl Z (fK _) (Nat.le_refl _) fun A33 c33 _ _ Y Z=>?_;refine kI Y (wn rfl) (ax a8 (Y.evs rfl) rfl) rfl rfl Z (py _) (Nat.le_refl _) fun A34 c34 _ _ Y Z=>?_;refine uc Y (wn rfl) (ax a8 (Y.evs rfl) rfl) rfl rfl Z (zM A33 c33 A34 c34 _ (Z.at_ (i:=1) rfl) (Z.at_ (i:=0) rfl) (hF.below Z.below)) (Nat.le_refl _) fun A35 c35 _ _ Y Z=>?_;refine GO 11 ?_;intro _ Y;refine sv (v:=cv awT p15.1 p15.2.1 p15.2.2.1 p15.2.2.2) Y (ai aa aa (Y.ev rfl) (Z.cellsAll (i:=5) rfl)) fun _ Y=>?_;refine cE Y rfl Z (mB awT p15.1 p15.2.1 p15.2.2.1 p15.2.2.2 _ (Z.rdOf (i:=6) rfl) (Z.rdOf (i:=7) rfl)) fun _ _ Y Z=>?_;refine GO 5 ?_;intro _ Y;obtain⟨bT,oT,eT,_,_⟩:=(Z.rdOf (i:=6) rfl).opened aq;obtain⟨bR,oR,eR,_,_⟩:=(Z.rdOf (i:=4) rfl).opened (aK br aq hR0);obtain⟨bM,oM,eM,_,_⟩:=(Z.rdOf (i:=0) rfl).opened (aK br aq hM0);have hU:=Z.rdOf (i:=3) rfl;refine GO 7 ?_;intro _ Y;refine aI Y (aj Y _ rfl rfl rfl (rfl)) (fx 0 0 (Y.ev rfl)) rfl rfl fun _ Y=>?_;refine aI Y (aj Y _ rfl rfl rfl (rfl)) (lx (Y.ev rfl) (Z.cell (i:=5) rfl rfl)) rfl rfl fun _ Y=>?_;refine aI Y (aj Y _ rfl rfl rfl (rfl)) (tj Tryz.underlying22 (Y.ev rfl)) rfl rfl fun _ Y=>?_
   refine aI Y (aj Y _ rfl rfl rfl (rfl)) (dE (Y.ev rfl) (Y.ev rfl)) rfl rfl fun _ Y=>?_;refine sv Y (bH (Y.ev rfl) (rfl) (Y.ev rfl)) fun _ Y=>?_;refine GO 1 ?_;intro _ Y;refine aI Y (aj Y _ rfl rfl rfl (rfl)) (fx 0 0 (Y.ev rfl)) rfl rfl fun _ Y=>?_;refine aI Y (aj Y _ rfl rfl rfl (rfl)) (aw (v':=.slice (some ⟨bT,oT,none⟩) 2 p15.2.1) (by rw[eT];rfl) (lx (Y.ev rfl) (Z.cell (i:=5) rfl rfl))) rfl rfl fun _ Y=>?_;refine aI Y (aj Y _ rfl rfl rfl (rfl)) (au (i:=0) (sz:=4) Tryz.underlying22 aa (Y.ev rfl) (Y.ev rfl) ab ab rfl) rfl rfl fun _ Y=>?_;refine aI (v:=eV awT.ts[0]) Y (aj Y _ rfl rfl rfl (rfl)) (ai aa aa (Y.ev rfl) (aW cy (eT▸Z.rdOf (i:=6) rfl) (show 0<awT.ts.length by decide))) rfl rfl fun _ Y=>?_;refine aI Y (aj Y _ rfl rfl rfl (rfl)) (ay (zs:=[.int .i64 0,.int .i64 0,.int .i64 0,.bool false]) (pl:=[(0,1),(1,1),(2,1),(3,1)]) aa aa (Y.evs2 rfl) rfl rfl) rfl rfl fun _ Y=>?_;refine aI Y (aj Y _ rfl rfl rfl (rfl)) (ub (ks:=[.i .i64,.i .i64,.i .i64,.b]) aa Tryz.underlying116 aa (Y.ev rfl) (Y.ev rfl) rfl rfl) rfl rfl fun _ Y=>?_;refine sv Y (bH (Y.ev rfl) (rfl) (Y.ev rfl)) fun _ Y=>?_;refine GO 1 ?_;intro _ Y;refine aI Y (aj Y _ rfl rfl rfl (aq)) (bc (Y.ev rfl)) rfl rfl fun _ Y=>?_;refine aI Y (aj Y _ rfl rfl rfl (aq)) (dE (Y.ev rfl) (Y.ev rfl)) rfl rfl fun _ Y=>?_;refine sv Y (bH (Y.ev rfl) (aq) (Y.ev rfl)) fun _ Y=>?_;refine GO 1 ?_;intro _ Y;refine aI Y (aj Y _ rfl rfl rfl (rfl)) (bc (Y.ev rfl)) rfl rfl fun _ Y=>?_;refine aI Y (aj Y _ rfl rfl rfl (rfl)) (dE (Y.ev rfl) (Y.ev rfl)) rfl rfl fun _ Y=>?_;refine sv Y (bH (Y.ev rfl) (rfl) (Y.ev rfl)) fun _ Y=>?_;refine GO 1 ?_;intro _ Y;refine aI Y (aj Y _ rfl rfl rfl (rfl)) (bc (Y.ev rfl)) rfl rfl fun _ Y=>?_
   refine aI Y (aj Y _ rfl rfl rfl (rfl)) (tj Tryz.underlying48 (Y.ev rfl)) rfl rfl fun _ Y=>?_;refine aI Y (aj Y _ rfl rfl rfl (rfl)) (dE (Y.ev rfl) (Y.ev rfl)) rfl rfl fun _ Y=>?_;refine sv Y (bH (Y.ev rfl) (rfl) (Y.ev rfl)) fun _ Y=>?_;refine GO 1 ?_;intro _ Y;refine aI Y (aj Y _ rfl rfl rfl ((by rw[hRl];rfl))) (aw (v':=.slice (some ⟨bR,oR,none⟩) awPR.length c22) (by rw[eR];rfl) (bc (Y.ev rfl))) rfl rfl fun _ Y=>?_;refine aI Y (aj Y _ rfl rfl rfl ((by rw[hRl];rfl))) (au (i:=0) (sz:=3) Tryz.underlying48 aa (Y.ev rfl) (Y.ev rfl) ab ab rfl) rfl rfl fun _ Y=>?_;refine aI Y (aj Y _ rfl rfl rfl ((by rw[hRl];rfl))) (fy 2 (Y.ev rfl)) rfl rfl fun _ Y=>?_;refine aI Y (aj Y _ rfl rfl rfl ((by rw[hRl];rfl))) (lx (Y.ev rfl) ((aW br (eR▸Z.rdOf (i:=4) rfl) hR0) 2 _ rfl)) rfl rfl fun _ Y=>?_;refine aI Y (aj Y _ rfl rfl rfl ((by rw[hRl];rfl))) (aR (l:=70) (h:=71) Tryz.underlying9 (Y.ev rfl) (Y.ev rfl) (Y.ev rfl) ab ab) rfl rfl fun _ Y=>?_;refine aI Y (aj Y _ rfl rfl rfl ((by rw[hRl];rfl))) (jb (Y.ev rfl) (Y.ev rfl)) rfl rfl fun _ Y=>?_;refine sv Y (bH (Y.ev rfl) ((by rw[hRl];rfl)) (Y.ev rfl)) fun _ Y=>?_;refine GO 1 ?_;intro _ Y;refine aI Y (aj Y _ rfl rfl rfl ((by rw[hR2];rfl))) (bc (Y.ev rfl)) rfl rfl fun _ Y=>?_;refine aI Y (aj Y _ rfl rfl rfl ((by rw[hR2];rfl))) (dE (Y.ev rfl) (Y.ev rfl)) rfl rfl fun _ Y=>?_;refine sv Y (bH (Y.ev rfl) ((by rw[hR2];rfl)) (Y.ev rfl)) fun _ Y=>?_;refine GO 1 ?_;intro _ Y;refine aI Y (aj Y _ rfl rfl rfl (rfl)) (bc (Y.ev rfl)) rfl rfl fun _ Y=>?_;refine bw Y (aj Y _ rfl rfl rfl (rfl)) (f:=fun b=>.slice (some ⟨b,0,none⟩) 2 2) (aX Tryz.underlying53 aa aa (Y.evs2 rfl) rfl rfl rfl aq aq) rfl rfl Z fun b87 _ _ Zo Y Z=>?_;refine dg Y (aj Y _ rfl rfl rfl (rfl)) (ax a8 (Y.evs rfl) rfl) rfl rfl Z (vz [113,41] [113,41] A29 (some ⟨b87,0,none⟩) c29 2 _ (Z.rdOf (i:=4) rfl) (Z.boxRd (i:=0) rfl) aq) fun _ _ Y Z=>?_
   refine sv Y (bH (Y.ev rfl) (rfl) (Y.ev rfl)) fun _ Y=>?_;refine GO 1 ?_;intro _ Y;refine aI Y (aj Y _ rfl rfl rfl (aq)) (bc (Y.ev rfl)) rfl rfl fun _ Y=>?_;refine aI Y (aj Y _ rfl rfl rfl (aq)) (dE (Y.ev rfl) (Y.ev rfl)) rfl rfl fun _ Y=>?_;refine sv Y (bH (Y.ev rfl) (aq) (Y.ev rfl)) fun _ Y=>?_;refine GO 1 ?_;intro _ Y;refine aI Y (aj Y _ rfl rfl rfl (rfl)) (bc (Y.ev rfl)) rfl rfl fun _ Y=>?_;refine aI Y (aj Y _ rfl rfl rfl (rfl)) (dE (Y.ev rfl) (Y.ev rfl)) rfl rfl fun _ Y=>?_;refine sv Y (bH (Y.ev rfl) (rfl) (Y.ev rfl)) fun _ Y=>?_;refine GO 1 ?_;intro _ Y;refine aI Y (aj Y _ rfl rfl rfl (rfl)) (aw (v':=.slice (some ⟨bM,oM,none⟩) awPM.length c35) (by rw[eM];rfl) (bc (Y.ev rfl))) rfl rfl fun _ Y=>?_;refine aI Y (aj Y _ rfl rfl rfl (rfl)) (au (i:=0) (sz:=3) Tryz.underlying48 aa (Y.ev rfl) (Y.ev rfl) ab ab rfl) rfl rfl fun _ Y=>?_;refine aI Y (aj Y _ rfl rfl rfl (rfl)) (fy 2 (Y.ev rfl)) rfl rfl fun _ Y=>?_;refine aI Y (aj Y _ rfl rfl rfl (rfl)) (lx (Y.ev rfl) ((aW br (eM▸Z.rdOf (i:=1) rfl) hM0) 2 _ rfl)) rfl rfl fun _ Y=>?_;refine aI Y (aj Y _ rfl rfl rfl (rfl)) (aR (l:=64) (h:=71) Tryz.underlying9 (Y.ev rfl) (Y.ev rfl) (Y.ev rfl) ab ab) rfl rfl fun _ Y=>?_;refine aI Y (aj Y _ rfl rfl rfl (rfl)) (jb (Y.ev rfl) (Y.ev rfl)) rfl rfl fun _ Y=>?_;refine sv Y (bH (Y.ev rfl) (rfl) (Y.ev rfl)) fun _ Y=>?_;refine GO 1 ?_;intro _ Y;refine aI Y (aj Y _ rfl rfl rfl ((by rw[hM2];rfl))) (bc (Y.ev rfl)) rfl rfl fun _ Y=>?_;refine aI Y (aj Y _ rfl rfl rfl ((by rw[hM2];rfl))) (dE (Y.ev rfl) (Y.ev rfl)) rfl rfl fun _ Y=>?_;refine sv Y (bH (Y.ev rfl) ((by rw[hM2];rfl)) (Y.ev rfl)) fun _ Y=>?_;refine GO 1 ?_;intro _ Y;refine aI Y (aj Y _ rfl rfl rfl ((by rw[aw_tbl.1];rfl))) (bc (Y.ev rfl)) rfl rfl fun _ Y=>?_
   refine aI Y (aj Y _ rfl rfl rfl ((by rw[aw_tbl.1];rfl))) (iZ Tryz.underlying9 (Y.ev rfl)) rfl rfl fun _ Y=>?_;refine aI Y (aj Y _ rfl rfl rfl ((by rw[aw_tbl.1];rfl))) (dE (Y.ev rfl) (Y.ev rfl)) rfl rfl fun _ Y=>?_;refine sv Y (bH (Y.ev rfl) ((by rw[aw_tbl.1];rfl)) (Y.ev rfl)) fun _ Y=>?_;refine GO 4 ?_;intro _ Y;refine aD Y rfl rfl ?_;exact⟨by rw[if_pos aw_tbl.1,fI,aw_tbl.2];rfl,Z.below⟩
  case hB=>kernel_rfl
 case hB=>kernel_rfl
end Go.Proofs.YtcfdpfmchchkaaaGreatDoor
