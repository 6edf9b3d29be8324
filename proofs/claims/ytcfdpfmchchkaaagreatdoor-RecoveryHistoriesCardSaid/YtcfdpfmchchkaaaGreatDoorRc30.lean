/-
  Chapter 22: the examples of the chapter hold.
-/
import Derived.Test.YtcfdpfmchchkaaaGreatDoorRcAw
namespace Go.Proofs.YtcfdpfmchchkaaaGreatDoor
set_option maxHeartbeats 1000000
set_option maxRecDepth 4000
set_option linter.unusedVariables false
set_option linter.unusedSimpArgs false
open Go.RowKit Go.Sort Go.Shelf
theorem ik {w:World} {base sz n c:Nat} {T:TypeId} {A:Option Addr} {xs:List Value} (h:w.ownsRow base T sz (.slice A n c) n xs):n≤c:=by
 rcases h.2 with ⟨h1,h2⟩ | ⟨g,cap,cur,h1,_,_,h2,_⟩
 · omega
 · injection h1 with _ _ h1
   omega
theorem uQ:∀x∈awH,FewE x.e∧I6 x.e.g:=by
 intro x hx;simp only[awH,List.mem_cons,List.not_mem_nil,or_false] at hx
 rcases hx with rfl | rfl | rfl | rfl<;>exact⟨⟨by decide +kernel,by decide +kernel,by decide +kernel⟩,by decide,by decide⟩
def awPR:List Pgp:=(iO awH awT awP).1
def awPM:List Pgp:=(kZ awH awP).1
theorem Cg (A:Option Addr) (c:Nat) (w:World) (ho:w.ownsRow 0 145 14 (.slice A awH.length c) awH.length (awH.flatMap bJ)) (hF:FolT w) :
 Calls Tryz.prog 24 #[.slice A awH.length c,.int .i64 0] w fun e w'=>∃i:Option Addr × Nat × Option Addr × Nat,e=.returned (.tuple #[cH awT i.1 i.2.1 i.2.2.1 i.2.2.2,.int .i64 0]) ∧
  St [] w w' [.row (.slice i.1 awT.ts.length i.2.1) awT.ts.length 116 4 (awT.ts.flatMap cw),.row (.slice i.2.2.1 awT.ds.length i.2.2.2) awT.ds.length 124 3 (awT.ds.flatMap cV)]:=by
 have h:=pQ awH A c 0 w (Rd.of_own ho) aq (ik ho) hF (fun x hx=>(uQ x hx).1);rw[CS] at h;exact h
theorem Cb (A:Option Addr) (c:Nat) (A':Option Addr) (c':Nat) (TA:Option Addr) (tc:Nat) (TB:Option Addr) (td:Nat) (w:World) (ho:w.ownsRow 0 145 14 (.slice A awH.length c) awH.length (awH.flatMap bJ)) (hp:w.ownsRow 0 111 3 (.slice A' awP.length c') awP.length (awP.flatMap cL))
 (ht1:Rd w w.heap.size TA (awT.ts.flatMap cw)) (ht2:Rd w w.heap.size TB (awT.ds.flatMap cV)) (hF:FolT w) :
 Calls Tryz.prog 29 #[.slice A awH.length c,cH awT TA tc TB td,.slice A' awP.length c'] w fun e w'=>∃B d,e=.returned (.tuple #[.slice B awPR.length d,.int .i64 3,.int .i64 0])∧w'.ownsRow w.heap.size 111 3 (.slice B awPR.length d) awPR.length (awPR.flatMap cL)∧Below w.heap.size w w':=by
 refine(pW awH A c awT TA tc TB td awP A' c' w (Rd.of_own hp) (Rd.of_own ho) ht1 ht2 aq (ik ho) aq hF uQ).mono fun e w' ⟨i,h1,h2⟩=>⟨i.1,i.2,?_,h2.ownB (i:=0) rfl,h2.below⟩;rw[h1,aw_rdo.1];rfl
theorem B2 (A:Option Addr) (c:Nat) (TA:Option Addr) (tc:Nat) (TB:Option Addr) (td:Nat) (w:World) (ho:w.ownsRow 0 145 14 (.slice A awH.length c) awH.length (awH.flatMap bJ))
 (ht1:Rd w w.heap.size TA (awT.ts.flatMap cw)) (ht2:Rd w w.heap.size TB (awT.ds.flatMap cV)) (hF:FolT w) :
 Calls Tryz.prog 31 #[.slice A awH.length c,cH awT TA tc TB td] w fun e w'=>∃B d,e=.returned (.tuple #[.slice B ([113,41]:List Int).length d,.int .i64 0])∧w'.ownsRow w.heap.size 3 1 (.slice B ([113,41]:List Int).length d) ([113,41]:List Int).length (([113,41]:List Int).map (.int .i64))∧Below w.heap.size w w':=by
 have h:=n5 awH A c awT TA tc TB td w (Rd.of_own ho) ht1 ht2 aq (ik ho) hF (fun x hx=>(uQ x hx).1);rw[aw_uo.1,aw_uo.2] at h;exact h.mono fun e w' ⟨i,h1,h2⟩=>⟨i.1,i.2,h1,h2.ownB (i:=0) rfl,h2.below⟩
theorem AY (A:Option Addr) (c:Nat) (A':Option Addr) (c':Nat) (w:World) (ho:w.ownsRow 0 145 14 (.slice A awH.length c) awH.length (awH.flatMap bJ)) (hp:w.ownsRow 0 111 3 (.slice A' awP.length c') awP.length (awP.flatMap cL)) (hF:FolT w) :
 Calls Tryz.prog 38 #[.slice A awH.length c,.slice A' awP.length c'] w fun e w'=>∃B d,e=.returned (.tuple #[.slice B awPM.length d,.int .i64 1,.int .i64 0])∧w'.ownsRow w.heap.size 111 3 (.slice B awPM.length d) awPM.length (awPM.flatMap cL)∧Below w.heap.size w w':=by
 refine(nZ awH A c awP A' c' w (Rd.of_own hp) (Rd.of_own ho) aq (ik ho) aq hF uQ).mono fun e w' ⟨i,h1,h2⟩=>⟨i.1,i.2,?_,h2.ownB (i:=0) rfl,h2.below⟩;rw[h1,aw_mng.1];rfl
theorem sB {α β:Type} {l:List α} {f:α→β} {x:β} (h:(l.map f).head? = some x):∃h0:0<l.length,f l[0]=x:=by
 cases l with
 | nil=>cases h
 | cons a r=>
  injection h with h;exact⟨by simp,h⟩
theorem zi {s:ByteArray} {a b:Nat} {l:List UInt8} (hab:a≤b) (h:((bl s).drop a).take (b-a)=l):s.extract a b=bs l:=by
 apply jS;rw[bD,Cu,←h,List.drop_take]
theorem zV:awPR.length=2:=aw_rdo.2.1
theorem BD:∃h0:0<awPR.length,awPR[0].b.size=512∧awPR[0].b.extract 70 71=⟨#[98]⟩:=by
 obtain⟨h0,h⟩:=sB (l:=awPR) aw_rdo.2.2;simp only[Prod.mk.injEq] at h;exact⟨h0,h.1,zi aq h.2⟩
theorem Bi:∃h0:0<awPM.length,awPM[0].b.size=512∧awPM[0].b.extract 64 71=⟨#[97,0,0,0,0,0,0]⟩:=by
 obtain⟨h0,h⟩:=sB (l:=awPM) aw_mng.2;simp only[Prod.mk.injEq] at h;exact⟨h0,h.1,zi aq h.2⟩
attribute [local irreducible] awPR awPM
theorem qX (w:World) (hF:FolT w):Calls Tryz.prog 13 #[] w fun e w'=>e=.returned (.bool true)∧Below w.heap.size w w':=by
 obtain⟨hR0,hR1,hR2⟩:=BD;obtain⟨hM0,hM1,hM2⟩:=Bi;have hRl:awPR.length=2:=zV;refine ao (N:=115) Tryz.func13 rfl rfl rfl (fun _ Y=>?_);have Z:=St.init w;refine GO 7 ?_;intro _ Y;refine kS Y (wn rfl) (aC br (Y.evs rfl) rfl) rfl rfl Z (gl _) (Nat.le_refl _) fun A14 c14 _ _ Y Z=>?_;refine db Y (wn rfl) (aC br (Y.evs rfl) rfl) rfl rfl Z (Cg A14 c14 _ (Z.at_ (i:=0) rfl) (hF.below Z.below)) fun p15 _ _ Y Z=>?_;refine GO 1 ?_;intro _ Y;refine sv (v:=cH awT p15.1 p15.2.1 p15.2.2.1 p15.2.2.2) Y (bN (Y.ev rfl) rfl) fun _ Y=>?_;refine GO 1 ?_;intro _ Y;refine na (.agg #[.slice none 0 0,.slice none 0 0]) Y rfl Z fun b1 _ _ Zp Y Z=>?_;refine sw Y Z 0 fun _ Z=>?_;refine GO 4 ?_;intro _ Y;apply kr Y (fun _=>False) [] [] [true,false,true,true,true,true,true,true,true,true] _ aa dZ
 case h=>
  refine qv (v:=cH awT p15.1 p15.2.1 p15.2.2.1 p15.2.2.2) Y (fun X hX=>ah aa aa (Y.ev rfl) ((Z.grow (Grw.below hX)).cellsAll (i:=0) rfl)) fun _ Y=>?_;refine aA ?_;apply iv (O:=(fun _=>False)) (k:=0) (deps:=[]) (R:=OwnB _ _ _ _ _) Y rfl rfl rfl dZ OwnB.stable dZ dZ
  case hx=>exact fun X hX hΦ=>tY (aC br (Y.evs rfl) rfl) (gl _) hX.size
  intro v19 _ Y;apply iv (O:=(fun _=>False)) (k:=2) (deps:=[]) (R:=OwnB _ _ _ _ _) Y rfl rfl rfl dZ OwnB.stable dZ dZ
  case hx=>exact fun X hX hΦ=>tY (aC br (Y.evs rfl) rfl) (pq _) hX.size
  intro v21 _ Y;apply iv (O:=(fun _=>False)) (k:=3) (deps:=[0,2]) (R:=RowU _ _ _ _ _ _) Y rfl rfl rfl dZ RowU.stable dZ dZ
  case hx=>
   intro X hX hΦ;obtain⟨A19,c19,rfl,q19⟩:=(cD (k:=0) hΦ rfl rfl);obtain⟨A21,c21,rfl,q21⟩:=(cD (k:=2) hΦ rfl rfl);exact uU (aC br (Y.evs rfl) rfl) (Cb A19 c19 A21 c21 p15.1 p15.2.1 p15.2.2.1 p15.2.2.2 _ (cm q19 (Nat.zero_le _)) (cm q21 (Nat.zero_le _)) ((Z.grow (Grw.below hX)).rdOf (i:=1) rfl) ((Z.grow (Grw.below hX)).rdOf (i:=2) rfl) (hF.below (Z.grow (Grw.below hX)).below)) hX.size
  intro v22 _ Zc;apply mA (k:=4) (deps:=[0,2,3]) (kx:=3) (src:=22) Zc rfl (.inl rfl) rfl rfl ⟨rfl,rfl⟩ rfl;intro v18 _ Zg;apply nL (k:=5) (deps:=[0,2,3,4]) (kx:=4) (src:=18) (i:=0) Zg rfl rfl rfl rfl ⟨rfl,rfl⟩ rfl
  case hx=>
   intro X hΦ;obtain⟨_,_,e1,_⟩:=(cD (k:=3) hΦ rfl rfl);exact⟨_,_,((MovS.get Zc rfl (cD (k:=4) hΦ rfl rfl)).trans e1),rfl⟩
  intro v23 _ Zh;apply nL (k:=6) (deps:=[0,2,3,4]) (kx:=4) (src:=18) (i:=1) Zh rfl rfl rfl rfl ⟨rfl,rfl⟩ rfl
  case hx=>
   intro X hΦ;obtain⟨_,_,e1,_⟩:=(cD (k:=3) hΦ rfl rfl);exact⟨_,_,((MovS.get Zc rfl (cD (k:=4) hΦ rfl rfl)).trans e1),rfl⟩
  intro v24 _ Zi;apply nL (k:=7) (deps:=[0,2,3,4]) (kx:=4) (src:=18) (i:=2) Zi rfl rfl rfl rfl ⟨rfl,rfl⟩ rfl
  case hx=>
   intro X hΦ;obtain⟨_,_,e1,_⟩:=(cD (k:=3) hΦ rfl rfl);exact⟨_,_,((MovS.get Zc rfl (cD (k:=4) hΦ rfl rfl)).trans e1),rfl⟩
  intro v25 _ Zj;apply mA (k:=8) (deps:=[0,2,3,4,5]) (kx:=5) (src:=23) Zj rfl (.inr rfl) rfl rfl ⟨rfl,rfl⟩ rfl;intro v3 _ Zk;apply mA (k:=9) (deps:=[0,2,3,4,6]) (kx:=6) (src:=24) Zk rfl (.inr rfl) rfl rfl ⟨rfl,rfl⟩ rfl;intro v4 _ Y;refine pU (O:=(fun _=>False)) dZ fun _ Ze Za=>?_;obtain⟨A22,c22,rfl,qr22⟩:=bC Za (k:=3) rfl;obtain rfl:=MovS.get Zc rfl (bC Za (k:=4) rfl);obtain rfl:=ExtS.get Zg rfl rfl (bC Za (k:=5) rfl);obtain rfl:=ExtS.get Zh rfl rfl (bC Za (k:=6) rfl);obtain rfl:=ExtS.get Zi rfl rfl (bC Za (k:=7) rfl);obtain rfl:=MovS.get Zj rfl (bC Za (k:=8) rfl);obtain rfl:=MovS.get Zk rfl (bC Za (k:=9) rfl);have Z:=St.addRow Z (Z.grow (Grw.below Ze)) (fun e he b hb=>(Z.new e he b hb).2) qr22;refine GO 4 ?_;intro _ Y;apply kr Y (fun _=>False) [] [] [true,false,true,true,true,true,true] _ aa dZ
  case h=>
   refine qv (v:=cH awT p15.1 p15.2.1 p15.2.2.1 p15.2.2.2) Y (fun X hX=>ah aa aa (Y.ev rfl) ((Z.grow (Grw.below hX)).cellsAll (i:=1) rfl)) fun _ Y=>?_;refine aA ?_;apply iv (O:=(fun _=>False)) (k:=0) (deps:=[]) (R:=OwnB _ _ _ _ _) Y rfl rfl rfl dZ OwnB.stable dZ dZ
   case hx=>exact fun X hX hΦ=>tY (aC br (Y.evs rfl) rfl) (gl _) hX.size
   intro v27 _ Y;apply iv (O:=(fun _=>False)) (k:=2) (deps:=[0]) (R:=RowU _ _ _ _ _ _) Y rfl rfl rfl dZ RowU.stable dZ dZ
   case hx=>
    intro X hX hΦ;obtain⟨A27,c27,rfl,q27⟩:=(cD (k:=0) hΦ rfl rfl);exact uU (aC br (Y.evs rfl) rfl) (B2 A27 c27 p15.1 p15.2.1 p15.2.2.1 p15.2.2.2 _ (cm q27 (Nat.zero_le _)) ((Z.grow (Grw.below hX)).rdOf (i:=2) rfl) ((Z.grow (Grw.below hX)).rdOf (i:=3) rfl) (hF.below (Z.grow (Grw.below hX)).below)) hX.size
   intro v29 _ Zd;apply mA (k:=3) (deps:=[0,2]) (kx:=2) (src:=29) Zd rfl (.inl rfl) rfl rfl ⟨rfl,rfl⟩ rfl;intro v26 _ Zl;apply nL (k:=4) (deps:=[0,2,3]) (kx:=3) (src:=26) (i:=0) Zl rfl rfl rfl rfl ⟨rfl,rfl⟩ rfl
   case hx=>
    intro X hΦ;obtain⟨_,_,e1,_⟩:=(cD (k:=2) hΦ rfl rfl);exact⟨_,_,((MovS.get Zd rfl (cD (k:=3) hΦ rfl rfl)).trans e1),rfl⟩
   intro v30 _ Zm;apply nL (k:=5) (deps:=[0,2,3]) (kx:=3) (src:=26) (i:=1) Zm rfl rfl rfl rfl ⟨rfl,rfl⟩ rfl
   case hx=>
    intro X hΦ;obtain⟨_,_,e1,_⟩:=(cD (k:=2) hΦ rfl rfl);exact⟨_,_,((MovS.get Zd rfl (cD (k:=3) hΦ rfl rfl)).trans e1),rfl⟩
   intro v31 _ Zn;apply mA (k:=6) (deps:=[0,2,3,4]) (kx:=4) (src:=30) Zn rfl (.inr rfl) rfl rfl ⟨rfl,rfl⟩ rfl;intro v6 _ Y;refine pU (O:=(fun _=>False)) dZ fun _ Zf Zb=>?_;obtain⟨A29,c29,rfl,qr29⟩:=bC Zb (k:=2) rfl;obtain rfl:=MovS.get Zd rfl (bC Zb (k:=3) rfl);obtain rfl:=ExtS.get Zl rfl rfl (bC Zb (k:=4) rfl);obtain rfl:=ExtS.get Zm rfl rfl (bC Zb (k:=5) rfl);obtain rfl:=MovS.get Zn rfl (bC Zb (k:=6) rfl);have Z:=St.addRow Z (Z.grow (Grw.below Zf)) (fun e he b hb=>(Z.new e he b hb).2) qr29;refine GO 5 ?_;intro _ Y;refine kS Y (wn rfl) (aC br (Y.evs rfl) rfl) rfl rfl Z (gl _) (Nat.le_refl _) fun A33 c33 _ _ Y Z=>?_;refine kS Y (wn rfl) (aC br (Y.evs rfl) rfl) rfl rfl Z (pq _) (Nat.le_refl _) fun A34 c34 _ _ Y Z=>?_;refine vm Y (wn rfl) (aC br (Y.evs rfl) rfl) rfl rfl Z (AY A33 c33 A34 c34 _ (Z.at_ (i:=1) rfl) (Z.at_ (i:=0) rfl) (hF.below Z.below)) (Nat.le_refl _) fun A35 c35 _ _ Y Z=>?_;refine GO 11 ?_;intro _ Y;refine sv (v:=cH awT p15.1 p15.2.1 p15.2.2.1 p15.2.2.2) Y (ah aa aa (Y.ev rfl) (Z.cellsAll (i:=5) rfl)) fun _ Y=>?_;refine dz Y rfl Z (mx awT p15.1 p15.2.1 p15.2.2.1 p15.2.2.2 _ (Z.rdOf (i:=6) rfl) (Z.rdOf (i:=7) rfl)) fun _ _ Y Z=>?_;refine GO 5 ?_;intro _ Y;obtain⟨bT,oT,eT,_,_⟩:=(Z.rdOf (i:=6) rfl).opened aq;obtain⟨bR,oR,eR,_,_⟩:=(Z.rdOf (i:=4) rfl).opened (aO bF aq hR0);obtain⟨bM,oM,eM,_,_⟩:=(Z.rdOf (i:=0) rfl).opened (aO bF aq hM0);have hU:=Z.rdOf (i:=3) rfl;refine GO 7 ?_;intro _ Y;refine aL Y (aj Y _ rfl rfl rfl (rfl)) (fx 0 0 (Y.ev rfl)) rfl rfl fun _ Y=>?_;refine aL Y (aj Y _ rfl rfl rfl (rfl)) (lx (Y.ev rfl) (Z.cell (i:=5) rfl rfl)) rfl rfl fun _ Y=>?_;refine aL Y (aj Y _ rfl rfl rfl (rfl)) (tU Tryz.underlying22 (Y.ev rfl)) rfl rfl fun _ Y=>?_
   refine aL Y (aj Y _ rfl rfl rfl (rfl)) (eb (Y.ev rfl) (Y.ev rfl)) rfl rfl fun _ Y=>?_;refine sv Y (bQ (Y.ev rfl) (rfl) (Y.ev rfl)) fun _ Y=>?_;refine GO 1 ?_;intro _ Y;refine aL Y (aj Y _ rfl rfl rfl (rfl)) (fx 0 0 (Y.ev rfl)) rfl rfl fun _ Y=>?_;refine aL Y (aj Y _ rfl rfl rfl (rfl)) (aY (v':=.slice (some ⟨bT,oT,none⟩) 2 p15.2.1) (by rw[eT];rfl) (lx (Y.ev rfl) (Z.cell (i:=5) rfl rfl))) rfl rfl fun _ Y=>?_;refine aL Y (aj Y _ rfl rfl rfl (rfl)) (aw (i:=0) (sz:=4) Tryz.underlying22 aa (Y.ev rfl) (Y.ev rfl) ab ab rfl) rfl rfl fun _ Y=>?_;refine aL (v:=fk awT.ts[0]) Y (aj Y _ rfl rfl rfl (rfl)) (ah aa aa (Y.ev rfl) (bb cK (eT▸Z.rdOf (i:=6) rfl) (show 0<awT.ts.length by decide))) rfl rfl fun _ Y=>?_;refine aL Y (aj Y _ rfl rfl rfl (rfl)) (aT (zs:=[.int .i64 0,.int .i64 0,.int .i64 0,.bool false]) (pl:=[(0,1),(1,1),(2,1),(3,1)]) aa aa (Y.evs2 rfl) rfl rfl) rfl rfl fun _ Y=>?_;refine aL Y (aj Y _ rfl rfl rfl (rfl)) (uY (ks:=[.i .i64,.i .i64,.i .i64,.b]) aa Tryz.underlying116 aa (Y.ev rfl) (Y.ev rfl) rfl rfl) rfl rfl fun _ Y=>?_;refine sv Y (bQ (Y.ev rfl) (rfl) (Y.ev rfl)) fun _ Y=>?_;refine GO 1 ?_;intro _ Y;refine aL Y (aj Y _ rfl rfl rfl (aq)) (bq (Y.ev rfl)) rfl rfl fun _ Y=>?_;refine aL Y (aj Y _ rfl rfl rfl (aq)) (eb (Y.ev rfl) (Y.ev rfl)) rfl rfl fun _ Y=>?_;refine sv Y (bQ (Y.ev rfl) (aq) (Y.ev rfl)) fun _ Y=>?_;refine GO 1 ?_;intro _ Y;refine aL Y (aj Y _ rfl rfl rfl (rfl)) (bq (Y.ev rfl)) rfl rfl fun _ Y=>?_;refine aL Y (aj Y _ rfl rfl rfl (rfl)) (eb (Y.ev rfl) (Y.ev rfl)) rfl rfl fun _ Y=>?_;refine sv Y (bQ (Y.ev rfl) (rfl) (Y.ev rfl)) fun _ Y=>?_;refine GO 1 ?_;intro _ Y;refine aL Y (aj Y _ rfl rfl rfl (rfl)) (bq (Y.ev rfl)) rfl rfl fun _ Y=>?_
   refine aL Y (aj Y _ rfl rfl rfl (rfl)) (tU Tryz.underlying48 (Y.ev rfl)) rfl rfl fun _ Y=>?_;refine aL Y (aj Y _ rfl rfl rfl (rfl)) (eb (Y.ev rfl) (Y.ev rfl)) rfl rfl fun _ Y=>?_;refine sv Y (bQ (Y.ev rfl) (rfl) (Y.ev rfl)) fun _ Y=>?_;refine GO 1 ?_;intro _ Y;refine aL Y (aj Y _ rfl rfl rfl ((by rw[hRl];rfl))) (aY (v':=.slice (some ⟨bR,oR,none⟩) awPR.length c22) (by rw[eR];rfl) (bq (Y.ev rfl))) rfl rfl fun _ Y=>?_;refine aL Y (aj Y _ rfl rfl rfl ((by rw[hRl];rfl))) (aw (i:=0) (sz:=3) Tryz.underlying48 aa (Y.ev rfl) (Y.ev rfl) ab ab rfl) rfl rfl fun _ Y=>?_;refine aL Y (aj Y _ rfl rfl rfl ((by rw[hRl];rfl))) (fy 2 (Y.ev rfl)) rfl rfl fun _ Y=>?_;refine aL Y (aj Y _ rfl rfl rfl ((by rw[hRl];rfl))) (lx (Y.ev rfl) ((bb bF (eR▸Z.rdOf (i:=4) rfl) hR0) 2 _ rfl)) rfl rfl fun _ Y=>?_;refine aL Y (aj Y _ rfl rfl rfl ((by rw[hRl];rfl))) (oQ (l:=70) (h:=71) Tryz.underlying9 (Y.ev rfl) (Y.ev rfl) (Y.ev rfl) ab ab) rfl rfl fun _ Y=>?_;refine aL Y (aj Y _ rfl rfl rfl ((by rw[hRl];rfl))) (mf (Y.ev rfl) (Y.ev rfl)) rfl rfl fun _ Y=>?_;refine sv Y (bQ (Y.ev rfl) ((by rw[hRl];rfl)) (Y.ev rfl)) fun _ Y=>?_;refine GO 1 ?_;intro _ Y;refine aL Y (aj Y _ rfl rfl rfl ((by rw[hR2];rfl))) (bq (Y.ev rfl)) rfl rfl fun _ Y=>?_;refine aL Y (aj Y _ rfl rfl rfl ((by rw[hR2];rfl))) (eb (Y.ev rfl) (Y.ev rfl)) rfl rfl fun _ Y=>?_;refine sv Y (bQ (Y.ev rfl) ((by rw[hR2];rfl)) (Y.ev rfl)) fun _ Y=>?_;refine GO 1 ?_;intro _ Y;refine aL Y (aj Y _ rfl rfl rfl (rfl)) (bq (Y.ev rfl)) rfl rfl fun _ Y=>?_;refine cg Y (aj Y _ rfl rfl rfl (rfl)) (f:=fun b=>.slice (some ⟨b,0,none⟩) 2 2) (bo Tryz.underlying53 aa aa (Y.evs2 rfl) rfl rfl rfl aq aq) rfl rfl Z fun b87 _ _ Zo Y Z=>?_;refine dw Y (aj Y _ rfl rfl rfl (rfl)) (aC br (Y.evs rfl) rfl) rfl rfl Z (wE [113,41] [113,41] A29 (some ⟨b87,0,none⟩) c29 2 _ (Z.rdOf (i:=4) rfl) (Z.boxRd (i:=0) rfl) aq) fun _ _ Y Z=>?_
   refine sv Y (bQ (Y.ev rfl) (rfl) (Y.ev rfl)) fun _ Y=>?_;refine GO 1 ?_;intro _ Y;refine aL Y (aj Y _ rfl rfl rfl (aq)) (bq (Y.ev rfl)) rfl rfl fun _ Y=>?_;refine aL Y (aj Y _ rfl rfl rfl (aq)) (eb (Y.ev rfl) (Y.ev rfl)) rfl rfl fun _ Y=>?_;refine sv Y (bQ (Y.ev rfl) (aq) (Y.ev rfl)) fun _ Y=>?_;refine GO 1 ?_;intro _ Y;refine aL Y (aj Y _ rfl rfl rfl (rfl)) (bq (Y.ev rfl)) rfl rfl fun _ Y=>?_;refine aL Y (aj Y _ rfl rfl rfl (rfl)) (eb (Y.ev rfl) (Y.ev rfl)) rfl rfl fun _ Y=>?_;refine sv Y (bQ (Y.ev rfl) (rfl) (Y.ev rfl)) fun _ Y=>?_;refine GO 1 ?_;intro _ Y;refine aL Y (aj Y _ rfl rfl rfl (rfl)) (aY (v':=.slice (some ⟨bM,oM,none⟩) awPM.length c35) (by rw[eM];rfl) (bq (Y.ev rfl))) rfl rfl fun _ Y=>?_;refine aL Y (aj Y _ rfl rfl rfl (rfl)) (aw (i:=0) (sz:=3) Tryz.underlying48 aa (Y.ev rfl) (Y.ev rfl) ab ab rfl) rfl rfl fun _ Y=>?_;refine aL Y (aj Y _ rfl rfl rfl (rfl)) (fy 2 (Y.ev rfl)) rfl rfl fun _ Y=>?_;refine aL Y (aj Y _ rfl rfl rfl (rfl)) (lx (Y.ev rfl) ((bb bF (eM▸Z.rdOf (i:=1) rfl) hM0) 2 _ rfl)) rfl rfl fun _ Y=>?_;refine aL Y (aj Y _ rfl rfl rfl (rfl)) (oQ (l:=64) (h:=71) Tryz.underlying9 (Y.ev rfl) (Y.ev rfl) (Y.ev rfl) ab ab) rfl rfl fun _ Y=>?_;refine aL Y (aj Y _ rfl rfl rfl (rfl)) (mf (Y.ev rfl) (Y.ev rfl)) rfl rfl fun _ Y=>?_;refine sv Y (bQ (Y.ev rfl) (rfl) (Y.ev rfl)) fun _ Y=>?_;refine GO 1 ?_;intro _ Y;refine aL Y (aj Y _ rfl rfl rfl ((by rw[hM2];rfl))) (bq (Y.ev rfl)) rfl rfl fun _ Y=>?_;refine aL Y (aj Y _ rfl rfl rfl ((by rw[hM2];rfl))) (eb (Y.ev rfl) (Y.ev rfl)) rfl rfl fun _ Y=>?_;refine sv Y (bQ (Y.ev rfl) ((by rw[hM2];rfl)) (Y.ev rfl)) fun _ Y=>?_;refine GO 1 ?_;intro _ Y;refine aL Y (aj Y _ rfl rfl rfl ((by rw[aw_tbl.1];rfl))) (bq (Y.ev rfl)) rfl rfl fun _ Y=>?_
   refine aL Y (aj Y _ rfl rfl rfl ((by rw[aw_tbl.1];rfl))) (uR Tryz.underlying9 (Y.ev rfl)) rfl rfl fun _ Y=>?_;refine aL Y (aj Y _ rfl rfl rfl ((by rw[aw_tbl.1];rfl))) (eb (Y.ev rfl) (Y.ev rfl)) rfl rfl fun _ Y=>?_;refine sv Y (bQ (Y.ev rfl) ((by rw[aw_tbl.1];rfl)) (Y.ev rfl)) fun _ Y=>?_;refine GO 4 ?_;intro _ Y;refine aP Y rfl rfl ?_;exact⟨by rw[if_pos aw_tbl.1,gn,aw_tbl.2];rfl,Z.below⟩
  case hB=>kernel_rfl
 case hB=>kernel_rfl
end Go.Proofs.YtcfdpfmchchkaaaGreatDoor
