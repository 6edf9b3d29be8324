/-
  Chapter 22: the walk of RecoveryHistories.
-/
import Derived.Test.YtcfdpfmchchkaaaGreatDoorRcV
import Derived.Test.YtcfdpfmchchkaaaGreatDoorRgF
namespace Go.Proofs.YtcfdpfmchchkaaaGreatDoor
set_option maxHeartbeats 1000000
set_option maxRecDepth 4000
set_option linter.unusedVariables false
set_option linter.unusedSimpArgs false
open Go.RowKit Go.Sort Go.Shelf
theorem xP (r:RngP):(gX r).1.length≤r.rs.length:=by
 unfold gX
 repeat' split
 all_goals first | exact Nat.zero_le _ | exact Nat.le_of_eq (mn _)
theorem ik (l:List Rcd) (A:Option Addr) (c:Nat) (r:RngP) (hI:RngI r) (RA:Option Addr) (rc:Nat) (w:World) (hll:l.length≤maxLen∧l.length≤c) (hr:Rd w w.heap.size A (l.flatMap bA)) (hxg:∀x∈l,mh x.e∧I6 x.e.g) (hrr:Rd w w.heap.size RA (cc r.rs)) (hF:FolT w) :
 Calls Tryz.prog 7 #[.slice A l.length c,cJ r RA rc] w fun e w'=>e=.returned (.bool true)∧Below w.heap.size w w':=by
 refine al (N:=69) Tryz.func7 rfl rfl rfl (fun _ Y=>?_);have Z:=St.init w;refine ah (ao ?_);refine nb Y rfl rfl Z fun b3 _ _ Ze Y Z=>?_;refine GO 6 ?_;intro _ Y;refine cE Y rfl Z (rE _ (hF.below Z.below)) fun _ _ Y Z=>?_;refine GO 3 ?_;intro _ Y;refine iY (Y.ev rfl) (rfl) ?_;refine GO 6 ?_;intro _ Y;refine cE Y rfl Z (sf l A c _ (Z.rd0 hr) hll.1) fun _ _ Y Z=>?_;refine GO 2 ?_;intro _ Y;apply bm (x:=!(sZ r)) Y Z 19 rfl 4 23
 case hf=>
  intro Za;refine aI (v:=cJ r RA rc) Y (aj Y _ rfl rfl rfl Za) (ai aa aa (Y.ev rfl) (Z.cellsAll (i:=0) rfl)) rfl rfl fun _ Y=>?_;refine dg Y (aj Y _ rfl rfl rfl Za) (ax a8 (Y.evs rfl) rfl) rfl rfl Z (Ab r RA rc _ (Z.rd0 hrr)) fun _ _ Y Z=>?_;refine GO 2 ?_;intro _ Y;exact ae ⟨Y.midE 3,Z⟩
 case ht=>
  intro Za;refine GO 4 ?_;intro _ Y;exact ae ⟨Y.midE 3,Z⟩
 case h=>
  rintro a17 Zf ⟨Zd,Zb⟩
  refine ae (ag ?_);refine ak (Zd.ev rfl) (fun Zc=>?_) (fun Zc=>?_)
  ·
   refine GO 7 ?_;intro _ Y;refine aD Y rfl rfl ?_
   first | exact⟨rfl,Zb.below⟩ | exact⟨by simp,Zb.below⟩
  ·
   obtain⟨u1,u2⟩:=Bool.or_eq_false_iff.1 Zc;obtain⟨hl1,hxe⟩:=Cc (l:=l) (by simpa using u1);have hn1:=BV (r:=r) (by simpa using u2);have hgl:=xP r;refine GO 5 ?_;intro _ Y;refine kI Y (wn rfl) (ax a8 (Y.evs rfl) rfl) rfl rfl Zb (tC l A c _ (Zb.rd0 hr) ab) (Nat.le_refl _) fun A26 c26 _ _ Y Z=>?_;refine cE Y rfl Z (eB l A26 c26 _ (Z.rdOf (i:=0) rfl) ab (gK (Z.at_ (i:=0) rfl)) (hF.below Z.below) hxe) fun _ _ Y Z=>?_;refine GO 9 ?_;intro _ Y;refine sv (v:=cJ r RA rc) Y (ai aa aa (Y.ev rfl) (Z.cellsAll (i:=1) rfl)) fun _ Y=>?_;refine uc Y (wn rfl) (ax a8 (Y.evs rfl) rfl) rfl rfl Z (wA r RA rc _ (Z.rd0 hrr) hn1) (Nat.le_refl _) fun A32 c32 _ _ Y Z=>?_;refine cO Y (wn rfl) (ax a8 (Y.evs rfl) rfl) rfl rfl Z (nI r A32 c32 _ (Z.rdOf (i:=0) rfl) hn1 (fun x hx=>(hI.rs x hx).1) (fun x hx=>(hI.rs x hx).2.2) (hF.below Z.below)) fun p33 _ _ Y Z=>?_;refine GO 12 ?_;intro _ Y;refine cE Y rfl Z (fV l A c _ (Z.rd0 hr) ab hll.2 hxe) fun _ _ Y Z=>?_;refine GO 14 ?_;intro _ Y;refine aI Y (aj Y _ rfl rfl rfl (a7)) (bc (Y.ev rfl)) rfl rfl fun _ Y=>?_;refine aI Y (aj Y _ rfl rfl rfl (a7)) (bc (Y.ev rfl)) rfl rfl fun _ Y=>?_;refine aI Y (aj Y _ rfl rfl rfl (a7)) (iE (Y.ev rfl) (Y.ev rfl)) rfl rfl fun _ Y=>?_;refine sv Y (kZ (Y.ev rfl) (a7) (Y.ev rfl)) fun _ Y=>?_;refine ae (ag ?_);refine iY (Y.ev rfl) (a7) ?_;refine wp_skip (ag (ah (ao ?_)));refine sv (v:=cJ r RA rc) Y (ai aa aa (Y.ev rfl) (Z.cellsAll (i:=3) rfl)) fun _ Y=>?_;refine cO Y (wn rfl) (ax a8 (Y.evs rfl) rfl) rfl rfl Z (qa r RA rc _ (Z.rd0 hrr) hn1 (fun x hx=>(hI.rs x hx).1) (fun x hx=>(hI.rs x hx).2.2)) fun p52 _ _ Y Z=>?_;refine GO 15 ?_;intro _ Y;refine aI Y (aj Y _ rfl rfl rfl (a7)) (bc (Y.ev rfl)) rfl rfl fun _ Y=>?_
   refine aI Y (aj Y _ rfl rfl rfl (a7)) (bc (Y.ev rfl)) rfl rfl fun _ Y=>?_;refine aI Y (aj Y _ rfl rfl rfl (a7)) (dE (Y.ev rfl) (Y.ev rfl)) rfl rfl fun _ Y=>?_;refine sv Y (bH (Y.ev rfl) (a7) (Y.ev rfl)) fun _ Y=>?_;refine GO 1 ?_;intro _ Y;refine aI Y (aj Y _ rfl rfl rfl (a7)) (bc (Y.ev rfl)) rfl rfl fun _ Y=>?_;refine aI Y (aj Y _ rfl rfl rfl (a7)) (bc (Y.ev rfl)) rfl rfl fun _ Y=>?_;refine dg Y (aj Y _ rfl rfl rfl (a7)) (ax a8 (Y.evs rfl) rfl) rfl rfl Z (tg (gX r).1 p33.1 p33.2 p52.1 p52.2 _ (Z.rdOf (i:=1) rfl) (Z.rdOf (i:=0) rfl) ab) fun _ _ Y Z=>?_;refine sv Y (bH (Y.ev rfl) (a7) (Y.ev rfl)) fun _ Y=>?_;refine GO 4 ?_;intro _ Y;refine aD Y rfl rfl ?_
   first | exact⟨rfl,Z.below⟩ | exact⟨by simp,Z.below⟩
end Go.Proofs.YtcfdpfmchchkaaaGreatDoor
