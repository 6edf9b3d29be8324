/-
  Chapter 22: the walk of RecoveryHistories.
-/
import Derived.Test.YtcfdpfmchchkaaaGreatDoorRcV
import Derived.Test.YtcfdpfmchchkaaaGreatDoorRgF
namespace Go.Proofs.YtcfdpfmchchkaaaGreatDoor
set_option maxHeartbeats 1000000
set_option maxRecDepth 4000
set_option linter.unusedVariables false
set_option linter.unusedSimpArgs false
open Go.RowKit Go.Sort Go.Shelf
theorem yI (r:RngP):(gY r).1.length≤r.rs.length:=by
 unfold gY
 repeat' split
 all_goals first | exact Nat.zero_le _ | exact Nat.le_of_eq (nE _)
theorem iF (l:List Rcd) (A:Option Addr) (c:Nat) (r:RngP) (hI:RngI r) (RA:Option Addr) (rc:Nat) (w:World) (hll:l.length≤maxLen∧l.length≤c) (hr:Rd w w.heap.size A (l.flatMap bJ)) (hxg:∀x∈l,mz x.e∧I6 x.e.g) (hrr:Rd w w.heap.size RA (cu r.rs)) (hF:FolT w) :
 Calls Tryz.prog 7 #[.slice A l.length c,cT r RA rc] w fun e w'=>e=.returned (.bool true)∧Below w.heap.size w w':=by
 refine ao (N:=69) Tryz.func7 rfl rfl rfl (fun _ Y=>?_);have Z:=St.init w;refine ak (av ?_);refine nb Y rfl rfl Z fun b3 _ _ Ze Y Z=>?_;refine GO 6 ?_;intro _ Y;refine dz Y rfl Z (qX _ (hF.below Z.below)) fun _ _ Y Z=>?_;refine GO 3 ?_;intro _ Y;refine jf (Y.ev rfl) (rfl) ?_;refine GO 6 ?_;intro _ Y;refine dz Y rfl Z (rq l A c _ (Z.rd0 hr) hll.1) fun _ _ Y Z=>?_;refine GO 2 ?_;intro _ Y;apply cZ (x:=!(uy r)) Y Z 19 rfl 4 23
 case hf=>
  intro Za;refine aL (v:=cT r RA rc) Y (aj Y _ rfl rfl rfl Za) (ah aa aa (Y.ev rfl) (Z.cellsAll (i:=0) rfl)) rfl rfl fun _ Y=>?_;refine dw Y (aj Y _ rfl rfl rfl Za) (aC br (Y.evs rfl) rfl) rfl rfl Z (Bj r RA rc _ (Z.rd0 hrr)) fun _ _ Y Z=>?_;refine GO 2 ?_;intro _ Y;exact ae ⟨Y.midE 3,Z⟩
 case ht=>
  intro Za;refine GO 4 ?_;intro _ Y;exact ae ⟨Y.midE 3,Z⟩
 case h=>
  rintro a17 Zf ⟨Zd,Zb⟩
  refine ae (ag ?_);refine ar (Zd.ev rfl) (fun Zc=>?_) (fun Zc=>?_)
  ·
   refine GO 7 ?_;intro _ Y;refine aP Y rfl rfl ?_
   first | exact⟨rfl,Zb.below⟩ | exact⟨by simp,Zb.below⟩
  ·
   obtain⟨u1,u2⟩:=Bool.or_eq_false_iff.1 Zc;obtain⟨hl1,hxe⟩:=CG (l:=l) (by simpa using u1);have hn1:=CH (r:=r) (by simpa using u2);have hgl:=yI r;refine GO 5 ?_;intro _ Y;refine kS Y (wn rfl) (aC br (Y.evs rfl) rfl) rfl rfl Zb (tg l A c _ (Zb.rd0 hr) ab) (Nat.le_refl _) fun A26 c26 _ _ Y Z=>?_;refine dz Y rfl Z (eL l A26 c26 _ (Z.rdOf (i:=0) rfl) ab (ik (Z.at_ (i:=0) rfl)) (hF.below Z.below) hxe) fun _ _ Y Z=>?_;refine GO 9 ?_;intro _ Y;refine sv (v:=cT r RA rc) Y (ah aa aa (Y.ev rfl) (Z.cellsAll (i:=1) rfl)) fun _ Y=>?_;refine vm Y (wn rfl) (aC br (Y.evs rfl) rfl) rfl rfl Z (wP r RA rc _ (Z.rd0 hrr) hn1) (Nat.le_refl _) fun A32 c32 _ _ Y Z=>?_;refine db Y (wn rfl) (aC br (Y.evs rfl) rfl) rfl rfl Z (nV r A32 c32 _ (Z.rdOf (i:=0) rfl) hn1 (fun x hx=>(hI.rs x hx).1) (fun x hx=>(hI.rs x hx).2.2) (hF.below Z.below)) fun p33 _ _ Y Z=>?_;refine GO 12 ?_;intro _ Y;refine dz Y rfl Z (gh l A c _ (Z.rd0 hr) ab hll.2 hxe) fun _ _ Y Z=>?_;refine GO 14 ?_;intro _ Y;refine aL Y (aj Y _ rfl rfl rfl (a6)) (bq (Y.ev rfl)) rfl rfl fun _ Y=>?_;refine aL Y (aj Y _ rfl rfl rfl (a6)) (bq (Y.ev rfl)) rfl rfl fun _ Y=>?_;refine aL Y (aj Y _ rfl rfl rfl (a6)) (jW (Y.ev rfl) (Y.ev rfl)) rfl rfl fun _ Y=>?_;refine sv Y (kM (Y.ev rfl) (a6) (Y.ev rfl)) fun _ Y=>?_;refine ae (ag ?_);refine jf (Y.ev rfl) (a6) ?_;refine wp_skip (ag (ak (av ?_)));refine sv (v:=cT r RA rc) Y (ah aa aa (Y.ev rfl) (Z.cellsAll (i:=3) rfl)) fun _ Y=>?_;refine db Y (wn rfl) (aC br (Y.evs rfl) rfl) rfl rfl Z (qj r RA rc _ (Z.rd0 hrr) hn1 (fun x hx=>(hI.rs x hx).1) (fun x hx=>(hI.rs x hx).2.2)) fun p52 _ _ Y Z=>?_;refine GO 15 ?_;intro _ Y;refine aL Y (aj Y _ rfl rfl rfl (a6)) (bq (Y.ev rfl)) rfl rfl fun _ Y=>?_
   refine aL Y (aj Y _ rfl rfl rfl (a6)) (bq (Y.ev rfl)) rfl rfl fun _ Y=>?_;refine aL Y (aj Y _ rfl rfl rfl (a6)) (eb (Y.ev rfl) (Y.ev rfl)) rfl rfl fun _ Y=>?_;refine sv Y (bQ (Y.ev rfl) (a6) (Y.ev rfl)) fun _ Y=>?_;refine GO 1 ?_;intro _ Y;refine aL Y (aj Y _ rfl rfl rfl (a6)) (bq (Y.ev rfl)) rfl rfl fun _ Y=>?_;refine aL Y (aj Y _ rfl rfl rfl (a6)) (bq (Y.ev rfl)) rfl rfl fun _ Y=>?_;refine dw Y (aj Y _ rfl rfl rfl (a6)) (aC br (Y.evs rfl) rfl) rfl rfl Z (tX (gY r).1 p33.1 p33.2 p52.1 p52.2 _ (Z.rdOf (i:=1) rfl) (Z.rdOf (i:=0) rfl) ab) fun _ _ Y Z=>?_;refine sv Y (bQ (Y.ev rfl) (a6) (Y.ev rfl)) fun _ Y=>?_;refine GO 4 ?_;intro _ Y;refine aP Y rfl rfl ?_
   first | exact⟨rfl,Z.below⟩ | exact⟨by simp,Z.below⟩
end Go.Proofs.YtcfdpfmchchkaaaGreatDoor
