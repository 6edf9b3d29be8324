/-
  Chapter 22: the walk of RecoveryAnalyses.
-/
import Derived.Test.YtcfdpfmchchkaaaGreatDoorRcZ0
namespace Go.Proofs.YtcfdpfmchchkaaaGreatDoor
set_option linter.unusedVariables false
set_option linter.unusedSimpArgs false
set_option maxRecDepth 4000
open Go.RowKit Go.Sort Go.Shelf
theorem pT (t:Tbl) (l:List Rcd):(js t l).1.ts.length≤60∧(js t l).1.ds.length≤60:=by
 unfold js
 split
 · exact⟨Nat.zero_le _,Nat.zero_le _⟩
 · rename_i h
   have hk:=tblE_zero.1 (Classical.not_not.1 h);exact⟨hk.n,hk.m⟩
theorem vL (l:List Rcd) (a:Int):(cY l a).1.ts.length≤60∧(cY l a).1.ds.length≤60:=by
 unfold cY
 split
 · exact pT _ _
 · split
   · exact⟨Nat.zero_le _,Nat.zero_le _⟩
   · split
     · exact⟨Nat.zero_le _,Nat.zero_le _⟩
     · exact pT _ _
theorem iI (l:List Rcd) (A:Option Addr) (c:Nat) (a:Int) (w:World) (hll:l.length≤maxLen∧l.length≤c) (hr:Rd w w.heap.size A (l.flatMap cw)) (hxg:∀x∈l,l4 x.e∧I6 x.e.g) (hF:FolT w) :
 Calls Tryz.prog 4 #[.slice A l.length c,.int .i64 a] w fun e w'=>e=.returned (.bool true)∧Below w.heap.size w w':=by
 refine aD (N:=48) Tryz.func4 rfl rfl rfl (fun _ Y=>?_);have Z:=St.init w;refine ab (ag ?_);refine ma Y rfl rfl fun _ Y=>?_;refine ae (aa (ab (ab (ag ?_))));refine aV Y (wn rfl) (aq (fun _ _=>by kernel_rfl) (Y.evs rfl) rfl) rfl rfl Z (qC _ (hF.below Z.below)) fun _ _ Y Z=>?_;refine sv Y (cN (Y.ev rfl)) fun _ Y=>?_;refine ae (aa ?_);refine iK (Y.ev rfl) (rfl) ?_;refine wp_skip (aa (ab (ab (ag ?_))));refine mv Y rfl rfl fun _ Y=>?_;refine aV Y (wn rfl) (aq (fun _ _=>by kernel_rfl) (Y.evs rfl) rfl) rfl rfl Z (qE l A c _ (Z.rd0 hr) hll.1) fun _ _ Y Z=>?_;refine sv Y (cN (Y.ev rfl)) fun _ Y=>?_;refine ae (aa ?_);refine aB (Y.ev rfl) (fun hc1=>?_) (fun hc1=>?_)
 ·
  refine ab (ag ?_);refine ma Y rfl rfl fun _ Y=>?_;refine ae (aa (wp_ret (ak ?_)));refine bw Y rfl rfl ?_
  first | exact⟨rfl,Z.below⟩ | exact⟨by simp,Z.below⟩
 ·
  obtain⟨hl1,hxe⟩:=zH (l:=l) (by simpa using hc1);refine wp_skip (aa (ab (ag ?_)));refine mv Y rfl rfl fun _ Y=>?_;refine kG Y (wn rfl) (aq (fun _ _=>by kernel_rfl) (Y.evs rfl) rfl) rfl rfl Z (rf l A c _ (Z.rd0 hr) (by omega)) (Nat.le_refl _) fun A17 c17 _ _ Y Z=>?_;refine mv Y rfl rfl fun _ Y=>?_;refine cT Y (wn rfl) (aq (fun _ _=>by kernel_rfl) (Y.evs rfl) rfl) rfl rfl Z (j3 l A17 c17 a _ (Z.rdOf (i:=0) rfl) (by omega) (fR (Z.at_ (i:=0) rfl)) (hF.below Z.below) hxe) fun p19 _ _ Y Z=>?_;refine mv Y rfl rfl fun _ Y=>?_;refine sv (v:=bO (gW l a).1 p19.1 p19.2.1 p19.2.2.1 p19.2.2.2) Y (bI (Y.ev rfl) rfl) fun _ Y=>?_;refine vx Y rfl rfl rfl fun _ Y=>?_;refine na (.agg #[.slice none 0 0,.slice none 0 0]) Y rfl Z fun b5 _ _ gb5 Y Z=>?_;refine az Y (wn rfl) ⟨rfl,rfl⟩ (Y.ev rfl) (Y.ev rfl) rfl (by kernel_rfl) Z (i:=0) rfl rfl rfl fun _ Z=>?_;refine ma Y rfl rfl fun _ Y=>?_;refine ae (aa (ab (ab (ag ?_))));refine mv Y rfl rfl fun _ Y=>?_;refine aV Y (wn rfl) (aq (fun _ _=>by kernel_rfl) (Y.evs rfl) rfl) rfl rfl Z (lq l A c _ (Z.rd0 hr) (by omega) hll.2 hxe) fun _ _ Y Z=>?_;refine ma Y rfl rfl fun _ Y=>?_;refine cu ?_;refine mv Y rfl rfl fun _ Y=>?_;refine sv Y (bc (Y.ev rfl) (Y.ev rfl)) fun _ Y=>?_;refine ae (aa ?_);refine aB (Y.ev rfl) (fun hc2=>?_) (fun hc2=>?_)
  ·
   have hne:(fh l).2≠0:=by simpa using hc2
   have hR:gW l a=(tbl0,(fh l).2):=by unfold gW;rw[if_pos hne]
   rw[hR] at Y Z;refine ab (ag ?_);refine mv Y rfl rfl fun _ Y=>?_;refine mv Y rfl rfl fun _ Y=>?_;refine sv Y (aW (Y.ev rfl) (Y.ev rfl)) fun _ Y=>?_;refine mv Y rfl rfl fun _ Y=>?_;refine aY (v:=bO tbl0 p19.1 p19.2.1 p19.2.2.1 p19.2.2.2) Y (ah Y _ rfl rfl rfl ((by simp))) (av (by kernel_rfl) (by kernel_rfl) (Y.ev rfl) (Z.cellsAll (i:=0) rfl)) rfl rfl fun _ Y=>?_;refine aY (v:=bO tbl0 none 0 none 0) Y (ah Y _ rfl rfl rfl ((by simp))) (bb (zs:=[.slice none 0 0,.slice none 0 0]) (pl:=[(0,1),(1,1)]) (by kernel_rfl) (by kernel_rfl) (Y.evs2 rfl) rfl rfl) rfl rfl fun _ Y=>?_;refine aV Y (ah Y _ rfl rfl rfl ((by simp))) (aq (fun _ _=>by kernel_rfl) (Y.evs rfl) rfl) rfl rfl Z (l7 tbl0 p19.1 p19.2.1 p19.2.2.1 p19.2.2.2 none 0 none 0 _ (Z.rdOf (i:=1) rfl) (Z.rdOf (i:=2) rfl) (Rd.nil _ _ _) (Rd.nil _ _ _) ⟨by decide,by decide⟩) fun _ _ Y Z=>?_;refine sv Y (aA (Y.ev rfl) ((by simp)) (Y.ev rfl)) fun _ Y=>?_;refine ma Y rfl rfl fun _ Y=>?_;refine ae (aa (wp_ret (ak ?_)));refine bw Y rfl rfl ?_
   first | exact⟨rfl,Z.below⟩ | exact⟨by simp,Z.below⟩
  ·
   have hz:(fh l).2=0:=by simpa using hc2
   have hR:gW l a=cY l a:=by unfold gW;rw[if_neg (fun h=>h hz)]
   rw[hR] at Y Z;obtain⟨hl2,hvl⟩:=lz hz;have hln:=vL l a;refine wp_skip (aa (ab (ag ?_)));refine mv Y rfl rfl fun _ Y=>?_;refine mv Y rfl rfl fun _ Y=>?_;refine cT Y (wn rfl) (aq (fun _ _=>by kernel_rfl) (Y.evs rfl) rfl) rfl rfl Z (mM l a A c _ (Z.rd0 hr) hvl (by omega) hxe) fun p37 _ _ Y Z=>?_;refine mv Y rfl rfl fun _ Y=>?_;refine sv (v:=bO (cY l a).1 p37.1 p37.2.1 p37.2.2.1 p37.2.2.2) Y (bI (Y.ev rfl) rfl) fun _ Y=>?_;refine vx Y rfl rfl rfl fun _ Y=>?_;refine na (.agg #[.slice none 0 0,.slice none 0 0]) Y rfl Z fun b8 _ _ gb8 Y Z=>?_;refine az Y (wn rfl) ⟨rfl,rfl⟩ (Y.ev rfl) (Y.ev rfl) rfl (by kernel_rfl) Z (i:=0) rfl rfl rfl fun _ Z=>?_;refine ma Y rfl rfl fun _ Y=>?_;refine cu ?_;refine mv Y rfl rfl fun _ Y=>?_;refine mv Y rfl rfl fun _ Y=>?_;refine sv Y (aW (Y.ev rfl) (Y.ev rfl)) fun _ Y=>?_;refine mv Y rfl rfl fun _ Y=>?_;refine aY (v:=bO (cY l a).1 p19.1 p19.2.1 p19.2.2.1 p19.2.2.2) Y (ah Y _ rfl rfl rfl ((by simp))) (av (by kernel_rfl) (by kernel_rfl) (Y.ev rfl) (Z.cellsAll (i:=3) rfl)) rfl rfl fun _ Y=>?_;refine aY (v:=bO (cY l a).1 p37.1 p37.2.1 p37.2.2.1 p37.2.2.2) Y (ah Y _ rfl rfl rfl ((by simp))) (av (by kernel_rfl) (by kernel_rfl) (Y.ev rfl) (Z.cellsAll (i:=0) rfl)) rfl rfl fun _ Y=>?_;refine aV Y (ah Y _ rfl rfl rfl ((by simp))) (aq (fun _ _=>by kernel_rfl) (Y.evs rfl) rfl) rfl rfl Z (l7 (cY l a).1 p19.1 p19.2.1 p19.2.2.1 p19.2.2.2 p37.1 p37.2.1 p37.2.2.1 p37.2.2.2 _ (Z.rdOf (i:=4) rfl) (Z.rdOf (i:=5) rfl) (Z.rdOf (i:=1) rfl) (Z.rdOf (i:=2) rfl) (by omega)) fun _ _ Y Z=>?_;refine sv Y (aA (Y.ev rfl) ((by simp)) (Y.ev rfl)) fun _ Y=>?_;refine ma Y rfl rfl fun _ Y=>?_;refine ae (aa (wp_ret ?_));refine bw Y rfl rfl ?_
   first | exact⟨rfl,Z.below⟩ | exact⟨by simp,Z.below⟩
end Go.Proofs.YtcfdpfmchchkaaaGreatDoor
