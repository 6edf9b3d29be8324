/- Chapter 20 -/
import Derived.Test.YtcfdpfmchchkaaaGreatDoorRgA
import Derived.Test.YtcfdpfmchchkaaaGreatDoorSplD
import Derived.Test.YtcfdpfmchchkaaaGreatDoorOpB
namespace Go.Proofs.YtcfdpfmchchkaaaGreatDoor
set_option maxHeartbeats 1000000
set_option maxRecDepth 4000
set_option linter.unusedVariables false
set_option linter.unusedSimpArgs false
open Go.RowKit Go.Sort
theorem sD (l:List RecP):∀u∈aJ l,u.oneCell'=true:=by
 intro u a;obtain⟨x,_,hx⟩:=List.mem_flatMap.1 a;simp only[recC,List.mem_cons,List.not_mem_nil,or_false] at hx
 rcases hx with rfl | rfl | rfl<;>rfl
theorem eo (l m:List RecP):aJ (l ++ m)=aJ l ++ aJ m:=by unfold aJ;rw[List.flatMap_append]
theorem qX (A:Option Addr) (c:Nat) (w:World) :
 Calls Tryz.prog 112 #[.slice A 0 c] w fun e b=>∃a,e=.returned (.slice a 0 0)∧b.ownsRow w.heap.size 177 3 (.slice a 0 0) 0 []∧Below w.heap.size w b:=by
 refine aq (N:=8) Tryz.func112 rfl rfl rfl (fun _ Y=>?_);have Z:=St.init w;refine GO 9 ?_;intro _ Y;refine sv Y (oI cv aa (Y.ev rfl) (Y.ev rfl)) fun _ Y=>?_;refine ah (aj ?_);refine ak (Y.ev rfl) (fun d=>?_) (fun d=>?_)
 ·
  refine GO 7 ?_;intro _ Y;refine aI Y rfl rfl ?_;exact⟨none,rfl,World.ownsRow_nil _ _ _ _,Z.below⟩
 ·
  refine wp_skip (aj (ai (an ?_)));refine cX (zc:=kQ) (sz:=3) Y (wn rfl) ⟨rfl,rfl⟩ rfl cv aa aa rfl rfl rfl (Y.evs2 rfl) rfl rfl rfl Z fun f _ _ g Y Z=>GO 1 ?_;intro _ Y;refine k5 (sz:=3) Y (wn rfl) ⟨rfl,rfl⟩ rfl cv aa (Y.ev rfl) (Y.ev rfl) fun _ Y=>GO 4 ?_;intro _ Y;refine aI Y rfl rfl ?_;have Z:=Z.toRow (i:=0) (n:=0) (sz:=3) rfl rfl au;exact⟨_,rfl,Z.ownB (i:=0) rfl,Z.below⟩
theorem lV (l:List RecP) (A:Option Addr) (c:Nat) (w:World) (hr:Rd w w.heap.size A (aJ l)) (k:l.length≤1000) :
 Calls Tryz.prog 112 #[.slice A l.length c] w fun e j=>∃d g,e=.returned (.slice d l.length g)∧(l.length=0→g=0)∧j.ownsRow w.heap.size 177 3 (.slice d l.length g) l.length (aJ l)∧Below w.heap.size w j:=by
 rcases Nat.eq_zero_or_pos l.length with f | f
 · have a:l=[]:=List.eq_nil_of_length_eq_zero f
   subst a;exact(qX A c w).mono fun e j ⟨d,r,p,s⟩=>⟨d,0,r,fun _=>rfl,p,s⟩
 refine aq (N:=8) Tryz.func112 rfl rfl rfl (fun _ f=>?_);have Z:=St.init w;refine GO 9 ?_;intro _ Y;refine sv Y (oI cv aa (Y.ev rfl) (Y.ev rfl)) fun _ Y=>?_;refine ah (aj ?_);refine ak (Y.ev rfl) (fun m=>?_) (fun m=>?_)
 ·
  exfalso
  obtain⟨b,o,rfl,_⟩:=hr.opened (by rw[bw];omega)
  cases m
 ·
  refine wp_skip (aj (ai (an ?_)));refine cX (zc:=kQ) (sz:=3) Y (wn rfl) ⟨rfl,rfl⟩ rfl cv aa aa rfl rfl rfl (Y.evs2 rfl) rfl rfl rfl Z fun t _ _ v Y Z=>GO 1 ?_;intro _ Y;have Z:=Z.toRow (i:=0) (n:=0) (sz:=3) rfl rfl au;refine bP (z:=.agg ia) (sz:=3) (bytes:=32) Y (wn rfl) ⟨rfl,rfl⟩ rfl cv aa rfl rfl (Y.ev rfl) (Y.ev rfl) Z (i:=0) rfl (Z.rd0 hr) (bw l) (sD l) ⟨ab,by decide⟩ fun u x _ _ Y Z=>?_;refine GO 4 ?_;intro _ Y;refine aI Y rfl rfl ?_;have q:=Z.ownB (i:=0) rfl;rw[Nat.zero_add] at q;exact⟨_,_,by rw[Nat.zero_add],fun h=>by omega,q,Z.below⟩
theorem OkP.tl {r:RngP} (h:OkP r):fI r=0∧(r.r.c=0∨ec r.rs r.r.c=true)∧(cL r).2≤r.pg-2:=by
 have a:=h.t;unfold jH at a;rw[aS] at a;have b:=a (bF (r.r.c==0||ec r.rs r.r.c) 6) bm;have h3:=a (bF (decide ((cL r).2≤r.pg-2)) 16) bm;rw[aD au] at b h3;refine⟨a (fI r) bm,?_,of_decide_eq_true h3⟩;rw[Bool.or_eq_true,beq_iff_eq] at b;exact b
theorem OkP.o1 {r:RngP} (h:OkP r):1≤r.r.o∧r.r.o≤100000000:=by
 rcases h.o with b | b
 · have a:=h.tl.1
   unfold fI at a;rw[b] at a;simp only[List.getLast?_nil] at a;rw[aD au,Bool.and_eq_true,beq_iff_eq] at a;have:=h.h.nx;have:=h.h.rr.2.2;omega
 · exact b
theorem tx (r:RngP) (s:ByteArray) (e:Int):aw [e,bF (!decide (s=⟨#[]⟩)) 17,bF (decide ((s.size:Int)≤3000)) 8,bF (decide ((r.rs.length:Int)<100)) 8]=if e≠0 then e else if s.size=0 then 17 else if 3000<s.size then 8 else if 100≤r.rs.length then 8 else 0:=by
 have d:decide ((s.size:Int)≤3000)=decide (s.size≤3000):=decide_eq_decide.2 ab;have b:decide ((r.rs.length:Int)<100)=decide (r.rs.length<100):=decide_eq_decide.2 ab;have h3:decide (s=⟨#[]⟩)=decide (s.size=0):=decide_eq_decide.2 mb;rw[d,b,h3];simp only[aw,bF]
 by_cases f:e=0<;>by_cases c:s.size=0<;>by_cases a:s.size≤3000<;>by_cases g:r.rs.length<100<;>simp[f,c,a,g]<;>omega
theorem tF (r:RngP) (A:Option Addr) (c:Nat) (s:ByteArray) (w:World) (hr:Rd w w.heap.size A (aJ r.rs)) (u:r.rs.length≤1000) (hx:∀x∈r.rs,I6 x.l) :
 Calls Tryz.prog 184 #[a7 r A c,.string s] w fun e w'=>∃V c',e=.returned (.tuple #[a7 (if (bJ r).2=0 then fM r s else du) V c',ae (if (bJ r).2=0∧eN r s=0 then r.nx+1 else 0),ae (if (bJ r).2=0 then eN r s else (bJ r).2)])∧w'.ownsRow w.heap.size 177 3 (.slice V (if (bJ r).2=0 then fM r s else du).rs.length c') (if (bJ r).2=0 then fM r s else du).rs.length (aJ (if (bJ r).2=0 then fM r s else du).rs)∧Below w.heap.size w w':=by
 refine aq (N:=70) Tryz.func184 rfl rfl rfl (fun _ Y=>?_);have Z:=St.init w;refine ai (an ?_);refine nb Y rfl rfl Z fun b2 H _ Zr j Z=>na (.agg ef) j rfl Z fun b4 a2 _ Zs n Z=>GO 1 ?_;intro L Y;refine GO 4 ?_;intro _ Y;apply aK Y (fA 13) _ aa
 case h=>
  refine qv Y (fun X a=>ag aa aa (Y.ev rfl) ((Z.grow a).cellsAll (i:=1) rfl)) fun _ Y=>?_;refine jM Y rfl (fun X a=>nU r A c _ ((Z.grow a).rd0 hr) u hx) fun _ Y=>?_;refine GO 2 ?_;intro _ Y;refine gp Y rfl (fun X a=>aH _ _ _) fun _ Y=>?_;refine GO 3 ?_;intro _ Y;refine gp Y rfl (fun X a=>aH _ _ _) fun _ Y=>?_;refine qv Y (fun X a=>fx 7 7 (Y.ev rfl)) fun _ Y=>?_;refine GO 4 ?_;intro _ Y;refine aV fun _ Zi Zn=>?_;have Z:=Z.grow Zi;refine cU Y rfl (aH _ _ _) fun _ Y=>?_;refine bV Y (wn rfl) (f:=fun b=>.slice (some ⟨b,0,none⟩) 4 4) (bb cT aa aa (Y.evs2 rfl) rfl rfl rfl au au) rfl rfl Z fun Vb _ _ Zo Y Z=>cU Y rfl (jZ (Z.at_ (i:=0) rfl)) fun _ Y=>?_;refine GO 10 ?_;intro _ Y;refine ak (Y.ev rfl) (fun d=>?_) (fun d=>?_)
  ·
   rw[tx] at d
   have G:¬((bJ r).2=0∧eN r s=0):=fun ⟨j,n⟩=>by
    rw[if_neg (ar j)] at d;unfold eN at n;simp only[bne_iff_ne,ne_eq] at d
    split at n
    · cases n
    · rename_i H
      rw[if_neg H] at d
      split at n
      · cases n
      · rename_i a2
        rw[if_neg a2] at d
        split at n
        · cases n
        · rename_i L
          rw[if_neg L] at d;exact d rfl
   have Q:(if (bJ r).2=0 then eN r s else (bJ r).2)=aw [(bJ r).2,bF (!decide (s=⟨#[]⟩)) 17,bF (decide ((s.size:Int)≤3000)) 8,bF (decide ((r.rs.length:Int)<100)) 8]:=by
    rw[tx];by_cases j:(bJ r).2=0
    · rw[if_pos j,if_neg (ar j)]
      rw[if_neg (ar j)] at d;unfold eN
      split
      · rfl
      · rename_i H
        rw[if_neg H] at d
        split
        · rfl
        · rename_i a2
          rw[if_neg a2] at d
          split
          · rfl
          · rename_i L
            rw[if_neg L] at d;simp at d
    · rw[if_neg j,if_pos j]
   have F:(if (bJ r).2=0 then fM r s else du)=du:=by
    split
    · rename_i j
      unfold fM;rw[if_neg (fun n=>G ⟨j,n⟩)]
    · rfl
   refine ai (an ?_);refine sv Y (ay (zs:=jG) (pl:=jF) aa aa (Y.evs2 rfl) rfl rfl) fun _ Y=>?_;refine GO 1 ?_;intro _ Y;refine sw Y Z 1 fun _ Z=>?_;refine GO 6 ?_;intro _ Y;refine k7 Y rfl rfl rfl rfl Z (i:=1) rfl aa aa ?_;refine⟨none,0,?_,?_,Z.below⟩
   · rw[F,if_neg G,Q];rfl
   · rw[F];exact World.ownsRow_nil _ _ _ _
  ·
   rw[tx] at d
   have g:(bJ r).2=0∧s.size≠0∧s.size≤3000∧r.rs.length<100:=by
    simp only[bne_eq_false_iff_eq] at d
    split at d
    · omega
    split at d
    · omega
    split at d
    · omega
    split at d<;>omega
   have S:=ok_iff.1 g.1;have Jz:=S.h.nx;have ho:=S.o1;have Va:=S.h.pg;have Jy:=gQ g.2.2.1;have o:Bfr ⟨r.nx+1,r.r.s,s⟩:=⟨by show 1≤r.nx+1;omega,by show r.nx+1≤500000000;omega,g.2.2.1⟩
   have e1:r.rs.length+1=(r.rs ++ [(⟨r.nx+1,r.r.s,s⟩:RecP)]).length:=by simp
   have e2:dG ⟨r.nx+1,r.r.s,s⟩=r.nx+kb s.size:=by show r.nx+1-1+kb s.size=_;omega
   refine wp_skip (aj (ai (an ?_)));refine vf Y 8 8 fun _ Y=>?_;refine GO 3 ?_;intro _ Y;refine vf Y 0 1 fun _ Y=>?_;refine GO 2 ?_;intro _ Y;refine sv (v:=ik ⟨r.nx+1,r.r.s,s⟩) Y (ay (zs:=kQ) (pl:=fE) aa aa (Y.evs2 rfl) rfl rfl) fun _ Y=>?_;refine na (.agg ia) Y rfl Z fun b8 _ _ Zt Y Z=>sw Y Z 0 fun _ Z=>?_;refine mM ?_;refine sv (v:=a7 r A c) Y (ag aa aa (Y.ev rfl) (Z.cellsAll (i:=3) rfl)) fun _ Y=>?_;refine na (.agg ef) Y rfl Z fun b9 _ _ Zu Y Z=>sw Y Z 0 fun M B=>?_;refine ah (aj (ai ?_));apply iS (m:=5) Y (fun b=>M.heap.size≤b) (max r.rs.length 1*3) [false,false,true,false,true,true,false,false,false] _ aa
   case h=>
    refine qv Y (fun X a=>fx 7 7 (Y.ev rfl)) fun _ Y=>?_;refine qv Y (fun X a=>lx (Y.ev rfl) ((B.grow (kf a)).cell (i:=4) rfl rfl)) fun _ Y=>?_;refine qv (v:=ik ⟨r.nx+1,r.r.s,s⟩) Y (fun X a=>ag aa aa (Y.ev rfl) ((B.grow (kf a)).cellsAll (i:=1) rfl)) fun _ Y=>?_;refine qv (v:=ik ⟨r.nx+1,r.r.s,s⟩) Y (fun X a=>ag aa aa (Y.ev rfl) ((B.grow (kf a)).cellsAll (i:=1) rfl)) fun _ Y=>?_;refine jM Y rfl (fun X a=>js ⟨r.nx+1,r.r.s,s⟩ _ o.1 (by have:=o.2.1;omega) (by have:=o.2.2;omega)) fun _ Y=>?_;refine qv Y (fun X a=>fx 7 7 (Y.ev rfl)) fun _ Y=>?_;refine ax ?_;apply yG (O:=fun b=>M.heap.size≤b) (K:=max r.rs.length 1*3) (k:=2) (deps:=[]) (R:=OwnC _ _ _ _ _) Y rfl rfl rfl OwnC.stable (hx:=fun X a E=>yf (az bc (Y.evs rfl) rfl) (lV r.rs A c _ ((B.grow (kf a)).rd0 hr) u) a.size)
    case hst2=>exact(OwnC.kpK ab)
    intro Vc _ Y;apply yG (O:=fun b=>M.heap.size≤b) (K:=max r.rs.length 1*3) (k:=4) (deps:=[]) (R:=NewB _ (fun b=>.slice (some ⟨b,0,none⟩) 1 1) _ _) Y rfl rfl rfl NewB.stable (hx:=fun X a E=>gK (dw (cs:=recC ⟨r.nx+1,r.r.s,s⟩) (zc:=kQ) (sz:=3) rfl cv aa aa rfl rfl rfl (Y.evs2 rfl) rfl rfl rfl) a.size)
    case hst2=>exact(NewB.kpK (by show 3≤_;omega))
    intro Jx _ Y;apply Gh (O:=fun b=>M.heap.size≤b) (K:=max r.rs.length 1*3) (k:=5) (deps:=[2,4]) (R:=OwnB _ _ _ _ _) Y rfl rfl rfl OwnB.stable (fun X a E=>Gn (z:=.agg ia) (sz:=3) (bytes:=32) rfl cv aa rfl rfl (Y.ev rfl) (Y.ev rfl) (aN (k:=2) E rfl rfl) (NewB.rd (aN (k:=4) E rfl rfl)) rfl (List.all_eq_true.1 rfl) ⟨ab,by decide⟩ a.size ab);intro Jv _ Y;refine nh fun _ I T=>?_;replace I:=kf I;have Z:=B.grow I;have Zp:=aF T (k:=2) rfl;have Zq:=aF T (k:=4) rfl;have J:=aF T (k:=5) rfl;obtain⟨t,p,rfl,J⟩:=J;have Z:=B.add I (e:=.row _ _ _ _ _) (a6 J (Nat.zero_le _)) (fun b hb=>J.lt b hb);refine aM Y (wn rfl) ⟨rfl,rfl⟩ (Y.ev rfl) (Y.ev rfl) rfl aa Z (i:=1) rfl rfl rfl fun _ Z=>?_;refine vf Y 8 8 fun _ Y=>?_;refine aM Y (wn rfl) ⟨rfl,rfl⟩ (Y.ev rfl) (Y.ev rfl) rfl aa Z (i:=1) rfl rfl rfl fun _ Z=>?_;rw[e1] at Y Z;rw[e2] at Y Z;refine ah (aj (ai (ai (an ?_))));refine sv (v:=a7 (dL r s) t p) Y (ag aa aa (Y.ev rfl) (Z.cellsAll (i:=1) rfl)) fun _ Y=>?_;refine cN Y rfl Z (sG (dL r s) t p _ (by have q:=Z.rdOf (i:=0) rfl;exact(by unfold dL;rw[eo];exact q)) (fun y W=>by(have:y=⟨r.nx+1,r.r.s,s⟩:=by unfold dL at W;simpa using W.symm);rw[this];exact o) (.inr ho) (by unfold dL;simp;omega)) fun _ _ Y Z=>?_;refine GO 15 ?_;intro _ Y;apply bI Y Z 61 rfl 4 65
    case hf=>
     intro Zj;refine sy Y (fx 8 8 (Y.ev rfl)) fun _ Y=>?_;refine GO 3 ?_;intro _ Y;exact ah ⟨Y.midE 3,Z⟩
    case ht=>
     intro Zj;refine GO 4 ?_;intro _ Y;exact ah ⟨Y.midE 3,Z⟩
    case h=>
     rintro Jw Zv ⟨C,D⟩
     refine ah (aj ?_);refine ak (C.ev rfl) (fun P=>?_) (fun P=>?_)
     ·
      have hf:eN r s=16:=by
       unfold eN;rw[if_neg g.2.1,if_neg ab,if_neg ab];exact if_pos (show r.pg-2<(cL (dL r s)).2∨100000000<r.nx+kb s.size by simpa [Bool.or_eq_true] using P)
      refine ai (an ?_);refine sv C (ay (zs:=jG) (pl:=jF) aa aa (C.evs2 rfl) rfl rfl) fun _ Y=>?_;refine sw Y D 4 fun _ Z=>?_;refine GO 6 ?_;intro _ Y;refine k7 Y rfl rfl rfl rfl Z (i:=4) rfl aa aa ?_;refine⟨none,0,?_,?_,Z.below⟩
      · rw[if_pos g.1,if_pos g.1,if_neg (by rw[hf];simp),hf];unfold fM;rw[if_neg (by rw[hf];decide)];rfl
      · rw[if_pos g.1];unfold fM;rw[if_neg (by rw[hf];decide)];exact World.ownsRow_nil _ _ _ _
     ·
      have hf:eN r s=0:=by
       unfold eN;rw[if_neg g.2.1,if_neg ab,if_neg ab];exact if_neg (show ¬(r.pg-2<(cL (dL r s)).2∨100000000<r.nx+kb s.size) by simpa [Bool.or_eq_false_iff,not_or] using P)
      refine wp_skip (aj (ai ?_));apply iS (m:=3) C (St.domAt D (i:=4) rfl) 0 [false,false,false,true] _ aa
      case h=>
       refine qv (v:=a7 (dL r s) t p) C (fun X a=>ag aa aa (C.ev rfl) ((D.growO (i:=4) rfl a).cellsAll (i:=1) rfl)) fun _ Y=>?_;refine GO 1 ?_;intro _ Y;refine qv Y (fun X a=>lx (Y.ev rfl) ((D.growO (i:=4) rfl a).cell (i:=2) rfl rfl)) fun _ Y=>?_;refine ax ?_;apply jY (k:=3) (deps:=[]) (R:=IsBox _ _ _) Y rfl rfl IsBox.stable (fun X a E=>nn rfl (Y.ev rfl) (Y.ev rfl) rfl aa ((D.grow a).at_ (i:=4) rfl) rfl rfl);intro U;refine nh fun _ Zl Zm=>?_;have Z:=D.growBox (i:=4) (v:=U) rfl Zl (aF Zm (k:=3) rfl);refine GO 5 ?_;intro _ Y;refine k7 Y rfl rfl rfl rfl Z (i:=4) rfl aa aa ?_
       have e3:fM r s=dL r s:=by unfold fM;rw[if_pos hf]
       refine⟨t,p,?_,?_,Z.below⟩
       · rw[if_pos g.1,if_pos g.1,if_pos ⟨g.1,hf⟩,hf,e3];rfl
       · rw[if_pos g.1,e3]
         have q:=Z.ownB (i:=0) rfl;have e4:aJ (dL r s).rs=aJ r.rs ++ aJ [(⟨r.nx+1,r.r.s,s⟩:RecP)]:=eo _ _;rw[e4];exact q
      case hB=>kernel_rfl
      case hst=>rfl
   case hB=>kernel_rfl
   case hst=>rfl
 case hB=>kernel_rfl
 case hst=>rfl
theorem xf (r:RngP) (A:Option Addr) (c:Nat) (w:World) (hr:Rd w w.heap.size A (aJ r.rs)) (a:r.rs.length≤1000) (hx:∀x∈r.rs,I6 x.l) :
 Calls Tryz.prog 185 #[a7 r A c] w fun e y=>∃s u,e=.returned (.tuple #[a7 (if (bJ r).2=0 then ig r else du) s u,ae (if (bJ r).2=0 then jf r else (bJ r).2)])∧y.ownsRow w.heap.size 177 3 (.slice s (if (bJ r).2=0 then ig r else du).rs.length u) (if (bJ r).2=0 then ig r else du).rs.length (aJ (if (bJ r).2=0 then ig r else du).rs)∧Below w.heap.size w y:=by
 refine aq (N:=24) Tryz.func185 rfl rfl rfl (fun _ Y=>?_);have Z:=St.init w;refine ai (an ?_);refine nb Y rfl rfl Z fun b1 _ _ H Y Z=>na (.agg ef) Y rfl Z fun G _ _ I Y Z=>GO 6 ?_;intro _ Y;refine sv Y (ag aa aa (Y.ev rfl) (Z.cellsAll (i:=1) rfl)) fun _ Y=>?_;refine cN Y rfl Z (nU r A c _ (Z.rd0 hr) a hx) fun _ _ Y o=>?_;refine GO 9 ?_;intro _ Y;refine ak (Y.ev rfl) (fun p=>?_) (fun p=>?_)
 ·
  have f:¬(bJ r).2=0:=ar p;refine ai (an ?_);refine sv Y (ay (zs:=jG) (pl:=jF) aa aa (Y.evs2 rfl) rfl rfl) fun _ Y=>?_;refine GO 1 ?_;intro _ Y;refine sw Y o 0 fun _ Z=>?_;refine GO 5 ?_;intro _ Y;refine br Y rfl rfl rfl Z (i:=0) rfl aa aa ?_;refine⟨none,0,?_,?_,Z.below⟩
  · rw[if_neg f,if_neg f];rfl
  · rw[if_neg f];exact World.ownsRow_nil _ _ _ _
 ·
  have d:(bJ r).2=0:=ar p;have B:=ok_iff.1 d;have D:=B.h.nx;refine wp_skip (aj (ai ?_));apply aK Y [false,false,true,false,false,false,false] _ aa
  case h=>
   refine qv Y (fun X j=>fx 7 7 (Y.ev rfl)) fun _ Y=>?_;refine GO 1 ?_;intro _ Y;refine qv Y (fun X j=>fx 8 8 (Y.ev rfl)) fun _ Y=>?_;refine GO 1 ?_;intro _ Y;refine gp Y rfl (fun X j=>qw _ _ ab ab) fun _ Y=>?_;refine qv Y (fun X j=>fx 7 7 (Y.ev rfl)) fun _ Y=>?_;refine ax ?_;apply eF (k:=2) (deps:=[]) (R:=OwnC _ _ _ _ _) Y rfl rfl rfl OwnC.stable (fun X j F=>yf (az bc (Y.evs rfl) rfl) (lV r.rs A c _ ((o.grow j).rd0 hr) a) j.size);intro z _ Y;refine aV fun _ t E=>?_;have Z:=o.grow t;have g:=aF E (k:=2) rfl;replace g:=g.1;obtain⟨m,n,rfl,g⟩:=g;have Z:=o.add t (e:=.row _ _ _ _ _) (a6 g (Nat.zero_le _)) (fun b C=>g.lt b C);refine aM Y (wn rfl) ⟨rfl,rfl⟩ (Y.ev rfl) (Y.ev rfl) rfl aa Z (i:=2) rfl rfl rfl fun _ Z=>vf Y 8 8 fun _ Y=>?_;refine aM Y (wn rfl) ⟨rfl,rfl⟩ (Y.ev rfl) (Y.ev rfl) rfl aa Z (i:=2) rfl rfl rfl fun _ Z=>ah (aj (ai (ai (an ?_))));refine vf Y 8 8 fun _ Y=>?_;refine GO 4 ?_;intro _ Y;refine ak (Y.ev rfl) (fun q=>?_) (fun q=>?_)
   ·
    have hf:jf r=16:=by
     have Y:100000000<cp r.nx:=of_decide_eq_true q;unfold jf;rw[decide_eq_false ab];rfl
    refine ai (an ?_);refine sv Y (ay (zs:=jG) (pl:=jF) aa aa (Y.evs2 rfl) rfl rfl) fun _ Y=>?_;refine sw Y Z 1 fun _ Z=>?_;refine GO 5 ?_;intro _ Y;refine br Y rfl rfl rfl Z (i:=1) rfl aa aa ?_
    have e3:ig r=du:=by unfold ig;rw[if_neg (by rw[hf];decide)]
    refine⟨none,0,?_,?_,Z.below⟩
    · rw[if_pos d,if_pos d,hf,e3];rfl
    · rw[if_pos d,e3];exact World.ownsRow_nil _ _ _ _
   ·
    have hf:jf r=0:=by
     have Y:¬100000000<cp r.nx:=of_decide_eq_false q;unfold jf;rw[decide_eq_true ab];rfl
    refine wp_skip (aj (ai (an ?_)));refine sv (v:=a7 (rm r) m n) Y (ag aa aa (Y.ev rfl) (Z.cellsAll (i:=2) rfl)) fun _ Y=>?_;refine sw Y Z 1 fun _ Z=>?_;refine GO 4 ?_;intro _ Y;refine br Y rfl rfl rfl Z (i:=1) rfl aa aa ?_
    have e3:ig r=rm r:=by unfold ig;rw[if_pos hf]
    refine⟨m,n,?_,?_,Z.below⟩
    · rw[if_pos d,if_pos d,hf,e3];rfl
    · rw[if_pos d,e3];exact Z.ownB (i:=0) rfl
  case hB=>kernel_rfl
  case hst=>rfl
open Go.RowKit Go.Sort
theorem wF (l:List RecP) (k:Nat):(aJ l).take (k*3)=aJ (l.take k):=by
 induction l generalizing k with
 | nil=>simp[aJ]
 | cons x l ih=>
  cases k with
  | zero=>simp[aJ]
  | succ k=>
   have:(k+1)*3=3+k*3:=by omega
   rw[this,List.take_succ_cons];show(recC x ++ aJ l).take (3+k*3)=recC x ++ aJ (l.take k);rw[←ih k,List.take_append,show(recC x).length=3 from rfl,Nat.add_sub_cancel_left,List.take_of_length_le (by show 3≤_;omega)]
theorem xb (l:List RecP) (k:Nat):(aJ l).drop (k*3)=aJ (l.drop k):=by
 induction l generalizing k with
 | nil=>simp[aJ]
 | cons x l ih=>
  cases k with
  | zero=>simp
  | succ k=>
   have:(k+1)*3=3+k*3:=by omega
   rw[this,List.drop_succ_cons];show(recC x ++ aJ l).drop (3+k*3)=aJ (l.drop k);rw[←ih k,List.drop_append,show(recC x).length=3 from rfl,Nat.add_sub_cancel_left,List.drop_of_length_le (by show 3≤_;omega),List.nil_append]
def eZ (g:RecP→Bool) (l:List RecP) (m:Nat):List RecP:=(l.take m).filter fun x=>!g x
theorem me (g:RecP→Bool) (l:List RecP) (m:Nat) (h:m<l.length):eZ g l (m+1)=if g l[m] then eZ g l m else eZ g l m ++ [l[m]]:=by
 unfold eZ;rw[List.take_succ_eq_append_getElem h,List.filter_append]
 cases hg:g l[m]<;>simp[hg]
theorem BZ (g:RecP→Bool) (l:List RecP) (h:¬oD g l = -1):∃i,∃d:i<l.length,oD g l=(i:Nat)∧g l[i]=true∧eZ g l (i+1)=l.take i:=by
 unfold oD at h ⊢
 cases hf:l.findIdx? g with
 | none=>rw[hf] at h;exact absurd rfl h
 | some i=>
  rw[List.findIdx?_eq_some_iff_getElem] at hf;obtain⟨b,a,h3⟩:=hf;refine⟨i,b,rfl,a,?_⟩;rw[me g l i b,if_pos a];unfold eZ;rw[List.filter_eq_self];intro x hx;obtain⟨j,c,rfl⟩:=List.getElem_of_mem hx;rw[List.length_take] at c;rw[List.getElem_take,Bool.not_eq_true'];have:=h3 j ab
  simpa using this
theorem FB {X:World} {B b o m:Nat} {l:List RecP} {xs:List Value} (h:Rd X B (some ⟨b,o,none⟩) xs) (g:xs.drop (m*3)=aJ (l.drop m)) (hm:m<l.length):∀(j:Nat) (u:Value),[Value.int .i64 l[m].l,ae l[m].s,.string l[m].b][j]? = some u→X.cell? ⟨b,o+m*3+j,none⟩=some u:=fun j u a=>by
 have d:j<3:=(List.getElem?_eq_some_iff.1 a).1
 have f:xs[m*3+j]? = some u:=by
  rw[←List.getElem?_drop,g,List.drop_eq_getElem_cons hm];show(recC l[m] ++ aJ (l.drop (m+1)))[j]? = some u;rw[List.getElem?_append_left (by exact d)];exact a
 obtain⟨i,o',e,_,c⟩:=h (m*3+j) u f;injection e with e;injection e with e1 e2;subst e1 e2;rw[Nat.add_assoc];exact c
theorem BB (g:RecP→Bool) (l:List RecP) (m:Nat) (xs:List Value) (hm:m<l.length) (h:xs.length=l.length*3) (ht:xs.take ((eZ g l m).length*3)=aJ (eZ g l m)) (c:xs.drop (m*3)=aJ (l.drop m)) (d:g l[m]=false) (f:(eZ g l m).length≤m) :
 (xs.take (0+(eZ g l m).length*3) ++ recC l[m] ++ xs.drop (0+(eZ g l m).length*3+3)).length=l.length*3 ∧
 (xs.take (0+(eZ g l m).length*3) ++ recC l[m] ++ xs.drop (0+(eZ g l m).length*3+3)).take ((eZ g l (m+1)).length*3)=aJ (eZ g l (m+1)) ∧
 (xs.take (0+(eZ g l m).length*3) ++ recC l[m] ++ xs.drop (0+(eZ g l m).length*3+3)).drop ((m+1)*3)=aJ (l.drop (m+1)):=by
 have e:eZ g l (m+1)=eZ g l m ++ [l[m]]:=by rw[me g l m hm,d];rfl
 have b:(recC l[m]).length=3:=rfl
 have a:(xs.take ((eZ g l m).length*3)).length=(eZ g l m).length*3:=by rw[List.length_take];omega
 rw[Nat.zero_add];refine⟨?_,?_,?_⟩
 · simp only[List.length_append,List.length_drop,a,b];omega
 · rw[e,List.length_append,eo,←ht]
   have:((eZ g l m).length+[l[m]].length)*3=(xs.take ((eZ g l m).length*3) ++ recC l[m]).length:=by
    rw[List.length_append,a,b];show((eZ g l m).length+1)*3=_;omega
   rw[this,List.take_left]
   congr 1
 · have e2:(m+1)*3=(xs.take ((eZ g l m).length*3) ++ recC l[m]).length+((m+1)*3-((eZ g l m).length*3+3)):=by
    rw[List.length_append,a,b];omega
   rw[e2,←List.drop_drop,List.drop_left,List.drop_drop]
   have e3:(eZ g l m).length*3+3+((m+1)*3-((eZ g l m).length*3+3))=m*3+3:=by omega
   rw[e3,←List.drop_drop,c,List.drop_eq_getElem_cons hm];show(recC l[m] ++ aJ (l.drop (m+1))).drop 3=_;rw[show(3:Nat)=(recC l[m]).length from rfl,List.drop_left]
theorem AB {l:List RecP} {m:Nat} {xs:List Value} (a:xs.drop (m*3)=aJ (l.drop m)) (hm:m<l.length):xs.drop ((m+1)*3)=aJ (l.drop (m+1)):=by
 have e3:(m+1)*3=m*3+3:=by omega
 rw[e3,←List.drop_drop,a,List.drop_eq_getElem_cons hm];show(recC l[m] ++ aJ (l.drop (m+1))).drop 3=_;rw[show(3:Nat)=(recC l[m]).length from rfl,List.drop_left]
theorem BG (g:RecP→Bool) (l:List RecP) (h:oD g l = -1):l.filter (fun x=>!g x)=l:=by
 unfold oD at h
 cases hf:l.findIdx? g with
 | some i=>rw[hf] at h;simp at h
 | none=>
  rw[List.findIdx?_eq_none_iff] at hf;rw[List.filter_eq_self];intro x hx;rw[hf x hx];rfl
theorem rn (g:RecP→Bool) (l:List RecP) (A:Option Addr) (c B:Nat) (f:FuncId) (d:List Value) (w:World) (K:w.ownsRow B 177 3 (.slice A l.length c) l.length (aJ l)) (k:l.length≤1000) (s:∀(vs:Array Value) (W:World),(callFunc f vs).run Tryz.prog W=.ok (.enter f vs) W)
 (n:∀X L,St (Value.slice A l.length c).ownBlock.toList w X L→∀x∈l,Calls Tryz.prog f ([ik x] ++ d).toArray X fun e X'=>e=.returned (.bool (g x))∧Below X.heap.size X X') :
 Calls Tryz.prog 186 #[.slice A l.length c,.func (.func f) #[] d.toArray] w fun e P=>∃xs',e=.returned (.slice A (l.filter fun x=>!g x).length c)∧xs'.take ((l.filter fun x=>!g x).length*3)=aJ (l.filter fun x=>!g x) ∧
  St (Value.slice A l.length c).ownBlock.toList w P [.row (.slice A l.length c) l.length 177 3 xs']:=by
 refine aq (N:=42) Tryz.func186 rfl rfl rfl (fun _ Y=>?_);have Z:=St.initO K;refine GO 9 ?_;intro _ Y;refine cN Y rfl Z (iL g l A c f d _ (Z.rdOf (i:=0) rfl) k s (fun X U x hx=>n X _ (Z.grow U) x hx)) fun _ _ Y Z=>?_;refine GO 10 ?_;intro _ Y;refine ak (Y.ev rfl) (fun F=>?_) (fun F=>?_)
 ·
  have M:=BG g l (ar F);refine GO 8 ?_;intro _ Y;refine aI Y rfl rfl ?_;exact⟨aJ l,by rw[M],by rw[M,List.take_of_length_le (by rw[bw];omega)],Z⟩
 ·
  obtain⟨b,u,E,R,m⟩:=BZ g l (ar F);rw[E] at Y;have p:=K.2;rcases p with ⟨e0,H⟩ | ⟨g0,cap0,cur0,e1,_,_,hnc,_⟩
  · exact absurd H ab
  injection e1 with e1 e2 e3;subst e1 e3
  have G:(eZ g l (b+1)).length=b:=by rw[m,List.length_take];omega
  have j:eZ g l l.length=l.filter fun x=>!g x:=by unfold eZ;rw[List.take_length]
  refine GO 8 ?_;intro _ Y
  have O:ae (b:Int)=ae (((eZ g l (b+1)).length:Nat):Int):=by rw[G]
  rw[O] at Y;refine ah (aj (wp_block ?_));refine aY Y Z [4,0,1] (fun (q:Nat × List Value)=>[(6,ae (q.1:Nat)),(5,ae ((eZ g l q.1).length:Nat))]) (fun (q:Nat × List Value)=>(eZ g l q.1).length<q.1∧q.1≤l.length∧q.2.length=l.length*3∧q.2.take ((eZ g l q.1).length*3)=aJ (eZ g l q.1)∧q.2.drop (q.1*3)=aJ (l.drop q.1)) (fun q L=>L.set 0 (.row (.slice (some ⟨g0,0,none⟩) l.length c) l.length 177 3 q.2)) (fun (q:Nat × List Value)=>l.length-q.1) ((b+1,aJ l)) (⟨by show(eZ g l (b+1)).length<b+1;omega,u,bw l,by show(aJ l).take ((eZ g l (b+1)).length*3)=aJ (eZ g l (b+1));rw[m,List.length_take,Nat.min_eq_left ab,wF],xb l _⟩) bN (Z) ?_;intro q _ _ Q Y Z;obtain⟨Zh,Zi,J,z,D⟩:=Q;refine GO 9 ?_;intro _ Y;refine ak (Y.ev rfl) (fun C=>?_) (fun C=>?_)
  ·
   have a:q.1<l.length:=by have:=of_decide_eq_true C;omega
   refine GO 8 ?_;intro _ Y;refine sv Y (av (i:=q.1) (sz:=3) cv aa (Y.ev rfl) (Y.ev rfl) ab ab rfl) fun _ Y=>?_;refine sv (v:=ik l[q.1]) Y (ag aa aa (Y.ev rfl) (FB (Z.rdOf (i:=0) rfl) D a)) fun _ Y=>?_;refine na (.agg ia) Y rfl Z fun b7 _ _ Zj Y Z=>sw Y Z 0 fun _ Z=>?_;refine GO 5 ?_;intro _ Y;refine sv (v:=ik l[q.1]) Y (ag aa aa (Y.ev rfl) (Z.cellsAll (i:=0) rfl)) fun _ Y=>?_;refine dk Y (wn rfl) (cQ s (Y.ev rfl) (Y.evs rfl) rfl) rfl rfl Z (n _ _ Z l[q.1] (List.getElem_mem _)) fun _ _ Y Z=>GO 3 ?_;intro _ Y;refine ak (Y.ev rfl) (fun y=>?_) (fun y=>?_)
   ·
    have t:g l[q.1]=false:=ar y;have hst:=BB g l q.1 q.2 a J z D t ab
    have S:(eZ g l (q.1+1)).length=(eZ g l q.1).length+1:=by rw[me g l q.1 a,t];simp
    have r:((eZ g l q.1).length:Int)+1=(((eZ g l (q.1+1)).length:Nat):Int):=by rw[S];rfl
    refine GO 4 ?_;intro _ Y;refine sv (v:=ik l[q.1]) Y (ag aa aa (Y.ev rfl) (Z.cellsAll (i:=0) rfl)) fun _ Y=>?_;refine sv Y (av (i:=(eZ g l q.1).length) (sz:=3) cv aa (Y.ev rfl) (Y.ev rfl) ab ab rfl) fun _ Y=>?_;refine mY Y (wn rfl) ⟨rfl,rfl⟩ (Y.ev rfl) (Y.ev rfl) rfl aa Z (i:=1) rfl rfl (by show 0+(eZ g l q.1).length*3+3≤l.length*3;omega) fun _ Z=>GO 6 ?_;intro _ Y;rw[r] at Y;refine GO 9 ?_;intro _ Y;exact⟨(q.1+1,q.2.take (0+(eZ g l q.1).length*3) ++ recC l[q.1] ++ q.2.drop (0+(eZ g l q.1).length*3+3)),by show l.length-(q.1+1)<l.length-q.1;omega,⟨by show(eZ g l (q.1+1)).length<q.1+1;omega,a,hst⟩,Y.re bN,Z.sub (aL 2)⟩
   ·
    have t:g l[q.1]=true:=ar y
    have r:eZ g l (q.1+1)=eZ g l q.1:=by rw[me g l q.1 a,t];rfl
    have e7:((eZ g l q.1).length:Int)=(((eZ g l (q.1+1)).length:Nat):Int):=by rw[r]
    rw[e7] at Y;refine GO 9 ?_;intro _ Y;exact⟨(q.1+1,q.2),by show l.length-(q.1+1)<l.length-q.1;omega,⟨by show(eZ g l (q.1+1)).length<q.1+1;rw[r];omega,a,J,by show q.2.take ((eZ g l (q.1+1)).length*3)=aJ (eZ g l (q.1+1));rw[r];exact z,by show q.2.drop ((q.1+1)*3)=aJ (l.drop (q.1+1));exact AB D a⟩,Y.re bN,Z.sub (aL 2)⟩
  ·
   have T:l.length≤q.1:=by have:=of_decide_eq_false C;omega
   have V:q.1=l.length:=by omega
   have o:eZ g l q.1=l.filter fun x=>!g x:=by rw[V,j]
   have I:(eZ g l q.1).length<c:=by omega
   refine GO 9 ?_;intro _ Y;refine sv Y (ga (l:=(eZ g l q.1).length) (h:=l.length) (sz:=3) cv aa (Y.ev rfl) (Y.ev rfl) rfl ab hnc (.inl ab) rfl) fun _ Y=>?_;refine zt (zc:=kQ) Y (wn rfl) ⟨rfl,rfl⟩ cv aa rfl rfl (Y.ev rfl) Z (i:=0) rfl (by show 0+(eZ g l q.1).length*3+(l.length-(eZ g l q.1).length)*3≤l.length*3;omega) fun _ Z=>GO 6 ?_;intro _ Y;refine sv Y (ga (l:=0) (h:=(eZ g l q.1).length) (sz:=3) cv aa (Y.ev rfl) rfl (Y.ev rfl) (Nat.zero_le _) ab (.inr rfl) rfl) fun _ Y=>?_;refine GO 4 ?_;intro _ Y;refine aI Y rfl rfl ?_;refine⟨_,by rw[←o];rfl,?_,Z⟩;rw[←o,←z,Nat.zero_add,List.append_assoc,List.take_append_of_le_length (by rw[List.length_take];omega),List.take_take,Nat.min_self]
theorem Eb (x:RecP) (o:Int) (b:Nat) (T:TypeId) (w:World) (a:Box w b #[ae o] T) :
 bz 187 #[ik x,.pointer (some ⟨b,0,none⟩)] w (.bool (decide (x.l<o))):=by
 refine aq (N:=8) Tryz.func187 rfl rfl rfl (fun _ Y=>?_);have Z:=St.init w;refine ai (an ?_);refine nb Y rfl rfl Z fun d _ _ c Y Z=>GO 7 ?_;intro _ Y;refine sv Y (lx (Y.ev rfl) (qn (a.below Z.below) rfl)) fun _ Y=>?_;refine GO 5 ?_;intro _ Y;refine aI Y rfl rfl ?_;exact⟨rfl,Z.below⟩
theorem St.other {M:List Nat} {w X X':World} {L s:List Ent} {i j b n sz:Nat} {cs:Array Value} {T r:TypeId} {v:Value} {xs:List Value} (h:St M w X L) (l:L[i]? = some (.box b cs T)) (p:L[j]? = some (.row v n r sz xs)) (k:i≠j) (q:St v.ownBlock.toList X X' s):Box X' b cs T:=by
 have m:Box X b cs T:=h.at_ l;refine(q.block b m.lt (fun hm=>?_)).trans m;have d:v.ownBlock=some b:=ar hm;obtain⟨c,e⟩:=List.getElem?_eq_some_iff.1 l;obtain⟨f,a⟩:=List.getElem?_eq_some_iff.1 p;have o:=List.pairwise_iff_getElem.1 h.sep;rcases Nat.lt_or_gt_of_ne k with g | g
 · exact o i j c f g b (by rw[e];rfl) (by rw[a];exact d)
 · exact o j i f c g b (by rw[a];exact d) (by rw[e];rfl)
def tR (r:RngP):RngP:=if (bJ r).2=0 then ig r else du
def og (r:RngP):Int:=if (bJ r).2=0 then jf r else (bJ r).2
theorem cloE_zero {r:RngP}:jf r=0↔cp r.nx≤100000000:=by
 unfold jf;rw[aD au];exact decide_eq_true_iff
theorem wG {r:RngP} (h:og r=0):OkP r∧tR r=rm r∧cp r.nx≤100000000:=by
 unfold og at h
 split at h
 · rename_i a
   refine⟨ok_iff.1 a,?_,cloE_zero.1 h⟩;unfold tR ig;rw[if_pos a,if_pos h]
 · rename_i a;exact absurd h a
theorem Dy {r:RngP} (h:og r≠0):tR r=du:=by
 unfold og at h;unfold tR
 split at h
 · rename_i a
   rw[if_pos a];unfold ig;rw[if_neg h]
 · rename_i a;rw[if_neg a]
theorem FZ (r:RngP) (a:r.rs.length≤1000):0≤(tR r).nx∧(tR r).nx≤100000000∧(tR r).rs.length≤1000:=by
 by_cases h:og r=0
 · obtain⟨c,b,h3⟩:=wG h
   rw[b];have:=c.h.nx;have:=gB (p:=r.nx);exact⟨by show 0≤cp r.nx;omega,h3,a⟩
 · rw[Dy h];exact⟨by decide,by decide,by decide⟩
theorem wH (r:RngP) (A:Option Addr) (c:Nat) (w:World) (hr:Rd w w.heap.size A (aJ r.rs)) (a:r.rs.length≤1000) (hx:∀x∈r.rs,I6 x.l) :
 Calls Tryz.prog 185 #[a7 r A c] w fun e f=>∃b d,e=.returned (.tuple #[a7 (tR r) b d,ae (og r)])∧f.ownsRow w.heap.size 177 3 (.slice b (tR r).rs.length d) (tR r).rs.length (aJ (tR r).rs)∧Below w.heap.size w f:=xf r A c w hr a hx
theorem E8 {r:RngP} (h:OkP r) (n:Int):(decide (n≥0)&&ec r.rs n)=ec r.rs n:=by
 cases hh:ec r.rs n with
 | false=>simp
 | true=>
  unfold ec at hh;obtain⟨x,hx,a⟩:=List.any_eq_true.1 hh;obtain⟨k,b,rfl⟩:=List.getElem_of_mem hx;have:=(h.rcd k b).1;have h3:r.rs[k].l=n:=ar a;rw[decide_eq_true ab];rfl
def j5 (r:RngP) (c o:Int):Int:=aw [og r,bF (o==(tR r).nx+1||(decide (o≥0)&&ec (tR r).rs o)) 6,bF (c==0||(decide (c≥o)&&ec (tR r).rs c)) 6,bF (decide ((tR r).r.s<60000)) 2]
theorem D5 (r:RngP) (c o:Int):j5 r c o=if (bJ r).2=0 then iQ r c o else (bJ r).2:=by
 by_cases h:og r=0
 · obtain⟨a,d,h3⟩:=wG h
   have b:(bJ r).2=0:=ok_iff.2 a;rw[if_pos b];unfold j5 iQ;rw[d];show aw [og r,bF (o==cp r.nx+1||(decide (o≥0)&&ec r.rs o)) 6,bF (c==0||(decide (c≥o)&&ec r.rs c)) 6,bF (decide (r.r.s<60000)) 2]=_;rw[E8 a,h,cloE_zero.2 h3]
 · have e:j5 r c o=og r:=by unfold j5;simp[aw,h]
   rw[e];unfold og at h ⊢
   split
   · rename_i a
     rw[if_pos a] at h;unfold iQ;simp[aw,h]
   · rfl
theorem qW (r:RngP) (A:Option Addr) (c:Nat) (d a:Int) (w:World) (hr:Rd w w.heap.size A (aJ r.rs)) (o:r.rs.length≤1000) (hx:∀x∈r.rs,I6 x.l) :
 Calls Tryz.prog 117 #[a7 r A c,ae d,ae a] w fun e I=>∃E M,e=.returned (.tuple #[a7 (if j5 r d a=0 then gh r d a else du) E M,ae (j5 r d a)])∧I.ownsRow w.heap.size 177 3 (.slice E (if j5 r d a=0 then gh r d a else du).rs.length M) (if j5 r d a=0 then gh r d a else du).rs.length (aJ (if j5 r d a=0 then gh r d a else du).rs)∧Below w.heap.size w I:=by
 obtain⟨hb1,W,u⟩:=FZ r o;refine aq (N:=65) Tryz.func117 rfl rfl rfl (fun _ Y=>?_);have Z:=St.init w;refine ai (an ?_);refine nb Y rfl rfl Z fun b3 P _ Zh Y Z=>nb Y rfl rfl Z fun F a2 _ Zi Y Z=>na (.agg ef) Y rfl Z fun b6 T _ Zj Y Z=>GO 5 ?_;intro _ Y;refine sv Y (ag aa aa (Y.ev rfl) (Z.cellsAll (i:=2) rfl)) fun _ Y=>?_;refine jg Y (wn rfl) (az bc (Y.evs rfl) rfl) rfl rfl Z (wH r A c _ (Z.rd0 hr) o hx) (Nat.le_refl _) fun p n _ _ Y Z=>GO 3 ?_;intro _ Y;refine sw Y Z 3 fun _ Z=>?_;refine GO 4 ?_;intro _ Y;apply aK Y (fA 28) _ aa
 case h=>
  refine GO 2 ?_;intro _ Y;refine qv Y (fun X m=>fx 8 8 (Y.ev rfl)) fun _ Y=>?_;refine GO 4 ?_;intro _ Y;apply fF Y 20 rfl 5 25
  case hf=>
   intro K;refine qy Y (fun X m=>(fx 7 7 (Y.ev rfl))) fun _ Y=>?_;refine GO 2 ?_;intro _ Y;refine k9 Y (ao Y _ rfl rfl rfl K) rfl rfl (fun X=>(az bc (Y.evs rfl) rfl)) (fun X m=>tI (tR r).rs p n a 0 _ ((Z.grow m).rdOf (i:=0) rfl) u) fun _ Y=>GO 1 ?_;intro _ Y;exact ax (Y.midE 4)
  case ht=>
   intro K;refine GO 5 ?_;intro _ Y;exact ax (Y.midE 4)
  case h=>
   intro _ Y;refine gp Y rfl (fun X m=>aH _ _ _) fun _ Y=>?_;refine GO 3 ?_;intro _ Y;apply fF Y 29 rfl 6 35
   case hf=>
    intro G;refine qy Y (fun X m=>(fx 7 7 (Y.ev rfl))) fun _ Y=>?_;refine GO 3 ?_;intro _ Y;refine k9 Y (ao Y _ rfl rfl rfl G) rfl rfl (fun X=>(az bc (Y.evs rfl) rfl)) (fun X m=>tI (tR r).rs p n d a _ ((Z.grow m).rdOf (i:=0) rfl) u) fun _ Y=>GO 1 ?_;intro _ Y;exact ax (Y.midE 5)
   case ht=>
    intro G;refine GO 6 ?_;intro _ Y;exact ax (Y.midE 5)
   case h=>
    intro _ Y;refine gp Y rfl (fun X m=>aH _ _ _) fun _ Y=>?_;refine GO 1 ?_;intro _ Y;refine qv Y (fun X m=>fx 0 1 (Y.ev rfl)) fun _ Y=>?_;refine GO 2 ?_;intro _ Y;refine gp Y rfl (fun X m=>aH _ _ _) fun _ Y=>?_;refine ax ?_;refine aV fun _ S Zf=>?_;have Z:=Z.grow S;refine bV Y (wn rfl) (f:=fun b=>.slice (some ⟨b,0,none⟩) 4 4) (bb cT aa aa (Y.evs2 rfl) rfl rfl rfl au au) rfl rfl Z fun V _ _ Zg Y Z=>cU Y rfl (jZ (Z.at_ (i:=0) rfl)) fun _ Y=>?_;refine GO 10 ?_;intro _ Y;refine ak (Y.ev rfl) (fun B=>?_) (fun B=>?_)
    ·
     have y:¬j5 r d a=0:=by unfold j5;simpa using B
     refine ai (an ?_);refine sv Y (ay (zs:=jG) (pl:=jF) aa aa (Y.evs2 rfl) rfl rfl) fun _ Y=>?_;refine GO 1 ?_;intro _ Y;refine sw Y Z 2 fun _ Z=>?_;refine GO 5 ?_;intro _ Y;refine br Y rfl rfl rfl Z (i:=2) rfl aa aa ?_;refine⟨none,0,?_,?_,Z.below⟩
     · rw[if_neg y];rfl
     · rw[if_neg y];exact World.ownsRow_nil _ _ _ _
    ·
     have z:j5 r d a=0:=by unfold j5;simpa using B
     have t:=z;unfold j5 at t;rw[aS] at t;obtain⟨hk,D,R⟩:=wG (t (og r) (.head _));have O:=of_decide_eq_true ((aD au).1 (t (bF (decide ((tR r).r.s<60000)) 2) (.tail _ (.tail _ (.tail _ (.head _))))));rw[D] at Y Z O;have U:(rm r).r.s=r.r.s:=rfl
     have C:(r.rs.filter fun x=>!decide (x.l<a))=r.rs.filter fun x=>decide (a≤x.l):=by
      congr 1;funext x;rw[←decide_not];exact decide_eq_decide.2 ab
     refine GO 5 ?_;intro _ Y;refine sv (v:=oC r.r) Y (ag aa aa (Y.ev rfl) (Z.cellsOf (i:=4) rfl 1 3)) fun _ Y=>?_;refine vf Y 4 4 fun _ Y=>?_;refine aM Y (wn rfl) ⟨rfl,rfl⟩ (Y.ev rfl) (Y.ev rfl) rfl aa Z (i:=4) rfl rfl rfl fun _ Z=>GO 5 ?_;intro _ Y;refine vf Y 0 1 fun _ Y=>?_;refine GO 1 ?_;intro _ Y;refine sv Y (cy (Y.ev rfl) (Y.ev rfl) (by have:=hk.h.rr.1;show -9223372036854775808≤r.r.s+1∧r.r.s+1<9223372036854775808;omega)) fun _ Y=>?_;refine GO 2 ?_;intro _ Y;refine sv (v:=oC ⟨r.r.s+1,d,a⟩) Y (ay (zs:=jV) (pl:=fE) aa aa (Y.evs2 rfl) rfl rfl) fun _ Y=>?_;refine GO 1 ?_;intro _ Y;refine aM Y (wn rfl) ⟨rfl,rfl⟩ (Y.ev rfl) (Y.ev rfl) rfl aa Z (i:=4) rfl rfl rfl fun _ Z=>mM ?_;refine vf Y 7 7 fun _ Y=>?_;refine GO 1 ?_;intro _ Y;refine sv Y (fo (Y.evs rfl) (Y.evs rfl)) fun _ Y=>?_;refine gD Y (wn rfl) (az bc (Y.evs rfl) rfl) rfl rfl Z (i:=1) rfl oQ (rn (fun x=>decide (x.l<a)) r.rs p n 0 187 [.pointer (some ⟨F,0,none⟩)] _ (Z.at_ (i:=1) rfl) o bc (fun X L m x _=>Eb x a F _ X (Z.other (i:=3) (j:=1) rfl rfl au m))) fun Q _ _ Y H Z=>?_;rw[C] at Y H;refine vf Y 7 7 fun _ Y=>?_;refine aM Y (wn rfl) ⟨rfl,rfl⟩ (Y.ev rfl) (Y.ev rfl) rfl aa Z (i:=4) rfl rfl rfl fun _ Z=>mM ?_;refine sv (v:=a7 (gh r d a) p n) Y (ag aa aa (Y.ev rfl) (Z.cellsAll (i:=4) rfl)) fun _ Y=>?_;refine sw Y Z 2 fun _ Z=>?_;refine GO 4 ?_;intro _ Y;refine br Y rfl rfl rfl Z (i:=2) rfl aa aa ?_;refine⟨p,n,?_,?_,Z.below⟩
     · rw[if_pos z,z];rfl
     · rw[if_pos z]
       have q:=Z.ownB (i:=1) rfl;have J:=wj (k:=(r.rs.filter fun x=>decide (a≤x.l)).length) q (List.length_filter_le _ _) ?_
       · rw[H] at J;exact J
       · rcases q.2 with ⟨e0,_⟩ | ⟨g,cap,cur,e1,_⟩
         · left
           injection e0 with P a2 T;have:r.rs.length=0:=a2;have:=List.length_filter_le (fun x:RecP=>decide (a≤x.l)) r.rs;show _=r.rs.length;omega
         · right
           injection e1 with e1;rw[e1];simp
 case hB=>kernel_rfl
 case hst=>rfl
open Go.RowKit
open Go.RowKit Go.Sort
theorem j0 {m:Int}:IntKind.u16.wrap m=m % 65536:=by
 have:=wrap_u16 (n:=m % 65536) ab;rw[←this];simp[IntKind.wrap,IntKind.bits,IntKind.signed]
theorem mJ {m:Int}:IntKind.u32.wrap m=m % 4294967296:=by
 have:=wrap_u32 (n:=m % 4294967296) ab;rw[←this];simp[IntKind.wrap,IntKind.bits,IntKind.signed]
theorem wI (m:Int):[Value.int .u8 (IntKind.u8.wrap m),.int .u8 (IntKind.u8.wrap (m / 2 ^ 8))]=(lit m 2).map bB:=by
 rw[nB,nB];rfl
theorem qu (m:Int):lit m 4=lit (m % 65536) 2 ++ [UInt8.ofNat (m / 2 ^ 16 % 256).toNat,UInt8.ofNat (m / 2 ^ 24 % 256).toNat]:=by
 have b:m % 65536 % 256=m % 256:=by omega
 have a:m % 65536 / 256 % 256=m / 256 % 256:=by omega
 have h3:m / 256 / 256 % 256=m / 2 ^ 16 % 256:=by omega
 have c:m / 256 / 256 / 256 % 256=m / 2 ^ 24 % 256:=by omega
 simp only[lit,List.cons_append,List.nil_append,b,a,h3,c]
def g16 (l:List UInt8) (o:Nat):Int:=(l.getD o 0).toNat+256*(l.getD (o+1) 0).toNat
def xX (l:List UInt8) (o:Nat):Int:=g16 l o+65536*g16 l (o+2)
theorem nk (l:List UInt8) (o:Nat):0≤g16 l o∧g16 l o<65536:=by
 have Y:=(l.getD o 0).toNat_lt;have Y:=(l.getD (o+1) 0).toNat_lt;unfold g16;omega
theorem xC (l:List UInt8) (o:Nat):0≤xX l o∧xX l o<4294967296:=by
 have Y:=nk l o;have Y:=nk l (o+2);unfold xX;omega
theorem oK {l:List UInt8} {o:Nat} (h:o+2≤l.length):g16 l o=fw l o 2:=by
 unfold fw g16;rw[wW l o h];simp[num]
theorem vz (m:Int):lit m 4=lit (m % 65536) 2 ++ lit (m / 2 ^ 16 % 65536) 2:=by
 rw[qu]
 congr 1
 have b:m / 2 ^ 16 % 65536 % 256=m / 2 ^ 16 % 256:=by omega
 have a:m / 2 ^ 16 % 65536 / 256 % 256=m / 2 ^ 24 % 256:=by omega
 simp only[lit,b,a]
open Go.RowKit
theorem uT {x:RecP} (h:x.b.size≤3000):((BF x).length:Int)=kb x.b.size:=by
 have:=gQ h;unfold BF;simp only[List.length_append,aB,kV,aP,List.length_cons,List.length_nil];omega
def yQ (q:Int) (x:RecP):Int:=max (q*448) (x.l-1)
def yJ (q:Int) (x:RecP):Int:=min ((q+1)*448) (dG x)
def EU (q:Int) (x:RecP):List UInt8:=((BF x).drop (yQ q x-(x.l-1)).toNat).take (yJ q x-yQ q x).toNat
theorem kj (q:Int) (st:List UInt8 × Int × Int) (x:RecP):C1 q st x=if yJ q x≤yQ q x then st else (nG st.1 (yQ q x-q*448).toNat (EU q x),yJ q x-q*448,x.s):=rfl
theorem n3 {q:Int} {x:RecP} (h:x.b.size≤3000) (c:¬yJ q x≤yQ q x):((EU q x).length:Int)=yJ q x-yQ q x:=by
 have Y:=uT h
 have a:yJ q x≤dG x:=by unfold yJ;omega
 have Y:x.l-1≤yQ q x:=by unfold yQ;omega
 unfold dG at a;unfold EU;rw[List.length_take,List.length_drop];omega
theorem oN {q:Int} {x:RecP} (a:¬yJ q x≤yQ q x):0≤yQ q x-q*448∧yJ q x-q*448≤448:=by
 unfold yQ yJ at *;omega
theorem tD {q:Int} {st:List UInt8 × Int × Int} {x:RecP} (c:st.1.length=448) (h:x.b.size≤3000):(C1 q st x).1.length=448:=by
 rw[kj]
 split
 · exact c
 · rename_i a
   have Y:=n3 h a;have Y:=oN a;show(nG st.1 _ _).length=448;rw[uA ab,c]
structure PgI (q:Int) (st:List UInt8 × Int × Int) (e:Int):Prop where
 len:st.1.length=448
 u0:0≤st.2.1
 u1:st.2.1≤448
 ue:st.2.1≤max 0 (e-q*448)
 z:∀i:Nat,st.2.1≤i→st.1.getD i 0=0
theorem PgI.zero (q e:Int):PgI q (cu 448,0,0) e:=⟨kV 448,Int.le_refl _,by decide,by show(0:Int)≤_;omega,fun i _=>wE 448 i⟩
theorem PgI.step {q e:Int} {st:List UInt8 × Int × Int} {x:RecP} (h:PgI q st e) (d:x.b.size≤3000) (j:e≤x.l-1):PgI q (C1 q st x) (dG x):=by
 have g:=gQ d
 have k:x.l-1≤dG x:=by unfold dG;omega
 have Y:=h.ue;refine⟨tD h.len d,?_,?_,?_,?_⟩
 · rw[kj];split
   · exact h.u0
   · rename_i a;have:=oN a;show 0≤yJ q x-q*448;omega
 · rw[kj];split
   · exact h.u1
   · rename_i a;exact(oN a).2
 · rw[kj];split
   · omega
   · show yJ q x-q*448≤_
     unfold yJ;omega
 · intro i c
   rw[kj] at c ⊢
   split
   · rename_i a;rw[if_pos a] at c;exact h.z i c
   · rename_i a
     rw[if_neg a] at c;have Y:=n3 d a;have Y:=oN a;have f:yJ q x-q*448≤i:=c;show(nG st.1 (yQ q x-q*448).toNat (EU q x)).getD i 0=0;rw[zA (by rw[h.len];omega),if_neg ab];apply h.z
     have:x.l-1≤yQ q x:=by unfold yQ;omega
     omega
theorem wZ {r:RngP} (h:∀m (hm:m<r.rs.length),eC r.r.o r.r.s (bS r.rs m) r.rs[m]=0) (c:r.r.o≤100000000) (k:Nat) (b:k+1<r.rs.length):dG r.rs[k]≤r.rs[k+1].l-1:=by
 have a:=(recE_zero.1 (h (k+1) b)).2.2.1;rw[eQ b] at a;unfold fu at a;simp only[Bool.or_eq_true,beq_iff_eq] at a;have:=gB (p:=dG r.rs[k]);omega
open Go.RowKit Go.Sort
open Go.RowKit Go.Sort
attribute [local irreducible] fw CE H6 Ih
open Go.RowKit Go.Sort
open Go.RowKit Go.Sort
open Go.RowKit Go.Sort
end Go.Proofs.YtcfdpfmchchkaaaGreatDoor
