/- Chapter 21 -/
import Derived.Test.YtcfdpfmchchkaaaGreatDoorOpC
import Derived.Handy
import Derived.Deep.DeepCutAuto
import Derived.Test.YtcfdpfmchchkaaaGreatDoorSplF
namespace Go.Proofs.YtcfdpfmchchkaaaGreatDoor
set_option maxHeartbeats 1000000
set_option maxRecDepth 4000
set_option linter.unusedVariables false
set_option linter.unusedSimpArgs false
open Go.RowKit Go.Sort
theorem yd (p:ByteArray) (a:Nat):bl (p.extract 0 a)=(bl p).take a:=by rw[bL,List.drop_zero]
theorem yA (p:ByteArray) (a:Nat):bl (p.extract a p.size)=(bl p).drop a:=by rw[bL,←aP,List.take_length]
theorem Gp (p:ByteArray) (a b:Nat):bl (p.extract a b)=fz (bl p) a b:=bL p a b
theorem FQ (p n:ByteArray) (A E:Nat):p.extract 0 A ++ n ++ p.extract A E ++ p.extract (E+n.size) p.size=bs (DG (bl p) A E (bl n)):=by
 apply dU;rw[cH,cH,cH,yd,yA,bL];rfl
theorem FH (p:ByteArray) (A E N:Nat):p.extract 0 A ++ p.extract (A+N) E ++ bs (cu N) ++ p.extract E p.size=bs (Ea (bl p) A E N):=by
 apply dU;rw[cH,cH,cH,yd,yA,bL];rfl
theorem wY {x:Op} (h:gr x):x.o.size≤512∧x.n.size≤512:=by unfold gr at h;omega
theorem FF (s t:ByteArray):(bl s==bl t)=decide (s=t):=by
 by_cases h:s=t
 · rw[decide_eq_true h,h];exact beq_self_eq_true _
 · rw[decide_eq_false h];exact beq_false_of_ne (fun e=>h (dU e))
theorem r6 (p:ByteArray) (x:Op) (w:World) (hp:p.size=512) (h:gr x) :
 bz 205 #[.string p,gm x] w (.tuple #[.string (fC p x),.bool (dY p x)]):=by
 obtain⟨s1,s2⟩:=wY h;unfold gr at h;have V:(x.o ++ x.n).size=x.o.size+x.n.size:=ByteArray.size_append;refine aq (N:=118) Tryz.func205 rfl rfl rfl (fun _ Y=>?_);have Z:=St.init w;refine ai (an ?_);refine nb Y rfl rfl Z fun b3 _ _ W Y Z=>GO 6 ?_;intro _ Y;refine sv (v:=gm x) Y (ag aa aa (Y.ev rfl) (Z.cellsAll (i:=0) rfl)) fun _ Y=>?_;refine cN Y rfl Z (r4 x _ ab ab) fun _ _ Y Z=>?_;refine GO 18 ?_;intro _ Y;refine ak (Y.ev rfl) (fun M=>?_) (fun M=>?_)
 ·
  have r:x.k=1:=ar M;obtain⟨A,d⟩:=Int.eq_ofNat_of_zero_le (show 0≤x.a by omega)
  have z:x.o.size=x.n.size∧A+x.o.size≤512:=by omega
  have g:fC p x=vB p A x.n:=by unfold fC;rw[if_pos r,d];rfl
  have f:dY p x=decide ((p.extract A p.size).extract 0 x.o.size=x.o):=by unfold dY;rw[if_pos (.inl r),d,←FF,sO];rfl
  refine ai ?_;apply aK Y (fA 18) _ aa
  case h=>
   refine GO 2 ?_;intro _ Y;refine qv Y (fun X b=>aA (v':=ae (A:Int)) (congrArg _ d) (lx (Y.ev rfl) ((Z.grow b).cell (i:=0) rfl rfl))) fun _ Y=>?_;refine GO 2 ?_;intro _ Y;refine jM Y rfl (fun X b=>nO p x.n A _ ab ab) fun _ Y=>?_;refine GO 2 ?_;intro _ Y;refine qv Y (fun X b=>aA (v':=ae (A:Int)) (congrArg _ d) (lx (Y.ev rfl) ((Z.grow b).cell (i:=0) rfl rfl))) fun _ Y=>?_;refine qv Y (fun X b=>bf (l:=A) (h:=p.size) dh (Y.ev rfl) (Y.ev rfl) rfl ab ab) fun _ Y=>?_;refine GO 3 ?_;intro _ Y;refine qv Y (fun X b=>bf (l:=0) (h:=x.o.size) dh (Y.ev rfl) rfl (Y.ev rfl) ab (by rw[ByteArray.size_extract];omega)) fun _ Y=>?_;refine GO 5 ?_;intro _ Y;refine aV fun _ U Zm=>?_;have Z:=Z.grow U;refine GO 6 ?_;intro _ Y;refine cd Y rfl rfl rfl ?_;exact⟨by rw[g,f],Z.below⟩
  case hB=>kernel_rfl
  case hst=>rfl
 ·
  have r:x.k≠1:=ar M;refine GO 6 ?_;intro _ Y;refine ak (Y.ev rfl) (fun O=>?_) (fun O=>?_)
  ·
   have m:x.k=2:=ar O;obtain⟨A,d⟩:=Int.eq_ofNat_of_zero_le (show 0≤x.a by omega);obtain⟨E,q⟩:=Int.eq_ofNat_of_zero_le (show 0≤x.e by omega)
   have z:x.o.size=0∧A≤E∧E+x.n.size≤512:=by omega
   have t:(p.extract 0 A ++ x.n).size=A+x.n.size:=by rw[ByteArray.size_append,ByteArray.size_extract];omega
   have L:(p.extract 0 A ++ x.n ++ p.extract A E).size=E+x.n.size:=by rw[ByteArray.size_append,t,ByteArray.size_extract];omega
   have F:(p.extract 0 A).size=A:=by rw[ByteArray.size_extract];omega
   have H:(p.extract A E).size=E-A:=by rw[ByteArray.size_extract];omega
   have Q:(p.extract (E+x.n.size) p.size).size=512-(E+x.n.size):=by rw[ByteArray.size_extract];omega
   have g:fC p x=p.extract 0 A ++ x.n ++ p.extract A E ++ p.extract (E+x.n.size) p.size:=by unfold fC;rw[if_neg r,if_pos m,d,q,FQ];rfl
   have f:dY p x=lF (bl (p.extract E (E+x.n.size))):=by unfold dY;rw[if_neg ab,if_pos m,q,Gp,←fT];rfl
   refine ai ?_;apply aK Y (fA 30) _ aa
   case h=>
    refine GO 2 ?_;intro _ Y;refine qv Y (fun X b=>aA (v':=ae (A:Int)) (congrArg _ d) (lx (Y.ev rfl) ((Z.grow b).cell (i:=0) rfl rfl))) fun _ Y=>?_;refine qv Y (fun X b=>bf (l:=0) (h:=A) dh (Y.ev rfl) rfl (Y.ev rfl) ab ab) fun _ Y=>?_;refine GO 2 ?_;intro _ Y;refine qv Y (fun X b=>dH (Y.ev rfl) (Y.ev rfl) ab) fun _ Y=>?_;refine GO 2 ?_;intro _ Y;refine qv Y (fun X b=>aA (v':=ae (A:Int)) (congrArg _ d) (lx (Y.ev rfl) ((Z.grow b).cell (i:=0) rfl rfl))) fun _ Y=>?_;refine GO 1 ?_;intro _ Y;refine qv Y (fun X b=>aA (v':=ae (E:Int)) (congrArg _ q) (lx (Y.ev rfl) ((Z.grow b).cell (i:=0) rfl rfl))) fun _ Y=>?_;refine qv Y (fun X b=>bf (l:=A) (h:=E) dh (Y.ev rfl) (Y.ev rfl) (Y.ev rfl) ab ab) fun _ Y=>?_;refine qv Y (fun X b=>dH (Y.ev rfl) (Y.ev rfl) ab) fun _ Y=>?_;refine GO 2 ?_;intro _ Y;refine qv Y (fun X b=>aA (v':=ae (E:Int)) (congrArg _ q) (lx (Y.ev rfl) ((Z.grow b).cell (i:=0) rfl rfl))) fun _ Y=>?_;refine GO 1 ?_;intro _ Y;refine qv Y (fun X b=>aA (v':=ae ((E+x.n.size:Nat):Int)) (congrArg _ ab) (cy (Y.ev rfl) (Y.ev rfl) ab)) fun _ Y=>?_;refine qv Y (fun X b=>bf (l:=E+x.n.size) (h:=p.size) dh (Y.ev rfl) (Y.ev rfl) rfl ab ab) fun _ Y=>?_;refine qv Y (fun X b=>dH (Y.ev rfl) (Y.ev rfl) ab) fun _ Y=>?_;refine GO 2 ?_;intro _ Y;refine qv Y (fun X b=>aA (v':=ae (E:Int)) (congrArg _ q) (lx (Y.ev rfl) ((Z.grow b).cell (i:=0) rfl rfl))) fun _ Y=>?_;refine GO 1 ?_;intro _ Y;refine qv Y (fun X b=>aA (v':=ae (E:Int)) (congrArg _ q) (lx (Y.ev rfl) ((Z.grow b).cell (i:=0) rfl rfl))) fun _ Y=>?_;refine GO 1 ?_;intro _ Y;refine qv Y (fun X b=>aA (v':=ae ((E+x.n.size:Nat):Int)) (congrArg _ ab) (cy (Y.ev rfl) (Y.ev rfl) ab)) fun _ Y=>?_;refine qv Y (fun X b=>bf (l:=E) (h:=E+x.n.size) dh (Y.ev rfl) (Y.ev rfl) (Y.ev rfl) ab ab) fun _ Y=>?_
    refine jM Y rfl (fun X b=>wR _ _ (by rw[ByteArray.size_extract];omega)) fun _ Y=>?_;refine ax ?_;refine aV fun _ S Zn=>?_;have Z:=Z.grow S;refine GO 7 ?_;intro _ Y;refine cd Y rfl rfl rfl ?_;exact⟨by rw[g,f],Z.below⟩
   case hB=>kernel_rfl
   case hst=>rfl
  ·
   have m:x.k≠2:=ar O;refine GO 6 ?_;intro _ Y;refine ak (Y.ev rfl) (fun J=>?_) (fun J=>?_)
   ·
    have u:x.k=3:=ar J;obtain⟨A,d⟩:=Int.eq_ofNat_of_zero_le (show 0≤x.a by omega);obtain⟨E,q⟩:=Int.eq_ofNat_of_zero_le (show 0≤x.e by omega)
    have z:x.n.size=0∧A+x.o.size≤E∧E≤512:=by omega
    have F:(p.extract 0 A).size=A:=by rw[ByteArray.size_extract];omega
    have K:(p.extract (A+x.o.size) E).size=E-(A+x.o.size):=by rw[ByteArray.size_extract];omega
    have t:(p.extract 0 A ++ p.extract (A+x.o.size) E).size=E-x.o.size:=by rw[ByteArray.size_append,F,K];omega
    have H:(bs (cu x.o.size)).size=x.o.size:=vE _
    have L:(p.extract 0 A ++ p.extract (A+x.o.size) E ++ bs (cu x.o.size)).size=E:=by rw[ByteArray.size_append,t,H];omega
    have Q:(p.extract E p.size).size=512-E:=by rw[ByteArray.size_extract];omega
    have g:fC p x=p.extract 0 A ++ p.extract (A+x.o.size) E ++ bs (cu x.o.size) ++ p.extract E p.size:=by unfold fC;rw[if_neg r,if_neg m,if_pos u,d,q,FH];rfl
    have f:dY p x=decide ((p.extract A p.size).extract 0 x.o.size=x.o):=by unfold dY;rw[if_pos (.inr u),d,←FF,sO];rfl
    refine ai ?_;apply aK Y (fA 31) _ aa
    case h=>
     refine GO 2 ?_;intro _ Y;refine qv Y (fun X b=>aA (v':=ae (A:Int)) (congrArg _ d) (lx (Y.ev rfl) ((Z.grow b).cell (i:=0) rfl rfl))) fun _ Y=>?_;refine qv Y (fun X b=>bf (l:=0) (h:=A) dh (Y.ev rfl) rfl (Y.ev rfl) ab ab) fun _ Y=>?_;refine GO 2 ?_;intro _ Y;refine qv Y (fun X b=>aA (v':=ae (A:Int)) (congrArg _ d) (lx (Y.ev rfl) ((Z.grow b).cell (i:=0) rfl rfl))) fun _ Y=>?_;refine GO 1 ?_;intro _ Y;refine qv Y (fun X b=>aA (v':=ae ((A+x.o.size:Nat):Int)) (congrArg _ ab) (cy (Y.ev rfl) (Y.ev rfl) ab)) fun _ Y=>?_;refine GO 1 ?_;intro _ Y;refine qv Y (fun X b=>aA (v':=ae (E:Int)) (congrArg _ q) (lx (Y.ev rfl) ((Z.grow b).cell (i:=0) rfl rfl))) fun _ Y=>?_;refine qv Y (fun X b=>bf (l:=A+x.o.size) (h:=E) dh (Y.ev rfl) (Y.ev rfl) (Y.ev rfl) ab ab) fun _ Y=>?_;refine qv Y (fun X b=>dH (Y.ev rfl) (Y.ev rfl) ab) fun _ Y=>?_;refine qv Y (fun X b=>aA (v':=ae ((x.o.size:Nat):Int)) (congrArg _ ab) (bQ (Y.ev rfl))) fun _ Y=>?_;refine jM Y rfl (fun X b=>zK _ _ ab) fun _ Y=>?_;refine qv Y (fun X b=>dH (Y.ev rfl) (Y.ev rfl) ab) fun _ Y=>?_;refine GO 2 ?_;intro _ Y;refine qv Y (fun X b=>aA (v':=ae (E:Int)) (congrArg _ q) (lx (Y.ev rfl) ((Z.grow b).cell (i:=0) rfl rfl))) fun _ Y=>?_;refine qv Y (fun X b=>bf (l:=E) (h:=p.size) dh (Y.ev rfl) (Y.ev rfl) rfl ab ab) fun _ Y=>?_;refine qv Y (fun X b=>dH (Y.ev rfl) (Y.ev rfl) ab) fun _ Y=>?_;refine GO 2 ?_;intro _ Y;refine qv Y (fun X b=>aA (v':=ae (A:Int)) (congrArg _ d) (lx (Y.ev rfl) ((Z.grow b).cell (i:=0) rfl rfl))) fun _ Y=>?_;refine qv Y (fun X b=>bf (l:=A) (h:=p.size) dh (Y.ev rfl) (Y.ev rfl) rfl ab ab) fun _ Y=>?_;refine qv Y (fun X b=>aA (v':=ae ((x.o.size:Nat):Int)) (congrArg _ ab) (bQ (Y.ev rfl))) fun _ Y=>?_
     refine qv Y (fun X b=>bf (l:=0) (h:=x.o.size) dh (Y.ev rfl) rfl (Y.ev rfl) ab (by rw[ByteArray.size_extract];omega)) fun _ Y=>?_;refine GO 5 ?_;intro _ Y;refine aV fun _ R Zk=>?_;have Z:=Z.grow R;refine GO 6 ?_;intro _ Y;refine cd Y rfl rfl rfl ?_;exact⟨by rw[g,f],Z.below⟩
    case hB=>kernel_rfl
    case hst=>rfl
   ·
    have u:x.k≠3:=ar J;refine GO 7 ?_;intro _ Y;refine ak (Y.ev rfl) (fun D=>?_) (fun D=>?_)
    ·
     refine wp_skip (aj ?_);refine ak (Y.ev rfl) (fun B=>?_) (fun B=>?_)
     ·
      have j:x.k=4:=ar D;obtain⟨A,d⟩:=Int.eq_ofNat_of_zero_le (show 0≤x.a by omega);obtain⟨C,y⟩:=Int.eq_ofNat_of_zero_le (show 0≤x.c by omega)
      have z:A+C≤8*p.size:=by omega
      have g:fC p x=bs (cB (bl p) A C (x.k==4)):=by unfold fC;rw[if_neg r,if_neg m,if_neg u,if_pos j,d,y,j];rfl
      have f:dY p x=dX (bl p) A C (x.k==4):=by unfold dY;rw[if_neg ab,if_neg m,if_pos j,d,y,j];rfl
      refine GO 4 ?_;intro _ Y;refine sv Y (aA (v':=ae (A:Int)) (congrArg _ d) (lx (Y.ev rfl) (Z.cell (i:=0) rfl rfl))) fun _ Y=>?_;refine GO 1 ?_;intro _ Y;refine sv Y (aA (v':=ae (C:Int)) (congrArg _ y) (lx (Y.ev rfl) (Z.cell (i:=0) rfl rfl))) fun _ Y=>?_;refine GO 3 ?_;intro _ Y;refine cN Y rfl Z (mm p A C (x.k==4) _ ab z) fun _ _ Y Z=>?_;refine GO 9 ?_;intro _ Y;refine cd Y rfl rfl rfl ?_;exact⟨by rw[g,f];rfl,Z.below⟩
     ·
      exact absurd (D.symm.trans B) au
    ·
     refine GO 5 ?_;intro _ Y;refine ak (Y.ev rfl) (fun B=>?_) (fun B=>?_)
     ·
      have j:x.k≠4:=ar D;have s:x.k=5:=ar B;obtain⟨A,d⟩:=Int.eq_ofNat_of_zero_le (show 0≤x.a by omega);obtain⟨C,y⟩:=Int.eq_ofNat_of_zero_le (show 0≤x.c by omega)
      have z:A+C≤8*p.size:=by omega
      have g:fC p x=bs (cB (bl p) A C (x.k==4)):=by unfold fC;rw[if_neg r,if_neg m,if_neg u,if_neg j,if_pos s,d,y,s];rfl
      have f:dY p x=dX (bl p) A C (x.k==4):=by unfold dY;rw[if_neg ab,if_neg m,if_neg j,if_pos s,d,y,s];rfl
      refine GO 4 ?_;intro _ Y;refine sv Y (aA (v':=ae (A:Int)) (congrArg _ d) (lx (Y.ev rfl) (Z.cell (i:=0) rfl rfl))) fun _ Y=>?_;refine GO 1 ?_;intro _ Y;refine sv Y (aA (v':=ae (C:Int)) (congrArg _ y) (lx (Y.ev rfl) (Z.cell (i:=0) rfl rfl))) fun _ Y=>?_;refine GO 3 ?_;intro _ Y;refine cN Y rfl Z (mm p A C (x.k==4) _ ab z) fun _ _ Y Z=>?_;refine GO 9 ?_;intro _ Y;refine cd Y rfl rfl rfl ?_;exact⟨by rw[g,f];rfl,Z.below⟩
     ·
      have j:x.k≠4:=ar D;have s:x.k≠5:=ar B;refine GO 6 ?_;intro _ Y;refine ak (Y.ev rfl) (fun I=>?_) (fun I=>?_)
      ·
       have G:x.k=6:=ar I
       have g:fC p x=x.n:=by unfold fC;rw[if_neg r,if_neg m,if_neg u,if_neg j,if_neg s,if_pos G]
       have f:dY p x=decide (p=x.o):=by unfold dY;rw[if_neg ab,if_neg m,if_neg j,if_neg s,if_pos G,FF]
       refine ai ?_;apply aK Y (fA 7) _ aa
       case h=>
        refine GO 8 ?_;intro _ Y;refine aV fun _ T Zl=>?_;have Z:=Z.grow T;refine GO 6 ?_;intro _ Y;refine cd Y rfl rfl rfl ?_;exact⟨by rw[g,f],Z.below⟩
       case hB=>kernel_rfl
       case hst=>rfl
      ·
       have G:x.k≠6:=ar I
       have g:fC p x=p:=by unfold fC;rw[if_neg r,if_neg m,if_neg u,if_neg j,if_neg s,if_neg G]
       have f:dY p x=true:=by unfold dY;rw[if_neg ab,if_neg m,if_neg j,if_neg s,if_neg G]
       refine GO 11 ?_;intro _ Y;refine cd Y rfl rfl rfl ?_;exact⟨by rw[g,f],Z.below⟩
open Go.RowKit
section
variable {P:Program}
theorem cI {ops:Array Oper} {rest:List Oper} {o:Oper} {a:Act} {w:World} {Q:Exit→Act→World→Prop} (e:o.guard=none) (t:TypeId) (b:Array (Nat × Operand)) (d:o.op=.build t b)
 (cells:Array Value) (c:P.built t (b.map fun (i,x)=>(i,a.eval x)).toList=some cells)
 (h:wpList P ops Q rest (a.put o.dst (.agg cells)) w):wpList P ops Q (o::rest) a w:=
 wpList_build e t b d (by rw[c];rfl) (by rw[c];exact h)
end
def eH:Array Value:=#[.bool false,.bool false,.bool false,.bool false,.bool false,.bool true,.bool false,.bool false,.bool true,.bool true,
 .bool true,.bool true,.bool false,.bool false,.bool true,.bool true,.bool true,.bool false,.bool true,.bool false,.bool true,.bool false,.bool true,.bool false,.bool false,
 .bool true,.bool false,.bool true,.bool false,.bool false,.bool false,.bool false,.bool false,.bool true,.bool true]
def vA:Array Value:=Array.replicate 35 (.bool false)
theorem AD (w:World):Calls Tryz.prog 213 #[] w fun e w'=>e=.returned (.agg eH)∧Below w.heap.size w w':=by
 go_enter Tryz.func213,Tryz.ntmps213
 go_upto_region 1 with (fail)
 apply wp_region_lit;refine cI rfl 303 _ rfl #[.bool false,.bool false,.bool false,.bool false,.bool false] aa ?_;refine cI rfl 303 _ rfl #[.bool true,.bool false,.bool false,.bool true,.bool true] aa ?_;refine cI rfl 303 _ rfl #[.bool true,.bool true,.bool false,.bool false,.bool true] aa ?_;refine cI rfl 303 _ rfl #[.bool true,.bool true,.bool false,.bool true,.bool false] aa ?_;refine cI rfl 303 _ rfl #[.bool true,.bool false,.bool true,.bool false,.bool false] aa ?_;refine cI rfl 303 _ rfl #[.bool true,.bool false,.bool true,.bool false,.bool false] aa ?_;refine cI rfl 303 _ rfl #[.bool false,.bool false,.bool false,.bool true,.bool true] aa ?_;refine cI rfl 304 _ rfl eH aa ?_;refine wpList_store_row rfl 304 _ _ rfl w.heap.size eH aa aa 304 _ (heap_alloc_new w _) aa aa aa ?_;apply wpList_nil;have hr:=setRow_heap _ w.heap.size _ eH 304 (0,0) (heap_alloc_new w (.cells vA 304));have hb:=below_setRow (g:=w.heap.size) (eV (Below.refl w.heap.size w) (.cells vA 304)) (Nat.le_refl _) eH
 go_wp2
 refine bodyPost_ret (results_cell_row Tryz.results213 _ _ w.heap.size 304 _ (0,0) _ aa hr Tryz.underlying304 rfl aa) rfl ?_;exact⟨rfl,hb⟩
open Go.RowKit Go.Sort
def H7 (k:Int):Value:=.agg #[.bool (Ao k),.bool (o4 k),.bool (jv k),.bool (qt k),.bool (qo k)]
theorem BL {ρ:Operand→Value} {X:World} {d:Option Tmp} {ty:TypeId} {ps:String} {c:Array Edge} {g:Option (Nat × Bool)} {x y:Operand} {k:Int} (b:bD k 0 6=true) (hx:ρ x=.agg eH) (e:ρ y=ae k) :
 (execOp ρ ⟨d,.index 304 x y,ty,ps,c,g⟩).run Tryz.prog X=.ok (.value (H7 k)) X:=by
 rw[inB_true] at b
 have:k=0∨k=1∨k=2∨k=3∨k=4∨k=5∨k=6:=by omega
 have a:(Instr.index 304 (.agg eH) (ae k)).run Tryz.prog X=.ok (H7 k) X:=by
  rcases this with rfl | rfl | rfl | rfl | rfl | rfl | rfl<;>kernel_rfl
 simp[execOp,hx,e,a]
theorem Gr {x:Op} {A B C D:Bool} (c:bD x.k 0 6=true) (a:A=dm x) (hB:B=dJ x) (d:C=(!db x.k||decide (0<dn x))) (b:D=(!db x.k||decide (dn x≤200))) :
 aw [bF A 3,bF B 10,bF C 17,bF D 8,bF (fD x) 2]=gj x:=by
 unfold gj;rw[c,if_neg au,a,hB,d,b]
theorem qe (s:ByteArray):decide (s=⟨#[]⟩)=(s.size==0):=by
 by_cases h:s=⟨#[]⟩
 · rw[decide_eq_true h,h];rfl
 · rw[decide_eq_false h]
   have:s.size≠0:=fun e=>h (ByteArray.size_eq_zero_iff.1 e);exact(beq_false_of_ne this).symm
theorem fY (x:Op) (w:World) (ho:x.o.size≤3100) (hn:x.n.size≤3100) :
 bz 144 #[gm x] w (ae (gj x)):=by
 obtain⟨B,g⟩:∃b,b=dJ x:=⟨_,rfl⟩;obtain⟨l,d⟩:∃b,b=db x.k:=⟨_,rfl⟩;unfold dJ at g;unfold db at d;refine aq (N:=114) Tryz.func144 rfl rfl rfl (fun _ Z=>?_);have U:=St.init w;refine ai (an ?_);refine nb Z rfl rfl U fun b1 _ _ Qo Z U=>GO 6 ?_;intro _ Z;refine GO 1 ?_;intro _ Z;refine GO 1 ?_;intro _ Z;refine cU Z rfl (bn _ _ _ _) fun _ Z=>?_;refine GO 3 ?_;intro _ Z;refine ak (Z.ev rfl) (fun F=>?_) (fun F=>?_)
 ·
  have C:bD x.k 0 6=false:=ar F;refine GO 7 ?_;intro _ Z;refine aI Z rfl rfl ?_;exact⟨by unfold gj;rw[C];rfl,U.below⟩
 ·
  have C:bD x.k 0 6=true:=ar F;refine wp_skip (aj (ai ?_));apply dN Z (fun _=>False) [] [(5,303)] [false,false,false,false,true,true] _ aa bC
  case h=>
   refine jM Z rfl (fun X j=>AD _) fun _ Z=>?_;refine GO 1 ?_;intro _ Z;refine qv Z (fun X j=>lx (Z.ev rfl) ((U.grow (Grw.below j)).cell (i:=0) rfl rfl)) fun _ Z=>?_;refine qv Z (fun X j=>BL C (Z.ev rfl) (Z.ev rfl)) fun _ Z=>?_;refine ax ?_;apply cJ (O:=(fun _=>False)) (k:=4) (deps:=[]) (R:=NewAny _ 5 _) Z rfl rfl rfl bC NewAny.stable bC (kZ NewAny.newT)
   case hx=>exact fun X j J=>jh (dM (z:=.agg #[.bool false,.bool false,.bool false,.bool false,.bool false]) aa) j.size rfl
   intro v3 _ Z;apply fj (k:=5) (deps:=[4]) (kx:=4) (x:=3) (y:=15) (Y:=tn _) Z rfl ⟨rfl,rfl⟩ rfl bC ⟨rfl,rfl⟩ rfl iC rfl rfl (n:=5) aa bC
   case hx=>
    intro X j J;exact⟨(aN (k:=4) J rfl rfl),rfl,rfl⟩
   intro G;refine gi (O:=(fun _=>False)) bC fun _ Zn Zo=>?_;obtain⟨b3,rfl,Qe,r⟩:=StoY.val (v:=G) Z rfl (aF Zo (k:=5) rfl);have U:=U.add (Grw.below Zn) (e:=.box _ _ _) r (fun b hb=>by cases hb;exact⟨Qe,Box.lt r⟩);refine GO 7 ?_;intro _ Z;apply bI (x:=x.a==0) Z U 18 rfl 4 22
   case hf=>
    intro Q;refine GO 4 ?_;intro _ Z;exact ah ⟨Z.midE 3,U⟩
   case ht=>
    intro Q;refine GO 4 ?_;intro _ Z;exact ah ⟨Z.midE 3,U⟩
   case h=>
    rintro Va Qp ⟨Qq,q⟩
    refine GO 1 ?_;intro _ Z;apply bo (x:=(o4 x.k||x.e==0)) Z q 23 rfl 8 31
    case ht=>
     intro Zq;refine GO 3 ?_;intro _ Z;apply bI (x:=x.e==0) Z q 26 rfl 4 30
     case hf=>
      intro Zr;refine GO 4 ?_;intro _ Z;exact ah ⟨Z.midE 3,q⟩
     case ht=>
      intro Zr;refine GO 4 ?_;intro _ Z;exact ah ⟨Z.midE 3,q⟩
     case h=>
      rintro Jz Qr ⟨Qs,Qf⟩
      refine GO 1 ?_;intro _ Z;exact ah ⟨Z.midE 4,Qf⟩
    case hf=>
     intro Zq;refine GO 3 ?_;intro _ Z;refine cg Z (aC Z _ rfl rfl rfl) rfl rfl fun _ Z=>cg Z (aC Z _ rfl rfl rfl) rfl rfl fun _ Z=>cg Z (aC Z _ rfl rfl rfl) rfl rfl fun _ Z=>GO 2 ?_;intro _ Z;exact ah ⟨Z.midE 7,q⟩
    case h=>
     rintro Jx Qt ⟨Qu,s⟩
     refine GO 1 ?_;intro _ Z;apply bo (x:=(jv x.k||x.c==0)) Z s 32 rfl 8 40
     case ht=>
      intro Zs;refine GO 3 ?_;intro _ Z;apply bI (x:=x.c==0) Z s 35 rfl 4 39
      case hf=>
       intro S;refine GO 4 ?_;intro _ Z;exact ah ⟨Z.midE 3,s⟩
      case ht=>
       intro S;refine GO 4 ?_;intro _ Z;exact ah ⟨Z.midE 3,s⟩
      case h=>
       rintro Vb Qv ⟨Qw,Qg⟩
       refine GO 1 ?_;intro _ Z;exact ah ⟨Z.midE 4,Qg⟩
     case hf=>
      intro Zs;refine GO 3 ?_;intro _ Z;refine cg Z (aC Z _ rfl rfl rfl) rfl rfl fun _ Z=>cg Z (aC Z _ rfl rfl rfl) rfl rfl fun _ Z=>cg Z (aC Z _ rfl rfl rfl) rfl rfl fun _ Z=>GO 2 ?_;intro _ Z;exact ah ⟨Z.midE 7,s⟩
     case h=>
      rintro Jw Qx ⟨Qy,A⟩
      refine GO 1 ?_;intro _ Z;apply bo (x:=(qt x.k||x.o.size==0)) Z A 41 rfl 8 49
      case ht=>
       intro Zu;refine GO 3 ?_;intro _ Z;apply bI (x:=x.o.size==0) Z A 44 rfl 4 48
       case hf=>
        intro W;refine GO 2 ?_;intro _ Z;refine sy Z (aA (v':=.bool (x.o.size==0)) (congrArg _ (qe _)) (ku (Z.ev rfl) (Z.ev rfl))) fun _ Z=>?_;refine GO 1 ?_;intro _ Z;exact ah ⟨Z.midE 3,A⟩
       case ht=>
        intro W;refine GO 4 ?_;intro _ Z;exact ah ⟨Z.midE 3,A⟩
       case h=>
        rintro Jv Qz ⟨Ja,V⟩
        refine GO 1 ?_;intro _ Z;exact ah ⟨Z.midE 4,V⟩
      case hf=>
       intro Zu;refine GO 3 ?_;intro _ Z;refine cg Z (aC Z _ rfl rfl rfl) rfl rfl fun _ Z=>cg Z (aC Z _ rfl rfl rfl) rfl rfl fun _ Z=>cg Z (aC Z _ rfl rfl rfl) rfl rfl fun _ Z=>GO 2 ?_;intro _ Z;exact ah ⟨Z.midE 7,A⟩
      case h=>
       rintro Jy Jb ⟨Jc,t⟩
       refine GO 1 ?_;intro _ Z;apply bo (x:=(qo x.k||x.n.size==0)) Z t 50 rfl 8 58
       case ht=>
        intro Zw;refine GO 3 ?_;intro _ Z;apply bI (x:=x.n.size==0) Z t 53 rfl 4 57
        case hf=>
         intro Zx;refine GO 2 ?_;intro _ Z;refine sy Z (aA (v':=.bool (x.n.size==0)) (congrArg _ (qe _)) (ku (Z.ev rfl) (Z.ev rfl))) fun _ Z=>?_;refine GO 1 ?_;intro _ Z;exact ah ⟨Z.midE 3,t⟩
        case ht=>
         intro Zx;refine GO 4 ?_;intro _ Z;exact ah ⟨Z.midE 3,t⟩
        case h=>
         rintro H Qi ⟨Qj,Zy⟩
         refine GO 1 ?_;intro _ Z;exact ah ⟨Z.midE 4,Zy⟩
       case hf=>
        intro Zw;refine GO 3 ?_;intro _ Z;refine cg Z (aC Z _ rfl rfl rfl) rfl rfl fun _ Z=>cg Z (aC Z _ rfl rfl rfl) rfl rfl fun _ Z=>cg Z (aC Z _ rfl rfl rfl) rfl rfl fun _ Z=>GO 2 ?_;intro _ Z;exact ah ⟨Z.midE 7,t⟩
       case h=>
        rintro I Qk ⟨Ql,m⟩
        refine GO 23 ?_;intro _ L;refine eb L m [(5,.bool B),(6,.bool l)] [4,2,1] ?_ (fun _ _ Z U=>?_)
        ·
         refine ak (L.ev rfl) (fun u=>?_) (fun u=>?_)
         ·
          obtain rfl:B=((x.o.size:Int)==x.n.size):=by rw[g,if_pos (ar u)];exact(sQ _ _).symm
          obtain rfl:l=true:=by rw[d,show x.k=1 by simpa using u];rfl
          refine GO 12 ?_;intro _ Z;exact⟨Z.re bN,m⟩
         ·
          rw[if_neg (ar u)] at g;refine GO 6 ?_;intro _ Z;refine ak (Z.ev rfl) (fun E=>?_) (fun E=>?_)
          ·
           rw[if_pos (ar E)] at g
           obtain rfl:B=((x.o.size:Int)==512&&(x.n.size:Int)==512):=by rw[g];exact congr (congrArg _ (sQ _ 512).symm) (sQ _ 512).symm
           obtain rfl:l=false:=by rw[d,show x.k=6 by simpa using E];rfl
           refine GO 6 ?_;intro _ Z;apply bo (x:=((x.n.size:Int)==512)) Z m 76 rfl 5 81
           case ht=>
            intro Zz;refine GO 5 ?_;intro _ Z;exact ah ⟨Z.midE 4,m⟩
           case hf=>
            intro Zz;refine GO 5 ?_;intro _ Z;exact ah ⟨Z.midE 4,m⟩
           case h=>
            rintro M Qm ⟨Qn,Qa⟩
            refine GO 3 ?_;intro _ Z;exact⟨Z.re bN,Qa⟩
          ·
           rw[if_neg (ar E)] at g;obtain rfl:B=true:=g;refine GO 7 ?_;intro _ Z;refine ak (Z.ev rfl) (fun D=>?_) (fun D=>?_)
           ·
            obtain rfl:l=true:=by rw[d,show x.k=2 by simpa using D];rfl
            refine wp_skip (aj ?_);refine ak (Z.ev rfl) (fun p=>?_) (fun p=>?_)
            ·
             refine GO 4 ?_;intro _ Z;exact⟨Z.re bN,m⟩
            ·
             exact absurd (D.symm.trans p) au
           ·
            refine GO 5 ?_;intro _ Z;refine ak (Z.ev rfl) (fun p=>?_) (fun p=>?_)
            ·
             obtain rfl:l=true:=by rw[d,show x.k=3 by simpa using p];rfl
             refine GO 4 ?_;intro _ Z;exact⟨Z.re bN,m⟩
            ·
             obtain rfl:l=false:=by
              have Z:x.k≠1:=ar u;have Z:x.k≠2:=ar D;have Z:x.k≠3:=ar p;rw[d]
              cases h:bD x.k 1 3 with
              | false=>rfl
              | true=>rw[inB_true] at h;omega
             refine wp_skip (aj ?_);exact⟨Z.re bN,m⟩
        ·
         refine GO 10 ?_;intro _ Z;refine sv Z (pB aa (Z.ev rfl) (Z.ev rfl)) fun _ Z=>?_;refine GO 4 ?_;intro _ Z;apply aK Z (fA 19) _ aa
         case h=>
          refine GO 1 ?_;intro _ Z;refine gp Z rfl (fun X j=>aE _ _ _) fun _ Z=>?_;refine GO 1 ?_;intro _ Z;refine gp Z rfl (fun X j=>aE _ _ _) fun _ Z=>?_;refine GO 3 ?_;intro _ Z;apply fF (x:=decide (max (x.o.size:Int) x.n.size>0)) Z 98 rfl 3 101
          case hf=>
           intro Qb;refine GO 3 ?_;intro _ Z;exact ax (Z.midE 2)
          case ht=>
           intro Qb;refine GO 3 ?_;intro _ Z;exact ax (Z.midE 2)
          case h=>
           intro _ Z;refine gp Z rfl (fun X j=>aE _ _ _) fun _ Z=>?_;refine GO 3 ?_;intro _ Z;apply fF (x:=decide (max (x.o.size:Int) x.n.size≤200)) Z 105 rfl 3 108
           case hf=>
            intro Zi;refine GO 3 ?_;intro _ Z;exact ax (Z.midE 2)
           case ht=>
            intro Zi;refine GO 3 ?_;intro _ Z;exact ax (Z.midE 2)
           case h=>
            intro _ Z;refine gp Z rfl (fun X j=>aE _ _ _) fun _ Z=>?_;refine qv (v:=gm x) Z (fun X j=>ag aa aa (Z.ev rfl) ((U.grow j).cellsAll (i:=1) rfl)) fun _ Z=>?_;refine ax ?_;refine aV fun _ T Qc=>?_;have U:=U.grow T;refine cN Z rfl U (tp x _ ho hn) fun _ _ Z U=>?_;refine bV Z (wn rfl) (f:=fun b=>.slice (some ⟨b,0,none⟩) 5 5) (bb cT aa aa (Z.evs2 rfl) rfl rfl rfl au au) rfl rfl U fun K _ _ Qd Z U=>cU Z rfl (tB (U.at_ (i:=0) rfl)) fun _ Z=>?_;refine GO 4 ?_;intro _ Z;refine aI Z rfl rfl ?_
            have e1:(!l||decide (max (x.o.size:Int) x.n.size>0))=(!db x.k||decide (0<dn x)):=by unfold db dn;rw[←d,show decide (max (x.o.size:Int) x.n.size>0)=decide (0<max x.o.size x.n.size) by rw[decide_eq_decide];omega]
            have e2:(!l||decide (max (x.o.size:Int) x.n.size≤200))=(!db x.k||decide (max x.o.size x.n.size≤200)):=by unfold db;rw[←d,show decide (max (x.o.size:Int) x.n.size≤200)=decide (max x.o.size x.n.size≤200) by rw[decide_eq_decide];omega]
            exact⟨by rw[←Gr C rfl g e1 e2];rfl,U.below⟩
         case hB=>kernel_rfl
         case hst=>rfl
  case hB=>kernel_rfl
end Go.Proofs.YtcfdpfmchchkaaaGreatDoor
