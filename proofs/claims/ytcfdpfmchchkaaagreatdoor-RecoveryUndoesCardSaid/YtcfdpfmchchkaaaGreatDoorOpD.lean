/- Chapter 21 -/
import Derived.Test.YtcfdpfmchchkaaaGreatDoorOpC
import Derived.Handy
import Derived.Deep.DeepCutAuto
import Derived.Test.YtcfdpfmchchkaaaGreatDoorSplF
namespace Go.Proofs.YtcfdpfmchchkaaaGreatDoor
set_option maxHeartbeats 1000000
set_option maxRecDepth 4000
set_option linter.unusedVariables false
set_option linter.unusedSimpArgs false
open Go.RowKit Go.Sort
theorem zl (p:ByteArray) (a:Nat):bl (p.extract 0 a)=(bl p).take a:=by rw[ca,List.drop_zero]
theorem zn (p:ByteArray) (a:Nat):bl (p.extract a p.size)=(bl p).drop a:=by rw[ca,←aO,List.take_length]
theorem uA (p:ByteArray) (a b:Nat):bl (p.extract a b)=fV (bl p) a b:=ca p a b
theorem Cr (s t:ByteArray):(s.toList==t.toList)=(bl s==bl t):=by rw[toList_eq,toList_eq]
theorem CT (p n:ByteArray) (A E:Nat):p.extract 0 A ++ n ++ p.extract A E ++ p.extract (E+n.size) p.size=bs (Fe (bl p) A E (bl n)):=by
 apply gb;rw[db,db,db,zl,zn,ca];rfl
theorem CM (p:ByteArray) (A E N:Nat):p.extract 0 A ++ p.extract (A+N) E ++ bs (cp N) ++ p.extract E p.size=bs (F2 (bl p) A E N):=by
 apply gb;rw[db,db,db,zl,zn,ca];rfl
theorem yo {x:Op} (h:fX x):x.o.size≤512∧x.n.size≤512:=by unfold fX at h;omega
theorem G7 (s t:ByteArray):(bl s==bl t)=decide (s=t):=by
 by_cases h:s=t
 · rw[decide_eq_true h,h];exact beq_self_eq_true _
 · rw[decide_eq_false h];exact beq_false_of_ne (fun e=>h (gb e))
theorem sC (p:ByteArray) (x:Op) (w:World) (hp:p.size=512) (h:fX x) :
 bu 205 #[.string p,fj x] w (.tuple #[.string (ew p x),.bool (cR p x)]):=by
 obtain⟨s1,W⟩:=yo h;unfold fX at h;have R:(x.o ++ x.n).size=x.o.size+x.n.size:=ByteArray.size_append;refine an (N:=118) Tryz.func205 rfl rfl rfl (fun _ Y=>?_);have Z:=St.init w;refine aj (aq ?_);refine nb Y rfl rfl Z fun b3 _ _ Zo Y Z=>GO 6 ?_;intro _ Y;refine sv (v:=fj x) Y (ah aa aa (Y.ev rfl) (Z.cellsAll (i:=0) rfl)) fun _ Y=>?_;refine cQ Y rfl Z (tf x _ ab ab) fun _ _ Y Z=>?_;refine GO 18 ?_;intro _ Y;refine ak (Y.ev rfl) (fun M=>?_) (fun M=>?_)
 ·
  have r:x.k=1:=al M;obtain⟨A,d⟩:=Int.eq_ofNat_of_zero_le (show 0≤x.a by omega)
  have B:x.o.size=x.n.size∧A+x.o.size≤512:=by omega
  have f:ew p x=ss p A x.n:=by unfold ew;rw[if_pos r,d];rfl
  have g:cR p x=decide ((p.extract A p.size).extract 0 x.o.size=x.o):=by unfold cR;rw[if_pos (.inl r),d,←G7,vi];rfl
  refine aj ?_;apply aK Y (fK 18) _ aa
  case h=>
   refine GO 2 ?_;intro _ Y;refine qv Y (fun X b=>aA (v':=ae (A:Int)) (congrArg _ d) (lx (Y.ev rfl) ((Z.grow b).cell (i:=0) rfl rfl))) fun _ Y=>?_;refine GO 2 ?_;intro _ Y;refine nH Y rfl (fun X b=>pq p x.n A _ ab ab) fun _ Y=>?_;refine GO 2 ?_;intro _ Y;refine qv Y (fun X b=>aA (v':=ae (A:Int)) (congrArg _ d) (lx (Y.ev rfl) ((Z.grow b).cell (i:=0) rfl rfl))) fun _ Y=>?_;refine qv Y (fun X b=>bb (l:=A) (h:=p.size) dr (Y.ev rfl) (Y.ev rfl) rfl ab ab) fun _ Y=>?_;refine GO 3 ?_;intro _ Y;refine qv Y (fun X b=>bb (l:=0) (h:=x.o.size) dr (Y.ev rfl) rfl (Y.ev rfl) ab (by rw[ByteArray.size_extract];omega)) fun _ Y=>?_;refine GO 5 ?_;intro _ Y;refine aT fun _ U Zm=>?_;have Z:=Z.grow U;refine GO 6 ?_;intro _ Y;refine bU Y rfl rfl rfl ?_;exact⟨by rw[f,g],Z.below⟩
  case hB=>kernel_rfl
  case hst=>rfl
 ·
  have r:x.k≠1:=al M;refine GO 6 ?_;intro _ Y;refine ak (Y.ev rfl) (fun I=>?_) (fun I=>?_)
  ·
   have j:x.k=2:=al I;obtain⟨A,d⟩:=Int.eq_ofNat_of_zero_le (show 0≤x.a by omega);obtain⟨E,q⟩:=Int.eq_ofNat_of_zero_le (show 0≤x.e by omega)
   have B:x.o.size=0∧A≤E∧E+x.n.size≤512:=by omega
   have u:(p.extract 0 A ++ x.n).size=A+x.n.size:=by rw[ByteArray.size_append,ByteArray.size_extract];omega
   have J:(p.extract 0 A ++ x.n ++ p.extract A E).size=E+x.n.size:=by rw[ByteArray.size_append,u,ByteArray.size_extract];omega
   have H:(p.extract 0 A).size=A:=by rw[ByteArray.size_extract];omega
   have F:(p.extract A E).size=E-A:=by rw[ByteArray.size_extract];omega
   have K:(p.extract (E+x.n.size) p.size).size=512-(E+x.n.size):=by rw[ByteArray.size_extract];omega
   have f:ew p x=p.extract 0 A ++ x.n ++ p.extract A E ++ p.extract (E+x.n.size) p.size:=by unfold ew;rw[if_neg r,if_pos j,d,q,CT];rfl
   have g:cR p x=iT (bl (p.extract E (E+x.n.size))):=by unfold cR;rw[if_neg ab,if_pos j,q,uA,←dP];rfl
   refine aj ?_;apply aK Y (fK 30) _ aa
   case h=>
    refine GO 2 ?_;intro _ Y;refine qv Y (fun X b=>aA (v':=ae (A:Int)) (congrArg _ d) (lx (Y.ev rfl) ((Z.grow b).cell (i:=0) rfl rfl))) fun _ Y=>?_;refine qv Y (fun X b=>bb (l:=0) (h:=A) dr (Y.ev rfl) rfl (Y.ev rfl) ab ab) fun _ Y=>?_;refine GO 2 ?_;intro _ Y;refine qv Y (fun X b=>kc (Y.ev rfl) (Y.ev rfl) ab) fun _ Y=>?_;refine GO 2 ?_;intro _ Y;refine qv Y (fun X b=>aA (v':=ae (A:Int)) (congrArg _ d) (lx (Y.ev rfl) ((Z.grow b).cell (i:=0) rfl rfl))) fun _ Y=>?_;refine GO 1 ?_;intro _ Y;refine qv Y (fun X b=>aA (v':=ae (E:Int)) (congrArg _ q) (lx (Y.ev rfl) ((Z.grow b).cell (i:=0) rfl rfl))) fun _ Y=>?_;refine qv Y (fun X b=>bb (l:=A) (h:=E) dr (Y.ev rfl) (Y.ev rfl) (Y.ev rfl) ab ab) fun _ Y=>?_;refine qv Y (fun X b=>kc (Y.ev rfl) (Y.ev rfl) ab) fun _ Y=>?_;refine GO 2 ?_;intro _ Y;refine qv Y (fun X b=>aA (v':=ae (E:Int)) (congrArg _ q) (lx (Y.ev rfl) ((Z.grow b).cell (i:=0) rfl rfl))) fun _ Y=>?_;refine GO 1 ?_;intro _ Y;refine qv Y (fun X b=>aA (v':=ae ((E+x.n.size:Nat):Int)) (congrArg _ ab) (cM (Y.ev rfl) (Y.ev rfl) ab)) fun _ Y=>?_;refine qv Y (fun X b=>bb (l:=E+x.n.size) (h:=p.size) dr (Y.ev rfl) (Y.ev rfl) rfl ab ab) fun _ Y=>?_;refine qv Y (fun X b=>kc (Y.ev rfl) (Y.ev rfl) ab) fun _ Y=>?_;refine GO 2 ?_;intro _ Y;refine qv Y (fun X b=>aA (v':=ae (E:Int)) (congrArg _ q) (lx (Y.ev rfl) ((Z.grow b).cell (i:=0) rfl rfl))) fun _ Y=>?_;refine GO 1 ?_;intro _ Y;refine qv Y (fun X b=>aA (v':=ae (E:Int)) (congrArg _ q) (lx (Y.ev rfl) ((Z.grow b).cell (i:=0) rfl rfl))) fun _ Y=>?_;refine GO 1 ?_;intro _ Y;refine qv Y (fun X b=>aA (v':=ae ((E+x.n.size:Nat):Int)) (congrArg _ ab) (cM (Y.ev rfl) (Y.ev rfl) ab)) fun _ Y=>?_;refine qv Y (fun X b=>bb (l:=E) (h:=E+x.n.size) dr (Y.ev rfl) (Y.ev rfl) (Y.ev rfl) ab ab) fun _ Y=>?_
    refine nH Y rfl (fun X b=>yd _ _ (by rw[ByteArray.size_extract];omega)) fun _ Y=>?_;refine ax ?_;refine aT fun _ V Zn=>?_;have Z:=Z.grow V;refine GO 7 ?_;intro _ Y;refine bU Y rfl rfl rfl ?_;exact⟨by rw[f,g],Z.below⟩
   case hB=>kernel_rfl
   case hst=>rfl
  ·
   have j:x.k≠2:=al I;refine GO 6 ?_;intro _ Y;refine ak (Y.ev rfl) (fun L=>?_) (fun L=>?_)
   ·
    have y:x.k=3:=al L;obtain⟨A,d⟩:=Int.eq_ofNat_of_zero_le (show 0≤x.a by omega);obtain⟨E,q⟩:=Int.eq_ofNat_of_zero_le (show 0≤x.e by omega)
    have B:x.n.size=0∧A+x.o.size≤E∧E≤512:=by omega
    have H:(p.extract 0 A).size=A:=by rw[ByteArray.size_extract];omega
    have Q:(p.extract (A+x.o.size) E).size=E-(A+x.o.size):=by rw[ByteArray.size_extract];omega
    have u:(p.extract 0 A ++ p.extract (A+x.o.size) E).size=E-x.o.size:=by rw[ByteArray.size_append,H,Q];omega
    have F:(bs (cp x.o.size)).size=x.o.size:=o6 _
    have J:(p.extract 0 A ++ p.extract (A+x.o.size) E ++ bs (cp x.o.size)).size=E:=by rw[ByteArray.size_append,u,F];omega
    have K:(p.extract E p.size).size=512-E:=by rw[ByteArray.size_extract];omega
    have f:ew p x=p.extract 0 A ++ p.extract (A+x.o.size) E ++ bs (cp x.o.size) ++ p.extract E p.size:=by unfold ew;rw[if_neg r,if_neg j,if_pos y,d,q,CM];rfl
    have g:cR p x=decide ((p.extract A p.size).extract 0 x.o.size=x.o):=by unfold cR;rw[if_pos (.inr y),d,←G7,vi];rfl
    refine aj ?_;apply aK Y (fK 31) _ aa
    case h=>
     refine GO 2 ?_;intro _ Y;refine qv Y (fun X b=>aA (v':=ae (A:Int)) (congrArg _ d) (lx (Y.ev rfl) ((Z.grow b).cell (i:=0) rfl rfl))) fun _ Y=>?_;refine qv Y (fun X b=>bb (l:=0) (h:=A) dr (Y.ev rfl) rfl (Y.ev rfl) ab ab) fun _ Y=>?_;refine GO 2 ?_;intro _ Y;refine qv Y (fun X b=>aA (v':=ae (A:Int)) (congrArg _ d) (lx (Y.ev rfl) ((Z.grow b).cell (i:=0) rfl rfl))) fun _ Y=>?_;refine GO 1 ?_;intro _ Y;refine qv Y (fun X b=>aA (v':=ae ((A+x.o.size:Nat):Int)) (congrArg _ ab) (cM (Y.ev rfl) (Y.ev rfl) ab)) fun _ Y=>?_;refine GO 1 ?_;intro _ Y;refine qv Y (fun X b=>aA (v':=ae (E:Int)) (congrArg _ q) (lx (Y.ev rfl) ((Z.grow b).cell (i:=0) rfl rfl))) fun _ Y=>?_;refine qv Y (fun X b=>bb (l:=A+x.o.size) (h:=E) dr (Y.ev rfl) (Y.ev rfl) (Y.ev rfl) ab ab) fun _ Y=>?_;refine qv Y (fun X b=>kc (Y.ev rfl) (Y.ev rfl) ab) fun _ Y=>?_;refine qv Y (fun X b=>aA (v':=ae ((x.o.size:Nat):Int)) (congrArg _ ab) (bD (Y.ev rfl))) fun _ Y=>?_;refine nH Y rfl (fun X b=>AQ _ _ ab) fun _ Y=>?_;refine qv Y (fun X b=>kc (Y.ev rfl) (Y.ev rfl) ab) fun _ Y=>?_;refine GO 2 ?_;intro _ Y;refine qv Y (fun X b=>aA (v':=ae (E:Int)) (congrArg _ q) (lx (Y.ev rfl) ((Z.grow b).cell (i:=0) rfl rfl))) fun _ Y=>?_;refine qv Y (fun X b=>bb (l:=E) (h:=p.size) dr (Y.ev rfl) (Y.ev rfl) rfl ab ab) fun _ Y=>?_;refine qv Y (fun X b=>kc (Y.ev rfl) (Y.ev rfl) ab) fun _ Y=>?_;refine GO 2 ?_;intro _ Y;refine qv Y (fun X b=>aA (v':=ae (A:Int)) (congrArg _ d) (lx (Y.ev rfl) ((Z.grow b).cell (i:=0) rfl rfl))) fun _ Y=>?_;refine qv Y (fun X b=>bb (l:=A) (h:=p.size) dr (Y.ev rfl) (Y.ev rfl) rfl ab ab) fun _ Y=>?_;refine qv Y (fun X b=>aA (v':=ae ((x.o.size:Nat):Int)) (congrArg _ ab) (bD (Y.ev rfl))) fun _ Y=>?_
     refine qv Y (fun X b=>bb (l:=0) (h:=x.o.size) dr (Y.ev rfl) rfl (Y.ev rfl) ab (by rw[ByteArray.size_extract];omega)) fun _ Y=>?_;refine GO 5 ?_;intro _ Y;refine aT fun _ S Zk=>?_;have Z:=Z.grow S;refine GO 6 ?_;intro _ Y;refine bU Y rfl rfl rfl ?_;exact⟨by rw[f,g],Z.below⟩
    case hB=>kernel_rfl
    case hst=>rfl
   ·
    have y:x.k≠3:=al L;refine GO 7 ?_;intro _ Y;refine ak (Y.ev rfl) (fun D=>?_) (fun D=>?_)
    ·
     refine wp_skip (ai ?_);refine ak (Y.ev rfl) (fun z=>?_) (fun z=>?_)
     ·
      have m:x.k=4:=al D;obtain⟨A,d⟩:=Int.eq_ofNat_of_zero_le (show 0≤x.a by omega);obtain⟨C,t⟩:=Int.eq_ofNat_of_zero_le (show 0≤x.c by omega)
      have B:A+C≤8*p.size:=by omega
      have f:ew p x=bs (bK (bl p) A C (x.k==4)):=by unfold ew;rw[if_neg r,if_neg j,if_neg y,if_pos m,d,t,m];rfl
      have g:cR p x=cr (bl p) A C (x.k==4):=by unfold cR;rw[if_neg ab,if_neg j,if_pos m,d,t,m];rfl
      refine GO 4 ?_;intro _ Y;refine sv Y (aA (v':=ae (A:Int)) (congrArg _ d) (lx (Y.ev rfl) (Z.cell (i:=0) rfl rfl))) fun _ Y=>?_;refine GO 1 ?_;intro _ Y;refine sv Y (aA (v':=ae (C:Int)) (congrArg _ t) (lx (Y.ev rfl) (Z.cell (i:=0) rfl rfl))) fun _ Y=>?_;refine GO 3 ?_;intro _ Y;refine cQ Y rfl Z (mz p A C (x.k==4) _ ab B) fun _ _ Y Z=>?_;refine GO 9 ?_;intro _ Y;refine bU Y rfl rfl rfl ?_;exact⟨by rw[f,g];rfl,Z.below⟩
     ·
      exact absurd (D.symm.trans z) au
    ·
     refine GO 5 ?_;intro _ Y;refine ak (Y.ev rfl) (fun z=>?_) (fun z=>?_)
     ·
      have m:x.k≠4:=al D;have s:x.k=5:=al z;obtain⟨A,d⟩:=Int.eq_ofNat_of_zero_le (show 0≤x.a by omega);obtain⟨C,t⟩:=Int.eq_ofNat_of_zero_le (show 0≤x.c by omega)
      have B:A+C≤8*p.size:=by omega
      have f:ew p x=bs (bK (bl p) A C (x.k==4)):=by unfold ew;rw[if_neg r,if_neg j,if_neg y,if_neg m,if_pos s,d,t,s];rfl
      have g:cR p x=cr (bl p) A C (x.k==4):=by unfold cR;rw[if_neg ab,if_neg j,if_neg m,if_pos s,d,t,s];rfl
      refine GO 4 ?_;intro _ Y;refine sv Y (aA (v':=ae (A:Int)) (congrArg _ d) (lx (Y.ev rfl) (Z.cell (i:=0) rfl rfl))) fun _ Y=>?_;refine GO 1 ?_;intro _ Y;refine sv Y (aA (v':=ae (C:Int)) (congrArg _ t) (lx (Y.ev rfl) (Z.cell (i:=0) rfl rfl))) fun _ Y=>?_;refine GO 3 ?_;intro _ Y;refine cQ Y rfl Z (mz p A C (x.k==4) _ ab B) fun _ _ Y Z=>?_;refine GO 9 ?_;intro _ Y;refine bU Y rfl rfl rfl ?_;exact⟨by rw[f,g];rfl,Z.below⟩
     ·
      have m:x.k≠4:=al D;have s:x.k≠5:=al z;refine GO 6 ?_;intro _ Y;refine ak (Y.ev rfl) (fun O=>?_) (fun O=>?_)
      ·
       have G:x.k=6:=al O
       have f:ew p x=x.n:=by unfold ew;rw[if_neg r,if_neg j,if_neg y,if_neg m,if_neg s,if_pos G]
       have g:cR p x=decide (p=x.o):=by unfold cR;rw[if_neg ab,if_neg j,if_neg m,if_neg s,if_pos G,G7]
       refine aj ?_;apply aK Y (fK 7) _ aa
       case h=>
        refine GO 8 ?_;intro _ Y;refine aT fun _ T Zl=>?_;have Z:=Z.grow T;refine GO 6 ?_;intro _ Y;refine bU Y rfl rfl rfl ?_;exact⟨by rw[f,g],Z.below⟩
       case hB=>kernel_rfl
       case hst=>rfl
      ·
       have G:x.k≠6:=al O
       have f:ew p x=p:=by unfold ew;rw[if_neg r,if_neg j,if_neg y,if_neg m,if_neg s,if_neg G]
       have g:cR p x=true:=by unfold cR;rw[if_neg ab,if_neg j,if_neg m,if_neg s,if_neg G]
       refine GO 11 ?_;intro _ Y;refine bU Y rfl rfl rfl ?_;exact⟨by rw[f,g],Z.below⟩
open Go.RowKit
section
variable {P:Program}
theorem cU {ops:Array Oper} {rest:List Oper} {o:Oper} {a:Act} {w:World} {Q:Exit→Act→World→Prop} (d:o.guard=none) (t:TypeId) (b:Array (Nat × Operand)) (e:o.op=.build t b)
 (cells:Array Value) (c:P.built t (b.map fun (i,x)=>(i,a.eval x)).toList=some cells)
 (h:wpList P ops Q rest (a.put o.dst (.agg cells)) w):wpList P ops Q (o::rest) a w:=
 wpList_build d t b e (by rw[c];rfl) (by rw[c];exact h)
end
def fv:Array Value:=#[.bool false,.bool false,.bool false,.bool false,.bool false,.bool true,.bool false,.bool false,.bool true,.bool true,
 .bool true,.bool true,.bool false,.bool false,.bool true,.bool true,.bool true,.bool false,.bool true,.bool false,.bool true,.bool false,.bool true,.bool false,.bool false,
 .bool true,.bool false,.bool true,.bool false,.bool false,.bool false,.bool false,.bool false,.bool true,.bool true]
def wQ:Array Value:=Array.replicate 35 (.bool false)
theorem Be (w:World):Calls Tryz.prog 213 #[] w fun e w'=>e=.returned (.agg fv)∧Below w.heap.size w w':=by
 go_enter Tryz.func213,Tryz.ntmps213
 go_upto_region 1 with (fail)
 apply wp_region_lit;refine cU rfl 303 _ rfl #[.bool false,.bool false,.bool false,.bool false,.bool false] aa ?_;refine cU rfl 303 _ rfl #[.bool true,.bool false,.bool false,.bool true,.bool true] aa ?_;refine cU rfl 303 _ rfl #[.bool true,.bool true,.bool false,.bool false,.bool true] aa ?_;refine cU rfl 303 _ rfl #[.bool true,.bool true,.bool false,.bool true,.bool false] aa ?_;refine cU rfl 303 _ rfl #[.bool true,.bool false,.bool true,.bool false,.bool false] aa ?_;refine cU rfl 303 _ rfl #[.bool true,.bool false,.bool true,.bool false,.bool false] aa ?_;refine cU rfl 303 _ rfl #[.bool false,.bool false,.bool false,.bool true,.bool true] aa ?_;refine cU rfl 304 _ rfl fv aa ?_;refine wpList_store_row rfl 304 _ _ rfl w.heap.size fv aa aa 304 _ (heap_alloc_new w _) aa aa aa ?_;apply wpList_nil;have hr:=setRow_heap _ w.heap.size _ fv 304 (0,0) (heap_alloc_new w (.cells wQ 304));have hb:=below_setRow (g:=w.heap.size) (eu (Below.refl w.heap.size w) (.cells wQ 304)) (Nat.le_refl _) fv
 go_wp2
 refine bodyPost_ret (results_cell_row Tryz.results213 _ _ w.heap.size 304 _ (0,0) _ aa hr Tryz.underlying304 rfl aa) rfl ?_;exact⟨rfl,hb⟩
open Go.RowKit Go.Sort
def IN (k:Int):Value:=.agg #[.bool (Ak k),.bool (rL k),.bool (j4 k),.bool (qf k),.bool (rJ k)]
theorem BN {ρ:Operand→Value} {X:World} {d:Option Tmp} {ty:TypeId} {ps:String} {a:Array Edge} {g:Option (Nat × Bool)} {x y:Operand} {k:Int} (b:bB k 0 6=true) (hx:ρ x=.agg fv) (c:ρ y=ae k) :
 (execOp ρ ⟨d,.index 304 x y,ty,ps,a,g⟩).run Tryz.prog X=.ok (.value (IN k)) X:=by
 rw[inB_true] at b
 have:k=0∨k=1∨k=2∨k=3∨k=4∨k=5∨k=6:=by omega
 have e:(Instr.index 304 (.agg fv) (ae k)).run Tryz.prog X=.ok (IN k) X:=by
  rcases this with rfl | rfl | rfl | rfl | rfl | rfl | rfl<;>kernel_rfl
 simp[execOp,hx,c,e]
theorem GZ {x:Op} {A B C D:Bool} (b:bB x.k 0 6=true) (c:A=dC x) (hB:B=dZ x) (a:C=(!dq x.k||decide (0<dA x))) (d:D=(!dq x.k||decide (dA x≤200))) :
 av [bQ A 3,bQ B 10,bQ C 17,bQ D 8,bQ (ga x) 2]=gy x:=by
 unfold gy;rw[b,if_neg au,c,hB,a,d]
theorem rQ (s:ByteArray):decide (s=⟨#[]⟩)=(s.size==0):=by
 by_cases h:s=⟨#[]⟩
 · rw[decide_eq_true h,h];rfl
 · rw[decide_eq_false h]
   have:s.size≠0:=fun e=>h (ByteArray.size_eq_zero_iff.1 e);exact(beq_false_of_ne this).symm
theorem gI (x:Op) (w:World) (ho:x.o.size≤3100) (hn:x.n.size≤3100) :
 bu 144 #[fj x] w (ae (gy x)):=by
 obtain⟨D,g⟩:∃b,b=dZ x:=⟨_,rfl⟩;obtain⟨m,d⟩:∃b,b=dq x.k:=⟨_,rfl⟩;unfold dZ at g;unfold dq at d;refine an (N:=114) Tryz.func144 rfl rfl rfl (fun _ Z=>?_);have U:=St.init w;refine aj (aq ?_);refine nb Z rfl rfl U fun b1 _ _ Qo Z U=>GO 6 ?_;intro _ Z;refine GO 1 ?_;intro _ Z;refine GO 1 ?_;intro _ Z;refine dn Z rfl (bf _ _ _ _) fun _ Z=>?_;refine GO 3 ?_;intro _ Z;refine ak (Z.ev rfl) (fun F=>?_) (fun F=>?_)
 ·
  have B:bB x.k 0 6=false:=al F;refine GO 7 ?_;intro _ Z;refine aC Z rfl rfl ?_;exact⟨by unfold gy;rw[B];rfl,U.below⟩
 ·
  have B:bB x.k 0 6=true:=al F;refine wp_skip (ai (aj ?_));apply eG Z (fun _=>False) [] [(5,303)] [false,false,false,false,true,true] _ aa bG
  case h=>
   refine nH Z rfl (fun X j=>Be _) fun _ Z=>?_;refine GO 1 ?_;intro _ Z;refine qv Z (fun X j=>lx (Z.ev rfl) ((U.grow (Grw.below j)).cell (i:=0) rfl rfl)) fun _ Z=>?_;refine qv Z (fun X j=>BN B (Z.ev rfl) (Z.ev rfl)) fun _ Z=>?_;refine ax ?_;apply cE (O:=(fun _=>False)) (k:=4) (deps:=[]) (R:=NewAny _ 5 _) Z rfl rfl rfl bG NewAny.stable bG (ia NewAny.newT)
   case hx=>exact fun X j H=>kN (dV (z:=.agg #[.bool false,.bool false,.bool false,.bool false,.bool false]) aa) j.size rfl
   intro v3 _ Z;apply gF (k:=5) (deps:=[4]) (kx:=4) (x:=3) (y:=15) (Y:=tU _) Z rfl ⟨rfl,rfl⟩ rfl bG ⟨rfl,rfl⟩ rfl jy rfl rfl (n:=5) aa bG
   case hx=>
    intro X j H;exact⟨(aM (k:=4) H rfl rfl),rfl,rfl⟩
   intro G;refine iA (O:=(fun _=>False)) bG fun _ Zn Zo=>?_;obtain⟨b3,rfl,Qe,q⟩:=StoY.val (v:=G) Z rfl (aD Zo (k:=5) rfl);have U:=U.add (Grw.below Zn) (e:=.box _ _ _) q (fun b hb=>by cases hb;exact⟨Qe,Box.lt q⟩);refine GO 7 ?_;intro _ Z;apply bI (x:=x.a==0) Z U 18 rfl 4 22
   case hf=>
    intro Zp;refine GO 4 ?_;intro _ Z;exact ag ⟨Z.midE 3,U⟩
   case ht=>
    intro Zp;refine GO 4 ?_;intro _ Z;exact ag ⟨Z.midE 3,U⟩
   case h=>
    rintro S Qp ⟨Qq,s⟩
    refine GO 1 ?_;intro _ Z;apply a8 (x:=(rL x.k||x.e==0)) Z s 23 rfl 8 31
    case ht=>
     intro Zq;refine GO 3 ?_;intro _ Z;apply bI (x:=x.e==0) Z s 26 rfl 4 30
     case hf=>
      intro Zr;refine GO 4 ?_;intro _ Z;exact ag ⟨Z.midE 3,s⟩
     case ht=>
      intro Zr;refine GO 4 ?_;intro _ Z;exact ag ⟨Z.midE 3,s⟩
     case h=>
      rintro Jz Qr ⟨Qs,Qf⟩
      refine GO 1 ?_;intro _ Z;exact ag ⟨Z.midE 4,Qf⟩
    case hf=>
     intro Zq;refine GO 3 ?_;intro _ Z;refine cw Z (aE Z _ rfl rfl rfl) rfl rfl fun _ Z=>cw Z (aE Z _ rfl rfl rfl) rfl rfl fun _ Z=>cw Z (aE Z _ rfl rfl rfl) rfl rfl fun _ Z=>GO 2 ?_;intro _ Z;exact ag ⟨Z.midE 7,s⟩
    case h=>
     rintro Jx Qt ⟨Qu,t⟩
     refine GO 1 ?_;intro _ Z;apply a8 (x:=(j4 x.k||x.c==0)) Z t 32 rfl 8 40
     case ht=>
      intro Zs;refine GO 3 ?_;intro _ Z;apply bI (x:=x.c==0) Z t 35 rfl 4 39
      case hf=>
       intro Zt;refine GO 4 ?_;intro _ Z;exact ag ⟨Z.midE 3,t⟩
      case ht=>
       intro Zt;refine GO 4 ?_;intro _ Z;exact ag ⟨Z.midE 3,t⟩
      case h=>
       rintro Jy Qv ⟨Qw,Qg⟩
       refine GO 1 ?_;intro _ Z;exact ag ⟨Z.midE 4,Qg⟩
     case hf=>
      intro Zs;refine GO 3 ?_;intro _ Z;refine cw Z (aE Z _ rfl rfl rfl) rfl rfl fun _ Z=>cw Z (aE Z _ rfl rfl rfl) rfl rfl fun _ Z=>cw Z (aE Z _ rfl rfl rfl) rfl rfl fun _ Z=>GO 2 ?_;intro _ Z;exact ag ⟨Z.midE 7,t⟩
     case h=>
      rintro Jv Qx ⟨Qy,u⟩
      refine GO 1 ?_;intro _ Z;apply a8 (x:=(qf x.k||x.o.size==0)) Z u 41 rfl 8 49
      case ht=>
       intro Zu;refine GO 3 ?_;intro _ Z;apply bI (x:=x.o.size==0) Z u 44 rfl 4 48
       case hf=>
        intro Zv;refine GO 2 ?_;intro _ Z;refine sy Z (aA (v':=.bool (x.o.size==0)) (congrArg _ (rQ _)) (k8 (Z.ev rfl) (Z.ev rfl))) fun _ Z=>?_;refine GO 1 ?_;intro _ Z;exact ag ⟨Z.midE 3,u⟩
       case ht=>
        intro Zv;refine GO 4 ?_;intro _ Z;exact ag ⟨Z.midE 3,u⟩
       case h=>
        rintro Jw Qz ⟨Ja,Qh⟩
        refine GO 1 ?_;intro _ Z;exact ag ⟨Z.midE 4,Qh⟩
      case hf=>
       intro Zu;refine GO 3 ?_;intro _ Z;refine cw Z (aE Z _ rfl rfl rfl) rfl rfl fun _ Z=>cw Z (aE Z _ rfl rfl rfl) rfl rfl fun _ Z=>cw Z (aE Z _ rfl rfl rfl) rfl rfl fun _ Z=>GO 2 ?_;intro _ Z;exact ag ⟨Z.midE 7,u⟩
      case h=>
       rintro Va Jb ⟨Jc,r⟩
       refine GO 1 ?_;intro _ Z;apply a8 (x:=(rJ x.k||x.n.size==0)) Z r 50 rfl 8 58
       case ht=>
        intro Zw;refine GO 3 ?_;intro _ Z;apply bI (x:=x.n.size==0) Z r 53 rfl 4 57
        case hf=>
         intro W;refine GO 2 ?_;intro _ Z;refine sy Z (aA (v':=.bool (x.n.size==0)) (congrArg _ (rQ _)) (k8 (Z.ev rfl) (Z.ev rfl))) fun _ Z=>?_;refine GO 1 ?_;intro _ Z;exact ag ⟨Z.midE 3,r⟩
        case ht=>
         intro W;refine GO 4 ?_;intro _ Z;exact ag ⟨Z.midE 3,r⟩
        case h=>
         rintro M Qi ⟨Qj,T⟩
         refine GO 1 ?_;intro _ Z;exact ag ⟨Z.midE 4,T⟩
       case hf=>
        intro Zw;refine GO 3 ?_;intro _ Z;refine cw Z (aE Z _ rfl rfl rfl) rfl rfl fun _ Z=>cw Z (aE Z _ rfl rfl rfl) rfl rfl fun _ Z=>cw Z (aE Z _ rfl rfl rfl) rfl rfl fun _ Z=>GO 2 ?_;intro _ Z;exact ag ⟨Z.midE 7,r⟩
       case h=>
        rintro L Qk ⟨Ql,l⟩
        refine GO 23 ?_;intro _ I;refine dY I l [(5,.bool D),(6,.bool m)] [4,2,1] ?_ (fun _ _ Z U=>?_)
        ·
         refine ak (I.ev rfl) (fun A=>?_) (fun A=>?_)
         ·
          obtain rfl:D=((x.o.size:Int)==x.n.size):=by rw[g,if_pos (al A)];exact(uE _ _).symm
          obtain rfl:m=true:=by rw[d,show x.k=1 by simpa using A];rfl
          refine GO 12 ?_;intro _ Z;exact⟨Z.re bC,l⟩
         ·
          rw[if_neg (al A)] at g;refine GO 6 ?_;intro _ Z;refine ak (Z.ev rfl) (fun E=>?_) (fun E=>?_)
          ·
           rw[if_pos (al E)] at g
           obtain rfl:D=((x.o.size:Int)==512&&(x.n.size:Int)==512):=by rw[g];exact congr (congrArg _ (uE _ 512).symm) (uE _ 512).symm
           obtain rfl:m=false:=by rw[d,show x.k=6 by simpa using E];rfl
           refine GO 6 ?_;intro _ Z;apply a8 (x:=((x.n.size:Int)==512)) Z l 76 rfl 5 81
           case ht=>
            intro Zz;refine GO 5 ?_;intro _ Z;exact ag ⟨Z.midE 4,l⟩
           case hf=>
            intro Zz;refine GO 5 ?_;intro _ Z;exact ag ⟨Z.midE 4,l⟩
           case h=>
            rintro K Qm ⟨Qn,Q⟩
            refine GO 3 ?_;intro _ Z;exact⟨Z.re bC,Q⟩
          ·
           rw[if_neg (al E)] at g;obtain rfl:D=true:=g;refine GO 7 ?_;intro _ Z;refine ak (Z.ev rfl) (fun C=>?_) (fun C=>?_)
           ·
            obtain rfl:m=true:=by rw[d,show x.k=2 by simpa using C];rfl
            refine wp_skip (ai ?_);refine ak (Z.ev rfl) (fun p=>?_) (fun p=>?_)
            ·
             refine GO 4 ?_;intro _ Z;exact⟨Z.re bC,l⟩
            ·
             exact absurd (C.symm.trans p) au
           ·
            refine GO 5 ?_;intro _ Z;refine ak (Z.ev rfl) (fun p=>?_) (fun p=>?_)
            ·
             obtain rfl:m=true:=by rw[d,show x.k=3 by simpa using p];rfl
             refine GO 4 ?_;intro _ Z;exact⟨Z.re bC,l⟩
            ·
             obtain rfl:m=false:=by
              have Z:x.k≠1:=al A;have Z:x.k≠2:=al C;have Z:x.k≠3:=al p;rw[d]
              cases h:bB x.k 1 3 with
              | false=>rfl
              | true=>rw[inB_true] at h;omega
             refine wp_skip (ai ?_);exact⟨Z.re bC,l⟩
        ·
         refine GO 10 ?_;intro _ Z;refine sv Z (rn aa (Z.ev rfl) (Z.ev rfl)) fun _ Z=>?_;refine GO 4 ?_;intro _ Z;apply aK Z (fK 19) _ aa
         case h=>
          refine GO 1 ?_;intro _ Z;refine iW Z rfl (fun X j=>aJ _ _ _) fun _ Z=>?_;refine GO 1 ?_;intro _ Z;refine iW Z rfl (fun X j=>aJ _ _ _) fun _ Z=>?_;refine GO 3 ?_;intro _ Z;apply fZ (x:=decide (max (x.o.size:Int) x.n.size>0)) Z 98 rfl 3 101
          case hf=>
           intro V;refine GO 3 ?_;intro _ Z;exact ax (Z.midE 2)
          case ht=>
           intro V;refine GO 3 ?_;intro _ Z;exact ax (Z.midE 2)
          case h=>
           intro _ Z;refine iW Z rfl (fun X j=>aJ _ _ _) fun _ Z=>?_;refine GO 3 ?_;intro _ Z;apply fZ (x:=decide (max (x.o.size:Int) x.n.size≤200)) Z 105 rfl 3 108
           case hf=>
            intro Zi;refine GO 3 ?_;intro _ Z;exact ax (Z.midE 2)
           case ht=>
            intro Zi;refine GO 3 ?_;intro _ Z;exact ax (Z.midE 2)
           case h=>
            intro _ Z;refine iW Z rfl (fun X j=>aJ _ _ _) fun _ Z=>?_;refine qv (v:=fj x) Z (fun X j=>ah aa aa (Z.ev rfl) ((U.grow j).cellsAll (i:=1) rfl)) fun _ Z=>?_;refine ax ?_;refine aT fun _ Zj Qc=>?_;have U:=U.grow Zj;refine cQ Z rfl U (uQ x _ ho hn) fun _ _ Z U=>?_;refine bV Z (wn rfl) (f:=fun b=>.slice (some ⟨b,0,none⟩) 5 5) (ba dt aa aa (Z.evs2 rfl) rfl rfl rfl au au) rfl rfl U fun J _ _ Qd Z U=>dn Z rfl (u4 (U.at_ (i:=0) rfl)) fun _ Z=>?_;refine GO 4 ?_;intro _ Z;refine aC Z rfl rfl ?_
            have e1:(!m||decide (max (x.o.size:Int) x.n.size>0))=(!dq x.k||decide (0<dA x)):=by unfold dq dA;rw[←d,show decide (max (x.o.size:Int) x.n.size>0)=decide (0<max x.o.size x.n.size) by rw[decide_eq_decide];omega]
            have e2:(!m||decide (max (x.o.size:Int) x.n.size≤200))=(!dq x.k||decide (max x.o.size x.n.size≤200)):=by unfold dq;rw[←d,show decide (max (x.o.size:Int) x.n.size≤200)=decide (max x.o.size x.n.size≤200) by rw[decide_eq_decide];omega]
            exact⟨by rw[←GZ B rfl g e1 e2];rfl,U.below⟩
         case hB=>kernel_rfl
         case hst=>rfl
  case hB=>kernel_rfl
end Go.Proofs.YtcfdpfmchchkaaaGreatDoor
