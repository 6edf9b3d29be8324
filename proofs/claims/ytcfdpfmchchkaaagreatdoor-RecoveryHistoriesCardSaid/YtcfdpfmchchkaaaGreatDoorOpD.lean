/-
  Chapter 21: the page after an operation, and whether it fits: apply.
  Chapter 21: kinds, the table of the fields of operations.
  Chapter 21: CheckOp.
-/
import Derived.Test.YtcfdpfmchchkaaaGreatDoorOpC
import Derived.Handy
import Derived.Deep.DeepCutAuto
import Derived.Test.YtcfdpfmchchkaaaGreatDoorSplF
namespace Go.Proofs.YtcfdpfmchchkaaaGreatDoor
set_option maxHeartbeats 1000000
set_option maxRecDepth 4000
set_option linter.unusedVariables false
set_option linter.unusedSimpArgs false
open Go.RowKit Go.Sort
theorem uC (p:ByteArray) (a:Nat):bl (p.extract 0 a)=(bl p).take a:=by rw[bq,List.drop_zero]
theorem tY (p:ByteArray) (a:Nat):bl (p.extract a p.size)=(bl p).drop a:=by rw[bq,←aO,List.take_length]
theorem BM (p:ByteArray) (a b:Nat):bl (p.extract a b)=eo (bl p) a b:=bq p a b
theorem BI (p n:ByteArray) (A E:Nat):p.extract 0 A ++ n ++ p.extract A E ++ p.extract (E+n.size) p.size=bs (AT (bl p) A E (bl n)):=by
 apply im;rw[dR,dR,dR,uC,tY,bq];rfl
theorem BO (p:ByteArray) (A E N:Nat):p.extract 0 A ++ p.extract (A+N) E ++ bs (bK N) ++ p.extract E p.size=bs (Ba (bl p) A E N):=by
 apply im;rw[dR,dR,dR,uC,tY,bq];rfl
theorem tS {x:Op} (h:kT x):x.o.size≤512∧x.n.size≤512:=by unfold kT at h;omega
theorem BU (s t:ByteArray):(bl s==bl t)=decide (s=t):=by
 by_cases h:s=t
 · rw[decide_eq_true h,h];exact beq_self_eq_true _
 · rw[decide_eq_false h];exact beq_false_of_ne (fun e=>h (im e))
theorem ou (p:ByteArray) (x:Op) (w:World) (hp:p.size=512) (h:kT x) :
 Calls Tryz.prog 205 #[.string p,fC x] w fun r w'=>r=.returned (.tuple #[.string (ep p x),.bool (dh p x)])∧Below w.heap.size w w':=by
 obtain⟨s1,s2⟩:=tS h;unfold kT at h;have hmz:(x.o ++ x.n).size=x.o.size+x.n.size:=ByteArray.size_append;refine al (N:=118) Tryz.func205 rfl rfl rfl (fun _ Y=>?_);have Z:=St.init w;refine ah (ao ?_);refine nb Y rfl rfl Z fun b3 _ _ Zo Y Z=>?_;refine GO 6 ?_;intro _ Y;refine sv (v:=fC x) Y (ai aa aa (Y.ev rfl) (Z.cellsAll (i:=0) rfl)) fun _ Y=>?_;refine cE Y rfl Z (oH x _ ab ab) fun _ _ Y Z=>?_;refine GO 18 ?_;intro _ Y;refine ak (Y.ev rfl) (fun Ze=>?_) (fun Ze=>?_)
 ·
  have k1:x.k=1:=by simpa using Ze
  obtain⟨A,hA⟩:=Int.eq_ofNat_of_zero_le (show 0≤x.a by omega)
  have f1:x.o.size=x.n.size∧A+x.o.size≤512:=by omega
  have eD:ep p x=qN p A x.n:=by unfold ep;rw[if_pos k1,hA];rfl
  have eF:dh p x=decide ((p.extract A p.size).extract 0 x.o.size=x.o):=by unfold dh;rw[if_pos (.inl k1),hA,←BU,qm];rfl
  refine ah ?_;apply aH Y (eZ 18) _ aa
  case h=>
   refine GO 2 ?_;intro _ Y;refine qv Y (fun X hX=>aw (v':=.int .i64 (A:Int)) (congrArg _ hA) (lx (Y.ev rfl) ((Z.grow hX).cell (i:=0) rfl rfl))) fun _ Y=>?_;refine GO 2 ?_;intro _ Y;refine lT Y rfl (fun X hX=>lI p x.n A _ ab ab) fun _ Y=>?_;refine GO 2 ?_;intro _ Y;refine qv Y (fun X hX=>aw (v':=.int .i64 (A:Int)) (congrArg _ hA) (lx (Y.ev rfl) ((Z.grow hX).cell (i:=0) rfl rfl))) fun _ Y=>?_;refine qv Y (fun X hX=>aR (l:=A) (h:=p.size) Tryz.underlying9 (Y.ev rfl) (Y.ev rfl) rfl ab ab) fun _ Y=>?_;refine GO 3 ?_;intro _ Y;refine qv Y (fun X hX=>aR (l:=0) (h:=x.o.size) Tryz.underlying9 (Y.ev rfl) rfl (Y.ev rfl) ab (by rw[ByteArray.size_extract];omega)) fun _ Y=>?_;refine GO 5 ?_;intro _ Y;refine aP fun _ Zf Zm=>?_;have Z:=Z.grow Zf;refine GO 6 ?_;intro _ Y;refine bC Y rfl rfl rfl ?_;exact⟨by rw[eD,eF],Z.below⟩
  case hB=>kernel_rfl
  case hst=>rfl
 ·
  have k1:x.k≠1:=by simpa using Ze
  refine GO 6 ?_;intro _ Y;refine ak (Y.ev rfl) (fun Zg=>?_) (fun Zg=>?_)
  ·
   have k2:x.k=2:=by simpa using Zg
   obtain⟨A,hA⟩:=Int.eq_ofNat_of_zero_le (show 0≤x.a by omega);obtain⟨E,hE⟩:=Int.eq_ofNat_of_zero_le (show 0≤x.e by omega)
   have f1:x.o.size=0∧A≤E∧E+x.n.size≤512:=by omega
   have hz1:(p.extract 0 A ++ x.n).size=A+x.n.size:=by rw[ByteArray.size_append,ByteArray.size_extract];omega
   have hz2:(p.extract 0 A ++ x.n ++ p.extract A E).size=E+x.n.size:=by rw[ByteArray.size_append,hz1,ByteArray.size_extract];omega
   have hz0:(p.extract 0 A).size=A:=by rw[ByteArray.size_extract];omega
   have hz3:(p.extract A E).size=E-A:=by rw[ByteArray.size_extract];omega
   have hz4:(p.extract (E+x.n.size) p.size).size=512-(E+x.n.size):=by rw[ByteArray.size_extract];omega
   have eD:ep p x=p.extract 0 A ++ x.n ++ p.extract A E ++ p.extract (E+x.n.size) p.size:=by unfold ep;rw[if_neg k1,if_pos k2,hA,hE,BI];rfl
   have eF:dh p x=jG (bl (p.extract E (E+x.n.size))):=by unfold dh;rw[if_neg ab,if_pos k2,hE,BM,←eK];rfl
   refine ah ?_;apply aH Y (eZ 30) _ aa
   case h=>
    refine GO 2 ?_;intro _ Y;refine qv Y (fun X hX=>aw (v':=.int .i64 (A:Int)) (congrArg _ hA) (lx (Y.ev rfl) ((Z.grow hX).cell (i:=0) rfl rfl))) fun _ Y=>?_;refine qv Y (fun X hX=>aR (l:=0) (h:=A) Tryz.underlying9 (Y.ev rfl) rfl (Y.ev rfl) ab ab) fun _ Y=>?_;refine GO 2 ?_;intro _ Y;refine qv Y (fun X hX=>gM (Y.ev rfl) (Y.ev rfl) ab) fun _ Y=>?_;refine GO 2 ?_;intro _ Y;refine qv Y (fun X hX=>aw (v':=.int .i64 (A:Int)) (congrArg _ hA) (lx (Y.ev rfl) ((Z.grow hX).cell (i:=0) rfl rfl))) fun _ Y=>?_;refine GO 1 ?_;intro _ Y;refine qv Y (fun X hX=>aw (v':=.int .i64 (E:Int)) (congrArg _ hE) (lx (Y.ev rfl) ((Z.grow hX).cell (i:=0) rfl rfl))) fun _ Y=>?_;refine qv Y (fun X hX=>aR (l:=A) (h:=E) Tryz.underlying9 (Y.ev rfl) (Y.ev rfl) (Y.ev rfl) ab ab) fun _ Y=>?_;refine qv Y (fun X hX=>gM (Y.ev rfl) (Y.ev rfl) ab) fun _ Y=>?_;refine GO 2 ?_;intro _ Y;refine qv Y (fun X hX=>aw (v':=.int .i64 (E:Int)) (congrArg _ hE) (lx (Y.ev rfl) ((Z.grow hX).cell (i:=0) rfl rfl))) fun _ Y=>?_;refine GO 1 ?_;intro _ Y;refine qv Y (fun X hX=>aw (v':=.int .i64 ((E+x.n.size:Nat):Int)) (congrArg _ ab) (bU (Y.ev rfl) (Y.ev rfl) ab)) fun _ Y=>?_;refine qv Y (fun X hX=>aR (l:=E+x.n.size) (h:=p.size) Tryz.underlying9 (Y.ev rfl) (Y.ev rfl) rfl ab ab) fun _ Y=>?_;refine qv Y (fun X hX=>gM (Y.ev rfl) (Y.ev rfl) ab) fun _ Y=>?_;refine GO 2 ?_;intro _ Y;refine qv Y (fun X hX=>aw (v':=.int .i64 (E:Int)) (congrArg _ hE) (lx (Y.ev rfl) ((Z.grow hX).cell (i:=0) rfl rfl))) fun _ Y=>?_;refine GO 1 ?_;intro _ Y;refine qv Y (fun X hX=>aw (v':=.int .i64 (E:Int)) (congrArg _ hE) (lx (Y.ev rfl) ((Z.grow hX).cell (i:=0) rfl rfl))) fun _ Y=>?_;refine GO 1 ?_;intro _ Y;refine qv Y (fun X hX=>aw (v':=.int .i64 ((E+x.n.size:Nat):Int)) (congrArg _ ab) (bU (Y.ev rfl) (Y.ev rfl) ab)) fun _ Y=>?_;refine qv Y (fun X hX=>aR (l:=E) (h:=E+x.n.size) Tryz.underlying9 (Y.ev rfl) (Y.ev rfl) (Y.ev rfl) ab ab) fun _ Y=>?_
    refine lT Y rfl (fun X hX=>sU _ _ (by rw[ByteArray.size_extract];omega)) fun _ Y=>?_;refine av ?_;refine aP fun _ Zh Zn=>?_;have Z:=Z.grow Zh;refine GO 7 ?_;intro _ Y;refine bC Y rfl rfl rfl ?_;exact⟨by rw[eD,eF],Z.below⟩
   case hB=>kernel_rfl
   case hst=>rfl
  ·
   have k2:x.k≠2:=by simpa using Zg
   refine GO 6 ?_;intro _ Y;refine ak (Y.ev rfl) (fun Zi=>?_) (fun Zi=>?_)
   ·
    have k3:x.k=3:=by simpa using Zi
    obtain⟨A,hA⟩:=Int.eq_ofNat_of_zero_le (show 0≤x.a by omega);obtain⟨E,hE⟩:=Int.eq_ofNat_of_zero_le (show 0≤x.e by omega)
    have f1:x.n.size=0∧A+x.o.size≤E∧E≤512:=by omega
    have hz0:(p.extract 0 A).size=A:=by rw[ByteArray.size_extract];omega
    have hz5:(p.extract (A+x.o.size) E).size=E-(A+x.o.size):=by rw[ByteArray.size_extract];omega
    have hz1:(p.extract 0 A ++ p.extract (A+x.o.size) E).size=E-x.o.size:=by rw[ByteArray.size_append,hz0,hz5];omega
    have hz3:(bs (bK x.o.size)).size=x.o.size:=qB _
    have hz2:(p.extract 0 A ++ p.extract (A+x.o.size) E ++ bs (bK x.o.size)).size=E:=by rw[ByteArray.size_append,hz1,hz3];omega
    have hz4:(p.extract E p.size).size=512-E:=by rw[ByteArray.size_extract];omega
    have eD:ep p x=p.extract 0 A ++ p.extract (A+x.o.size) E ++ bs (bK x.o.size) ++ p.extract E p.size:=by unfold ep;rw[if_neg k1,if_neg k2,if_pos k3,hA,hE,BO];rfl
    have eF:dh p x=decide ((p.extract A p.size).extract 0 x.o.size=x.o):=by unfold dh;rw[if_pos (.inr k3),hA,←BU,qm];rfl
    refine ah ?_;apply aH Y (eZ 31) _ aa
    case h=>
     refine GO 2 ?_;intro _ Y;refine qv Y (fun X hX=>aw (v':=.int .i64 (A:Int)) (congrArg _ hA) (lx (Y.ev rfl) ((Z.grow hX).cell (i:=0) rfl rfl))) fun _ Y=>?_;refine qv Y (fun X hX=>aR (l:=0) (h:=A) Tryz.underlying9 (Y.ev rfl) rfl (Y.ev rfl) ab ab) fun _ Y=>?_;refine GO 2 ?_;intro _ Y;refine qv Y (fun X hX=>aw (v':=.int .i64 (A:Int)) (congrArg _ hA) (lx (Y.ev rfl) ((Z.grow hX).cell (i:=0) rfl rfl))) fun _ Y=>?_;refine GO 1 ?_;intro _ Y;refine qv Y (fun X hX=>aw (v':=.int .i64 ((A+x.o.size:Nat):Int)) (congrArg _ ab) (bU (Y.ev rfl) (Y.ev rfl) ab)) fun _ Y=>?_;refine GO 1 ?_;intro _ Y;refine qv Y (fun X hX=>aw (v':=.int .i64 (E:Int)) (congrArg _ hE) (lx (Y.ev rfl) ((Z.grow hX).cell (i:=0) rfl rfl))) fun _ Y=>?_;refine qv Y (fun X hX=>aR (l:=A+x.o.size) (h:=E) Tryz.underlying9 (Y.ev rfl) (Y.ev rfl) (Y.ev rfl) ab ab) fun _ Y=>?_;refine qv Y (fun X hX=>gM (Y.ev rfl) (Y.ev rfl) ab) fun _ Y=>?_;refine qv Y (fun X hX=>aw (v':=.int .i64 ((x.o.size:Nat):Int)) (congrArg _ ab) (bc (Y.ev rfl))) fun _ Y=>?_;refine lT Y rfl (fun X hX=>vk _ _ ab) fun _ Y=>?_;refine qv Y (fun X hX=>gM (Y.ev rfl) (Y.ev rfl) ab) fun _ Y=>?_;refine GO 2 ?_;intro _ Y;refine qv Y (fun X hX=>aw (v':=.int .i64 (E:Int)) (congrArg _ hE) (lx (Y.ev rfl) ((Z.grow hX).cell (i:=0) rfl rfl))) fun _ Y=>?_;refine qv Y (fun X hX=>aR (l:=E) (h:=p.size) Tryz.underlying9 (Y.ev rfl) (Y.ev rfl) rfl ab ab) fun _ Y=>?_;refine qv Y (fun X hX=>gM (Y.ev rfl) (Y.ev rfl) ab) fun _ Y=>?_;refine GO 2 ?_;intro _ Y;refine qv Y (fun X hX=>aw (v':=.int .i64 (A:Int)) (congrArg _ hA) (lx (Y.ev rfl) ((Z.grow hX).cell (i:=0) rfl rfl))) fun _ Y=>?_;refine qv Y (fun X hX=>aR (l:=A) (h:=p.size) Tryz.underlying9 (Y.ev rfl) (Y.ev rfl) rfl ab ab) fun _ Y=>?_;refine qv Y (fun X hX=>aw (v':=.int .i64 ((x.o.size:Nat):Int)) (congrArg _ ab) (bc (Y.ev rfl))) fun _ Y=>?_
     refine qv Y (fun X hX=>aR (l:=0) (h:=x.o.size) Tryz.underlying9 (Y.ev rfl) rfl (Y.ev rfl) ab (by rw[ByteArray.size_extract];omega)) fun _ Y=>?_;refine GO 5 ?_;intro _ Y;refine aP fun _ Zb Zk=>?_;have Z:=Z.grow Zb;refine GO 6 ?_;intro _ Y;refine bC Y rfl rfl rfl ?_;exact⟨by rw[eD,eF],Z.below⟩
    case hB=>kernel_rfl
    case hst=>rfl
   ·
    have k3:x.k≠3:=by simpa using Zi
    refine GO 7 ?_;intro _ Y;refine ak (Y.ev rfl) (fun Zc=>?_) (fun Zc=>?_)
    ·
     refine wp_skip (ag ?_);refine ak (Y.ev rfl) (fun Za=>?_) (fun Za=>?_)
     ·
      have k4:x.k=4:=by simpa using Zc
      obtain⟨A,hA⟩:=Int.eq_ofNat_of_zero_le (show 0≤x.a by omega);obtain⟨C,hC⟩:=Int.eq_ofNat_of_zero_le (show 0≤x.c by omega)
      have f1:A+C≤8*p.size:=by omega
      have eD:ep p x=bs (bO (bl p) A C (x.k==4)):=by unfold ep;rw[if_neg k1,if_neg k2,if_neg k3,if_pos k4,hA,hC,k4];rfl
      have eF:dh p x=di (bl p) A C (x.k==4):=by unfold dh;rw[if_neg ab,if_neg k2,if_pos k4,hA,hC,k4];rfl
      refine GO 4 ?_;intro _ Y;refine sv Y (aw (v':=.int .i64 (A:Int)) (congrArg _ hA) (lx (Y.ev rfl) (Z.cell (i:=0) rfl rfl))) fun _ Y=>?_;refine GO 1 ?_;intro _ Y;refine sv Y (aw (v':=.int .i64 (C:Int)) (congrArg _ hC) (lx (Y.ev rfl) (Z.cell (i:=0) rfl rfl))) fun _ Y=>?_;refine GO 3 ?_;intro _ Y;refine cE Y rfl Z (j3 p A C (x.k==4) _ ab f1) fun _ _ Y Z=>?_;refine GO 9 ?_;intro _ Y;refine bC Y rfl rfl rfl ?_;exact⟨by rw[eD,eF];rfl,Z.below⟩
     ·
      exact absurd (Zc.symm.trans Za) aq
    ·
     refine GO 5 ?_;intro _ Y;refine ak (Y.ev rfl) (fun Za=>?_) (fun Za=>?_)
     ·
      have k4:x.k≠4:=by simpa using Zc
      have k5:x.k=5:=by simpa using Za
      obtain⟨A,hA⟩:=Int.eq_ofNat_of_zero_le (show 0≤x.a by omega);obtain⟨C,hC⟩:=Int.eq_ofNat_of_zero_le (show 0≤x.c by omega)
      have f1:A+C≤8*p.size:=by omega
      have eD:ep p x=bs (bO (bl p) A C (x.k==4)):=by unfold ep;rw[if_neg k1,if_neg k2,if_neg k3,if_neg k4,if_pos k5,hA,hC,k5];rfl
      have eF:dh p x=di (bl p) A C (x.k==4):=by unfold dh;rw[if_neg ab,if_neg k2,if_neg k4,if_pos k5,hA,hC,k5];rfl
      refine GO 4 ?_;intro _ Y;refine sv Y (aw (v':=.int .i64 (A:Int)) (congrArg _ hA) (lx (Y.ev rfl) (Z.cell (i:=0) rfl rfl))) fun _ Y=>?_;refine GO 1 ?_;intro _ Y;refine sv Y (aw (v':=.int .i64 (C:Int)) (congrArg _ hC) (lx (Y.ev rfl) (Z.cell (i:=0) rfl rfl))) fun _ Y=>?_;refine GO 3 ?_;intro _ Y;refine cE Y rfl Z (j3 p A C (x.k==4) _ ab f1) fun _ _ Y Z=>?_;refine GO 9 ?_;intro _ Y;refine bC Y rfl rfl rfl ?_;exact⟨by rw[eD,eF];rfl,Z.below⟩
     ·
      have k4:x.k≠4:=by simpa using Zc
      have k5:x.k≠5:=by simpa using Za
      refine GO 6 ?_;intro _ Y;refine ak (Y.ev rfl) (fun Zj=>?_) (fun Zj=>?_)
      ·
       have k6:x.k=6:=by simpa using Zj
       have eD:ep p x=x.n:=by unfold ep;rw[if_neg k1,if_neg k2,if_neg k3,if_neg k4,if_neg k5,if_pos k6]
       have eF:dh p x=decide (p=x.o):=by unfold dh;rw[if_neg ab,if_neg k2,if_neg k4,if_neg k5,if_pos k6,BU]
       refine ah ?_;apply aH Y (eZ 7) _ aa
       case h=>
        refine GO 8 ?_;intro _ Y;refine aP fun _ Zd Zl=>?_;have Z:=Z.grow Zd;refine GO 6 ?_;intro _ Y;refine bC Y rfl rfl rfl ?_;exact⟨by rw[eD,eF],Z.below⟩
       case hB=>kernel_rfl
       case hst=>rfl
      ·
       have k6:x.k≠6:=by simpa using Zj
       have eD:ep p x=p:=by unfold ep;rw[if_neg k1,if_neg k2,if_neg k3,if_neg k4,if_neg k5,if_neg k6]
       have eF:dh p x=true:=by unfold dh;rw[if_neg ab,if_neg k2,if_neg k4,if_neg k5,if_neg k6]
       refine GO 11 ?_;intro _ Y;refine bC Y rfl rfl rfl ?_;exact⟨by rw[eD,eF],Z.below⟩
open Go.RowKit
section
variable {P:Program}
theorem bX {ops:Array Oper} {rest:List Oper} {o:Oper} {a:Act} {w:World} {Q:Exit→Act→World→Prop} (hg:o.guard=none) (t:TypeId) (parts:Array (Nat × Operand)) (ho:o.op=.build t parts)
 (cells:Array Value) (hc:P.built t (parts.map fun (i,x)=>(i,a.eval x)).toList=some cells)
 (h:wpList P ops Q rest (a.put o.dst (.agg cells)) w):wpList P ops Q (o::rest) a w:=
 wpList_build hg t parts ho (by rw[hc];rfl) (by rw[hc];exact h)
end
def dN:Array Value:=#[.bool false,.bool false,.bool false,.bool false,.bool false,.bool true,.bool false,.bool false,.bool true,.bool true,
 .bool true,.bool true,.bool false,.bool false,.bool true,.bool true,.bool true,.bool false,.bool true,.bool false,.bool true,.bool false,.bool true,.bool false,.bool false,
 .bool true,.bool false,.bool true,.bool false,.bool false,.bool false,.bool false,.bool false,.bool true,.bool true]
def r6:Array Value:=Array.replicate 35 (.bool false)
theorem uY (w:World):Calls Tryz.prog 213 #[] w fun e w'=>e=.returned (.agg dN)∧Below w.heap.size w w':=by
 go_enter Tryz.func213,Tryz.ntmps213
 go_upto_region 1 with (fail)
 apply wp_region_lit;refine bX rfl 303 _ rfl #[.bool false,.bool false,.bool false,.bool false,.bool false] aa ?_;refine bX rfl 303 _ rfl #[.bool true,.bool false,.bool false,.bool true,.bool true] aa ?_;refine bX rfl 303 _ rfl #[.bool true,.bool true,.bool false,.bool false,.bool true] aa ?_;refine bX rfl 303 _ rfl #[.bool true,.bool true,.bool false,.bool true,.bool false] aa ?_;refine bX rfl 303 _ rfl #[.bool true,.bool false,.bool true,.bool false,.bool false] aa ?_;refine bX rfl 303 _ rfl #[.bool true,.bool false,.bool true,.bool false,.bool false] aa ?_;refine bX rfl 303 _ rfl #[.bool false,.bool false,.bool false,.bool true,.bool true] aa ?_;refine bX rfl 304 _ rfl dN aa ?_;refine wpList_store_row rfl 304 _ _ rfl w.heap.size dN aa aa 304 _ (heap_alloc_new w _) aa aa aa ?_;apply wpList_nil;have hr:=setRow_heap _ w.heap.size _ dN 304 (0,0) (heap_alloc_new w (.cells r6 304));have hb:=below_setRow (g:=w.heap.size) (dU (Below.refl w.heap.size w) (.cells r6 304)) (Nat.le_refl _) dN
 go_wp2
 refine bodyPost_ret (results_cell_row Tryz.results213 _ _ w.heap.size 304 _ (0,0) _ aa hr Tryz.underlying304 rfl aa) rfl ?_;exact⟨rfl,hb⟩
open Go.RowKit Go.Sort
def Di (k:Int):Value:=.agg #[.bool (uZ k),.bool (ma k),.bool (gV k),.bool (mS k),.bool (mq k)]
theorem yf {ρ:Operand→Value} {X:World} {d:Option Tmp} {ty:TypeId} {ps:String} {af:Array Edge} {g:Option (Nat × Bool)} {x y:Operand} {k:Int} (hk:bf k 0 6=true) (hx:ρ x=.agg dN) (hy:ρ y=.int .i64 k) :
 (execOp ρ ⟨d,.index 304 x y,ty,ps,af,g⟩).run Tryz.prog X=.ok (.value (Di k)) X:=by
 rw[inB_true] at hk
 have:k=0∨k=1∨k=2∨k=3∨k=4∨k=5∨k=6:=by omega
 have hI:(Instr.index 304 (.agg dN) (.int .i64 k)).run Tryz.prog X=.ok (Di k) X:=by
  rcases this with rfl | rfl | rfl | rfl | rfl | rfl | rfl<;>kernel_rfl
 simp[execOp,hx,hy,hI]
theorem B8 {x:Op} {A B C D:Bool} (hk:bf x.k 0 6=true) (hA:A=cD x) (hB:B=cT x) (hC:C=(!cw x.k||decide (0<cG x))) (hD:D=(!cw x.k||decide (cG x≤200))) :
 ar [bn A 3,bn B 10,bn C 17,bn D 8,bn (eu x) 2]=e8 x:=by
 unfold e8;rw[hk,if_neg aq,hA,hB,hC,hD]
theorem mC (s:ByteArray):decide (s=⟨#[]⟩)=(s.size==0):=by
 by_cases h:s=⟨#[]⟩
 · rw[decide_eq_true h,h];rfl
 · rw[decide_eq_false h]
   have:s.size≠0:=fun e=>h (ByteArray.size_eq_zero_iff.1 e);exact(beq_false_of_ne this).symm
theorem eQ (x:Op) (w:World) (ho:x.o.size≤3100) (hn:x.n.size≤3100) :
 Calls Tryz.prog 144 #[fC x] w fun r w'=>r=.returned (.int .i64 (e8 x))∧Below w.heap.size w w':=by
 obtain⟨SH,hSH⟩:∃b,b=cT x:=⟨_,rfl⟩;obtain⟨HA,hHA⟩:∃b,b=cw x.k:=⟨_,rfl⟩;unfold cT at hSH;unfold cw at hHA;refine al (N:=114) Tryz.func144 rfl rfl rfl (fun _ Z=>?_);have U:=St.init w;refine ah (ao ?_);refine nb Z rfl rfl U fun b1 _ _ Qo Z U=>?_;refine GO 6 ?_;intro _ Z;refine GO 1 ?_;intro _ Z;refine GO 1 ?_;intro _ Z;refine cC Z rfl (aT _ _ _ _) fun _ Z=>?_;refine GO 3 ?_;intro _ Z;refine ak (Z.ev rfl) (fun Zm=>?_) (fun Zm=>?_)
 ·
  have hk:bf x.k 0 6=false:=by simpa using Zm
  refine GO 7 ?_;intro _ Z;refine aD Z rfl rfl ?_;exact⟨by unfold e8;rw[hk];rfl,U.below⟩
 ·
  have hk:bf x.k 0 6=true:=by simpa using Zm
  refine wp_skip (ag (ah ?_));apply eS Z (fun _=>False) [] [(5,303)] [false,false,false,false,true,true] _ aa bQ
  case h=>
   refine lT Z rfl (fun X hX=>uY _) fun _ Z=>?_;refine GO 1 ?_;intro _ Z;refine qv Z (fun X hX=>lx (Z.ev rfl) ((U.grow (Grw.below hX)).cell (i:=0) rfl rfl)) fun _ Z=>?_;refine qv Z (fun X hX=>yf hk (Z.ev rfl) (Z.ev rfl)) fun _ Z=>?_;refine av ?_;apply ec (O:=(fun _=>False)) (k:=4) (deps:=[]) (R:=NewAny _ 5 _) Z rfl rfl rfl bQ NewAny.stable bQ (wC NewAny.newT)
   case hx=>exact fun X hX hΦ=>kD (eb (z:=.agg #[.bool false,.bool false,.bool false,.bool false,.bool false]) aa) hX.size rfl
   intro v3 _ Z;apply gm (k:=5) (deps:=[4]) (kx:=4) (x:=3) (y:=15) (Y:=p3 _) Z rfl ⟨rfl,rfl⟩ rfl bQ ⟨rfl,rfl⟩ rfl gC rfl rfl (n:=5) aa bQ
   case hx=>
    intro X hX hΦ;exact⟨(bF (k:=4) hΦ rfl rfl),rfl,rfl⟩
   intro vs5;refine iw (O:=(fun _=>False)) bQ fun _ Zn Zo=>?_;obtain⟨b3,rfl,Qe,qb3⟩:=StoY.val (v:=vs5) Z rfl (ba Zo (k:=5) rfl);have U:=U.add (Grw.below Zn) (e:=.box _ _ _) qb3 (fun b hb=>by cases hb;exact⟨Qe,Box.lt qb3⟩);refine GO 7 ?_;intro _ Z;apply bm (x:=x.a==0) Z U 18 rfl 4 22
   case hf=>
    intro Zp;refine GO 4 ?_;intro _ Z;exact ae ⟨Z.midE 3,U⟩
   case ht=>
    intro Zp;refine GO 4 ?_;intro _ Z;exact ae ⟨Z.midE 3,U⟩
   case h=>
    rintro a25 Qp ⟨Qq,Zc⟩
    refine GO 1 ?_;intro _ Z;apply aZ (x:=(ma x.k||x.e==0)) Z Zc 23 rfl 8 31
    case ht=>
     intro Zq;refine GO 3 ?_;intro _ Z;apply bm (x:=x.e==0) Z Zc 26 rfl 4 30
     case hf=>
      intro Zr;refine GO 4 ?_;intro _ Z;exact ae ⟨Z.midE 3,Zc⟩
     case ht=>
      intro Zr;refine GO 4 ?_;intro _ Z;exact ae ⟨Z.midE 3,Zc⟩
     case h=>
      rintro a38 Qr ⟨Qs,Qf⟩
      refine GO 1 ?_;intro _ Z;exact ae ⟨Z.midE 4,Qf⟩
    case hf=>
     intro Zq;refine GO 3 ?_;intro _ Z;refine bI Z (az Z _ rfl rfl rfl) rfl rfl fun _ Z=>?_;refine bI Z (az Z _ rfl rfl rfl) rfl rfl fun _ Z=>?_;refine bI Z (az Z _ rfl rfl rfl) rfl rfl fun _ Z=>?_;refine GO 2 ?_;intro _ Z;exact ae ⟨Z.midE 7,Zc⟩
    case h=>
     rintro a48 Qt ⟨Qu,Zd⟩
     refine GO 1 ?_;intro _ Z;apply aZ (x:=(gV x.k||x.c==0)) Z Zd 32 rfl 8 40
     case ht=>
      intro Zs;refine GO 3 ?_;intro _ Z;apply bm (x:=x.c==0) Z Zd 35 rfl 4 39
      case hf=>
       intro Zt;refine GO 4 ?_;intro _ Z;exact ae ⟨Z.midE 3,Zd⟩
      case ht=>
       intro Zt;refine GO 4 ?_;intro _ Z;exact ae ⟨Z.midE 3,Zd⟩
      case h=>
       rintro a61 Qv ⟨Qw,Qg⟩
       refine GO 1 ?_;intro _ Z;exact ae ⟨Z.midE 4,Qg⟩
     case hf=>
      intro Zs;refine GO 3 ?_;intro _ Z;refine bI Z (az Z _ rfl rfl rfl) rfl rfl fun _ Z=>?_;refine bI Z (az Z _ rfl rfl rfl) rfl rfl fun _ Z=>?_;refine bI Z (az Z _ rfl rfl rfl) rfl rfl fun _ Z=>?_;refine GO 2 ?_;intro _ Z;exact ae ⟨Z.midE 7,Zd⟩
     case h=>
      rintro a71 Qx ⟨Qy,Ze⟩
      refine GO 1 ?_;intro _ Z;apply aZ (x:=(mS x.k||x.o.size==0)) Z Ze 41 rfl 8 49
      case ht=>
       intro Zu;refine GO 3 ?_;intro _ Z;apply bm (x:=x.o.size==0) Z Ze 44 rfl 4 48
       case hf=>
        intro Zv;refine GO 2 ?_;intro _ Z;refine sy Z (aw (v':=.bool (x.o.size==0)) (congrArg _ (mC _)) (jb (Z.ev rfl) (Z.ev rfl))) fun _ Z=>?_;refine GO 1 ?_;intro _ Z;exact ae ⟨Z.midE 3,Ze⟩
       case ht=>
        intro Zv;refine GO 4 ?_;intro _ Z;exact ae ⟨Z.midE 3,Ze⟩
       case h=>
        rintro a84 Qz ⟨Ja,Qh⟩
        refine GO 1 ?_;intro _ Z;exact ae ⟨Z.midE 4,Qh⟩
      case hf=>
       intro Zu;refine GO 3 ?_;intro _ Z;refine bI Z (az Z _ rfl rfl rfl) rfl rfl fun _ Z=>?_;refine bI Z (az Z _ rfl rfl rfl) rfl rfl fun _ Z=>?_;refine bI Z (az Z _ rfl rfl rfl) rfl rfl fun _ Z=>?_;refine GO 2 ?_;intro _ Z;exact ae ⟨Z.midE 7,Ze⟩
      case h=>
       rintro a94 Jb ⟨Jc,Zf⟩
       refine GO 1 ?_;intro _ Z;apply aZ (x:=(mq x.k||x.n.size==0)) Z Zf 50 rfl 8 58
       case ht=>
        intro Zw;refine GO 3 ?_;intro _ Z;apply bm (x:=x.n.size==0) Z Zf 53 rfl 4 57
        case hf=>
         intro Zx;refine GO 2 ?_;intro _ Z;refine sy Z (aw (v':=.bool (x.n.size==0)) (congrArg _ (mC _)) (jb (Z.ev rfl) (Z.ev rfl))) fun _ Z=>?_;refine GO 1 ?_;intro _ Z;exact ae ⟨Z.midE 3,Zf⟩
        case ht=>
         intro Zx;refine GO 4 ?_;intro _ Z;exact ae ⟨Z.midE 3,Zf⟩
        case h=>
         rintro a107 Qi ⟨Qj,Zy⟩
         refine GO 1 ?_;intro _ Z;exact ae ⟨Z.midE 4,Zy⟩
       case hf=>
        intro Zw;refine GO 3 ?_;intro _ Z;refine bI Z (az Z _ rfl rfl rfl) rfl rfl fun _ Z=>?_;refine bI Z (az Z _ rfl rfl rfl) rfl rfl fun _ Z=>?_;refine bI Z (az Z _ rfl rfl rfl) rfl rfl fun _ Z=>?_;refine GO 2 ?_;intro _ Z;exact ae ⟨Z.midE 7,Zf⟩
       case h=>
        rintro a117 Qk ⟨Ql,Za⟩
        refine GO 23 ?_;intro _ Zg;refine dJ Zg Za [(5,.bool SH),(6,.bool HA)] [4,2,1] ?_ (fun _ _ Z U=>?_)
        ·
         refine ak (Zg.ev rfl) (fun Zh=>?_) (fun Zh=>?_)
         ·
          obtain rfl:SH=((x.o.size:Int)==x.n.size):=by rw[hSH,if_pos (by simpa using Zh)];exact(pA _ _).symm
          obtain rfl:HA=true:=by rw[hHA,show x.k=1 by simpa using Zh];rfl
          refine GO 12 ?_;intro _ Z;exact⟨Z.re bz,Za⟩
         ·
          rw[if_neg (by simpa using Zh)] at hSH;refine GO 6 ?_;intro _ Z;refine ak (Z.ev rfl) (fun Zk=>?_) (fun Zk=>?_)
          ·
           rw[if_pos (by simpa using Zk)] at hSH
           obtain rfl:SH=((x.o.size:Int)==512&&(x.n.size:Int)==512):=by rw[hSH];exact congr (congrArg _ (pA _ 512).symm) (pA _ 512).symm
           obtain rfl:HA=false:=by rw[hHA,show x.k=6 by simpa using Zk];rfl
           refine GO 6 ?_;intro _ Z;apply aZ (x:=((x.n.size:Int)==512)) Z Za 76 rfl 5 81
           case ht=>
            intro Zz;refine GO 5 ?_;intro _ Z;exact ae ⟨Z.midE 4,Za⟩
           case hf=>
            intro Zz;refine GO 5 ?_;intro _ Z;exact ae ⟨Z.midE 4,Za⟩
           case h=>
            rintro a152 Qm ⟨Qn,Qa⟩
            refine GO 3 ?_;intro _ Z;exact⟨Z.re bz,Qa⟩
          ·
           rw[if_neg (by simpa using Zk)] at hSH;obtain rfl:SH=true:=hSH;refine GO 7 ?_;intro _ Z;refine ak (Z.ev rfl) (fun Zl=>?_) (fun Zl=>?_)
           ·
            obtain rfl:HA=true:=by rw[hHA,show x.k=2 by simpa using Zl];rfl
            refine wp_skip (ag ?_);refine ak (Z.ev rfl) (fun Zb=>?_) (fun Zb=>?_)
            ·
             refine GO 4 ?_;intro _ Z;exact⟨Z.re bz,Za⟩
            ·
             exact absurd (Zl.symm.trans Zb) aq
           ·
            refine GO 5 ?_;intro _ Z;refine ak (Z.ev rfl) (fun Zb=>?_) (fun Zb=>?_)
            ·
             obtain rfl:HA=true:=by rw[hHA,show x.k=3 by simpa using Zb];rfl
             refine GO 4 ?_;intro _ Z;exact⟨Z.re bz,Za⟩
            ·
             obtain rfl:HA=false:=by
              have Z:x.k≠1:=by simpa using Zh
              have Z:x.k≠2:=by simpa using Zl
              have Z:x.k≠3:=by simpa using Zb
              rw[hHA]
              cases h:bf x.k 1 3 with
              | false=>rfl
              | true=>rw[inB_true] at h;omega
             refine wp_skip (ag ?_);exact⟨Z.re bz,Za⟩
        ·
         refine GO 10 ?_;intro _ Z;refine sv Z (nf aa (Z.ev rfl) (Z.ev rfl)) fun _ Z=>?_;refine GO 4 ?_;intro _ Z;apply aH Z (eZ 19) _ aa
         case h=>
          refine GO 1 ?_;intro _ Z;refine gd Z rfl (fun X hX=>aA _ _ _) fun _ Z=>?_;refine GO 1 ?_;intro _ Z;refine gd Z rfl (fun X hX=>aA _ _ _) fun _ Z=>?_;refine GO 3 ?_;intro _ Z;apply fa (x:=decide (max (x.o.size:Int) x.n.size>0)) Z 98 rfl 3 101
          case hf=>
           intro Qb;refine GO 3 ?_;intro _ Z;exact av (Z.midE 2)
          case ht=>
           intro Qb;refine GO 3 ?_;intro _ Z;exact av (Z.midE 2)
          case h=>
           intro _ Z;refine gd Z rfl (fun X hX=>aA _ _ _) fun _ Z=>?_;refine GO 3 ?_;intro _ Z;apply fa (x:=decide (max (x.o.size:Int) x.n.size≤200)) Z 105 rfl 3 108
           case hf=>
            intro Zi;refine GO 3 ?_;intro _ Z;exact av (Z.midE 2)
           case ht=>
            intro Zi;refine GO 3 ?_;intro _ Z;exact av (Z.midE 2)
           case h=>
            intro _ Z;refine gd Z rfl (fun X hX=>aA _ _ _) fun _ Z=>?_;refine qv (v:=fC x) Z (fun X hX=>ai aa aa (Z.ev rfl) ((U.grow hX).cellsAll (i:=1) rfl)) fun _ Z=>?_;refine av ?_;refine aP fun _ Zj Qc=>?_;have U:=U.grow Zj;refine cE Z rfl U (qc x _ ho hn) fun _ _ Z U=>?_;refine bw Z (wn rfl) (f:=fun b=>.slice (some ⟨b,0,none⟩) 5 5) (aX Tryz.underlying214 aa aa (Z.evs2 rfl) rfl rfl rfl aq aq) rfl rfl U fun b112 _ _ Qd Z U=>?_;refine cC Z rfl (pO (U.at_ (i:=0) rfl)) fun _ Z=>?_;refine GO 4 ?_;intro _ Z;refine aD Z rfl rfl ?_
            have e1:(!HA||decide (max (x.o.size:Int) x.n.size>0))=(!cw x.k||decide (0<cG x)):=by unfold cw cG;rw[←hHA,show decide (max (x.o.size:Int) x.n.size>0)=decide (0<max x.o.size x.n.size) by rw[decide_eq_decide];omega]
            have e2:(!HA||decide (max (x.o.size:Int) x.n.size≤200))=(!cw x.k||decide (max x.o.size x.n.size≤200)):=by unfold cw;rw[←hHA,show decide (max (x.o.size:Int) x.n.size≤200)=decide (max x.o.size x.n.size≤200) by rw[decide_eq_decide];omega]
            exact⟨by rw[←B8 hk rfl hSH e1 e2];rfl,U.below⟩
         case hB=>kernel_rfl
         case hst=>rfl
  case hB=>kernel_rfl
end Go.Proofs.YtcfdpfmchchkaaaGreatDoor
