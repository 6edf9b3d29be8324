/-
  Chapter 21: the first patch between two pages.
  Chapter 21: Between.
  Chapter 21: the bytes of an operation; equal lists of operations.
  Chapter 21: BytesOf, Applied, equal lists, and the examples of the document.
-/
import Derived.Test.YtcfdpfmchchkaaaGreatDoorRcA
namespace Go.Proofs.YtcfdpfmchchkaaaGreatDoor
set_option maxRecDepth 100000
set_option maxHeartbeats 1000000
set_option linter.unusedVariables false
set_option linter.unusedSimpArgs false
open Go.RowKit Go.Sort
open Go.RowKit Go.Sort
open Go.RowKit Go.Sort
structure OpPos (x:Op):Prop where
 k:0≤x.k∧x.k≤5000
 a:0≤x.a∧x.a≤5000
 e:0≤x.e∧x.e≤5000
 c:0≤x.c∧x.c≤5000
 o:x.o.size≤3100
 n:x.n.size≤3100
open Go.RowKit Go.Sort
theorem ml (p:ByteArray) (A:Option Addr) (c:Nat) (l:List Op) (w:World) (hp:p.size≤maxLen) (hl:l.length≤1000) (hs:sD l) (hr:Rd w w.heap.size A (opsV l)) :
 Calls Tryz.prog 149 #[.string p,.slice A l.length c] w fun e w'=>e=.returned (.tuple #[.string (dH p l).1,.int .i64 (dH p l).2.1,.int .i64 (dH p l).2.2])∧Below w.heap.size w w':=by
 by_cases h:p.size=512∧l.length≤64
 · exact nR p A c l w h.1 h.2 hs hr
 · exact np p A c l w hp hl h
def iO (p:ByteArray) (x:Op):ByteArray × Int:=if bY p≠0 then (⟨#[]⟩,bY p) else bL p x
theorem pz {p:ByteArray} {x:Op} (h:(bL p x).2≠0):(bL p x).1=⟨#[]⟩:=by
 unfold bL at *;by_cases h1:e8 x≠0
 · rw[if_pos h1]
 · rw[if_neg h1] at h ⊢
   cases hf:dh p x
   · rfl
   · rw[hf] at h;exact absurd rfl h
theorem wJ (p:ByteArray) (x:Op):(dH p [x]).1=(iO p x).1∧(dH p [x]).2.2=(iO p x).2∧((iO p x).2≠0→(dH p [x]).2.1=0∧(iO p x).1=⟨#[]⟩):=by
 unfold dH iO;by_cases h1:bY p≠0
 · rw[if_pos h1,if_pos h1];exact⟨rfl,rfl,fun _=>⟨rfl,rfl⟩⟩
 · rw[if_neg h1,if_neg h1,if_neg a7,fL]
   by_cases h2:(bL p x).2≠0
   · rw[if_pos h2];exact⟨(pz h2).symm,rfl,fun _=>⟨rfl,pz h2⟩⟩
   · rw[if_neg h2]
     refine⟨rfl,(Classical.not_not.1 h2).symm,fun h=>absurd h h2⟩
theorem sn (p:ByteArray) (x:Op) (w:World) (hp:p.size≤maxLen) (ho:x.o.size≤3100) (hn:x.n.size≤3100) :
 Calls Tryz.prog 96 #[.string p,fC x] w fun r w'=>r=.returned (.tuple #[.string (iO p x).1,.int .i64 (iO p x).2])∧Below w.heap.size w w':=by
 have hC:∀W (g:Nat),Box W g #[.int .i64 x.k,.int .i64 x.a,.int .i64 x.e,.int .i64 x.c,.string x.o,.string x.n] 141→Calls Tryz.prog 149 #[.string p,.slice (some ⟨g,0,none⟩) 1 1] W fun e w'=>e=.returned (.tuple #[.string (dH p [x]).1,.int .i64 (dH p [x]).2.1,.int .i64 (dH p [x]).2.2])∧Below W.heap.size W w':=fun W g hb=>
  ml p (some ⟨g,0,none⟩) 1 [x] W hp a7 (fun j hj=>by
   have:j=0:=by simp at hj;exact hj
   subst this;exact⟨ho,hn⟩) (fun j u hj=>⟨g,0,rfl,hb.lt,by rw[Nat.zero_add,hb.cells j];simpa [opsV,rT] using hj⟩)
 obtain⟨h1,h2,h3⟩:=wJ p x;rw[h1,h2] at hC;obtain⟨s,hs⟩:∃s,s=(iO p x).1:=⟨_,rfl⟩;obtain⟨er,her⟩:∃e,e=(iO p x).2:=⟨_,rfl⟩;obtain⟨i,hi⟩:∃i,i=(dH p [x]).2.1:=⟨_,rfl⟩;rw[←hs,←her,←hi] at hC;rw[←hs,←her,←hi] at h3;rw[←hs,←her];have HC:=Lib.hid hC;clear hC h1 h2 hs her hi;by_cases h0:er=0
 · have h0':(er != 0)=false:=by simp[h0]
   clear h3 h0;unfold fC
   go_enter Tryz.func96,Tryz.ntmps96
   go_wp2_with (first | (go_at_call 149;(with_reducible refine(HC.out _ _ (by simpa using Box.new (w.alloc (.cells #[.int .i64 x.k,.int .i64 x.a,.int .i64 x.e,.int .i64 x.c,.string x.o,.string x.n] 141)) #[.int .i64 x.k,.int .i64 x.a,.int .i64 x.e,.int .i64 x.c,.string x.o,.string x.n] 141)).mono ?_);rintro e W1 ⟨rfl,hbW1⟩))
   go_ret2
   exact⟨rfl,fb⟩
 · obtain⟨g1,g2⟩:=h3 h0
   have h0':(er != 0)=true:=by simp[h0]
   have h1':((i:Int)==0)=true:=by rw[g1];rfl
   have G2:=Lib.hid g2;clear h3 h0 g1 g2;unfold fC
   go_enter Tryz.func96,Tryz.ntmps96
   go_wp2_with (first | (go_at_call 149;(with_reducible refine(HC.out _ _ (by simpa using Box.new (w.alloc (.cells #[.int .i64 x.k,.int .i64 x.a,.int .i64 x.e,.int .i64 x.c,.string x.o,.string x.n] 141)) #[.int .i64 x.k,.int .i64 x.a,.int .i64 x.e,.int .i64 x.c,.string x.o,.string x.n] 141)).mono ?_);rintro e W1 ⟨rfl,hbW1⟩))
   go_ret2
   exact⟨CE G2.out.symm rfl,fb⟩
end Go.Proofs.YtcfdpfmchchkaaaGreatDoor
