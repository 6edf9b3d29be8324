/-
  Chapter 20: protected blocks.
  Chapter 20: plain facts of what stands in a room. No program in sight.
  Chapter 20: pages.
  Chapter 20: what stands in a room, its page.
  Chapter 20: the bytes of a log, its writes.
  Chapter 20: the writes of a log.
-/
import Derived.Test.YtcfdpfmchchkaaaGreatDoorRgB
namespace Go.Proofs.YtcfdpfmchchkaaaGreatDoor
set_option maxRecDepth 4000
set_option linter.unusedVariables false
set_option linter.unusedSimpArgs false
open Go.RowKit Go.Sort
open Go.RowKit
theorem sm {x:RecP} (h:x.b.size≤3000):((w6 x).length:Int)=nj x.b.size:=by
 have:=tN h;unfold w6;simp only[List.length_append,jx,ji,aO,List.length_cons,List.length_nil];omega
def uJ (q:Int) (x:RecP):Int:=max (q*448) (x.l-1)
def tX (q:Int) (x:RecP):Int:=min ((q+1)*448) (ew x)
def AS (q:Int) (x:RecP):List UInt8:=((w6 x).drop (uJ q x-(x.l-1)).toNat).take (tX q x-uJ q x).toNat
theorem iQ (q:Int) (st:List UInt8 × Int × Int) (x:RecP):xy q st x=if tX q x≤uJ q x then st else (kY st.1 (uJ q x-q*448).toNat (AS q x),tX q x-q*448,x.s):=rfl
theorem lz {q:Int} {x:RecP} (h:x.b.size≤3000) (hw:¬tX q x≤uJ q x):((AS q x).length:Int)=tX q x-uJ q x:=by
 have Y:=sm h
 have h2:tX q x≤ew x:=by unfold tX;omega
 have Y:x.l-1≤uJ q x:=by unfold uJ;omega
 unfold ew at h2;unfold AS;rw[List.length_take,List.length_drop];omega
theorem l6 {q:Int} {x:RecP} (hw:¬tX q x≤uJ q x):0≤uJ q x-q*448∧tX q x-q*448≤448:=by
 unfold uJ tX at *;omega
theorem qg {q:Int} {st:List UInt8 × Int × Int} {x:RecP} (hl:st.1.length=448) (h:x.b.size≤3000):(xy q st x).1.length=448:=by
 rw[iQ]
 split
 · exact hl
 · rename_i hw
   have Y:=lz h hw;have Y:=l6 hw;show(kY st.1 _ _).length=448;rw[qK ab,hl]
structure PgI (q:Int) (st:List UInt8 × Int × Int) (e:Int):Prop where
 len:st.1.length=448
 u0:0≤st.2.1
 u1:st.2.1≤448
 ue:st.2.1≤max 0 (e-q*448)
 z:∀i:Nat,st.2.1≤i→st.1.getD i 0=0
theorem PgI.zero (q e:Int):PgI q (bK 448,0,0) e:=⟨ji 448,Int.le_refl _,by decide,by show(0:Int)≤_;omega,fun i _=>sL 448 i⟩
theorem PgI.step {q e:Int} {st:List UInt8 × Int × Int} {x:RecP} (h:PgI q st e) (hs:x.b.size≤3000) (he:e≤x.l-1):PgI q (xy q st x) (ew x):=by
 have hz:=tN hs
 have hb:x.l-1≤ew x:=by unfold ew;omega
 have Y:=h.ue;refine⟨qg h.len hs,?_,?_,?_,?_⟩
 · rw[iQ];split
   · exact h.u0
   · rename_i hw;have:=l6 hw;show 0≤tX q x-q*448;omega
 · rw[iQ];split
   · exact h.u1
   · rename_i hw;exact(l6 hw).2
 · rw[iQ];split
   · omega
   · show tX q x-q*448≤_
     unfold tX;omega
 · intro i hi
   rw[iQ] at hi ⊢
   split
   · rename_i hw;rw[if_pos hw] at hi;exact h.z i hi
   · rename_i hw
     rw[if_neg hw] at hi;have Y:=lz hs hw;have Y:=l6 hw;have hi':tX q x-q*448≤i:=hi;show(kY st.1 (uJ q x-q*448).toNat (AS q x)).getD i 0=0;rw[u9 (by rw[h.len];omega),if_neg ab];apply h.z
     have:x.l-1≤uJ q x:=by unfold uJ;omega
     omega
open Go.RowKit Go.Sort
attribute [local irreducible] fe zo Dk Dn
open Go.RowKit Go.Sort
open Go.RowKit Go.Sort
open Go.RowKit Go.Sort
end Go.Proofs.YtcfdpfmchchkaaaGreatDoor
