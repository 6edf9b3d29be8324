/-
  Chapter 20: protected blocks.
  Chapter 20: plain facts of what stands in a room. No program in sight.
  Chapter 20: pages.
  Chapter 20: what stands in a room, its page.
  Chapter 20: the bytes of a log, its writes.
  Chapter 20: the writes of a log.
-/
import Derived.Test.YtcfdpfmchchkaaaGreatDoorRgB
namespace Go.Proofs.YtcfdpfmchchkaaaGreatDoor
set_option maxRecDepth 4000
set_option linter.unusedVariables false
set_option linter.unusedSimpArgs false
open Go.RowKit Go.Sort
open Go.RowKit
theorem rq {x:RecP} (h:x.b.size≤3000):((xm x).length:Int)=nu x.b.size:=by
 have:=sS h;unfold xm;simp only[List.length_append,jy,jn,aN,List.length_cons,List.length_nil];omega
def uq (q:Int) (x:RecP):Int:=max (q*448) (x.l-1)
def uJ (q:Int) (x:RecP):Int:=min ((q+1)*448) (eE x)
def zZ (q:Int) (x:RecP):List UInt8:=((xm x).drop (uq q x-(x.l-1)).toNat).take (uJ q x-uq q x).toNat
theorem iS (q:Int) (st:List UInt8 × Int × Int) (x:RecP):xg q st x=if uJ q x≤uq q x then st else (kT st.1 (uq q x-q*448).toNat (zZ q x),uJ q x-q*448,x.s):=rfl
theorem ly {q:Int} {x:RecP} (h:x.b.size≤3000) (hw:¬uJ q x≤uq q x):((zZ q x).length:Int)=uJ q x-uq q x:=by
 have Y:=rq h
 have h2:uJ q x≤eE x:=by unfold uJ;omega
 have Y:x.l-1≤uq q x:=by unfold uq;omega
 unfold eE at h2;unfold zZ;rw[List.length_take,List.length_drop];omega
theorem lZ {q:Int} {x:RecP} (hw:¬uJ q x≤uq q x):0≤uq q x-q*448∧uJ q x-q*448≤448:=by
 unfold uq uJ at *;omega
theorem pY {q:Int} {st:List UInt8 × Int × Int} {x:RecP} (hl:st.1.length=448) (h:x.b.size≤3000):(xg q st x).1.length=448:=by
 rw[iS]
 split
 · exact hl
 · rename_i hw
   have Y:=ly h hw;have Y:=lZ hw;show(kT st.1 _ _).length=448;rw[rf ab,hl]
structure PgI (q:Int) (st:List UInt8 × Int × Int) (e:Int):Prop where
 len:st.1.length=448
 u0:0≤st.2.1
 u1:st.2.1≤448
 ue:st.2.1≤max 0 (e-q*448)
 z:∀i:Nat,st.2.1≤i→st.1.getD i 0=0
theorem PgI.zero (q e:Int):PgI q (bS 448,0,0) e:=⟨jn 448,Int.le_refl _,by decide,by show(0:Int)≤_;omega,fun i _=>tI 448 i⟩
theorem PgI.step {q e:Int} {st:List UInt8 × Int × Int} {x:RecP} (h:PgI q st e) (hs:x.b.size≤3000) (he:e≤x.l-1):PgI q (xg q st x) (eE x):=by
 have hz:=sS hs
 have hb:x.l-1≤eE x:=by unfold eE;omega
 have Y:=h.ue;refine⟨pY h.len hs,?_,?_,?_,?_⟩
 · rw[iS];split
   · exact h.u0
   · rename_i hw;have:=lZ hw;show 0≤uJ q x-q*448;omega
 · rw[iS];split
   · exact h.u1
   · rename_i hw;exact(lZ hw).2
 · rw[iS];split
   · omega
   · show uJ q x-q*448≤_
     unfold uJ;omega
 · intro i hi
   rw[iS] at hi ⊢
   split
   · rename_i hw;rw[if_pos hw] at hi;exact h.z i hi
   · rename_i hw
     rw[if_neg hw] at hi;have Y:=ly hs hw;have Y:=lZ hw;have hi':uJ q x-q*448≤i:=hi;show(kT st.1 (uq q x-q*448).toNat (zZ q x)).getD i 0=0;rw[wK (by rw[h.len];omega),if_neg ab];apply h.z
     have:x.l-1≤uq q x:=by unfold uq;omega
     omega
open Go.RowKit Go.Sort
attribute [local irreducible] fm xL Di Dq
open Go.RowKit Go.Sort
open Go.RowKit Go.Sort
open Go.RowKit Go.Sort
end Go.Proofs.YtcfdpfmchchkaaaGreatDoor
