/-
  Chapter 20: protected blocks.
  Chapter 20: plain facts of what stands in a room. No program in sight.
  Chapter 20: pages.
  Chapter 20: what stands in a room, its page.
  Chapter 20: the bytes of a log, its writes.
  Chapter 20: the writes of a log.
-/
import Derived.Test.YtcfdpfmchchkaaaGreatDoorRgB
namespace Go.Proofs.YtcfdpfmchchkaaaGreatDoor
set_option maxRecDepth 4000
set_option linter.unusedVariables false
set_option linter.unusedSimpArgs false
open Go.RowKit Go.Sort
open Go.RowKit
theorem rm {x:RecP} (h:x.b.size≤3000):((Ad x).length:Int)=nn x.b.size:=by
 have:=tz h;unfold Ad;simp only[List.length_append,jF,jC,aW,List.length_cons,List.length_nil];omega
def vk (q:Int) (x:RecP):Int:=max (q*448) (x.l-1)
def vj (q:Int) (x:RecP):Int:=min ((q+1)*448) (eK x)
def AP (q:Int) (x:RecP):List UInt8:=((Ad x).drop (vk q x-(x.l-1)).toNat).take (vj q x-vk q x).toNat
theorem iP (q:Int) (st:List UInt8 × Int × Int) (x:RecP):yB q st x=if vj q x≤vk q x then st else (lz st.1 (vk q x-q*448).toNat (AP q x),vj q x-q*448,x.s):=rfl
theorem lE {q:Int} {x:RecP} (h:x.b.size≤3000) (hw:¬vj q x≤vk q x):((AP q x).length:Int)=vj q x-vk q x:=by
 have Y:=rm h
 have h2:vj q x≤eK x:=by unfold vj;omega
 have Y:x.l-1≤vk q x:=by unfold vk;omega
 unfold eK at h2;unfold AP;rw[List.length_take,List.length_drop];omega
theorem mi {q:Int} {x:RecP} (hw:¬vj q x≤vk q x):0≤vk q x-q*448∧vj q x-q*448≤448:=by
 unfold vk vj at *;omega
theorem qx {q:Int} {st:List UInt8 × Int × Int} {x:RecP} (hl:st.1.length=448) (h:x.b.size≤3000):(yB q st x).1.length=448:=by
 rw[iP]
 split
 · exact hl
 · rename_i hw
   have Y:=lE h hw;have Y:=mi hw;show(lz st.1 _ _).length=448;rw[r7 ab,hl]
structure PgI (q:Int) (st:List UInt8 × Int × Int) (e:Int):Prop where
 len:st.1.length=448
 u0:0≤st.2.1
 u1:st.2.1≤448
 ue:st.2.1≤max 0 (e-q*448)
 z:∀i:Nat,st.2.1≤i→st.1.getD i 0=0
theorem PgI.zero (q e:Int):PgI q (bX 448,0,0) e:=⟨jC 448,Int.le_refl _,by decide,by show(0:Int)≤_;omega,fun i _=>tP 448 i⟩
theorem PgI.step {q e:Int} {st:List UInt8 × Int × Int} {x:RecP} (h:PgI q st e) (hs:x.b.size≤3000) (he:e≤x.l-1):PgI q (yB q st x) (eK x):=by
 have hz:=tz hs
 have hb:x.l-1≤eK x:=by unfold eK;omega
 have Y:=h.ue;refine⟨qx h.len hs,?_,?_,?_,?_⟩
 · rw[iP];split
   · exact h.u0
   · rename_i hw;have:=mi hw;show 0≤vj q x-q*448;omega
 · rw[iP];split
   · exact h.u1
   · rename_i hw;exact(mi hw).2
 · rw[iP];split
   · omega
   · show vj q x-q*448≤_
     unfold vj;omega
 · intro i hi
   rw[iP] at hi ⊢
   split
   · rename_i hw;rw[if_pos hw] at hi;exact h.z i hi
   · rename_i hw
     rw[if_neg hw] at hi;have Y:=lE hs hw;have Y:=mi hw;have hi':vj q x-q*448≤i:=hi;show(lz st.1 (vk q x-q*448).toNat (AP q x)).getD i 0=0;rw[wY (by rw[h.len];omega),if_neg ab];apply h.z
     have:x.l-1≤vk q x:=by unfold vk;omega
     omega
open Go.RowKit Go.Sort
attribute [local irreducible] fv yS D8 Ef
open Go.RowKit Go.Sort
open Go.RowKit Go.Sort
open Go.RowKit Go.Sort
end Go.Proofs.YtcfdpfmchchkaaaGreatDoor
