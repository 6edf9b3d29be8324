/- Chapter 22 -/
import Derived.Test.YtcfdpfmchchkaaaGreatDoorRcS1
import Derived.Test.YtcfdpfmchchkaaaGreatDoorRcV
namespace Go.Proofs.YtcfdpfmchchkaaaGreatDoor
set_option maxHeartbeats 1000000
set_option maxRecDepth 4000
set_option linter.unusedVariables false
set_option linter.unusedSimpArgs false
open Go.RowKit Go.Sort Go.Shelf
structure KP (l:List Rcd) (j:Nat) (u:Upl):Prop where
 ok:OkP u.r
 po:PgsOk u.p
 pf:∀x∈l,kI u.p x=0
 n:0≤u.n∧u.n≤j
theorem KP.mono {l:List Rcd} {j k:Nat} {u:Upl} (h:KP l j u) (a:j≤k):KP l k u:=⟨h.ok,h.po,h.pf,by have:=h.n;omega⟩
theorem KP.len {l:List Rcd} {j:Nat} {u:Upl} (h:KP l j u):u.r.rs.length≤1000:=by have:=h.ok.h.len;omega
theorem KP.i6 {l:List Rcd} {j:Nat} {u:Upl} (h:KP l j u):∀y∈u.r.rs,I6 y.l:=fun y b=>by
 obtain⟨k,a,rfl⟩:=List.getElem_of_mem b;have Y:=h.ok.rcd k a;have Y:=h.ok.h.len;unfold I6;omega
structure KU (l:List Rcd) (A0:Option Addr) (rs0:List RecP) (j:Nat) (s:UdS):Prop where
 k:KP l j s.pl
 own:s.own=false→s.A=A0∧s.r.rs=rs0
theorem KU.mono {l:List Rcd} {A0:Option Addr} {rs0:List RecP} {j k:Nat} {s:UdS} (h:KU l A0 rs0 j s) (a:j≤k):KU l A0 rs0 k s:=⟨h.k.mono a,h.own⟩
open Go.RowKit Go.Sort Go.Shelf
def wq {σ α:Type} (F:σ→α→σ × Int):σ→List α→σ × Int
 | s,[]=>(s,0)
 | s,x::r=>if (F s x).2≠0 then (s,(F s x).2) else wq F (F s x).1 r
theorem KeptL.rdBase {M:List Nat} {w X:World} {B:Nat} (h:KeptL M w X) (c:∀b∈M,B≤b) (hB:B≤w.heap.size) {A:Option Addr} {xs:List Value} (hr:Rd w B A xs):Rd X B A xs:=fun j u d=>by
 obtain⟨b,o,f,e,h3⟩:=hr j u d;exact⟨b,o,f,e,(World.cell?_of_block (w:=w) (a:=⟨b,o+j,none⟩) (h.block b ab (fun hm=>by have:=c b hm;omega))).trans h3⟩
def Cy (s:Upl) (x:Lsr):Upl × Int:=if x.u=0 then ED s x.i x.l else (s,0)
def GF (s:Upl) (x:Trn):Upl × Int:=if x.c=true then ED s x.i x.l else (s,0)
open Go.RowKit Go.Sort Go.Shelf
def Gg (ts:List Trn):Nat→Int:=fun k=>match ts[k]? with | some x=>x.l | none=>0
def Hz (l:List Rcd) (t:Tbl) (s:Upl):Upl × Int:=
 if (wq Cy s (iW t.ts)).2≠0 then wq Cy s (iW t.ts) else
 if (tz Ho (Gg t.ts) (wq Cy s (iW t.ts)).1 (Ai l t).1).2≠0 then tz Ho (Gg t.ts) (wq Cy s (iW t.ts)).1 (Ai l t).1 else
 wq GF (tz Ho (Gg t.ts) (wq Cy s (iW t.ts)).1 (Ai l t).1).1 t.ts
open Go.RowKit Go.Sort Go.Shelf
theorem l0 {r:RngP} (h:(cO r).2.2=0):OkP r∧(eA (dy r.rs)).2=0∧cO r=(dy r.rs,(r.rs.length:Int),0):=by
 unfold cO at h ⊢;by_cases a:(bJ r).2=0
 · rw[if_neg (fun q=>q a)] at h ⊢
   by_cases b:(ni r.rs).2=0
   · rw[if_neg (fun q=>q b)] at h ⊢
     by_cases h3:(eA (dy r.rs)).2=0
     · rw[if_neg (fun q=>q h3)]
       exact⟨ok_iff.1 a,h3,rfl⟩
     · rw[if_pos h3] at h;exact absurd h h3
   · rw[if_pos b] at h;exact absurd h b
 · rw[if_pos a] at h;exact absurd h a
theorem EG {r:RngP} (h:(cO r).2.2≠0):(cO r).1=[]:=by
 unfold cO at h ⊢
 split
 · rfl
 · rename_i b
   rw[if_neg b] at h
   split
   · rfl
   · rename_i a
     rw[if_neg a] at h
     split
     · rfl
     · rename_i h3
       rw[if_neg h3] at h;exact absurd rfl h
theorem ya (r:RngP):(cO r).1.length≤r.rs.length:=by
 by_cases h:(cO r).2.2=0
 · rw[(l0 h).2.2];exact Nat.le_of_eq (ql _)
 · rw[EG h];exact Nat.zero_le _
theorem St.addNil {M:List Nat} {w X:World} {L:List Ent} (h:St M w X L):St M w X (F3::L):=
 ⟨h.os,h.tape,h.output,h.size,h.block,fun e a=>by
  rcases List.mem_cons.1 a with rfl | a
  · exact fun j u g=>by simp at g
  · exact h.ok e a,fun e a b c=>by
  rcases List.mem_cons.1 a with rfl | a
  · have d:0≤b∧b<0:=c
    omega
  · exact h.new e a b c,List.pairwise_cons.2 ⟨fun f hf b c=>by have d:0≤b∧b<0:=c;omega,h.sep⟩⟩
def GP (r:RngP) (t:Tbl) (p:List Pgp):Int:=aw [(cO r).2.2,dz t,oh (cO r).1 p]
def D4 (r:RngP) (t:Tbl) (p:List Pgp):Upl × Int:=Hz (cO r).1 t ⟨r,p,0⟩
def Hr (r:RngP) (t:Tbl) (p:List Pgp):Int:=if GP r t p≠0 then GP r t p else if CT (cO r).1 t≠0 then CT (cO r).1 t else (D4 r t p).2
def zG (r:RngP) (t:Tbl) (p:List Pgp):RngP × List Pgp × Int:=if Hr r t p≠0 then (du,[],0) else ((D4 r t p).1.r,(D4 r t p).1.p,(D4 r t p).1.n)
end Go.Proofs.YtcfdpfmchchkaaaGreatDoor
