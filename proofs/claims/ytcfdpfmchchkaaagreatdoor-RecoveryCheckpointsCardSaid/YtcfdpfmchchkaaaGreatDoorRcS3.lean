/- Chapter 22, plain -/
import Derived.Test.YtcfdpfmchchkaaaGreatDoorRcS2
namespace Go.Proofs.YtcfdpfmchchkaaaGreatDoor
set_option maxRecDepth 4000
set_option maxHeartbeats 1000000
set_option linter.unusedVariables false
set_option linter.unusedSimpArgs false
open Go.RowKit Go.Sort Go.Shelf
structure TsI (ts0 ts:List Trn):Prop where
 len:ts.length=ts0.length
 i:∀k (h:k<ts.length) (h':k<ts0.length),ts[k].i=ts0[k].i
 l:∀k (h:k<ts.length),0≤ts[k].l∧ts[k].l≤2147483647
 c:∀k (h:k<ts.length) (h':k<ts0.length),ts0[k].c=true→ts[k]=ts0[k]
def Ht (x:Trn) (n:Int):Trn:=⟨x.i,n,x.u,x.c⟩
theorem TsI.turn {ts0 ts:List Trn} (h:TsI ts0 ts) {j:Nat} (g:j<ts.length) (b:j<ts0.length) (m:ts0[j].c=false) {n:Int} (o:0≤n∧n≤2147483647):TsI ts0 (ts.set j (Ht ts[j] n)):=by
 refine⟨by rw[List.length_set];exact h.len,fun k f d=>?_,fun k f=>?_,fun k f d a=>?_⟩
 · rw[List.getElem_set]
   split
   · rename_i e;subst e;exact h.i j g b
   · exact h.i k _ d
 · rw[List.getElem_set]
   split
   · exact o
   · exact h.l k _
 · rw[List.getElem_set]
   split
   · rename_i e;subst e;rw[m] at a;cases a
   · exact h.c k _ d a
theorem TsI.init {t:Tbl} (h:TblOk t):TsI t.ts t.ts:=⟨rfl,fun _ _ _=>rfl,fun k a=>by have:=(h.ts k a).l;omega,fun _ _ _ _=>rfl⟩
open Go.RowKit Go.Sort Go.Shelf
theorem AS {e:Lge} (h:cD e=0):(a8 e).size≤3000:=by
 have b:=(kt h).2.2.2;obtain⟨c,a⟩:=b
 have d:e.o.o.size≤512∧e.o.n.size≤512:=by unfold gr at a;omega
 unfold a8;rw[if_pos h,bq];unfold bK ba;simp only[List.length_append,aB,aP];rw[dR _ 5 ab];omega
open Go.RowKit Go.Sort Go.Shelf
theorem St.add3 {M:List Nat} {w k X:World} {L:List Ent} {j e2 e3:Ent} (l:St M w k L) (h:St M w X (e2::j::L)) (g:e3.ok X) (e:∀b,e3.dom b→k.heap.size≤b∧b<X.heap.size) (i:∀b,e3.dom b→¬e2.dom b) (d:∀b,e3.dom b→¬j.dom b):St M w X (e3::e2::j::L):=by
 refine⟨h.os,h.tape,h.output,h.size,h.block,fun f hf=>?_,fun f hf b a=>?_,List.pairwise_cons.2 ⟨fun f hf b a c=>?_,h.sep⟩⟩
 · rcases List.mem_cons.1 hf with rfl | hf
   · exact g
   · exact h.ok f hf
 · rcases List.mem_cons.1 hf with rfl | hf
   · exact⟨.inl (Nat.le_trans l.size (e b a).1),(e b a).2⟩
   · exact h.new f hf b a
 · rcases List.mem_cons.1 hf with rfl | hf
   · exact i b a c
   · rcases List.mem_cons.1 hf with rfl | hf
     · exact d b a c
     · have:=(e b a).1
       have:=(l.new f hf b c).2;omega
def RcO (B:Nat) (r:RngP) (i:Option Addr × Nat) (X:World):Prop:=X.ownsRow B 177 3 (.slice i.1 r.rs.length i.2) r.rs.length (aJ r.rs)
theorem RcO.grow {B:Nat} {r:RngP} (i:Option Addr × Nat) (X X':World) (h:RcO B r i X) (a:Below X.heap.size X X'):RcO B r i X':=cK h a
structure RuS where
 j:Nat
 u:Upl
 A:Option Addr
 c:Nat
 ts:List Trn
end Go.Proofs.YtcfdpfmchchkaaaGreatDoor
