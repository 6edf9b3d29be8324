/- Chapter 22 -/
import Derived.Test.YtcfdpfmchchkaaaGreatDoorRcS3
namespace Go.Proofs.YtcfdpfmchchkaaaGreatDoor
set_option maxHeartbeats 1000000
set_option maxRecDepth 4000
set_option linter.unusedVariables false
set_option linter.unusedSimpArgs false
open Go.RowKit Go.Sort Go.Shelf
theorem fa {B b:Nat} {T a:TypeId} {sz n:Nat} {v:Value} {xs:List Value} (d:T≠a) {X X':World} (h:X.ownsRow B T sz v n xs) (f:Grw (jR b a) X X'):X'.ownsRow B T sz v n xs:=by
 obtain⟨c,h3⟩:=h;refine⟨c,?_⟩;rcases h3 with h3 | ⟨g,cap,cur,e1,e2,e3,e4⟩
 · exact .inl h3
 · refine .inr ⟨g,cap,cur,e1,e2,(f.block g (Array.getElem?_eq_some_iff.1 e3).1 ?_).trans e3,e4⟩
   rintro ⟨_,cs,fr,e⟩
   rw[e3] at e;injection e with e;injection e with _ e;exact d e
theorem TelI.newT {ι:Type} {φ:ι→Value} {R:ι→World→Prop} {B:Nat} {T:TypeId} (c:∀i X X',R i X→Grw (jR B T) X X'→R i X') (v:Value) (X X':World) (h:TelI φ R v X) (d:Grw (jR B T) X X'):TelI φ R v X':=by
 obtain⟨i,b,a⟩:=h;exact⟨i,b,c i X X' a d⟩
def RwN (T:TypeId) (sz n:Nat) (xs:List Value) (B:Nat) (i:Option Addr × Nat) (X:World):Prop:=X.ownsRow B T sz (.slice i.1 n i.2) n xs
theorem RwN.grow {T:TypeId} {sz n:Nat} {xs:List Value} {B:Nat} (i:Option Addr × Nat) (X X':World) (h:RwN T sz n xs B i X) (a:Below X.heap.size X X'):RwN T sz n xs B i X':=cK h a
theorem RwN.newT {T a:TypeId} {sz n:Nat} {xs:List Value} {B d:Nat} (c:T≠a) (i:Option Addr × Nat) (X X':World) (h:RwN T sz n xs B i X) (b:Grw (jR d a) X X'):RwN T sz n xs B i X':=fa c h b
def RwT (t:Tbl) (B:Nat) (i:Option Addr × Nat × Option Addr × Nat) (X:World):Prop:=X.ownsRow B 116 4 (.slice i.1 t.ts.length i.2.1) t.ts.length (t.ts.flatMap cc)∧X.ownsRow B 124 3 (.slice i.2.2.1 t.ds.length i.2.2.2) t.ds.length (t.ds.flatMap cw)
theorem RwT.grow {t:Tbl} {B:Nat} (i:Option Addr × Nat × Option Addr × Nat) (X X':World) (h:RwT t B i X) (a:Below X.heap.size X X'):RwT t B i X':=⟨cK h.1 a,cK h.2 a⟩
theorem RwT.newT {t:Tbl} {B e:Nat} {b:TypeId} (d:116≠b) (a:124≠b) (i:Option Addr × Nat × Option Addr × Nat) (X X':World) (h:RwT t B i X) (c:Grw (jR e b) X X'):RwT t B i X':=⟨fa d h.1 c,fa a h.2 c⟩
def RwU (r:RngP) (t:Tbl) (p:List Pgp) (B:Nat) (i:(Option Addr × Nat) × Option Addr × Nat) (X:World):Prop:=X.ownsRow B 177 3 (.slice i.1.1 (zG r t p).1.rs.length i.1.2) (zG r t p).1.rs.length (aJ (zG r t p).1.rs)∧X.ownsRow B 111 3 (.slice i.2.1 (zG r t p).2.1.length i.2.2) (zG r t p).2.1.length ((zG r t p).2.1.flatMap cS)
theorem RwU.grow {r:RngP} {t:Tbl} {p:List Pgp} {B:Nat} (i:(Option Addr × Nat) × Option Addr × Nat) (X X':World) (h:RwU r t p B i X) (a:Below X.heap.size X X'):RwU r t p B i X':=⟨cK h.1 a,cK h.2 a⟩
theorem RwU.newT {r:RngP} {t:Tbl} {p:List Pgp} {B e:Nat} {b:TypeId} (d:177≠b) (a:111≠b) (i:(Option Addr × Nat) × Option Addr × Nat) (X X':World) (h:RwU r t p B i X) (c:Grw (jR e b) X X'):RwU r t p B i X':=⟨fa d h.1 c,fa a h.2 c⟩
theorem St.newBox2Rows {M:List Nat} {w0 w X:World} {L:List Ent} {b:Nat} {cs:Array Value} {T m n:TypeId} {c n1 i n2:Nat} {r s:Value} {f a:List Value} (h:St M w0 w L) (t:Below w.heap.size w X) (o:Box X b cs T) (hB:w.heap.size≤b) (l:X.ownsRow w.heap.size m c r n1 f) (j:X.ownsRow w.heap.size n i s n2 a) (p:m≠T) (q:n≠T) (d:n≠m):St M w0 X (.box b cs T::.row r n1 m c f::.row s n2 n i a::L):=
 St.add3 h (St.add2 h (h.add t (e:=.row _ _ _ _ _) (a6 j (Nat.zero_le _)) (fun k g=>j.lt k g)) (e2:=.row _ _ _ _ _) (a6 l (Nat.zero_le _)) (fun k g=>l.lt k g) (xq j l d)) (e3:=.box _ _ _) o (fun k g=>by cases g;exact⟨hB,o.lt⟩) (la l o p) (la j o q)
theorem CN (t:Tbl) (A:Option Addr) (c:Nat) (B:Option Addr) (d:Nat) (b:Nat) (w:World) (hB:b≤w.heap.size) (hr:Rd w w.heap.size A (t.ts.flatMap cc)) (f:Rd w w.heap.size B (t.ds.flatMap cw)) (h:t.ts.length≤1000∧t.ds.length≤1000) :
 Calls Tryz.prog 16 #[bW t A c B d] w fun e a=>∃i,e=.returned (G6 t i)∧RwT t b i a∧Below w.heap.size w a:=
 (wK t A c B d w hr f h).mono fun e a ⟨i,g,S⟩=>⟨i,g,⟨a6 (S.ownB (i:=0) rfl) hB,a6 (S.ownB (i:=1) rfl) hB⟩,S.below⟩
theorem BA (r:RngP) (A:Option Addr) (c:Nat) (d:Nat) (w:World) (hB:d≤w.heap.size) (hr:Rd w w.heap.size A (aJ r.rs)) (a:r.rs.length≤1000) :
 Calls Tryz.prog 44 #[a7 r A c] w fun e b=>∃i:Option Addr × Nat,e=.returned (a7 r i.1 i.2)∧RwN 177 3 r.rs.length (aJ r.rs) d i b∧Below w.heap.size w b:=
 (nI r A c w hr a).mono fun e b ⟨f,h,j,g,k⟩=>⟨(f,h),j,a6 g hB,k⟩
end Go.Proofs.YtcfdpfmchchkaaaGreatDoor
