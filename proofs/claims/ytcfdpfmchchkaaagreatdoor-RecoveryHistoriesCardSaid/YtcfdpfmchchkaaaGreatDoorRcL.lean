/-
  Chapter 22: the examples of the chapter: a history and its pages; what the program makes of them.
  Chapter 22: the reference's copies and comparisons.
-/
import Derived.Test.YtcfdpfmchchkaaaGreatDoorRcK
namespace Go.Proofs.YtcfdpfmchchkaaaGreatDoor
set_option maxHeartbeats 1000000
set_option maxRecDepth 4000
set_option linter.unusedVariables false
set_option linter.unusedSimpArgs false
open Go.RowKit Go.Sort Go.Shelf
def Df (k a c:Int) (o n:List UInt8):Op:=⟨k,a,0,c,bs o,bs n⟩
def Dv:Lge:=⟨0,1,0,0,3,false,Df 1 64 0 [0] [97],⟨#[]⟩⟩
def Du:Lge:=⟨0,2,0,0,9,true,Df 4 5 1 [] [],⟨#[]⟩⟩
def Ds:Lge:=⟨2,1,1,0,0,false,Cq,⟨#[]⟩⟩
def Dq:Lge:=⟨0,2,41,0,3,false,Df 1 70 0 [0] [98],⟨#[]⟩⟩
def awH:List Rcd:=[⟨1,Dv⟩,⟨41,Du⟩,⟨81,Ds⟩,⟨113,Dq⟩]
def awP:List Pgp:=[⟨3,false,bs (bK 512)⟩,⟨9,true,bs (bK 512)⟩]
theorem fK (w:World):Calls Tryz.prog 58 #[] w fun e w'=>∃A c,e=.returned (.slice A awH.length c)∧w'.ownsRow w.heap.size 145 14 (.slice A awH.length c) awH.length (awH.flatMap bA)∧Below w.heap.size w w':=by
 refine al (N:=13) Tryz.func58 rfl rfl rfl (fun _ Y=>?_);have Z:=St.init w;refine GO 7 ?_;intro _ Y;refine sv Y (ay (zs:=[.int .i64 0,.int .i64 0,.int .i64 0,.int .i64 0,.string ⟨#[]⟩,.string ⟨#[]⟩]) (pl:=[(0,1),(1,1),(2,1),(3,1),(4,1),(5,1)]) aa aa (Y.evs2 rfl) rfl rfl) fun _ Y=>?_;refine sv Y (ay (zs:=[.int .i64 0,.int .i64 0,.int .i64 0,.int .i64 0,.int .i64 0,.bool false,.int .i64 0,.int .i64 0,.int .i64 0,.int .i64 0,.string ⟨#[]⟩,.string ⟨#[]⟩,.string ⟨#[]⟩]) (pl:=[(0,1),(1,1),(2,1),(3,1),(4,1),(5,1),(6,6),(12,1)]) aa aa (Y.evs2 rfl) rfl rfl) fun _ Y=>?_;refine sv Y (ay (zs:=[.int .i64 0,.int .i64 0,.int .i64 0,.int .i64 0,.int .i64 0,.int .i64 0,.bool false,.int .i64 0,.int .i64 0,.int .i64 0,.int .i64 0,.string ⟨#[]⟩,.string ⟨#[]⟩,.string ⟨#[]⟩]) (pl:=[(0,1),(1,13)]) aa aa (Y.evs2 rfl) rfl rfl) fun _ Y=>?_;refine sv Y (ay (zs:=[.int .i64 0,.int .i64 0,.int .i64 0,.int .i64 0,.string ⟨#[]⟩,.string ⟨#[]⟩]) (pl:=[(0,1),(1,1),(2,1),(3,1),(4,1),(5,1)]) aa aa (Y.evs2 rfl) rfl rfl) fun _ Y=>?_;refine sv Y (ay (zs:=[.int .i64 0,.int .i64 0,.int .i64 0,.int .i64 0,.int .i64 0,.bool false,.int .i64 0,.int .i64 0,.int .i64 0,.int .i64 0,.string ⟨#[]⟩,.string ⟨#[]⟩,.string ⟨#[]⟩]) (pl:=[(0,1),(1,1),(2,1),(3,1),(4,1),(5,1),(6,6),(12,1)]) aa aa (Y.evs2 rfl) rfl rfl) fun _ Y=>?_;refine sv Y (ay (zs:=[.int .i64 0,.int .i64 0,.int .i64 0,.int .i64 0,.int .i64 0,.int .i64 0,.bool false,.int .i64 0,.int .i64 0,.int .i64 0,.int .i64 0,.string ⟨#[]⟩,.string ⟨#[]⟩,.string ⟨#[]⟩]) (pl:=[(0,1),(1,13)]) aa aa (Y.evs2 rfl) rfl rfl) fun _ Y=>?_;refine sv Y (ay (zs:=[.int .i64 0,.int .i64 0,.int .i64 0,.int .i64 0,.int .i64 0,.bool false,.int .i64 0,.int .i64 0,.int .i64 0,.int .i64 0,.string ⟨#[]⟩,.string ⟨#[]⟩,.string ⟨#[]⟩]) (pl:=[(0,1),(1,1),(2,1),(3,1),(4,1),(5,1),(6,6),(12,1)]) aa aa (Y.evs2 rfl) rfl rfl) fun _ Y=>?_
 refine sv Y (ay (zs:=[.int .i64 0,.int .i64 0,.int .i64 0,.int .i64 0,.int .i64 0,.int .i64 0,.bool false,.int .i64 0,.int .i64 0,.int .i64 0,.int .i64 0,.string ⟨#[]⟩,.string ⟨#[]⟩,.string ⟨#[]⟩]) (pl:=[(0,1),(1,13)]) aa aa (Y.evs2 rfl) rfl rfl) fun _ Y=>?_;refine sv Y (ay (zs:=[.int .i64 0,.int .i64 0,.int .i64 0,.int .i64 0,.string ⟨#[]⟩,.string ⟨#[]⟩]) (pl:=[(0,1),(1,1),(2,1),(3,1),(4,1),(5,1)]) aa aa (Y.evs2 rfl) rfl rfl) fun _ Y=>?_;refine sv Y (ay (zs:=[.int .i64 0,.int .i64 0,.int .i64 0,.int .i64 0,.int .i64 0,.bool false,.int .i64 0,.int .i64 0,.int .i64 0,.int .i64 0,.string ⟨#[]⟩,.string ⟨#[]⟩,.string ⟨#[]⟩]) (pl:=[(0,1),(1,1),(2,1),(3,1),(4,1),(5,1),(6,6),(12,1)]) aa aa (Y.evs2 rfl) rfl rfl) fun _ Y=>?_;refine sv Y (ay (zs:=[.int .i64 0,.int .i64 0,.int .i64 0,.int .i64 0,.int .i64 0,.int .i64 0,.bool false,.int .i64 0,.int .i64 0,.int .i64 0,.int .i64 0,.string ⟨#[]⟩,.string ⟨#[]⟩,.string ⟨#[]⟩]) (pl:=[(0,1),(1,13)]) aa aa (Y.evs2 rfl) rfl rfl) fun _ Y=>?_;refine dd (zc:=[.int .i64 0,.int .i64 0,.int .i64 0,.int .i64 0,.int .i64 0,.int .i64 0,.bool false,.int .i64 0,.int .i64 0,.int .i64 0,.int .i64 0,.string ⟨#[]⟩,.string ⟨#[]⟩,.string ⟨#[]⟩]) (sz:=14) Y (wn rfl) ⟨rfl,rfl⟩ rfl Tryz.underlying41 aa aa rfl rfl rfl (Y.evs2 rfl) rfl rfl rfl Z fun b12 _ _ Za Y Z=>?_;refine GO 4 ?_;intro _ Y;refine aD Y rfl rfl ?_;have S':=Z.toRow (i:=0) (n:=4) (sz:=14) rfl rfl aq;exact⟨some ⟨b12,0,none⟩,4,rfl,S'.ownB (i:=0) rfl,Z.below⟩
theorem py (w:World):Calls Tryz.prog 59 #[] w fun e w'=>∃A c,e=.returned (.slice A awP.length c)∧w'.ownsRow w.heap.size 111 3 (.slice A awP.length c) awP.length (awP.flatMap cx)∧Below w.heap.size w w':=by
 refine al (N:=6) Tryz.func59 rfl rfl rfl (fun _ Y=>?_);have Z:=St.init w;refine GO 7 ?_;intro _ Y;refine cE Y rfl Z (pq 512 _ aq) fun _ _ Y Z=>?_;refine sv Y (ay (zs:=[.int .i64 0,.bool false,.string ⟨#[]⟩]) (pl:=[(0,1),(1,1),(2,1)]) aa aa (Y.evs2 rfl) rfl rfl) fun _ Y=>?_;refine cE Y rfl Z (pq 512 _ aq) fun _ _ Y Z=>?_;refine sv Y (ay (zs:=[.int .i64 0,.bool false,.string ⟨#[]⟩]) (pl:=[(0,1),(1,1),(2,1)]) aa aa (Y.evs2 rfl) rfl rfl) fun _ Y=>?_;refine dd (zc:=[.int .i64 0,.bool false,.string ⟨#[]⟩]) (sz:=3) Y (wn rfl) ⟨rfl,rfl⟩ rfl Tryz.underlying48 aa aa rfl rfl rfl (Y.evs2 rfl) rfl rfl rfl Z fun b5 _ _ Za Y Z=>?_;refine GO 4 ?_;intro _ Y;refine aD Y rfl rfl ?_;have S':=Z.toRow (i:=0) (n:=2) (sz:=3) rfl rfl aq;exact⟨some ⟨b5,0,none⟩,2,rfl,S'.ownB (i:=0) rfl,Z.below⟩
open Go.RowKit Go.Sort Go.Shelf
theorem Bm {X:World} {B b o k:Nat} {l:List Int} (hr:Rd X B (some ⟨b,o,none⟩) (l.map (.int .i64))) (hk:k<l.length):∀(j:Nat) (u:Value),[Value.int .i64 l[k]][j]? = some u→X.cell? ⟨b,o+k*1+j,none⟩=some u
 | 0,u,hu=>by
  obtain⟨b',o',e,_,hc⟩:=hr k u (by rw[List.getElem?_map,List.getElem?_eq_getElem hk];exact hu);injection e with e;injection e with e1 e2;subst e1 e2;rw[Nat.mul_one,Nat.add_zero];exact hc
 | j+1,u,hu=>by simp at hu
theorem tO {α:Type} {a b:List α} (hl:a.length=b.length) (h:∀k (h1:k<a.length) (h2:k<b.length),a[k]=b[k]):a=b:=List.ext_getElem hl h
theorem vz (xs ys:List Int) (A A':Option Addr) (c c':Nat) (w:World) (hr:Rd w w.heap.size A (xs.map (.int .i64))) (hr':Rd w w.heap.size A' (ys.map (.int .i64))) (hl:xs.length≤100000) :
 Calls Tryz.prog 33 #[.slice A xs.length c,.slice A' ys.length c'] w fun e w'=>e=.returned (.bool (decide (xs=ys)))∧Below w.heap.size w w':=by
 refine al (N:=26) Tryz.func33 rfl rfl rfl (fun _ Y=>?_);have Z:=St.init w;refine GO 8 ?_;intro _ h1;refine GO 1 ?_;intro _ h2;refine GO 6 ?_;intro _ Y;refine ak (Y.ev rfl) (fun Za=>?_) (fun Za=>?_)
 ·
  have hne:xs≠ys:=fun q=>by rw[q] at Za;simp at Za
  refine GO 7 ?_;intro _ Y;refine aD Y rfl rfl ?_;exact⟨by rw[decide_eq_false hne],Z.below⟩
 ·
  have hle:xs.length=ys.length:=by have:((xs.length:Int) != ys.length)=false:=Za;simp at this;omega
  refine GO 9 ?_;intro _ Y;refine aY Y Z [0,1] (fun (j:Nat)=>[(5,.int .i64 (j:Nat))]) (fun (j:Nat)=>j≤xs.length∧∀k (h1:k<xs.length) (h2:k<ys.length),k<j→xs[k]=ys[k]) (fun (j:Nat) L=>L) (fun (j:Nat)=>xs.length-j) (0) (⟨Nat.zero_le _,fun k _ _ h=>absurd h (Nat.not_lt_zero _)⟩) bz (Z) ?_;intro j _ _ Ze Y Z;refine GO 9 ?_;intro _ Y;refine ak (Y.ev rfl) (fun Zb=>?_) (fun Zb=>?_)
  ·
   have hlt:j<xs.length:=by have:=of_decide_eq_true Zb;omega
   have hlt':j<ys.length:=by omega
   obtain⟨b,o,rfl,hB,_⟩:=hr.opened (by rw[List.length_map];omega);obtain⟨b',o',rfl,hB',_⟩:=hr'.opened (by rw[List.length_map];omega);refine wp_skip (ag (ah (wp_block (ah ?_))));apply aH Y (eZ 8) _ aa
   case h=>
    refine GO 2 ?_;intro _ Y;refine qv Y (fun X hX=>au (i:=j) (sz:=1) Tryz.underlying53 aa (Y.ev rfl) (Y.ev rfl) ab ab rfl) fun _ Y=>?_;refine qv Y (fun X hX=>lx (Y.ev rfl) ((Bm ((Z.grow hX).rd0 hr) hlt) 0 _ rfl)) fun _ Y=>?_;refine GO 2 ?_;intro _ Y;refine qv Y (fun X hX=>au (i:=j) (sz:=1) Tryz.underlying53 aa (Y.ev rfl) (Y.ev rfl) ab ab rfl) fun _ Y=>?_;refine qv Y (fun X hX=>lx (Y.ev rfl) ((Bm ((Z.grow hX).rd0 hr') hlt') 0 _ rfl)) fun _ Y=>?_;refine av ?_;refine aP fun _ Zc Zf=>?_;have Z:=Z.grow Zc;refine GO 3 ?_;intro _ Y;refine ak (Y.ev rfl) (fun Zd=>?_) (fun Zd=>?_)
    ·
     have hne:xs≠ys:=fun q=>by subst q;simp at Zd
     refine GO 11 ?_;intro _ Y;refine aD Y rfl rfl ?_;exact⟨by rw[decide_eq_false hne],Z.below⟩
    ·
     have heq:xs[j]=ys[j]:=by simpa using Zd
     refine GO 9 ?_;intro _ Y;exact⟨j+1,ab,⟨hlt,fun k h1 h2 hk=>by rcases Nat.lt_or_eq_of_le (show k≤j by omega) with q | q;exact Ze.2 k h1 h2 q;subst q;exact heq⟩,Y.re bz,Z⟩
   case hB=>kernel_rfl
   case hst=>rfl
  ·
   have hge:xs.length≤j:=by have:=of_decide_eq_false Zb;omega
   have heq:xs=ys:=tO hle fun k h1 h2=>Ze.2 k h1 h2 ab;refine GO 11 ?_;intro _ Y;refine aD Y rfl rfl ?_;exact⟨by rw[decide_eq_true heq],Z.below⟩
theorem tC (l:List Rcd) (A:Option Addr) (c:Nat) (w:World) (hr:Rd w w.heap.size A (l.flatMap bA)) (hl:l.length≤1000) :
 Calls Tryz.prog 25 #[.slice A l.length c] w fun e w'=>∃A' c',e=.returned (.slice A' l.length c')∧w'.ownsRow w.heap.size 145 14 (.slice A' l.length c') l.length (l.flatMap bA)∧Below w.heap.size w w':=by
 refine al (N:=6) Tryz.func25 rfl rfl rfl (fun _ Y=>?_);have Z:=St.init w;refine GO 7 ?_;intro _ Y;refine dd (zc:=[.int .i64 0,.int .i64 0,.int .i64 0,.int .i64 0,.int .i64 0,.int .i64 0,.bool false,.int .i64 0,.int .i64 0,.int .i64 0,.int .i64 0,.string ⟨#[]⟩,.string ⟨#[]⟩,.string ⟨#[]⟩]) (sz:=14) Y (wn rfl) ⟨rfl,rfl⟩ rfl Tryz.underlying41 aa aa rfl rfl rfl (Y.evs2 rfl) rfl rfl rfl Z fun b3 _ _ Za Y Z=>?_;refine GO 1 ?_;intro _ Y;have Z:=Z.toRow (i:=0) (n:=0) (sz:=14) rfl rfl aq;refine bG (z:=.agg #[.int .i64 0,.int .i64 0,.int .i64 0,.int .i64 0,.int .i64 0,.int .i64 0,.bool false,.int .i64 0,.int .i64 0,.int .i64 0,.int .i64 0,.string ⟨#[]⟩,.string ⟨#[]⟩,.string ⟨#[]⟩]) (sz:=14) (bytes:=136) Y (wn rfl) ⟨rfl,rfl⟩ rfl Tryz.underlying41 aa rfl rfl (Y.ev rfl) (Y.ev rfl) Z (i:=0) rfl (Z.rd0 hr) (by rw[jW aB,Nat.mul_comm]) (fun u hu=>by obtain⟨x,_,hx⟩:=List.mem_flatMap.1 hu;exact yU x u hx) ⟨ab,by decide⟩ fun A5 c5 _ _ Y Z=>?_;refine GO 4 ?_;intro _ Y;refine aD Y rfl rfl ?_;have ho:=Z.ownB (i:=0) rfl;rw[Nat.zero_add] at ho Y;exact⟨A5,c5,by rw[Nat.zero_add],ho,Z.below⟩
end Go.Proofs.YtcfdpfmchchkaaaGreatDoor
