/-
  Chapter 22: the examples of the chapter: a history and its pages; what the program makes of them.
  An append to a literal without elements, in a drawn region: nothing old is written.
  Chapter 22: the reference's copies and comparisons.
-/
import Derived.Test.YtcfdpfmchchkaaaGreatDoorRcK
namespace Go.Proofs.YtcfdpfmchchkaaaGreatDoor
set_option linter.unusedVariables false
set_option linter.unusedSimpArgs false
set_option maxRecDepth 4000
open Go.RowKit Go.Sort Go.Shelf
def BE (k a c:Int) (o n:List UInt8):Op:=⟨k,a,0,c,bs o,bs n⟩
def BM:Lge:=⟨0,1,0,0,3,false,BE 1 64 0 [0] [97],⟨#[]⟩⟩
def BI:Lge:=⟨0,2,0,0,9,true,BE 4 5 1 [] [],⟨#[]⟩⟩
def BJ:Lge:=⟨2,1,1,0,0,false,BH,⟨#[]⟩⟩
def BL:Lge:=⟨0,2,41,0,3,false,BE 1 70 0 [0] [98],⟨#[]⟩⟩
def awH:List Rcd:=[⟨1,BM⟩,⟨41,BI⟩,⟨81,BJ⟩,⟨113,BL⟩]
def awP:List Pgp:=[⟨3,false,bs (dU 512)⟩,⟨9,true,bs (dU 512)⟩]
theorem fV (w:World):Calls Tryz.prog 58 #[] w fun e w'=>∃A c,e=.returned (.slice A awH.length c)∧w'.ownsRow w.heap.size 145 14 (.slice A awH.length c) awH.length (awH.flatMap cg)∧Below w.heap.size w w':=by
 refine aF (N:=13) Tryz.func58 rfl rfl rfl (fun _ Y=>?_);have Z:=St.init w;refine ab (ah ?_);refine ma Y rfl rfl fun _ Y=>?_;refine cm ?_;refine sv Y (br (zs:=[.int .i64 0,.int .i64 0,.int .i64 0,.int .i64 0,.string ⟨#[]⟩,.string ⟨#[]⟩]) (pl:=[(0,1),(1,1),(2,1),(3,1),(4,1),(5,1)]) (by kernel_rfl) (by kernel_rfl) (Y.evs2 rfl) rfl rfl) fun _ Y=>?_;refine sv Y (br (zs:=[.int .i64 0,.int .i64 0,.int .i64 0,.int .i64 0,.int .i64 0,.bool false,.int .i64 0,.int .i64 0,.int .i64 0,.int .i64 0,.string ⟨#[]⟩,.string ⟨#[]⟩,.string ⟨#[]⟩]) (pl:=[(0,1),(1,1),(2,1),(3,1),(4,1),(5,1),(6,6),(12,1)]) (by kernel_rfl) (by kernel_rfl) (Y.evs2 rfl) rfl rfl) fun _ Y=>?_;refine sv Y (br (zs:=[.int .i64 0,.int .i64 0,.int .i64 0,.int .i64 0,.int .i64 0,.int .i64 0,.bool false,.int .i64 0,.int .i64 0,.int .i64 0,.int .i64 0,.string ⟨#[]⟩,.string ⟨#[]⟩,.string ⟨#[]⟩]) (pl:=[(0,1),(1,13)]) (by kernel_rfl) (by kernel_rfl) (Y.evs2 rfl) rfl rfl) fun _ Y=>?_;refine sv Y (br (zs:=[.int .i64 0,.int .i64 0,.int .i64 0,.int .i64 0,.string ⟨#[]⟩,.string ⟨#[]⟩]) (pl:=[(0,1),(1,1),(2,1),(3,1),(4,1),(5,1)]) (by kernel_rfl) (by kernel_rfl) (Y.evs2 rfl) rfl rfl) fun _ Y=>?_;refine sv Y (br (zs:=[.int .i64 0,.int .i64 0,.int .i64 0,.int .i64 0,.int .i64 0,.bool false,.int .i64 0,.int .i64 0,.int .i64 0,.int .i64 0,.string ⟨#[]⟩,.string ⟨#[]⟩,.string ⟨#[]⟩]) (pl:=[(0,1),(1,1),(2,1),(3,1),(4,1),(5,1),(6,6),(12,1)]) (by kernel_rfl) (by kernel_rfl) (Y.evs2 rfl) rfl rfl) fun _ Y=>?_;refine sv Y (br (zs:=[.int .i64 0,.int .i64 0,.int .i64 0,.int .i64 0,.int .i64 0,.int .i64 0,.bool false,.int .i64 0,.int .i64 0,.int .i64 0,.int .i64 0,.string ⟨#[]⟩,.string ⟨#[]⟩,.string ⟨#[]⟩]) (pl:=[(0,1),(1,13)]) (by kernel_rfl) (by kernel_rfl) (Y.evs2 rfl) rfl rfl) fun _ Y=>?_;refine sv Y (br (zs:=[.int .i64 0,.int .i64 0,.int .i64 0,.int .i64 0,.int .i64 0,.bool false,.int .i64 0,.int .i64 0,.int .i64 0,.int .i64 0,.string ⟨#[]⟩,.string ⟨#[]⟩,.string ⟨#[]⟩]) (pl:=[(0,1),(1,1),(2,1),(3,1),(4,1),(5,1),(6,6),(12,1)]) (by kernel_rfl) (by kernel_rfl) (Y.evs2 rfl) rfl rfl) fun _ Y=>?_
 refine sv Y (br (zs:=[.int .i64 0,.int .i64 0,.int .i64 0,.int .i64 0,.int .i64 0,.int .i64 0,.bool false,.int .i64 0,.int .i64 0,.int .i64 0,.int .i64 0,.string ⟨#[]⟩,.string ⟨#[]⟩,.string ⟨#[]⟩]) (pl:=[(0,1),(1,13)]) (by kernel_rfl) (by kernel_rfl) (Y.evs2 rfl) rfl rfl) fun _ Y=>?_;refine sv Y (br (zs:=[.int .i64 0,.int .i64 0,.int .i64 0,.int .i64 0,.string ⟨#[]⟩,.string ⟨#[]⟩]) (pl:=[(0,1),(1,1),(2,1),(3,1),(4,1),(5,1)]) (by kernel_rfl) (by kernel_rfl) (Y.evs2 rfl) rfl rfl) fun _ Y=>?_;refine sv Y (br (zs:=[.int .i64 0,.int .i64 0,.int .i64 0,.int .i64 0,.int .i64 0,.bool false,.int .i64 0,.int .i64 0,.int .i64 0,.int .i64 0,.string ⟨#[]⟩,.string ⟨#[]⟩,.string ⟨#[]⟩]) (pl:=[(0,1),(1,1),(2,1),(3,1),(4,1),(5,1),(6,6),(12,1)]) (by kernel_rfl) (by kernel_rfl) (Y.evs2 rfl) rfl rfl) fun _ Y=>?_;refine sv Y (br (zs:=[.int .i64 0,.int .i64 0,.int .i64 0,.int .i64 0,.int .i64 0,.int .i64 0,.bool false,.int .i64 0,.int .i64 0,.int .i64 0,.int .i64 0,.string ⟨#[]⟩,.string ⟨#[]⟩,.string ⟨#[]⟩]) (pl:=[(0,1),(1,13)]) (by kernel_rfl) (by kernel_rfl) (Y.evs2 rfl) rfl rfl) fun _ Y=>?_;refine ez (zc:=[.int .i64 0,.int .i64 0,.int .i64 0,.int .i64 0,.int .i64 0,.int .i64 0,.bool false,.int .i64 0,.int .i64 0,.int .i64 0,.int .i64 0,.string ⟨#[]⟩,.string ⟨#[]⟩,.string ⟨#[]⟩]) (sz:=14) Y (wn rfl) ⟨rfl,rfl⟩ rfl Tryz.underlying41 (by kernel_rfl) (by kernel_rfl) rfl rfl rfl (Y.evs2 rfl) rfl rfl rfl Z fun b12 _ _ gb12 Y Z=>?_;refine ma Y rfl rfl fun _ Y=>?_;refine ae (aa (wp_ret ?_));refine bm Y rfl rfl ?_;have S':=Z.toRow (i:=0) (n:=4) (sz:=14) rfl rfl (by decide);exact⟨some ⟨b12,0,none⟩,4,rfl,S'.ownB (i:=0) rfl,Z.below⟩
theorem nZ (w:World):Calls Tryz.prog 59 #[] w fun e w'=>∃A c,e=.returned (.slice A awP.length c)∧w'.ownsRow w.heap.size 111 3 (.slice A awP.length c) awP.length (awP.flatMap ca)∧Below w.heap.size w w':=by
 refine aF (N:=6) Tryz.func59 rfl rfl rfl (fun _ Y=>?_);have S0:=St.init w;refine ab (ah ?_);refine ma Y rfl rfl fun _ Y=>?_;refine cm ?_;refine aS Y (wn rfl) (aq (fun _ _=>by kernel_rfl) (Y.evs rfl) rfl) rfl rfl S0 (kf 512 _ (by decide)) fun _ _ Y S2=>?_;refine sv Y (br (zs:=[.int .i64 0,.bool false,.string ⟨#[]⟩]) (pl:=[(0,1),(1,1),(2,1)]) (by kernel_rfl) (by kernel_rfl) (Y.evs2 rfl) rfl rfl) fun _ Y=>?_;refine aS Y (wn rfl) (aq (fun _ _=>by kernel_rfl) (Y.evs rfl) rfl) rfl rfl S2 (kf 512 _ (by decide)) fun _ _ Y S4=>?_;refine sv Y (br (zs:=[.int .i64 0,.bool false,.string ⟨#[]⟩]) (pl:=[(0,1),(1,1),(2,1)]) (by kernel_rfl) (by kernel_rfl) (Y.evs2 rfl) rfl rfl) fun _ Y=>?_;refine ez (zc:=[.int .i64 0,.bool false,.string ⟨#[]⟩]) (sz:=3) Y (wn rfl) ⟨rfl,rfl⟩ rfl Tryz.underlying48 (by kernel_rfl) (by kernel_rfl) rfl rfl rfl (Y.evs2 rfl) rfl rfl rfl S4 fun b5 _ _ gb5 Y S6=>?_;refine ma Y rfl rfl fun _ Y=>?_;refine ae (aa (wp_ret ?_));refine bm Y rfl rfl ?_;have S':=S6.toRow (i:=0) (n:=2) (sz:=3) rfl rfl (by decide);exact⟨some ⟨b5,0,none⟩,2,rfl,S'.ownB (i:=0) rfl,S6.below⟩
open Go.RowKit Go.Sort
section
variable {P:Program} {ρ:Operand→Value} {X:World}
end
theorem St.add2 {M:List Nat} {w X0 X:World} {L:List Ent} {e1 e2:Ent} (h0:St M w X0 L) (h:St M w X (e1::L)) (hok:e2.ok X) (hd:∀b,e2.dom b→X0.heap.size≤b∧b<X.heap.size) (hne:∀b,e2.dom b→¬e1.dom b):St M w X (e2::e1::L):=by
 refine⟨h.os,h.tape,h.output,h.size,h.block,fun f hf=>?_,fun f hf b hb=>?_,List.pairwise_cons.2 ⟨fun f hf b hb hfb=>?_,h.sep⟩⟩
 · rcases List.mem_cons.1 hf with rfl | hf
   · exact hok
   · exact h.ok f hf
 · rcases List.mem_cons.1 hf with rfl | hf
   · exact⟨.inl (Nat.le_trans h0.size (hd b hb).1),(hd b hb).2⟩
   · exact h.new f hf b hb
 · rcases List.mem_cons.1 hf with rfl | hf
   · exact hne b hb hfb
   · have:=(hd b hb).1
     have:=(h0.new f hf b hfb).2;omega
set_option maxRecDepth 4000
open Go.RowKit Go.Sort Go.Shelf
theorem zV {X:World} {B b o k:Nat} {l:List Int} (hr:Rd X B (some ⟨b,o,none⟩) (l.map (.int .i64))) (hk:k<l.length):∀(j:Nat) (u:Value),[Value.int .i64 l[k]][j]? = some u→X.cell? ⟨b,o+k*1+j,none⟩=some u
 | 0,u,hu=>by
  obtain⟨b',o',e,_,hc⟩:=hr k u (by rw[List.getElem?_map,List.getElem?_eq_getElem hk];exact hu);injection e with e;injection e with e1 e2;subst e1 e2;rw[Nat.mul_one,Nat.add_zero];exact hc
 | j+1,u,hu=>by simp at hu
theorem rK {α:Type} {a b:List α} (hl:a.length=b.length) (h:∀k (h1:k<a.length) (h2:k<b.length),a[k]=b[k]):a=b:=List.ext_getElem hl h
theorem uM (xs ys:List Int) (A A':Option Addr) (c c':Nat) (w:World) (hr:Rd w w.heap.size A (xs.map (.int .i64))) (hr':Rd w w.heap.size A' (ys.map (.int .i64))) (hl:xs.length≤100000) :
 Calls Tryz.prog 33 #[.slice A xs.length c,.slice A' ys.length c'] w fun e w'=>e=.returned (.bool (decide (xs=ys)))∧Below w.heap.size w w':=by
 refine aF (N:=26) Tryz.func33 rfl rfl rfl (fun _ h0=>?_);have Y:=St.init w;refine ab (ah ?_);refine ma h0 rfl rfl fun _ h1=>?_;refine ae (aa (ab (ab (ah ?_))));refine mv h1 rfl rfl fun _ h2=>?_;refine sv h2 (bf Tryz.underlying53 (h2.ev rfl)) fun _ h3=>?_;refine mv h3 rfl rfl fun _ h4=>?_;refine sv h4 (bf Tryz.underlying53 (h4.ev rfl)) fun _ h5=>?_;refine sv h5 (a8 (h5.ev rfl) (h5.ev rfl)) fun _ h6=>?_;refine ae (aa ?_);refine aB (h6.ev rfl) (fun hc0=>?_) (fun hc0=>?_)
 ·
  have hne:xs≠ys:=fun q=>by rw[q] at hc0;simp at hc0
  refine ab (ah ?_);refine ma h6 rfl rfl fun _ h7=>?_;refine ae (aa (wp_ret (ai ?_)));refine bm h7 rfl rfl ?_;exact⟨by rw[decide_eq_false hne],Y.below⟩
 ·
  have hle:xs.length=ys.length:=by have:((xs.length:Int) != ys.length)=false:=hc0;simp at this;omega
  refine wp_skip (aa (ab (ab (ah ?_))));refine ma h6 rfl rfl fun _ h8=>?_;refine ae (aa (wp_block ?_));refine bz h8 Y [0,1] (fun (j:Nat)=>[(5,.int .i64 (j:Nat))]) (fun (j:Nat)=>j≤xs.length∧∀k (h1:k<xs.length) (h2:k<ys.length),k<j→xs[k]=ys[k]) (fun (j:Nat) L=>L) (fun (j:Nat)=>xs.length-j) (0) (⟨Nat.zero_le _,fun k _ _ h=>absurd h (Nat.not_lt_zero _)⟩) ⟨rfl,rfl,rfl,trivial⟩ (Y) ?_;intro j _ _ hF0 h9 Y;refine ab (ab (ah ?_));refine mv h9 rfl rfl fun _ h10=>?_;refine mv h10 rfl rfl fun _ h11=>?_;refine sv h11 (bf Tryz.underlying53 (h11.ev rfl)) fun _ h12=>?_;refine sv h12 (bq (h12.ev rfl) (h12.ev rfl)) fun _ h13=>?_;refine ae (aa ?_);refine aB (h13.ev rfl) (fun hc1=>?_) (fun hc1=>?_)
  ·
   have hlt:j<xs.length:=by have:=of_decide_eq_true hc1;omega
   have hlt':j<ys.length:=by omega
   obtain⟨b,o,rfl,hB,_⟩:=hr.opened (by rw[List.length_map];omega);obtain⟨b',o',rfl,hB',_⟩:=hr'.opened (by rw[List.length_map];omega);refine wp_skip (aa (ab (wp_block (ab ?_))));apply bA h13 [false,false,false,false,false,false,false,false] _ (by kernel_rfl)
   case h=>
    refine qv h13 (fun X hX=>ak (h13.ev rfl)) fun _ h14=>?_;refine qv h14 (fun X hX=>ak (h14.ev rfl)) fun _ h15=>?_;refine qv h15 (fun X hX=>aC (i:=j) (sz:=1) Tryz.underlying53 (by kernel_rfl) (h15.ev rfl) (h15.ev rfl) (by omega) (by omega) rfl) fun _ h16=>?_;refine qv h16 (fun X hX=>aw (by kernel_rfl) (h16.ev rfl) ((zV ((Y.grow hX).rd0 hr) hlt) 0 _ rfl)) fun _ h17=>?_;refine qv h17 (fun X hX=>ak (h17.ev rfl)) fun _ h18=>?_;refine qv h18 (fun X hX=>ak (h18.ev rfl)) fun _ h19=>?_;refine qv h19 (fun X hX=>aC (i:=j) (sz:=1) Tryz.underlying53 (by kernel_rfl) (h19.ev rfl) (h19.ev rfl) (by omega) (by omega) rfl) fun _ h20=>?_;refine qv h20 (fun X hX=>aw (by kernel_rfl) (h20.ev rfl) ((zV ((Y.grow hX).rd0 hr') hlt') 0 _ rfl)) fun _ h21=>?_;refine aI ?_;refine bF fun _ hX22 hΦ22=>?_;have Y:=Y.grow hX22;refine sv h21 (a8 (h21.ev rfl) (h21.ev rfl)) fun _ h23=>?_;refine ae (aa ?_);refine aB (h23.ev rfl) (fun hc2=>?_) (fun hc2=>?_)
    ·
     have hne:xs≠ys:=fun q=>by subst q;simp at hc2
     refine ab (ah ?_);refine ma h23 rfl rfl fun _ h24=>?_;refine ae (aa (wp_ret (az (ai (ai (az (ai ?_)))))));refine bm h24 rfl rfl ?_;exact⟨by rw[decide_eq_false hne],Y.below⟩
    ·
     have heq:xs[j]=ys[j]:=by simpa using hc2
     refine wp_skip (aO (aa (ah ?_)));refine mv h23 rfl rfl fun _ h25=>?_;refine sv h25 (aV (h25.ev rfl) (h25.ev rfl) (by omega)) fun _ h26=>?_;refine ma h26 rfl rfl fun _ h27=>?_;refine ae (aa ?_);exact⟨j+1,(by omega),⟨hlt,fun k h1 h2 hk=>by rcases Nat.lt_or_eq_of_le (show k≤j by omega) with q | q;exact hF0.2 k h1 h2 q;subst q;exact heq⟩,h27.re ⟨rfl,rfl,rfl,trivial⟩,Y⟩
   case hB=>kernel_rfl
   case hst=>rfl
  ·
   have hge:xs.length≤j:=by have:=of_decide_eq_false hc1;omega
   have heq:xs=ys:=rK hle fun k h1 h2=>hF0.2 k h1 h2 (by omega);refine wp_exit ?_;refine av ?_;refine av ?_;refine bn ?_;refine aa (ab (ah ?_));refine ma h13 rfl rfl fun _ h28=>?_;refine ae (aa (wp_ret ?_));refine bm h28 rfl rfl ?_;exact⟨by rw[decide_eq_true heq],Y.below⟩
theorem lT (l:List Rcd) (A:Option Addr) (c:Nat) (w:World) (hr:Rd w w.heap.size A (l.flatMap cg)) (hl:l.length≤1000) :
 Calls Tryz.prog 25 #[.slice A l.length c] w fun e w'=>∃A' c',e=.returned (.slice A' l.length c')∧w'.ownsRow w.heap.size 145 14 (.slice A' l.length c') l.length (l.flatMap cg)∧Below w.heap.size w w':=by
 refine aF (N:=6) Tryz.func25 rfl rfl rfl (fun _ Y=>?_);have Z:=St.init w;refine ab (ah ?_);refine ma Y rfl rfl fun _ Y=>?_;refine cm ?_;refine ez (zc:=[.int .i64 0,.int .i64 0,.int .i64 0,.int .i64 0,.int .i64 0,.int .i64 0,.bool false,.int .i64 0,.int .i64 0,.int .i64 0,.int .i64 0,.string ⟨#[]⟩,.string ⟨#[]⟩,.string ⟨#[]⟩]) (sz:=14) Y (wn rfl) ⟨rfl,rfl⟩ rfl Tryz.underlying41 (by kernel_rfl) (by kernel_rfl) rfl rfl rfl (Y.evs2 rfl) rfl rfl rfl Z fun b3 _ _ gb3 Y Z=>?_;refine mv Y rfl rfl fun _ Y=>?_;have Z:=Z.toRow (i:=0) (n:=0) (sz:=14) rfl rfl (by decide);refine cv (z:=.agg #[.int .i64 0,.int .i64 0,.int .i64 0,.int .i64 0,.int .i64 0,.int .i64 0,.bool false,.int .i64 0,.int .i64 0,.int .i64 0,.int .i64 0,.string ⟨#[]⟩,.string ⟨#[]⟩,.string ⟨#[]⟩]) (sz:=14) (bytes:=136) Y (wn rfl) ⟨rfl,rfl⟩ rfl Tryz.underlying41 (by kernel_rfl) rfl rfl (Y.ev rfl) (Y.ev rfl) Z (i:=0) rfl (Z.rd0 hr) (by rw[iF aJ,Nat.mul_comm]) (fun u hu=>by obtain⟨x,_,hx⟩:=List.mem_flatMap.1 hu;exact xM x u hx) ⟨(by omega),by decide⟩ fun A5 c5 _ _ Y Z=>?_;refine ma Y rfl rfl fun _ Y=>?_;refine ae (aa (wp_ret ?_));refine bm Y rfl rfl ?_;have ho:=Z.ownB (i:=0) rfl;rw[Nat.zero_add] at ho Y;exact⟨A5,c5,by rw[Nat.zero_add],ho,Z.below⟩
theorem mq (l:List Pgp) (A:Option Addr) (c:Nat) (w:World) (hr:Rd w w.heap.size A (l.flatMap ca)) (hl:l.length≤1000) :
 Calls Tryz.prog 30 #[.slice A l.length c] w fun e w'=>∃A' c',e=.returned (.slice A' l.length c')∧w'.ownsRow w.heap.size 111 3 (.slice A' l.length c') l.length (l.flatMap ca)∧Below w.heap.size w w':=by
 refine aF (N:=6) Tryz.func30 rfl rfl rfl (fun _ Y=>?_);have Z:=St.init w;refine ab (ah ?_);refine ma Y rfl rfl fun _ Y=>?_;refine cm ?_;refine ez (zc:=[.int .i64 0,.bool false,.string ⟨#[]⟩]) (sz:=3) Y (wn rfl) ⟨rfl,rfl⟩ rfl Tryz.underlying48 (by kernel_rfl) (by kernel_rfl) rfl rfl rfl (Y.evs2 rfl) rfl rfl rfl Z fun b3 _ _ gb3 Y Z=>?_;refine mv Y rfl rfl fun _ Y=>?_;have Z:=Z.toRow (i:=0) (n:=0) (sz:=3) rfl rfl (by decide);refine cv (z:=.agg #[.int .i64 0,.bool false,.string ⟨#[]⟩]) (sz:=3) (bytes:=32) Y (wn rfl) ⟨rfl,rfl⟩ rfl Tryz.underlying48 (by kernel_rfl) rfl rfl (Y.ev rfl) (Y.ev rfl) Z (i:=0) rfl (Z.rd0 hr) (by rw[iF bc,Nat.mul_comm]) (fun u hu=>by obtain⟨x,_,hx⟩:=List.mem_flatMap.1 hu;exact rl x u hx) ⟨(by omega),by decide⟩ fun A5 c5 _ _ Y Z=>?_;refine ma Y rfl rfl fun _ Y=>?_;refine ae (aa (wp_ret ?_));refine bm Y rfl rfl ?_;have ho:=Z.ownB (i:=0) rfl;rw[Nat.zero_add] at ho Y;exact⟨A5,c5,by rw[Nat.zero_add],ho,Z.below⟩
end Go.Proofs.YtcfdpfmchchkaaaGreatDoor
