/-
  Chapter 22: the examples of the chapter: a history and its pages; what the program makes of them.
  An append to a literal without elements, in a drawn region: nothing old is written.
  Chapter 22: the reference's copies and comparisons.
-/
import Derived.Test.YtcfdpfmchchkaaaGreatDoorRcK
namespace Go.Proofs.YtcfdpfmchchkaaaGreatDoor
set_option linter.unusedVariables false
set_option linter.unusedSimpArgs false
set_option maxRecDepth 4000
open Go.RowKit Go.Sort Go.Shelf
def AQ (k a c:Int) (o n:List UInt8):Op:=⟨k,a,0,c,bs o,bs n⟩
def Bb:Lge:=⟨0,1,0,0,3,false,AQ 1 64 0 [0] [97],⟨#[]⟩⟩
def A4:Lge:=⟨0,2,0,0,9,true,AQ 4 5 1 [] [],⟨#[]⟩⟩
def A9:Lge:=⟨2,1,1,0,0,false,AY,⟨#[]⟩⟩
def A3:Lge:=⟨0,2,41,0,3,false,AQ 1 70 0 [0] [98],⟨#[]⟩⟩
def awH:List Rcd:=[⟨1,Bb⟩,⟨41,A4⟩,⟨81,A9⟩,⟨113,A3⟩]
def awP:List Pgp:=[⟨3,false,bs (ed 512)⟩,⟨9,true,bs (ed 512)⟩]
theorem fG (w:World):Calls Tryz.prog 58 #[] w fun e w'=>∃A c,e=.returned (.slice A awH.length c)∧w'.ownsRow w.heap.size 145 14 (.slice A awH.length c) awH.length (awH.flatMap cw)∧Below w.heap.size w w':=by
 refine aD (N:=13) Tryz.func58 rfl rfl rfl (fun _ Y=>?_);have Z:=St.init w;refine ab (ag ?_);refine ma Y rfl rfl fun _ Y=>?_;refine cu ?_;refine sv Y (bb (zs:=[.int .i64 0,.int .i64 0,.int .i64 0,.int .i64 0,.string ⟨#[]⟩,.string ⟨#[]⟩]) (pl:=[(0,1),(1,1),(2,1),(3,1),(4,1),(5,1)]) (by kernel_rfl) (by kernel_rfl) (Y.evs2 rfl) rfl rfl) fun _ Y=>?_;refine sv Y (bb (zs:=[.int .i64 0,.int .i64 0,.int .i64 0,.int .i64 0,.int .i64 0,.bool false,.int .i64 0,.int .i64 0,.int .i64 0,.int .i64 0,.string ⟨#[]⟩,.string ⟨#[]⟩,.string ⟨#[]⟩]) (pl:=[(0,1),(1,1),(2,1),(3,1),(4,1),(5,1),(6,6),(12,1)]) (by kernel_rfl) (by kernel_rfl) (Y.evs2 rfl) rfl rfl) fun _ Y=>?_;refine sv Y (bb (zs:=[.int .i64 0,.int .i64 0,.int .i64 0,.int .i64 0,.int .i64 0,.int .i64 0,.bool false,.int .i64 0,.int .i64 0,.int .i64 0,.int .i64 0,.string ⟨#[]⟩,.string ⟨#[]⟩,.string ⟨#[]⟩]) (pl:=[(0,1),(1,13)]) (by kernel_rfl) (by kernel_rfl) (Y.evs2 rfl) rfl rfl) fun _ Y=>?_;refine sv Y (bb (zs:=[.int .i64 0,.int .i64 0,.int .i64 0,.int .i64 0,.string ⟨#[]⟩,.string ⟨#[]⟩]) (pl:=[(0,1),(1,1),(2,1),(3,1),(4,1),(5,1)]) (by kernel_rfl) (by kernel_rfl) (Y.evs2 rfl) rfl rfl) fun _ Y=>?_;refine sv Y (bb (zs:=[.int .i64 0,.int .i64 0,.int .i64 0,.int .i64 0,.int .i64 0,.bool false,.int .i64 0,.int .i64 0,.int .i64 0,.int .i64 0,.string ⟨#[]⟩,.string ⟨#[]⟩,.string ⟨#[]⟩]) (pl:=[(0,1),(1,1),(2,1),(3,1),(4,1),(5,1),(6,6),(12,1)]) (by kernel_rfl) (by kernel_rfl) (Y.evs2 rfl) rfl rfl) fun _ Y=>?_;refine sv Y (bb (zs:=[.int .i64 0,.int .i64 0,.int .i64 0,.int .i64 0,.int .i64 0,.int .i64 0,.bool false,.int .i64 0,.int .i64 0,.int .i64 0,.int .i64 0,.string ⟨#[]⟩,.string ⟨#[]⟩,.string ⟨#[]⟩]) (pl:=[(0,1),(1,13)]) (by kernel_rfl) (by kernel_rfl) (Y.evs2 rfl) rfl rfl) fun _ Y=>?_;refine sv Y (bb (zs:=[.int .i64 0,.int .i64 0,.int .i64 0,.int .i64 0,.int .i64 0,.bool false,.int .i64 0,.int .i64 0,.int .i64 0,.int .i64 0,.string ⟨#[]⟩,.string ⟨#[]⟩,.string ⟨#[]⟩]) (pl:=[(0,1),(1,1),(2,1),(3,1),(4,1),(5,1),(6,6),(12,1)]) (by kernel_rfl) (by kernel_rfl) (Y.evs2 rfl) rfl rfl) fun _ Y=>?_
 refine sv Y (bb (zs:=[.int .i64 0,.int .i64 0,.int .i64 0,.int .i64 0,.int .i64 0,.int .i64 0,.bool false,.int .i64 0,.int .i64 0,.int .i64 0,.int .i64 0,.string ⟨#[]⟩,.string ⟨#[]⟩,.string ⟨#[]⟩]) (pl:=[(0,1),(1,13)]) (by kernel_rfl) (by kernel_rfl) (Y.evs2 rfl) rfl rfl) fun _ Y=>?_;refine sv Y (bb (zs:=[.int .i64 0,.int .i64 0,.int .i64 0,.int .i64 0,.string ⟨#[]⟩,.string ⟨#[]⟩]) (pl:=[(0,1),(1,1),(2,1),(3,1),(4,1),(5,1)]) (by kernel_rfl) (by kernel_rfl) (Y.evs2 rfl) rfl rfl) fun _ Y=>?_;refine sv Y (bb (zs:=[.int .i64 0,.int .i64 0,.int .i64 0,.int .i64 0,.int .i64 0,.bool false,.int .i64 0,.int .i64 0,.int .i64 0,.int .i64 0,.string ⟨#[]⟩,.string ⟨#[]⟩,.string ⟨#[]⟩]) (pl:=[(0,1),(1,1),(2,1),(3,1),(4,1),(5,1),(6,6),(12,1)]) (by kernel_rfl) (by kernel_rfl) (Y.evs2 rfl) rfl rfl) fun _ Y=>?_;refine sv Y (bb (zs:=[.int .i64 0,.int .i64 0,.int .i64 0,.int .i64 0,.int .i64 0,.int .i64 0,.bool false,.int .i64 0,.int .i64 0,.int .i64 0,.int .i64 0,.string ⟨#[]⟩,.string ⟨#[]⟩,.string ⟨#[]⟩]) (pl:=[(0,1),(1,13)]) (by kernel_rfl) (by kernel_rfl) (Y.evs2 rfl) rfl rfl) fun _ Y=>?_;refine eW (zc:=[.int .i64 0,.int .i64 0,.int .i64 0,.int .i64 0,.int .i64 0,.int .i64 0,.bool false,.int .i64 0,.int .i64 0,.int .i64 0,.int .i64 0,.string ⟨#[]⟩,.string ⟨#[]⟩,.string ⟨#[]⟩]) (sz:=14) Y (wn rfl) ⟨rfl,rfl⟩ rfl Tryz.underlying41 (by kernel_rfl) (by kernel_rfl) rfl rfl rfl (Y.evs2 rfl) rfl rfl rfl Z fun b12 _ _ gb12 Y Z=>?_;refine ma Y rfl rfl fun _ Y=>?_;refine ae (aa (wp_ret ?_));refine bw Y rfl rfl ?_;have S':=Z.toRow (i:=0) (n:=4) (sz:=14) rfl rfl (by decide);exact⟨some ⟨b12,0,none⟩,4,rfl,S'.ownB (i:=0) rfl,Z.below⟩
theorem nD (w:World):Calls Tryz.prog 59 #[] w fun e w'=>∃A c,e=.returned (.slice A awP.length c)∧w'.ownsRow w.heap.size 111 3 (.slice A awP.length c) awP.length (awP.flatMap cR)∧Below w.heap.size w w':=by
 refine aD (N:=6) Tryz.func59 rfl rfl rfl (fun _ Y=>?_);have S0:=St.init w;refine ab (ag ?_);refine ma Y rfl rfl fun _ Y=>?_;refine cu ?_;refine aV Y (wn rfl) (aq (fun _ _=>by kernel_rfl) (Y.evs rfl) rfl) rfl rfl S0 (nQ 512 _ (by decide)) fun _ _ Y S2=>?_;refine sv Y (bb (zs:=[.int .i64 0,.bool false,.string ⟨#[]⟩]) (pl:=[(0,1),(1,1),(2,1)]) (by kernel_rfl) (by kernel_rfl) (Y.evs2 rfl) rfl rfl) fun _ Y=>?_;refine aV Y (wn rfl) (aq (fun _ _=>by kernel_rfl) (Y.evs rfl) rfl) rfl rfl S2 (nQ 512 _ (by decide)) fun _ _ Y S4=>?_;refine sv Y (bb (zs:=[.int .i64 0,.bool false,.string ⟨#[]⟩]) (pl:=[(0,1),(1,1),(2,1)]) (by kernel_rfl) (by kernel_rfl) (Y.evs2 rfl) rfl rfl) fun _ Y=>?_;refine eW (zc:=[.int .i64 0,.bool false,.string ⟨#[]⟩]) (sz:=3) Y (wn rfl) ⟨rfl,rfl⟩ rfl Tryz.underlying48 (by kernel_rfl) (by kernel_rfl) rfl rfl rfl (Y.evs2 rfl) rfl rfl rfl S4 fun b5 _ _ gb5 Y S6=>?_;refine ma Y rfl rfl fun _ Y=>?_;refine ae (aa (wp_ret ?_));refine bw Y rfl rfl ?_;have S':=S6.toRow (i:=0) (n:=2) (sz:=3) rfl rfl (by decide);exact⟨some ⟨b5,0,none⟩,2,rfl,S'.ownB (i:=0) rfl,S6.below⟩
open Go.RowKit Go.Sort
section
variable {P:Program} {ρ:Operand→Value} {X:World}
theorem oq {o:Oper} {s x:Operand} {t e:TypeId} {z v1 v2:Value} {m sz bytes B:Nat} {cs:Array Value} {news:List Value} (ho:o.op=.call { callee:=.builtin .append,args:=#[s,x],argTypes:=#[t,t] })
 (ht:P.underlying t=some (.slice e)) (hinfo:(P.info? e).map (fun i=>(i.zero,i.size,i.bytes))=some (some z,sz,bytes)) (hz:z.cells.size=sz) (hsz:Nat.blt 0 sz=true) (hs:ρ s=v1) (hx:ρ x=v2)
 (hO:NewB B (fun b=>.slice (some ⟨b,0,none⟩) 0 0) cs e v1 X) (hcs:cs.size=0) (h2:∃A c,v2=.slice A m c∧Rd X X.heap.size A news) (hl:news.length=m*sz) (h1:∀u∈news,u.oneCell'=true) (hb:m≤1000000∧bytes≤1000000) (hB:B≤X.heap.size) :
 cd P (OwnB B e sz m news) X ((execOp ρ o).run P X):=by
 obtain⟨q,hq,hz1,hz2,hz3⟩:=iE hinfo;obtain⟨b,rfl,hBb,hbx⟩:=hO;obtain⟨A,c,rfl,hr⟩:=h2;have hown:X.ownsRow 0 e sz (.slice (some ⟨b,0,none⟩) 0 0) 0 []:=⟨by simp,.inr ⟨b,0,cs,rfl,Nat.zero_le _,hbx,Nat.le_refl _,Nat.zero_le _,by simpa using hcs,by simp⟩⟩;have hmul:(0+m)*bytes≤1000000*1000000:=Nat.mul_le_mul (by omega) hb.2;obtain⟨v',w',hrun,k2,k3,k5⟩:=fZ (P:=P) X t o.type e q z sz bytes ht hq hz1 hz2 hz3 hz (Nat.lt_of_lt_of_le (Nat.lt_succ_self 0) (Nat.le_of_ble_eq_true hsz)) _ 0 [] hown A m c news hl hr h1 (by unfold maxLen;omega) (by omega) 0 (.inl (Nat.zero_le _))
 have hex:(execOp ρ o).run P X=.ok (.value v') w':=by
  unfold execOp;simp only[ho,resolve,invoke,builtin,Sem.run_bind,Sem.run_pure,Result.andThen_ok,List.map_toArray,List.map_cons,List.map_nil,hs,hx,hrun]
 rw[hex];have hg:=k3.1;refine⟨⟨hg.os,hg.tape,hg.output,hg.size,fun k hk=>?_⟩,?_⟩
 · by_cases hkb:k=b
   · subst hkb
     obtain⟨cs',e1,e2⟩:=hg.shape k cs e (0,0) hbx
     have:cs'=cs:=by
      have h0:cs=#[]:=Array.eq_empty_of_size_eq_zero hcs;subst h0;exact Array.eq_empty_of_size_eq_zero (by simpa using e1)
     rw[e2,this];exact hbx.symm
   · exact hg.block k hk (fun q=>by injection q with q;exact hkb q.symm)
 · obtain⟨A',c',rfl,_⟩:=ownsRow_form k2
   rw[Nat.zero_add,List.nil_append] at k2;rw[Nat.zero_add];refine⟨A',c',rfl,me k2 fun g hg2=>?_⟩
   have hg2':(Value.slice A' (0+m) c').ownBlock=some g:=by rw[Nat.zero_add];exact hg2
   rcases k5 with k5 | k5
   · have h9:some b=some g:=k5.symm.trans hg2'
     injection h9 with h9;omega
   · rw[k5] at hg2';injection hg2' with hg2';omega
end
theorem St.add2 {M:List Nat} {w X0 X:World} {L:List Ent} {e1 e2:Ent} (h0:St M w X0 L) (h:St M w X (e1::L)) (hok:e2.ok X) (hd:∀b,e2.dom b→X0.heap.size≤b∧b<X.heap.size) (hne:∀b,e2.dom b→¬e1.dom b):St M w X (e2::e1::L):=by
 refine⟨h.os,h.tape,h.output,h.size,h.block,fun f hf=>?_,fun f hf b hb=>?_,List.pairwise_cons.2 ⟨fun f hf b hb hfb=>?_,h.sep⟩⟩
 · rcases List.mem_cons.1 hf with rfl | hf
   · exact hok
   · exact h.ok f hf
 · rcases List.mem_cons.1 hf with rfl | hf
   · exact⟨.inl (Nat.le_trans h0.size (hd b hb).1),(hd b hb).2⟩
   · exact h.new f hf b hb
 · rcases List.mem_cons.1 hf with rfl | hf
   · exact hne b hb hfb
   · have:=(hd b hb).1
     have:=(h0.new f hf b hfb).2;omega
theorem zD {X:World} {B sz n:Nat} {T:TypeId} {v:Value} {xs:List Value} (h:X.ownsRow B T sz v n xs) {k:Nat} (hk:v.ownBlock=some k):∃cur,X.heap[k]? = some (.cells cur T (0,0)):=by
 rcases h.2 with ⟨rfl,_⟩ | ⟨g,cap,cur,rfl,_,h2,_⟩
 · cases hk
 · injection hk with hk
   subst hk;exact⟨cur,h2⟩
theorem rL {X:World} {B sz n b:Nat} {T T':TypeId} {v:Value} {xs:List Value} {cs:Array Value} (h1:X.ownsRow B T sz v n xs) (h2:Box X b cs T') (hT:T≠T'):∀k,k=b→¬v.ownBlock=some k:=fun k hk hv=>by
 subst hk;obtain⟨cur,h3⟩:=zD h1 hv;have h4:X.heap[k]? = some (Obj.cells cs T' (0,0)):=h2;rw[h3] at h4;injection h4 with h4;injection h4 with _ h4;exact hT h4
set_option maxRecDepth 4000
open Go.RowKit Go.Sort Go.Shelf
theorem zy {X:World} {B b o k:Nat} {l:List Int} (hr:Rd X B (some ⟨b,o,none⟩) (l.map (.int .i64))) (hk:k<l.length):∀(j:Nat) (u:Value),[Value.int .i64 l[k]][j]? = some u→X.cell? ⟨b,o+k*1+j,none⟩=some u
 | 0,u,hu=>by
  obtain⟨b',o',e,_,hc⟩:=hr k u (by rw[List.getElem?_map,List.getElem?_eq_getElem hk];exact hu);injection e with e;injection e with e1 e2;subst e1 e2;rw[Nat.mul_one,Nat.add_zero];exact hc
 | j+1,u,hu=>by simp at hu
theorem rO {α:Type} {a b:List α} (hl:a.length=b.length) (h:∀k (h1:k<a.length) (h2:k<b.length),a[k]=b[k]):a=b:=List.ext_getElem hl h
theorem tm (xs ys:List Int) (A A':Option Addr) (c c':Nat) (w:World) (hr:Rd w w.heap.size A (xs.map (.int .i64))) (hr':Rd w w.heap.size A' (ys.map (.int .i64))) (hl:xs.length≤100000) :
 Calls Tryz.prog 33 #[.slice A xs.length c,.slice A' ys.length c'] w fun e w'=>e=.returned (.bool (decide (xs=ys)))∧Below w.heap.size w w':=by
 refine aD (N:=26) Tryz.func33 rfl rfl rfl (fun _ h0=>?_);have Y:=St.init w;refine ab (ag ?_);refine ma h0 rfl rfl fun _ h1=>?_;refine ae (aa (ab (ab (ag ?_))));refine mv h1 rfl rfl fun _ h2=>?_;refine sv h2 (bn Tryz.underlying53 (h2.ev rfl)) fun _ h3=>?_;refine mv h3 rfl rfl fun _ h4=>?_;refine sv h4 (bn Tryz.underlying53 (h4.ev rfl)) fun _ h5=>?_;refine sv h5 (bc (h5.ev rfl) (h5.ev rfl)) fun _ h6=>?_;refine ae (aa ?_);refine aB (h6.ev rfl) (fun hc0=>?_) (fun hc0=>?_)
 ·
  have hne:xs≠ys:=fun q=>by rw[q] at hc0;simp at hc0
  refine ab (ag ?_);refine ma h6 rfl rfl fun _ h7=>?_;refine ae (aa (wp_ret (ak ?_)));refine bw h7 rfl rfl ?_;exact⟨by rw[decide_eq_false hne],Y.below⟩
 ·
  have hle:xs.length=ys.length:=by have:((xs.length:Int) != ys.length)=false:=hc0;simp at this;omega
  refine wp_skip (aa (ab (ab (ag ?_))));refine ma h6 rfl rfl fun _ h8=>?_;refine ae (aa (wp_block ?_));refine bC h8 Y [0,1] (fun (j:Nat)=>[(5,.int .i64 (j:Nat))]) (fun (j:Nat)=>j≤xs.length∧∀k (h1:k<xs.length) (h2:k<ys.length),k<j→xs[k]=ys[k]) (fun (j:Nat) L=>L) (fun (j:Nat)=>xs.length-j) (0) (⟨Nat.zero_le _,fun k _ _ h=>absurd h (Nat.not_lt_zero _)⟩) ⟨rfl,rfl,rfl,trivial⟩ (Y) ?_;intro j _ _ hF0 h9 Y;refine ab (ab (ag ?_));refine mv h9 rfl rfl fun _ h10=>?_;refine mv h10 rfl rfl fun _ h11=>?_;refine sv h11 (bn Tryz.underlying53 (h11.ev rfl)) fun _ h12=>?_;refine sv h12 (bh (h12.ev rfl) (h12.ev rfl)) fun _ h13=>?_;refine ae (aa ?_);refine aB (h13.ev rfl) (fun hc1=>?_) (fun hc1=>?_)
  ·
   have hlt:j<xs.length:=by have:=of_decide_eq_true hc1;omega
   have hlt':j<ys.length:=by omega
   obtain⟨b,o,rfl,hB,_⟩:=hr.opened (by rw[List.length_map];omega);obtain⟨b',o',rfl,hB',_⟩:=hr'.opened (by rw[List.length_map];omega);refine wp_skip (aa (ab (wp_block (ab ?_))));apply bq h13 [false,false,false,false,false,false,false,false] _ (by kernel_rfl)
   case h=>
    refine qv h13 (fun X hX=>aj (h13.ev rfl)) fun _ h14=>?_;refine qv h14 (fun X hX=>aj (h14.ev rfl)) fun _ h15=>?_;refine qv h15 (fun X hX=>aC (i:=j) (sz:=1) Tryz.underlying53 (by kernel_rfl) (h15.ev rfl) (h15.ev rfl) (by omega) (by omega) rfl) fun _ h16=>?_;refine qv h16 (fun X hX=>ao (by kernel_rfl) (h16.ev rfl) ((zy ((Y.grow hX).rd0 hr) hlt) 0 _ rfl)) fun _ h17=>?_;refine qv h17 (fun X hX=>aj (h17.ev rfl)) fun _ h18=>?_;refine qv h18 (fun X hX=>aj (h18.ev rfl)) fun _ h19=>?_;refine qv h19 (fun X hX=>aC (i:=j) (sz:=1) Tryz.underlying53 (by kernel_rfl) (h19.ev rfl) (h19.ev rfl) (by omega) (by omega) rfl) fun _ h20=>?_;refine qv h20 (fun X hX=>ao (by kernel_rfl) (h20.ev rfl) ((zy ((Y.grow hX).rd0 hr') hlt') 0 _ rfl)) fun _ h21=>?_;refine aH ?_;refine bE fun _ hX22 hΦ22=>?_;have Y:=Y.grow hX22;refine sv h21 (bc (h21.ev rfl) (h21.ev rfl)) fun _ h23=>?_;refine ae (aa ?_);refine aB (h23.ev rfl) (fun hc2=>?_) (fun hc2=>?_)
    ·
     have hne:xs≠ys:=fun q=>by subst q;simp at hc2
     refine ab (ag ?_);refine ma h23 rfl rfl fun _ h24=>?_;refine ae (aa (wp_ret (aF (ak (ak (aF (ak ?_)))))));refine bw h24 rfl rfl ?_;exact⟨by rw[decide_eq_false hne],Y.below⟩
    ·
     have heq:xs[j]=ys[j]:=by simpa using hc2
     refine wp_skip (aK (aa (ag ?_)));refine mv h23 rfl rfl fun _ h25=>?_;refine sv h25 (a7 (h25.ev rfl) (h25.ev rfl) (by omega)) fun _ h26=>?_;refine ma h26 rfl rfl fun _ h27=>?_;refine ae (aa ?_);exact⟨j+1,(by omega),⟨hlt,fun k h1 h2 hk=>by rcases Nat.lt_or_eq_of_le (show k≤j by omega) with q | q;exact hF0.2 k h1 h2 q;subst q;exact heq⟩,h27.re ⟨rfl,rfl,rfl,trivial⟩,Y⟩
   case hB=>kernel_rfl
   case hst=>rfl
  ·
   have hge:xs.length≤j:=by have:=of_decide_eq_false hc1;omega
   have heq:xs=ys:=rO hle fun k h1 h2=>hF0.2 k h1 h2 (by omega);refine wp_exit ?_;refine ar ?_;refine ar ?_;refine bz ?_;refine aa (ab (ag ?_));refine ma h13 rfl rfl fun _ h28=>?_;refine ae (aa (wp_ret ?_));refine bw h28 rfl rfl ?_;exact⟨by rw[decide_eq_true heq],Y.below⟩
theorem rf (l:List Rcd) (A:Option Addr) (c:Nat) (w:World) (hr:Rd w w.heap.size A (l.flatMap cw)) (hl:l.length≤1000) :
 Calls Tryz.prog 25 #[.slice A l.length c] w fun e w'=>∃A' c',e=.returned (.slice A' l.length c')∧w'.ownsRow w.heap.size 145 14 (.slice A' l.length c') l.length (l.flatMap cw)∧Below w.heap.size w w':=by
 refine aD (N:=6) Tryz.func25 rfl rfl rfl (fun _ Y=>?_);have Z:=St.init w;refine ab (ag ?_);refine ma Y rfl rfl fun _ Y=>?_;refine cu ?_;refine eW (zc:=[.int .i64 0,.int .i64 0,.int .i64 0,.int .i64 0,.int .i64 0,.int .i64 0,.bool false,.int .i64 0,.int .i64 0,.int .i64 0,.int .i64 0,.string ⟨#[]⟩,.string ⟨#[]⟩,.string ⟨#[]⟩]) (sz:=14) Y (wn rfl) ⟨rfl,rfl⟩ rfl Tryz.underlying41 (by kernel_rfl) (by kernel_rfl) rfl rfl rfl (Y.evs2 rfl) rfl rfl rfl Z fun b3 _ _ gb3 Y Z=>?_;refine mv Y rfl rfl fun _ Y=>?_;have Z:=Z.toRow (i:=0) (n:=0) (sz:=14) rfl rfl (by decide);refine b0 (z:=.agg #[.int .i64 0,.int .i64 0,.int .i64 0,.int .i64 0,.int .i64 0,.int .i64 0,.bool false,.int .i64 0,.int .i64 0,.int .i64 0,.int .i64 0,.string ⟨#[]⟩,.string ⟨#[]⟩,.string ⟨#[]⟩]) (sz:=14) (bytes:=136) Y (wn rfl) ⟨rfl,rfl⟩ rfl Tryz.underlying41 (by kernel_rfl) rfl rfl (Y.ev rfl) (Y.ev rfl) Z (i:=0) rfl (Z.rd0 hr) (by rw[dh aL,Nat.mul_comm]) (fun u hu=>by obtain⟨x,_,hx⟩:=List.mem_flatMap.1 hu;exact xB x u hx) ⟨(by omega),by decide⟩ fun A5 c5 _ _ Y Z=>?_;refine ma Y rfl rfl fun _ Y=>?_;refine ae (aa (wp_ret ?_));refine bw Y rfl rfl ?_;have ho:=Z.ownB (i:=0) rfl;rw[Nat.zero_add] at ho Y;exact⟨A5,c5,by rw[Nat.zero_add],ho,Z.below⟩
theorem rJ (t:Tbl) (A:Option Addr) (c:Nat) (B:Option Addr) (d:Nat) (w:World) (hr:Rd w w.heap.size A (t.ts.flatMap bU)) (hs:Rd w w.heap.size B (t.ds.flatMap cm)) (hl:t.ts.length≤1000∧t.ds.length≤1000) :
 Calls Tryz.prog 16 #[bO t A c B d] w fun e w'=>∃i:Option Addr × Nat × Option Addr × Nat,e=.returned (bO t i.1 i.2.1 i.2.2.1 i.2.2.2) ∧
  St [] w w' [.row (.slice i.1 t.ts.length i.2.1) t.ts.length 116 4 (t.ts.flatMap bU),.row (.slice i.2.2.1 t.ds.length i.2.2.2) t.ds.length 124 3 (t.ds.flatMap cm)]:=by
 refine aD (N:=12) Tryz.func16 rfl rfl rfl (fun _ Y=>?_);have S0:=St.init w;refine ab (ag ?_);refine nb Y rfl rfl S0 fun b1 _ _ gb1 Y S1=>?_;refine na (.agg #[.slice none 0 0,.slice none 0 0]) Y rfl S1 fun b2 _ _ gb2 Y S2=>?_;refine ae (aa (ab ?_));apply bq Y [true,false,false,true,true,false,false] _ (by kernel_rfl)
 case h=>
  refine qv Y (fun X hX=>ai (off:=0) (j:=0) (by kernel_rfl) (Y.ev rfl) rfl) fun _ Y=>?_;refine qv Y (fun X hX=>ao (by kernel_rfl) (Y.ev rfl) ((S2.grow hX).cell (i:=1) rfl rfl)) fun _ Y=>?_;refine qv Y (fun X hX=>ai (off:=1) (j:=1) (by kernel_rfl) (Y.ev rfl) rfl) fun _ Y=>?_;refine qv Y (fun X hX=>ao (by kernel_rfl) (Y.ev rfl) ((S2.grow hX).cell (i:=1) rfl rfl)) fun _ Y=>?_;refine aH ?_;apply ez (k:=0) (deps:=[]) (R:=NewB _ (fun b=>.slice (some ⟨b,0,none⟩) 0 0) _ _) Y rfl rfl rfl NewB.stable (fun X hX hΦ=>eX (cD (zc:=[.int .i64 0,.int .i64 0,.int .i64 0,.bool false]) (sz:=4) rfl Tryz.underlying22 (by kernel_rfl) (by kernel_rfl) rfl rfl rfl (Y.evs2 rfl) rfl rfl rfl) hX.size);intro v3 _ Y;apply ez (k:=3) (deps:=[0]) (R:=OwnB _ _ _ _ _) Y rfl rfl rfl OwnB.stable (fun X hX hΦ=>oq (z:=.agg #[.int .i64 0,.int .i64 0,.int .i64 0,.bool false]) (sz:=4) (bytes:=32) rfl Tryz.underlying22 (by kernel_rfl) rfl rfl (Y.ev rfl) (Y.ev rfl) (bQ (k:=0) hΦ rfl rfl) rfl ⟨_,_,rfl,(S2.grow hX).rd0 hr⟩ (by rw[dh bj,Nat.mul_comm]) (fun u hu=>by obtain⟨x,_,hx⟩:=List.mem_flatMap.1 hu;exact gA x u hx) ⟨(by omega),by decide⟩ hX.size);intro v6 _ Y;apply ez (k:=4) (deps:=[]) (R:=NewB _ (fun b=>.slice (some ⟨b,0,none⟩) 0 0) _ _) Y rfl rfl rfl NewB.stable (fun X hX hΦ=>eX (cD (zc:=[.int .i64 0,.bool false,.int .i64 0]) (sz:=3) rfl Tryz.underlying23 (by kernel_rfl) (by kernel_rfl) rfl rfl rfl (Y.evs2 rfl) rfl rfl rfl) hX.size);intro v7 _ Y;refine bE fun _ hX10 hΦ10=>?_;have S10:=S2.grow hX10;have qv3:=br hΦ10 (k:=0) rfl;have qv6:=br hΦ10 (k:=3) rfl;obtain⟨A6,c6,rfl,qv6⟩:=qv6;have S11:=S2.add hX10 (e:=.row _ _ _ _ _) (bJ qv6 (Nat.zero_le _)) (fun b hb=>qv6.lt b hb);have qv7:=br hΦ10 (k:=4) rfl;obtain⟨b7,rfl,gb7,qv7⟩:=qv7;have S12:=St.add2 S2 S11 (e2:=.box _ _ _) qv7 (fun b hb=>by cases hb;exact⟨gb7,Box.lt qv7⟩) (rL qv6 qv7 (by decide))
  have S13:=S12.toRow (i:=0) (n:=0) (sz:=3) rfl rfl (by decide);refine b0 (z:=.agg #[.int .i64 0,.bool false,.int .i64 0]) (sz:=3) (bytes:=24) Y (wn rfl) ⟨rfl,rfl⟩ rfl Tryz.underlying23 (by kernel_rfl) rfl rfl (Y.ev rfl) (Y.ev rfl) S13 (i:=0) rfl (S13.rd0 hs) (by rw[dh bN,Nat.mul_comm]) (fun u hu=>by obtain⟨x,_,hx⟩:=List.mem_flatMap.1 hu;exact jD x u hx) ⟨(by omega),by decide⟩ fun A10 c10 _ _ Y S14=>?_;rw[Nat.zero_add] at Y S14;refine sv Y (bb (zs:=[.slice none 0 0,.slice none 0 0]) (pl:=[(0,1),(1,1)]) (by kernel_rfl) (by kernel_rfl) (Y.evs2 rfl) rfl rfl) fun _ Y=>?_;refine az Y (wn rfl) ⟨rfl,rfl⟩ (Y.ev rfl) (Y.ev rfl) rfl (by kernel_rfl) S14 (i:=2) rfl rfl rfl fun _ S16=>?_;refine ae (aa (wp_ret ?_));refine lT Y rfl rfl S16 (i:=2) rfl (by kernel_rfl) (by kernel_rfl) ?_;exact⟨(A6,c6,A10,c10),rfl,St.swap (S16.sub (.cons_cons _ (.cons_cons _ (.cons _ (.cons _ .slnil)))))⟩
 case hB=>kernel_rfl
 case hst=>rfl
end Go.Proofs.YtcfdpfmchchkaaaGreatDoor
