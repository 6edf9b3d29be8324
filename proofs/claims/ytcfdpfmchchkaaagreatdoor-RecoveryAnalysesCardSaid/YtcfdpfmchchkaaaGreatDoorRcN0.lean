/-
  Chapter 22, plain: lists in the order of their keys, by indexes.
  Chapter 22: the reference's small functions: indexes by numbers, kinds, what came before.
  Chapter 22: the reference's errors of pages, what is next to undo, limits, pages compared.
-/
import Derived.Test.YtcfdpfmchchkaaaGreatDoorRcM
namespace Go.Proofs.YtcfdpfmchchkaaaGreatDoor
set_option linter.unusedVariables false
set_option linter.unusedSimpArgs false
open Go.RowKit
section
variable {α:Type} {κ:α→Int}
theorem kj {l:List α} (h:bX κ l) {i:Nat} (hi:i<l.length):(∀a∈l.take i,κ a<κ l[i])∧(∀b∈l.drop (i+1),κ l[i]<κ b)∧l=l.take i ++ l[i]::l.drop (i+1):=by
 have e:l=l.take i ++ l[i]::l.drop (i+1):=by rw[←List.drop_eq_getElem_cons hi,List.take_append_drop]
 unfold bX at h;rw[List.pairwise_iff_getElem] at h;refine⟨fun a ha=>?_,fun b hb=>?_,e⟩
 · obtain⟨k,hk,rfl⟩:=List.getElem_of_mem ha
   rw[List.length_take] at hk;rw[List.getElem_take];exact h k i (by omega) hi (by omega)
 · obtain⟨k,hk,rfl⟩:=List.getElem_of_mem hb
   rw[List.length_drop] at hk;rw[List.getElem_drop];exact h i _ hi (by omega) (by omega)
theorem filter_all {p:α→Bool} {l:List α} (h:∀a∈l,p a=true):l.filter p=l:=List.filter_eq_self.2 h
theorem kg {p:α→Bool} {l:List α} (h:∀a∈l,p a=false):l.filter p=[]:=List.filter_eq_nil_iff.2 fun a ha=>by rw[h a ha];decide
theorem xY {l:List α} (h:bX κ l) {i:Nat} (hi:i<l.length) {x:α} (e:κ x=κ l[i]):eO κ l x=l.set i x:=by
 obtain⟨h1,h2,h3⟩:=kj h hi;rw[List.set_eq_take_append_cons_drop,if_pos hi];unfold eO;rw[e];generalize l[i]=y at h1 h2 h3
 congr 1
 · conv=>lhs;rw[h3]
   rw[List.filter_append,filter_all fun a ha=>decide_eq_true (h1 a ha),List.filter_cons,if_neg (by simp),kg fun b hb=>decide_eq_false (by have:=h2 b hb;omega),List.append_nil]
 · congr 1
   conv=>lhs;rw[h3]
   rw[List.filter_append,kg fun a ha=>decide_eq_false (by have:=h1 a ha;omega),List.filter_cons,if_neg (by simp),filter_all fun b hb=>decide_eq_true (h2 b hb),List.nil_append]
theorem zL {l:List α} (h:bX κ l) {i:Nat} (hi:i<l.length) {n:Int} (e:n=κ l[i]):il κ l n=l.take i ++ l.drop (i+1):=by
 obtain⟨h1,h2,h3⟩:=kj h hi;unfold il;subst e;generalize l[i]=y at h1 h2 h3
 conv=>lhs;rw[h3]
 rw[List.filter_append,filter_all fun a ha=>decide_eq_true (by have:=h1 a ha;omega),List.filter_cons,if_neg (by simp),filter_all fun b hb=>decide_eq_true (by have:=h2 b hb;omega)]
theorem uq {l:List α} {n:Int} (h:cn κ l n=none):il κ l n=l:=by
 unfold il;unfold cn at h;rw[List.find?_eq_none] at h;exact filter_all fun a ha=>decide_eq_true (by simpa using h a ha)
def gE (κ:α→Int) (n:Int):List α→Nat→Int
 | [],_=>-1
 | x::l,k=>if κ x=n then (k:Int) else gE κ n l (k+1)
theorem gj {n:Int}:∀{l:List α} {k:Nat},gE κ n l k<0→cn κ l n=none
 | [],_,_=>rfl
 | x::l,k,h=>by
  unfold gE at h
  split at h
  · omega
  · rename_i hne
    have:=gj h;unfold cn at this ⊢;rw[List.find?_cons,show(κ x==n)=false by simpa using hne];exact this
theorem dW {n:Int}:∀{l:List α} {k:Nat},¬gE κ n l k<0→∃j,∃hj:j<l.length,gE κ n l k=((k+j:Nat):Int)∧κ l[j]=n∧cn κ l n=some l[j]
 | [],_,h=>by unfold gE at h;omega
 | x::l,k,h=>by
  unfold gE at h ⊢;by_cases he:κ x=n
  · rw[if_pos he]
    refine⟨0,by simp,rfl,he,?_⟩;unfold cn;rw[List.find?_cons,show(κ x==n)=true by simpa using he];rfl
  · rw[if_neg he] at h ⊢
    obtain⟨j,hj,e1,e2,e3⟩:=dW h;refine⟨j+1,by simp;omega,by rw[e1];congr 1;omega,e2,?_⟩;unfold cn at e3 ⊢;rw[List.find?_cons,show(κ x==n)=false by simpa using he];exact e3
theorem pq {n:Int}:∀{l:List α} {j:Nat} (k:Nat) (hj:j<l.length),(∀i (hi:i<l.length),i<j→κ l[i]≠n)→gE κ n l k=if κ l[j]=n then ((k+j:Nat):Int) else gE κ n (l.drop (j+1)) (k+(j+1))
 | [],_,_,hj,_=>by simp at hj
 | x::l,0,k,_,_=>by
  rw[gE];rfl
 | x::l,j+1,k,hj,h=>by
  have Y:κ x≠n:=h 0 (by simp) (by omega);rw[gE,if_neg Y,pq (k+1) (j:=j) (by simpa using hj) fun i hi hij=>by have:=h (i+1) (by simpa using hi) (by omega);simpa using this];simp only[List.getElem_cons_succ,List.drop_succ_cons];rw[show k+1+j=k+(j+1) by omega,show k+1+(j+1)=k+(j+1+1) by omega]
end
set_option maxRecDepth 4000
open Go.RowKit Go.Sort Go.Shelf
theorem oX {α:Type} {κ:α→Int} {n:Int} {l:List α} {j:Nat} (hj:j<l.length) (h:∀i (hi:i<l.length),i<j→κ l[i]≠n) (e:κ l[j]=n):gE κ n l 0=(j:Int):=by
 rw[pq 0 hj h,if_pos e,Nat.zero_add]
theorem ic {α:Type} {κ:α→Int} {n:Int}:∀{l:List α} {k:Nat},(∀i (hi:i<l.length),κ l[i]≠n)→gE κ n l k = -1
 | [],_,_=>rfl
 | x::l,k,h=>by
  have Y:κ x≠n:=h 0 (by simp);rw[gE,if_neg Y,ic fun i hi=>by have:=h (i+1) (by simpa using hi);simpa using this]
theorem sP (l:List Rcd) (n:Int) (A:Option Addr) (c:Nat) (w:World) (hr:Rd w w.heap.size A (l.flatMap cw)) (hl:l.length≤100000) :
 Calls Tryz.prog 79 #[.slice A l.length c,.int .i64 n] w fun e w'=>e=.returned (.int .i64 (gE Rcd.l n l 0))∧Below w.heap.size w w':=by
 refine aD (N:=20) Tryz.func79 rfl rfl rfl (fun _ Y=>?_);have Z:=St.init w;refine ab (ag ?_);refine ma Y rfl rfl fun _ Y=>?_;refine ae (aa (ab (ab (ag ?_))));refine ma Y rfl rfl fun _ Y=>?_;refine ae (aa (wp_block ?_));refine bC Y Z [0,1] (fun (j:Nat)=>[(5,.int .i64 (j:Nat))]) (fun (j:Nat)=>j≤l.length∧∀i (hi:i<l.length),i<j→Rcd.l l[i]≠n) (fun (j:Nat) L=>L) (fun (j:Nat)=>l.length-j) (0) (⟨Nat.zero_le _,fun k _ h=>absurd h (Nat.not_lt_zero _)⟩) ⟨rfl,rfl,rfl,trivial⟩ (Z) ?_;intro j _ _ hF0 Y Z;refine ab (ab (ag ?_));refine mv Y rfl rfl fun _ Y=>?_;refine mv Y rfl rfl fun _ Y=>?_;refine sv Y (bn Tryz.underlying41 (Y.ev rfl)) fun _ Y=>?_;refine sv Y (bh (Y.ev rfl) (Y.ev rfl)) fun _ Y=>?_;refine ae (aa ?_);refine aB (Y.ev rfl) (fun hc0=>?_) (fun hc0=>?_)
 ·
  have hlt:j<l.length:=by have:=of_decide_eq_true hc0;omega
  obtain⟨b,o,rfl,hB,_⟩:=hr.opened (aP aL (by decide) (by omega));refine wp_skip (aa (ab (wp_block (ab (ag ?_)))));refine mv Y rfl rfl fun _ Y=>?_;refine mv Y rfl rfl fun _ Y=>?_;refine sv Y (aC (i:=j) (sz:=14) Tryz.underlying41 (by kernel_rfl) (Y.ev rfl) (Y.ev rfl) (by omega) (by omega) rfl) fun _ Y=>?_;refine sv Y (ai (off:=0) (by kernel_rfl) (Y.ev rfl) rfl) fun _ Y=>?_;refine sv Y (ao (by kernel_rfl) (Y.ev rfl) ((ba aL (Z.rd0 hr) hlt) 0 _ rfl)) fun _ Y=>?_;refine mv Y rfl rfl fun _ Y=>?_;refine sv Y (aW (Y.ev rfl) (Y.ev rfl)) fun _ Y=>?_;refine ae (aa ?_);refine aB (Y.ev rfl) (fun hc1=>?_) (fun hc1=>?_)
  ·
   have hhit:gE Rcd.l n l 0=(j:Int):=oX hlt hF0.2 (by simpa using hc1);refine ab (ag ?_);refine mv Y rfl rfl fun _ Y=>?_;refine ma Y rfl rfl fun _ Y=>?_;refine ae (aa (wp_ret (aF (ak (ak (aF (ak ?_)))))));refine bw Y rfl rfl ?_;exact⟨by rw[hhit],Z.below⟩
  ·
   have hne:Rcd.l l[j]≠n:=by simpa using hc1
   refine wp_skip (aK (aa (ag ?_)));refine mv Y rfl rfl fun _ Y=>?_;refine sv Y (a7 (Y.ev rfl) (Y.ev rfl) (by omega)) fun _ Y=>?_;refine ma Y rfl rfl fun _ Y=>?_;refine ae (aa ?_);exact⟨j+1,(by omega),⟨hlt,fun k hk hkj=>by rcases Nat.lt_or_eq_of_le (show k≤j by omega) with q | q;exact hF0.2 k hk q;subst q;exact hne⟩,Y.re ⟨rfl,rfl,rfl,trivial⟩,Z⟩
 ·
  have hge:l.length≤j:=by have:=of_decide_eq_false hc0;omega
  have hmi:gE Rcd.l n l 0 = -1:=ic fun k hk=>hF0.2 k hk (by omega);refine wp_exit ?_;refine ar ?_;refine ar ?_;refine bz ?_;refine aa (ab (ag ?_));refine ma Y rfl rfl fun _ Y=>?_;refine ae (aa (wp_ret ?_));refine bw Y rfl rfl ?_;exact⟨by rw[hmi],Z.below⟩
theorem rN (t:Tbl) (n:Int) (A:Option Addr) (c:Nat) (B:Option Addr) (d:Nat) (w:World) (hs:Rd w w.heap.size B (t.ds.flatMap cm)) (hl:t.ds.length≤100000) :
 Calls Tryz.prog 89 #[bO t A c B d,.int .i64 n] w fun e w'=>e=.returned (.int .i64 (gE Dty.g n t.ds 0))∧Below w.heap.size w w':=by
 refine aD (N:=22) Tryz.func89 rfl rfl rfl (fun _ Y=>?_);have Z:=St.init w;refine ab (ag ?_);refine nb Y rfl rfl Z fun b2 _ _ gb2 Y Z=>?_;refine ma Y rfl rfl fun _ Y=>?_;refine ae (aa (ab (ab (ag ?_))));refine ma Y rfl rfl fun _ Y=>?_;refine ae (aa (wp_block ?_));refine bC Y Z [2,1] (fun (j:Nat)=>[(5,.int .i64 (j:Nat))]) (fun (j:Nat)=>j≤t.ds.length∧∀i (hi:i<t.ds.length),i<j→Dty.g t.ds[i]≠n) (fun (j:Nat) L=>L) (fun (j:Nat)=>t.ds.length-j) (0) (⟨Nat.zero_le _,fun k _ h=>absurd h (Nat.not_lt_zero _)⟩) ⟨rfl,rfl,rfl,trivial⟩ (Z) ?_;intro j _ _ hF0 Y Z;refine ab (ab (ag ?_));refine mv Y rfl rfl fun _ Y=>?_;refine vf Y 1 1 rfl rfl rfl fun _ Y=>?_;refine vl Y Z 0 rfl rfl rfl rfl fun _ Y=>?_;refine sv Y (bn Tryz.underlying23 (Y.ev rfl)) fun _ Y=>?_;refine sv Y (bh (Y.ev rfl) (Y.ev rfl)) fun _ Y=>?_;refine ae (aa ?_);refine aB (Y.ev rfl) (fun hc0=>?_) (fun hc0=>?_)
 ·
  have hlt:j<t.ds.length:=by have:=of_decide_eq_true hc0;omega
  obtain⟨b,o,rfl,hB,_⟩:=hs.opened (aP bN (by decide) (by omega));refine wp_skip (aa (ab (wp_block (ab (ag ?_)))));refine vf Y 1 1 rfl rfl rfl fun _ Y=>?_;refine vl Y Z 0 rfl rfl rfl rfl fun _ Y=>?_;refine mv Y rfl rfl fun _ Y=>?_;refine sv Y (aC (i:=j) (sz:=3) Tryz.underlying23 (by kernel_rfl) (Y.ev rfl) (Y.ev rfl) (by omega) (by omega) rfl) fun _ Y=>?_;refine sv Y (ai (off:=0) (by kernel_rfl) (Y.ev rfl) rfl) fun _ Y=>?_;refine sv Y (ao (by kernel_rfl) (Y.ev rfl) ((ba bN (Z.rd0 hs) hlt) 0 _ rfl)) fun _ Y=>?_;refine mv Y rfl rfl fun _ Y=>?_;refine sv Y (aW (Y.ev rfl) (Y.ev rfl)) fun _ Y=>?_;refine ae (aa ?_);refine aB (Y.ev rfl) (fun hc1=>?_) (fun hc1=>?_)
  ·
   have hhit:gE Dty.g n t.ds 0=(j:Int):=oX hlt hF0.2 (by simpa using hc1);refine ab (ag ?_);refine mv Y rfl rfl fun _ Y=>?_;refine ma Y rfl rfl fun _ Y=>?_;refine ae (aa (wp_ret (aF (ak (ak (aF (ak ?_)))))));refine bw Y rfl rfl ?_;exact⟨by rw[hhit],Z.below⟩
  ·
   have hne:Dty.g t.ds[j]≠n:=by simpa using hc1
   refine wp_skip (aK (aa (ag ?_)));refine mv Y rfl rfl fun _ Y=>?_;refine sv Y (a7 (Y.ev rfl) (Y.ev rfl) (by omega)) fun _ Y=>?_;refine ma Y rfl rfl fun _ Y=>?_;refine ae (aa ?_);exact⟨j+1,(by omega),⟨hlt,fun k hk hkj=>by rcases Nat.lt_or_eq_of_le (show k≤j by omega) with q | q;exact hF0.2 k hk q;subst q;exact hne⟩,Y.re ⟨rfl,rfl,rfl,trivial⟩,Z⟩
 ·
  have hge:t.ds.length≤j:=by have:=of_decide_eq_false hc0;omega
  have hmi:gE Dty.g n t.ds 0 = -1:=ic fun k hk=>hF0.2 k hk (by omega);refine wp_exit ?_;refine ar ?_;refine ar ?_;refine bz ?_;refine aa (ab (ag ?_));refine ma Y rfl rfl fun _ Y=>?_;refine ae (aa (wp_ret ?_));refine bw Y rfl rfl ?_;exact⟨by rw[hmi],Z.below⟩
theorem sa (t:Tbl) (n:Int) (A:Option Addr) (c:Nat) (B:Option Addr) (d:Nat) (w:World) (hs:Rd w w.heap.size A (t.ts.flatMap bU)) (hl:t.ts.length≤100000) :
 Calls Tryz.prog 132 #[bO t A c B d,.int .i64 n] w fun e w'=>e=.returned (.int .i64 (gE Trn.i n t.ts 0))∧Below w.heap.size w w':=by
 refine aD (N:=22) Tryz.func132 rfl rfl rfl (fun _ Y=>?_);have Z:=St.init w;refine ab (ag ?_);refine nb Y rfl rfl Z fun b2 _ _ gb2 Y Z=>?_;refine ma Y rfl rfl fun _ Y=>?_;refine ae (aa (ab (ab (ag ?_))));refine ma Y rfl rfl fun _ Y=>?_;refine ae (aa (wp_block ?_));refine bC Y Z [2,1] (fun (j:Nat)=>[(5,.int .i64 (j:Nat))]) (fun (j:Nat)=>j≤t.ts.length∧∀i (hi:i<t.ts.length),i<j→Trn.i t.ts[i]≠n) (fun (j:Nat) L=>L) (fun (j:Nat)=>t.ts.length-j) (0) (⟨Nat.zero_le _,fun k _ h=>absurd h (Nat.not_lt_zero _)⟩) ⟨rfl,rfl,rfl,trivial⟩ (Z) ?_;intro j _ _ hF0 Y Z;refine ab (ab (ag ?_));refine mv Y rfl rfl fun _ Y=>?_;refine vf Y 0 0 rfl rfl rfl fun _ Y=>?_;refine vl Y Z 0 rfl rfl rfl rfl fun _ Y=>?_;refine sv Y (bn Tryz.underlying22 (Y.ev rfl)) fun _ Y=>?_;refine sv Y (bh (Y.ev rfl) (Y.ev rfl)) fun _ Y=>?_;refine ae (aa ?_);refine aB (Y.ev rfl) (fun hc0=>?_) (fun hc0=>?_)
 ·
  have hlt:j<t.ts.length:=by have:=of_decide_eq_true hc0;omega
  obtain⟨b,o,rfl,hB,_⟩:=hs.opened (aP bj (by decide) (by omega));refine wp_skip (aa (ab (wp_block (ab (ag ?_)))));refine vf Y 0 0 rfl rfl rfl fun _ Y=>?_;refine vl Y Z 0 rfl rfl rfl rfl fun _ Y=>?_;refine mv Y rfl rfl fun _ Y=>?_;refine sv Y (aC (i:=j) (sz:=4) Tryz.underlying22 (by kernel_rfl) (Y.ev rfl) (Y.ev rfl) (by omega) (by omega) rfl) fun _ Y=>?_;refine sv Y (ai (off:=0) (by kernel_rfl) (Y.ev rfl) rfl) fun _ Y=>?_;refine sv Y (ao (by kernel_rfl) (Y.ev rfl) ((ba bj (Z.rd0 hs) hlt) 0 _ rfl)) fun _ Y=>?_;refine mv Y rfl rfl fun _ Y=>?_;refine sv Y (aW (Y.ev rfl) (Y.ev rfl)) fun _ Y=>?_;refine ae (aa ?_);refine aB (Y.ev rfl) (fun hc1=>?_) (fun hc1=>?_)
  ·
   have hhit:gE Trn.i n t.ts 0=(j:Int):=oX hlt hF0.2 (by simpa using hc1);refine ab (ag ?_);refine mv Y rfl rfl fun _ Y=>?_;refine ma Y rfl rfl fun _ Y=>?_;refine ae (aa (wp_ret (aF (ak (ak (aF (ak ?_)))))));refine bw Y rfl rfl ?_;exact⟨by rw[hhit],Z.below⟩
  ·
   have hne:Trn.i t.ts[j]≠n:=by simpa using hc1
   refine wp_skip (aK (aa (ag ?_)));refine mv Y rfl rfl fun _ Y=>?_;refine sv Y (a7 (Y.ev rfl) (Y.ev rfl) (by omega)) fun _ Y=>?_;refine ma Y rfl rfl fun _ Y=>?_;refine ae (aa ?_);exact⟨j+1,(by omega),⟨hlt,fun k hk hkj=>by rcases Nat.lt_or_eq_of_le (show k≤j by omega) with q | q;exact hF0.2 k hk q;subst q;exact hne⟩,Y.re ⟨rfl,rfl,rfl,trivial⟩,Z⟩
 ·
  have hge:t.ts.length≤j:=by have:=of_decide_eq_false hc0;omega
  have hmi:gE Trn.i n t.ts 0 = -1:=ic fun k hk=>hF0.2 k hk (by omega);refine wp_exit ?_;refine ar ?_;refine ar ?_;refine bz ?_;refine aa (ab (ag ?_));refine ma Y rfl rfl fun _ Y=>?_;refine ae (aa (wp_ret ?_));refine bw Y rfl rfl ?_;exact⟨by rw[hmi],Z.below⟩
def cV (l:List Rcd) (i:Nat) (t:Int):Int:=match bK l t i with
 | none=>-1
 | some k=>(k:Int)
theorem kN (l:List Rcd) (i:Nat) (hi:i<l.length) (A:Option Addr) (c:Nat) (w:World) (hr:Rd w w.heap.size A (l.flatMap cw)) (hl:l.length≤100000) :
 Calls Tryz.prog 175 #[.slice A l.length c,.int .i64 (i:Nat)] w fun e w'=>e=.returned (.int .i64 (cV l i l[i].e.t))∧Below w.heap.size w w':=by
 obtain⟨b,o,rfl,hB,_⟩:=hr.opened (aP aL (by decide) (by omega));refine aD (N:=35) Tryz.func175 rfl rfl rfl (fun _ Y=>?_);have Z:=St.init w;refine ab (ag ?_);refine ma Y rfl rfl fun _ Y=>?_;refine ae (aa (ab (ab (ag ?_))));refine mv Y rfl rfl fun _ Y=>?_;refine sv Y (gb (Y.ev rfl) (Y.ev rfl) (by omega)) fun _ Y=>?_;refine ma Y rfl rfl fun _ Y=>?_;refine ae (aa (wp_block ?_));refine bC Y Z [0,1] (fun (j:Nat)=>[(5,.int .i64 ((j:Nat)-1))]) (fun (j:Nat)=>j≤i∧cV l i l[i].e.t=cV l j l[i].e.t) (fun (j:Nat) L=>L) (fun (j:Nat)=>j) (i) (⟨Nat.le_refl _,rfl⟩) ⟨rfl,rfl,rfl,trivial⟩ (Z) ?_;intro j _ _ hF0 Y Z;refine ab (ab (ag ?_));refine mv Y rfl rfl fun _ Y=>?_;refine sv Y (jk (Y.ev rfl) (Y.ev rfl)) fun _ Y=>?_;refine ae (aa ?_);refine aB (Y.ev rfl) (fun hc0=>?_) (fun hc0=>?_)
 ·
  have hj0:0<j:=by have:=of_decide_eq_true hc0;omega
  have hjl:j-1<l.length:=by omega
  have hb:bK l l[i].e.t j=if l[j-1].e.k≠5∧l[j-1].e.t=l[i].e.t then some (j-1) else bK l l[i].e.t (j-1):=by
   have:=pM (t:=l[i].e.t) hjl
   rwa [show j-1+1=j by omega] at this
  refine wp_skip (aa (ab (wp_block (ab ?_))));apply bq Y [false,false,false,false,false,false,false,false,false,false,false,false,false,false,false,false,false,false,false,false,false] _ (by kernel_rfl)
  case h=>
   refine qv Y (fun X hX=>aj (Y.ev rfl)) fun _ Y=>?_;refine qv Y (fun X hX=>aj (Y.ev rfl)) fun _ Y=>?_;refine qv Y (fun X hX=>aC (i:=j-1) (sz:=14) Tryz.underlying41 (by kernel_rfl) (Y.ev rfl) (Y.ev rfl) (by omega) (by omega) rfl) fun _ Y=>?_;refine qv Y (fun X hX=>ai (off:=1) (by kernel_rfl) (Y.ev rfl) rfl) fun _ Y=>?_;refine qv Y (fun X hX=>ai (off:=0) (by kernel_rfl) (Y.ev rfl) rfl) fun _ Y=>?_;refine qv Y (fun X hX=>ao (by kernel_rfl) (Y.ev rfl) ((ba aL ((Z.grow hX).rd0 hr) hjl) 1 _ rfl)) fun _ Y=>?_;refine qv Y (fun X hX=>bc (Y.ev rfl) (Y.ev rfl)) fun _ Y=>?_;refine qv Y (fun X hX=>aj (Y.ev rfl)) fun _ Y=>?_;apply kc Y 19 rfl 13 32
   case ht=>
    intro gc19;refine au Y (ah Y _ rfl rfl rfl gc19) rfl rfl (fun X hX=>(aj (Y.ev rfl))) fun _ Y=>?_;refine au Y (ah Y _ rfl rfl rfl gc19) rfl rfl (fun X hX=>(aj (Y.ev rfl))) fun _ Y=>?_;refine au Y (ah Y _ rfl rfl rfl gc19) rfl rfl (fun X hX=>(aC (i:=j-1) (sz:=14) Tryz.underlying41 (by kernel_rfl) (Y.ev rfl) (Y.ev rfl) (by omega) (by omega) rfl)) fun _ Y=>?_;refine au Y (ah Y _ rfl rfl rfl gc19) rfl rfl (fun X hX=>(ai (off:=1) (by kernel_rfl) (Y.ev rfl) rfl)) fun _ Y=>?_;refine au Y (ah Y _ rfl rfl rfl gc19) rfl rfl (fun X hX=>(ai (off:=1) (by kernel_rfl) (Y.ev rfl) rfl)) fun _ Y=>?_;refine au Y (ah Y _ rfl rfl rfl gc19) rfl rfl (fun X hX=>(ao (by kernel_rfl) (Y.ev rfl) ((ba aL ((Z.grow hX).rd0 hr) hjl) 2 _ rfl))) fun _ Y=>?_;refine au Y (ah Y _ rfl rfl rfl gc19) rfl rfl (fun X hX=>(aj (Y.ev rfl))) fun _ Y=>?_;refine au Y (ah Y _ rfl rfl rfl gc19) rfl rfl (fun X hX=>(aj (Y.ev rfl))) fun _ Y=>?_;refine au Y (ah Y _ rfl rfl rfl gc19) rfl rfl (fun X hX=>(aC (i:=i) (sz:=14) Tryz.underlying41 (by kernel_rfl) (Y.ev rfl) (Y.ev rfl) (by omega) (by omega) rfl)) fun _ Y=>?_;refine au Y (ah Y _ rfl rfl rfl gc19) rfl rfl (fun X hX=>(ai (off:=1) (by kernel_rfl) (Y.ev rfl) rfl)) fun _ Y=>?_;refine au Y (ah Y _ rfl rfl rfl gc19) rfl rfl (fun X hX=>(ai (off:=1) (by kernel_rfl) (Y.ev rfl) rfl)) fun _ Y=>?_;refine au Y (ah Y _ rfl rfl rfl gc19) rfl rfl (fun X hX=>(ao (by kernel_rfl) (Y.ev rfl) ((ba aL ((Z.grow hX).rd0 hr) hi) 2 _ rfl))) fun _ Y=>?_;refine au Y (ah Y _ rfl rfl rfl gc19) rfl rfl (fun X hX=>(aW (Y.ev rfl) (Y.ev rfl))) fun _ Y=>?_;exact aH (Y.mid (m:=[(_,_),(_,_),(_,_),(_,_),(_,_),(_,_),(_,_),(_,_),(_,_),(_,_),(_,_),(_,_)]) rfl)
   case hf=>
    intro gc19;refine qo Y rfl rfl rfl gc19 rfl rfl fun _ Y=>?_;refine qo Y rfl rfl rfl gc19 rfl rfl fun _ Y=>?_;refine qo Y rfl rfl rfl gc19 rfl rfl fun _ Y=>?_;refine qo Y rfl rfl rfl gc19 rfl rfl fun _ Y=>?_;refine qo Y rfl rfl rfl gc19 rfl rfl fun _ Y=>?_;refine qo Y rfl rfl rfl gc19 rfl rfl fun _ Y=>?_;refine qo Y rfl rfl rfl gc19 rfl rfl fun _ Y=>?_;refine qo Y rfl rfl rfl gc19 rfl rfl fun _ Y=>?_;refine qo Y rfl rfl rfl gc19 rfl rfl fun _ Y=>?_;refine qo Y rfl rfl rfl gc19 rfl rfl fun _ Y=>?_;refine qo Y rfl rfl rfl gc19 rfl rfl fun _ Y=>?_;refine qo Y rfl rfl rfl gc19 rfl rfl fun _ Y=>?_;refine qo Y rfl rfl rfl gc19 rfl rfl fun _ Y=>?_;exact aH ⟨_,Y.mid (m:=[(_,_),(_,_),(_,_),(_,_),(_,_),(_,_),(_,_),(_,_),(_,_),(_,_),(_,_),(_,_)]) rfl⟩
   case h=>
    intro v42 _ hg32 Y;refine aH ?_;refine bE fun _ hX43 hΦ43=>?_;have Z:=Z.grow hX43;refine sv Y (el (Y.ev rfl) (Y.ev rfl) hg32 (Y.ev rfl)) fun _ Y=>?_;refine ae (aa ?_);refine aB (Y.ev rfl) (fun hc1=>?_) (fun hc1=>?_)
    ·
     have hyes:l[j-1].e.k≠5∧l[j-1].e.t=l[i].e.t:=by simpa using hc1
     have hR:cV l i l[i].e.t=(j:Int)-1:=by
      rw[hF0.2];unfold cV;rw[hb,if_pos hyes];show((j-1:Nat):Int)=_;omega
     refine ab (ag ?_);refine mv Y rfl rfl fun _ Y=>?_;refine ma Y rfl rfl fun _ Y=>?_;refine ae (aa (wp_ret (aF (ak (ak (aF (ak ?_)))))));refine bw Y rfl rfl ?_;exact⟨by rw[hR],Z.below⟩
    ·
     have hno:¬(l[j-1].e.k≠5∧l[j-1].e.t=l[i].e.t):=fun h=>by rw[beq_iff_eq.2 h.2] at hc1;simp at hc1;exact h.1 hc1
     refine wp_skip (aK (aa (ag ?_)));refine mv Y rfl rfl fun _ Y=>?_;refine sv Y (a8 (v':=.int .i64 (((j-1:Nat):Int)-1)) (congrArg _ (by omega)) (gb (Y.ev rfl) (Y.ev rfl) (by omega))) fun _ Y=>?_;refine ma Y rfl rfl fun _ Y=>?_;refine ae (aa ?_);exact⟨j-1,(by omega),⟨by omega,by rw[hF0.2];unfold cV;rw[hb,if_neg hno]⟩,Y.re ⟨rfl,rfl,rfl,trivial⟩,Z⟩
  case hB=>kernel_rfl
  case hst=>rfl
 ·
  have hj0:j=0:=by have:=of_decide_eq_false hc0;omega
  have hz:cV l i l[i].e.t = -1:=by rw[hF0.2,hj0];rfl
  refine wp_exit ?_;refine ar ?_;refine ar ?_;refine bz ?_;refine aa (ab (ag ?_));refine ma Y rfl rfl fun _ Y=>?_;refine ae (aa (wp_ret ?_));refine bw Y rfl rfl ?_;exact⟨by rw[hz],Z.below⟩
set_option maxRecDepth 4000
open Go.RowKit Go.Sort Go.Shelf
theorem gu {l:List Rcd} {i:Nat} {t:Int} (h:0≤cV l i t):∃k,k<i∧cV l i t=(k:Int)∧bK l t i=some k:=by
 unfold cV at h ⊢
 cases hb:bK l t i with
 | none=>rw[hb] at h;simp at h
 | some k=>exact⟨k,(eZ hb).1,rfl,rfl⟩
theorem uh {l:List Rcd} {i:Nat} {t:Int} (h:¬0≤cV l i t):cV l i t = -1∧bK l t i=none:=by
 unfold cV at h ⊢
 cases hb:bK l t i with
 | none=>exact⟨rfl,rfl⟩
 | some k=>rw[hb] at h;exact absurd (Int.natCast_nonneg k) h
def AA (l:List Rcd) (k:Int):Bool:=dM l k.toNat != 4
theorem si (l:List Rcd) (i:Nat) (hi:i<l.length) (A:Option Addr) (c:Nat) (w:World) (hr:Rd w w.heap.size A (l.flatMap cw)) (hl:l.length≤100000)
 (IH:∀k,k<i→∀w,Rd w w.heap.size A (l.flatMap cw)→Calls Tryz.prog 176 #[.slice A l.length c,.int .i64 (k:Nat)] w fun e w'=>e=.returned (.int .i64 (gF l k))∧Below w.heap.size w w') :
 Calls Tryz.prog 176 #[.slice A l.length c,.int .i64 (i:Nat)] w fun e w'=>e=.returned (.int .i64 (gF l i))∧Below w.heap.size w w':=by
 obtain⟨b,o,rfl,hB,_⟩:=hr.opened (aP aL (by decide) (by omega));have hN:=l6 hi;refine aD (N:=44) Tryz.func176 rfl rfl rfl (fun _ h0=>?_);have S0:=St.init w;refine ab (ag ?_);refine ma h0 rfl rfl fun _ h1=>?_;refine cu ?_;refine mv h1 rfl rfl fun _ h2=>?_;refine mv h2 rfl rfl fun _ h3=>?_;refine sv h3 (aC (i:=i) (sz:=14) Tryz.underlying41 (by kernel_rfl) (h3.ev rfl) (h3.ev rfl) (by omega) (by omega) rfl) fun _ h4=>?_;refine sv (v:=fw l[i]) h4 (av (by kernel_rfl) (by kernel_rfl) (h4.ev rfl) (ba aL (S0.rd0 hr) hi)) fun _ h5=>?_;refine na (.agg #[.int .i64 0,.int .i64 0,.int .i64 0,.int .i64 0,.int .i64 0,.int .i64 0,.bool false,.int .i64 0,.int .i64 0,.int .i64 0,.int .i64 0,.string ⟨#[]⟩,.string ⟨#[]⟩,.string ⟨#[]⟩]) h5 rfl S0 fun b5 _ _ gb5 h6 S6=>?_;refine az h6 (wn rfl) ⟨rfl,rfl⟩ (h6.ev rfl) (h6.ev rfl) rfl (by kernel_rfl) S6 (i:=0) rfl rfl rfl fun _ S7=>?_;refine ae (aa (ab (ab (ag ?_))));refine vf h6 1 1 rfl rfl rfl fun _ h8=>?_;refine vf h8 0 1 rfl rfl rfl fun _ h9=>?_;refine vl h9 S7 0 rfl rfl rfl rfl fun _ h10=>?_;refine ae (aa (wp_block (ab (ag ?_))));refine sv h10 (aW (h10.ev rfl) (h10.ev rfl)) fun _ h11=>?_;refine ma h11 rfl rfl fun _ h12=>?_;refine ae (aa ?_);refine aB (h12.ev rfl) (fun hc0=>?_) (fun hc0=>?_)
 ·
  rw[if_pos (by simpa using hc0)] at hN;refine ab (ag ?_);refine vf h12 0 0 rfl rfl rfl fun _ h13=>?_;refine vl h13 S7 0 rfl rfl rfl rfl fun _ h14=>?_;refine ma h14 rfl rfl fun _ h15=>?_;refine ae (aa (wp_ret (aF (ak ?_))));refine bw h15 rfl rfl ?_;exact⟨by rw[hN],S7.below⟩
 ·
  rw[if_neg (by simpa using hc0)] at hN;refine ab (ag ?_);refine sv h12 (aW (h12.ev rfl) (h12.ev rfl)) fun _ h16=>?_;refine ma h16 rfl rfl fun _ h17=>?_;refine ae (aa ?_);refine aB (h17.ev rfl) (fun hc1=>?_) (fun hc1=>?_)
  ·
   rw[if_pos (by simpa using hc1)] at hN;refine ab (ag ?_);refine vf h17 1 1 rfl rfl rfl fun _ h18=>?_;refine vf h18 3 4 rfl rfl rfl fun _ h19=>?_;refine vl h19 S7 0 rfl rfl rfl rfl fun _ h20=>?_;refine ma h20 rfl rfl fun _ h21=>?_;refine ae (aa (wp_ret (aF (ak ?_))));refine bw h21 rfl rfl ?_;exact⟨by rw[hN],S7.below⟩
  ·
   rw[if_neg (by simpa using hc1)] at hN;refine wp_skip (aK (aa (ab (ab (ag ?_)))));refine mv h17 rfl rfl fun _ h22=>?_;refine mv h22 rfl rfl fun _ h23=>?_;refine aV h23 (wn rfl) (aq (fun _ _=>by kernel_rfl) (h23.evs rfl) rfl) rfl rfl S7 (kN l i hi _ c _ (S7.rd0 hr) hl) fun _ _ h24 S24=>?_;refine ma h24 rfl rfl fun _ h25=>?_;refine cu ?_;refine mv h25 rfl rfl fun _ h26=>?_;refine sv h26 (jk (h26.ev rfl) (h26.ev rfl)) fun _ h27=>?_;refine mv h27 rfl rfl fun _ h28=>?_;apply cQ (x:=AA l (cV l i l[i].e.t)) h28 S24 28 rfl 8 36
   case ht=>
    intro gc28;obtain⟨k,hki,hbk,hbh⟩:=gu (of_decide_eq_true gc28)
    have hkl:k<l.length:=by omega
    have hkk:dM l (cV l i l[i].e.t).toNat=l[k].e.k:=by rw[hbk];exact eC hkl
    refine sy h28 rfl rfl rfl gc28 (aj (h28.ev rfl)) rfl rfl fun _ h29=>?_;refine sy h29 rfl rfl rfl gc28 (aj (h29.ev rfl)) rfl rfl fun _ h30=>?_;refine sy h30 rfl rfl rfl gc28 (aC (i:=k) (sz:=14) Tryz.underlying41 (by kernel_rfl) (h30.ev rfl) (h30.ev rfl) (by omega) (by omega) rfl) rfl rfl fun _ h31=>?_;refine sy h31 rfl rfl rfl gc28 (ai (off:=1) (by kernel_rfl) (h31.ev rfl) rfl) rfl rfl fun _ h32=>?_;refine sy h32 rfl rfl rfl gc28 (ai (off:=0) (by kernel_rfl) (h32.ev rfl) rfl) rfl rfl fun _ h33=>?_;refine sy h33 rfl rfl rfl gc28 (ao (by kernel_rfl) (h33.ev rfl) ((ba aL (S24.rd0 hr) hkl) 1 _ rfl)) rfl rfl fun _ h34=>?_;refine sy h34 rfl rfl rfl gc28 (a8 (v':=.bool (AA l (cV l i l[i].e.t))) (by unfold AA;rw[hkk]) (bc (h34.ev rfl) (h34.ev rfl))) rfl rfl fun _ h35=>?_;refine sv h35 (aA (h35.ev rfl) gc28 (h35.ev rfl)) fun _ h36=>?_;exact ae ⟨h36.mid (m:=[(_,_),(_,_),(_,_),(_,_),(_,_),(_,_),(_,_)]) rfl,S24⟩
   case hf=>
    intro gc28;refine no h28 rfl rfl rfl gc28 rfl rfl fun _ h37=>?_;refine no h37 rfl rfl rfl gc28 rfl rfl fun _ h38=>?_;refine no h38 rfl rfl rfl gc28 rfl rfl fun _ h39=>?_;refine no h39 rfl rfl rfl gc28 rfl rfl fun _ h40=>?_;refine no h40 rfl rfl rfl gc28 rfl rfl fun _ h41=>?_;refine no h41 rfl rfl rfl gc28 rfl rfl fun _ h42=>?_;refine no h42 rfl rfl rfl gc28 rfl rfl fun _ h43=>?_;refine sv h43 (aG (h43.ev rfl) gc28 (h43.ev rfl)) fun _ h44=>?_;exact ae ⟨h44.mid (m:=[(_,_),(_,_),(_,_),(_,_),(_,_),(_,_),(_,_)]) rfl,S24⟩
   case h=>
    rintro a45 X45 ⟨h45,S45⟩
    refine ae (aa ?_);refine aB (h45.ev rfl) (fun hc2=>?_) (fun hc2=>?_)
    ·
     obtain⟨u1,u2⟩:=Bool.and_eq_true_iff.1 hc2;obtain⟨k,hki,hbk,hbh⟩:=gu (of_decide_eq_true u1)
     have hkl:k<l.length:=by omega
     rw[hbh] at hN;simp only[] at hN;rw[if_pos ⟨by unfold AA at u2;rw[hbk] at u2;simpa using u2,hkl⟩] at hN;replace h45:=h45.also (t:=6) (v:=.int .i64 (k:Nat)) (by rw[←hbk];rfl);refine ab (ag ?_);refine mv h45 rfl rfl fun _ h46=>?_;refine mv h46 rfl rfl fun _ h47=>?_;refine aV h47 (wn rfl) (aq (fun _ _=>by kernel_rfl) (h47.evs rfl) rfl) rfl rfl S45 (IH k hki _ (S45.rd0 hr)) fun _ _ h48 S48=>?_;refine ma h48 rfl rfl fun _ h49=>?_;refine ae (aa (wp_ret (ak ?_)));refine bw h49 rfl rfl ?_;exact⟨by rw[hN],S48.below⟩
    ·
     have hN2:gF l i=if l[i].e.p≠0 then -1 else 0:=by
      rw[hN];by_cases hb0:0≤cV l i l[i].e.t
      · obtain⟨k,hki,hbk,hbh⟩:=gu hb0
        rw[decide_eq_true hb0,Bool.true_and] at hc2;rw[hbh];simp only[];rw[if_neg]
        rintro ⟨q,_⟩
        unfold AA at hc2;rw[hbk] at hc2;simp at hc2;exact q hc2
      · rw[(uh hb0).2]
     refine wp_skip (aa (ab (ab (ag ?_))));refine vf h45 1 1 rfl rfl rfl fun _ h50=>?_;refine vf h50 2 3 rfl rfl rfl fun _ h51=>?_;refine vl h51 S45 0 rfl rfl rfl rfl fun _ h52=>?_;refine sv h52 (bc (h52.ev rfl) (h52.ev rfl)) fun _ h53=>?_;refine ae (aa ?_);refine aB (h53.ev rfl) (fun hc3=>?_) (fun hc3=>?_)
     ·
      rw[if_pos (by simpa using hc3)] at hN2;refine ab (ag ?_);refine ma h53 rfl rfl fun _ h54=>?_;refine ae (aa (wp_ret (ak ?_)));refine bw h54 rfl rfl ?_;exact⟨by rw[hN2],S45.below⟩
     ·
      rw[if_neg (by simpa using hc3)] at hN2;refine wp_skip (aa (ab (ag ?_)));refine ma h53 rfl rfl fun _ h55=>?_;refine ae (aa (wp_ret ?_));refine bw h55 rfl rfl ?_;exact⟨by rw[hN2],S45.below⟩
theorem nX (l:List Rcd) (A:Option Addr) (c:Nat) (hl:l.length≤100000):∀n i:Nat,i<n→i<l.length→∀w,Rd w w.heap.size A (l.flatMap cw) →
 Calls Tryz.prog 176 #[.slice A l.length c,.int .i64 (i:Nat)] w fun e w'=>e=.returned (.int .i64 (gF l i))∧Below w.heap.size w w'
 | 0,_,h,_,_,_=>absurd h (Nat.not_lt_zero _)
 | n+1,i,h,hi,w,hr=>si l i hi A c w hr hl fun k hk w' hr'=>nX l A c hl n k (by omega) (by omega) w' hr'
theorem u5 (l:List Rcd) (i:Nat) (hi:i<l.length) (A:Option Addr) (c:Nat) (w:World) (hr:Rd w w.heap.size A (l.flatMap cw)) (hl:l.length≤100000) :
 Calls Tryz.prog 176 #[.slice A l.length c,.int .i64 (i:Nat)] w fun e w'=>e=.returned (.int .i64 (gF l i))∧Below w.heap.size w w':=
 nX l A c hl (i+1) i (Nat.lt_succ_self _) hi w hr
def sn (n:Nat) (a b:Nat):Bool:=!((decide ((n:Int)>a)&&decide ((n:Int)≤b))||decide ((n:Int)>b+2))
def oI (x:Lge):Bool:=!((decide ((x.d.size:Int)>1010)||decide ((x.o.o.size:Int)>600))||decide ((x.o.n.size:Int)>600))
def Aq (l:List Rcd):Bool:=sn l.length 24 100&&l.all fun x=>oI x.e
theorem sM {n a b:Nat} (h:sn n a b=true):n≤b+2:=by
 unfold sn at h;rw[Bool.not_eq_true'] at h;have:=of_decide_eq_false (Bool.or_eq_false_iff.1 h).2;omega
theorem zH {l:List Rcd} (h:Aq l=true):l.length≤102∧∀x∈l,FewE x.e:=by
 unfold Aq at h;obtain⟨h1,h2⟩:=Bool.and_eq_true_iff.1 h;refine⟨sM h1,fun x hx=>?_⟩;have h3:=List.all_eq_true.1 h2 x hx;unfold oI at h3;rw[Bool.not_eq_true'] at h3;obtain⟨u1,u3⟩:=Bool.or_eq_false_iff.1 h3;obtain⟨u1,u2⟩:=Bool.or_eq_false_iff.1 u1;have:=of_decide_eq_false u1;have:=of_decide_eq_false u2;have:=of_decide_eq_false u3;exact⟨by omega,by omega,by omega⟩
theorem qE (l:List Rcd) (A:Option Addr) (c:Nat) (w:World) (hr:Rd w w.heap.size A (l.flatMap cw)) (hl:l.length≤maxLen) :
 Calls Tryz.prog 23 #[.slice A l.length c] w fun e w'=>e=.returned (.bool (Aq l))∧Below w.heap.size w w':=by
 refine aD (N:=47) Tryz.func23 rfl rfl rfl (fun _ h0=>?_);have S0:=St.init w;refine ab (ag ?_);refine ma h0 rfl rfl fun _ h1=>?_;refine ae (aa (ab (ab (ag ?_))));refine mv h1 rfl rfl fun _ h2=>?_;refine sv h2 (bn Tryz.underlying41 (h2.ev rfl)) fun _ h3=>?_;refine sv h3 (df (h3.ev rfl) (h3.ev rfl)) fun _ h4=>?_;refine mv h4 rfl rfl fun _ h5=>?_;apply cQ (x:=decide ((l.length:Int)≤100)) h5 S0 8 rfl 4 12
 case ht=>
  intro gc8;refine sy h5 rfl rfl rfl gc8 (aj (h5.ev rfl)) rfl rfl fun _ h6=>?_;refine sy h6 rfl rfl rfl gc8 (bn Tryz.underlying41 (h6.ev rfl)) rfl rfl fun _ h7=>?_;refine sy h7 rfl rfl rfl gc8 (iG (h7.ev rfl) (h7.ev rfl)) rfl rfl fun _ h8=>?_;refine sv h8 (aA (h8.ev rfl) gc8 (h8.ev rfl)) fun _ h9=>?_;exact ae ⟨h9.mid (m:=[(_,_),(_,_),(_,_)]) rfl,S0⟩
 case hf=>
  intro gc8;refine no h5 rfl rfl rfl gc8 rfl rfl fun _ h10=>?_;refine no h10 rfl rfl rfl gc8 rfl rfl fun _ h11=>?_;refine no h11 rfl rfl rfl gc8 rfl rfl fun _ h12=>?_;refine sv h12 (aG (h12.ev rfl) gc8 (h12.ev rfl)) fun _ h13=>?_;exact ae ⟨h13.mid (m:=[(_,_),(_,_),(_,_)]) rfl,S0⟩
 case h=>
  rintro a14 X14 ⟨h14,S14⟩
  refine mv h14 rfl rfl fun _ h15=>?_;apply eh (x:=decide ((l.length:Int)>102)) h15 S14 13 rfl 4 17
  case hf=>
   intro gc13;refine sy h15 rfl rfl rfl gc13 (aj (h15.ev rfl)) rfl rfl fun _ h16=>?_;refine sy h16 rfl rfl rfl gc13 (bn Tryz.underlying41 (h16.ev rfl)) rfl rfl fun _ h17=>?_;refine sy h17 rfl rfl rfl gc13 (df (h17.ev rfl) (h17.ev rfl)) rfl rfl fun _ h18=>?_;refine sv h18 (aG (h18.ev rfl) gc13 (h18.ev rfl)) fun _ h19=>?_;exact ae ⟨h19.mid (m:=[(_,_),(_,_),(_,_)]) rfl,S14⟩
  case ht=>
   intro gc13;refine no h15 rfl rfl rfl gc13 rfl rfl fun _ h20=>?_;refine no h20 rfl rfl rfl gc13 rfl rfl fun _ h21=>?_;refine no h21 rfl rfl rfl gc13 rfl rfl fun _ h22=>?_;refine sv h22 (aA (h22.ev rfl) gc13 (h22.ev rfl)) fun _ h23=>?_;exact ae ⟨h23.mid (m:=[(_,_),(_,_),(_,_)]) rfl,S14⟩
  case h=>
   rintro a24 X24 ⟨h24,S24⟩
   refine ae (aa ?_);refine aB (h24.ev rfl) (fun hc0=>?_) (fun hc0=>?_)
   ·
    have hn:sn l.length 24 100=false:=by unfold sn;exact(Bool.not_eq_false' _).mpr hc0
    refine ab (ag ?_);refine ma h24 rfl rfl fun _ h25=>?_;refine ae (aa (wp_ret (ak ?_)));refine bw h25 rfl rfl ?_;exact⟨by unfold Aq;rw[hn];rfl,S24.below⟩
   ·
    have hn:sn l.length 24 100=true:=by unfold sn;exact(Bool.not_eq_true' _).mpr hc0
    have hnl:=sM hn;refine wp_skip (aa (ab (ab (ag ?_))));refine ma h24 rfl rfl fun _ h26=>?_;refine ae (aa (wp_block ?_));refine bC h26 S24 [0] (fun (j:Nat)=>[(3,.int .i64 (j:Nat))]) (fun (j:Nat)=>j≤l.length∧∀k (hk:k<l.length),k<j→oI l[k].e=true) (fun (j:Nat) L=>L) (fun (j:Nat)=>l.length-j) (0) (⟨Nat.zero_le _,fun k _ h=>absurd h (Nat.not_lt_zero _)⟩) ⟨rfl,rfl,trivial⟩ (S24) ?_;intro j _ _ hF0 h27 S27;refine ab (ab (ag ?_));refine mv h27 rfl rfl fun _ h28=>?_;refine mv h28 rfl rfl fun _ h29=>?_;refine sv h29 (bn Tryz.underlying41 (h29.ev rfl)) fun _ h30=>?_;refine sv h30 (bh (h30.ev rfl) (h30.ev rfl)) fun _ h31=>?_;refine ae (aa ?_);refine aB (h31.ev rfl) (fun hc1=>?_) (fun hc1=>?_)
    ·
     have hlt:j<l.length:=by have:=of_decide_eq_true hc1;omega
     obtain⟨b,o,rfl,hB,_⟩:=hr.opened (aP aL (by decide) (by omega));refine wp_skip (aa (ab (wp_block (ab (ag ?_)))));refine mv h31 rfl rfl fun _ h32=>?_;refine mv h32 rfl rfl fun _ h33=>?_;refine sv h33 (aC (i:=j) (sz:=14) Tryz.underlying41 (by kernel_rfl) (h33.ev rfl) (h33.ev rfl) (by omega) (by omega) rfl) fun _ h34=>?_;refine sv h34 (ai (off:=1) (by kernel_rfl) (h34.ev rfl) rfl) fun _ h35=>?_;refine sv (v:=ey l[j].e) h35 (av (by kernel_rfl) (by kernel_rfl) (h35.ev rfl) (eB (S27.rd0 hr) hlt)) fun _ h36=>?_;refine na (.agg #[.int .i64 0,.int .i64 0,.int .i64 0,.int .i64 0,.int .i64 0,.bool false,.int .i64 0,.int .i64 0,.int .i64 0,.int .i64 0,.string ⟨#[]⟩,.string ⟨#[]⟩,.string ⟨#[]⟩]) h36 rfl S27 fun b4 _ _ gb4 h37 S37=>?_;refine az h37 (wn rfl) ⟨rfl,rfl⟩ (h37.ev rfl) (h37.ev rfl) rfl (by kernel_rfl) S37 (i:=0) rfl rfl rfl fun _ S38=>?_;refine cu ?_;refine vf h37 12 12 rfl rfl rfl fun _ h39=>?_;refine vl h39 S38 0 rfl rfl rfl rfl fun _ h40=>?_;refine sv h40 (gQ Tryz.underlying9 (h40.ev rfl)) fun _ h41=>?_;refine sv h41 (df (h41.ev rfl) (h41.ev rfl)) fun _ h42=>?_;refine mv h42 rfl rfl fun _ h43=>?_;apply eh (x:=decide ((l[j].e.o.o.size:Int)>600)) h43 S38 33 rfl 6 39
     case hf=>
      intro gc33;refine sy h43 rfl rfl rfl gc33 (ai (off:=6) (j:=6) (by kernel_rfl) (h43.ev rfl) rfl) rfl rfl fun _ h44=>?_;refine sy h44 rfl rfl rfl gc33 (ai (off:=4) (j:=10) (by kernel_rfl) (h44.ev rfl) rfl) rfl rfl fun _ h45=>?_;refine sy h45 rfl rfl rfl gc33 (ao (by kernel_rfl) (h45.ev rfl) (S38.cell (i:=0) rfl rfl)) rfl rfl fun _ h46=>?_;refine sy h46 rfl rfl rfl gc33 (gQ Tryz.underlying9 (h46.ev rfl)) rfl rfl fun _ h47=>?_;refine sy h47 rfl rfl rfl gc33 (df (h47.ev rfl) (h47.ev rfl)) rfl rfl fun _ h48=>?_;refine sv h48 (aG (h48.ev rfl) gc33 (h48.ev rfl)) fun _ h49=>?_;exact ae ⟨h49.mid (m:=[(_,_),(_,_),(_,_),(_,_),(_,_)]) rfl,S38⟩
     case ht=>
      intro gc33;refine no h43 rfl rfl rfl gc33 rfl rfl fun _ h50=>?_;refine no h50 rfl rfl rfl gc33 rfl rfl fun _ h51=>?_;refine no h51 rfl rfl rfl gc33 rfl rfl fun _ h52=>?_;refine no h52 rfl rfl rfl gc33 rfl rfl fun _ h53=>?_;refine no h53 rfl rfl rfl gc33 rfl rfl fun _ h54=>?_;refine sv h54 (aA (h54.ev rfl) gc33 (h54.ev rfl)) fun _ h55=>?_;exact ae ⟨h55.mid (m:=[(_,_),(_,_),(_,_),(_,_),(_,_)]) rfl,S38⟩
     case h=>
      rintro a56 X56 ⟨h56,S56⟩
      refine mv h56 rfl rfl fun _ h57=>?_;apply eh (x:=decide ((l[j].e.o.n.size:Int)>600)) h57 S56 40 rfl 6 46
      case hf=>
       intro gc40;refine sy h57 rfl rfl rfl gc40 (ai (off:=6) (j:=6) (by kernel_rfl) (h57.ev rfl) rfl) rfl rfl fun _ h58=>?_;refine sy h58 rfl rfl rfl gc40 (ai (off:=5) (j:=11) (by kernel_rfl) (h58.ev rfl) rfl) rfl rfl fun _ h59=>?_;refine sy h59 rfl rfl rfl gc40 (ao (by kernel_rfl) (h59.ev rfl) (S56.cell (i:=0) rfl rfl)) rfl rfl fun _ h60=>?_;refine sy h60 rfl rfl rfl gc40 (gQ Tryz.underlying9 (h60.ev rfl)) rfl rfl fun _ h61=>?_;refine sy h61 rfl rfl rfl gc40 (df (h61.ev rfl) (h61.ev rfl)) rfl rfl fun _ h62=>?_;refine sv h62 (aG (h62.ev rfl) gc40 (h62.ev rfl)) fun _ h63=>?_;exact ae ⟨h63.mid (m:=[(_,_),(_,_),(_,_),(_,_),(_,_)]) rfl,S56⟩
      case ht=>
       intro gc40;refine no h57 rfl rfl rfl gc40 rfl rfl fun _ h64=>?_;refine no h64 rfl rfl rfl gc40 rfl rfl fun _ h65=>?_;refine no h65 rfl rfl rfl gc40 rfl rfl fun _ h66=>?_;refine no h66 rfl rfl rfl gc40 rfl rfl fun _ h67=>?_;refine no h67 rfl rfl rfl gc40 rfl rfl fun _ h68=>?_;refine sv h68 (aA (h68.ev rfl) gc40 (h68.ev rfl)) fun _ h69=>?_;exact ae ⟨h69.mid (m:=[(_,_),(_,_),(_,_),(_,_),(_,_)]) rfl,S56⟩
      case h=>
       rintro a70 X70 ⟨h70,S70⟩
       refine ae (aa ?_);refine aB (h70.ev rfl) (fun hc2=>?_) (fun hc2=>?_)
       ·
        have hz:oI l[j].e=false:=by unfold oI;exact(Bool.not_eq_false' _).mpr hc2
        have hz2:(l.all fun x=>oI x.e)=false:=List.all_eq_false.2 ⟨l[j],List.getElem_mem hlt,by rw[hz];decide⟩;refine ab (ag ?_);refine ma h70 rfl rfl fun _ h71=>?_;refine ae (aa (wp_ret (aF (ak (ak (aF (ak ?_)))))));refine bw h71 rfl rfl ?_;exact⟨by unfold Aq;rw[hn,hz2];rfl,S70.below⟩
       ·
        have hz:oI l[j].e=true:=by unfold oI;exact(Bool.not_eq_true' _).mpr hc2
        refine wp_skip (aK (aa (ag ?_)));refine mv h70 rfl rfl fun _ h72=>?_;refine sv h72 (a7 (h72.ev rfl) (h72.ev rfl) (by omega)) fun _ h73=>?_;refine ma h73 rfl rfl fun _ h74=>?_;refine ae (aa ?_);exact⟨j+1,(by omega),⟨hlt,fun k hk hkj=>by rcases Nat.lt_or_eq_of_le (show k≤j by omega) with q | q;exact hF0.2 k hk q;subst q;exact hz⟩,h74.re ⟨rfl,rfl,trivial⟩,S70.sub (.cons _ .slnil)⟩
    ·
     have hge:l.length≤j:=by have:=of_decide_eq_false hc1;omega
     refine wp_exit ?_;refine ar ?_;refine ar ?_;refine bz ?_;refine aa (ab (ag ?_));refine ma h31 rfl rfl fun _ h75=>?_;refine ae (aa (wp_ret ?_));refine bw h75 rfl rfl ?_
     have hz2:(l.all fun x=>oI x.e)=true:=List.all_eq_true.2 fun x hx=>by obtain⟨k,hk,rfl⟩:=List.getElem_of_mem hx;exact hF0.2 k hk (by omega)
     exact⟨by unfold Aq;rw[hn,hz2];rfl,S27.below⟩
end Go.Proofs.YtcfdpfmchchkaaaGreatDoor
