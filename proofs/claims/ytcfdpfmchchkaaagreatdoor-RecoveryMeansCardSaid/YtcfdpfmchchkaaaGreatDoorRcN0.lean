/-
  Chapter 22, plain: lists in the order of their keys, by indexes.
  Chapter 22: the reference's small functions: indexes by numbers, kinds, what came before.
  Chapter 22: the reference's errors of pages, what is next to undo, limits, pages compared.
-/
import Derived.Test.YtcfdpfmchchkaaaGreatDoorRcM
namespace Go.Proofs.YtcfdpfmchchkaaaGreatDoor
set_option linter.unusedVariables false
set_option linter.unusedSimpArgs false
open Go.RowKit
section
variable {α:Type} {κ:α→Int}
def lA (κ:α→Int) (n:Int):List α→Nat→Int
 | [],_=>-1
 | x::l,k=>if κ x=n then (k:Int) else lA κ n l (k+1)
theorem jM {n:Int}:∀{l:List α} {k:Nat},lA κ n l k<0→ct κ l n=none
 | [],_,_=>rfl
 | x::l,k,h=>by
  unfold lA at h
  split at h
  · omega
  · rename_i hne
    have:=jM h;unfold ct at this ⊢;rw[List.find?_cons,show(κ x==n)=false by simpa using hne];exact this
theorem jI {n:Int}:∀{l:List α} {k:Nat},¬lA κ n l k<0→∃j,∃hj:j<l.length,lA κ n l k=((k+j:Nat):Int)∧κ l[j]=n∧ct κ l n=some l[j]
 | [],_,h=>by unfold lA at h;omega
 | x::l,k,h=>by
  unfold lA at h ⊢;by_cases he:κ x=n
  · rw[if_pos he]
    refine⟨0,by simp,rfl,he,?_⟩;unfold ct;rw[List.find?_cons,show(κ x==n)=true by simpa using he];rfl
  · rw[if_neg he] at h ⊢
    obtain⟨j,hj,e1,e2,e3⟩:=jI h;refine⟨j+1,by simp;omega,by rw[e1];congr 1;omega,e2,?_⟩;unfold ct at e3 ⊢;rw[List.find?_cons,show(κ x==n)=false by simpa using he];exact e3
theorem qJ {n:Int}:∀{l:List α} {j:Nat} (k:Nat) (hj:j<l.length),(∀i (hi:i<l.length),i<j→κ l[i]≠n)→lA κ n l k=if κ l[j]=n then ((k+j:Nat):Int) else lA κ n (l.drop (j+1)) (k+(j+1))
 | [],_,_,hj,_=>by simp at hj
 | x::l,0,k,_,_=>by
  rw[lA];rfl
 | x::l,j+1,k,hj,h=>by
  have Y:κ x≠n:=h 0 (by simp) (by omega);rw[lA,if_neg Y,qJ (k+1) (j:=j) (by simpa using hj) fun i hi hij=>by have:=h (i+1) (by simpa using hi) (by omega);simpa using this];simp only[List.getElem_cons_succ,List.drop_succ_cons];rw[show k+1+j=k+(j+1) by omega,show k+1+(j+1)=k+(j+1+1) by omega]
end
set_option maxRecDepth 4000
open Go.RowKit Go.Sort Go.Shelf
theorem tt {α:Type} {κ:α→Int} {n:Int} {l:List α} {j:Nat} (hj:j<l.length) (h:∀i (hi:i<l.length),i<j→κ l[i]≠n) (e:κ l[j]=n):lA κ n l 0=(j:Int):=by
 rw[qJ 0 hj h,if_pos e,Nat.zero_add]
theorem jP {α:Type} {κ:α→Int} {n:Int}:∀{l:List α} {k:Nat},(∀i (hi:i<l.length),κ l[i]≠n)→lA κ n l k = -1
 | [],_,_=>rfl
 | x::l,k,h=>by
  have Y:κ x≠n:=h 0 (by simp);rw[lA,if_neg Y,jP fun i hi=>by have:=h (i+1) (by simpa using hi);simpa using this]
theorem zF (l:List Rcd) (n:Int) (A:Option Addr) (c:Nat) (w:World) (hr:Rd w w.heap.size A (l.flatMap cg)) (hl:l.length≤100000) :
 Calls Tryz.prog 79 #[.slice A l.length c,.int .i64 n] w fun e w'=>e=.returned (.int .i64 (lA Rcd.l n l 0))∧Below w.heap.size w w':=by
 refine aF (N:=20) Tryz.func79 rfl rfl rfl (fun _ Y=>?_);have Z:=St.init w;refine ab (ah ?_);refine ma Y rfl rfl fun _ Y=>?_;refine ae (aa (ab (ab (ah ?_))));refine ma Y rfl rfl fun _ Y=>?_;refine ae (aa (wp_block ?_));refine bz Y Z [0,1] (fun (j:Nat)=>[(5,.int .i64 (j:Nat))]) (fun (j:Nat)=>j≤l.length∧∀i (hi:i<l.length),i<j→Rcd.l l[i]≠n) (fun (j:Nat) L=>L) (fun (j:Nat)=>l.length-j) (0) (⟨Nat.zero_le _,fun k _ h=>absurd h (Nat.not_lt_zero _)⟩) ⟨rfl,rfl,rfl,trivial⟩ (Z) ?_;intro j _ _ hF0 Y Z;refine ab (ab (ah ?_));refine mv Y rfl rfl fun _ Y=>?_;refine mv Y rfl rfl fun _ Y=>?_;refine sv Y (bf Tryz.underlying41 (Y.ev rfl)) fun _ Y=>?_;refine sv Y (bq (Y.ev rfl) (Y.ev rfl)) fun _ Y=>?_;refine ae (aa ?_);refine aB (Y.ev rfl) (fun hc0=>?_) (fun hc0=>?_)
 ·
  have hlt:j<l.length:=by have:=of_decide_eq_true hc0;omega
  obtain⟨b,o,rfl,hB,_⟩:=hr.opened (aR aJ (by decide) (by omega));refine wp_skip (aa (ab (wp_block (ab (ah ?_)))));refine mv Y rfl rfl fun _ Y=>?_;refine mv Y rfl rfl fun _ Y=>?_;refine sv Y (aC (i:=j) (sz:=14) Tryz.underlying41 (by kernel_rfl) (Y.ev rfl) (Y.ev rfl) (by omega) (by omega) rfl) fun _ Y=>?_;refine sv Y (aj (off:=0) (by kernel_rfl) (Y.ev rfl) rfl) fun _ Y=>?_;refine sv Y (aw (by kernel_rfl) (Y.ev rfl) ((a7 aJ (Z.rd0 hr) hlt) 0 _ rfl)) fun _ Y=>?_;refine mv Y rfl rfl fun _ Y=>?_;refine sv Y (aX (Y.ev rfl) (Y.ev rfl)) fun _ Y=>?_;refine ae (aa ?_);refine aB (Y.ev rfl) (fun hc1=>?_) (fun hc1=>?_)
  ·
   have hhit:lA Rcd.l n l 0=(j:Int):=tt hlt hF0.2 (by simpa using hc1);refine ab (ah ?_);refine mv Y rfl rfl fun _ Y=>?_;refine ma Y rfl rfl fun _ Y=>?_;refine ae (aa (wp_ret (az (ai (ai (az (ai ?_)))))));refine bm Y rfl rfl ?_;exact⟨by rw[hhit],Z.below⟩
  ·
   have hne:Rcd.l l[j]≠n:=by simpa using hc1
   refine wp_skip (aO (aa (ah ?_)));refine mv Y rfl rfl fun _ Y=>?_;refine sv Y (aV (Y.ev rfl) (Y.ev rfl) (by omega)) fun _ Y=>?_;refine ma Y rfl rfl fun _ Y=>?_;refine ae (aa ?_);exact⟨j+1,(by omega),⟨hlt,fun k hk hkj=>by rcases Nat.lt_or_eq_of_le (show k≤j by omega) with q | q;exact hF0.2 k hk q;subst q;exact hne⟩,Y.re ⟨rfl,rfl,rfl,trivial⟩,Z⟩
 ·
  have hge:l.length≤j:=by have:=of_decide_eq_false hc0;omega
  have hmi:lA Rcd.l n l 0 = -1:=jP fun k hk=>hF0.2 k hk (by omega);refine wp_exit ?_;refine av ?_;refine av ?_;refine bn ?_;refine aa (ab (ah ?_));refine ma Y rfl rfl fun _ Y=>?_;refine ae (aa (wp_ret ?_));refine bm Y rfl rfl ?_;exact⟨by rw[hmi],Z.below⟩
theorem kO (l:List Pgp) (n:Int) (A:Option Addr) (c:Nat) (w:World) (hr:Rd w w.heap.size A (l.flatMap ca)) (hl:l.length≤100000) :
 Calls Tryz.prog 88 #[.slice A l.length c,.int .i64 n] w fun e w'=>e=.returned (.int .i64 (lA Pgp.g n l 0))∧Below w.heap.size w w':=by
 refine aF (N:=20) Tryz.func88 rfl rfl rfl (fun _ Y=>?_);have Z:=St.init w;refine ab (ah ?_);refine ma Y rfl rfl fun _ Y=>?_;refine ae (aa (ab (ab (ah ?_))));refine ma Y rfl rfl fun _ Y=>?_;refine ae (aa (wp_block ?_));refine bz Y Z [0,1] (fun (j:Nat)=>[(5,.int .i64 (j:Nat))]) (fun (j:Nat)=>j≤l.length∧∀i (hi:i<l.length),i<j→Pgp.g l[i]≠n) (fun (j:Nat) L=>L) (fun (j:Nat)=>l.length-j) (0) (⟨Nat.zero_le _,fun k _ h=>absurd h (Nat.not_lt_zero _)⟩) ⟨rfl,rfl,rfl,trivial⟩ (Z) ?_;intro j _ _ hF0 Y Z;refine ab (ab (ah ?_));refine mv Y rfl rfl fun _ Y=>?_;refine mv Y rfl rfl fun _ Y=>?_;refine sv Y (bf Tryz.underlying48 (Y.ev rfl)) fun _ Y=>?_;refine sv Y (bq (Y.ev rfl) (Y.ev rfl)) fun _ Y=>?_;refine ae (aa ?_);refine aB (Y.ev rfl) (fun hc0=>?_) (fun hc0=>?_)
 ·
  have hlt:j<l.length:=by have:=of_decide_eq_true hc0;omega
  obtain⟨b,o,rfl,hB,_⟩:=hr.opened (aR bc (by decide) (by omega));refine wp_skip (aa (ab (wp_block (ab (ah ?_)))));refine mv Y rfl rfl fun _ Y=>?_;refine mv Y rfl rfl fun _ Y=>?_;refine sv Y (aC (i:=j) (sz:=3) Tryz.underlying48 (by kernel_rfl) (Y.ev rfl) (Y.ev rfl) (by omega) (by omega) rfl) fun _ Y=>?_;refine sv Y (aj (off:=0) (by kernel_rfl) (Y.ev rfl) rfl) fun _ Y=>?_;refine sv Y (aw (by kernel_rfl) (Y.ev rfl) ((a7 bc (Z.rd0 hr) hlt) 0 _ rfl)) fun _ Y=>?_;refine mv Y rfl rfl fun _ Y=>?_;refine sv Y (aX (Y.ev rfl) (Y.ev rfl)) fun _ Y=>?_;refine ae (aa ?_);refine aB (Y.ev rfl) (fun hc1=>?_) (fun hc1=>?_)
  ·
   have hhit:lA Pgp.g n l 0=(j:Int):=tt hlt hF0.2 (by simpa using hc1);refine ab (ah ?_);refine mv Y rfl rfl fun _ Y=>?_;refine ma Y rfl rfl fun _ Y=>?_;refine ae (aa (wp_ret (az (ai (ai (az (ai ?_)))))));refine bm Y rfl rfl ?_;exact⟨by rw[hhit],Z.below⟩
  ·
   have hne:Pgp.g l[j]≠n:=by simpa using hc1
   refine wp_skip (aO (aa (ah ?_)));refine mv Y rfl rfl fun _ Y=>?_;refine sv Y (aV (Y.ev rfl) (Y.ev rfl) (by omega)) fun _ Y=>?_;refine ma Y rfl rfl fun _ Y=>?_;refine ae (aa ?_);exact⟨j+1,(by omega),⟨hlt,fun k hk hkj=>by rcases Nat.lt_or_eq_of_le (show k≤j by omega) with q | q;exact hF0.2 k hk q;subst q;exact hne⟩,Y.re ⟨rfl,rfl,rfl,trivial⟩,Z⟩
 ·
  have hge:l.length≤j:=by have:=of_decide_eq_false hc0;omega
  have hmi:lA Pgp.g n l 0 = -1:=jP fun k hk=>hF0.2 k hk (by omega);refine wp_exit ?_;refine av ?_;refine av ?_;refine bn ?_;refine aa (ab (ah ?_));refine ma Y rfl rfl fun _ Y=>?_;refine ae (aa (wp_ret ?_));refine bm Y rfl rfl ?_;exact⟨by rw[hmi],Z.below⟩
theorem fq (e:Lge) (w:World):Calls Tryz.prog 87 #[dz e] w fun r w'=>r=.returned (.bool (cd e))∧Below w.heap.size w w':=by
 refine aF (N:=11) Tryz.func87 rfl rfl rfl (fun _ h0=>?_);have S0:=St.init w;refine ab (ah ?_);refine nb h0 rfl rfl S0 fun b1 _ _ gb1 h1 S1=>?_;refine ma h1 rfl rfl fun _ h2=>?_;refine cm ?_;refine vf h2 0 0 rfl rfl rfl fun _ h3=>?_;refine vl h3 S1 0 rfl rfl rfl rfl fun _ h4=>?_;refine sv h4 (aX (h4.ev rfl) (h4.ev rfl)) fun _ h5=>?_;refine mv h5 rfl rfl fun _ h6=>?_;apply dw h6 S1 6 rfl 4 10
 case hf=>
  intro gc6;refine sy h6 rfl rfl rfl gc6 (aj (off:=0) (j:=0) (by kernel_rfl) (h6.ev rfl) rfl) rfl rfl fun _ h7=>?_;refine sy h7 rfl rfl rfl gc6 (aw (by kernel_rfl) (h7.ev rfl) (S1.cell (i:=0) rfl rfl)) rfl rfl fun _ h8=>?_;refine sy h8 rfl rfl rfl gc6 (aX (h8.ev rfl) (h8.ev rfl)) rfl rfl fun _ h9=>?_;refine sv h9 (aD (h9.ev rfl) gc6 (h9.ev rfl)) fun _ h10=>?_;exact ae ⟨h10.mid (m:=[(_,_),(_,_),(_,_)]) rfl,S1⟩
 case ht=>
  intro gc6;refine no h6 rfl rfl rfl gc6 rfl rfl fun _ h11=>?_;refine no h11 rfl rfl rfl gc6 rfl rfl fun _ h12=>?_;refine no h12 rfl rfl rfl gc6 rfl rfl fun _ h13=>?_;refine sv h13 (aA (h13.ev rfl) gc6 (h13.ev rfl)) fun _ h14=>?_;exact ae ⟨h14.mid (m:=[(_,_),(_,_),(_,_)]) rfl,S1⟩
 case h=>
  rintro a15 X15 ⟨h15,S15⟩
  refine ma h15 rfl rfl fun _ h16=>?_;refine ae (aa (wp_ret ?_));refine bm h16 rfl rfl ?_;exact⟨rfl,S15.below⟩
theorem wk {l:List Rcd} {t:Int} {j:Nat} (hj:j<l.length):iK (l.drop j) t=(jt l[j].e t||iK (l.drop (j+1)) t):=by
 rw[List.drop_eq_getElem_cons hj];rfl
theorem jG (l:List Rcd) (n:Int) (A:Option Addr) (c:Nat) (w:World) (hr:Rd w w.heap.size A (l.flatMap cg)) (hl:l.length≤100000) :
 Calls Tryz.prog 99 #[.slice A l.length c,.int .i64 n] w fun e w'=>e=.returned (.bool (iK l n))∧Below w.heap.size w w':=by
 refine aF (N:=32) Tryz.func99 rfl rfl rfl (fun _ h0=>?_);have S0:=St.init w;refine ab (ah ?_);refine ma h0 rfl rfl fun _ h1=>?_;refine ae (aa (ab (ab (ah ?_))));refine ma h1 rfl rfl fun _ h2=>?_;refine ae (aa (wp_block ?_));refine bz h2 S0 [0,1] (fun (j:Nat)=>[(5,.int .i64 (j:Nat))]) (fun (j:Nat)=>j≤l.length∧iK l n=iK (l.drop j) n) (fun (j:Nat) L=>L) (fun (j:Nat)=>l.length-j) (0) (⟨Nat.zero_le _,rfl⟩) ⟨rfl,rfl,rfl,trivial⟩ (S0) ?_;intro j _ _ hF0 h3 S3;refine ab (ab (ah ?_));refine mv h3 rfl rfl fun _ h4=>?_;refine mv h4 rfl rfl fun _ h5=>?_;refine sv h5 (bf Tryz.underlying41 (h5.ev rfl)) fun _ h6=>?_;refine sv h6 (bq (h6.ev rfl) (h6.ev rfl)) fun _ h7=>?_;refine ae (aa ?_);refine aB (h7.ev rfl) (fun hc0=>?_) (fun hc0=>?_)
 ·
  have hlt:j<l.length:=by have:=of_decide_eq_true hc0;omega
  obtain⟨b,o,rfl,hB,_⟩:=hr.opened (aR aJ (by decide) (by omega));have hst:=wk (t:=n) hlt;refine wp_skip (aa (ab (wp_block (ab (ah ?_)))));refine mv h7 rfl rfl fun _ h8=>?_;refine mv h8 rfl rfl fun _ h9=>?_;refine sv h9 (aC (i:=j) (sz:=14) Tryz.underlying41 (by kernel_rfl) (h9.ev rfl) (h9.ev rfl) (by omega) (by omega) rfl) fun _ h10=>?_;refine sv h10 (aj (off:=1) (by kernel_rfl) (h10.ev rfl) rfl) fun _ h11=>?_;refine sv (v:=dz l[j].e) h11 (ay (by kernel_rfl) (by kernel_rfl) (h11.ev rfl) (dJ (S3.rd0 hr) hlt)) fun _ h12=>?_;refine na (.agg #[.int .i64 0,.int .i64 0,.int .i64 0,.int .i64 0,.int .i64 0,.bool false,.int .i64 0,.int .i64 0,.int .i64 0,.int .i64 0,.string ⟨#[]⟩,.string ⟨#[]⟩,.string ⟨#[]⟩]) h12 rfl S3 fun b6 _ _ gb6 h13 S13=>?_;refine aG h13 (wn rfl) ⟨rfl,rfl⟩ (h13.ev rfl) (h13.ev rfl) rfl (by kernel_rfl) S13 (i:=0) rfl rfl rfl fun _ S14=>?_;refine cm ?_;refine vf h13 1 1 rfl rfl rfl fun _ h15=>?_;refine vl h15 S14 0 rfl rfl rfl rfl fun _ h16=>?_;refine mv h16 rfl rfl fun _ h17=>?_;refine sv h17 (aX (h17.ev rfl) (h17.ev rfl)) fun _ h18=>?_;refine mv h18 rfl rfl fun _ h19=>?_;apply cq h19 S14 22 rfl 9 31
  case ht=>
   intro gc22;refine sy h19 rfl rfl rfl gc22 (aj (off:=0) (j:=0) (by kernel_rfl) (h19.ev rfl) rfl) rfl rfl fun _ h20=>?_;refine sy h20 rfl rfl rfl gc22 (aw (by kernel_rfl) (h20.ev rfl) (S14.cell (i:=0) rfl rfl)) rfl rfl fun _ h21=>?_;refine sy h21 rfl rfl rfl gc22 (aX (h21.ev rfl) (h21.ev rfl)) rfl rfl fun _ h22=>?_;refine sy h22 rfl rfl rfl gc22 (ak (h22.ev rfl)) rfl rfl fun _ h23=>?_;apply dw (x:=l[j].e.k==4) h23 S14 26 rfl 4 30
   case hf=>
    intro gc26;refine sy h23 rfl rfl rfl gc26 (aj (off:=0) (j:=0) (by kernel_rfl) (h23.ev rfl) rfl) rfl rfl fun _ h24=>?_;refine sy h24 rfl rfl rfl gc26 (aw (by kernel_rfl) (h24.ev rfl) (S14.cell (i:=0) rfl rfl)) rfl rfl fun _ h25=>?_;refine sy h25 rfl rfl rfl gc26 (aX (h25.ev rfl) (h25.ev rfl)) rfl rfl fun _ h26=>?_;refine sy h26 rfl rfl rfl gc22 (aD (h26.ev rfl) gc26 (h26.ev rfl)) rfl rfl fun _ h27=>?_;exact ae ⟨h27.mid (m:=[(_,_),(_,_),(_,_)]) rfl,S14⟩
   case ht=>
    intro gc26;refine no h23 rfl rfl rfl gc26 rfl rfl fun _ h28=>?_;refine no h28 rfl rfl rfl gc26 rfl rfl fun _ h29=>?_;refine no h29 rfl rfl rfl gc26 rfl rfl fun _ h30=>?_;refine sy h30 rfl rfl rfl gc22 (aA (h30.ev rfl) gc26 (h30.ev rfl)) rfl rfl fun _ h31=>?_;exact ae ⟨h31.mid (m:=[(_,_),(_,_),(_,_)]) rfl,S14⟩
   case h=>
    rintro a32 X32 ⟨h32,S32⟩
    refine sv h32 (aA (h32.ev rfl) gc22 (h32.ev rfl)) fun _ h33=>?_;exact ae ⟨h33.mid (m:=[(_,_),(_,_),(_,_),(_,_),(_,_)]) rfl,S32⟩
  case hf=>
   intro gc22;refine no h19 rfl rfl rfl gc22 rfl rfl fun _ h34=>?_;refine no h34 rfl rfl rfl gc22 rfl rfl fun _ h35=>?_;refine no h35 rfl rfl rfl gc22 rfl rfl fun _ h36=>?_;refine no h36 rfl rfl rfl gc22 rfl rfl fun _ h37=>?_;refine ec h37 (bH h37 _ rfl rfl rfl) rfl rfl fun _ h38=>?_;refine ec h38 (bH h38 _ rfl rfl rfl) rfl rfl fun _ h39=>?_;refine ec h39 (bH h39 _ rfl rfl rfl) rfl rfl fun _ h40=>?_;refine no h40 rfl rfl rfl gc22 rfl rfl fun _ h41=>?_;refine sv h41 (aD (h41.ev rfl) gc22 (h41.ev rfl)) fun _ h42=>?_;exact ae ⟨h42.mid (m:=[(_,_),(_,_),(_,_),(_,_),(_,_),(_,_),(_,_),(_,_)]) rfl,S14⟩
  case h=>
   rintro a43 X43 ⟨h43,S43⟩
   refine ae (aa ?_);refine aB (h43.ev rfl) (fun hc1=>?_) (fun hc1=>?_)
   ·
    have hyes:jt l[j].e n=true:=hc1;refine ab (ah ?_);refine ma h43 rfl rfl fun _ h44=>?_;refine ae (aa (wp_ret (az (ai (ai (az (ai ?_)))))));refine bm h44 rfl rfl ?_;exact⟨by rw[hF0.2,hst,hyes];rfl,S43.below⟩
   ·
    have hno:jt l[j].e n=false:=hc1;refine wp_skip (aO (aa (ah ?_)));refine mv h43 rfl rfl fun _ h45=>?_;refine sv h45 (aV (h45.ev rfl) (h45.ev rfl) (by omega)) fun _ h46=>?_;refine ma h46 rfl rfl fun _ h47=>?_;refine ae (aa ?_);exact⟨j+1,(by omega),⟨hlt,by rw[hF0.2,hst,hno];rfl⟩,h47.re ⟨rfl,rfl,rfl,trivial⟩,S43.sub (.cons _ .slnil)⟩
 ·
  have hge:l.length≤j:=by have:=of_decide_eq_false hc0;omega
  have hend:=hF0.2;rw[List.drop_of_length_le hge] at hend;refine wp_exit ?_;refine av ?_;refine av ?_;refine bn ?_;refine aa (ab (ah ?_));refine ma h7 rfl rfl fun _ h48=>?_;refine ae (aa (wp_ret ?_));refine bm h48 rfl rfl ?_;exact⟨by rw[hend];rfl,S3.below⟩
def cZ (l:List Rcd) (i:Nat) (t:Int):Int:=match bP l t i with
 | none=>-1
 | some k=>(k:Int)
theorem kU (l:List Rcd) (i:Nat) (hi:i<l.length) (A:Option Addr) (c:Nat) (w:World) (hr:Rd w w.heap.size A (l.flatMap cg)) (hl:l.length≤100000) :
 Calls Tryz.prog 175 #[.slice A l.length c,.int .i64 (i:Nat)] w fun e w'=>e=.returned (.int .i64 (cZ l i l[i].e.t))∧Below w.heap.size w w':=by
 obtain⟨b,o,rfl,hB,_⟩:=hr.opened (aR aJ (by decide) (by omega));refine aF (N:=35) Tryz.func175 rfl rfl rfl (fun _ Y=>?_);have Z:=St.init w;refine ab (ah ?_);refine ma Y rfl rfl fun _ Y=>?_;refine ae (aa (ab (ab (ah ?_))));refine mv Y rfl rfl fun _ Y=>?_;refine sv Y (fH (Y.ev rfl) (Y.ev rfl) (by omega)) fun _ Y=>?_;refine ma Y rfl rfl fun _ Y=>?_;refine ae (aa (wp_block ?_));refine bz Y Z [0,1] (fun (j:Nat)=>[(5,.int .i64 ((j:Nat)-1))]) (fun (j:Nat)=>j≤i∧cZ l i l[i].e.t=cZ l j l[i].e.t) (fun (j:Nat) L=>L) (fun (j:Nat)=>j) (i) (⟨Nat.le_refl _,rfl⟩) ⟨rfl,rfl,rfl,trivial⟩ (Z) ?_;intro j _ _ hF0 Y Z;refine ab (ab (ah ?_));refine mv Y rfl rfl fun _ Y=>?_;refine sv Y (jx (Y.ev rfl) (Y.ev rfl)) fun _ Y=>?_;refine ae (aa ?_);refine aB (Y.ev rfl) (fun hc0=>?_) (fun hc0=>?_)
 ·
  have hj0:0<j:=by have:=of_decide_eq_true hc0;omega
  have hjl:j-1<l.length:=by omega
  have hb:bP l l[i].e.t j=if l[j-1].e.k≠5∧l[j-1].e.t=l[i].e.t then some (j-1) else bP l l[i].e.t (j-1):=by
   have:=qP (t:=l[i].e.t) hjl
   rwa [show j-1+1=j by omega] at this
  refine wp_skip (aa (ab (wp_block (ab ?_))));apply bA Y [false,false,false,false,false,false,false,false,false,false,false,false,false,false,false,false,false,false,false,false,false] _ (by kernel_rfl)
  case h=>
   refine qv Y (fun X hX=>ak (Y.ev rfl)) fun _ Y=>?_;refine qv Y (fun X hX=>ak (Y.ev rfl)) fun _ Y=>?_;refine qv Y (fun X hX=>aC (i:=j-1) (sz:=14) Tryz.underlying41 (by kernel_rfl) (Y.ev rfl) (Y.ev rfl) (by omega) (by omega) rfl) fun _ Y=>?_;refine qv Y (fun X hX=>aj (off:=1) (by kernel_rfl) (Y.ev rfl) rfl) fun _ Y=>?_;refine qv Y (fun X hX=>aj (off:=0) (by kernel_rfl) (Y.ev rfl) rfl) fun _ Y=>?_;refine qv Y (fun X hX=>aw (by kernel_rfl) (Y.ev rfl) ((a7 aJ ((Z.grow hX).rd0 hr) hjl) 1 _ rfl)) fun _ Y=>?_;refine qv Y (fun X hX=>a8 (Y.ev rfl) (Y.ev rfl)) fun _ Y=>?_;refine qv Y (fun X hX=>ak (Y.ev rfl)) fun _ Y=>?_;apply kA Y 19 rfl 13 32
   case ht=>
    intro gc19;refine ax Y (ag Y _ rfl rfl rfl gc19) rfl rfl (fun X hX=>(ak (Y.ev rfl))) fun _ Y=>?_;refine ax Y (ag Y _ rfl rfl rfl gc19) rfl rfl (fun X hX=>(ak (Y.ev rfl))) fun _ Y=>?_;refine ax Y (ag Y _ rfl rfl rfl gc19) rfl rfl (fun X hX=>(aC (i:=j-1) (sz:=14) Tryz.underlying41 (by kernel_rfl) (Y.ev rfl) (Y.ev rfl) (by omega) (by omega) rfl)) fun _ Y=>?_;refine ax Y (ag Y _ rfl rfl rfl gc19) rfl rfl (fun X hX=>(aj (off:=1) (by kernel_rfl) (Y.ev rfl) rfl)) fun _ Y=>?_;refine ax Y (ag Y _ rfl rfl rfl gc19) rfl rfl (fun X hX=>(aj (off:=1) (by kernel_rfl) (Y.ev rfl) rfl)) fun _ Y=>?_;refine ax Y (ag Y _ rfl rfl rfl gc19) rfl rfl (fun X hX=>(aw (by kernel_rfl) (Y.ev rfl) ((a7 aJ ((Z.grow hX).rd0 hr) hjl) 2 _ rfl))) fun _ Y=>?_;refine ax Y (ag Y _ rfl rfl rfl gc19) rfl rfl (fun X hX=>(ak (Y.ev rfl))) fun _ Y=>?_;refine ax Y (ag Y _ rfl rfl rfl gc19) rfl rfl (fun X hX=>(ak (Y.ev rfl))) fun _ Y=>?_;refine ax Y (ag Y _ rfl rfl rfl gc19) rfl rfl (fun X hX=>(aC (i:=i) (sz:=14) Tryz.underlying41 (by kernel_rfl) (Y.ev rfl) (Y.ev rfl) (by omega) (by omega) rfl)) fun _ Y=>?_;refine ax Y (ag Y _ rfl rfl rfl gc19) rfl rfl (fun X hX=>(aj (off:=1) (by kernel_rfl) (Y.ev rfl) rfl)) fun _ Y=>?_;refine ax Y (ag Y _ rfl rfl rfl gc19) rfl rfl (fun X hX=>(aj (off:=1) (by kernel_rfl) (Y.ev rfl) rfl)) fun _ Y=>?_;refine ax Y (ag Y _ rfl rfl rfl gc19) rfl rfl (fun X hX=>(aw (by kernel_rfl) (Y.ev rfl) ((a7 aJ ((Z.grow hX).rd0 hr) hi) 2 _ rfl))) fun _ Y=>?_;refine ax Y (ag Y _ rfl rfl rfl gc19) rfl rfl (fun X hX=>(aX (Y.ev rfl) (Y.ev rfl))) fun _ Y=>?_;exact aI (Y.mid (m:=[(_,_),(_,_),(_,_),(_,_),(_,_),(_,_),(_,_),(_,_),(_,_),(_,_),(_,_),(_,_)]) rfl)
   case hf=>
    intro gc19;refine qo Y rfl rfl rfl gc19 rfl rfl fun _ Y=>?_;refine qo Y rfl rfl rfl gc19 rfl rfl fun _ Y=>?_;refine qo Y rfl rfl rfl gc19 rfl rfl fun _ Y=>?_;refine qo Y rfl rfl rfl gc19 rfl rfl fun _ Y=>?_;refine qo Y rfl rfl rfl gc19 rfl rfl fun _ Y=>?_;refine qo Y rfl rfl rfl gc19 rfl rfl fun _ Y=>?_;refine qo Y rfl rfl rfl gc19 rfl rfl fun _ Y=>?_;refine qo Y rfl rfl rfl gc19 rfl rfl fun _ Y=>?_;refine qo Y rfl rfl rfl gc19 rfl rfl fun _ Y=>?_;refine qo Y rfl rfl rfl gc19 rfl rfl fun _ Y=>?_;refine qo Y rfl rfl rfl gc19 rfl rfl fun _ Y=>?_;refine qo Y rfl rfl rfl gc19 rfl rfl fun _ Y=>?_;refine qo Y rfl rfl rfl gc19 rfl rfl fun _ Y=>?_;exact aI ⟨_,Y.mid (m:=[(_,_),(_,_),(_,_),(_,_),(_,_),(_,_),(_,_),(_,_),(_,_),(_,_),(_,_),(_,_)]) rfl⟩
   case h=>
    intro v42 _ hg32 Y;refine aI ?_;refine bF fun _ hX43 hΦ43=>?_;have Z:=Z.grow hX43;refine sv Y (eu (Y.ev rfl) (Y.ev rfl) hg32 (Y.ev rfl)) fun _ Y=>?_;refine ae (aa ?_);refine aB (Y.ev rfl) (fun hc1=>?_) (fun hc1=>?_)
    ·
     have hyes:l[j-1].e.k≠5∧l[j-1].e.t=l[i].e.t:=by simpa using hc1
     have hR:cZ l i l[i].e.t=(j:Int)-1:=by
      rw[hF0.2];unfold cZ;rw[hb,if_pos hyes];show((j-1:Nat):Int)=_;omega
     refine ab (ah ?_);refine mv Y rfl rfl fun _ Y=>?_;refine ma Y rfl rfl fun _ Y=>?_;refine ae (aa (wp_ret (az (ai (ai (az (ai ?_)))))));refine bm Y rfl rfl ?_;exact⟨by rw[hR],Z.below⟩
    ·
     have hno:¬(l[j-1].e.k≠5∧l[j-1].e.t=l[i].e.t):=fun h=>by rw[beq_iff_eq.2 h.2] at hc1;simp at hc1;exact h.1 hc1
     refine wp_skip (aO (aa (ah ?_)));refine mv Y rfl rfl fun _ Y=>?_;refine sv Y (bb (v':=.int .i64 (((j-1:Nat):Int)-1)) (congrArg _ (by omega)) (fH (Y.ev rfl) (Y.ev rfl) (by omega))) fun _ Y=>?_;refine ma Y rfl rfl fun _ Y=>?_;refine ae (aa ?_);exact⟨j-1,(by omega),⟨by omega,by rw[hF0.2];unfold cZ;rw[hb,if_neg hno]⟩,Y.re ⟨rfl,rfl,rfl,trivial⟩,Z⟩
  case hB=>kernel_rfl
  case hst=>rfl
 ·
  have hj0:j=0:=by have:=of_decide_eq_false hc0;omega
  have hz:cZ l i l[i].e.t = -1:=by rw[hF0.2,hj0];rfl
  refine wp_exit ?_;refine av ?_;refine av ?_;refine bn ?_;refine aa (ab (ah ?_));refine ma Y rfl rfl fun _ Y=>?_;refine ae (aa (wp_ret ?_));refine bm Y rfl rfl ?_;exact⟨by rw[hz],Z.below⟩
set_option maxRecDepth 4000
open Go.RowKit Go.Sort Go.Shelf
theorem gO {l:List Rcd} {i:Nat} {t:Int} (h:0≤cZ l i t):∃k,k<i∧cZ l i t=(k:Int)∧bP l t i=some k:=by
 unfold cZ at h ⊢
 cases hb:bP l t i with
 | none=>rw[hb] at h;simp at h
 | some k=>exact⟨k,(fb hb).1,rfl,rfl⟩
theorem ud {l:List Rcd} {i:Nat} {t:Int} (h:¬0≤cZ l i t):cZ l i t = -1∧bP l t i=none:=by
 unfold cZ at h ⊢
 cases hb:bP l t i with
 | none=>exact⟨rfl,rfl⟩
 | some k=>rw[hb] at h;exact absurd (Int.natCast_nonneg k) h
def Bv (l:List Rcd) (k:Int):Bool:=ed l k.toNat != 4
theorem sw (l:List Rcd) (i:Nat) (hi:i<l.length) (A:Option Addr) (c:Nat) (w:World) (hr:Rd w w.heap.size A (l.flatMap cg)) (hl:l.length≤100000)
 (IH:∀k,k<i→∀w,Rd w w.heap.size A (l.flatMap cg)→Calls Tryz.prog 176 #[.slice A l.length c,.int .i64 (k:Nat)] w fun e w'=>e=.returned (.int .i64 (gW l k))∧Below w.heap.size w w') :
 Calls Tryz.prog 176 #[.slice A l.length c,.int .i64 (i:Nat)] w fun e w'=>e=.returned (.int .i64 (gW l i))∧Below w.heap.size w w':=by
 obtain⟨b,o,rfl,hB,_⟩:=hr.opened (aR aJ (by decide) (by omega));have hN:=mA hi;refine aF (N:=44) Tryz.func176 rfl rfl rfl (fun _ h0=>?_);have S0:=St.init w;refine ab (ah ?_);refine ma h0 rfl rfl fun _ h1=>?_;refine cm ?_;refine mv h1 rfl rfl fun _ h2=>?_;refine mv h2 rfl rfl fun _ h3=>?_;refine sv h3 (aC (i:=i) (sz:=14) Tryz.underlying41 (by kernel_rfl) (h3.ev rfl) (h3.ev rfl) (by omega) (by omega) rfl) fun _ h4=>?_;refine sv (v:=fS l[i]) h4 (ay (by kernel_rfl) (by kernel_rfl) (h4.ev rfl) (a7 aJ (S0.rd0 hr) hi)) fun _ h5=>?_;refine na (.agg #[.int .i64 0,.int .i64 0,.int .i64 0,.int .i64 0,.int .i64 0,.int .i64 0,.bool false,.int .i64 0,.int .i64 0,.int .i64 0,.int .i64 0,.string ⟨#[]⟩,.string ⟨#[]⟩,.string ⟨#[]⟩]) h5 rfl S0 fun b5 _ _ gb5 h6 S6=>?_;refine aG h6 (wn rfl) ⟨rfl,rfl⟩ (h6.ev rfl) (h6.ev rfl) rfl (by kernel_rfl) S6 (i:=0) rfl rfl rfl fun _ S7=>?_;refine ae (aa (ab (ab (ah ?_))));refine vf h6 1 1 rfl rfl rfl fun _ h8=>?_;refine vf h8 0 1 rfl rfl rfl fun _ h9=>?_;refine vl h9 S7 0 rfl rfl rfl rfl fun _ h10=>?_;refine ae (aa (wp_block (ab (ah ?_))));refine sv h10 (aX (h10.ev rfl) (h10.ev rfl)) fun _ h11=>?_;refine ma h11 rfl rfl fun _ h12=>?_;refine ae (aa ?_);refine aB (h12.ev rfl) (fun hc0=>?_) (fun hc0=>?_)
 ·
  rw[if_pos (by simpa using hc0)] at hN;refine ab (ah ?_);refine vf h12 0 0 rfl rfl rfl fun _ h13=>?_;refine vl h13 S7 0 rfl rfl rfl rfl fun _ h14=>?_;refine ma h14 rfl rfl fun _ h15=>?_;refine ae (aa (wp_ret (az (ai ?_))));refine bm h15 rfl rfl ?_;exact⟨by rw[hN],S7.below⟩
 ·
  rw[if_neg (by simpa using hc0)] at hN;refine ab (ah ?_);refine sv h12 (aX (h12.ev rfl) (h12.ev rfl)) fun _ h16=>?_;refine ma h16 rfl rfl fun _ h17=>?_;refine ae (aa ?_);refine aB (h17.ev rfl) (fun hc1=>?_) (fun hc1=>?_)
  ·
   rw[if_pos (by simpa using hc1)] at hN;refine ab (ah ?_);refine vf h17 1 1 rfl rfl rfl fun _ h18=>?_;refine vf h18 3 4 rfl rfl rfl fun _ h19=>?_;refine vl h19 S7 0 rfl rfl rfl rfl fun _ h20=>?_;refine ma h20 rfl rfl fun _ h21=>?_;refine ae (aa (wp_ret (az (ai ?_))));refine bm h21 rfl rfl ?_;exact⟨by rw[hN],S7.below⟩
  ·
   rw[if_neg (by simpa using hc1)] at hN;refine wp_skip (aO (aa (ab (ab (ah ?_)))));refine mv h17 rfl rfl fun _ h22=>?_;refine mv h22 rfl rfl fun _ h23=>?_;refine aS h23 (wn rfl) (aq (fun _ _=>by kernel_rfl) (h23.evs rfl) rfl) rfl rfl S7 (kU l i hi _ c _ (S7.rd0 hr) hl) fun _ _ h24 S24=>?_;refine ma h24 rfl rfl fun _ h25=>?_;refine cm ?_;refine mv h25 rfl rfl fun _ h26=>?_;refine sv h26 (jx (h26.ev rfl) (h26.ev rfl)) fun _ h27=>?_;refine mv h27 rfl rfl fun _ h28=>?_;apply cq (x:=Bv l (cZ l i l[i].e.t)) h28 S24 28 rfl 8 36
   case ht=>
    intro gc28;obtain⟨k,hki,hbk,hbh⟩:=gO (of_decide_eq_true gc28)
    have hkl:k<l.length:=by omega
    have hkk:ed l (cZ l i l[i].e.t).toNat=l[k].e.k:=by rw[hbk];exact gC hkl
    refine sy h28 rfl rfl rfl gc28 (ak (h28.ev rfl)) rfl rfl fun _ h29=>?_;refine sy h29 rfl rfl rfl gc28 (ak (h29.ev rfl)) rfl rfl fun _ h30=>?_;refine sy h30 rfl rfl rfl gc28 (aC (i:=k) (sz:=14) Tryz.underlying41 (by kernel_rfl) (h30.ev rfl) (h30.ev rfl) (by omega) (by omega) rfl) rfl rfl fun _ h31=>?_;refine sy h31 rfl rfl rfl gc28 (aj (off:=1) (by kernel_rfl) (h31.ev rfl) rfl) rfl rfl fun _ h32=>?_;refine sy h32 rfl rfl rfl gc28 (aj (off:=0) (by kernel_rfl) (h32.ev rfl) rfl) rfl rfl fun _ h33=>?_;refine sy h33 rfl rfl rfl gc28 (aw (by kernel_rfl) (h33.ev rfl) ((a7 aJ (S24.rd0 hr) hkl) 1 _ rfl)) rfl rfl fun _ h34=>?_;refine sy h34 rfl rfl rfl gc28 (bb (v':=.bool (Bv l (cZ l i l[i].e.t))) (by unfold Bv;rw[hkk]) (a8 (h34.ev rfl) (h34.ev rfl))) rfl rfl fun _ h35=>?_;refine sv h35 (aA (h35.ev rfl) gc28 (h35.ev rfl)) fun _ h36=>?_;exact ae ⟨h36.mid (m:=[(_,_),(_,_),(_,_),(_,_),(_,_),(_,_),(_,_)]) rfl,S24⟩
   case hf=>
    intro gc28;refine no h28 rfl rfl rfl gc28 rfl rfl fun _ h37=>?_;refine no h37 rfl rfl rfl gc28 rfl rfl fun _ h38=>?_;refine no h38 rfl rfl rfl gc28 rfl rfl fun _ h39=>?_;refine no h39 rfl rfl rfl gc28 rfl rfl fun _ h40=>?_;refine no h40 rfl rfl rfl gc28 rfl rfl fun _ h41=>?_;refine no h41 rfl rfl rfl gc28 rfl rfl fun _ h42=>?_;refine no h42 rfl rfl rfl gc28 rfl rfl fun _ h43=>?_;refine sv h43 (aD (h43.ev rfl) gc28 (h43.ev rfl)) fun _ h44=>?_;exact ae ⟨h44.mid (m:=[(_,_),(_,_),(_,_),(_,_),(_,_),(_,_),(_,_)]) rfl,S24⟩
   case h=>
    rintro a45 X45 ⟨h45,S45⟩
    refine ae (aa ?_);refine aB (h45.ev rfl) (fun hc2=>?_) (fun hc2=>?_)
    ·
     obtain⟨u1,u2⟩:=Bool.and_eq_true_iff.1 hc2;obtain⟨k,hki,hbk,hbh⟩:=gO (of_decide_eq_true u1)
     have hkl:k<l.length:=by omega
     rw[hbh] at hN;simp only[] at hN;rw[if_pos ⟨by unfold Bv at u2;rw[hbk] at u2;simpa using u2,hkl⟩] at hN;replace h45:=h45.also (t:=6) (v:=.int .i64 (k:Nat)) (by rw[←hbk];rfl);refine ab (ah ?_);refine mv h45 rfl rfl fun _ h46=>?_;refine mv h46 rfl rfl fun _ h47=>?_;refine aS h47 (wn rfl) (aq (fun _ _=>by kernel_rfl) (h47.evs rfl) rfl) rfl rfl S45 (IH k hki _ (S45.rd0 hr)) fun _ _ h48 S48=>?_;refine ma h48 rfl rfl fun _ h49=>?_;refine ae (aa (wp_ret (ai ?_)));refine bm h49 rfl rfl ?_;exact⟨by rw[hN],S48.below⟩
    ·
     have hN2:gW l i=if l[i].e.p≠0 then -1 else 0:=by
      rw[hN];by_cases hb0:0≤cZ l i l[i].e.t
      · obtain⟨k,hki,hbk,hbh⟩:=gO hb0
        rw[decide_eq_true hb0,Bool.true_and] at hc2;rw[hbh];simp only[];rw[if_neg]
        rintro ⟨q,_⟩
        unfold Bv at hc2;rw[hbk] at hc2;simp at hc2;exact q hc2
      · rw[(ud hb0).2]
     refine wp_skip (aa (ab (ab (ah ?_))));refine vf h45 1 1 rfl rfl rfl fun _ h50=>?_;refine vf h50 2 3 rfl rfl rfl fun _ h51=>?_;refine vl h51 S45 0 rfl rfl rfl rfl fun _ h52=>?_;refine sv h52 (a8 (h52.ev rfl) (h52.ev rfl)) fun _ h53=>?_;refine ae (aa ?_);refine aB (h53.ev rfl) (fun hc3=>?_) (fun hc3=>?_)
     ·
      rw[if_pos (by simpa using hc3)] at hN2;refine ab (ah ?_);refine ma h53 rfl rfl fun _ h54=>?_;refine ae (aa (wp_ret (ai ?_)));refine bm h54 rfl rfl ?_;exact⟨by rw[hN2],S45.below⟩
     ·
      rw[if_neg (by simpa using hc3)] at hN2;refine wp_skip (aa (ab (ah ?_)));refine ma h53 rfl rfl fun _ h55=>?_;refine ae (aa (wp_ret ?_));refine bm h55 rfl rfl ?_;exact⟨by rw[hN2],S45.below⟩
theorem ny (l:List Rcd) (A:Option Addr) (c:Nat) (hl:l.length≤100000):∀n i:Nat,i<n→i<l.length→∀w,Rd w w.heap.size A (l.flatMap cg) →
 Calls Tryz.prog 176 #[.slice A l.length c,.int .i64 (i:Nat)] w fun e w'=>e=.returned (.int .i64 (gW l i))∧Below w.heap.size w w'
 | 0,_,h,_,_,_=>absurd h (Nat.not_lt_zero _)
 | n+1,i,h,hi,w,hr=>sw l i hi A c w hr hl fun k hk w' hr'=>ny l A c hl n k (by omega) (by omega) w' hr'
theorem tZ (l:List Rcd) (i:Nat) (hi:i<l.length) (A:Option Addr) (c:Nat) (w:World) (hr:Rd w w.heap.size A (l.flatMap cg)) (hl:l.length≤100000) :
 Calls Tryz.prog 176 #[.slice A l.length c,.int .i64 (i:Nat)] w fun e w'=>e=.returned (.int .i64 (gW l i))∧Below w.heap.size w w':=
 ny l A c hl (i+1) i (Nat.lt_succ_self _) hi w hr
theorem xA {p:Option Pgp} {x:Pgp} (h:bE x.g 0 600=false):iq p x=2:=by unfold iq;rw[h];rfl
theorem wh {p:Option Pgp} {x y:Pgp} (h:bE x.g 0 600=true) (hp:p=some y) (hy:x.g≤y.g):iq p x=9:=by
 unfold iq;rw[h,hp];simp only[];rw[decide_eq_false (by omega)];rfl
theorem vU {p:Option Pgp} {x:Pgp} (h:bE x.g 0 600=true) (hp:∀y,p=some y→y.g<x.g) (hs:(x.b.size==512)=false):iq p x=10:=by
 unfold iq;rw[h,hs]
 cases p with
 | none=>rfl
 | some y=>simp only[];rw[decide_eq_true (hp y rfl)];rfl
theorem qY (l:List Pgp) (A:Option Addr) (c:Nat) (w:World) (hr:Rd w w.heap.size A (l.flatMap ca)) (hl:l.length≤100000) :
 Calls Tryz.prog 86 #[.slice A l.length c] w fun e w'=>e=.returned (.int .i64 (gN l))∧Below w.heap.size w w':=by
 obtain⟨E,hE⟩:∃E,E=gN l:=⟨_,rfl⟩;rw[←hE];unfold gN nV at hE;refine aF (N:=43) Tryz.func86 rfl rfl rfl (fun _ h0=>?_);have Y:=St.init w;refine ab (ah ?_);refine ma h0 rfl rfl fun _ h1=>?_;refine ae (aa (ab (ab (ah ?_))));refine mv h1 rfl rfl fun _ h2=>?_;refine sv h2 (bf Tryz.underlying48 (h2.ev rfl)) fun _ h3=>?_;refine sv h3 (cD (h3.ev rfl) (h3.ev rfl)) fun _ h4=>?_;refine ae (aa ?_);refine aB (h4.ev rfl) (fun hc0=>?_) (fun hc0=>?_)
 ·
  rw[if_pos (by have:=of_decide_eq_true hc0;omega)] at hE;refine ab (ah ?_);refine ma h4 rfl rfl fun _ h5=>?_;refine ae (aa (wp_ret (ai ?_)));refine bm h5 rfl rfl ?_;exact⟨by rw[hE],Y.below⟩
 ·
  rw[if_neg (by have:=of_decide_eq_false hc0;omega)] at hE;refine wp_skip (aa (ab (ab (ah ?_))));refine ma h4 rfl rfl fun _ h6=>?_;refine ae (aa (wp_block ?_));refine bz h6 Y [0] (fun (j:Nat)=>[(3,.int .i64 (j:Nat))]) (fun (j:Nat)=>j≤l.length∧∀k (hk:k<l.length),k<j→iq (cB l k) l[k]=0) (fun (j:Nat) L=>L) (fun (j:Nat)=>l.length-j) (0) (⟨Nat.zero_le _,fun k _ h=>absurd h (Nat.not_lt_zero _)⟩) ⟨rfl,rfl,trivial⟩ (Y) ?_;intro j _ _ hF0 h7 Y;refine ab (ab (ah ?_));refine mv h7 rfl rfl fun _ h8=>?_;refine mv h8 rfl rfl fun _ h9=>?_;refine sv h9 (bf Tryz.underlying48 (h9.ev rfl)) fun _ h10=>?_;refine sv h10 (bq (h10.ev rfl) (h10.ev rfl)) fun _ h11=>?_;refine ae (aa ?_);refine aB (h11.ev rfl) (fun hc1=>?_) (fun hc1=>?_)
  ·
   have hlt:j<l.length:=by have:=of_decide_eq_true hc1;omega
   obtain⟨b,o,rfl,hB,_⟩:=hr.opened (aR bc (by decide) (by omega));refine wp_skip (aa (ab (wp_block (ab (ab (ah ?_))))));refine mv h11 rfl rfl fun _ h12=>?_;refine mv h12 rfl rfl fun _ h13=>?_;refine sv h13 (aC (i:=j) (sz:=3) Tryz.underlying48 (by kernel_rfl) (h13.ev rfl) (h13.ev rfl) (by omega) (by omega) rfl) fun _ h14=>?_;refine sv h14 (aj (off:=0) (by kernel_rfl) (h14.ev rfl) rfl) fun _ h15=>?_;refine sv h15 (aw (by kernel_rfl) (h15.ev rfl) ((a7 bc (Y.rd0 hr) hlt) 0 _ rfl)) fun _ h16=>?_;refine bD h16 (wn rfl) (aq (fun _ _=>by kernel_rfl) (h16.evs rfl) rfl) rfl rfl (aT _ _ _ _) fun _ h17=>?_;refine sv h17 (bL (h17.ev rfl)) fun _ h18=>?_;refine ae (aa ?_);refine aB (h18.ev rfl) (fun hc2=>?_) (fun hc2=>?_)
   ·
    have hbad:bE l[j].g 0 600=false:=by simpa using hc2
    rw[eI (f:=fun i x=>iq (cB l i) x) hlt hF0.2 (xA hbad) (by decide)] at hE;refine ab (ah ?_);refine ma h18 rfl rfl fun _ h19=>?_;refine ae (aa (wp_ret (ai (az (ai (ai (az (ai ?_))))))));refine bm h19 rfl rfl ?_;exact⟨by rw[hE],Y.below⟩
   ·
    have hgood:bE l[j].g 0 600=true:=by simpa using hc2
    refine wp_skip (aa (ab (ab ?_)));apply bA h18 [false,false,false,false,false,false,false,false,false,false,false,false,false,false,false] _ (by kernel_rfl)
    case h=>
     refine qv h18 (fun X hX=>ak (h18.ev rfl)) fun _ h20=>?_;refine qv h20 (fun X hX=>cD (h20.ev rfl) (h20.ev rfl)) fun _ h21=>?_;refine qv h21 (fun X hX=>ak (h21.ev rfl)) fun _ h22=>?_;apply kA h22 22 rfl 12 34
     case ht=>
      intro gc22
      have hj0:0<j:=by have:=of_decide_eq_true gc22;omega
      refine ax h22 (ag h22 _ rfl rfl rfl gc22) rfl rfl (fun X hX=>(ak (h22.ev rfl))) fun _ h23=>?_;refine ax h23 (ag h23 _ rfl rfl rfl gc22) rfl rfl (fun X hX=>(ak (h23.ev rfl))) fun _ h24=>?_;refine ax h24 (ag h24 _ rfl rfl rfl gc22) rfl rfl (fun X hX=>(aC (i:=j) (sz:=3) Tryz.underlying48 (by kernel_rfl) (h24.ev rfl) (h24.ev rfl) (by omega) (by omega) rfl)) fun _ h25=>?_;refine ax h25 (ag h25 _ rfl rfl rfl gc22) rfl rfl (fun X hX=>(aj (off:=0) (by kernel_rfl) (h25.ev rfl) rfl)) fun _ h26=>?_;refine ax h26 (ag h26 _ rfl rfl rfl gc22) rfl rfl (fun X hX=>(aw (by kernel_rfl) (h26.ev rfl) ((a7 bc ((Y.grow hX).rd0 hr) hlt) 0 _ rfl))) fun _ h27=>?_;refine ax h27 (ag h27 _ rfl rfl rfl gc22) rfl rfl (fun X hX=>(ak (h27.ev rfl))) fun _ h28=>?_;refine ax h28 (ag h28 _ rfl rfl rfl gc22) rfl rfl (fun X hX=>(ak (h28.ev rfl))) fun _ h29=>?_;refine ax h29 (ag h29 _ rfl rfl rfl gc22) rfl rfl (fun X hX=>(fH (h29.ev rfl) (h29.ev rfl) (by omega))) fun _ h30=>?_;refine ax h30 (ag h30 _ rfl rfl rfl gc22) rfl rfl (fun X hX=>(aC (i:=j-1) (sz:=3) Tryz.underlying48 (by kernel_rfl) (h30.ev rfl) (h30.ev rfl) (by omega) (by omega) rfl)) fun _ h31=>?_;refine ax h31 (ag h31 _ rfl rfl rfl gc22) rfl rfl (fun X hX=>(aj (off:=0) (by kernel_rfl) (h31.ev rfl) rfl)) fun _ h32=>?_;refine ax h32 (ag h32 _ rfl rfl rfl gc22) rfl rfl (fun X hX=>(aw (by kernel_rfl) (h32.ev rfl) ((a7 bc ((Y.grow hX).rd0 hr) (show j-1<l.length by omega)) 0 _ rfl))) fun _ h33=>?_;refine ax h33 (ag h33 _ rfl rfl rfl gc22) rfl rfl (fun X hX=>(bb (v':=.bool (decide (l[j].g≤((cB l j).getD ⟨0,false,⟨#[]⟩⟩).g))) (by rw[de hj0 hlt,Option.getD_some]) (gq (h33.ev rfl) (h33.ev rfl)))) fun _ h34=>?_;exact aI (h34.mid (m:=[(_,_),(_,_),(_,_),(_,_),(_,_),(_,_),(_,_),(_,_),(_,_),(_,_),(_,_)]) rfl)
     case hf=>
      intro gc22;refine qo h22 rfl rfl rfl gc22 rfl rfl fun _ h35=>?_;refine qo h35 rfl rfl rfl gc22 rfl rfl fun _ h36=>?_;refine qo h36 rfl rfl rfl gc22 rfl rfl fun _ h37=>?_;refine qo h37 rfl rfl rfl gc22 rfl rfl fun _ h38=>?_;refine qo h38 rfl rfl rfl gc22 rfl rfl fun _ h39=>?_;refine qo h39 rfl rfl rfl gc22 rfl rfl fun _ h40=>?_;refine qo h40 rfl rfl rfl gc22 rfl rfl fun _ h41=>?_;refine qo h41 rfl rfl rfl gc22 rfl rfl fun _ h42=>?_;refine qo h42 rfl rfl rfl gc22 rfl rfl fun _ h43=>?_;refine qo h43 rfl rfl rfl gc22 rfl rfl fun _ h44=>?_;refine qo h44 rfl rfl rfl gc22 rfl rfl fun _ h45=>?_;refine qo h45 rfl rfl rfl gc22 rfl rfl fun _ h46=>?_;exact aI ⟨_,h46.mid (m:=[(_,_),(_,_),(_,_),(_,_),(_,_),(_,_),(_,_),(_,_),(_,_),(_,_),(_,_)]) rfl⟩
     case h=>
      intro v47 _ hg34 h47;refine aI ?_;refine bF fun _ hX48 hΦ48=>?_;have Y:=Y.grow hX48;refine sv h47 (eu (h47.ev rfl) (h47.ev rfl) hg34 (h47.ev rfl)) fun _ h49=>?_;refine ae (aa ?_);refine aB (h49.ev rfl) (fun hc3=>?_) (fun hc3=>?_)
      ·
       obtain⟨u1,u2⟩:=Bool.and_eq_true_iff.1 hc3
       have hj0:0<j:=by have:=of_decide_eq_true u1;omega
       rw[de hj0 hlt] at u2;rw[eI (f:=fun i x=>iq (cB l i) x) hlt hF0.2 (wh hgood (de hj0 hlt) (of_decide_eq_true u2)) (by decide)] at hE;refine ab (ah ?_);refine ma h49 rfl rfl fun _ h50=>?_;refine ae (aa (wp_ret (ai (az (ai (ai (az (ai ?_))))))));refine bm h50 rfl rfl ?_;exact⟨by rw[hE],Y.below⟩
      ·
       have hord:∀y,cB l j=some y→y.g<l[j].g:=fun y hy=>by
        rcases Nat.eq_zero_or_pos j with h0 | h0
        · subst h0;cases hy
        · rw[decide_eq_true (by omega:(j:Int)>0),Bool.true_and,hy] at hc3
          have:=of_decide_eq_false hc3
          change ¬l[j].g≤y.g at this
          omega
       refine wp_skip (aa (ab (ah ?_)));refine mv h49 rfl rfl fun _ h51=>?_;refine mv h51 rfl rfl fun _ h52=>?_;refine sv h52 (aC (i:=j) (sz:=3) Tryz.underlying48 (by kernel_rfl) (h52.ev rfl) (h52.ev rfl) (by omega) (by omega) rfl) fun _ h53=>?_;refine sv h53 (aj (off:=2) (by kernel_rfl) (h53.ev rfl) rfl) fun _ h54=>?_;refine sv h54 (aw (by kernel_rfl) (h54.ev rfl) ((a7 bc (Y.rd0 hr) hlt) 2 _ rfl)) fun _ h55=>?_;refine sv h55 (ft Tryz.underlying9 (h55.ev rfl)) fun _ h56=>?_;refine sv h56 (a8 (h56.ev rfl) (h56.ev rfl)) fun _ h57=>?_;refine ae (aa ?_);refine aB (h57.ev rfl) (fun hc4=>?_) (fun hc4=>?_)
       ·
        have hs:(l[j].b.size==512)=false:=by simp at hc4 ⊢;omega
        rw[eI (f:=fun i x=>iq (cB l i) x) hlt hF0.2 (vU hgood hord hs) (by decide)] at hE;refine ab (ah ?_);refine ma h57 rfl rfl fun _ h58=>?_;refine ae (aa (wp_ret (az (ai (ai (az (ai ?_)))))));refine bm h58 rfl rfl ?_;exact⟨by rw[hE],Y.below⟩
       ·
        have hz:iq (cB l j) l[j]=0:=pgpE_zero.2 ⟨⟨inB_true.1 hgood,by simp at hc4;omega⟩,hord⟩;refine wp_skip (aO (aa (ah ?_)));refine mv h57 rfl rfl fun _ h59=>?_;refine sv h59 (aV (h59.ev rfl) (h59.ev rfl) (by omega)) fun _ h60=>?_;refine ma h60 rfl rfl fun _ h61=>?_;refine ae (aa ?_);exact⟨j+1,(by omega),⟨hlt,fun k hk hkj=>by rcases Nat.lt_or_eq_of_le (show k≤j by omega) with q | q;exact hF0.2 k hk q;subst q;exact hz⟩,h61.re ⟨rfl,rfl,trivial⟩,Y⟩
    case hB=>kernel_rfl
    case hst=>rfl
  ·
   have hge:l.length≤j:=by have:=of_decide_eq_false hc1;omega
   have hz0:(dk (fun i x=>iq (cB l i) x) 0 l).2=0:=(cQ _ _).2 fun k hk=>hF0.2 k hk (by omega);rw[hz0] at hE;refine wp_exit ?_;refine av ?_;refine av ?_;refine bn ?_;refine aa (ab (ah ?_));refine ma h11 rfl rfl fun _ h62=>?_;refine ae (aa (wp_ret ?_));refine bm h62 rfl rfl ?_;exact⟨by rw[hE],Y.below⟩
theorem nf (l:List Rcd) (p:List Pgp) (A:Option Addr) (c:Nat) (B:Option Addr) (d:Nat) (w:World) (hr:Rd w w.heap.size A (l.flatMap cg)) (hs:Rd w w.heap.size B (p.flatMap ca)) (hl:l.length≤100000) (hp:p.length≤100000) :
 Calls Tryz.prog 34 #[.slice A l.length c,.slice B p.length d] w fun e w'=>e=.returned (.int .i64 (fK l p))∧Below w.heap.size w w':=by
 obtain⟨E,hE⟩:∃E,E=fK l p:=⟨_,rfl⟩;rw[←hE];unfold fK at hE;refine aF (N:=48) Tryz.func34 rfl rfl rfl (fun _ Y=>?_);have Z:=St.init w;refine ab (ah ?_);refine ma Y rfl rfl fun _ Y=>?_;refine ae (aa (ab (ab (ah ?_))));refine mv Y rfl rfl fun _ Y=>?_;refine aS Y (wn rfl) (aq (fun _ _=>by kernel_rfl) (Y.evs rfl) rfl) rfl rfl Z (qY p B d _ (Z.rd0 hs) hp) fun _ _ Y Z=>?_;refine ma Y rfl rfl fun _ Y=>?_;refine cm ?_;refine mv Y rfl rfl fun _ Y=>?_;refine sv Y (a8 (Y.ev rfl) (Y.ev rfl)) fun _ Y=>?_;refine ae (aa ?_);refine aB (Y.ev rfl) (fun hc0=>?_) (fun hc0=>?_)
 ·
  rw[if_pos (by simpa using hc0)] at hE;refine ab (ah ?_);refine mv Y rfl rfl fun _ Y=>?_;refine ma Y rfl rfl fun _ Y=>?_;refine ae (aa (wp_ret (ai ?_)));refine bm Y rfl rfl ?_;exact⟨by first | (rw[hE];done) | (rw[hE];rfl),Z.below⟩
 ·
  rw[if_neg (by simpa using hc0)] at hE;refine wp_skip (aa (ab (ab (ah ?_))));refine ma Y rfl rfl fun _ Y=>?_;refine ae (aa (wp_block ?_));refine bz Y Z [0,1] (fun (j:Nat)=>[(6,.int .i64 (j:Nat))]) (fun (j:Nat)=>j≤l.length∧∀k (hk:k<l.length),k<j→eL p l[k]=0) (fun (j:Nat) L=>L) (fun (j:Nat)=>l.length-j) (0) (⟨Nat.zero_le _,fun k _ h=>absurd h (Nat.not_lt_zero _)⟩) ⟨rfl,rfl,rfl,trivial⟩ (Z) ?_;intro j _ _ hF0 Y Z;refine ab (ab (ah ?_));refine mv Y rfl rfl fun _ Y=>?_;refine mv Y rfl rfl fun _ Y=>?_;refine sv Y (bf Tryz.underlying41 (Y.ev rfl)) fun _ Y=>?_;refine sv Y (bq (Y.ev rfl) (Y.ev rfl)) fun _ Y=>?_;refine ae (aa ?_);refine aB (Y.ev rfl) (fun hc1=>?_) (fun hc1=>?_)
  ·
   have hlt:j<l.length:=by have:=of_decide_eq_true hc1;omega
   obtain⟨b,o,rfl,hB,_⟩:=hr.opened (aR aJ (by decide) (by omega));refine wp_skip (aa (ab (wp_block (ab (ab (ah ?_))))));refine mv Y rfl rfl fun _ Y=>?_;refine mv Y rfl rfl fun _ Y=>?_;refine sv Y (aC (i:=j) (sz:=14) Tryz.underlying41 (by kernel_rfl) (Y.ev rfl) (Y.ev rfl) (by omega) (by omega) rfl) fun _ Y=>?_;refine sv Y (aj (off:=1) (by kernel_rfl) (Y.ev rfl) rfl) fun _ Y=>?_;refine sv (v:=dz l[j].e) Y (ay (by kernel_rfl) (by kernel_rfl) (Y.ev rfl) (dJ (Z.rd0 hr) hlt)) fun _ Y=>?_;refine aS Y (wn rfl) (aq (fun _ _=>by kernel_rfl) (Y.evs rfl) rfl) rfl rfl Z (fq _ _) fun _ _ Y Z=>?_;refine sv Y (bL (Y.ev rfl)) fun _ Y=>?_;refine ae (aa ?_);refine aB (Y.ev rfl) (fun hc2=>?_) (fun hc2=>?_)
   ·
    have hz:eL p l[j]=0:=by unfold eL;rw[if_neg];simpa using hc2
    refine wp_exit ?_;refine av ?_;refine bn ?_;refine aa (ah ?_);refine mv Y rfl rfl fun _ Y=>?_;refine sv Y (aV (Y.ev rfl) (Y.ev rfl) (by omega)) fun _ Y=>?_;refine ma Y rfl rfl fun _ Y=>?_;refine ae (aa ?_);exact⟨j+1,(by omega),⟨hlt,fun k hk hkj=>by rcases Nat.lt_or_eq_of_le (show k≤j by omega) with q | q;exact hF0.2 k hk q;subst q;exact hz⟩,Y.re ⟨rfl,rfl,rfl,trivial⟩,Z⟩
   ·
    have hop:cd l[j].e=true:=by simpa using hc2
    refine wp_skip (aa (ab (ah ?_)));refine mv Y rfl rfl fun _ Y=>?_;refine mv Y rfl rfl fun _ Y=>?_;refine mv Y rfl rfl fun _ Y=>?_;refine sv Y (aC (i:=j) (sz:=14) Tryz.underlying41 (by kernel_rfl) (Y.ev rfl) (Y.ev rfl) (by omega) (by omega) rfl) fun _ Y=>?_;refine sv Y (aj (off:=1) (by kernel_rfl) (Y.ev rfl) rfl) fun _ Y=>?_;refine sv Y (aj (off:=4) (by kernel_rfl) (Y.ev rfl) rfl) fun _ Y=>?_;refine sv Y (aw (by kernel_rfl) (Y.ev rfl) ((a7 aJ (Z.rd0 hr) hlt) 5 _ rfl)) fun _ Y=>?_;refine aS Y (wn rfl) (aq (fun _ _=>by kernel_rfl) (Y.evs rfl) rfl) rfl rfl Z (kO p l[j].e.g B d _ (Z.rd0 hs) hp) fun _ _ Y Z=>?_;refine ma Y rfl rfl fun _ Y=>?_;refine ae (aa (ab (ab (ah ?_))));refine mv Y rfl rfl fun _ Y=>?_;refine sv Y (bq (Y.ev rfl) (Y.ev rfl)) fun _ Y=>?_;refine ae (aa ?_);refine aB (Y.ev rfl) (fun hc3=>?_) (fun hc3=>?_)
    ·
     have hn:=jM (of_decide_eq_true hc3)
     have he:eL p l[j]=6:=by unfold eL gT;rw[if_pos hop,hn]
     rw[eI (f:=fun _ x=>eL p x) hlt hF0.2 he (by decide)] at hE;refine ab (ah ?_);refine ma Y rfl rfl fun _ Y=>?_;refine ae (aa (wp_ret (ai (az (ai (ai (az (ai ?_))))))));refine bm Y rfl rfl ?_;exact⟨by first | (rw[hE];done) | (rw[hE];rfl),Z.below⟩
    ·
     obtain⟨k,hk,hik,_,hfk⟩:=jI (of_decide_eq_false hc3);rw[Nat.zero_add] at hik;obtain⟨b',o',rfl,hB',_⟩:=hs.opened (aR bc (by decide) (by omega))
     have hff:eL p l[j]=bO (p[k].f==l[j].e.f) 13:=by unfold eL gT;rw[if_pos hop,hfk]
     refine wp_skip (aa (ab ?_));apply bA Y [false,false,false,false,false,false,false,false,false,false,false] _ (by kernel_rfl)
     case h=>
      refine qv Y (fun X hX=>ak (Y.ev rfl)) fun _ Y=>?_;refine qv Y (fun X hX=>ak (Y.ev rfl)) fun _ Y=>?_;refine qv Y (fun X hX=>aC (i:=k) (sz:=3) Tryz.underlying48 (by kernel_rfl) (Y.ev rfl) (Y.ev rfl) (by omega) (by omega) rfl) fun _ Y=>?_;refine qv Y (fun X hX=>aj (off:=1) (by kernel_rfl) (Y.ev rfl) rfl) fun _ Y=>?_;refine qv Y (fun X hX=>aw (by kernel_rfl) (Y.ev rfl) ((a7 bc ((Z.grow hX).rd0 hs) hk) 1 _ rfl)) fun _ Y=>?_;refine qv Y (fun X hX=>ak (Y.ev rfl)) fun _ Y=>?_;refine qv Y (fun X hX=>ak (Y.ev rfl)) fun _ Y=>?_;refine qv Y (fun X hX=>aC (i:=j) (sz:=14) Tryz.underlying41 (by kernel_rfl) (Y.ev rfl) (Y.ev rfl) (by omega) (by omega) rfl) fun _ Y=>?_;refine qv Y (fun X hX=>aj (off:=1) (by kernel_rfl) (Y.ev rfl) rfl) fun _ Y=>?_;refine qv Y (fun X hX=>aj (off:=5) (by kernel_rfl) (Y.ev rfl) rfl) fun _ Y=>?_;refine qv Y (fun X hX=>aw (by kernel_rfl) (Y.ev rfl) ((a7 aJ ((Z.grow hX).rd0 hr) hlt) 6 _ rfl)) fun _ Y=>?_;refine aI ?_;refine bF fun _ hX48 hΦ48=>?_;have Z:=Z.grow hX48;refine sv Y (jV Tryz.underlying4 (Y.ev rfl) (Y.ev rfl)) fun _ Y=>?_;refine ae (aa ?_);refine aB (Y.ev rfl) (fun hc4=>?_) (fun hc4=>?_)
      ·
       have hne:(p[k].f==l[j].e.f)=false:=by simpa using hc4
       rw[hne] at hff;rw[eI (f:=fun _ x=>eL p x) hlt hF0.2 hff (by decide)] at hE;refine ab (ah ?_);refine ma Y rfl rfl fun _ Y=>?_;refine ae (aa (wp_ret (az (ai (ai (az (ai ?_)))))));refine bm Y rfl rfl ?_;exact⟨by first | (rw[hE];done) | (rw[hE];rfl),Z.below⟩
      ·
       have hz:eL p l[j]=0:=by rw[hff,show(p[k].f==l[j].e.f)=true by simpa using hc4];rfl
       refine wp_skip (aO (aa (ah ?_)));refine mv Y rfl rfl fun _ Y=>?_;refine sv Y (aV (Y.ev rfl) (Y.ev rfl) (by omega)) fun _ Y=>?_;refine ma Y rfl rfl fun _ Y=>?_;refine ae (aa ?_);exact⟨j+1,(by omega),⟨hlt,fun k hk hkj=>by rcases Nat.lt_or_eq_of_le (show k≤j by omega) with q | q;exact hF0.2 k hk q;subst q;exact hz⟩,Y.re ⟨rfl,rfl,rfl,trivial⟩,Z⟩
     case hB=>kernel_rfl
     case hst=>rfl
  ·
   have hge:l.length≤j:=by have:=of_decide_eq_false hc1;omega
   have hz0:(dk (fun _ x=>eL p x) 0 l).2=0:=(cQ _ _).2 fun k hk=>hF0.2 k hk (by omega);rw[hz0] at hE;refine wp_exit ?_;refine av ?_;refine av ?_;refine bn ?_;refine aa (ab (ah ?_));refine ma Y rfl rfl fun _ Y=>?_;refine ae (aa (wp_ret ?_));refine bm Y rfl rfl ?_;exact⟨by first | (rw[hE];done) | (rw[hE];rfl),Z.below⟩
theorem zv (x:Pgp):mQ [.int .i64 x.g,.bool x.f,.string x.b] [.int .i64 x.g,.bool x.f,.string x.b]=true:=by simp[mQ,uQ]
theorem rR (l:List Pgp) (A:Option Addr) (c:Nat) (A':Option Addr) (c':Nat) (w:World) (hr:Rd w w.heap.size A (l.flatMap ca)) (hr':Rd w w.heap.size A' (l.flatMap ca)) (hl:l.length≤100000) :
 Calls Tryz.prog 36 #[.slice A l.length c,.slice A' l.length c'] w fun e w'=>e=.returned (.bool true)∧Below w.heap.size w w':=by
 refine aF (N:=26) Tryz.func36 rfl rfl rfl (fun _ Y=>?_);have Z:=St.init w;refine ab (ah ?_);refine ma Y rfl rfl fun _ Y=>?_;refine ae (aa (ab (ab (ah ?_))));refine mv Y rfl rfl fun _ Y=>?_;refine sv Y (bf Tryz.underlying48 (Y.ev rfl)) fun _ Y=>?_;refine mv Y rfl rfl fun _ Y=>?_;refine sv Y (bf Tryz.underlying48 (Y.ev rfl)) fun _ Y=>?_;refine sv Y (a8 (Y.ev rfl) (Y.ev rfl)) fun _ Y=>?_;refine ae (aa ?_);refine iQ (Y.ev rfl) ((by simp)) ?_;refine wp_skip (aa (ab (ab (ah ?_))));refine ma Y rfl rfl fun _ Y=>?_;refine ae (aa (wp_block ?_));refine bz Y Z [0,1] (fun (j:Nat)=>[(5,.int .i64 (j:Nat))]) (fun (j:Nat)=>j≤l.length) (fun (j:Nat) L=>L) (fun (j:Nat)=>l.length-j) (0) (Nat.zero_le _) ⟨rfl,rfl,rfl,trivial⟩ (Z) ?_;intro j _ _ hF0 Y Z;refine ab (ab (ah ?_));refine mv Y rfl rfl fun _ Y=>?_;refine mv Y rfl rfl fun _ Y=>?_;refine sv Y (bf Tryz.underlying48 (Y.ev rfl)) fun _ Y=>?_;refine sv Y (bq (Y.ev rfl) (Y.ev rfl)) fun _ Y=>?_;refine ae (aa ?_);refine aB (Y.ev rfl) (fun hc1=>?_) (fun hc1=>?_)
 ·
  have hlt:j<l.length:=by have:=of_decide_eq_true hc1;omega
  obtain⟨b,o,rfl,hB,_⟩:=hr.opened (aR bc (by decide) (by omega));obtain⟨b',o',rfl,hB',_⟩:=hr'.opened (aR bc (by decide) (by omega));refine wp_skip (aa (ab (wp_block (ab ?_))));apply bA Y [false,false,false,false,false,false,false,false] _ (by kernel_rfl)
  case h=>
   refine qv Y (fun X hX=>ak (Y.ev rfl)) fun _ Y=>?_;refine qv Y (fun X hX=>ak (Y.ev rfl)) fun _ Y=>?_;refine qv Y (fun X hX=>aC (i:=j) (sz:=3) Tryz.underlying48 (by kernel_rfl) (Y.ev rfl) (Y.ev rfl) (by omega) (by omega) rfl) fun _ Y=>?_;refine qv (v:=oI l[j]) Y (fun X hX=>ay (by kernel_rfl) (by kernel_rfl) (Y.ev rfl) (a7 bc ((Z.grow hX).rd0 hr) hlt)) fun _ Y=>?_;refine qv Y (fun X hX=>ak (Y.ev rfl)) fun _ Y=>?_;refine qv Y (fun X hX=>ak (Y.ev rfl)) fun _ Y=>?_;refine qv Y (fun X hX=>aC (i:=j) (sz:=3) Tryz.underlying48 (by kernel_rfl) (Y.ev rfl) (Y.ev rfl) (by omega) (by omega) rfl) fun _ Y=>?_;refine qv (v:=oI l[j]) Y (fun X hX=>ay (by kernel_rfl) (by kernel_rfl) (Y.ev rfl) (a7 bc ((Z.grow hX).rd0 hr') hlt)) fun _ Y=>?_;refine aI ?_;refine bF fun _ hX21 hΦ21=>?_;have Z:=Z.grow hX21;refine sv Y (ti (ks:=[.i .i64,.b,.s]) (by kernel_rfl) Tryz.underlying111 (by kernel_rfl) (Y.ev rfl) (Y.ev rfl) rfl rfl) fun _ Y=>?_;refine ae (aa ?_);refine iQ (Y.ev rfl) ((by rw[zv];rfl)) ?_;refine wp_skip (aO (aa (ah ?_)));refine mv Y rfl rfl fun _ Y=>?_;refine sv Y (aV (Y.ev rfl) (Y.ev rfl) (by omega)) fun _ Y=>?_;refine ma Y rfl rfl fun _ Y=>?_;refine ae (aa ?_);exact⟨j+1,(by omega),hlt,Y.re ⟨rfl,rfl,rfl,trivial⟩,Z⟩
  case hB=>kernel_rfl
  case hst=>rfl
 ·
  have hge:l.length≤j:=by have:=of_decide_eq_false hc1;omega
  refine wp_exit ?_;refine av ?_;refine av ?_;refine bn ?_;refine aa (ab (ah ?_));refine ma Y rfl rfl fun _ Y=>?_;refine ae (aa (wp_ret ?_));refine bm Y rfl rfl ?_;exact⟨rfl,Z.below⟩
def lg (n:Nat) (a b:Nat):Bool:=!((decide ((n:Int)>a)&&decide ((n:Int)≤b))||decide ((n:Int)>b+2))
def oy (x:Lge):Bool:=!((decide ((x.d.size:Int)>1010)||decide ((x.o.o.size:Int)>600))||decide ((x.o.n.size:Int)>600))
def AS (l:List Rcd):Bool:=lg l.length 24 100&&l.all fun x=>oy x.e
def sf (l:List Pgp):Bool:=lg l.length 12 40&&l.all fun x=>!decide ((x.b.size:Int)>513)
theorem lF {n a b:Nat} (h:lg n a b=true):n≤b+2:=by
 unfold lg at h;rw[Bool.not_eq_true'] at h;have:=of_decide_eq_false (Bool.or_eq_false_iff.1 h).2;omega
theorem AJ {l:List Rcd} (h:AS l=true):l.length≤102∧∀x∈l,FewE x.e:=by
 unfold AS at h;obtain⟨h1,h2⟩:=Bool.and_eq_true_iff.1 h;refine⟨lF h1,fun x hx=>?_⟩;have h3:=List.all_eq_true.1 h2 x hx;unfold oy at h3;rw[Bool.not_eq_true'] at h3;obtain⟨u1,u3⟩:=Bool.or_eq_false_iff.1 h3;obtain⟨u1,u2⟩:=Bool.or_eq_false_iff.1 u1;have:=of_decide_eq_false u1;have:=of_decide_eq_false u2;have:=of_decide_eq_false u3;exact⟨by omega,by omega,by omega⟩
theorem zp {l:List Pgp} (h:sf l=true):l.length≤42:=by
 unfold sf at h;exact lF (Bool.and_eq_true_iff.1 h).1
theorem pK (l:List Rcd) (A:Option Addr) (c:Nat) (w:World) (hr:Rd w w.heap.size A (l.flatMap cg)) (hl:l.length≤maxLen) :
 Calls Tryz.prog 23 #[.slice A l.length c] w fun e w'=>e=.returned (.bool (AS l))∧Below w.heap.size w w':=by
 refine aF (N:=47) Tryz.func23 rfl rfl rfl (fun _ h0=>?_);have S0:=St.init w;refine ab (ah ?_);refine ma h0 rfl rfl fun _ h1=>?_;refine ae (aa (ab (ab (ah ?_))));refine mv h1 rfl rfl fun _ h2=>?_;refine sv h2 (bf Tryz.underlying41 (h2.ev rfl)) fun _ h3=>?_;refine sv h3 (cD (h3.ev rfl) (h3.ev rfl)) fun _ h4=>?_;refine mv h4 rfl rfl fun _ h5=>?_;apply cq (x:=decide ((l.length:Int)≤100)) h5 S0 8 rfl 4 12
 case ht=>
  intro gc8;refine sy h5 rfl rfl rfl gc8 (ak (h5.ev rfl)) rfl rfl fun _ h6=>?_;refine sy h6 rfl rfl rfl gc8 (bf Tryz.underlying41 (h6.ev rfl)) rfl rfl fun _ h7=>?_;refine sy h7 rfl rfl rfl gc8 (gq (h7.ev rfl) (h7.ev rfl)) rfl rfl fun _ h8=>?_;refine sv h8 (aA (h8.ev rfl) gc8 (h8.ev rfl)) fun _ h9=>?_;exact ae ⟨h9.mid (m:=[(_,_),(_,_),(_,_)]) rfl,S0⟩
 case hf=>
  intro gc8;refine no h5 rfl rfl rfl gc8 rfl rfl fun _ h10=>?_;refine no h10 rfl rfl rfl gc8 rfl rfl fun _ h11=>?_;refine no h11 rfl rfl rfl gc8 rfl rfl fun _ h12=>?_;refine sv h12 (aD (h12.ev rfl) gc8 (h12.ev rfl)) fun _ h13=>?_;exact ae ⟨h13.mid (m:=[(_,_),(_,_),(_,_)]) rfl,S0⟩
 case h=>
  rintro a14 X14 ⟨h14,S14⟩
  refine mv h14 rfl rfl fun _ h15=>?_;apply dw (x:=decide ((l.length:Int)>102)) h15 S14 13 rfl 4 17
  case hf=>
   intro gc13;refine sy h15 rfl rfl rfl gc13 (ak (h15.ev rfl)) rfl rfl fun _ h16=>?_;refine sy h16 rfl rfl rfl gc13 (bf Tryz.underlying41 (h16.ev rfl)) rfl rfl fun _ h17=>?_;refine sy h17 rfl rfl rfl gc13 (cD (h17.ev rfl) (h17.ev rfl)) rfl rfl fun _ h18=>?_;refine sv h18 (aD (h18.ev rfl) gc13 (h18.ev rfl)) fun _ h19=>?_;exact ae ⟨h19.mid (m:=[(_,_),(_,_),(_,_)]) rfl,S14⟩
  case ht=>
   intro gc13;refine no h15 rfl rfl rfl gc13 rfl rfl fun _ h20=>?_;refine no h20 rfl rfl rfl gc13 rfl rfl fun _ h21=>?_;refine no h21 rfl rfl rfl gc13 rfl rfl fun _ h22=>?_;refine sv h22 (aA (h22.ev rfl) gc13 (h22.ev rfl)) fun _ h23=>?_;exact ae ⟨h23.mid (m:=[(_,_),(_,_),(_,_)]) rfl,S14⟩
  case h=>
   rintro a24 X24 ⟨h24,S24⟩
   refine ae (aa ?_);refine aB (h24.ev rfl) (fun hc0=>?_) (fun hc0=>?_)
   ·
    have hn:lg l.length 24 100=false:=by unfold lg;exact(Bool.not_eq_false' _).mpr hc0
    refine ab (ah ?_);refine ma h24 rfl rfl fun _ h25=>?_;refine ae (aa (wp_ret (ai ?_)));refine bm h25 rfl rfl ?_;exact⟨by unfold AS;rw[hn];rfl,S24.below⟩
   ·
    have hn:lg l.length 24 100=true:=by unfold lg;exact(Bool.not_eq_true' _).mpr hc0
    have hnl:=lF hn;refine wp_skip (aa (ab (ab (ah ?_))));refine ma h24 rfl rfl fun _ h26=>?_;refine ae (aa (wp_block ?_));refine bz h26 S24 [0] (fun (j:Nat)=>[(3,.int .i64 (j:Nat))]) (fun (j:Nat)=>j≤l.length∧∀k (hk:k<l.length),k<j→oy l[k].e=true) (fun (j:Nat) L=>L) (fun (j:Nat)=>l.length-j) (0) (⟨Nat.zero_le _,fun k _ h=>absurd h (Nat.not_lt_zero _)⟩) ⟨rfl,rfl,trivial⟩ (S24) ?_;intro j _ _ hF0 h27 S27;refine ab (ab (ah ?_));refine mv h27 rfl rfl fun _ h28=>?_;refine mv h28 rfl rfl fun _ h29=>?_;refine sv h29 (bf Tryz.underlying41 (h29.ev rfl)) fun _ h30=>?_;refine sv h30 (bq (h30.ev rfl) (h30.ev rfl)) fun _ h31=>?_;refine ae (aa ?_);refine aB (h31.ev rfl) (fun hc1=>?_) (fun hc1=>?_)
    ·
     have hlt:j<l.length:=by have:=of_decide_eq_true hc1;omega
     obtain⟨b,o,rfl,hB,_⟩:=hr.opened (aR aJ (by decide) (by omega));refine wp_skip (aa (ab (wp_block (ab (ah ?_)))));refine mv h31 rfl rfl fun _ h32=>?_;refine mv h32 rfl rfl fun _ h33=>?_;refine sv h33 (aC (i:=j) (sz:=14) Tryz.underlying41 (by kernel_rfl) (h33.ev rfl) (h33.ev rfl) (by omega) (by omega) rfl) fun _ h34=>?_;refine sv h34 (aj (off:=1) (by kernel_rfl) (h34.ev rfl) rfl) fun _ h35=>?_;refine sv (v:=dz l[j].e) h35 (ay (by kernel_rfl) (by kernel_rfl) (h35.ev rfl) (dJ (S27.rd0 hr) hlt)) fun _ h36=>?_;refine na (.agg #[.int .i64 0,.int .i64 0,.int .i64 0,.int .i64 0,.int .i64 0,.bool false,.int .i64 0,.int .i64 0,.int .i64 0,.int .i64 0,.string ⟨#[]⟩,.string ⟨#[]⟩,.string ⟨#[]⟩]) h36 rfl S27 fun b4 _ _ gb4 h37 S37=>?_;refine aG h37 (wn rfl) ⟨rfl,rfl⟩ (h37.ev rfl) (h37.ev rfl) rfl (by kernel_rfl) S37 (i:=0) rfl rfl rfl fun _ S38=>?_;refine cm ?_;refine vf h37 12 12 rfl rfl rfl fun _ h39=>?_;refine vl h39 S38 0 rfl rfl rfl rfl fun _ h40=>?_;refine sv h40 (ft Tryz.underlying9 (h40.ev rfl)) fun _ h41=>?_;refine sv h41 (cD (h41.ev rfl) (h41.ev rfl)) fun _ h42=>?_;refine mv h42 rfl rfl fun _ h43=>?_;apply dw (x:=decide ((l[j].e.o.o.size:Int)>600)) h43 S38 33 rfl 6 39
     case hf=>
      intro gc33;refine sy h43 rfl rfl rfl gc33 (aj (off:=6) (j:=6) (by kernel_rfl) (h43.ev rfl) rfl) rfl rfl fun _ h44=>?_;refine sy h44 rfl rfl rfl gc33 (aj (off:=4) (j:=10) (by kernel_rfl) (h44.ev rfl) rfl) rfl rfl fun _ h45=>?_;refine sy h45 rfl rfl rfl gc33 (aw (by kernel_rfl) (h45.ev rfl) (S38.cell (i:=0) rfl rfl)) rfl rfl fun _ h46=>?_;refine sy h46 rfl rfl rfl gc33 (ft Tryz.underlying9 (h46.ev rfl)) rfl rfl fun _ h47=>?_;refine sy h47 rfl rfl rfl gc33 (cD (h47.ev rfl) (h47.ev rfl)) rfl rfl fun _ h48=>?_;refine sv h48 (aD (h48.ev rfl) gc33 (h48.ev rfl)) fun _ h49=>?_;exact ae ⟨h49.mid (m:=[(_,_),(_,_),(_,_),(_,_),(_,_)]) rfl,S38⟩
     case ht=>
      intro gc33;refine no h43 rfl rfl rfl gc33 rfl rfl fun _ h50=>?_;refine no h50 rfl rfl rfl gc33 rfl rfl fun _ h51=>?_;refine no h51 rfl rfl rfl gc33 rfl rfl fun _ h52=>?_;refine no h52 rfl rfl rfl gc33 rfl rfl fun _ h53=>?_;refine no h53 rfl rfl rfl gc33 rfl rfl fun _ h54=>?_;refine sv h54 (aA (h54.ev rfl) gc33 (h54.ev rfl)) fun _ h55=>?_;exact ae ⟨h55.mid (m:=[(_,_),(_,_),(_,_),(_,_),(_,_)]) rfl,S38⟩
     case h=>
      rintro a56 X56 ⟨h56,S56⟩
      refine mv h56 rfl rfl fun _ h57=>?_;apply dw (x:=decide ((l[j].e.o.n.size:Int)>600)) h57 S56 40 rfl 6 46
      case hf=>
       intro gc40;refine sy h57 rfl rfl rfl gc40 (aj (off:=6) (j:=6) (by kernel_rfl) (h57.ev rfl) rfl) rfl rfl fun _ h58=>?_;refine sy h58 rfl rfl rfl gc40 (aj (off:=5) (j:=11) (by kernel_rfl) (h58.ev rfl) rfl) rfl rfl fun _ h59=>?_;refine sy h59 rfl rfl rfl gc40 (aw (by kernel_rfl) (h59.ev rfl) (S56.cell (i:=0) rfl rfl)) rfl rfl fun _ h60=>?_;refine sy h60 rfl rfl rfl gc40 (ft Tryz.underlying9 (h60.ev rfl)) rfl rfl fun _ h61=>?_;refine sy h61 rfl rfl rfl gc40 (cD (h61.ev rfl) (h61.ev rfl)) rfl rfl fun _ h62=>?_;refine sv h62 (aD (h62.ev rfl) gc40 (h62.ev rfl)) fun _ h63=>?_;exact ae ⟨h63.mid (m:=[(_,_),(_,_),(_,_),(_,_),(_,_)]) rfl,S56⟩
      case ht=>
       intro gc40;refine no h57 rfl rfl rfl gc40 rfl rfl fun _ h64=>?_;refine no h64 rfl rfl rfl gc40 rfl rfl fun _ h65=>?_;refine no h65 rfl rfl rfl gc40 rfl rfl fun _ h66=>?_;refine no h66 rfl rfl rfl gc40 rfl rfl fun _ h67=>?_;refine no h67 rfl rfl rfl gc40 rfl rfl fun _ h68=>?_;refine sv h68 (aA (h68.ev rfl) gc40 (h68.ev rfl)) fun _ h69=>?_;exact ae ⟨h69.mid (m:=[(_,_),(_,_),(_,_),(_,_),(_,_)]) rfl,S56⟩
      case h=>
       rintro a70 X70 ⟨h70,S70⟩
       refine ae (aa ?_);refine aB (h70.ev rfl) (fun hc2=>?_) (fun hc2=>?_)
       ·
        have hz:oy l[j].e=false:=by unfold oy;exact(Bool.not_eq_false' _).mpr hc2
        have hz2:(l.all fun x=>oy x.e)=false:=List.all_eq_false.2 ⟨l[j],List.getElem_mem hlt,by rw[hz];decide⟩;refine ab (ah ?_);refine ma h70 rfl rfl fun _ h71=>?_;refine ae (aa (wp_ret (az (ai (ai (az (ai ?_)))))));refine bm h71 rfl rfl ?_;exact⟨by unfold AS;rw[hn,hz2];rfl,S70.below⟩
       ·
        have hz:oy l[j].e=true:=by unfold oy;exact(Bool.not_eq_true' _).mpr hc2
        refine wp_skip (aO (aa (ah ?_)));refine mv h70 rfl rfl fun _ h72=>?_;refine sv h72 (aV (h72.ev rfl) (h72.ev rfl) (by omega)) fun _ h73=>?_;refine ma h73 rfl rfl fun _ h74=>?_;refine ae (aa ?_);exact⟨j+1,(by omega),⟨hlt,fun k hk hkj=>by rcases Nat.lt_or_eq_of_le (show k≤j by omega) with q | q;exact hF0.2 k hk q;subst q;exact hz⟩,h74.re ⟨rfl,rfl,trivial⟩,S70.sub (.cons _ .slnil)⟩
    ·
     have hge:l.length≤j:=by have:=of_decide_eq_false hc1;omega
     refine wp_exit ?_;refine av ?_;refine av ?_;refine bn ?_;refine aa (ab (ah ?_));refine ma h31 rfl rfl fun _ h75=>?_;refine ae (aa (wp_ret ?_));refine bm h75 rfl rfl ?_
     have hz2:(l.all fun x=>oy x.e)=true:=List.all_eq_true.2 fun x hx=>by obtain⟨k,hk,rfl⟩:=List.getElem_of_mem hx;exact hF0.2 k hk (by omega)
     exact⟨by unfold AS;rw[hn,hz2];rfl,S27.below⟩
theorem rF (l:List Pgp) (A:Option Addr) (c:Nat) (w:World) (hr:Rd w w.heap.size A (l.flatMap ca)) (hl:l.length≤maxLen) :
 Calls Tryz.prog 28 #[.slice A l.length c] w fun e w'=>e=.returned (.bool (sf l))∧Below w.heap.size w w':=by
 refine aF (N:=30) Tryz.func28 rfl rfl rfl (fun _ h0=>?_);have S0:=St.init w;refine ab (ah ?_);refine ma h0 rfl rfl fun _ h1=>?_;refine ae (aa (ab (ab (ah ?_))));refine mv h1 rfl rfl fun _ h2=>?_;refine sv h2 (bf Tryz.underlying48 (h2.ev rfl)) fun _ h3=>?_;refine sv h3 (cD (h3.ev rfl) (h3.ev rfl)) fun _ h4=>?_;refine mv h4 rfl rfl fun _ h5=>?_;apply cq (x:=decide ((l.length:Int)≤40)) h5 S0 7 rfl 4 11
 case ht=>
  intro gc7;refine sy h5 rfl rfl rfl gc7 (ak (h5.ev rfl)) rfl rfl fun _ h6=>?_;refine sy h6 rfl rfl rfl gc7 (bf Tryz.underlying48 (h6.ev rfl)) rfl rfl fun _ h7=>?_;refine sy h7 rfl rfl rfl gc7 (gq (h7.ev rfl) (h7.ev rfl)) rfl rfl fun _ h8=>?_;refine sv h8 (aA (h8.ev rfl) gc7 (h8.ev rfl)) fun _ h9=>?_;exact ae ⟨h9.mid (m:=[(_,_),(_,_),(_,_)]) rfl,S0⟩
 case hf=>
  intro gc7;refine no h5 rfl rfl rfl gc7 rfl rfl fun _ h10=>?_;refine no h10 rfl rfl rfl gc7 rfl rfl fun _ h11=>?_;refine no h11 rfl rfl rfl gc7 rfl rfl fun _ h12=>?_;refine sv h12 (aD (h12.ev rfl) gc7 (h12.ev rfl)) fun _ h13=>?_;exact ae ⟨h13.mid (m:=[(_,_),(_,_),(_,_)]) rfl,S0⟩
 case h=>
  rintro a14 X14 ⟨h14,S14⟩
  refine mv h14 rfl rfl fun _ h15=>?_;apply dw (x:=decide ((l.length:Int)>42)) h15 S14 12 rfl 4 16
  case hf=>
   intro gc12;refine sy h15 rfl rfl rfl gc12 (ak (h15.ev rfl)) rfl rfl fun _ h16=>?_;refine sy h16 rfl rfl rfl gc12 (bf Tryz.underlying48 (h16.ev rfl)) rfl rfl fun _ h17=>?_;refine sy h17 rfl rfl rfl gc12 (cD (h17.ev rfl) (h17.ev rfl)) rfl rfl fun _ h18=>?_;refine sv h18 (aD (h18.ev rfl) gc12 (h18.ev rfl)) fun _ h19=>?_;exact ae ⟨h19.mid (m:=[(_,_),(_,_),(_,_)]) rfl,S14⟩
  case ht=>
   intro gc12;refine no h15 rfl rfl rfl gc12 rfl rfl fun _ h20=>?_;refine no h20 rfl rfl rfl gc12 rfl rfl fun _ h21=>?_;refine no h21 rfl rfl rfl gc12 rfl rfl fun _ h22=>?_;refine sv h22 (aA (h22.ev rfl) gc12 (h22.ev rfl)) fun _ h23=>?_;exact ae ⟨h23.mid (m:=[(_,_),(_,_),(_,_)]) rfl,S14⟩
  case h=>
   rintro a24 X24 ⟨h24,S24⟩
   refine ae (aa ?_);refine aB (h24.ev rfl) (fun hc0=>?_) (fun hc0=>?_)
   ·
    have hn:lg l.length 12 40=false:=by unfold lg;exact(Bool.not_eq_false' _).mpr hc0
    refine ab (ah ?_);refine ma h24 rfl rfl fun _ h25=>?_;refine ae (aa (wp_ret (ai ?_)));refine bm h25 rfl rfl ?_;exact⟨by unfold sf;rw[hn];rfl,S24.below⟩
   ·
    have hn:lg l.length 12 40=true:=by unfold lg;exact(Bool.not_eq_true' _).mpr hc0
    have hnl:=lF hn;refine wp_skip (aa (ab (ab (ah ?_))));refine ma h24 rfl rfl fun _ h26=>?_;refine ae (aa (wp_block ?_));refine bz h26 S24 [0] (fun (j:Nat)=>[(3,.int .i64 (j:Nat))]) (fun (j:Nat)=>j≤l.length∧∀k (hk:k<l.length),k<j→(!decide ((l[k].b.size:Int)>513))=true) (fun (j:Nat) L=>L) (fun (j:Nat)=>l.length-j) (0) (⟨Nat.zero_le _,fun k _ h=>absurd h (Nat.not_lt_zero _)⟩) ⟨rfl,rfl,trivial⟩ (S24) ?_;intro j _ _ hF0 h27 S27;refine ab (ab (ah ?_));refine mv h27 rfl rfl fun _ h28=>?_;refine mv h28 rfl rfl fun _ h29=>?_;refine sv h29 (bf Tryz.underlying48 (h29.ev rfl)) fun _ h30=>?_;refine sv h30 (bq (h30.ev rfl) (h30.ev rfl)) fun _ h31=>?_;refine ae (aa ?_);refine aB (h31.ev rfl) (fun hc1=>?_) (fun hc1=>?_)
    ·
     have hlt:j<l.length:=by have:=of_decide_eq_true hc1;omega
     obtain⟨b,o,rfl,hB,_⟩:=hr.opened (aR bc (by decide) (by omega));refine wp_skip (aa (ab (wp_block (ab (ah ?_)))));refine mv h31 rfl rfl fun _ h32=>?_;refine mv h32 rfl rfl fun _ h33=>?_;refine sv h33 (aC (i:=j) (sz:=3) Tryz.underlying48 (by kernel_rfl) (h33.ev rfl) (h33.ev rfl) (by omega) (by omega) rfl) fun _ h34=>?_;refine sv h34 (aj (off:=2) (by kernel_rfl) (h34.ev rfl) rfl) fun _ h35=>?_;refine sv h35 (aw (by kernel_rfl) (h35.ev rfl) ((a7 bc (S27.rd0 hr) hlt) 2 _ rfl)) fun _ h36=>?_;refine sv h36 (ft Tryz.underlying9 (h36.ev rfl)) fun _ h37=>?_;refine sv h37 (cD (h37.ev rfl) (h37.ev rfl)) fun _ h38=>?_;refine ae (aa ?_);refine aB (h38.ev rfl) (fun hc2=>?_) (fun hc2=>?_)
     ·
      have hz2:(l.all fun x=>!decide ((x.b.size:Int)>513))=false:=List.all_eq_false.2 ⟨l[j],List.getElem_mem hlt,by rw[show decide ((l[j].b.size:Int)>513)=true from hc2];decide⟩;refine ab (ah ?_);refine ma h38 rfl rfl fun _ h39=>?_;refine ae (aa (wp_ret (az (ai (ai (az (ai ?_)))))));refine bm h39 rfl rfl ?_;exact⟨by unfold sf;rw[hn,hz2];rfl,S27.below⟩
     ·
      refine wp_skip (aO (aa (ah ?_)));refine mv h38 rfl rfl fun _ h40=>?_;refine sv h40 (aV (h40.ev rfl) (h40.ev rfl) (by omega)) fun _ h41=>?_;refine ma h41 rfl rfl fun _ h42=>?_;refine ae (aa ?_);exact⟨j+1,(by omega),⟨hlt,fun k hk hkj=>by rcases Nat.lt_or_eq_of_le (show k≤j by omega) with q | q;exact hF0.2 k hk q;subst q;exact(Bool.not_eq_true' _).mpr hc2⟩,h42.re ⟨rfl,rfl,trivial⟩,S27⟩
    ·
     have hge:l.length≤j:=by have:=of_decide_eq_false hc1;omega
     refine wp_exit ?_;refine av ?_;refine av ?_;refine bn ?_;refine aa (ab (ah ?_));refine ma h31 rfl rfl fun _ h43=>?_;refine ae (aa (wp_ret ?_));refine bm h43 rfl rfl ?_
     have hz2:(l.all fun x=>!decide ((x.b.size:Int)>513))=true:=List.all_eq_true.2 fun x hx=>by obtain⟨k,hk,rfl⟩:=List.getElem_of_mem hx;exact hF0.2 k hk (by omega)
     exact⟨by unfold sf;rw[hn,hz2];rfl,S27.below⟩
end Go.Proofs.YtcfdpfmchchkaaaGreatDoor
