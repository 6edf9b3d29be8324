/-
  Chapter 22: pages by their numbers; the error of pages.
  Chapter 21: redoing an operation; the numbers of pages.
  Chapter 22: pages redone.
-/
import Derived.Test.YtcfdpfmchchkaaaGreatDoorRcF
namespace Go.Proofs.YtcfdpfmchchkaaaGreatDoor
set_option linter.unusedVariables false
set_option linter.unusedSimpArgs false
set_option maxRecDepth 4000
open Go.RowKit Go.Sort Go.Shelf
theorem pL (x:Pgp) (n:Int) (w:World):Calls Tryz.prog 148 #[oI x,.int .i64 n] w fun e w'=>e=.returned (.int .i64 (IntKind.i64.wrap (x.g-n)))∧Below w.heap.size w w':=by
 refine aF (N:=9) Tryz.func148 rfl rfl rfl (fun _ Y=>?_);have Z:=St.init w;refine ab (ah ?_);refine nb Y rfl rfl Z fun b2 _ _ gb2 Y Z=>?_;refine ma Y rfl rfl fun _ Y=>?_;refine cm ?_;refine vf Y 0 0 rfl rfl rfl fun _ Y=>?_;refine vl Y Z 0 rfl rfl rfl rfl fun _ Y=>?_;refine mv Y rfl rfl fun _ Y=>?_;refine sv Y (yw (Y.ev rfl) (Y.ev rfl)) fun _ Y=>?_;refine ma Y rfl rfl fun _ Y=>?_;refine ae (aa (wp_ret ?_));refine bm Y rfl rfl ?_;exact⟨rfl,Z.below⟩
theorem AK {x n:Int} (hx:0≤x∧x≤600) (hn:I6 n):(IntKind.i64.wrap (x-n)=0↔x=n)∧(0≤n∧n≤600→IntKind.i64.wrap (x-n)=x-n):=by
 unfold I6 at hn;rw[IntKind.wrap_i64]
 constructor
 · omega
 · intro h;omega
def zB (l:List Pgp) (n:Int) (i:Nat):Bool:=match l[i]? with | some x=>IntKind.i64.wrap (x.g-n)==0 | none=>false
theorem yK (l:List Pgp) (hs:cu Pgp.g l) (hk:∀x∈l,0≤x.g∧x.g≤600) (A:Option Addr) (c:Nat) (n:Int) (hn:I6 n) (w:World) (hr:Rd w w.heap.size A (l.flatMap ca)) (hlen:l.length≤1000) :
 Calls Tryz.prog 147 #[.slice A l.length c,.int .i64 n,.func (.func 148) #[] #[]] w fun e w'=>∃i:Nat,e=.returned (.tuple #[.int .i64 i,.bool (jB Pgp.g l n)])∧(jB Pgp.g l n=true→i=iu Pgp.g l n)∧Below w.heap.size w w':=by
 have hp:=List.pairwise_iff_getElem.1 hs;refine aF (N:=49) Tryz.func147 rfl rfl rfl (fun _ h0=>?_);have S0:=St.init w;refine ab (ah ?_);refine ma h0 rfl rfl fun _ h1=>?_;refine ma h1 rfl rfl fun _ h2=>?_;refine cm ?_;refine mv h2 rfl rfl fun _ h3=>?_;refine sv h3 (bf Tryz.underlying151 (h3.ev rfl)) fun _ h4=>?_;refine ma h4 rfl rfl fun _ h5=>?_;refine cm ?_;refine mv h5 rfl rfl fun _ h6=>?_;refine ma h6 rfl rfl fun _ h7=>?_;refine ma h7 rfl rfl fun _ h8=>?_;refine ae (aa (ab (wp_block ?_)));refine bz h8 S0 [8,7,6,0,1,2] (fun (q:Nat × Nat)=>[(9,.int .i64 (q.1:Nat)),(10,.int .i64 (q.2:Nat))]) (fun (q:Nat × Nat)=>q.1≤q.2∧q.2≤l.length∧(0≤n∧n≤600→(∀k (hk:k<l.length),k<q.1→l[k].g<n)∧(∀k (hk:k<l.length),q.2≤k→n≤l[k].g))) (fun (q:Nat × Nat) L=>L) (fun (q:Nat × Nat)=>q.2-q.1) ((0,l.length)) (⟨Nat.zero_le _,Nat.le_refl _,fun _=>⟨fun k _ h=>absurd h (Nat.not_lt_zero _),fun k hk h=>by omega⟩⟩) ⟨rfl,rfl,rfl,rfl,rfl,rfl,rfl,rfl,trivial⟩ (S0) ?_;intro q _ _ hF0 h9 S9;refine ab (ab (ah ?_));refine mv h9 rfl rfl fun _ h10=>?_;refine mv h10 rfl rfl fun _ h11=>?_;refine sv h11 (bq (h11.ev rfl) (h11.ev rfl)) fun _ h12=>?_;refine ae (aa ?_);refine aB (h12.ev rfl) (fun hc0=>?_) (fun hc0=>?_)
 ·
  have hlt:q.1<q.2:=by have:=of_decide_eq_true hc0;omega
  have hq2:=hF0.2.1;obtain⟨b,o,rfl,hB,_⟩:=hr.opened (aR bc (by decide) (by omega))
  have hm:(q.1+q.2) / 2<l.length:=by omega
  have hkm:=hk _ (List.getElem_mem hm);obtain⟨hw1,hw2⟩:=AK hkm hn;refine wp_skip (aa (wp_block (ab (ah ?_))));refine mv h12 rfl rfl fun _ h13=>?_;refine mv h13 rfl rfl fun _ h14=>?_;refine sv h14 (aV (h14.ev rfl) (h14.ev rfl) (by omega)) fun _ h15=>?_;refine sv h15 (cn (by kernel_rfl) Tryz.underlying215 (h15.ev rfl) (wrap_u64 (by omega))) fun _ h16=>?_;refine sv h16 (mn (n:=1) (h16.ev rfl) (h16.ev rfl) rfl (by omega)) fun _ h17=>?_;refine sv h17 (bb (v':=.int .i64 (((q.1+q.2) / 2:Nat):Int)) (congrArg _ (by omega)) (cn (by kernel_rfl) Tryz.underlying3 (h17.ev rfl) (eb (by omega)))) fun _ h18=>?_;refine ma h18 rfl rfl fun _ h19=>?_;refine cm ?_;refine mv h19 rfl rfl fun _ h20=>?_;refine mv h20 rfl rfl fun _ h21=>?_;refine mv h21 rfl rfl fun _ h22=>?_;refine sv h22 (aC (i:=(q.1+q.2) / 2) (sz:=3) Tryz.underlying151 (by kernel_rfl) (h22.ev rfl) (h22.ev rfl) (by omega) (by omega) rfl) fun _ h23=>?_;refine sv (v:=oI l[(q.1+q.2) / 2]) h23 (ay (by kernel_rfl) (by kernel_rfl) (h23.ev rfl) (a7 bc (S9.rd0 hr) hm)) fun _ h24=>?_;refine mv h24 rfl rfl fun _ h25=>?_;refine aS h25 (wn rfl) (dx (fun _ _=>by kernel_rfl) (h25.ev rfl) (h25.evs rfl) rfl) rfl rfl S9 (pL _ _ _) fun _ _ h26 S26=>?_;refine sv h26 (bq (h26.ev rfl) (h26.ev rfl)) fun _ h27=>?_;refine ae (aa ?_);refine aB (h27.ev rfl) (fun hc1=>?_) (fun hc1=>?_)
  ·
   have hx:0≤n∧n≤600→l[(q.1+q.2) / 2].g<n:=fun h6=>by have:=of_decide_eq_true hc1;rw[hw2 h6] at this;omega
   have hlo:0≤n∧n≤600→∀k (hk:k<l.length),k≤(q.1+q.2) / 2→l[k].g<n:=fun h6 k hk hki=>by
    have hx:=hx h6;rcases Nat.lt_or_eq_of_le hki with h | h
    · have:=hp k _ hk hm h;omega
    · subst h;exact hx
   refine ah ?_;refine mv h27 rfl rfl fun _ h28=>?_;refine sv h28 (aV (h28.ev rfl) (h28.ev rfl) (by omega)) fun _ h29=>?_;refine ma h29 rfl rfl fun _ h30=>?_;refine ae (aO (aa ?_));exact⟨((q.1+q.2) / 2+1,q.2),(by show q.2-((q.1+q.2) / 2+1)<q.2-q.1;omega),⟨by show(q.1+q.2) / 2+1≤q.2;omega,hF0.2.1,fun h6=>⟨fun k hk hki=>hlo h6 k hk (by have:k<(q.1+q.2) / 2+1:=hki;omega),(hF0.2.2 h6).2⟩⟩,h30.re ⟨rfl,rfl,rfl,rfl,rfl,rfl,rfl,rfl,trivial⟩,S26⟩
  ·
   have hx:0≤n∧n≤600→n≤l[(q.1+q.2) / 2].g:=fun h6=>by have:=of_decide_eq_false hc1;rw[hw2 h6] at this;omega
   have hhi:0≤n∧n≤600→∀k (hk:k<l.length),(q.1+q.2) / 2≤k→n≤l[k].g:=fun h6 k hk hki=>by
    have hx:=hx h6;rcases Nat.lt_or_eq_of_le hki with h | h
    · have:=hp _ k hm hk h;omega
    · subst h;exact hx
   refine ah ?_;refine mv h27 rfl rfl fun _ h31=>?_;refine ma h31 rfl rfl fun _ h32=>?_;refine ae (aO (aa ?_));exact⟨(q.1,(q.1+q.2) / 2),(by show(q.1+q.2) / 2-q.1<q.2-q.1;omega),⟨by show q.1≤(q.1+q.2) / 2;omega,by show(q.1+q.2) / 2≤l.length;omega,fun h6=>⟨(hF0.2.2 h6).1,fun k hk hki=>hhi h6 k hk hki⟩⟩,h32.re ⟨rfl,rfl,rfl,rfl,rfl,rfl,rfl,rfl,trivial⟩,S26⟩
 ·
  have hge:q.1=q.2:=by have:=of_decide_eq_false hc0;have:=hF0.1;omega
  refine wp_exit ?_;refine av ?_;refine av ?_;refine bn ?_;refine aa (ab (ah ?_));refine mv h12 rfl rfl fun _ h33=>?_;refine mv h33 rfl rfl fun _ h34=>?_;refine mv h34 rfl rfl fun _ h35=>?_;refine sv h35 (bq (h35.ev rfl) (h35.ev rfl)) fun _ h36=>?_;refine mv h36 rfl rfl fun _ h37=>?_;apply cq (x:=zB l n q.1) h37 S9 39 rfl 9 48
  case ht=>
   intro gc39
   have hlt1:q.1<l.length:=by have:=of_decide_eq_true gc39;omega
   obtain⟨b,o,rfl,hB,_⟩:=hr.opened (aR bc (by decide) (by omega));refine sy h37 rfl rfl rfl gc39 (ak (h37.ev rfl)) rfl rfl fun _ h38=>?_;refine sy h38 rfl rfl rfl gc39 (ak (h38.ev rfl)) rfl rfl fun _ h39=>?_;refine sy h39 rfl rfl rfl gc39 (ak (h39.ev rfl)) rfl rfl fun _ h40=>?_;refine sy h40 rfl rfl rfl gc39 (aC (i:=q.1) (sz:=3) Tryz.underlying151 (by kernel_rfl) (h40.ev rfl) (h40.ev rfl) (by omega) (by omega) rfl) rfl rfl fun _ h41=>?_;refine aU (v:=oI l[q.1]) h41 (ag h41 _ rfl rfl rfl gc39) (ay (by kernel_rfl) (by kernel_rfl) (h41.ev rfl) (a7 bc (S9.rd0 hr) hlt1)) rfl rfl fun _ h42=>?_;refine sy h42 rfl rfl rfl gc39 (ak (h42.ev rfl)) rfl rfl fun _ h43=>?_;refine aS h43 (ag h43 _ rfl rfl rfl gc39) (dx (fun _ _=>by kernel_rfl) (h43.ev rfl) (h43.evs rfl) rfl) rfl rfl S9 (pL _ _ _) fun _ _ h44 S44=>?_;refine sy h44 rfl rfl rfl gc39 (bb (v':=.bool (zB l n q.1)) (congrArg Value.bool (by unfold zB;rw[List.getElem?_eq_getElem hlt1])) (aX (h44.ev rfl) (h44.ev rfl))) rfl rfl fun _ h45=>?_;refine sv h45 (aA (h45.ev rfl) gc39 (h45.ev rfl)) fun _ h46=>?_;exact ae ⟨h46.mid (m:=[(_,_),(_,_),(_,_),(_,_),(_,_),(_,_),(_,_),(_,_)]) rfl,S44⟩
  case hf=>
   intro gc39;refine no h37 rfl rfl rfl gc39 rfl rfl fun _ h47=>?_;refine no h47 rfl rfl rfl gc39 rfl rfl fun _ h48=>?_;refine no h48 rfl rfl rfl gc39 rfl rfl fun _ h49=>?_;refine no h49 rfl rfl rfl gc39 rfl rfl fun _ h50=>?_;refine no h50 rfl rfl rfl gc39 rfl rfl fun _ h51=>?_;refine no h51 rfl rfl rfl gc39 rfl rfl fun _ h52=>?_;refine no h52 rfl rfl rfl gc39 rfl rfl fun _ h53=>?_;refine no h53 rfl rfl rfl gc39 rfl rfl fun _ h54=>?_;refine sv h54 (aD (h54.ev rfl) gc39 (h54.ev rfl)) fun _ h55=>?_;exact ae ⟨h55.mid (m:=[(_,_),(_,_),(_,_),(_,_),(_,_),(_,_),(_,_),(_,_)]) rfl,S9⟩
  case h=>
   rintro a56 X56 ⟨h56,S56⟩
   refine ma h56 rfl rfl fun _ h57=>?_;refine ma h57 rfl rfl fun _ h58=>?_;refine ae (aa (wp_ret ?_));refine eh h58 rfl rfl rfl ?_
   have e:(decide ((q.1:Int)<(l.length:Int))&&zB l n q.1)=jB Pgp.g l n∧(jB Pgp.g l n=true→q.1=iu Pgp.g l n):=by
    by_cases h6:0≤n∧n≤600
    · obtain⟨f1,f2⟩:=hF0.2.2 h6
      obtain⟨hb1,hb2⟩:=tD hs (n:=n) (i:=q.1) (by have:=hF0.2.1;omega) f1 (fun hk=>f2 q.1 hk (by omega));refine⟨?_,fun _=>hb1.symm⟩;unfold jB;rw[hb2];by_cases h:q.1<l.length
      · rw[decide_eq_true (by omega),dif_pos h,Bool.true_and]
        unfold zB;rw[List.getElem?_eq_getElem h];have hw1:=(AK (hk _ (List.getElem_mem h)) hn).1;by_cases he:l[q.1].g=n
        · rw[if_pos he];simp only[];rw[hw1.2 he];rfl
        · rw[if_neg he];simp only[];rw[beq_eq_false_iff_ne.2 (fun e=>he (hw1.1 e))];rfl
      · rw[dif_neg h,decide_eq_false (by omega)];rfl
    · have hb:jB Pgp.g l n=false:=by
       unfold jB;rw[dB l n (fun x hx he=>h6 (by rw[←he];exact hk x hx))];rfl
      refine⟨?_,fun h=>by rw[hb] at h;cases h⟩;rw[hb];unfold zB;by_cases h:q.1<l.length
      · rw[List.getElem?_eq_getElem h]
        have hw1:=(AK (hk _ (List.getElem_mem h)) hn).1;simp only[];rw[beq_eq_false_iff_ne.2 (fun e=>h6 (by rw[←hw1.1 e];exact hk _ (List.getElem_mem h)))];simp
      · rw[List.getElem?_eq_none (by omega)];simp
   exact⟨q.1,by rw[←e.1],e.2,S56.below⟩
def mG (A:Option Addr) (l:List Pgp) (n:Int):Option Addr:=if jB Pgp.g l n=true then A.map (fun a=>⟨a.block,a.off+iu Pgp.g l n*3,none⟩) else none
theorem sj (l:List Pgp) (hs:cu Pgp.g l) (hk:∀x∈l,0≤x.g∧x.g≤600) (A:Option Addr) (c:Nat) (n:Int) (hn:I6 n) (w:World) (hr:Rd w w.heap.size A (l.flatMap ca)) (hlen:l.length≤1000) :
 Calls Tryz.prog 95 #[.slice A l.length c,.int .i64 n] w fun e w'=>e=.returned (.pointer (mG A l n))∧Below w.heap.size w w':=by
 refine aF (N:=18) Tryz.func95 rfl rfl rfl (fun _ Y=>?_);have Z:=St.init w;refine ab (ah ?_);refine ma Y rfl rfl fun _ Y=>?_;refine cm ?_;refine mv Y rfl rfl fun _ Y=>?_;refine mv Y rfl rfl fun _ Y=>?_;refine AO Y (wn rfl) (aq (fun _ _=>by kernel_rfl) (Y.evs rfl) rfl) rfl rfl Z (yK l hs hk A c n hn _ (Z.rd0 hr) hlen) fun p10 _ _ Y hF10 Z=>?_;refine mv Y rfl rfl fun _ Y=>?_;refine vx Y rfl rfl rfl fun _ Y=>?_;refine vx Y rfl rfl rfl fun _ Y=>?_;refine ma Y rfl rfl fun _ Y=>?_;refine ma Y rfl rfl fun _ Y=>?_;refine ae (aa (ab (ab (ah ?_))));refine mv Y rfl rfl fun _ Y=>?_;refine sv Y (bL (Y.ev rfl)) fun _ Y=>?_;refine ae (aa ?_);refine aB (Y.ev rfl) (fun hc0=>?_) (fun hc0=>?_)
 ·
  have hb:jB Pgp.g l n=false:=by simpa using hc0
  refine ab (ah ?_);refine ma Y rfl rfl fun _ Y=>?_;refine ae (aa (wp_ret (ai ?_)));refine bm Y rfl rfl ?_;exact⟨by unfold mG;rw[hb];rfl,Z.below⟩
 ·
  have hb:jB Pgp.g l n=true:=by simpa using hc0
  have hi:=hF10 hb;obtain⟨hkk,_,_⟩:=iS hs hb;rw[hi] at Y;obtain⟨b,o,rfl,hB,_⟩:=hr.opened (aR bc (by decide) (by omega));refine wp_skip (aa (ab (ah ?_)));refine mv Y rfl rfl fun _ Y=>?_;refine mv Y rfl rfl fun _ Y=>?_;refine sv Y (aC (i:=iu Pgp.g l n) (sz:=3) Tryz.underlying151 (by kernel_rfl) (Y.ev rfl) (Y.ev rfl) (by omega) (by omega) rfl) fun _ Y=>?_;refine ma Y rfl rfl fun _ Y=>?_;refine ae (aa (wp_ret ?_));refine bm Y rfl rfl ?_;exact⟨by unfold mG;rw[if_pos hb];rfl,Z.below⟩
theorem mF {l:List Pgp} (hs:cu Pgp.g l) {A:Option Addr} {n:Int} {w:World} {B:Nat} (hr:Rd w B A (l.flatMap ca)) (h:(mG A l n).isNone=false):∃b o,A=some ⟨b,o,none⟩∧∃hk:iu Pgp.g l n<l.length,l[iu Pgp.g l n].g=n∧gT l n=some l[iu Pgp.g l n]∧mG A l n=some ⟨b,o+iu Pgp.g l n*3,none⟩:=by
 have hb:jB Pgp.g l n=true:=by
  unfold mG at h
  split at h
  · assumption
  · cases h
 obtain⟨hk,h1,h2⟩:=iS hs hb;obtain⟨b,o,rfl,_⟩:=hr.opened (aR bc (by decide) (by omega));exact⟨b,o,rfl,hk,h1,h2,by unfold mG;rw[if_pos hb];rfl⟩
theorem xF {l:List Pgp} {A:Option Addr} {n:Int} {w:World} {B:Nat} (hr:Rd w B A (l.flatMap ca)) (h:(mG A l n).isNone=true):gT l n=none:=by
 rcases Nat.eq_zero_or_pos l.length with h0 | h0
 · rw[List.eq_nil_of_length_eq_zero h0];rfl
 · obtain⟨b,o,rfl,_⟩:=hr.opened (aR bc (by decide) h0)
   unfold mG at h
   split at h
   · cases h
   · rename_i hb
     unfold jB at hb
     rwa [Bool.not_eq_true,Option.isSome_eq_false_iff,Option.isNone_iff_eq_none] at hb
def vq (l:List Pgp) (i:Nat):Bool:=match cB l i with
 | none=>true
 | some y=>match l[i]? with | none=>true | some x=>decide (y.g<x.g)
theorem u4 (p:List Pgp) (A:Option Addr) (c i b:Nat) (T:TypeId) (w:World) (hbx:Box w b #[.slice A p.length c] T) (hr:Rd w w.heap.size A (p.flatMap ca)) (hi:i<p.length) (hl:p.length≤100) :
 Calls Tryz.prog 201 #[.int .i64 i,oI p[i],.pointer (some ⟨b,0,none⟩)] w fun e w'=>e=.returned (.int .i64 (iq (cB p i) p[i]))∧Below w.heap.size w w':=by
 obtain⟨b',o',rfl,_⟩:=hr.opened (aR bc (by decide) (by omega));refine aF (N:=32) Tryz.func201 rfl rfl rfl (fun _ h0=>?_);have Y:=St.init w;refine ab (ah ?_);refine nb h0 rfl rfl Y fun b4 _ _ gb4 h1 Y=>?_;refine ma h1 rfl rfl fun _ h2=>?_;refine ae (aa (ab ?_));apply bA h2 [false,false,false,false,false,false,false,false,false,false,false,false,false,false,false,false,false,false,false,false,false,false,false] _ (by kernel_rfl)
 case h=>
  refine qv h2 (fun X hX=>aj (off:=0) (j:=0) (by kernel_rfl) (h2.ev rfl) rfl) fun _ h3=>?_;refine qv h3 (fun X hX=>aw (by kernel_rfl) (h3.ev rfl) ((Y.grow hX).cell (i:=0) rfl rfl)) fun _ h4=>?_;refine dn h4 (wn rfl) rfl rfl (fun X=>(aq (fun _ _=>by kernel_rfl) (h4.evs rfl) rfl)) (fun X hX=>bX _ _ _ _) fun _ h5=>?_;refine dn h5 (wn rfl) rfl rfl (fun X=>(aq (fun _ _=>by kernel_rfl) (h5.evs rfl) rfl)) (fun X hX=>a6 _ _ _) fun _ h6=>?_;refine qv h6 (fun X hX=>ak (h6.ev rfl)) fun _ h7=>?_;refine qv h7 (fun X hX=>aX (h7.ev rfl) (h7.ev rfl)) fun _ h8=>?_;refine qv h8 (fun X hX=>ak (h8.ev rfl)) fun _ h9=>?_;apply jg (x:=vq p i) h9 12 rfl 11 23
  case hf=>
   intro gc12
   have hi0:i≠0:=by simp only[beq_eq_false_iff_ne] at gc12;omega
   have hi1:i-1<p.length:=by omega
   have hbf:cB p i=some p[i-1]:=by unfold cB;rw[if_neg hi0,List.getElem?_eq_getElem hi1]
   refine ax h9 (ag h9 _ rfl rfl rfl gc12) rfl rfl (fun X hX=>(aw (by kernel_rfl) (h9.ev rfl) (Box.cells (hbx.below (Y.grow hX).below) 0))) fun _ h10=>?_;refine ax h10 (ag h10 _ rfl rfl rfl gc12) rfl rfl (fun X hX=>(ak (h10.ev rfl))) fun _ h11=>?_;refine ax h11 (ag h11 _ rfl rfl rfl gc12) rfl rfl (fun X hX=>(fH (h11.ev rfl) (h11.ev rfl) (by omega))) fun _ h12=>?_;refine ax h12 (ag h12 _ rfl rfl rfl gc12) rfl rfl (fun X hX=>(pF (by kernel_rfl) (h12.ev rfl) (h12.ev rfl))) fun _ h13=>?_;refine ax h13 (ag h13 _ rfl rfl rfl gc12) rfl rfl (fun X hX=>(aC (i:=i-1) (sz:=3) Tryz.underlying151 (by kernel_rfl) (h13.ev rfl) (h13.ev rfl) (by omega) (by omega) rfl)) fun _ h14=>?_;refine ax h14 (ag h14 _ rfl rfl rfl gc12) rfl rfl (fun X hX=>(aj (off:=0) (by kernel_rfl) (h14.ev rfl) rfl)) fun _ h15=>?_;refine ax h15 (ag h15 _ rfl rfl rfl gc12) rfl rfl (fun X hX=>(aw (by kernel_rfl) (h15.ev rfl) ((a7 bc ((Y.grow hX).rd0 hr) hi1) 0 _ rfl))) fun _ h16=>?_;refine ax h16 (ag h16 _ rfl rfl rfl gc12) rfl rfl (fun X hX=>(aj (off:=0) (j:=0) (by kernel_rfl) (h16.ev rfl) rfl)) fun _ h17=>?_;refine ax h17 (ag h17 _ rfl rfl rfl gc12) rfl rfl (fun X hX=>(aw (by kernel_rfl) (h17.ev rfl) ((Y.grow hX).cell (i:=0) rfl rfl))) fun _ h18=>?_;refine ax h18 (ag h18 _ rfl rfl rfl gc12) rfl rfl (fun X hX=>(bb (v':=.bool (vq p i)) (congrArg Value.bool (by unfold vq;rw[hbf,List.getElem?_eq_getElem hi])) (bq (h18.ev rfl) (h18.ev rfl)))) fun _ h19=>?_;refine qv h19 (fun X hX=>aD (h19.ev rfl) gc12 (h19.ev rfl)) fun _ h20=>?_;exact aI (h20.mid (m:=[(_,_),(_,_),(_,_),(_,_),(_,_),(_,_),(_,_),(_,_),(_,_),(_,_)]) rfl)
  case ht=>
   intro gc12;refine qo h9 rfl rfl rfl gc12 rfl rfl fun _ h21=>?_;refine qo h21 rfl rfl rfl gc12 rfl rfl fun _ h22=>?_;refine qo h22 rfl rfl rfl gc12 rfl rfl fun _ h23=>?_;refine qo h23 rfl rfl rfl gc12 rfl rfl fun _ h24=>?_;refine qo h24 rfl rfl rfl gc12 rfl rfl fun _ h25=>?_;refine qo h25 rfl rfl rfl gc12 rfl rfl fun _ h26=>?_;refine qo h26 rfl rfl rfl gc12 rfl rfl fun _ h27=>?_;refine qo h27 rfl rfl rfl gc12 rfl rfl fun _ h28=>?_;refine qo h28 rfl rfl rfl gc12 rfl rfl fun _ h29=>?_;refine qo h29 rfl rfl rfl gc12 rfl rfl fun _ h30=>?_;refine qv h30 (fun X hX=>aA (h30.ev rfl) gc12 (h30.ev rfl)) fun _ h31=>?_;exact aI (h31.mid (m:=[(_,_),(_,_),(_,_),(_,_),(_,_),(_,_),(_,_),(_,_),(_,_),(_,_)]) rfl)
  case h=>
   intro _ h32;refine dn h32 (wn rfl) rfl rfl (fun X=>(aq (fun _ _=>by kernel_rfl) (h32.evs rfl) rfl)) (fun X hX=>a6 _ _ _) fun _ h33=>?_;refine qv h33 (fun X hX=>aj (off:=2) (j:=2) (by kernel_rfl) (h33.ev rfl) rfl) fun _ h34=>?_;refine qv h34 (fun X hX=>aw (by kernel_rfl) (h34.ev rfl) ((Y.grow hX).cell (i:=0) rfl rfl)) fun _ h35=>?_;refine qv h35 (fun X hX=>ft Tryz.underlying9 (h35.ev rfl)) fun _ h36=>?_;refine qv h36 (fun X hX=>aX (h36.ev rfl) (h36.ev rfl)) fun _ h37=>?_;refine aI ?_;refine bF fun _ hX38 hΦ38=>?_;have Y:=Y.grow hX38;refine bD h37 (wn rfl) (aq (fun _ _=>by kernel_rfl) (h37.evs rfl) rfl) rfl rfl (a6 _ _ _) fun _ h39=>?_;refine dr h39 (wn rfl) (f:=fun b=>.slice (some ⟨b,0,none⟩) 3 3) (cj Tryz.underlying214 (by kernel_rfl) (by kernel_rfl) (h39.evs2 rfl) rfl rfl rfl (by decide) (by decide)) rfl rfl Y fun b30 _ _ gb30 h40 Y=>?_;refine bD h40 (wn rfl) (aq (fun _ _=>by kernel_rfl) (h40.evs rfl) rfl) rfl rfl (fk (Y.at_ (i:=0) rfl)) fun _ h41=>?_;refine ma h41 rfl rfl fun _ h42=>?_;refine ae (aa (wp_ret ?_));refine bm h42 rfl rfl ?_;refine⟨?_,Y.below⟩
   have e:((i:Int)==0||vq p i)=vq p i:=by
    rcases Nat.eq_zero_or_pos i with h0 | h0
    · subst h0;rfl
    · rw[show((i:Int)==0)=false by rw[beq_eq_false_iff_ne];omega];rfl
   rw[e]
   have e2:((p[i].b.size:Int)==512)=(p[i].b.size==512):=by rw[Bool.eq_iff_iff,beq_iff_eq,beq_iff_eq];omega
   rw[e2];unfold iq vq;rw[List.getElem?_eq_getElem hi]
   cases cB p i<;>rfl
 case hB=>kernel_rfl
 case hst=>rfl
theorem uF (p:List Pgp) (hs:cu Pgp.g p) (hk:∀x∈p,0≤x.g∧x.g≤600) (A:Option Addr) (c k b:Nat) (T:TypeId) (x:Rcd) (hx:I6 x.e.g) (w:World) (hbx:Box w b #[.slice A p.length c] T) (hr:Rd w w.heap.size A (p.flatMap ca)) (hl:p.length≤100) :
 Calls Tryz.prog 202 #[.int .i64 k,fS x,.pointer (some ⟨b,0,none⟩)] w fun e w'=>e=.returned (.int .i64 (eL p x))∧Below w.heap.size w w':=by
 refine aF (N:=27) Tryz.func202 rfl rfl rfl (fun _ h0=>?_);have Y:=St.init w;refine ab (ah ?_);refine nb h0 rfl rfl Y fun b4 _ _ gb4 h1 Y=>?_;refine ma h1 rfl rfl fun _ h2=>?_;refine ae (aa (ab (ab (ah ?_))));refine vf h2 1 1 rfl rfl rfl fun _ h3=>?_;refine sv (v:=dz x.e) h3 (ay (by kernel_rfl) (by kernel_rfl) (h3.ev rfl) (Y.cellsOf (i:=0) rfl 1 13)) fun _ h4=>?_;refine aS h4 (wn rfl) (aq (fun _ _=>by kernel_rfl) (h4.evs rfl) rfl) rfl rfl Y (fO _ _) fun _ _ h5 Y=>?_;refine sv h5 (bL (h5.ev rfl)) fun _ h6=>?_;refine ae (aa ?_);refine aB (h6.ev rfl) (fun hc0=>?_) (fun hc0=>?_)
 ·
  have h1:cd x.e=false:=by simpa using hc0
  refine ab (ah ?_);refine ma h6 rfl rfl fun _ h7=>?_;refine ae (aa (wp_ret (ai ?_)));refine bm h7 rfl rfl ?_;exact⟨by unfold eL;rw[h1];rfl,Y.below⟩
 ·
  have h1:cd x.e=true:=by simpa using hc0
  refine wp_skip (aa (ab (ah ?_)));refine sv h6 (aw (by kernel_rfl) (h6.ev rfl) (Box.cells (hbx.below Y.below) 0)) fun _ h8=>?_;refine vf h8 1 1 rfl rfl rfl fun _ h9=>?_;refine vf h9 4 5 rfl rfl rfl fun _ h10=>?_;refine vl h10 Y 0 rfl rfl rfl rfl fun _ h11=>?_;refine aS h11 (wn rfl) (aq (fun _ _=>by kernel_rfl) (h11.evs rfl) rfl) rfl rfl Y (sj p hs hk A c x.e.g hx _ (Y.rd0 hr) (by omega)) fun _ _ h12 Y=>?_;refine ma h12 rfl rfl fun _ h13=>?_;refine ae (aa (ab (ab (ah ?_))));refine mv h13 rfl rfl fun _ h14=>?_;refine sv h14 (lG Tryz.underlying168 (by kernel_rfl) (h14.ev rfl) (h14.ev rfl)) fun _ h15=>?_;refine ae (aa ?_);refine aB (h15.ev rfl) (fun hc1=>?_) (fun hc1=>?_)
  ·
   have hn:=xF hr hc1;refine ab (ah ?_);refine ma h15 rfl rfl fun _ h16=>?_;refine ae (aa (wp_ret (ai ?_)));refine bm h16 rfl rfl ?_;exact⟨by unfold eL;rw[if_pos h1,hn],Y.below⟩
  ·
   obtain⟨b',o',rfl,qk,q1,q2,q3⟩:=mF hs hr hc1;refine wp_skip (aa (ab ?_));apply bA h15 [false,false,false,false,false,false,false] _ (by kernel_rfl)
   case h=>
    refine qv h15 (fun X hX=>bb (v':=.pointer (some ⟨b',o'+iu Pgp.g p x.e.g*3,none⟩)) (congrArg Value.pointer q3) (ak (h15.ev rfl))) fun _ h17=>?_;refine qv h17 (fun X hX=>bo (h17.ev rfl)) fun _ h18=>?_;refine qv h18 (fun X hX=>aj (off:=1) (by kernel_rfl) (h18.ev rfl) rfl) fun _ h19=>?_;refine qv h19 (fun X hX=>aw (by kernel_rfl) (h19.ev rfl) ((a7 bc ((Y.grow hX).rd0 hr) qk) 1 _ rfl)) fun _ h20=>?_;refine qv h20 (fun X hX=>aj (off:=1) (j:=1) (by kernel_rfl) (h20.ev rfl) rfl) fun _ h21=>?_;refine qv h21 (fun X hX=>aj (off:=5) (j:=6) (by kernel_rfl) (h21.ev rfl) rfl) fun _ h22=>?_;refine qv h22 (fun X hX=>aw (by kernel_rfl) (h22.ev rfl) ((Y.grow hX).cell (i:=0) rfl rfl)) fun _ h23=>?_;refine aI ?_;refine bF fun _ hX24 hΦ24=>?_;have Y:=Y.grow hX24;refine sv h23 (sU Tryz.underlying4 (h23.ev rfl) (h23.ev rfl)) fun _ h25=>?_;refine bD h25 (wn rfl) (aq (fun _ _=>by kernel_rfl) (h25.evs rfl) rfl) rfl rfl (a6 _ _ _) fun _ h26=>?_;refine ma h26 rfl rfl fun _ h27=>?_;refine ae (aa (wp_ret ?_));refine bm h27 rfl rfl ?_;exact⟨by unfold eL;rw[if_pos h1,q2],Y.below⟩
   case hB=>kernel_rfl
   case hst=>rfl
theorem yJ (p:List Pgp) (l:List Rcd) (A:Option Addr) (c:Nat) (B:Option Addr) (d:Nat) (w:World) (hr:Rd w w.heap.size A (p.flatMap ca)) (hq:Rd w w.heap.size B (l.flatMap cg)) (hl:l.length≤1000) (hx:∀x∈l,I6 x.e.g) :
 Calls Tryz.prog 133 #[.slice A p.length c,.slice B l.length d] w fun e w'=>e=.returned (.int .i64 (fK l p))∧Below w.heap.size w w':=by
 refine aF (N:=26) Tryz.func133 rfl rfl rfl (fun _ Y=>?_);have Z:=St.init w;refine ab (ah ?_);refine nb Y rfl rfl Z fun b2 _ _ gb2 Y Z=>?_;refine ma Y rfl rfl fun _ Y=>?_;refine ae (aa (ab (ab (ah ?_))));refine vl Y Z 0 rfl rfl rfl rfl fun _ Y=>?_;refine sv Y (bf Tryz.underlying151 (Y.ev rfl)) fun _ Y=>?_;refine sv Y (cD (Y.ev rfl) (Y.ev rfl)) fun _ Y=>?_;refine ae (aa ?_);refine aB (Y.ev rfl) (fun hc0=>?_) (fun hc0=>?_)
 ·
  have r0:40<p.length:=by have:=of_decide_eq_true hc0;omega
  have e0:gN p=8:=by unfold gN;rw[if_pos r0]
  refine ab (ah ?_);refine ma Y rfl rfl fun _ Y=>?_;refine ae (aa (wp_ret (ai ?_)));refine bm Y rfl rfl ?_;exact⟨by unfold fK;rw[if_pos (by rw[e0];decide),e0];(try rfl),Z.below⟩
 ·
  have r0:¬40<p.length:=by have:=of_decide_eq_false hc0;omega
  have e0:gN p=(nV p).2:=by unfold gN;rw[if_neg r0]
  refine wp_skip (aa (ab (ah ?_)));refine vl Y Z 0 rfl rfl rfl rfl fun _ Y=>?_;refine sv Y (gi (Y.evs rfl) (Y.evs rfl)) fun _ Y=>?_;refine aS Y (wn rfl) (aq (fun _ _=>by kernel_rfl) (Y.evs rfl) rfl) rfl rfl Z (rj (fun i x=>iq (cB p i) x) p A c 201 [.pointer (some ⟨b2,0,none⟩)] _ (Z.rd0 hr) (by omega) (fun _ _=>by kernel_rfl) (fun X hX k hk _=>u4 p A c k b2 _ X (Box.below (Z.at_ (i:=0) rfl) hX) ((Z.rd0 hr).below' hX) hk (by omega))) fun _ _ Y Z=>?_;refine mv Y rfl rfl fun _ Y=>?_;refine vx Y rfl rfl rfl fun _ Y=>?_;refine vx Y rfl rfl rfl fun _ Y=>?_;refine ma Y rfl rfl fun _ Y=>?_;refine ma Y rfl rfl fun _ Y=>?_;refine ae (aa (ab (ab (ah ?_))));refine mv Y rfl rfl fun _ Y=>?_;refine sv Y (a8 (Y.ev rfl) (Y.ev rfl)) fun _ Y=>?_;refine ae (aa ?_);refine aB (Y.ev rfl) (fun hc1=>?_) (fun hc1=>?_)
  ·
   have r1:gN p≠0:=by rw[e0];unfold nV;simpa using hc1
   refine ab (ah ?_);refine mv Y rfl rfl fun _ Y=>?_;refine ma Y rfl rfl fun _ Y=>?_;refine ae (aa (wp_ret (ai ?_)));refine bm Y rfl rfl ?_;exact⟨by unfold fK;rw[if_pos r1,e0];(try rfl),Z.below⟩
  ·
   have r1:gN p=0:=by rw[e0];unfold nV;simpa using hc1
   have hok:=pgsE1_zero.1 r1
   have hkk:∀x∈p,0≤x.g∧x.g≤600:=fun x hx=>by
    obtain⟨k,hk,rfl⟩:=List.getElem_of_mem hx;exact(hok.all k hk).g
   refine wp_skip (aa (ab (ah ?_)));refine mv Y rfl rfl fun _ Y=>?_;refine sv Y (gi (Y.evs rfl) (Y.evs rfl)) fun _ Y=>?_;refine aS Y (wn rfl) (aq (fun _ _=>by kernel_rfl) (Y.evs rfl) rfl) rfl rfl Z (qB (fun _ x=>eL p x) l B d 202 [.pointer (some ⟨b2,0,none⟩)] _ (Z.rd0 hq) hl (fun _ _=>by kernel_rfl) (fun X hX k hk _=>uF p hok.srt hkk A c k b2 _ l[k] (hx _ (List.getElem_mem hk)) X (Box.below (Z.at_ (i:=0) rfl) hX) ((Z.rd0 hr).below' hX) (by omega))) fun _ _ Y Z=>?_;refine mv Y rfl rfl fun _ Y=>?_;refine vx Y rfl rfl rfl fun _ Y=>?_;refine vx Y rfl rfl rfl fun _ Y=>?_;refine ma Y rfl rfl fun _ Y=>?_;refine cm ?_;refine mv Y rfl rfl fun _ Y=>?_;refine ma Y rfl rfl fun _ Y=>?_;refine ae (aa (wp_ret ?_));refine bm Y rfl rfl ?_;exact⟨by unfold fK;rw[if_neg (fun h=>h r1)];(try rfl),Z.below⟩
theorem iH (p:List Pgp) (l:List Rcd) (A:Option Addr) (c:Nat) (B:Option Addr) (d:Nat) (w:World) (hr:Rd w w.heap.size A (p.flatMap ca)) (hq:Rd w w.heap.size B (l.flatMap cg)) (hl:l.length≤1000) (hx:∀x∈l,I6 x.e.g) :
 Calls Tryz.prog 81 #[.slice B l.length d,.slice A p.length c] w fun e w'=>e=.returned (.int .i64 (fK l p))∧Below w.heap.size w w':=by
 refine aF (N:=8) Tryz.func81 rfl rfl rfl (fun _ Y=>?_);have Z:=St.init w;refine ab (ah ?_);refine ma Y rfl rfl fun _ Y=>?_;refine cm ?_;refine mv Y rfl rfl fun _ Y=>?_;refine mv Y rfl rfl fun _ Y=>?_;refine aS Y (wn rfl) (aq (fun _ _=>by kernel_rfl) (Y.evs rfl) rfl) rfl rfl Z (yJ p l A c B d _ (Z.rd0 hr) (Z.rd0 hq) hl hx) fun _ _ Y Z=>?_;refine ma Y rfl rfl fun _ Y=>?_;refine ae (aa (wp_ret ?_));refine bm Y rfl rfl ?_;exact⟨rfl,Z.below⟩
open Go.RowKit Go.Sort
theorem first2_z {a b:Int}:aP [a,b]=0↔a=0∧b=0:=by
 simp only[aP]
 by_cases h:a=0<;>by_cases h':b=0<;>simp[h,h']
theorem kn {k:IntKind} {a b:ByteArray} {c d:Bool} {e f:Int} (h:a=b) (h':c=d) (h'':e=f):Ending.returned (.tuple #[.string a,.bool c,.int k e])=.returned (.tuple #[.string b,.bool d,.int k f]):=by rw[h,h',h'']
theorem yd {p:ByteArray} {plain:Bool} {n:Int} {x:Op} {er:Int} (h:aP [cy p,p4 n,dq x]=er) (h0:er≠0):iJ p plain n x=(⟨#[]⟩,false,er):=by
 unfold iJ
 have e:aP [cy p,mx n,dq x]=er:=h;rw[e,if_pos h0]
set_option maxRecDepth 100000 in
set_option maxHeartbeats 2000000 in
theorem sM (p:ByteArray) (plain:Bool) (n:Int) (x:Op) (w:World) (hp:p.size≤maxLen) (ho:x.o.size≤3100) (hn:x.n.size≤3100) :
 Calls Tryz.prog 134 #[.string p,.bool plain,.int .i64 n,eQ x] w fun r w'=>r=.returned (.tuple #[.string (iJ p plain n x).1,.bool (iJ p plain n x).2.1,.int .i64 (iJ p plain n x).2.2])∧Below w.heap.size w w':=by
 have hE:=fun W=>cp x W ho hn;have HP:=Lib.hid (fun W=>fX p W hp);have HN:=Lib.hid (fun W=>mT n W);by_cases h0:aP [cy p,p4 n,dq x]=0
 · have hz:=(bw _).1 h0
   have z1:cy p=0:=hz _ (by simp);have z2:p4 n=0:=hz _ (by simp);have z3:dq x=0:=hz _ (by simp);have hps:=pageE_zero.1 z1;have hok:=(eG x).1 z3;have hin:bE n 1 2147483647=true:=(bC (by decide)).1 z2;have hin':=inB_true.1 hin;have hval:=wZ (plain:=plain) hps hin z3;have hA:=fun W=>nK p x W hps hok;have hL:=fun W=>uq p W hps;have hWL:=fun W=>kR (eF p x) n W (gI hps hok) (by omega) (by omega)
   have h1:(aP [cy p,p4 n,dq x] != 0)=false:=by rw[h0];rfl
   obtain⟨q,hq⟩:∃q,q=eF p x:=⟨_,rfl⟩;obtain⟨f,hf⟩:∃f,f=dc p x:=⟨_,rfl⟩;obtain⟨m,hm⟩:∃m,m=yr p:=⟨_,rfl⟩;have hm':Ap p=m:=hm.symm;have hwl:rP q n=zN q n:=rfl;rw[hm',←hq,←hf,hwl] at hval;rw[←hq,←hf] at hA;rw[←hm] at hL;rw[←hq] at hWL;rw[hval];obtain⟨e1,he1⟩:∃e,e=cy p:=⟨_,rfl⟩;obtain⟨e2,he2⟩:∃e,e=p4 n:=⟨_,rfl⟩;obtain⟨e3,he3⟩:∃e,e=dq x:=⟨_,rfl⟩;have hP:=HP.out;have hN:=HN.out;rw[←he1] at hP h1;rw[←he2] at hN h1;rw[←he3] at hE h1;have HE:=Lib.hid hE;have HP:=Lib.hid hP;have HN:=Lib.hid hN;have HA:=Lib.hid hA;have HL:=Lib.hid hL;have HWL:=Lib.hid hWL;clear hE hP hN hA hL hWL h0 hz z1 z2 z3 hps hok hin hin' hval hq hf hm hm' hwl he1 he2 he3;unfold eQ at *
   cases plain
   · by_cases hle:n≤m
     · go_enter Tryz.func134,Tryz.ntmps134
       go_wp2_with fail
       (refine bh 6 (by kernel_rfl) (by kernel_rfl) ?_;simp only[List.take_succ_cons,List.take_zero,List.drop_succ_cons,List.drop_zero];(repeat (go_big_quiet_step ((first | (go_at_call 150;exact Calls.reg_pure (HP.out _)) | (go_at_call 203;exact Calls.reg_pure (HN.out _)) | (go_at_call 144;(with_reducible exact Calls.regrown_of (HE.out _)))))));(with_reducible refine wpQuiet_nil ?_);intro W1 hreg;have hbW1:=aH hreg;clear hreg;obtain⟨hcW1,hfW1⟩:=aK hbW1)
       have hsW1:w.heap.size<W1.heap.size:=by have h:=hbW1.size;simp at h;omega
       go_wp2_with (first | (go_at_call 143;refine(aZ [_,_,_] W1 (by simp)).mono ?_;rintro e w' ⟨rfl,rfl⟩) | (go_at_call 204;(with_reducible refine(HL.out _).mono ?_);rintro e W2 ⟨rfl,hbW2⟩;obtain⟨hcW2,hfW2⟩:=aK hbW2))
       go_ret3
       exact⟨kn rfl rfl rfl,by(repeat (first | assumption | exact Below.refl _ _ | refine au ?_ _ | refine ao ?_ _ | refine ar ?_ (by assumption) | refine Below.trans ?_ (by assumption)))⟩
     · cases f
       all_goals
        go_enter Tryz.func134,Tryz.ntmps134
        go_wp2_with fail
        (refine bh 6 (by kernel_rfl) (by kernel_rfl) ?_;simp only[List.take_succ_cons,List.take_zero,List.drop_succ_cons,List.drop_zero];(repeat (go_big_quiet_step ((first | (go_at_call 150;exact Calls.reg_pure (HP.out _)) | (go_at_call 203;exact Calls.reg_pure (HN.out _)) | (go_at_call 144;(with_reducible exact Calls.regrown_of (HE.out _)))))));(with_reducible refine wpQuiet_nil ?_);intro W1 hreg;have hbW1:=aH hreg;clear hreg;obtain⟨hcW1,hfW1⟩:=aK hbW1)
        have hsW1:w.heap.size<W1.heap.size:=by have h:=hbW1.size;simp at h;omega
        go_wp2_with (first | (go_at_call 143;refine(aZ [_,_,_] W1 (by simp)).mono ?_;rintro e w' ⟨rfl,rfl⟩) | ((go_at_call 204;(with_reducible refine(HL.out _).mono ?_);rintro e W2 ⟨rfl,hbW2⟩;obtain⟨hcW2,hfW2⟩:=aK hbW2);have hsW2:w.heap.size<W2.heap.size:=(by have h:=hbW2.size;(try simp at h);omega)) | (go_at_call 205;(with_reducible refine(HA.out _).mono ?_);rintro e W3 ⟨rfl,hbW3⟩;obtain⟨hcW3,hfW3⟩:=aK hbW3) | (go_at_call 153;(with_reducible refine(HWL.out _).mono ?_);rintro e W4 ⟨rfl,hbW4⟩;obtain⟨hcW4,hfW4⟩:=aK hbW4))
        go_ret3
        exact⟨kn rfl rfl rfl,by(repeat (first | assumption | exact Below.refl _ _ | refine au ?_ _ | refine ao ?_ _ | refine ar ?_ (by assumption) | refine Below.trans ?_ (by assumption)))⟩
   · obtain⟨d,hd⟩:∃d,d=(!(bl q==bl p)):=⟨_,rfl⟩
     rw[←hd,if_pos rfl];have HD:=Lib.hid hd;clear hd;by_cases hk:x.k=2∨x.k=3
     · rw[if_pos hk]
       cases hk2:(x.k==2)
       · have hk3:(x.k==3)=true:=by
          rcases hk with h | h
          · rw[h] at hk2;cases hk2
          · rw[h];rfl
         clear hk
         go_enter Tryz.func134,Tryz.ntmps134
         go_wp2_with fail
         (refine bh 6 (by kernel_rfl) (by kernel_rfl) ?_;simp only[List.take_succ_cons,List.take_zero,List.drop_succ_cons,List.drop_zero];(repeat (go_big_quiet_step ((first | (go_at_call 150;exact Calls.reg_pure (HP.out _)) | (go_at_call 203;exact Calls.reg_pure (HN.out _)) | (go_at_call 144;(with_reducible exact Calls.regrown_of (HE.out _)))))));(with_reducible refine wpQuiet_nil ?_);intro W1 hreg;have hbW1:=aH hreg;clear hreg;obtain⟨hcW1,hfW1⟩:=aK hbW1)
         have hsW1:w.heap.size<W1.heap.size:=by have h:=hbW1.size;simp at h;omega
         go_wp2_with (first | (go_at_call 143;refine(aZ [_,_,_] W1 (by simp)).mono ?_;rintro e w' ⟨rfl,rfl⟩) | (go_at_call 205;(with_reducible refine(HA.out _).mono ?_);rintro e W3 ⟨rfl,hbW3⟩;obtain⟨hcW3,hfW3⟩:=aK hbW3))
         go_ret3
         exact⟨kn rfl rfl rfl,by(repeat (first | assumption | exact Below.refl _ _ | refine au ?_ _ | refine ao ?_ _ | refine ar ?_ (by assumption) | refine Below.trans ?_ (by assumption)))⟩
       · clear hk
         go_enter Tryz.func134,Tryz.ntmps134
         go_wp2_with fail
         (refine bh 6 (by kernel_rfl) (by kernel_rfl) ?_;simp only[List.take_succ_cons,List.take_zero,List.drop_succ_cons,List.drop_zero];(repeat (go_big_quiet_step ((first | (go_at_call 150;exact Calls.reg_pure (HP.out _)) | (go_at_call 203;exact Calls.reg_pure (HN.out _)) | (go_at_call 144;(with_reducible exact Calls.regrown_of (HE.out _)))))));(with_reducible refine wpQuiet_nil ?_);intro W1 hreg;have hbW1:=aH hreg;clear hreg;obtain⟨hcW1,hfW1⟩:=aK hbW1)
         have hsW1:w.heap.size<W1.heap.size:=by have h:=hbW1.size;simp at h;omega
         go_wp2_with (first | (go_at_call 143;refine(aZ [_,_,_] W1 (by simp)).mono ?_;rintro e w' ⟨rfl,rfl⟩) | (go_at_call 205;(with_reducible refine(HA.out _).mono ?_);rintro e W3 ⟨rfl,hbW3⟩;obtain⟨hcW3,hfW3⟩:=aK hbW3))
         go_ret3
         exact⟨kn rfl rfl rfl,by(repeat (first | assumption | exact Below.refl _ _ | refine au ?_ _ | refine ao ?_ _ | refine ar ?_ (by assumption) | refine Below.trans ?_ (by assumption)))⟩
     · rw[if_neg hk]
       have hk2:(x.k==2)=false:=by rw[beq_eq_false_iff_ne];exact fun h=>hk (.inl h)
       have hk3:(x.k==3)=false:=by rw[beq_eq_false_iff_ne];exact fun h=>hk (.inr h)
       clear hk
       go_enter Tryz.func134,Tryz.ntmps134
       go_wp2_with fail
       (refine bh 6 (by kernel_rfl) (by kernel_rfl) ?_;simp only[List.take_succ_cons,List.take_zero,List.drop_succ_cons,List.drop_zero];(repeat (go_big_quiet_step ((first | (go_at_call 150;exact Calls.reg_pure (HP.out _)) | (go_at_call 203;exact Calls.reg_pure (HN.out _)) | (go_at_call 144;(with_reducible exact Calls.regrown_of (HE.out _)))))));(with_reducible refine wpQuiet_nil ?_);intro W1 hreg;have hbW1:=aH hreg;clear hreg;obtain⟨hcW1,hfW1⟩:=aK hbW1)
       have hsW1:w.heap.size<W1.heap.size:=by have h:=hbW1.size;simp at h;omega
       go_wp2_with (first | (go_at_call 143;refine(aZ [_,_,_] W1 (by simp)).mono ?_;rintro e w' ⟨rfl,rfl⟩) | (go_at_call 205;(with_reducible refine(HA.out _).mono ?_);rintro e W3 ⟨rfl,hbW3⟩;obtain⟨hcW3,hfW3⟩:=aK hbW3))
       go_ret3
       exact⟨kn rfl (by rw[HD.out,←toList_eq,←toList_eq]) rfl,by(repeat (first | assumption | exact Below.refl _ _ | refine au ?_ _ | refine ao ?_ _ | refine ar ?_ (by assumption) | refine Below.trans ?_ (by assumption)))⟩
 · obtain⟨er,her⟩:∃e,aP [cy p,p4 n,dq x]=e:=⟨_,rfl⟩
   have hne:er≠0:=fun h=>h0 (her.trans h);rw[yd her hne];obtain⟨e1,he1⟩:∃e,e=cy p:=⟨_,rfl⟩;obtain⟨e2,he2⟩:∃e,e=p4 n:=⟨_,rfl⟩;obtain⟨e3,he3⟩:∃e,e=dq x:=⟨_,rfl⟩;have hP:=HP.out;have hN:=HN.out;rw[←he1] at hP her;rw[←he2] at hN her;rw[←he3] at hE her
   have h1:(aP [e1,e2,e3] != 0)=true:=by rw[her];simp[hne]
   have HE:=Lib.hid hE;have HP:=Lib.hid hP;have HN:=Lib.hid hN;have HER:=Lib.hid her;clear hE hP hN h0 her hne he1 he2 he3;unfold eQ at *
   go_enter Tryz.func134,Tryz.ntmps134
   go_wp2_with fail
   (refine bh 6 (by kernel_rfl) (by kernel_rfl) ?_;simp only[List.take_succ_cons,List.take_zero,List.drop_succ_cons,List.drop_zero];(repeat (go_big_quiet_step ((first | (go_at_call 150;exact Calls.reg_pure (HP.out _)) | (go_at_call 203;exact Calls.reg_pure (HN.out _)) | (go_at_call 144;(with_reducible exact Calls.regrown_of (HE.out _)))))));(with_reducible refine wpQuiet_nil ?_);intro W1 hreg;have hbW1:=aH hreg;clear hreg;obtain⟨hcW1,hfW1⟩:=aK hbW1)
   go_wp2_with (first | (go_at_call 143;refine(aZ [_,_,_] W1 (by simp)).mono ?_;rintro e w' ⟨rfl,rfl⟩))
   go_ret3
   exact⟨kn rfl rfl HER.out,by(repeat (first | assumption | exact Below.refl _ _ | refine au ?_ _ | refine ao ?_ _ | refine ar ?_ (by assumption) | refine Below.trans ?_ (by assumption)))⟩
def Aw (p:ByteArray) (n:Int):Int:=aP [cy p,bO (bE n 0 2147483647) 2]
theorem pN (p:ByteArray) (n:Int) (w:World) (hp:p.size≤maxLen) :
 Calls Tryz.prog 97 #[.string p,.int .i64 n] w fun r w'=>r=.returned (.tuple #[.string (if Aw p n=0 then zN p n else ⟨#[]⟩),.int .i64 (Aw p n)])∧Below w.heap.size w w':=by
 have HP:=Lib.hid (fun W=>fX p W hp);by_cases z1:Aw p n=0
 · have hz:=first2_z.1 z1
   have hin:=inB_true.1 ((bC (by decide)).1 hz.2);have hL:=fun W=>kR p n W (pageE_zero.1 hz.1) (by omega) (by omega);rw[z1,if_pos rfl]
   have Y:(aP [cy p,bO (bE n 0 2147483647) 2] != 0)=false:=by
    have:aP [cy p,bO (bE n 0 2147483647) 2]=0:=z1;rw[this];rfl
   have HL:=Lib.hid hL;clear hz hin z1 hL
   go_enter Tryz.func97,Tryz.ntmps97
   go_wp2_with (first | (go_at_call 150;(with_reducible refine(HP.out _).mono ?_);rintro e w' ⟨rfl,rfl⟩) | (go_at_call 152;refine(aM _ _ _ _).mono ?_;rintro e w' ⟨rfl,rfl⟩) | (go_at_call 151;refine(aN _ _ _).mono ?_;rintro e w' ⟨rfl,rfl⟩) | (go_at_call 143;refine(aZ [_,_] w (by simp)).mono ?_;rintro e w' ⟨rfl,rfl⟩) | (go_at_call 153;(with_reducible refine(HL.out _).mono ?_);rintro e W1 ⟨rfl,hbW1⟩;obtain⟨hcW1,hfW1⟩:=aK hbW1))
   go_ret2
   exact⟨rfl,by(repeat (first | assumption | exact Below.refl _ _ | refine au ?_ _ | refine ao ?_ _ | refine ar ?_ (by assumption) | refine Below.trans ?_ (by assumption)))⟩
 · rw[if_neg z1]
   have Y:(aP [cy p,bO (bE n 0 2147483647) 2] != 0)=true:=by
    rw[bne_iff_ne];exact z1
   clear z1
   go_enter Tryz.func97,Tryz.ntmps97
   go_wp2_with (first | (go_at_call 150;(with_reducible refine(HP.out _).mono ?_);rintro e w' ⟨rfl,rfl⟩) | (go_at_call 152;refine(aM _ _ _ _).mono ?_;rintro e w' ⟨rfl,rfl⟩) | (go_at_call 151;refine(aN _ _ _).mono ?_;rintro e w' ⟨rfl,rfl⟩) | (go_at_call 143;refine(aZ [_,_] w (by simp)).mono ?_;rintro e w' ⟨rfl,rfl⟩))
   go_ret2
   exact⟨rfl,by(repeat (first | assumption | exact Below.refl _ _ | refine au ?_ _ | refine ao ?_ _ | refine ar ?_ (by assumption) | refine Below.trans ?_ (by assumption)))⟩
set_option maxRecDepth 4000
open Go.RowKit Go.Sort Go.Shelf
theorem mh (l:List Pgp):(l.flatMap ca).length=l.length*3:=by rw[iF bc,Nat.mul_comm]
theorem vY (l:List Pgp):∀u∈l.flatMap ca,u.oneCell'=true:=fun u hu=>by
 obtain⟨x,_,hx⟩:=List.mem_flatMap.1 hu;exact rl x u hx
theorem rz (A:Option Addr) (c:Nat) (w:World) :
 Calls Tryz.prog 82 #[.slice A 0 c] w fun e w'=>∃A',e=.returned (.slice A' 0 0)∧w'.ownsRow w.heap.size 111 3 (.slice A' 0 0) 0 []∧Below w.heap.size w w':=by
 refine aF (N:=8) Tryz.func82 rfl rfl rfl (fun _ Y=>?_);have Z:=St.init w;refine ab (ah ?_);refine ma Y rfl rfl fun _ Y=>?_;refine ae (aa (ab (ab (ah ?_))));refine mv Y rfl rfl fun _ Y=>?_;refine sv Y (tJ Tryz.underlying48 (by kernel_rfl) (Y.ev rfl) (Y.ev rfl)) fun _ Y=>?_;refine ae (aa ?_);refine aB (Y.ev rfl) (fun hc0=>?_) (fun hc0=>?_)
 ·
  refine ab (ah ?_);refine ma Y rfl rfl fun _ Y=>?_;refine ae (aa (wp_ret (ai ?_)));refine bm Y rfl rfl ?_;exact⟨none,rfl,World.ownsRow_nil _ _ _ _,Z.below⟩
 ·
  refine wp_skip (aa (ab (ah ?_)));refine ez (zc:=[.int .i64 0,.bool false,.string ⟨#[]⟩]) (sz:=3) Y (wn rfl) ⟨rfl,rfl⟩ rfl Tryz.underlying48 (by kernel_rfl) (by kernel_rfl) rfl rfl rfl (Y.evs2 rfl) rfl rfl rfl Z fun b5 _ _ gb5 Y Z=>?_;refine mv Y rfl rfl fun _ Y=>?_;refine sB (sz:=3) Y (wn rfl) ⟨rfl,rfl⟩ rfl Tryz.underlying48 (by kernel_rfl) (Y.ev rfl) (Y.ev rfl) fun _ Y=>?_;refine ma Y rfl rfl fun _ Y=>?_;refine ae (aa (wp_ret ?_));refine bm Y rfl rfl ?_;have Z:=Z.toRow (i:=0) (n:=0) (sz:=3) rfl rfl (by decide);exact⟨_,rfl,Z.ownB (i:=0) rfl,Z.below⟩
theorem mc (l:List Pgp) (A:Option Addr) (c:Nat) (w:World) (hr:Rd w w.heap.size A (l.flatMap ca)) (hlen:l.length≤1000) :
 Calls Tryz.prog 82 #[.slice A l.length c] w fun e w'=>∃A' c',e=.returned (.slice A' l.length c')∧w'.ownsRow w.heap.size 111 3 (.slice A' l.length c') l.length (l.flatMap ca)∧Below w.heap.size w w':=by
 rcases Nat.eq_zero_or_pos l.length with h0 | h0
 · have hnil:l=[]:=List.eq_nil_of_length_eq_zero h0
   subst hnil;exact(rz A c w).mono fun e w' ⟨A',he,ho,hb⟩=>⟨A',0,he,ho,hb⟩
 refine aF (N:=8) Tryz.func82 rfl rfl rfl (fun _ h0=>?_);have Y:=St.init w;refine ab (ah ?_);refine ma h0 rfl rfl fun _ h1=>?_;refine ae (aa (ab (ab (ah ?_))));refine mv h1 rfl rfl fun _ h2=>?_;refine sv h2 (tJ Tryz.underlying48 (by kernel_rfl) (h2.ev rfl) (h2.ev rfl)) fun _ h3=>?_;refine ae (aa ?_);refine aB (h3.ev rfl) (fun hc0=>?_) (fun hc0=>?_)
 ·
  exfalso
  obtain⟨b,o,rfl,_⟩:=hr.opened (by rw[mh];omega)
  cases hc0
 ·
  refine wp_skip (aa (ab (ah ?_)));refine ez (zc:=[.int .i64 0,.bool false,.string ⟨#[]⟩]) (sz:=3) h3 (wn rfl) ⟨rfl,rfl⟩ rfl Tryz.underlying48 (by kernel_rfl) (by kernel_rfl) rfl rfl rfl (h3.evs2 rfl) rfl rfl rfl Y fun b5 _ _ gb5 h4 Y=>?_;refine mv h4 rfl rfl fun _ h5=>?_;have Y:=Y.toRow (i:=0) (n:=0) (sz:=3) rfl rfl (by decide);refine cv (z:=.agg #[.int .i64 0,.bool false,.string ⟨#[]⟩]) (sz:=3) (bytes:=32) h5 (wn rfl) ⟨rfl,rfl⟩ rfl Tryz.underlying48 (by kernel_rfl) rfl rfl (h5.ev rfl) (h5.ev rfl) Y (i:=0) rfl (Y.rd0 hr) (mh l) (vY l) ⟨(by omega),by decide⟩ fun A7 c7 _ _ h7 Y=>?_;refine ma h7 rfl rfl fun _ h8=>?_;refine ae (aa (wp_ret ?_));refine bm h8 rfl rfl ?_;have q:=Y.ownB (i:=0) rfl;rw[Nat.zero_add] at q;exact⟨_,_,by rw[Nat.zero_add],q,Y.below⟩
theorem St.rdBase {M:List Nat} {w X:World} {L:List Ent} {B:Nat} (h:St M w X L) (hM:∀b∈M,B≤b) (hB:B≤w.heap.size) {A:Option Addr} {xs:List Value} (hr:Rd w B A xs):Rd X B A xs:=fun j u hj=>by
 obtain⟨b,o,h1,h2,h3⟩:=hr j u hj;exact⟨b,o,h1,h2,(World.cell?_of_block (w:=w) (a:=⟨b,o+j,none⟩) (h.block b (by omega) (fun hm=>by have:=hM b hm;omega))).trans h3⟩
theorem tT {q:ByteArray} {f:Bool} {n:Int} {x:Op} (hq:q.size=512) (h:(iJ q f n x).2.2=0):(iJ q f n x).1.size=512:=by
 unfold iJ at h ⊢
 split at h
 · rename_i h1;exact absurd h h1
 · rename_i h1
   rw[if_neg h1]
   have hz:aP [cy q,mx n,dq x]=0:=by simpa using h1
   rw[bw] at hz;have ho:=(eG x).1 (hz _ (.tail _ (.tail _ (.head _))))
   split at h
   · rename_i h2
     rw[if_pos h2]
     split at h
     · cases h
     · rename_i h3;rw[if_neg h3];exact gI hq ho
   · rename_i h2
     rw[if_neg h2]
     split at h
     · rename_i h3;rw[if_pos h3];exact hq
     · rename_i h3
       rw[if_neg h3]
       split at h
       · rename_i h4;rw[if_pos h4];exact kq (gI hq ho)
       · cases h
theorem wT (t:Tbl) (x:Rcd):((!cd x.e||!(dH t.ds x.e.g).isSome)||decide (x.l<((dH t.ds x.e.g).getD ⟨0,false,0⟩).l))=!sH t x:=by
 unfold sH
 cases cd x.e with
 | false=>rfl
 | true=>
  cases dH t.ds x.e.g with
  | none=>rfl
  | some d=>
   show decide (x.l<d.l)=!decide (d.l≤x.l);by_cases h:x.l<d.l
   · rw[decide_eq_true h,decide_eq_false (by omega)];rfl
   · rw[decide_eq_false h,decide_eq_true (by omega)];rfl
theorem ki {l:List Pgp} (h:cu Pgp.g l) {k:Nat} (hk:k<l.length) (s:ByteArray):(fG l l[k].g s).flatMap ca=(l.flatMap ca).take (k*3+2) ++ [.string s] ++ (l.flatMap ca).drop (k*3+2+1):=by
 rw[xZ h hk]
 have h1:l=l.take k ++ l[k]::l.drop (k+1):=by rw[←List.drop_eq_getElem_cons hk,List.take_append_drop]
 have h2:(l.set k ⟨l[k].g,l[k].f,s⟩)=l.take k ++ ⟨l[k].g,l[k].f,s⟩::l.drop (k+1):=List.set_eq_take_append_cons_drop .. |>.trans (by rw[if_pos hk])
 have h3:((l.take k).flatMap ca).length=k*3:=by rw[mh,List.length_take];omega
 have h4:l.flatMap ca=(l.take k).flatMap ca ++ ([Value.int .i64 l[k].g,.bool l[k].f] ++ (Value.string l[k].b::(l.drop (k+1)).flatMap ca)):=by
  conv=>lhs;rw[h1]
  rw[List.flatMap_append,List.flatMap_cons];rfl
 rw[h2,List.flatMap_append,List.flatMap_cons,h4]
 have e1:((l.take k).flatMap ca ++ ([Value.int .i64 l[k].g,.bool l[k].f] ++ (Value.string l[k].b::(l.drop (k+1)).flatMap ca))).take (k*3+2)=(l.take k).flatMap ca ++ [Value.int .i64 l[k].g,.bool l[k].f]:=by
  rw[List.take_append,h3,List.take_of_length_le (by omega)]
  congr 1
  rw[show k*3+2-k*3=2 by omega];rfl
 have e2:((l.take k).flatMap ca ++ ([Value.int .i64 l[k].g,.bool l[k].f] ++ (Value.string l[k].b::(l.drop (k+1)).flatMap ca))).drop (k*3+2+1)=(l.drop (k+1)).flatMap ca:=by
  rw[List.drop_append,h3,List.drop_of_length_le (by omega),List.nil_append,show k*3+2+1-k*3=3 by omega];rfl
 rw[e1,e2,List.append_assoc,List.append_assoc];rfl
theorem od {l:List Pgp} {A:Option Addr} {n:Int} {w:World} {B:Nat} (hs:cu Pgp.g l) (hr:Rd w B A (l.flatMap ca)) {y:Pgp} (h:gT l n=some y):(mG A l n).isNone=false:=by
 have hb:jB Pgp.g l n=true:=by unfold jB;rw[show ct Pgp.g l n=some y from h];rfl
 obtain⟨hk,_,_⟩:=iS hs hb;obtain⟨b,o,rfl,_⟩:=hr.opened (aR bc (by decide) (by omega));unfold mG;rw[if_pos hb];rfl
theorem pw {w:World} {base sz n c b o:Nat} {T:TypeId} {xs:List Value} (h:w.ownsRow base T sz (.slice (some ⟨b,o,none⟩) n c) n xs):o=0:=by
 rcases h.2 with ⟨h1,_⟩ | ⟨g,cap,cur,h1,_⟩
 · cases h1
 · injection h1 with h1
   injection h1 with h1;injection h1
theorem pA {p:List Pgp} {x:Rcd} (h:eL p x=0) (ho:cd x.e=true):∃q,gT p x.e.g=some q∧q.f=x.e.f:=by
 unfold eL at h;rw[if_pos ho] at h
 cases hq:gT p x.e.g with
 | none=>rw[hq] at h;cases h
 | some q=>
  rw[hq] at h;exact⟨q,rfl,by simpa using (bC (by decide)).1 h⟩
theorem iX (p:List Pgp) (g:Int) (s:ByteArray) (x:Rcd):eL (fG p g s) x=eL p x:=by
 unfold eL
 split
 · rw[xh]
   by_cases h:x.e.g=g
   · subst h
     rw[if_pos rfl]
     cases gT p x.e.g<;>rfl
   · rw[if_neg h]
 · rfl
theorem yD {t:Tbl} {x:Rcd} (h:sH t x=true):cd x.e=true:=by
 unfold sH at h;exact(Bool.and_eq_true_iff.1 h).1
structure RdoS where
 j:Nat
 p:List Pgp
 n:Int
theorem wu (t:Tbl) (TA:Option Addr) (tc:Nat) (TB:Option Addr) (td:Nat) (p:List Pgp) (A:Option Addr) (c:Nat) (l:List Rcd) (B:Option Addr) (d:Nat) (B0:Nat) (w:World) (hB0:B0≤w.heap.size)
 (ho:w.ownsRow B0 111 3 (.slice A p.length c) p.length (p.flatMap ca)) (hq:Rd w B0 B (l.flatMap cg)) (ht1:Rd w B0 TA (t.ts.flatMap cA)) (ht2:Rd w B0 TB (t.ds.flatMap da)) (hs:SrtT t) (htl:t.ts.length≤1000∧t.ds.length≤1000)
 (hp:PgsOk p) (hl:l.length≤1000) (hx:∀x∈l,FewE x.e∧I6 x.e.g) (hf:∀x∈l,eL p x=0) :
 Calls Tryz.prog 83 #[.slice A p.length c,.slice B l.length d,cR t TA tc TB td] w fun e w'=>∃p':List Pgp,e=.returned (.tuple #[.int .i64 (ir t p 0 l).2.1,.int .i64 (ir t p 0 l).2.2])∧(p'.length=p.length∧((ir t p 0 l).2.2=0→p'=(ir t p 0 l).1))∧St (Value.slice A p.length c).ownBlock.toList w w' [.row (.slice A p.length c) p.length 111 3 (p'.flatMap ca)]:=by
 have hM:∀b∈(Value.slice A p.length c).ownBlock.toList,B0≤b:=fun b hb=>(World.ownsRow.lt ho b (by simpa using hb)).1;have ho':=cw ho (Nat.zero_le _);refine aF (N:=87) Tryz.func83 rfl rfl rfl (fun _ h0=>?_);have S0:=St.initO ho';refine ab (ah ?_);refine nb h0 rfl rfl S0 fun b5 _ _ gb5 h1 S1=>?_;refine ma h1 rfl rfl fun _ h2=>?_;refine ma h2 rfl rfl fun _ h3=>?_;refine cm ?_;refine sv (v:=cR t TA tc TB td) h3 (ay (by kernel_rfl) (by kernel_rfl) (h3.ev rfl) (S1.cellsAll (i:=0) rfl)) fun _ h4=>?_;refine dp h4 (wn rfl) (aq (fun _ _=>by kernel_rfl) (h4.evs rfl) rfl) rfl rfl S1 (kW t TA tc TB td _ ((S1.rdBase hM hB0 ht1).mono (Nat.le_trans hB0 S1.size)) ((S1.rdBase hM hB0 ht2).mono (Nat.le_trans hB0 S1.size)) hs htl) fun p19 _ _ h5 S5=>?_;refine sv h5 (bo (h5.ev rfl)) fun _ h6=>?_;refine sv h6 (aj (off:=1) (by kernel_rfl) (h6.ev rfl) rfl) fun _ h7=>?_;refine sv h7 (aw (by kernel_rfl) (h7.ev rfl) (S5.cell (i:=0) (j:=1) rfl rfl)) fun _ h8=>?_;refine ma h8 rfl rfl fun _ h9=>?_;refine cm ?_;refine ma h9 rfl rfl fun _ h10=>?_;refine ae (aa (ab (ab (ah ?_))));refine mv h10 rfl rfl fun _ h11=>?_;refine sv h11 (bf Tryz.underlying180 (h11.ev rfl)) fun _ h12=>?_;refine mv h12 rfl rfl fun _ h13=>?_;refine ae (aa (wp_block ?_));refine bz h13 S5 [24,23,8,0] (fun (q:RdoS)=>[(25,.int .i64 q.j),(9,.int .i64 q.n)]) (fun (q:RdoS)=>q.j≤l.length∧ir t p 0 l=ir t q.p q.n (l.drop q.j)∧PgsOk q.p∧q.p.length=p.length∧0≤q.n∧q.n≤q.j∧(∀x∈l,eL q.p x=0)) (fun q L=>L.set 4 (.row (.slice A p.length c) p.length 111 3 (q.p.flatMap ca))) (fun (q:RdoS)=>l.length-q.j) (⟨0,p,0⟩) (⟨Nat.zero_le _,rfl,hp,rfl,Int.le_refl 0,Int.le_refl 0,hf⟩) ⟨rfl,rfl,rfl,rfl,rfl,rfl,trivial⟩ (S5) ?_;intro q _ _ hF0 h14 S14;refine ab (ah ?_);refine sv h14 (bq (h14.ev rfl) (h14.ev rfl)) fun _ h15=>?_
 refine ae (aa (ab ?_));refine aB (h15.ev rfl) (fun hc0=>?_) (fun hc0=>?_)
 ·
  have hlt:q.j<l.length:=by have:=of_decide_eq_true hc0;omega
  obtain⟨b5,o5,rfl,hB5,_⟩:=hq.opened (aR aJ (by decide) (by omega));have hdr:l.drop q.j=l[q.j]::l.drop (q.j+1):=List.drop_eq_getElem_cons hlt;obtain⟨hxe,hxg⟩:=hx _ (List.getElem_mem hlt);obtain⟨-,hun,hpo,hpl,hn0,hnj,hfo⟩:=hF0;rw[hdr,ir] at hun
  have hkk:∀x∈q.p,0≤x.g∧x.g≤600:=fun x hx=>by
   obtain⟨k,hk,rfl⟩:=List.getElem_of_mem hx;exact(hpo.all k hk).g
  refine wp_skip (aa (ab (wp_block (ab (ah ?_)))));refine sv h15 (aC (i:=q.j) (sz:=14) Tryz.underlying180 (by kernel_rfl) (h15.ev rfl) (h15.ev rfl) (by omega) (by omega) rfl) fun _ h16=>?_;refine sv (v:=fS l[q.j]) h16 (ay (by kernel_rfl) (by kernel_rfl) (h16.ev rfl) (a7 aJ (S14.rdBase hM hB0 hq) hlt)) fun _ h17=>?_;refine na (.agg #[.int .i64 0,.int .i64 0,.int .i64 0,.int .i64 0,.int .i64 0,.int .i64 0,.bool false,.int .i64 0,.int .i64 0,.int .i64 0,.int .i64 0,.string ⟨#[]⟩,.string ⟨#[]⟩,.string ⟨#[]⟩]) h17 rfl S14 fun b11 _ _ gb11 h18 S18=>?_;refine aG h18 (wn rfl) ⟨rfl,rfl⟩ (h18.ev rfl) (h18.ev rfl) rfl (by kernel_rfl) S18 (i:=0) rfl rfl rfl fun _ S19=>?_;refine cm ?_;refine mv h18 rfl rfl fun _ h20=>?_;refine vf h20 1 1 rfl rfl rfl fun _ h21=>?_;refine vf h21 4 5 rfl rfl rfl fun _ h22=>?_;refine vl h22 S19 0 rfl rfl rfl rfl fun _ h23=>?_;refine sv h23 (bb (v':=.tuple #[fR ((dH t.ds l[q.j].e.g).getD ⟨0,false,0⟩),.bool (dH t.ds l[q.j].e.g).isSome]) (by unfold mY;cases dH t.ds l[q.j].e.g<;>rfl) (lU (z:=.agg #[.int .i64 0,.bool false,.int .i64 0]) Tryz.underlying226 Tryz.underlying3 (by kernel_rfl) (h23.ev rfl) (h23.ev rfl) (S19.at_ (i:=2) rfl))) fun _ h24=>?_;refine mv h24 rfl rfl fun _ h25=>?_;refine vx h25 rfl rfl rfl fun _ h26=>?_;refine vx h26 rfl rfl rfl fun _ h27=>?_;refine na (.agg #[.int .i64 0,.bool false,.int .i64 0]) h27 rfl S19 fun b12 _ _ gb12 h28 S28=>?_;refine aG h28 (wn rfl) ⟨rfl,rfl⟩ (h28.ev rfl) (h28.ev rfl) rfl (by kernel_rfl) S28 (i:=0) rfl rfl rfl fun _ S29=>?_;refine ma h28 rfl rfl fun _ h30=>?_;refine ae (aa (ab (ab (ah ?_))));refine vf h30 1 1 rfl rfl rfl fun _ h31=>?_;refine sv (v:=dz l[q.j].e) h31 (ay (by kernel_rfl) (by kernel_rfl) (h31.ev rfl) (S29.cellsOf (i:=1) rfl 1 13)) fun _ h32=>?_;refine aS h32 (wn rfl) (aq (fun _ _=>by kernel_rfl) (h32.evs rfl) rfl) rfl rfl S29 (fO _ _) fun _ _ h33 S33=>?_
  refine sv h33 (bL (h33.ev rfl)) fun _ h34=>?_;refine mv h34 rfl rfl fun _ h35=>?_;apply dw (x:=!(dH t.ds l[q.j].e.g).isSome) h35 S33 41 rfl 3 44
  case hf=>
   intro gc41;refine sy h35 rfl rfl rfl gc41 (ak (h35.ev rfl)) rfl rfl fun _ h36=>?_;refine sy h36 rfl rfl rfl gc41 (bL (h36.ev rfl)) rfl rfl fun _ h37=>?_;refine sv h37 (aD (h37.ev rfl) gc41 (h37.ev rfl)) fun _ h38=>?_;exact ae ⟨h38.mid (m:=[(_,_),(_,_)]) rfl,S33⟩
  case ht=>
   intro gc41;refine no h35 rfl rfl rfl gc41 rfl rfl fun _ h39=>?_;refine no h39 rfl rfl rfl gc41 rfl rfl fun _ h40=>?_;refine sv h40 (aA (h40.ev rfl) gc41 (h40.ev rfl)) fun _ h41=>?_;exact ae ⟨h41.mid (m:=[(_,_),(_,_)]) rfl,S33⟩
  case h=>
   rintro a42 X42 ⟨h42,S42⟩
   refine mv h42 rfl rfl fun _ h43=>?_;apply dw (x:=decide (l[q.j].l<((dH t.ds l[q.j].e.g).getD ⟨0,false,0⟩).l)) h43 S42 45 rfl 6 51
   case hf=>
    intro gc45;refine sy h43 rfl rfl rfl gc45 (aj (off:=0) (j:=0) (by kernel_rfl) (h43.ev rfl) rfl) rfl rfl fun _ h44=>?_;refine sy h44 rfl rfl rfl gc45 (aw (by kernel_rfl) (h44.ev rfl) (S42.cell (i:=1) rfl rfl)) rfl rfl fun _ h45=>?_;refine sy h45 rfl rfl rfl gc45 (aj (off:=2) (j:=2) (by kernel_rfl) (h45.ev rfl) rfl) rfl rfl fun _ h46=>?_;refine sy h46 rfl rfl rfl gc45 (aw (by kernel_rfl) (h46.ev rfl) (S42.cell (i:=0) rfl rfl)) rfl rfl fun _ h47=>?_;refine sy h47 rfl rfl rfl gc45 (bq (h47.ev rfl) (h47.ev rfl)) rfl rfl fun _ h48=>?_;refine sv h48 (aD (h48.ev rfl) gc45 (h48.ev rfl)) fun _ h49=>?_;exact ae ⟨h49.mid (m:=[(_,_),(_,_),(_,_),(_,_),(_,_)]) rfl,S42⟩
   case ht=>
    intro gc45;refine no h43 rfl rfl rfl gc45 rfl rfl fun _ h50=>?_;refine no h50 rfl rfl rfl gc45 rfl rfl fun _ h51=>?_;refine no h51 rfl rfl rfl gc45 rfl rfl fun _ h52=>?_;refine no h52 rfl rfl rfl gc45 rfl rfl fun _ h53=>?_;refine no h53 rfl rfl rfl gc45 rfl rfl fun _ h54=>?_;refine sv h54 (aA (h54.ev rfl) gc45 (h54.ev rfl)) fun _ h55=>?_;exact ae ⟨h55.mid (m:=[(_,_),(_,_),(_,_),(_,_),(_,_)]) rfl,S42⟩
   case h=>
    rintro a56 X56 ⟨h56,S56⟩
    refine ae (aa ?_);refine aB (h56.ev rfl) (fun hc1=>?_) (fun hc1=>?_)
    ·
     have hdue:sH t l[q.j]=false:=by rw[wT] at hc1;simpa using hc1
     rw[if_neg (by rw[hdue];decide)] at hun;refine wp_exit ?_;refine av ?_;refine bn ?_;refine aa (ah ?_);refine sv h56 (aV (h56.ev rfl) (h56.ev rfl) (by omega)) fun _ h57=>?_;refine mv h57 rfl rfl fun _ h58=>?_;refine ae (aa ?_);exact⟨⟨q.j+1,q.p,q.n⟩,(by show l.length-(q.j+1)<l.length-q.j;omega),⟨hlt,hun,hpo,hpl,hn0,by show q.n≤((q.j+1:Nat):Int);omega,hfo⟩,h58.re ⟨rfl,rfl,rfl,rfl,rfl,rfl,trivial⟩,(S56.sub (.cons _ (.cons _ (.cons_cons _ (.cons_cons _ (.cons_cons _ (.cons_cons _ (.cons_cons _ .slnil))))))))⟩
    ·
     have hdue:sH t l[q.j]=true:=by rw[wT] at hc1;simpa using hc1
     rw[if_pos hdue] at hun;obtain⟨qq,hqq,hqf⟩:=pA (hfo _ (List.getElem_mem hlt)) (yD hdue);refine wp_skip (aa (ab (ah ?_)));refine mv h56 rfl rfl fun _ h59=>?_;refine vf h59 1 1 rfl rfl rfl fun _ h60=>?_;refine vf h60 4 5 rfl rfl rfl fun _ h61=>?_;refine vl h61 S56 1 rfl rfl rfl rfl fun _ h62=>?_;refine aS h62 (wn rfl) (aq (fun _ _=>by kernel_rfl) (h62.evs rfl) rfl) rfl rfl S56 (hpl▸sj q.p hpo.srt hkk A c l[q.j].e.g hxg _ (S56.rdOf (i:=6) rfl) (by have:=hpo.n;omega)) fun _ _ h63 S63=>?_;refine ma h63 rfl rfl fun _ h64=>?_;obtain⟨b',o',rfl,qk,q1,q2,q3⟩:=mF hpo.srt (S63.rdOf (i:=6) rfl) (od hpo.srt (S63.rdOf (i:=6) rfl) hqq);obtain rfl:o'=0:=pw ho';rw[Nat.zero_add] at q3;generalize iu Pgp.g q.p l[q.j].e.g=k at qk q1 q2 q3
     have hq9:qq=q.p[k]:=by rw[q2] at hqq;injection hqq with e;exact e.symm
     subst hq9;rw[q2] at hun;simp only[] at hun;have h512:=(hpo.all k qk).b;refine ae (aa (ab ?_));apply bA h64 [false,false,false,false,false,false,false,false,false,false,false,false,false,false,false,false,false,false,false,false] _ (by kernel_rfl)
     case h=>
      refine qv h64 (fun X hX=>bb (v':=.pointer (some ⟨b',k*3,none⟩)) (congrArg Value.pointer q3) (ak (h64.ev rfl))) fun _ h65=>?_;refine qv h65 (fun X hX=>bo (h65.ev rfl)) fun _ h66=>?_;refine qv h66 (fun X hX=>aj (off:=2) (by kernel_rfl) (h66.ev rfl) rfl) fun _ h67=>?_;refine qv h67 (fun X hX=>aw (by kernel_rfl) (h67.ev rfl) (by have:=(a7 bc ((S63.grow hX).rdOf (i:=6) rfl) qk) 2 _ rfl;rw[Nat.zero_add] at this;exact this)) fun _ h68=>?_;refine qv h68 (fun X hX=>bb (v':=.pointer (some ⟨b',k*3,none⟩)) (congrArg Value.pointer q3) (ak (h68.ev rfl))) fun _ h69=>?_;refine qv h69 (fun X hX=>bo (h69.ev rfl)) fun _ h70=>?_;refine qv h70 (fun X hX=>aj (off:=1) (by kernel_rfl) (h70.ev rfl) rfl) fun _ h71=>?_;refine qv h71 (fun X hX=>aw (by kernel_rfl) (h71.ev rfl) (by have:=(a7 bc ((S63.grow hX).rdOf (i:=6) rfl) qk) 1 _ rfl;rw[Nat.zero_add] at this;exact this)) fun _ h72=>?_;refine qv h72 (fun X hX=>aj (off:=0) (j:=0) (by kernel_rfl) (h72.ev rfl) rfl) fun _ h73=>?_;refine qv h73 (fun X hX=>aw (by kernel_rfl) (h73.ev rfl) ((S63.grow hX).cell (i:=1) rfl rfl)) fun _ h74=>?_;refine qv h74 (fun X hX=>aj (off:=1) (j:=1) (by kernel_rfl) (h74.ev rfl) rfl) fun _ h75=>?_;refine qv h75 (fun X hX=>aj (off:=6) (j:=7) (by kernel_rfl) (h75.ev rfl) rfl) fun _ h76=>?_;refine qv (v:=eQ l[q.j].e.o) h76 (fun X hX=>ay (by kernel_rfl) (by kernel_rfl) (h76.ev rfl) ((S63.grow hX).cellsOf (i:=1) rfl 7 6)) fun _ h77=>?_;refine df h77 (wn rfl) rfl rfl (fun X=>(aq (fun _ _=>by kernel_rfl) (h77.evs rfl) rfl)) (fun X hX=>sM q.p[k].b q.p[k].f l[q.j].l l[q.j].e.o _ (by rw[h512];decide) hxe.o hxe.n) fun _ h78=>?_;refine qv h78 (fun X hX=>ak (h78.ev rfl)) fun _ h79=>?_;refine qv h79 (fun X hX=>bG (h79.ev rfl) rfl) fun _ h80=>?_;refine qv h80 (fun X hX=>bG (h80.ev rfl) rfl) fun _ h81=>?_
      refine qv h81 (fun X hX=>bG (h81.ev rfl) rfl) fun _ h82=>?_;refine qv h82 (fun X hX=>fx (h82.ev rfl)) fun _ h83=>?_;refine qv h83 (fun X hX=>fx (h83.ev rfl)) fun _ h84=>?_;refine aI ?_;refine bF fun _ hX85 hΦ85=>?_;have S85:=S63.grow hX85;refine ma h84 rfl rfl fun _ h86=>?_;refine ae (aa (ab (ab (ah ?_))));refine mv h86 rfl rfl fun _ h87=>?_;refine sv h87 (a8 (h87.ev rfl) (h87.ev rfl)) fun _ h88=>?_;refine ae (aa ?_);refine aB (h88.ev rfl) (fun hc2=>?_) (fun hc2=>?_)
      ·
       have he:(iJ q.p[k].b q.p[k].f l[q.j].l l[q.j].e.o).2.2≠0:=by simpa using hc2
       rw[if_pos he] at hun;refine ab (ah ?_);refine mv h88 rfl rfl fun _ h89=>?_;refine ma h89 rfl rfl fun _ h90=>?_;refine ma h90 rfl rfl fun _ h91=>?_;refine ae (aa (wp_ret (ai (az (ai (ai (az (ai ?_))))))));refine eh h91 rfl rfl rfl ?_;exact⟨q.p,by rw[hun];(try rfl),⟨hpl,fun h=>absurd h (by rw[hun];exact he)⟩,(S85.sub (.cons _ (.cons _ (.cons _ (.cons _ (.cons _ (.cons _ (.cons_cons _ .slnil))))))))⟩
      ·
       have he:(iJ q.p[k].b q.p[k].f l[q.j].l l[q.j].e.o).2.2=0:=by simpa using hc2
       rw[if_neg (fun h=>h he)] at hun;obtain⟨s,hsq⟩:∃s,s=(iJ q.p[k].b q.p[k].f l[q.j].l l[q.j].e.o).1:=⟨_,rfl⟩
       have hs5:s.size=512:=by rw[hsq];exact tT h512 he
       have hpo2:=oZ hpo l[q.j].e.g s hs5;have hfl:=ki hpo.srt qk s;rw[q1] at hfl;rw[←hsq] at hun h88;refine wp_skip (aa (ab (ah ?_)));refine sv h88 (bb (v':=.pointer (some ⟨b',k*3,none⟩)) (congrArg Value.pointer q3) (ak (h88.ev rfl))) fun _ h92=>?_;refine mv h92 rfl rfl fun _ h93=>?_;refine sv h93 (bo (h93.ev rfl)) fun _ h94=>?_;refine sv h94 (aj (off:=2) (by kernel_rfl) (h94.ev rfl) rfl) fun _ h95=>?_;refine kj h95 (wn rfl) ⟨rfl,rfl⟩ (h95.ev rfl) (h95.ev rfl) rfl (by kernel_rfl) S85 (i:=6) rfl rfl (by show k*3+2+1≤p.length*3;omega) fun _ S96=>?_;refine cm ?_;refine mv h95 rfl rfl fun _ h97=>?_;refine ae (aa ?_);refine aB (h97.ev rfl) (fun hc3=>?_) (fun hc3=>?_)
       ·
        refine ah ?_;refine mv h97 rfl rfl fun _ h98=>?_;refine sv h98 (aV (h98.ev rfl) (h98.ev rfl) (by omega)) fun _ h99=>?_;refine ma h99 rfl rfl fun _ h100=>?_;refine ae (aO (aa (ah ?_)));refine sv h100 (aV (h100.ev rfl) (h100.ev rfl) (by omega)) fun _ h101=>?_;refine mv h101 rfl rfl fun _ h102=>?_;refine ae (aa ?_);exact⟨⟨q.j+1,fG q.p l[q.j].e.g s,q.n+1⟩,(by show l.length-(q.j+1)<l.length-q.j;omega),⟨hlt,by rw[hc3] at hun;exact hun,hpo2,by rw[ee];exact hpl,by show 0≤q.n+1;omega,by show q.n+1≤((q.j+1:Nat):Int);omega,fun x hx=>by rw[iX];exact hfo x hx⟩,h102.re ⟨rfl,rfl,rfl,rfl,rfl,rfl,trivial⟩,(by show St _ w _ [_,_,_,_,.row _ _ _ _ ((fG q.p l[q.j].e.g s).flatMap ca)];rw[hfl];exact(S96.sub (.cons _ (.cons _ (.cons_cons _ (.cons_cons _ (.cons_cons _ (.cons_cons _ (.cons_cons _ .slnil)))))))))⟩
       ·
        refine wp_skip (aO (aa (ah ?_)));refine sv h97 (aV (h97.ev rfl) (h97.ev rfl) (by omega)) fun _ h103=>?_;refine mv h103 rfl rfl fun _ h104=>?_;refine ae (aa ?_);exact⟨⟨q.j+1,fG q.p l[q.j].e.g s,q.n⟩,(by show l.length-(q.j+1)<l.length-q.j;omega),⟨hlt,by rw[hc3] at hun;rw[show q.n=q.n+mK false by show q.n=q.n+0;omega];exact hun,hpo2,by rw[ee];exact hpl,hn0,by show q.n≤((q.j+1:Nat):Int);omega,fun x hx=>by rw[iX];exact hfo x hx⟩,h104.re ⟨rfl,rfl,rfl,rfl,rfl,rfl,trivial⟩,(by show St _ w _ [_,_,_,_,.row _ _ _ _ ((fG q.p l[q.j].e.g s).flatMap ca)];rw[hfl];exact(S96.sub (.cons _ (.cons _ (.cons_cons _ (.cons_cons _ (.cons_cons _ (.cons_cons _ (.cons_cons _ .slnil)))))))))⟩
     case hB=>kernel_rfl
     case hst=>rfl
 ·
  have hge:l.length≤q.j:=by have:=of_decide_eq_false hc0;omega
  have hun:=hF0.2.1;rw[List.drop_of_length_le hge,ir] at hun;refine wp_exit ?_;refine av ?_;refine av ?_;refine bn ?_;refine aa (ab (ah ?_));refine mv h15 rfl rfl fun _ h105=>?_;refine ma h105 rfl rfl fun _ h106=>?_;refine ma h106 rfl rfl fun _ h107=>?_;refine ae (aa (wp_ret ?_));refine eh h107 rfl rfl rfl ?_;exact⟨q.p,by rw[hun];(try rfl),⟨hF0.2.2.2.1,fun _=>by rw[hun]⟩,(S14.sub (.cons _ (.cons _ (.cons _ (.cons _ (.cons_cons _ .slnil))))))⟩
theorem lZ {t:Tbl}:∀{l:List Rcd} {p:List Pgp} {n:Int},(ir t p n l).2.2≠0→(ir t p n l).1=[]∧(ir t p n l).2.1=0
 | [],_,_,h=>absurd rfl h
 | x::r,p,n,h=>by
  rw[ir] at h ⊢
  split
  · rename_i hd
    rw[if_pos hd] at h
    cases hq:gT p x.e.g with
    | none=>exact⟨rfl,rfl⟩
    | some q=>
     rw[hq] at h;simp only[] at h ⊢
     split
     · exact⟨rfl,rfl⟩
     · rename_i he
       rw[if_neg he] at h;exact lZ h
  · rename_i hd
    rw[if_neg hd] at h;exact lZ h
def qT (l:List Rcd) (t:Tbl) (p:List Pgp):Int:=aP [(dI l).2,dR t,fK l p]
def iE (l:List Rcd) (t:Tbl) (p:List Pgp):List Pgp × Int × Int:=if qT l t p≠0 then ([],0,qT l t p) else ir t p 0 l
theorem sO {l:List Rcd} {p:List Pgp} (h:fK l p=0):PgsOk p∧∀x∈l,eL p x=0:=by
 unfold fK at h
 split at h
 · rename_i h1;exact absurd h h1
 · rename_i h1
   refine⟨pgsE1_zero.1 (by simpa using h1),fun x hx=>?_⟩;obtain⟨k,hk,rfl⟩:=List.getElem_of_mem hx;exact(cQ _ _).1 h k hk
theorem pG (l:List Rcd) (B:Option Addr) (d:Nat) (t:Tbl) (TA:Option Addr) (tc:Nat) (TB:Option Addr) (td:Nat) (p:List Pgp) (A:Option Addr) (c:Nat) (w:World)
 (hr:Rd w w.heap.size A (p.flatMap ca)) (hq:Rd w w.heap.size B (l.flatMap cg)) (ht1:Rd w w.heap.size TA (t.ts.flatMap cA)) (ht2:Rd w w.heap.size TB (t.ds.flatMap da)) (hl:l.length≤1000) (hc:l.length≤d) (hpl:p.length≤1000) (hF:FolT w) (hx:∀x∈l,FewE x.e∧I6 x.e.g) :
 Calls Tryz.prog 29 #[.slice B l.length d,cR t TA tc TB td,.slice A p.length c] w fun e w'=>∃i:Option Addr × Nat,e=.returned (.tuple #[.slice i.1 (iE l t p).1.length i.2,.int .i64 (iE l t p).2.1,.int .i64 (iE l t p).2.2]) ∧
  St [] w w' [.row (.slice i.1 (iE l t p).1.length i.2) (iE l t p).1.length 111 3 ((iE l t p).1.flatMap ca)]:=by
 refine aF (N:=39) Tryz.func29 rfl rfl rfl (fun _ Y=>?_);have Z:=St.init w;refine ab (ah ?_);refine nb Y rfl rfl Z fun b4 _ _ gb4 Y Z=>?_;refine ma Y rfl rfl fun _ Y=>?_;refine ma Y rfl rfl fun _ Y=>?_;refine ma Y rfl rfl fun _ Y=>?_;refine ae (aa (ab (ab ?_)));apply bA Y [false,false,false,false,false,false] _ (by kernel_rfl)
 case h=>
  refine qv Y (fun X hX=>ak (Y.ev rfl)) fun _ Y=>?_;refine df Y (wn rfl) rfl rfl (fun X=>(aq (fun _ _=>by kernel_rfl) (Y.evs rfl) rfl)) (fun X hX=>dP l B d _ ((Z.grow hX).rd0 hq) hl hc (hF.below (Z.grow hX).below) (fun x hm=>(hx x hm).1)) fun _ Y=>?_;refine qv (v:=cR t TA tc TB td) Y (fun X hX=>ay (by kernel_rfl) (by kernel_rfl) (Y.ev rfl) ((Z.grow hX).cellsAll (i:=0) rfl)) fun _ Y=>?_;refine df Y (wn rfl) rfl rfl (fun X=>(aq (fun _ _=>by kernel_rfl) (Y.evs rfl) rfl)) (fun X hX=>dt t TA tc TB td _ ((Z.grow hX).rd0 ht1) ((Z.grow hX).rd0 ht2)) fun _ Y=>?_;refine qv Y (fun X hX=>ak (Y.ev rfl)) fun _ Y=>?_;refine qv Y (fun X hX=>ak (Y.ev rfl)) fun _ Y=>?_;refine aI ?_;refine bF fun _ hX11 hΦ11=>?_;have Z:=Z.grow hX11;refine aS Y (wn rfl) (aq (fun _ _=>by kernel_rfl) (Y.evs rfl) rfl) rfl rfl Z (iH p l A c B d _ (Z.rd0 hr) (Z.rd0 hq) hl (fun x hm=>(hx x hm).2)) fun _ _ Y Z=>?_;refine dr Y (wn rfl) (f:=fun b=>.slice (some ⟨b,0,none⟩) 3 3) (cj Tryz.underlying214 (by kernel_rfl) (by kernel_rfl) (Y.evs2 rfl) rfl rfl rfl (by decide) (by decide)) rfl rfl Z fun b20 _ _ gb20 Y Z=>?_;refine bD Y (wn rfl) (aq (fun _ _=>by kernel_rfl) (Y.evs rfl) rfl) rfl rfl (fk (Z.at_ (i:=0) rfl)) fun _ Y=>?_;refine ma Y rfl rfl fun _ Y=>?_;refine cm ?_;refine mv Y rfl rfl fun _ Y=>?_;refine sv Y (a8 (Y.ev rfl) (Y.ev rfl)) fun _ Y=>?_;refine ae (aa ?_);refine aB (Y.ev rfl) (fun hc0=>?_) (fun hc0=>?_)
  ·
   have hne:qT l t p≠0:=by unfold qT;simpa using hc0
   have e1:iE l t p=([],0,qT l t p):=by unfold iE;rw[if_pos hne]
   refine ab (ah ?_);refine mv Y rfl rfl fun _ Y=>?_;refine ma Y rfl rfl fun _ Y=>?_;refine ma Y rfl rfl fun _ Y=>?_;refine ma Y rfl rfl fun _ Y=>?_;refine ae (aa (wp_ret (ai ?_)));refine ql Y rfl rfl rfl rfl ?_;refine⟨(none,0),by rw[e1];rfl,?_⟩;rw[e1];exact(Z.sub (List.nil_sublist _)).nilRow 111 3
  ·
   have hz:qT l t p=0:=by unfold qT;simpa using hc0
   have e1:iE l t p=ir t p 0 l:=by unfold iE;rw[if_neg (fun h=>h hz)]
   have hz2:=hz;unfold qT at hz2;rw[bw] at hz2;have z2:=hz2 (dR t) (by simp);obtain⟨g1,g2⟩:=sO (hz2 (fK l p) (by simp));have htk:=tblE_zero.1 z2;have htn:=htk.n;have htm:=htk.m;refine wp_skip (aa (ab (ah ?_)));refine mv Y rfl rfl fun _ Y=>?_;refine gV Y (wn rfl) (aq (fun _ _=>by kernel_rfl) (Y.evs rfl) rfl) rfl rfl Z (mc p A c _ (Z.rd0 hr) hpl) (Nat.le_refl _) fun A26 c26 _ _ Y Z=>?_;refine ma Y rfl rfl fun _ Y=>?_;refine cm ?_;refine mv Y rfl rfl fun _ Y=>?_;refine mv Y rfl rfl fun _ Y=>?_;refine sv (v:=cR t TA tc TB td) Y (ay (by kernel_rfl) (by kernel_rfl) (Y.ev rfl) (Z.cellsAll (i:=2) rfl)) fun _ Y=>?_;refine fY Y (wn rfl) (aq (fun _ _=>by kernel_rfl) (Y.evs rfl) rfl) rfl rfl Z (i:=0) rfl pf (wu t TA tc TB td p A26 c26 l B d w.heap.size _ Z.size (Z.ownB (i:=0) rfl) (hq.below Z.below) (ht1.below Z.below) (ht2.below Z.below) htk.srt (by omega) g1 hl hx g2) fun p31 _ _ Y hF31 Z=>?_;refine mv Y rfl rfl fun _ Y=>?_;refine vx Y rfl rfl rfl fun _ Y=>?_;refine vx Y rfl rfl rfl fun _ Y=>?_;refine ma Y rfl rfl fun _ Y=>?_;refine ma Y rfl rfl fun _ Y=>?_;refine ae (aa (ab (ab (ah ?_))));refine mv Y rfl rfl fun _ Y=>?_;refine sv Y (a8 (Y.ev rfl) (Y.ev rfl)) fun _ Y=>?_;refine ae (aa ?_);refine aB (Y.ev rfl) (fun hc1=>?_) (fun hc1=>?_)
   ·
    have he:(ir t p 0 l).2.2≠0:=by simpa using hc1
    obtain⟨u1,u2⟩:=lZ he;refine ab (ah ?_);refine mv Y rfl rfl fun _ Y=>?_;refine ma Y rfl rfl fun _ Y=>?_;refine ma Y rfl rfl fun _ Y=>?_;refine ma Y rfl rfl fun _ Y=>?_;refine ae (aa (wp_ret (ai ?_)));refine ql Y rfl rfl rfl rfl ?_;refine⟨(none,0),by rw[e1,u1,u2];rfl,?_⟩;rw[e1,u1];exact(Z.sub (List.nil_sublist _)).nilRow 111 3
   ·
    have he:(ir t p 0 l).2.2=0:=by simpa using hc1
    have hpe:=hF31.2 he;have hple:=hF31.1;refine wp_skip (aa (ab (ah ?_)));refine mv Y rfl rfl fun _ Y=>?_;refine mv Y rfl rfl fun _ Y=>?_;refine ma Y rfl rfl fun _ Y=>?_;refine ma Y rfl rfl fun _ Y=>?_;refine ma Y rfl rfl fun _ Y=>?_;refine ae (aa (wp_ret ?_));refine ql Y rfl rfl rfl rfl ?_;refine⟨(A26,c26),by rw[e1,←hpe,hple,he];rfl,?_⟩;rw[e1,←hpe,hple];exact(Z.sub (.cons_cons _ (.cons _ (.cons _ .slnil))))
 case hB=>kernel_rfl
 case hst=>rfl
end Go.Proofs.YtcfdpfmchchkaaaGreatDoor
