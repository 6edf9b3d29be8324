/-
  Chapter 21: All, Apart and Between of the reference; copies of operations.
  Chapter 22: the reference's strictness and .
-/
import Derived.Test.YtcfdpfmchchkaaaGreatDoorRcP0
import Derived.Test.YtcfdpfmchchkaaaGreatDoorSplF
namespace Go.Proofs.YtcfdpfmchchkaaaGreatDoor
set_option linter.unusedVariables false
set_option linter.unusedSimpArgs false
open Go.RowKit Go.Sort
theorem qI {x y:Op} (hx:fm x) (hy:fm y):dA x y=(decide ((cN x).2≤(cN y).1)||decide ((cN y).2≤(cN x).1)||decide ((cN x).1=(cN x).2)||decide ((cN y).1=(cN y).2)):=by
 have Y:=qR hx;have Y:=qR hy;unfold dA;rw[Bool.eq_iff_iff];simp only[decide_eq_true_eq,Bool.or_eq_true];omega
theorem tr (a b:Int):(a==b)=decide (a=b):=by
 by_cases h:a=b<;>simp[h]
set_option maxRecDepth 100000 in
set_option maxHeartbeats 1000000 in
theorem pE (x y:Op) (w:World) (hx:fm x) (hy:fm y) :
 Calls Tryz.prog 98 #[eQ x,eQ y] w fun r w'=>r=.returned (.bool (dA x y))∧Below w.heap.size w w':=by
 rw[qI hx hy];have hT:=fun W=>lW x W hx;have hU:=fun W=>lW y W hy;obtain⟨⟨ta,tb⟩,hta⟩:∃t,t=cN x:=⟨_,rfl⟩;obtain⟨⟨tc,td⟩,htb⟩:∃t,t=cN y:=⟨_,rfl⟩;rw[←hta] at hT ⊢;rw[←htb] at hU ⊢
 dsimp only at hT hU ⊢
 have HT:=Lib.hid hT;have HU:=Lib.hid hU;rw[←tr,←tr];clear hT hU hta htb hx hy;unfold eQ at *;by_cases h1:tb≤tc
 · have d1:decide (tb≤tc)=true:=decide_eq_true h1
   go_enter Tryz.func98,Tryz.ntmps98
   go_wp2_with (first | ((go_at_call 125;(with_reducible refine(HT.out _).mono ?_);rintro e W1 ⟨rfl,hbW1⟩;obtain⟨hcW1,hfW1⟩:=aK hbW1);have hsW1:w.heap.size+1<W1.heap.size:=(by have h:=hbW1.size;(try simp at h);omega)) | (go_at_call 125;(with_reducible refine(HU.out _).mono ?_);rintro e W2 ⟨rfl,hbW2⟩;obtain⟨hcW2,hfW2⟩:=aK hbW2))
   go_ret
   exact⟨jJ (by simp[h1]),by(repeat (first | assumption | exact Below.refl _ _ | refine au ?_ _ | refine ao ?_ _ | refine ar ?_ (by assumption) | refine Below.trans ?_ (by assumption)))⟩
 · have d1:decide (tb≤tc)=false:=decide_eq_false h1
   by_cases h2:td≤ta
   · have d2:decide (td≤ta)=true:=decide_eq_true h2
     go_enter Tryz.func98,Tryz.ntmps98
     go_wp2_with (first | ((go_at_call 125;(with_reducible refine(HT.out _).mono ?_);rintro e W1 ⟨rfl,hbW1⟩;obtain⟨hcW1,hfW1⟩:=aK hbW1);have hsW1:w.heap.size+1<W1.heap.size:=(by have h:=hbW1.size;(try simp at h);omega)) | (go_at_call 125;(with_reducible refine(HU.out _).mono ?_);rintro e W2 ⟨rfl,hbW2⟩;obtain⟨hcW2,hfW2⟩:=aK hbW2))
     go_ret
     exact⟨jJ (by simp[h2]),by(repeat (first | assumption | exact Below.refl _ _ | refine au ?_ _ | refine ao ?_ _ | refine ar ?_ (by assumption) | refine Below.trans ?_ (by assumption)))⟩
   · have d2:decide (td≤ta)=false:=decide_eq_false h2
     cases h3:ta==tb
     all_goals
      go_enter Tryz.func98,Tryz.ntmps98
      go_wp2_with (first | ((go_at_call 125;(with_reducible refine(HT.out _).mono ?_);rintro e W1 ⟨rfl,hbW1⟩;obtain⟨hcW1,hfW1⟩:=aK hbW1);have hsW1:w.heap.size+1<W1.heap.size:=(by have h:=hbW1.size;(try simp at h);omega)) | (go_at_call 125;(with_reducible refine(HU.out _).mono ?_);rintro e W2 ⟨rfl,hbW2⟩;obtain⟨hcW2,hfW2⟩:=aK hbW2))
      go_ret
      exact⟨jJ (by rw[d1,d2];rfl),by(repeat (first | assumption | exact Below.refl _ _ | refine au ?_ _ | refine ao ?_ _ | refine ar ?_ (by assumption) | refine Below.trans ?_ (by assumption)))⟩
set_option maxRecDepth 4000
open Go.RowKit Go.Sort Go.Shelf
theorem xS {l:List Rcd} {t:Int} {m:Nat} (hm:m<l.length):iK (l.take (m+1)) t=(iK (l.take m) t||jt l[m].e t):=by
 unfold iK;rw[List.take_add_one,List.getElem?_eq_getElem hm,List.any_append];simp
theorem xt {x:Lge} {t:Int} (h:cd x=true):jt x t=false:=by
 unfold cd at h;unfold jt;rcases Bool.or_eq_true_iff.1 h with q | q
 · have:x.k=0:=by simpa using q
   rw[this];simp
 · have:x.k=1:=by simpa using q
   rw[this];simp
theorem mL (l:List Rcd) (A:Option Addr) (c:Nat) (w:World) (hr:Rd w w.heap.size A (l.flatMap cg)) (hl:l.length≤1000) (hc:l.length≤c) (hv:∀x∈l,dq x.e.o=0) :
 Calls Tryz.prog 39 #[.slice A l.length c] w fun e w'=>e=.returned (.bool (j8 l))∧Below w.heap.size w w':=by
 refine aF (N:=75) Tryz.func39 rfl rfl rfl (fun _ h0=>?_);have S0:=St.init w;refine ab (ah ?_);refine ma h0 rfl rfl fun _ h1=>?_;refine ae (aa (ab (ab (ah ?_))));refine ma h1 rfl rfl fun _ h2=>?_;refine ae (aa (wp_block ?_));refine bz h2 S0 [0] (fun (i:Nat)=>[(3,.int .i64 (i:Nat))]) (fun (i:Nat)=>i≤l.length∧j8 l=j8 (l.drop i)) (fun (i:Nat) L=>L) (fun (i:Nat)=>l.length-i) (0) (⟨Nat.zero_le _,rfl⟩) ⟨rfl,rfl,trivial⟩ (S0) ?_;intro i _ _ hF0 h3 S3;refine ab (ab (ah ?_));refine mv h3 rfl rfl fun _ h4=>?_;refine mv h4 rfl rfl fun _ h5=>?_;refine sv h5 (bf Tryz.underlying41 (h5.ev rfl)) fun _ h6=>?_;refine sv h6 (bq (h6.ev rfl) (h6.ev rfl)) fun _ h7=>?_;refine ae (aa ?_);refine aB (h7.ev rfl) (fun hc0=>?_) (fun hc0=>?_)
 ·
  have hlt:i<l.length:=by have:=of_decide_eq_true hc0;omega
  obtain⟨b1,o1,rfl,hB,_⟩:=hr.opened (aR aJ (by decide) (by omega));have hdr:l.drop i=l[i]::l.drop (i+1):=List.drop_eq_getElem_cons hlt
  have hst:j8 (l.drop i)=(kv l[i] false (l.drop (i+1))&&j8 (l.drop (i+1))):=by rw[hdr];rfl
  have hrl:(l.drop (i+1)).length=l.length-(i+1):=List.length_drop ..;have hvi:=hv _ (List.getElem_mem hlt);refine wp_skip (aa (ab (wp_block (ab (ah ?_)))));refine mv h7 rfl rfl fun _ h8=>?_;refine sv h8 (bb (v':=.int .i64 ((i+1+0:Nat):Int)) (congrArg _ (by omega)) (aV (h8.ev rfl) (h8.ev rfl) (by omega))) fun _ h9=>?_;refine ma h9 rfl rfl fun _ h10=>?_;refine ae (aa (wp_block ?_));refine bz h10 S3 [14,13,10,9,8,7,3,0] (fun (m:Nat)=>[(4,.int .i64 ((i+1+m:Nat):Int))]) (fun (m:Nat)=>m≤l.length-(i+1)∧kv l[i] false (l.drop (i+1))=kv l[i] (iK ((l.drop (i+1)).take m) l[i].e.t) ((l.drop (i+1)).drop m)) (fun (m:Nat) L=>L) (fun (m:Nat)=>l.length-(i+1)-m) (0) (⟨Nat.zero_le _,rfl⟩) ⟨rfl,rfl,rfl,rfl,rfl,rfl,rfl,rfl,rfl,trivial⟩ (S3) ?_;intro m _ _ hF1 h11 S11;refine ab (ab (ah ?_));refine mv h11 rfl rfl fun _ h12=>?_;refine mv h12 rfl rfl fun _ h13=>?_;refine sv h13 (bf Tryz.underlying41 (h13.ev rfl)) fun _ h14=>?_;refine sv h14 (bq (h14.ev rfl) (h14.ev rfl)) fun _ h15=>?_;refine ae (aa ?_);refine aB (h15.ev rfl) (fun hc1=>?_) (fun hc1=>?_)
  ·
   have hlt2:m<l.length-(i+1):=by have:=of_decide_eq_true hc1;omega
   have hk2:m<(l.drop (i+1)).length:=by rw[hrl];exact hlt2
   have hkl:i+1+m<l.length:=by omega
   have hget:(l.drop (i+1))[m]=l[i+1+m]:=List.getElem_drop ..
   have hlm:((l.drop (i+1)).take m).length=m:=by rw[List.length_take,hrl];omega
   have hrdJ:Rd w w.heap.size (some ⟨b1,eV o1 c (i+1) 14,none⟩) (((l.drop (i+1)).take m).flatMap cg):=(by rw[lB (by omega)];exact hr.dropF aJ (i+1):Rd w w.heap.size (some ⟨b1,eV o1 c (i+1) 14,none⟩) ((l.drop (i+1)).flatMap cg)).takeF aJ m;have hun:=hF1.2;rw[List.drop_eq_getElem_cons hk2,kv,hget] at hun;have hstk:=xS (t:=l[i].e.t) hk2;rw[hget] at hstk;have hvy:=hv _ (List.getElem_mem hkl);refine wp_skip (aa (ab (wp_block (ab ?_))));apply yL h15 10 12 5 25 143 #[.int .i64 0,.int .i64 0,.int .i64 0,.int .i64 0,.int .i64 0,.bool false,.int .i64 0,.int .i64 0,.int .i64 0,.int .i64 0,.string ⟨#[]⟩,.string ⟨#[]⟩,.string ⟨#[]⟩] 11 13 6 30 143 #[.int .i64 0,.int .i64 0,.int .i64 0,.int .i64 0,.int .i64 0,.bool false,.int .i64 0,.int .i64 0,.int .i64 0,.int .i64 0,.string ⟨#[]⟩,.string ⟨#[]⟩,.string ⟨#[]⟩] [false,false,false,false,false,false,false,false,false,false,true,true,true,true] (by kernel_rfl)
   case h=>
    refine qv h15 (fun X hX=>ak (h15.ev rfl)) fun _ h16=>?_;refine qv h16 (fun X hX=>ak (h16.ev rfl)) fun _ h17=>?_;refine qv h17 (fun X hX=>aC (i:=i) (sz:=14) Tryz.underlying41 (by kernel_rfl) (h17.ev rfl) (h17.ev rfl) (by omega) (by omega) rfl) fun _ h18=>?_;refine qv h18 (fun X hX=>aj (off:=1) (by kernel_rfl) (h18.ev rfl) rfl) fun _ h19=>?_;refine qv (v:=dz l[i].e) h19 (fun X hX=>ay (by kernel_rfl) (by kernel_rfl) (h19.ev rfl) (dJ ((S11.grow hX).rd0 hr) hlt)) fun _ h20=>?_;refine qv h20 (fun X hX=>ak (h20.ev rfl)) fun _ h21=>?_;refine qv h21 (fun X hX=>ak (h21.ev rfl)) fun _ h22=>?_;refine qv h22 (fun X hX=>aC (i:=i+1+m) (sz:=14) Tryz.underlying41 (by kernel_rfl) (h22.ev rfl) (h22.ev rfl) (by omega) (by omega) rfl) fun _ h23=>?_;refine qv h23 (fun X hX=>aj (off:=1) (by kernel_rfl) (h23.ev rfl) rfl) fun _ h24=>?_;refine qv (v:=dz l[i+1+m].e) h24 (fun X hX=>ay (by kernel_rfl) (by kernel_rfl) (h24.ev rfl) (dJ ((S11.grow hX).rd0 hr) hkl)) fun _ h25=>?_;refine aI ?_;refine Ak h25 S11 rfl rfl rfl rfl rfl rfl rfl rfl (fun ρ X=>fE (z:=.agg #[.int .i64 0,.int .i64 0,.int .i64 0,.int .i64 0,.int .i64 0,.bool false,.int .i64 0,.int .i64 0,.int .i64 0,.int .i64 0,.string ⟨#[]⟩,.string ⟨#[]⟩,.string ⟨#[]⟩]) (by kernel_rfl)) (fun ρ X=>fE (z:=.agg #[.int .i64 0,.int .i64 0,.int .i64 0,.int .i64 0,.int .i64 0,.bool false,.int .i64 0,.int .i64 0,.int .i64 0,.int .i64 0,.string ⟨#[]⟩,.string ⟨#[]⟩,.string ⟨#[]⟩]) (by kernel_rfl)) (by kernel_rfl) (by kernel_rfl) ⟨rfl,rfl⟩ ⟨rfl,rfl⟩ fun b5 b6 _ _ h26 S26=>?_;refine ae (aa (ab (ab (ah ?_))));refine sv (v:=dz l[i].e) h26 (ay (by kernel_rfl) (by kernel_rfl) (h26.ev rfl) (S26.cellsAll (i:=1) rfl)) fun _ h27=>?_;refine aS h27 (wn rfl) (aq (fun _ _=>by kernel_rfl) (h27.evs rfl) rfl) rfl rfl S26 (fq _ _) fun _ _ h28 S28=>?_
    refine sv h28 (bL (h28.ev rfl)) fun _ h29=>?_;refine mv h29 rfl rfl fun _ h30=>?_;apply dw (x:=!cd l[i+1+m].e) h30 S28 34 rfl 4 38
    case hf=>
     intro gc34;refine aU (v:=dz l[i+1+m].e) h30 (ag h30 _ rfl rfl rfl gc34) (ay (by kernel_rfl) (by kernel_rfl) (h30.ev rfl) (S28.cellsAll (i:=0) rfl)) rfl rfl fun _ h31=>?_;refine aS h31 (ag h31 _ rfl rfl rfl gc34) (aq (fun _ _=>by kernel_rfl) (h31.evs rfl) rfl) rfl rfl S28 (fq _ _) fun _ _ h32 S32=>?_;refine sy h32 rfl rfl rfl gc34 (bL (h32.ev rfl)) rfl rfl fun _ h33=>?_;refine sv h33 (aD (h33.ev rfl) gc34 (h33.ev rfl)) fun _ h34=>?_;exact ae ⟨h34.mid (m:=[(_,_),(_,_),(_,_)]) rfl,S32⟩
    case ht=>
     intro gc34;refine no h30 rfl rfl rfl gc34 rfl rfl fun _ h35=>?_;refine no h35 rfl rfl rfl gc34 rfl rfl fun _ h36=>?_;refine no h36 rfl rfl rfl gc34 rfl rfl fun _ h37=>?_;refine sv h37 (aA (h37.ev rfl) gc34 (h37.ev rfl)) fun _ h38=>?_;exact ae ⟨h38.mid (m:=[(_,_),(_,_),(_,_)]) rfl,S28⟩
    case h=>
     rintro a39 X39 ⟨h39,S39⟩
     refine mv h39 rfl rfl fun _ h40=>?_;apply dw (x:=l[i].e.g != l[i+1+m].e.g) h40 S39 39 rfl 6 45
     case hf=>
      intro gc39;refine sy h40 rfl rfl rfl gc39 (aj (off:=4) (j:=4) (by kernel_rfl) (h40.ev rfl) rfl) rfl rfl fun _ h41=>?_;refine sy h41 rfl rfl rfl gc39 (aw (by kernel_rfl) (h41.ev rfl) (S39.cell (i:=1) rfl rfl)) rfl rfl fun _ h42=>?_;refine sy h42 rfl rfl rfl gc39 (aj (off:=4) (j:=4) (by kernel_rfl) (h42.ev rfl) rfl) rfl rfl fun _ h43=>?_;refine sy h43 rfl rfl rfl gc39 (aw (by kernel_rfl) (h43.ev rfl) (S39.cell (i:=0) rfl rfl)) rfl rfl fun _ h44=>?_;refine sy h44 rfl rfl rfl gc39 (a8 (h44.ev rfl) (h44.ev rfl)) rfl rfl fun _ h45=>?_;refine sv h45 (aD (h45.ev rfl) gc39 (h45.ev rfl)) fun _ h46=>?_;exact ae ⟨h46.mid (m:=[(_,_),(_,_),(_,_),(_,_),(_,_)]) rfl,S39⟩
     case ht=>
      intro gc39;refine no h40 rfl rfl rfl gc39 rfl rfl fun _ h47=>?_;refine no h47 rfl rfl rfl gc39 rfl rfl fun _ h48=>?_;refine no h48 rfl rfl rfl gc39 rfl rfl fun _ h49=>?_;refine no h49 rfl rfl rfl gc39 rfl rfl fun _ h50=>?_;refine no h50 rfl rfl rfl gc39 rfl rfl fun _ h51=>?_;refine sv h51 (aA (h51.ev rfl) gc39 (h51.ev rfl)) fun _ h52=>?_;exact ae ⟨h52.mid (m:=[(_,_),(_,_),(_,_),(_,_),(_,_)]) rfl,S39⟩
     case h=>
      rintro a53 X53 ⟨h53,S53⟩
      refine ae (aa ?_);refine aB (h53.ev rfl) (fun hc2=>?_) (fun hc2=>?_)
      ·
       have hno:¬(cd l[i].e&&cd l[i+1+m].e&&l[i].e.g==l[i+1+m].e.g)=true:=fun h=>by
        rw[Bool.and_eq_true,Bool.and_eq_true,beq_iff_eq] at h;rw[h.1.1,h.1.2] at hc2;simp[h.2] at hc2
       rw[if_neg hno,←hstk] at hun;refine wp_exit ?_;refine av ?_;refine bn ?_;refine aa (ah ?_);refine mv h53 rfl rfl fun _ h54=>?_;refine sv h54 (bb (v':=.int .i64 ((i+1+(m+1):Nat):Int)) (congrArg _ (by omega)) (aV (h54.ev rfl) (h54.ev rfl) (by omega))) fun _ h55=>?_;refine ma h55 rfl rfl fun _ h56=>?_;refine ae (aa ?_);exact⟨m+1,(by omega),⟨hlt2,by rw[hun,List.drop_drop]⟩,h56.re ⟨rfl,rfl,rfl,rfl,rfl,rfl,rfl,rfl,rfl,trivial⟩,S53.sub (.cons _ (.cons _ .slnil))⟩
      ·
       have hyes:(cd l[i].e&&cd l[i+1+m].e&&l[i].e.g==l[i+1+m].e.g)=true:=by
        rw[Bool.or_eq_false_iff,Bool.or_eq_false_iff] at hc2;obtain⟨⟨u1,u2⟩,u3⟩:=hc2;rw[Bool.and_eq_true,Bool.and_eq_true];exact⟨⟨by simpa using u1,by simpa using u2⟩,by simpa using u3⟩
       have hopy:jt l[i+1+m].e l[i].e.t=false:=xt (Bool.and_eq_true_iff.1 (Bool.and_eq_true_iff.1 hyes).1).2;rw[if_pos hyes,←hstk] at hun;refine wp_skip (aa (ab (ab (ah ?_))));refine vf h53 5 5 rfl rfl rfl fun _ h57=>?_;refine vl h57 S53 1 rfl rfl rfl rfl fun _ h58=>?_;refine vf h58 5 5 rfl rfl rfl fun _ h59=>?_;refine vl h59 S53 0 rfl rfl rfl rfl fun _ h60=>?_;refine sv h60 (jV Tryz.underlying4 (h60.ev rfl) (h60.ev rfl)) fun _ h61=>?_;refine ae (aa ?_);refine aB (h61.ev rfl) (fun hc3=>?_) (fun hc3=>?_)
       ·
        have hff:l[i].e.f≠l[i+1+m].e.f:=by simpa using hc3
        rw[if_pos hff] at hun;refine ab (ah ?_);refine ma h61 rfl rfl fun _ h62=>?_;refine ae (aa (wp_ret (ai (az (ai (ai (az (az (ai (ai (az (ai ?_))))))))))));refine bm h62 rfl rfl ?_;exact⟨by rw[hF0.2,hst,hun];rfl,S53.below⟩
       ·
        have hff:¬l[i].e.f≠l[i+1+m].e.f:=by simpa using hc3
        rw[if_neg hff,hstk,hopy,Bool.or_false] at hun;refine wp_skip (aa (ab ?_));apply bA h61 [false,false,false,false,false,false,false,false,false,false,false,false,false,false,false,false,false,false,false,false,false,false,false] _ (by kernel_rfl)
        case h=>
         refine qv h61 (fun X hX=>aj (off:=1) (j:=1) (by kernel_rfl) (h61.ev rfl) rfl) fun _ h63=>?_;refine qv h63 (fun X hX=>aw (by kernel_rfl) (h63.ev rfl) ((S53.grow hX).cell (i:=1) rfl rfl)) fun _ h64=>?_;refine qv h64 (fun X hX=>aj (off:=1) (j:=1) (by kernel_rfl) (h64.ev rfl) rfl) fun _ h65=>?_;refine qv h65 (fun X hX=>aw (by kernel_rfl) (h65.ev rfl) ((S53.grow hX).cell (i:=0) rfl rfl)) fun _ h66=>?_;refine qv h66 (fun X hX=>a8 (h66.ev rfl) (h66.ev rfl)) fun _ h67=>?_;refine qv h67 (fun X hX=>ak (h67.ev rfl)) fun _ h68=>?_;apply kG (x:=!dA l[i].e.o l[i+1+m].e.o) h68 56 rfl 7 63
         case ht=>
          intro gc56;refine ax h68 (ag h68 _ rfl rfl rfl gc56) rfl rfl (fun X hX=>(aj (off:=6) (j:=6) (by kernel_rfl) (h68.ev rfl) rfl)) fun _ h69=>?_;refine ax (v:=eQ l[i].e.o) h69 (ag h69 _ rfl rfl rfl gc56) rfl rfl (fun X hX=>(ay (by kernel_rfl) (by kernel_rfl) (h69.ev rfl) ((S53.grow hX).cellsOf (i:=1) rfl 6 6))) fun _ h70=>?_;refine ax h70 (ag h70 _ rfl rfl rfl gc56) rfl rfl (fun X hX=>(aj (off:=6) (j:=6) (by kernel_rfl) (h70.ev rfl) rfl)) fun _ h71=>?_;refine ax (v:=eQ l[i+1+m].e.o) h71 (ag h71 _ rfl rfl rfl gc56) rfl rfl (fun X hX=>(ay (by kernel_rfl) (by kernel_rfl) (h71.ev rfl) ((S53.grow hX).cellsOf (i:=0) rfl 6 6))) fun _ h72=>?_;refine df h72 (ag h72 _ rfl rfl rfl gc56) rfl rfl (fun X=>(aq (fun _ _=>by kernel_rfl) (h72.evs rfl) rfl)) (fun X hX=>pE l[i].e.o l[i+1+m].e.o _ ((eG _).1 hvi) ((eG _).1 hvy)) fun _ h73=>?_;refine ax h73 (ag h73 _ rfl rfl rfl gc56) rfl rfl (fun X hX=>(bL (h73.ev rfl))) fun _ h74=>?_;refine qv h74 (fun X hX=>aA (h74.ev rfl) gc56 (h74.ev rfl)) fun _ h75=>?_;exact aI (h75.mid (m:=[(_,_),(_,_),(_,_),(_,_),(_,_),(_,_)]) rfl)
         case hf=>
          intro gc56;refine qo h68 rfl rfl rfl gc56 rfl rfl fun _ h76=>?_;refine qo h76 rfl rfl rfl gc56 rfl rfl fun _ h77=>?_;refine qo h77 rfl rfl rfl gc56 rfl rfl fun _ h78=>?_;refine qo h78 rfl rfl rfl gc56 rfl rfl fun _ h79=>?_;refine qo h79 rfl rfl rfl gc56 rfl rfl fun _ h80=>?_;refine qo h80 rfl rfl rfl gc56 rfl rfl fun _ h81=>?_;refine qv h81 (fun X hX=>aD (h81.ev rfl) gc56 (h81.ev rfl)) fun _ h82=>?_;exact aI (h82.mid (m:=[(_,_),(_,_),(_,_),(_,_),(_,_),(_,_)]) rfl)
         case h=>
          intro _ h83;refine qv h83 (fun X hX=>ak (h83.ev rfl)) fun _ h84=>?_;apply kA h84 64 rfl 9 73
          case ht=>
           intro gc64;refine ax h84 (ag h84 _ rfl rfl rfl gc64) rfl rfl (fun X hX=>(ak (h84.ev rfl))) fun _ h85=>?_;refine ax h85 (ag h85 _ rfl rfl rfl gc64) rfl rfl (fun X hX=>(ak (h85.ev rfl))) fun _ h86=>?_;refine ax h86 (ag h86 _ rfl rfl rfl gc64) rfl rfl (fun X hX=>(bb (v':=.int .i64 ((i+1:Nat):Int)) (congrArg _ (by omega)) (aV (h86.ev rfl) (h86.ev rfl) (by omega)))) fun _ h87=>?_;refine ax h87 (ag h87 _ rfl rfl rfl gc64) rfl rfl (fun X hX=>(ak (h87.ev rfl))) fun _ h88=>?_;refine ax h88 (ag h88 _ rfl rfl rfl gc64) rfl rfl (fun X hX=>(bb (v':=.slice (some ⟨b1,eV o1 c (i+1) 14,none⟩) m (c-(i+1))) (by rw[show i+1+m-(i+1)=m by omega]) (fy (l:=i+1) (h:=i+1+m) (sz:=14) Tryz.underlying41 (by kernel_rfl) (h88.ev rfl) (h88.ev rfl) (h88.ev rfl) (by omega) (by omega)))) fun _ h89=>?_;refine ax h89 (ag h89 _ rfl rfl rfl gc64) rfl rfl (fun X hX=>(aj (off:=1) (j:=1) (by kernel_rfl) (h89.ev rfl) rfl)) fun _ h90=>?_;refine ax h90 (ag h90 _ rfl rfl rfl gc64) rfl rfl (fun X hX=>(aw (by kernel_rfl) (h90.ev rfl) ((S53.grow hX).cell (i:=1) rfl rfl))) fun _ h91=>?_;refine df h91 (ag h91 _ rfl rfl rfl gc64) rfl rfl (fun X=>(aq (fun _ _=>by kernel_rfl) (h91.evs rfl) rfl)) (fun X hX=>hlm▸jG ((l.drop (i+1)).take m) l[i].e.t _ (c-(i+1)) _ ((S53.grow hX).rd0 hrdJ) (by omega)) fun _ h92=>?_;refine ax h92 (ag h92 _ rfl rfl rfl gc64) rfl rfl (fun X hX=>(bL (h92.ev rfl))) fun _ h93=>?_;exact aI (h93.mid (m:=[(_,_),(_,_),(_,_),(_,_),(_,_),(_,_),(_,_),(_,_)]) rfl)
          case hf=>
           intro gc64;refine qo h84 rfl rfl rfl gc64 rfl rfl fun _ h94=>?_;refine qo h94 rfl rfl rfl gc64 rfl rfl fun _ h95=>?_;refine qo h95 rfl rfl rfl gc64 rfl rfl fun _ h96=>?_;refine qo h96 rfl rfl rfl gc64 rfl rfl fun _ h97=>?_;refine qo h97 rfl rfl rfl gc64 rfl rfl fun _ h98=>?_;refine qo h98 rfl rfl rfl gc64 rfl rfl fun _ h99=>?_;refine qo h99 rfl rfl rfl gc64 rfl rfl fun _ h100=>?_;refine qo h100 rfl rfl rfl gc64 rfl rfl fun _ h101=>?_;refine qo h101 rfl rfl rfl gc64 rfl rfl fun _ h102=>?_;exact aI ⟨_,h102.mid (m:=[(_,_),(_,_),(_,_),(_,_),(_,_),(_,_),(_,_),(_,_)]) rfl⟩
          case h=>
           intro v103 _ hg73 h103;refine aI ?_;refine bF fun _ hX104 hΦ104=>?_;have S104:=S53.grow hX104;refine sv h103 (eu (h103.ev rfl) (h103.ev rfl) hg73 (h103.ev rfl)) fun _ h105=>?_;refine ae (aa ?_);refine aB (h105.ev rfl) (fun hc4=>?_) (fun hc4=>?_)
           ·
            have hbad:(!dA l[i].e.o l[i+1+m].e.o&&!(l[i].e.t==l[i+1+m].e.t)&&!iK ((l.drop (i+1)).take m) l[i].e.t)=true:=by
             rw[Bool.and_comm (!dA _ _)];exact hc4
            rw[if_pos hbad] at hun;refine ab (ah ?_);refine ma h105 rfl rfl fun _ h106=>?_;refine ae (aa (wp_ret (az (ai (ai (az (az (ai (ai (az (ai ?_)))))))))));refine bm h106 rfl rfl ?_;exact⟨by rw[hF0.2,hst,hun];rfl,S104.below⟩
           ·
            have hgood:(!dA l[i].e.o l[i+1+m].e.o&&!(l[i].e.t==l[i+1+m].e.t)&&!iK ((l.drop (i+1)).take m) l[i].e.t)=false:=by
             rw[Bool.and_comm (!dA _ _)];exact hc4
            rw[if_neg (by rw[hgood];decide)] at hun;refine wp_skip (aO (aa (ah ?_)));refine mv h105 rfl rfl fun _ h107=>?_;refine sv h107 (bb (v':=.int .i64 ((i+1+(m+1):Nat):Int)) (congrArg _ (by omega)) (aV (h107.ev rfl) (h107.ev rfl) (by omega))) fun _ h108=>?_;refine ma h108 rfl rfl fun _ h109=>?_;refine ae (aa ?_);exact⟨m+1,(by omega),⟨hlt2,by rw[hun,hstk,hopy,Bool.or_false,List.drop_drop]⟩,h109.re ⟨rfl,rfl,rfl,rfl,rfl,rfl,rfl,rfl,rfl,trivial⟩,S104.sub (.cons _ (.cons _ .slnil))⟩
        case hB=>kernel_rfl
        case hst=>rfl
   case hB=>kernel_rfl
   case hne=>rfl
  ·
   have hge2:l.length-(i+1)≤m:=by have:=of_decide_eq_false hc1;omega
   have hin:=hF1.2;have hd0:(l.drop (i+1)).drop m=[]:=List.drop_of_length_le (by rw[hrl];exact hge2);rw[hd0,kv] at hin;refine wp_exit ?_;refine av ?_;refine av ?_;refine bn ?_;refine aO (aa (ah ?_));refine mv h15 rfl rfl fun _ h110=>?_;refine sv h110 (aV (h110.ev rfl) (h110.ev rfl) (by omega)) fun _ h111=>?_;refine ma h111 rfl rfl fun _ h112=>?_;refine ae (aa ?_);exact⟨i+1,(by omega),⟨hlt,by rw[hF0.2,hst,hin];rfl⟩,h112.re ⟨rfl,rfl,trivial⟩,S11⟩
 ·
  have hge:l.length≤i:=by have:=of_decide_eq_false hc0;omega
  have hend:=hF0.2;rw[List.drop_of_length_le hge] at hend;refine wp_exit ?_;refine av ?_;refine av ?_;refine bn ?_;refine aa (ab (ah ?_));refine ma h7 rfl rfl fun _ h113=>?_;refine ae (aa (wp_ret ?_));refine bm h113 rfl rfl ?_;exact⟨by rw[hend];rfl,S3.below⟩
end Go.Proofs.YtcfdpfmchchkaaaGreatDoor
