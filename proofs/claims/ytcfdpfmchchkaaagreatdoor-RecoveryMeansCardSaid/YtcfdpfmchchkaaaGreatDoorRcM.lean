/-
  Chapter 22: the reference's errors and bytes of tables.
  Chapter 22: the reference's bytes of a table, and its table with any bytes.
  Chapter 22: the reference's table with any bytes.
-/
import Derived.Test.YtcfdpfmchchkaaaGreatDoorRcL
namespace Go.Proofs.YtcfdpfmchchkaaaGreatDoor
set_option linter.unusedVariables false
set_option linter.unusedSimpArgs false
set_option maxRecDepth 4000
open Go.RowKit Go.Sort Go.Shelf
theorem de {α:Type} {l:List α} {j:Nat} (h0:0<j) (hj:j<l.length):cB l j=some (l[j-1]'(by omega)):=by
 have:=ew l (j-1) (by omega)
 rwa [show j-1+1=j by omega] at this
theorem wo (b:Bool):aP [bO true 2,bO b 9]=bO b 9:=by cases b<;>rfl
theorem yf {p:Option Trn} {x:Trn} (h:(bE x.i 1 9999&&bE x.l 1 2147483647&&bE x.u 0 x.l)=false):j4 p x=2:=by unfold j4;rw[h];rfl
theorem p9 {p:Option Trn} {x:Trn} (h:(bE x.i 1 9999&&bE x.l 1 2147483647&&bE x.u 0 x.l)=true):j4 p x=bO (match p with | none=>true | some y=>decide (y.i<x.i)) 9:=by
 unfold j4;rw[h];exact wo _
theorem x9 {p:Option Dty} {x:Dty} (h:(bE x.g 0 600&&bE x.l 1 2147483647)=false):jX p x=2:=by unfold jX;rw[h];rfl
theorem qD {p:Option Dty} {x:Dty} (h:(bE x.g 0 600&&bE x.l 1 2147483647)=true):jX p x=bO (match p with | none=>true | some y=>decide (y.g<x.g)) 9:=by
 unfold jX;rw[h];exact wo _
theorem eI {α:Type} {f:Nat→α→Int} {l:List α} {j:Nat} (hj:j<l.length) (h:∀k (hk:k<l.length),k<j→f k l[k]=0) {e:Int} (he:f j l[j]=e) (h0:e≠0):(dk f 0 l).2=e:=by
 have:=ey f l 0 j hj (fun k hk hkj=>by rw[Nat.zero_add];exact h k hk hkj) (by rw[Nat.zero_add,he];exact h0);rw[Nat.zero_add,he] at this;rw[this]
def A3:Trn:=⟨0,0,0,false⟩
def Bj:Dty:=⟨0,false,0⟩
theorem mM (t:Tbl) (A:Option Addr) (c:Nat) (B:Option Addr) (d:Nat) (w:World) (hr:Rd w w.heap.size A (t.ts.flatMap cA)) (hs:Rd w w.heap.size B (t.ds.flatMap da)) :
 Calls Tryz.prog 21 #[cR t A c B d] w fun e w'=>e=.returned (.int .i64 (dR t))∧Below w.heap.size w w':=by
 obtain⟨E,hE⟩:∃E,E=dR t:=⟨_,rfl⟩;rw[←hE];unfold dR at hE;refine aF (N:=97) Tryz.func21 rfl rfl rfl (fun _ h0=>?_);have S0:=St.init w;refine ab (ah ?_);refine nb h0 rfl rfl S0 fun b1 _ _ gb1 h1 S1=>?_;refine ma h1 rfl rfl fun _ h2=>?_;refine ae (aa (ab (ab (ah ?_))));refine vf h2 0 0 rfl rfl rfl fun _ h3=>?_;refine vl h3 S1 0 rfl rfl rfl rfl fun _ h4=>?_;refine sv h4 (bf Tryz.underlying22 (h4.ev rfl)) fun _ h5=>?_;refine sv h5 (cD (h5.ev rfl) (h5.ev rfl)) fun _ h6=>?_;refine mv h6 rfl rfl fun _ h7=>?_;apply dw h7 S1 11 rfl 5 16
 case hf=>
  intro gc11;refine sy h7 rfl rfl rfl gc11 (aj (off:=1) (j:=1) (by kernel_rfl) (h7.ev rfl) rfl) rfl rfl fun _ h8=>?_;refine sy h8 rfl rfl rfl gc11 (aw (by kernel_rfl) (h8.ev rfl) (S1.cell (i:=0) rfl rfl)) rfl rfl fun _ h9=>?_;refine sy h9 rfl rfl rfl gc11 (bf Tryz.underlying23 (h9.ev rfl)) rfl rfl fun _ h10=>?_;refine sy h10 rfl rfl rfl gc11 (cD (h10.ev rfl) (h10.ev rfl)) rfl rfl fun _ h11=>?_;refine sv h11 (aD (h11.ev rfl) gc11 (h11.ev rfl)) fun _ h12=>?_;exact ae ⟨h12.mid (m:=[(_,_),(_,_),(_,_),(_,_)]) rfl,S1⟩
 case ht=>
  intro gc11;refine no h7 rfl rfl rfl gc11 rfl rfl fun _ h13=>?_;refine no h13 rfl rfl rfl gc11 rfl rfl fun _ h14=>?_;refine no h14 rfl rfl rfl gc11 rfl rfl fun _ h15=>?_;refine no h15 rfl rfl rfl gc11 rfl rfl fun _ h16=>?_;refine sv h16 (aA (h16.ev rfl) gc11 (h16.ev rfl)) fun _ h17=>?_;exact ae ⟨h17.mid (m:=[(_,_),(_,_),(_,_),(_,_)]) rfl,S1⟩
 case h=>
  rintro a18 X18 ⟨h18,S18⟩
  refine ae (aa ?_);refine aB (h18.ev rfl) (fun hc0=>?_) (fun hc0=>?_)
  ·
   rw[if_pos (by have:=hc0;simp at this;omega)] at hE;refine ab (ah ?_);refine ma h18 rfl rfl fun _ h19=>?_;refine ae (aa (wp_ret (ai ?_)));refine bm h19 rfl rfl ?_;exact⟨by rw[hE],S18.below⟩
  ·
   rw[if_neg (by rw[Bool.or_eq_false_iff] at hc0;simp at hc0;omega)] at hE
   have hn:t.ts.length≤60∧t.ds.length≤60:=by rw[Bool.or_eq_false_iff] at hc0;simp at hc0;omega
   refine wp_skip (aa (ab (ab (ah ?_))));refine ma h18 rfl rfl fun _ h20=>?_;refine ae (aa (wp_block ?_));refine bz h20 S18 [1] (fun (j:Nat)=>[(3,.int .i64 (j:Nat))]) (fun (j:Nat)=>j≤t.ts.length∧∀k (hk:k<t.ts.length),k<j→j4 (cB t.ts k) t.ts[k]=0) (fun (j:Nat) L=>L) (fun (j:Nat)=>t.ts.length-j) (0) (⟨Nat.zero_le _,fun k _ h=>absurd h (Nat.not_lt_zero _)⟩) ⟨rfl,rfl,trivial⟩ (S18) ?_;intro j _ _ hF0 h21 S21;refine ab (ab (ah ?_));refine mv h21 rfl rfl fun _ h22=>?_;refine vf h22 0 0 rfl rfl rfl fun _ h23=>?_;refine vl h23 S21 0 rfl rfl rfl rfl fun _ h24=>?_;refine sv h24 (bf Tryz.underlying22 (h24.ev rfl)) fun _ h25=>?_;refine sv h25 (bq (h25.ev rfl) (h25.ev rfl)) fun _ h26=>?_;refine ae (aa ?_);refine aB (h26.ev rfl) (fun hc1=>?_) (fun hc1=>?_)
   ·
    have hlt:j<t.ts.length:=by have:=of_decide_eq_true hc1;omega
    obtain⟨b,o,rfl,hB,_⟩:=hr.opened (aR cW (by decide) (by omega));refine wp_skip (aa (ab (wp_block (ab (ah ?_)))));refine vf h26 0 0 rfl rfl rfl fun _ h27=>?_;refine vl h27 S21 0 rfl rfl rfl rfl fun _ h28=>?_;refine mv h28 rfl rfl fun _ h29=>?_;refine sv h29 (aC (i:=j) (sz:=4) Tryz.underlying22 (by kernel_rfl) (h29.ev rfl) (h29.ev rfl) (by omega) (by omega) rfl) fun _ h30=>?_;refine sv (v:=fg t.ts[j]) h30 (ay (by kernel_rfl) (by kernel_rfl) (h30.ev rfl) (a7 cW (S21.rd0 hr) hlt)) fun _ h31=>?_;refine na (.agg #[.int .i64 0,.int .i64 0,.int .i64 0,.bool false]) h31 rfl S21 fun b4 _ _ gb4 h32 S32=>?_;refine aG h32 (wn rfl) ⟨rfl,rfl⟩ (h32.ev rfl) (h32.ev rfl) rfl (by kernel_rfl) S32 (i:=0) rfl rfl rfl fun _ S33=>?_;refine ae (aa (ab (ab (ah ?_))));refine vf h32 0 0 rfl rfl rfl fun _ h34=>?_;refine vl h34 S33 0 rfl rfl rfl rfl fun _ h35=>?_;refine bD h35 (wn rfl) (aq (fun _ _=>by kernel_rfl) (h35.evs rfl) rfl) rfl rfl (aT _ _ _ _) fun _ h36=>?_;refine sv h36 (bL (h36.ev rfl)) fun _ h37=>?_;refine mv h37 rfl rfl fun _ h38=>?_;apply dw h38 S33 33 rfl 5 38
    case hf=>
     intro gc33;refine sy h38 rfl rfl rfl gc33 (aj (off:=1) (j:=1) (by kernel_rfl) (h38.ev rfl) rfl) rfl rfl fun _ h39=>?_;refine sy h39 rfl rfl rfl gc33 (aw (by kernel_rfl) (h39.ev rfl) (S33.cell (i:=0) rfl rfl)) rfl rfl fun _ h40=>?_;refine bD h40 (ag h40 _ rfl rfl rfl gc33) (aq (fun _ _=>by kernel_rfl) (h40.evs rfl) rfl) rfl rfl (aT _ _ _ _) fun _ h41=>?_;refine sy h41 rfl rfl rfl gc33 (bL (h41.ev rfl)) rfl rfl fun _ h42=>?_;refine sv h42 (aD (h42.ev rfl) gc33 (h42.ev rfl)) fun _ h43=>?_;exact ae ⟨h43.mid (m:=[(_,_),(_,_),(_,_),(_,_)]) rfl,S33⟩
    case ht=>
     intro gc33;refine no h38 rfl rfl rfl gc33 rfl rfl fun _ h44=>?_;refine no h44 rfl rfl rfl gc33 rfl rfl fun _ h45=>?_;refine no h45 rfl rfl rfl gc33 rfl rfl fun _ h46=>?_;refine no h46 rfl rfl rfl gc33 rfl rfl fun _ h47=>?_;refine sv h47 (aA (h47.ev rfl) gc33 (h47.ev rfl)) fun _ h48=>?_;exact ae ⟨h48.mid (m:=[(_,_),(_,_),(_,_),(_,_)]) rfl,S33⟩
    case h=>
     rintro a49 X49 ⟨h49,S49⟩
     refine mv h49 rfl rfl fun _ h50=>?_;apply dw h50 S49 39 rfl 7 46
     case hf=>
      intro gc39;refine sy h50 rfl rfl rfl gc39 (aj (off:=2) (j:=2) (by kernel_rfl) (h50.ev rfl) rfl) rfl rfl fun _ h51=>?_;refine sy h51 rfl rfl rfl gc39 (aw (by kernel_rfl) (h51.ev rfl) (S49.cell (i:=0) rfl rfl)) rfl rfl fun _ h52=>?_;refine sy h52 rfl rfl rfl gc39 (aj (off:=1) (j:=1) (by kernel_rfl) (h52.ev rfl) rfl) rfl rfl fun _ h53=>?_;refine sy h53 rfl rfl rfl gc39 (aw (by kernel_rfl) (h53.ev rfl) (S49.cell (i:=0) rfl rfl)) rfl rfl fun _ h54=>?_;refine bD h54 (ag h54 _ rfl rfl rfl gc39) (aq (fun _ _=>by kernel_rfl) (h54.evs rfl) rfl) rfl rfl (aT _ _ _ _) fun _ h55=>?_;refine sy h55 rfl rfl rfl gc39 (bL (h55.ev rfl)) rfl rfl fun _ h56=>?_;refine sv h56 (aD (h56.ev rfl) gc39 (h56.ev rfl)) fun _ h57=>?_;exact ae ⟨h57.mid (m:=[(_,_),(_,_),(_,_),(_,_),(_,_),(_,_)]) rfl,S49⟩
     case ht=>
      intro gc39;refine no h50 rfl rfl rfl gc39 rfl rfl fun _ h58=>?_;refine no h58 rfl rfl rfl gc39 rfl rfl fun _ h59=>?_;refine no h59 rfl rfl rfl gc39 rfl rfl fun _ h60=>?_;refine no h60 rfl rfl rfl gc39 rfl rfl fun _ h61=>?_;refine no h61 rfl rfl rfl gc39 rfl rfl fun _ h62=>?_;refine no h62 rfl rfl rfl gc39 rfl rfl fun _ h63=>?_;refine sv h63 (aA (h63.ev rfl) gc39 (h63.ev rfl)) fun _ h64=>?_;exact ae ⟨h64.mid (m:=[(_,_),(_,_),(_,_),(_,_),(_,_),(_,_)]) rfl,S49⟩
     case h=>
      rintro a65 X65 ⟨h65,S65⟩
      refine ae (aa ?_);refine aB (h65.ev rfl) (fun hc2=>?_) (fun hc2=>?_)
      ·
       have hbad:(bE t.ts[j].i 1 9999&&bE t.ts[j].l 1 2147483647&&bE t.ts[j].u 0 t.ts[j].l)=false:=by
        cases q1:bE t.ts[j].i 1 9999<;>cases q2:bE t.ts[j].l 1 2147483647<;>cases q3:bE t.ts[j].u 0 t.ts[j].l<;>rw[q1,q2,q3] at hc2<;>first | rfl | (simp at hc2)
       have he:(jf t.ts).2=2:=eI (f:=fun i x=>j4 (cB t.ts i) x) hlt hF0.2 (yf hbad) (by decide);rw[he,if_pos (by decide)] at hE;refine ab (ah ?_);refine ma h65 rfl rfl fun _ h66=>?_;refine ae (aa (wp_ret (ai (az (ai (ai (az (ai ?_))))))));refine bm h66 rfl rfl ?_;exact⟨by rw[hE],S65.below⟩
      ·
       have hgood:(bE t.ts[j].i 1 9999&&bE t.ts[j].l 1 2147483647&&bE t.ts[j].u 0 t.ts[j].l)=true:=by
        cases q1:bE t.ts[j].i 1 9999<;>cases q2:bE t.ts[j].l 1 2147483647<;>cases q3:bE t.ts[j].u 0 t.ts[j].l<;>rw[q1,q2,q3] at hc2<;>first | rfl | (simp at hc2)
       refine wp_skip (aa (ab ?_));apply bA h65 [false,false,false,false,false,false,false,false,false,false,false,false,false] _ (by kernel_rfl)
       case h=>
        refine qv h65 (fun X hX=>ak (h65.ev rfl)) fun _ h67=>?_;refine qv h67 (fun X hX=>cD (h67.ev rfl) (h67.ev rfl)) fun _ h68=>?_;refine qv h68 (fun X hX=>ak (h68.ev rfl)) fun _ h69=>?_;apply kA h69 49 rfl 10 59
        case ht=>
         intro gc49
         have hj0:0<j:=by have:=of_decide_eq_true gc49;omega
         refine ax h69 (ag h69 _ rfl rfl rfl gc49) rfl rfl (fun X hX=>(aj (off:=0) (j:=0) (by kernel_rfl) (h69.ev rfl) rfl)) fun _ h70=>?_;refine ax h70 (ag h70 _ rfl rfl rfl gc49) rfl rfl (fun X hX=>(aw (by kernel_rfl) (h70.ev rfl) ((S65.grow hX).cell (i:=0) rfl rfl))) fun _ h71=>?_;refine ax h71 (ag h71 _ rfl rfl rfl gc49) rfl rfl (fun X hX=>(aj (off:=0) (j:=0) (by kernel_rfl) (h71.ev rfl) rfl)) fun _ h72=>?_;refine ax h72 (ag h72 _ rfl rfl rfl gc49) rfl rfl (fun X hX=>(aw (by kernel_rfl) (h72.ev rfl) ((S65.grow hX).cell (i:=1) rfl rfl))) fun _ h73=>?_;refine ax h73 (ag h73 _ rfl rfl rfl gc49) rfl rfl (fun X hX=>(ak (h73.ev rfl))) fun _ h74=>?_;refine ax h74 (ag h74 _ rfl rfl rfl gc49) rfl rfl (fun X hX=>(fH (h74.ev rfl) (h74.ev rfl) (by omega))) fun _ h75=>?_;refine ax h75 (ag h75 _ rfl rfl rfl gc49) rfl rfl (fun X hX=>(aC (i:=j-1) (sz:=4) Tryz.underlying22 (by kernel_rfl) (h75.ev rfl) (h75.ev rfl) (by omega) (by omega) rfl)) fun _ h76=>?_;refine ax h76 (ag h76 _ rfl rfl rfl gc49) rfl rfl (fun X hX=>(aj (off:=0) (by kernel_rfl) (h76.ev rfl) rfl)) fun _ h77=>?_;refine ax h77 (ag h77 _ rfl rfl rfl gc49) rfl rfl (fun X hX=>(aw (by kernel_rfl) (h77.ev rfl) ((a7 cW ((S65.grow hX).rd0 hr) (show j-1<t.ts.length by omega)) 0 _ rfl))) fun _ h78=>?_;refine ax h78 (ag h78 _ rfl rfl rfl gc49) rfl rfl (fun X hX=>(bb (v':=.bool (decide (t.ts[j].i≤((cB t.ts j).getD A3).i))) (by rw[de hj0 hlt,Option.getD_some]) (gq (h78.ev rfl) (h78.ev rfl)))) fun _ h79=>?_;exact aI (h79.mid (m:=[(_,_),(_,_),(_,_),(_,_),(_,_),(_,_),(_,_),(_,_),(_,_)]) rfl)
        case hf=>
         intro gc49;refine qo h69 rfl rfl rfl gc49 rfl rfl fun _ h80=>?_;refine qo h80 rfl rfl rfl gc49 rfl rfl fun _ h81=>?_;refine qo h81 rfl rfl rfl gc49 rfl rfl fun _ h82=>?_;refine qo h82 rfl rfl rfl gc49 rfl rfl fun _ h83=>?_;refine qo h83 rfl rfl rfl gc49 rfl rfl fun _ h84=>?_;refine qo h84 rfl rfl rfl gc49 rfl rfl fun _ h85=>?_;refine qo h85 rfl rfl rfl gc49 rfl rfl fun _ h86=>?_;refine qo h86 rfl rfl rfl gc49 rfl rfl fun _ h87=>?_;refine qo h87 rfl rfl rfl gc49 rfl rfl fun _ h88=>?_;refine qo h88 rfl rfl rfl gc49 rfl rfl fun _ h89=>?_;exact aI ⟨_,h89.mid (m:=[(_,_),(_,_),(_,_),(_,_),(_,_),(_,_),(_,_),(_,_),(_,_)]) rfl⟩
        case h=>
         intro v90 _ hg59 h90;refine aI ?_;refine bF fun _ hX91 hΦ91=>?_;have S91:=S65.grow hX91;refine sv h90 (eu (h90.ev rfl) (h90.ev rfl) hg59 (h90.ev rfl)) fun _ h92=>?_;refine ae (aa ?_);refine aB (h92.ev rfl) (fun hc3=>?_) (fun hc3=>?_)
         ·
          have he:(jf t.ts).2=9:=by
           obtain⟨u1,u2⟩:=Bool.and_eq_true_iff.1 hc3
           have hj0:0<j:=by have:=of_decide_eq_true u1;omega
           refine eI (f:=fun i x=>j4 (cB t.ts i) x) hlt hF0.2 ?_ (by decide);rw[p9 hgood];rw[de hj0 hlt] at u2 ⊢;have:=of_decide_eq_true u2;show bO (decide (t.ts[j-1].i<t.ts[j].i)) 9=9;rw[decide_eq_false (by change t.ts[j].i≤t.ts[j-1].i at this;omega)];rfl
          rw[he,if_pos (by decide)] at hE;refine ab (ah ?_);refine ma h92 rfl rfl fun _ h93=>?_;refine ae (aa (wp_ret (az (ai (ai (az (ai ?_)))))));refine bm h93 rfl rfl ?_;exact⟨by rw[hE],S91.below⟩
         ·
          have hz:j4 (cB t.ts j) t.ts[j]=0:=by
           rw[p9 hgood];rcases Nat.eq_zero_or_pos j with h0 | h0
           · subst h0;rfl
           · rw[decide_eq_true (by omega:(j:Int)>0),Bool.true_and,de h0 hlt] at hc3
             have:=of_decide_eq_false hc3;rw[de h0 hlt];show bO (decide (t.ts[j-1].i<t.ts[j].i)) 9=0;rw[decide_eq_true (by change ¬t.ts[j].i≤t.ts[j-1].i at this;omega)];rfl
          refine wp_skip (aO (aa (ah ?_)));refine mv h92 rfl rfl fun _ h94=>?_;refine sv h94 (aV (h94.ev rfl) (h94.ev rfl) (by omega)) fun _ h95=>?_;refine ma h95 rfl rfl fun _ h96=>?_;refine ae (aa ?_);exact⟨j+1,(by omega),⟨hlt,fun k hk hkj=>by rcases Nat.lt_or_eq_of_le (show k≤j by omega) with q | q;exact hF0.2 k hk q;subst q;exact hz⟩,h96.re ⟨rfl,rfl,trivial⟩,(S91.sub (.cons _ (.cons_cons _ .slnil)))⟩
       case hB=>kernel_rfl
       case hst=>rfl
   ·
    have hge:t.ts.length≤j:=by have:=of_decide_eq_false hc1;omega
    have hz0:(jf t.ts).2=0:=(cQ _ _).2 fun k hk=>hF0.2 k hk (by omega);rw[if_neg (fun h=>h hz0)] at hE;refine wp_exit ?_;refine av ?_;refine av ?_;refine bn ?_;refine aa (ab (ab (ah ?_)));refine ma h26 rfl rfl fun _ h97=>?_;refine ae (aa (wp_block ?_));refine bz h97 S21 [1] (fun (j:Nat)=>[(5,.int .i64 (j:Nat))]) (fun (j:Nat)=>j≤t.ds.length∧∀k (hk:k<t.ds.length),k<j→jX (cB t.ds k) t.ds[k]=0) (fun (j:Nat) L=>L) (fun (j:Nat)=>t.ds.length-j) (0) (⟨Nat.zero_le _,fun k _ h=>absurd h (Nat.not_lt_zero _)⟩) ⟨rfl,rfl,trivial⟩ (S21) ?_;intro j _ _ hF1 h98 S98;refine ab (ab (ah ?_));refine mv h98 rfl rfl fun _ h99=>?_;refine vf h99 1 1 rfl rfl rfl fun _ h100=>?_;refine vl h100 S98 0 rfl rfl rfl rfl fun _ h101=>?_;refine sv h101 (bf Tryz.underlying23 (h101.ev rfl)) fun _ h102=>?_;refine sv h102 (bq (h102.ev rfl) (h102.ev rfl)) fun _ h103=>?_;refine ae (aa ?_);refine aB (h103.ev rfl) (fun hc4=>?_) (fun hc4=>?_)
    ·
     have hlt:j<t.ds.length:=by have:=of_decide_eq_true hc4;omega
     obtain⟨b,o,rfl,hB,_⟩:=hs.opened (aR dD (by decide) (by omega));refine wp_skip (aa (ab (wp_block (ab (ah ?_)))));refine vf h103 1 1 rfl rfl rfl fun _ h104=>?_;refine vl h104 S98 0 rfl rfl rfl rfl fun _ h105=>?_;refine mv h105 rfl rfl fun _ h106=>?_;refine sv h106 (aC (i:=j) (sz:=3) Tryz.underlying23 (by kernel_rfl) (h106.ev rfl) (h106.ev rfl) (by omega) (by omega) rfl) fun _ h107=>?_;refine sv (v:=fR t.ds[j]) h107 (ay (by kernel_rfl) (by kernel_rfl) (h107.ev rfl) (a7 dD (S98.rd0 hs) hlt)) fun _ h108=>?_;refine na (.agg #[.int .i64 0,.bool false,.int .i64 0]) h108 rfl S98 fun b6 _ _ gb6 h109 S109=>?_;refine aG h109 (wn rfl) ⟨rfl,rfl⟩ (h109.ev rfl) (h109.ev rfl) rfl (by kernel_rfl) S109 (i:=0) rfl rfl rfl fun _ S110=>?_;refine ae (aa (ab (ab (ah ?_))));refine vf h109 0 0 rfl rfl rfl fun _ h111=>?_;refine vl h111 S110 0 rfl rfl rfl rfl fun _ h112=>?_;refine bD h112 (wn rfl) (aq (fun _ _=>by kernel_rfl) (h112.evs rfl) rfl) rfl rfl (aT _ _ _ _) fun _ h113=>?_;refine sv h113 (bL (h113.ev rfl)) fun _ h114=>?_;refine mv h114 rfl rfl fun _ h115=>?_;apply dw h115 S110 77 rfl 5 82
     case hf=>
      intro gc77;refine sy h115 rfl rfl rfl gc77 (aj (off:=2) (j:=2) (by kernel_rfl) (h115.ev rfl) rfl) rfl rfl fun _ h116=>?_;refine sy h116 rfl rfl rfl gc77 (aw (by kernel_rfl) (h116.ev rfl) (S110.cell (i:=0) rfl rfl)) rfl rfl fun _ h117=>?_;refine bD h117 (ag h117 _ rfl rfl rfl gc77) (aq (fun _ _=>by kernel_rfl) (h117.evs rfl) rfl) rfl rfl (aT _ _ _ _) fun _ h118=>?_;refine sy h118 rfl rfl rfl gc77 (bL (h118.ev rfl)) rfl rfl fun _ h119=>?_;refine sv h119 (aD (h119.ev rfl) gc77 (h119.ev rfl)) fun _ h120=>?_;exact ae ⟨h120.mid (m:=[(_,_),(_,_),(_,_),(_,_)]) rfl,S110⟩
     case ht=>
      intro gc77;refine no h115 rfl rfl rfl gc77 rfl rfl fun _ h121=>?_;refine no h121 rfl rfl rfl gc77 rfl rfl fun _ h122=>?_;refine no h122 rfl rfl rfl gc77 rfl rfl fun _ h123=>?_;refine no h123 rfl rfl rfl gc77 rfl rfl fun _ h124=>?_;refine sv h124 (aA (h124.ev rfl) gc77 (h124.ev rfl)) fun _ h125=>?_;exact ae ⟨h125.mid (m:=[(_,_),(_,_),(_,_),(_,_)]) rfl,S110⟩
     case h=>
      rintro a126 X126 ⟨h126,S126⟩
      refine ae (aa ?_);refine aB (h126.ev rfl) (fun hc5=>?_) (fun hc5=>?_)
      ·
       have hbad:(bE t.ds[j].g 0 600&&bE t.ds[j].l 1 2147483647)=false:=by
        cases q1:bE t.ds[j].g 0 600<;>cases q2:bE t.ds[j].l 1 2147483647<;>rw[q1,q2] at hc5<;>first | rfl | (simp at hc5)
       have he:(rn t.ds).2=2:=eI (f:=fun i x=>jX (cB t.ds i) x) hlt hF1.2 (x9 hbad) (by decide);rw[he] at hE;refine ab (ah ?_);refine ma h126 rfl rfl fun _ h127=>?_;refine ae (aa (wp_ret (ai (az (ai (ai (az (ai ?_))))))));refine bm h127 rfl rfl ?_;exact⟨by rw[hE],S126.below⟩
      ·
       have hgood:(bE t.ds[j].g 0 600&&bE t.ds[j].l 1 2147483647)=true:=by
        cases q1:bE t.ds[j].g 0 600<;>cases q2:bE t.ds[j].l 1 2147483647<;>rw[q1,q2] at hc5<;>first | rfl | (simp at hc5)
       refine wp_skip (aa (ab ?_));apply bA h126 [false,false,false,false,false,false,false,false,false,false,false,false,false] _ (by kernel_rfl)
       case h=>
        refine qv h126 (fun X hX=>ak (h126.ev rfl)) fun _ h128=>?_;refine qv h128 (fun X hX=>cD (h128.ev rfl) (h128.ev rfl)) fun _ h129=>?_;refine qv h129 (fun X hX=>ak (h129.ev rfl)) fun _ h130=>?_;apply kA h130 85 rfl 10 95
        case ht=>
         intro gc85
         have hj0:0<j:=by have:=of_decide_eq_true gc85;omega
         refine ax h130 (ag h130 _ rfl rfl rfl gc85) rfl rfl (fun X hX=>(aj (off:=0) (j:=0) (by kernel_rfl) (h130.ev rfl) rfl)) fun _ h131=>?_;refine ax h131 (ag h131 _ rfl rfl rfl gc85) rfl rfl (fun X hX=>(aw (by kernel_rfl) (h131.ev rfl) ((S126.grow hX).cell (i:=0) rfl rfl))) fun _ h132=>?_;refine ax h132 (ag h132 _ rfl rfl rfl gc85) rfl rfl (fun X hX=>(aj (off:=1) (j:=1) (by kernel_rfl) (h132.ev rfl) rfl)) fun _ h133=>?_;refine ax h133 (ag h133 _ rfl rfl rfl gc85) rfl rfl (fun X hX=>(aw (by kernel_rfl) (h133.ev rfl) ((S126.grow hX).cell (i:=1) rfl rfl))) fun _ h134=>?_;refine ax h134 (ag h134 _ rfl rfl rfl gc85) rfl rfl (fun X hX=>(ak (h134.ev rfl))) fun _ h135=>?_;refine ax h135 (ag h135 _ rfl rfl rfl gc85) rfl rfl (fun X hX=>(fH (h135.ev rfl) (h135.ev rfl) (by omega))) fun _ h136=>?_;refine ax h136 (ag h136 _ rfl rfl rfl gc85) rfl rfl (fun X hX=>(aC (i:=j-1) (sz:=3) Tryz.underlying23 (by kernel_rfl) (h136.ev rfl) (h136.ev rfl) (by omega) (by omega) rfl)) fun _ h137=>?_;refine ax h137 (ag h137 _ rfl rfl rfl gc85) rfl rfl (fun X hX=>(aj (off:=0) (by kernel_rfl) (h137.ev rfl) rfl)) fun _ h138=>?_;refine ax h138 (ag h138 _ rfl rfl rfl gc85) rfl rfl (fun X hX=>(aw (by kernel_rfl) (h138.ev rfl) ((a7 dD ((S126.grow hX).rd0 hs) (show j-1<t.ds.length by omega)) 0 _ rfl))) fun _ h139=>?_;refine ax h139 (ag h139 _ rfl rfl rfl gc85) rfl rfl (fun X hX=>(bb (v':=.bool (decide (t.ds[j].g≤((cB t.ds j).getD Bj).g))) (by rw[de hj0 hlt,Option.getD_some]) (gq (h139.ev rfl) (h139.ev rfl)))) fun _ h140=>?_;exact aI (h140.mid (m:=[(_,_),(_,_),(_,_),(_,_),(_,_),(_,_),(_,_),(_,_),(_,_)]) rfl)
        case hf=>
         intro gc85;refine qo h130 rfl rfl rfl gc85 rfl rfl fun _ h141=>?_;refine qo h141 rfl rfl rfl gc85 rfl rfl fun _ h142=>?_;refine qo h142 rfl rfl rfl gc85 rfl rfl fun _ h143=>?_;refine qo h143 rfl rfl rfl gc85 rfl rfl fun _ h144=>?_;refine qo h144 rfl rfl rfl gc85 rfl rfl fun _ h145=>?_;refine qo h145 rfl rfl rfl gc85 rfl rfl fun _ h146=>?_;refine qo h146 rfl rfl rfl gc85 rfl rfl fun _ h147=>?_;refine qo h147 rfl rfl rfl gc85 rfl rfl fun _ h148=>?_;refine qo h148 rfl rfl rfl gc85 rfl rfl fun _ h149=>?_;refine qo h149 rfl rfl rfl gc85 rfl rfl fun _ h150=>?_;exact aI ⟨_,h150.mid (m:=[(_,_),(_,_),(_,_),(_,_),(_,_),(_,_),(_,_),(_,_),(_,_)]) rfl⟩
        case h=>
         intro v151 _ hg95 h151;refine aI ?_;refine bF fun _ hX152 hΦ152=>?_;have S152:=S126.grow hX152;refine sv h151 (eu (h151.ev rfl) (h151.ev rfl) hg95 (h151.ev rfl)) fun _ h153=>?_;refine ae (aa ?_);refine aB (h153.ev rfl) (fun hc6=>?_) (fun hc6=>?_)
         ·
          have he:(rn t.ds).2=9:=by
           obtain⟨u1,u2⟩:=Bool.and_eq_true_iff.1 hc6
           have hj0:0<j:=by have:=of_decide_eq_true u1;omega
           refine eI (f:=fun i x=>jX (cB t.ds i) x) hlt hF1.2 ?_ (by decide);rw[qD hgood];rw[de hj0 hlt] at u2 ⊢;have:=of_decide_eq_true u2;show bO (decide (t.ds[j-1].g<t.ds[j].g)) 9=9;rw[decide_eq_false (by change t.ds[j].g≤t.ds[j-1].g at this;omega)];rfl
          rw[he] at hE;refine ab (ah ?_);refine ma h153 rfl rfl fun _ h154=>?_;refine ae (aa (wp_ret (az (ai (ai (az (ai ?_)))))));refine bm h154 rfl rfl ?_;exact⟨by rw[hE],S152.below⟩
         ·
          have hz:jX (cB t.ds j) t.ds[j]=0:=by
           rw[qD hgood];rcases Nat.eq_zero_or_pos j with h0 | h0
           · subst h0;rfl
           · rw[decide_eq_true (by omega:(j:Int)>0),Bool.true_and,de h0 hlt] at hc6
             have:=of_decide_eq_false hc6;rw[de h0 hlt];show bO (decide (t.ds[j-1].g<t.ds[j].g)) 9=0;rw[decide_eq_true (by change ¬t.ds[j].g≤t.ds[j-1].g at this;omega)];rfl
          refine wp_skip (aO (aa (ah ?_)));refine mv h153 rfl rfl fun _ h155=>?_;refine sv h155 (aV (h155.ev rfl) (h155.ev rfl) (by omega)) fun _ h156=>?_;refine ma h156 rfl rfl fun _ h157=>?_;refine ae (aa ?_);exact⟨j+1,(by omega),⟨hlt,fun k hk hkj=>by rcases Nat.lt_or_eq_of_le (show k≤j by omega) with q | q;exact hF1.2 k hk q;subst q;exact hz⟩,h157.re ⟨rfl,rfl,trivial⟩,(S152.sub (.cons _ (.cons_cons _ .slnil)))⟩
       case hB=>kernel_rfl
       case hst=>rfl
    ·
     have hge:t.ds.length≤j:=by have:=of_decide_eq_false hc4;omega
     have hz1:(rn t.ds).2=0:=(cQ _ _).2 fun k hk=>hF1.2 k hk (by omega);rw[hz1] at hE;refine wp_exit ?_;refine av ?_;refine av ?_;refine bn ?_;refine aa (ab (ah ?_));refine ma h103 rfl rfl fun _ h158=>?_;refine ae (aa (wp_ret ?_));refine bm h158 rfl rfl ?_;exact⟨by rw[hE],S98.below⟩
set_option maxRecDepth 4000
open Go.RowKit Go.Sort Go.Shelf
theorem dy (s:List UInt8) (a c:Nat) (h1:a+c≤s.length) (hs:s.length≤100000) (hc:c≤6) (w:World) :
 Calls Tryz.prog 73 #[.string (bs s),.int .i64 a,.int .i64 c] w fun e w'=>e=.returned (.int .i64 (ja s a c))∧w=w':=by
 have h:=o9 (bs s) a c (by rw[en];exact h1) (by rw[en];unfold maxLen;omega) hc w;rw[s6] at h;exact h
set_option maxRecDepth 4000
open Go.RowKit Go.Sort Go.Shelf
theorem wJ {l:List UInt8} (k:Nat):(ia l (k+1)).flatMap cA=(ia l k).flatMap cA ++ [.int .i64 (ja l (2+11*k) 2),.int .i64 (ja l (2+11*k+2) 4),.int .i64 (ja l (2+11*k+6) 4),.bool (ja l (2+11*k+10) 1==1)]:=by
 rw[nJ,List.flatMap_append];rfl
theorem yb {l:List UInt8} (k:Nat):(i7 l (k+1)).flatMap da=(i7 l k).flatMap da ++ [.int .i64 (ja l (2+11*bu l+7*k) 2),.bool (ja l (2+11*bu l+7*k+2) 1==1),.int .i64 (ja l (2+11*bu l+7*k+3) 4)]:=by
 rw[nF,List.flatMap_append];rfl
theorem pI (l:List UInt8) (w:World) (hl:l.length≤100000) :
 Calls Tryz.prog 19 #[.string (bs l)] w fun e w'=>∃i:Option Addr × Nat × Option Addr × Nat,e=.returned (.tuple #[cR (di l) i.1 i.2.1 i.2.2.1 i.2.2.2,.int .i64 (fQ l)]) ∧
  St [] w w' [.row (.slice i.1 (di l).ts.length i.2.1) (di l).ts.length 116 4 ((di l).ts.flatMap cA),.row (.slice i.2.2.1 (di l).ds.length i.2.2.2) (di l).ds.length 124 3 ((di l).ds.flatMap da)]:=by
 have hsz:(bs l).size=l.length:=en l;have hN0:=xY l 0 1;have hM0:=xY l 1 1
 have hNi:((bu l:Nat):Int)=ja l 0 1:=by unfold bu;omega
 have hMi:((dN l:Nat):Int)=ja l 1 1:=by unfold dN;omega
 have hNb:bu l<256:=by have:=hN0.2;omega
 have hMb:dN l<256:=by have:=hM0.2;omega
 refine aF (N:=118) Tryz.func19 rfl rfl rfl (fun _ h0=>?_);have S0:=St.init w;refine ab (ah ?_);refine na (.agg #[.slice none 0 0,.slice none 0 0]) h0 rfl S0 fun b2 _ _ gb2 h1 S1=>?_;refine ma h1 rfl rfl fun _ h2=>?_;refine cm ?_;refine sv h2 (br (zs:=[.slice none 0 0,.slice none 0 0]) (pl:=[(0,1),(1,1)]) (by kernel_rfl) (by kernel_rfl) (h2.evs2 rfl) rfl rfl) fun _ h3=>?_;refine na (.agg #[.slice none 0 0,.slice none 0 0]) h3 rfl S1 fun b4 _ _ gb4 h4 S4=>?_;refine aG h4 (wn rfl) ⟨rfl,rfl⟩ (h4.ev rfl) (h4.ev rfl) rfl (by kernel_rfl) S4 (i:=0) rfl rfl rfl fun _ S5=>?_;refine ae (aa (ab (ab (ah ?_))));refine mv h4 rfl rfl fun _ h6=>?_;refine sv h6 (ft Tryz.underlying9 (h6.ev rfl)) fun _ h7=>?_;refine sv h7 (bq (h7.ev rfl) (h7.ev rfl)) fun _ h8=>?_;refine ae (aa ?_);refine aB (h8.ev rfl) (fun hc0=>?_) (fun hc0=>?_)
 ·
  have hE:fQ l=10:=by unfold fQ;rw[if_pos (by have:=of_decide_eq_true hc0;omega)]
  have hR:di l=gB:=by unfold di;rw[if_neg (by rw[hE];decide)]
  refine ab (ah ?_);refine sv h8 (ay (by kernel_rfl) (by kernel_rfl) (h8.ev rfl) (S5.cellsAll (i:=0) rfl)) fun _ h9=>?_;refine aG h9 (wn rfl) ⟨rfl,rfl⟩ (h9.ev rfl) (h9.ev rfl) rfl (by kernel_rfl) S5 (i:=1) rfl rfl rfl fun _ S10=>?_;refine ma h9 rfl rfl fun _ h11=>?_;refine ae (aa (wp_ret (ai ?_)));refine ek h11 rfl rfl rfl S10 (i:=1) rfl (by kernel_rfl) (by kernel_rfl) ?_;refine⟨(none,0,none,0),by rw[hR,hE];rfl,?_⟩;rw[hR];exact((S10.sub (List.nil_sublist _)).nilRow 124 3).nilRow 116 4
 ·
  have h2:2≤l.length:=by have:=of_decide_eq_false hc0;omega
  refine wp_skip (aa (ab (ah ?_)));refine mv h8 rfl rfl fun _ h12=>?_;refine bD h12 (wn rfl) (aq (fun _ _=>by kernel_rfl) (h12.evs rfl) rfl) rfl rfl (dy l 0 1 (by omega) hl (by decide) _) fun _ h13=>?_;rw[←hNi] at h13;refine mv h13 rfl rfl fun _ h14=>?_;refine bD h14 (wn rfl) (aq (fun _ _=>by kernel_rfl) (h14.evs rfl) rfl) rfl rfl (dy l 1 1 (by omega) hl (by decide) _) fun _ h15=>?_;rw[←hMi] at h15;refine ma h15 rfl rfl fun _ h16=>?_;refine ma h16 rfl rfl fun _ h17=>?_;refine ae (aa (ab (ab (ah ?_))));refine mv h17 rfl rfl fun _ h18=>?_;refine sv h18 (ft Tryz.underlying9 (h18.ev rfl)) fun _ h19=>?_;refine mv h19 rfl rfl fun _ h20=>?_;refine sv h20 (iL (h20.ev rfl) (h20.ev rfl) (by omega)) fun _ h21=>?_;refine sv h21 (aV (h21.ev rfl) (h21.ev rfl) (by omega)) fun _ h22=>?_;refine mv h22 rfl rfl fun _ h23=>?_;refine sv h23 (iL (h23.ev rfl) (h23.ev rfl) (by omega)) fun _ h24=>?_;refine sv h24 (aV (h24.ev rfl) (h24.ev rfl) (by omega)) fun _ h25=>?_;refine sv h25 (a8 (h25.ev rfl) (h25.ev rfl)) fun _ h26=>?_;refine ae (aa ?_);refine aB (h26.ev rfl) (fun hc1=>?_) (fun hc1=>?_)
  ·
   have hE:fQ l=10:=by
    unfold fQ;rw[if_neg (by omega),if_pos];intro q;rw[hsz,q] at hc1;simp at hc1
   have hR:di l=gB:=by unfold di;rw[if_neg (by rw[hE];decide)]
   refine ab (ah ?_);refine sv h26 (ay (by kernel_rfl) (by kernel_rfl) (h26.ev rfl) (S5.cellsAll (i:=0) rfl)) fun _ h27=>?_;refine aG h27 (wn rfl) ⟨rfl,rfl⟩ (h27.ev rfl) (h27.ev rfl) rfl (by kernel_rfl) S5 (i:=1) rfl rfl rfl fun _ S28=>?_;refine ma h27 rfl rfl fun _ h29=>?_;refine ae (aa (wp_ret (ai ?_)));refine ek h29 rfl rfl rfl S28 (i:=1) rfl (by kernel_rfl) (by kernel_rfl) ?_;refine⟨(none,0,none,0),by rw[hR,hE];rfl,?_⟩;rw[hR];exact((S28.sub (List.nil_sublist _)).nilRow 124 3).nilRow 116 4
  ·
   have h3:l.length=2+11*bu l+7*dN l:=by
    rw[hsz] at hc1;simp at hc1;omega
   refine wp_skip (aa (ab (ah ?_)));refine na (.agg #[.slice none 0 0,.slice none 0 0]) h26 rfl S5 fun b7 _ _ gb7 h30 S30=>?_;replace S30:=St.nilRow (St.nilRow S30 124 3) 116 4;refine cm ?_;refine ma h30 rfl rfl fun _ h31=>?_;refine ae (aa (ab (ab (ah ?_))));refine ma h31 rfl rfl fun _ h32=>?_;refine ae (aa (wp_block ?_));refine bz h32 S30 [7,6,5,4,3,2,0] (fun (q:Nat × Option Addr × Nat)=>[(9,.int .i64 (q.1:Nat)),(8,.bool (fL l q.1))]) (fun (q:Nat × Option Addr × Nat)=>q.1≤bu l) (fun q L=>[.row (.slice q.2.1 q.1 q.2.2) q.1 116 4 ((ia l q.1).flatMap cA),.row (.slice none 0 0) 0 124 3 [],.box b7 #[.slice q.2.1 q.1 q.2.2,.slice none 0 0] 25,.box b4 #[.slice none 0 0,.slice none 0 0] 25,.box b2 #[.slice none 0 0,.slice none 0 0] 25]) (fun (q:Nat × Option Addr × Nat)=>bu l-q.1) ((0,none,0)) (Nat.zero_le _) ⟨rfl,rfl,rfl,rfl,rfl,rfl,rfl,rfl,rfl,trivial⟩ (S30) ?_;intro q _ _ hF0 h33 S33;refine ab (ab (ah ?_));refine mv h33 rfl rfl fun _ h34=>?_;refine mv h34 rfl rfl fun _ h35=>?_;refine sv h35 (bq (h35.ev rfl) (h35.ev rfl)) fun _ h36=>?_;refine ae (aa ?_);refine aB (h36.ev rfl) (fun hc2=>?_) (fun hc2=>?_)
   ·
    have hlt:q.1<bu l:=by have:=of_decide_eq_true hc2;omega
    refine wp_skip (aa (ab (wp_block (ab (ah ?_)))));refine mv h36 rfl rfl fun _ h37=>?_;refine sv h37 (iL (h37.ev rfl) (h37.ev rfl) (by omega)) fun _ h38=>?_;refine sv h38 (bb (v':=.int .i64 ((2+11*q.1:Nat):Int)) (congrArg _ (by omega)) (aV (h38.ev rfl) (h38.ev rfl) (by omega))) fun _ h39=>?_;refine ma h39 rfl rfl fun _ h40=>?_;refine cm ?_;refine mv h40 rfl rfl fun _ h41=>?_;refine mv h41 rfl rfl fun _ h42=>?_;apply cq (x:=decide (ja l (2+11*q.1+10) 1≤1)) h42 S33 42 rfl 6 48
    case ht=>
     intro gc42;refine sy h42 rfl rfl rfl gc42 (ak (h42.ev rfl)) rfl rfl fun _ h43=>?_;refine sy h43 rfl rfl rfl gc42 (ak (h43.ev rfl)) rfl rfl fun _ h44=>?_;refine sy h44 rfl rfl rfl gc42 (bb (v':=.int .i64 ((2+11*q.1+10:Nat):Int)) (congrArg _ (by omega)) (aV (h44.ev rfl) (h44.ev rfl) (by omega))) rfl rfl fun _ h45=>?_;refine bD h45 (ag h45 _ rfl rfl rfl gc42) (aq (fun _ _=>by kernel_rfl) (h45.evs rfl) rfl) rfl rfl (dy l (2+11*q.1+10) 1 (by omega) hl (by decide) _) fun _ h46=>?_;refine sy h46 rfl rfl rfl gc42 (gq (h46.ev rfl) (h46.ev rfl)) rfl rfl fun _ h47=>?_;refine sv h47 (aA (h47.ev rfl) gc42 (h47.ev rfl)) fun _ h48=>?_;exact ae ⟨h48.mid (m:=[(_,_),(_,_),(_,_),(_,_),(_,_)]) rfl,S33⟩
    case hf=>
     intro gc42;refine no h42 rfl rfl rfl gc42 rfl rfl fun _ h49=>?_;refine no h49 rfl rfl rfl gc42 rfl rfl fun _ h50=>?_;refine no h50 rfl rfl rfl gc42 rfl rfl fun _ h51=>?_;refine no h51 rfl rfl rfl gc42 rfl rfl fun _ h52=>?_;refine no h52 rfl rfl rfl gc42 rfl rfl fun _ h53=>?_;refine sv h53 (aD (h53.ev rfl) gc42 (h53.ev rfl)) fun _ h54=>?_;exact ae ⟨h54.mid (m:=[(_,_),(_,_),(_,_),(_,_),(_,_)]) rfl,S33⟩
    case h=>
     rintro a55 X55 ⟨h55,S55⟩
     rw[←nS] at h55;refine ma h55 rfl rfl fun _ h56=>?_;refine ae (aa ?_);apply bA h56 [false,false,false,false,false,false,false,false,false,false,false,false,false,false,false,false,false,false,false,true] _ (by kernel_rfl)
     case h=>
      refine qv h56 (fun X hX=>aj (off:=0) (j:=0) (by kernel_rfl) (h56.ev rfl) rfl) fun _ h57=>?_;refine qv h57 (fun X hX=>aw (by kernel_rfl) (h57.ev rfl) ((S55.grow hX).cell (i:=2) rfl rfl)) fun _ h58=>?_;refine qv h58 (fun X hX=>ak (h58.ev rfl)) fun _ h59=>?_;refine qv h59 (fun X hX=>ak (h59.ev rfl)) fun _ h60=>?_;refine dn h60 (wn rfl) rfl rfl (fun X=>(aq (fun _ _=>by kernel_rfl) (h60.evs rfl) rfl)) (fun X hX=>dy l (2+11*q.1) 2 (by omega) hl (by decide) _) fun _ h61=>?_;refine qv h61 (fun X hX=>ak (h61.ev rfl)) fun _ h62=>?_;refine qv h62 (fun X hX=>ak (h62.ev rfl)) fun _ h63=>?_;refine qv h63 (fun X hX=>bb (v':=.int .i64 ((2+11*q.1+2:Nat):Int)) (congrArg _ (by omega)) (aV (h63.ev rfl) (h63.ev rfl) (by omega))) fun _ h64=>?_;refine dn h64 (wn rfl) rfl rfl (fun X=>(aq (fun _ _=>by kernel_rfl) (h64.evs rfl) rfl)) (fun X hX=>dy l (2+11*q.1+2) 4 (by omega) hl (by decide) _) fun _ h65=>?_;refine qv h65 (fun X hX=>ak (h65.ev rfl)) fun _ h66=>?_;refine qv h66 (fun X hX=>ak (h66.ev rfl)) fun _ h67=>?_;refine qv h67 (fun X hX=>bb (v':=.int .i64 ((2+11*q.1+6:Nat):Int)) (congrArg _ (by omega)) (aV (h67.ev rfl) (h67.ev rfl) (by omega))) fun _ h68=>?_;refine dn h68 (wn rfl) rfl rfl (fun X=>(aq (fun _ _=>by kernel_rfl) (h68.evs rfl) rfl)) (fun X hX=>dy l (2+11*q.1+6) 4 (by omega) hl (by decide) _) fun _ h69=>?_;refine qv h69 (fun X hX=>ak (h69.ev rfl)) fun _ h70=>?_;refine qv h70 (fun X hX=>ak (h70.ev rfl)) fun _ h71=>?_;refine qv h71 (fun X hX=>bb (v':=.int .i64 ((2+11*q.1+10:Nat):Int)) (congrArg _ (by omega)) (aV (h71.ev rfl) (h71.ev rfl) (by omega))) fun _ h72=>?_;refine dn h72 (wn rfl) rfl rfl (fun X=>(aq (fun _ _=>by kernel_rfl) (h72.evs rfl) rfl)) (fun X hX=>dy l (2+11*q.1+10) 1 (by omega) hl (by decide) _) fun _ h73=>?_
      refine qv h73 (fun X hX=>aX (h73.ev rfl) (h73.ev rfl)) fun _ h74=>?_;refine qv h74 (fun X hX=>br (zs:=[.int .i64 0,.int .i64 0,.int .i64 0,.bool false]) (pl:=[(0,1),(1,1),(2,1),(3,1)]) (by kernel_rfl) (by kernel_rfl) (h74.evs2 rfl) rfl rfl) fun _ h75=>?_;refine aI ?_;apply iV (k:=19) (deps:=[]) (R:=NewB _ (fun b=>.slice (some ⟨b,0,none⟩) 1 1) _ _) h75 rfl rfl rfl NewB.stable (fun X hX hΦ=>kF (fD (zc:=[.int .i64 0,.int .i64 0,.int .i64 0,.bool false]) (sz:=4) rfl Tryz.underlying22 (by kernel_rfl) (by kernel_rfl) rfl rfl rfl (h75.evs2 rfl) rfl rfl rfl) hX.size);intro v68 _ h76;refine bF fun _ hX77 hΦ77=>?_;have S77:=S55.grow hX77;have qv68:=bW hΦ77 (k:=19) rfl;obtain⟨b68,rfl,gb68,qv68⟩:=qv68;have S78:=S55.add hX77 (e:=.box _ _ _) qv68 (fun b hb=>by cases hb;exact⟨gb68,Box.lt qv68⟩);refine cv (z:=.agg #[.int .i64 0,.int .i64 0,.int .i64 0,.bool false]) (sz:=4) (bytes:=32) h76 (wn rfl) ⟨rfl,rfl⟩ rfl Tryz.underlying22 (by kernel_rfl) rfl rfl (h76.ev rfl) (h76.ev rfl) S78 (i:=1) rfl (S78.boxRd (i:=0) rfl) rfl (List.all_eq_true.1 rfl) ⟨(by omega),by decide⟩ fun A69 c69 _ _ h79 S79=>?_;refine vf h79 0 0 rfl rfl rfl fun _ h80=>?_;refine cX h80 (wn rfl) ⟨rfl,rfl⟩ (h80.ev rfl) (h80.ev rfl) rfl (by kernel_rfl) S79 (i:=3) rfl rfl rfl fun _ S81=>?_;refine ae (aO (aa (ah ?_)));refine mv h80 rfl rfl fun _ h82=>?_;refine sv h82 (aV (h82.ev rfl) (h82.ev rfl) (by omega)) fun _ h83=>?_;refine ma h83 rfl rfl fun _ h84=>?_;refine ae (aa ?_);exact⟨(q.1+1,A69,c69),(by show bu l-(q.1+1)<bu l-q.1;omega),hlt,h84.re ⟨rfl,rfl,rfl,rfl,rfl,rfl,rfl,rfl,rfl,trivial⟩,(by show St [] w _ [.row _ _ _ _ ((ia l (q.1+1)).flatMap cA),_,_,_,_];rw[wJ];exact(S81.sub (.cons _ (.cons_cons _ (.cons_cons _ (.cons_cons _ (.cons_cons _ (.cons_cons _ .slnil))))))))⟩
     case hB=>kernel_rfl
     case hst=>rfl
   ·
    obtain⟨n1,A1,c1⟩:=q
    obtain rfl:n1=bu l:=by have h8:=of_decide_eq_false hc2;have h9:n1≤bu l:=hF0;change ¬((n1:Int)<_) at h8;omega
    have hG0:fL l (bu l)=(fL l (bu l)&&gL l 0):=by rw[show gL l 0=true from rfl,Bool.and_true]
    replace h36:=h36.also (t:=8) (v:=.bool (fL l (bu l)&&gL l 0)) (by rw[←hG0];rfl);refine wp_exit ?_;refine av ?_;refine av ?_;refine bn ?_;refine aa (ab (ab (ah ?_)));refine ma h36 rfl rfl fun _ h85=>?_;refine ae (aa (wp_block ?_));refine bz h85 S33 [7,6,5,4,3,2,0] (fun (q:Nat × Option Addr × Nat)=>[(11,.int .i64 (q.1:Nat)),(8,.bool (fL l (bu l)&&gL l q.1))]) (fun (q:Nat × Option Addr × Nat)=>q.1≤dN l) (fun q L=>[.row (.slice A1 (bu l) c1) (bu l) 116 4 ((ia l (bu l)).flatMap cA),.row (.slice q.2.1 q.1 q.2.2) q.1 124 3 ((i7 l q.1).flatMap da),.box b7 #[.slice A1 (bu l) c1,.slice q.2.1 q.1 q.2.2] 25,.box b4 #[.slice none 0 0,.slice none 0 0] 25,.box b2 #[.slice none 0 0,.slice none 0 0] 25]) (fun (q:Nat × Option Addr × Nat)=>dN l-q.1) ((0,none,0)) (Nat.zero_le _) ⟨rfl,rfl,rfl,rfl,rfl,rfl,rfl,rfl,rfl,trivial⟩ (S33) ?_;intro q _ X86 hF1 h86 S86;refine ab (ab (ah ?_));refine mv h86 rfl rfl fun _ h87=>?_;refine mv h87 rfl rfl fun _ h88=>?_;refine sv h88 (bq (h88.ev rfl) (h88.ev rfl)) fun _ h89=>?_;refine ae (aa ?_);refine aB (h89.ev rfl) (fun hc3=>?_) (fun hc3=>?_)
    ·
     have hlt:q.1<dN l:=by have:=of_decide_eq_true hc3;omega
     refine wp_skip (aa (ab (wp_block (ab (ah ?_)))));refine mv h89 rfl rfl fun _ h90=>?_;refine sv h90 (iL (h90.ev rfl) (h90.ev rfl) (by omega)) fun _ h91=>?_;refine sv h91 (bb (v':=.int .i64 ((2+11*bu l:Nat):Int)) (congrArg _ (by omega)) (aV (h91.ev rfl) (h91.ev rfl) (by omega))) fun _ h92=>?_;refine mv h92 rfl rfl fun _ h93=>?_;refine sv h93 (iL (h93.ev rfl) (h93.ev rfl) (by omega)) fun _ h94=>?_;refine sv h94 (bb (v':=.int .i64 ((2+11*bu l+7*q.1:Nat):Int)) (congrArg _ (by omega)) (aV (h94.ev rfl) (h94.ev rfl) (by omega))) fun _ h95=>?_;refine ma h95 rfl rfl fun _ h96=>?_;refine cm ?_;refine mv h96 rfl rfl fun _ h97=>?_;refine mv h97 rfl rfl fun _ h98=>?_;apply cq (x:=decide (ja l (2+11*bu l+7*q.1+2) 1≤1)) h98 S86 83 rfl 6 89
     case ht=>
      intro gc83;refine sy h98 rfl rfl rfl gc83 (ak (h98.ev rfl)) rfl rfl fun _ h99=>?_;refine sy h99 rfl rfl rfl gc83 (ak (h99.ev rfl)) rfl rfl fun _ h100=>?_;refine sy h100 rfl rfl rfl gc83 (bb (v':=.int .i64 ((2+11*bu l+7*q.1+2:Nat):Int)) (congrArg _ (by omega)) (aV (h100.ev rfl) (h100.ev rfl) (by omega))) rfl rfl fun _ h101=>?_;refine bD h101 (ag h101 _ rfl rfl rfl gc83) (aq (fun _ _=>by kernel_rfl) (h101.evs rfl) rfl) rfl rfl (dy l (2+11*bu l+7*q.1+2) 1 (by omega) hl (by decide) _) fun _ h102=>?_;refine sy h102 rfl rfl rfl gc83 (gq (h102.ev rfl) (h102.ev rfl)) rfl rfl fun _ h103=>?_;refine sv h103 (aA (h103.ev rfl) gc83 (h103.ev rfl)) fun _ h104=>?_;exact ae ⟨h104.mid (m:=[(_,_),(_,_),(_,_),(_,_),(_,_)]) rfl,S86⟩
     case hf=>
      intro gc83;refine no h98 rfl rfl rfl gc83 rfl rfl fun _ h105=>?_;refine no h105 rfl rfl rfl gc83 rfl rfl fun _ h106=>?_;refine no h106 rfl rfl rfl gc83 rfl rfl fun _ h107=>?_;refine no h107 rfl rfl rfl gc83 rfl rfl fun _ h108=>?_;refine no h108 rfl rfl rfl gc83 rfl rfl fun _ h109=>?_;refine sv h109 (aD (h109.ev rfl) gc83 (h109.ev rfl)) fun _ h110=>?_;exact ae ⟨h110.mid (m:=[(_,_),(_,_),(_,_),(_,_),(_,_)]) rfl,S86⟩
     case h=>
      rintro a111 X111 ⟨h111,S111⟩
      rw[Bool.and_assoc,←nY] at h111;refine ma h111 rfl rfl fun _ h112=>?_;refine ae (aa ?_);apply bA h112 [false,false,false,false,false,false,false,false,false,false,false,false,false,false,false,true] _ (by kernel_rfl)
      case h=>
       refine qv h112 (fun X hX=>aj (off:=1) (j:=1) (by kernel_rfl) (h112.ev rfl) rfl) fun _ h113=>?_;refine qv h113 (fun X hX=>aw (by kernel_rfl) (h113.ev rfl) ((S111.grow hX).cell (i:=2) rfl rfl)) fun _ h114=>?_;refine qv h114 (fun X hX=>ak (h114.ev rfl)) fun _ h115=>?_;refine qv h115 (fun X hX=>ak (h115.ev rfl)) fun _ h116=>?_;refine dn h116 (wn rfl) rfl rfl (fun X=>(aq (fun _ _=>by kernel_rfl) (h116.evs rfl) rfl)) (fun X hX=>dy l (2+11*bu l+7*q.1) 2 (by omega) hl (by decide) _) fun _ h117=>?_;refine qv h117 (fun X hX=>ak (h117.ev rfl)) fun _ h118=>?_;refine qv h118 (fun X hX=>ak (h118.ev rfl)) fun _ h119=>?_;refine qv h119 (fun X hX=>bb (v':=.int .i64 ((2+11*bu l+7*q.1+2:Nat):Int)) (congrArg _ (by omega)) (aV (h119.ev rfl) (h119.ev rfl) (by omega))) fun _ h120=>?_;refine dn h120 (wn rfl) rfl rfl (fun X=>(aq (fun _ _=>by kernel_rfl) (h120.evs rfl) rfl)) (fun X hX=>dy l (2+11*bu l+7*q.1+2) 1 (by omega) hl (by decide) _) fun _ h121=>?_;refine qv h121 (fun X hX=>aX (h121.ev rfl) (h121.ev rfl)) fun _ h122=>?_;refine qv h122 (fun X hX=>ak (h122.ev rfl)) fun _ h123=>?_;refine qv h123 (fun X hX=>ak (h123.ev rfl)) fun _ h124=>?_;refine qv h124 (fun X hX=>bb (v':=.int .i64 ((2+11*bu l+7*q.1+3:Nat):Int)) (congrArg _ (by omega)) (aV (h124.ev rfl) (h124.ev rfl) (by omega))) fun _ h125=>?_;refine dn h125 (wn rfl) rfl rfl (fun X=>(aq (fun _ _=>by kernel_rfl) (h125.evs rfl) rfl)) (fun X hX=>dy l (2+11*bu l+7*q.1+3) 4 (by omega) hl (by decide) _) fun _ h126=>?_;refine qv h126 (fun X hX=>br (zs:=[.int .i64 0,.bool false,.int .i64 0]) (pl:=[(0,1),(1,1),(2,1)]) (by kernel_rfl) (by kernel_rfl) (h126.evs2 rfl) rfl rfl) fun _ h127=>?_;refine aI ?_;apply iV (k:=15) (deps:=[]) (R:=NewB _ (fun b=>.slice (some ⟨b,0,none⟩) 1 1) _ _) h127 rfl rfl rfl NewB.stable (fun X hX hΦ=>kF (fD (zc:=[.int .i64 0,.bool false,.int .i64 0]) (sz:=3) rfl Tryz.underlying23 (by kernel_rfl) (by kernel_rfl) rfl rfl rfl (h127.evs2 rfl) rfl rfl rfl) hX.size)
       intro v105 _ h128;refine bF fun _ hX129 hΦ129=>?_;have S129:=S111.grow hX129;have qv105:=bW hΦ129 (k:=15) rfl;obtain⟨b105,rfl,gb105,qv105⟩:=qv105;have S130:=S111.add hX129 (e:=.box _ _ _) qv105 (fun b hb=>by cases hb;exact⟨gb105,Box.lt qv105⟩);refine cv (z:=.agg #[.int .i64 0,.bool false,.int .i64 0]) (sz:=3) (bytes:=24) h128 (wn rfl) ⟨rfl,rfl⟩ rfl Tryz.underlying23 (by kernel_rfl) rfl rfl (h128.ev rfl) (h128.ev rfl) S130 (i:=2) rfl (S130.boxRd (i:=0) rfl) rfl (List.all_eq_true.1 rfl) ⟨(by omega),by decide⟩ fun A106 c106 _ _ h131 S131=>?_;refine vf h131 1 1 rfl rfl rfl fun _ h132=>?_;refine cX h132 (wn rfl) ⟨rfl,rfl⟩ (h132.ev rfl) (h132.ev rfl) rfl (by kernel_rfl) S131 (i:=3) rfl rfl rfl fun _ S133=>?_;refine ae (aO (aa (ah ?_)));refine mv h132 rfl rfl fun _ h134=>?_;refine sv h134 (aV (h134.ev rfl) (h134.ev rfl) (by omega)) fun _ h135=>?_;refine ma h135 rfl rfl fun _ h136=>?_;refine ae (aa ?_);exact⟨(q.1+1,A106,c106),(by show dN l-(q.1+1)<dN l-q.1;omega),hlt,h136.re ⟨rfl,rfl,rfl,rfl,rfl,rfl,rfl,rfl,rfl,trivial⟩,(by show St [] w _ [_,.row _ _ _ _ ((i7 l (q.1+1)).flatMap da),_,_,_];rw[yb];exact(S133.sub (.cons _ (.cons_cons _ (.cons_cons _ (.cons_cons _ (.cons_cons _ (.cons_cons _ .slnil))))))))⟩
      case hB=>kernel_rfl
      case hst=>rfl
    ·
     obtain⟨n2,A2,c2⟩:=q
     obtain rfl:n2=dN l:=by have h8:=of_decide_eq_false hc3;have h9:n2≤dN l:=hF1;change ¬((n2:Int)<_) at h8;omega
     have eT:(dX l).ts.length=bu l:=by show(ia l (bu l)).length=_;unfold ia;simp
     have eD:(dX l).ds.length=dN l:=by show(i7 l (dN l)).length=_;unfold i7;simp
     replace S86:St [] w X86 [.row (.slice A1 (dX l).ts.length c1) (dX l).ts.length 116 4 ((dX l).ts.flatMap cA),.row (.slice A2 (dX l).ds.length c2) (dX l).ds.length 124 3 ((dX l).ds.flatMap da),.box b7 #[.slice A1 (dX l).ts.length c1,.slice A2 (dX l).ds.length c2] 25,.box b4 #[.slice none 0 0,.slice none 0 0] 25,.box b2 #[.slice none 0 0,.slice none 0 0] 25]:=by
      rw[eT,eD];exact S86
     refine wp_exit ?_;refine av ?_;refine av ?_;refine bn ?_;refine aa (ab (ab (ah ?_)));refine mv h89 rfl rfl fun _ h137=>?_;refine sv h137 (bL (h137.ev rfl)) fun _ h138=>?_;refine ae (aa ?_);refine aB (h138.ev rfl) (fun hc4=>?_) (fun hc4=>?_)
     ·
      have hE:fQ l=3:=by
       unfold fQ
       rw[if_neg (by omega),if_neg (by omega),show(fL l (bu l)&&gL l (dN l))=false by cases q1:(fL l (bu l)&&gL l (dN l)) with
        | false=>rfl
        | true=>rw[q1] at hc4;cases hc4];rfl
      have hR:di l=gB:=by unfold di;rw[if_neg (by rw[hE];decide)]
      refine ab (ah ?_);refine sv h138 (ay (by kernel_rfl) (by kernel_rfl) (h138.ev rfl) (S86.cellsAll (i:=3) rfl)) fun _ h139=>?_;refine aG h139 (wn rfl) ⟨rfl,rfl⟩ (h139.ev rfl) (h139.ev rfl) rfl (by kernel_rfl) S86 (i:=4) rfl rfl rfl fun _ S140=>?_;refine ma h139 rfl rfl fun _ h141=>?_;refine ae (aa (wp_ret (ai ?_)));refine ek h141 rfl rfl rfl S140 (i:=4) rfl (by kernel_rfl) (by kernel_rfl) ?_;refine⟨(none,0,none,0),by rw[hR,hE];rfl,?_⟩;rw[hR];exact((S140.sub (List.nil_sublist _)).nilRow 124 3).nilRow 116 4
     ·
      have hFG:(fL l (bu l)&&gL l (dN l))=true:=by simpa using hc4
      have hE:fQ l=dR (dX l):=by
       unfold fQ;rw[if_neg (by omega),if_neg (by omega),hFG];show(if (0:Int)=0 then (if dR (dX l)=0 then 0 else dR (dX l)) else 0)=_;rw[if_pos rfl]
       split<;>omega
      refine wp_skip (aa (ab (ab (ah ?_))));refine sv (v:=cR (dX l) A1 c1 A2 c2) h138 (ay (by kernel_rfl) (by kernel_rfl) (h138.ev rfl) (S86.cellsAll (i:=2) rfl)) fun _ h142=>?_;refine aS h142 (wn rfl) (aq (fun _ _=>by kernel_rfl) (h142.evs rfl) rfl) rfl rfl S86 (mM (dX l) A1 c1 A2 c2 _ (S86.rdOf (i:=0) rfl) (S86.rdOf (i:=1) rfl)) fun _ _ h143 S143=>?_;refine ma h143 rfl rfl fun _ h144=>?_;refine cm ?_;refine mv h144 rfl rfl fun _ h145=>?_;refine sv h145 (a8 (h145.ev rfl) (h145.ev rfl)) fun _ h146=>?_;refine ae (aa ?_);refine aB (h146.ev rfl) (fun hc5=>?_) (fun hc5=>?_)
      ·
       have hne:fQ l≠0:=by rw[hE];simpa using hc5
       have hR:di l=gB:=by unfold di;rw[if_neg hne]
       refine ab (ah ?_);refine sv h146 (ay (by kernel_rfl) (by kernel_rfl) (h146.ev rfl) (S143.cellsAll (i:=3) rfl)) fun _ h147=>?_;refine mv h147 rfl rfl fun _ h148=>?_;refine aG h148 (wn rfl) ⟨rfl,rfl⟩ (h148.ev rfl) (h148.ev rfl) rfl (by kernel_rfl) S143 (i:=4) rfl rfl rfl fun _ S149=>?_;refine ma h148 rfl rfl fun _ h150=>?_;refine ae (aa (wp_ret (ai ?_)));refine ek h150 rfl rfl rfl S149 (i:=4) rfl (by kernel_rfl) (by kernel_rfl) ?_;refine⟨(none,0,none,0),by rw[hR,hE];rfl,?_⟩;rw[hR];exact((S149.sub (List.nil_sublist _)).nilRow 124 3).nilRow 116 4
      ·
       have hz:fQ l=0:=by rw[hE];simpa using hc5
       have hR:di l=dX l:=by unfold di;rw[if_pos hz]
       refine wp_skip (aa (ab (ah ?_)));refine sv h146 (ay (by kernel_rfl) (by kernel_rfl) (h146.ev rfl) (S143.cellsAll (i:=2) rfl)) fun _ h151=>?_;refine aG h151 (wn rfl) ⟨rfl,rfl⟩ (h151.ev rfl) (h151.ev rfl) rfl (by kernel_rfl) S143 (i:=4) rfl rfl rfl fun _ S152=>?_;refine ma h151 rfl rfl fun _ h153=>?_;refine ae (aa (wp_ret ?_));refine ek h153 rfl rfl rfl S152 (i:=4) rfl (by kernel_rfl) (by kernel_rfl) ?_;refine⟨(A1,c1,A2,c2),by rw[hR,hz];rfl,?_⟩;rw[hR];exact(S152.sub (.cons_cons _ (.cons_cons _ (.cons _ (.cons _ (.cons _ .slnil))))))
end Go.Proofs.YtcfdpfmchchkaaaGreatDoor
