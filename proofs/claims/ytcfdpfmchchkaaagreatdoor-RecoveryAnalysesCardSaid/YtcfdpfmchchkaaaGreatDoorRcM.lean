/-
  Chapter 22: the reference's errors and bytes of tables.
  Chapter 22: the reference's bytes of a table, and its table with any bytes.
  Chapter 22: the reference's table with any bytes.
-/
import Derived.Test.YtcfdpfmchchkaaaGreatDoorRcL
namespace Go.Proofs.YtcfdpfmchchkaaaGreatDoor
set_option linter.unusedVariables false
set_option linter.unusedSimpArgs false
set_option maxRecDepth 4000
open Go.RowKit Go.Sort Go.Shelf
theorem dL {α:Type} {l:List α} {j:Nat} (h0:0<j) (hj:j<l.length):cW l j=some (l[j-1]'(by omega)):=by
 have:=ei l (j-1) (by omega)
 rwa [show j-1+1=j by omega] at this
theorem w5 (b:Bool):aO [bL true 2,bL b 9]=bL b 9:=by cases b<;>rfl
theorem vA {p:Option Trn} {x:Trn} (h:(bH x.i 1 9999&&bH x.l 1 2147483647&&bH x.u 0 x.l)=false):jQ p x=2:=by unfold jQ;rw[h];rfl
theorem pf {p:Option Trn} {x:Trn} (h:(bH x.i 1 9999&&bH x.l 1 2147483647&&bH x.u 0 x.l)=true):jQ p x=bL (match p with | none=>true | some y=>decide (y.i<x.i)) 9:=by
 unfold jQ;rw[h];exact w5 _
theorem wC {p:Option Dty} {x:Dty} (h:(bH x.g 0 600&&bH x.l 1 2147483647)=false):jY p x=2:=by unfold jY;rw[h];rfl
theorem qJ {p:Option Dty} {x:Dty} (h:(bH x.g 0 600&&bH x.l 1 2147483647)=true):jY p x=bL (match p with | none=>true | some y=>decide (y.g<x.g)) 9:=by
 unfold jY;rw[h];exact w5 _
theorem jC {α:Type} {f:Nat→α→Int} {l:List α} {j:Nat} (hj:j<l.length) (h:∀k (hk:k<l.length),k<j→f k l[k]=0) {e:Int} (he:f j l[j]=e) (h0:e≠0):(dn f 0 l).2=e:=by
 have:=ek f l 0 j hj (fun k hk hkj=>by rw[Nat.zero_add];exact h k hk hkj) (by rw[Nat.zero_add,he];exact h0);rw[Nat.zero_add,he] at this;rw[this]
def AF:Trn:=⟨0,0,0,false⟩
def Az:Dty:=⟨0,false,0⟩
theorem jg (t:Tbl) (A:Option Addr) (c:Nat) (B:Option Addr) (d:Nat) (w:World) (hr:Rd w w.heap.size A (t.ts.flatMap bU)) (hs:Rd w w.heap.size B (t.ds.flatMap cm)) :
 Calls Tryz.prog 21 #[bO t A c B d] w fun e w'=>e=.returned (.int .i64 (dk t))∧Below w.heap.size w w':=by
 obtain⟨E,hE⟩:∃E,E=dk t:=⟨_,rfl⟩;rw[←hE];unfold dk at hE;refine aD (N:=97) Tryz.func21 rfl rfl rfl (fun _ h0=>?_);have S0:=St.init w;refine ab (ag ?_);refine nb h0 rfl rfl S0 fun b1 _ _ gb1 h1 S1=>?_;refine ma h1 rfl rfl fun _ h2=>?_;refine ae (aa (ab (ab (ag ?_))));refine vf h2 0 0 rfl rfl rfl fun _ h3=>?_;refine vl h3 S1 0 rfl rfl rfl rfl fun _ h4=>?_;refine sv h4 (bn Tryz.underlying22 (h4.ev rfl)) fun _ h5=>?_;refine sv h5 (df (h5.ev rfl) (h5.ev rfl)) fun _ h6=>?_;refine mv h6 rfl rfl fun _ h7=>?_;apply eh h7 S1 11 rfl 5 16
 case hf=>
  intro gc11;refine sy h7 rfl rfl rfl gc11 (ai (off:=1) (j:=1) (by kernel_rfl) (h7.ev rfl) rfl) rfl rfl fun _ h8=>?_;refine sy h8 rfl rfl rfl gc11 (ao (by kernel_rfl) (h8.ev rfl) (S1.cell (i:=0) rfl rfl)) rfl rfl fun _ h9=>?_;refine sy h9 rfl rfl rfl gc11 (bn Tryz.underlying23 (h9.ev rfl)) rfl rfl fun _ h10=>?_;refine sy h10 rfl rfl rfl gc11 (df (h10.ev rfl) (h10.ev rfl)) rfl rfl fun _ h11=>?_;refine sv h11 (aG (h11.ev rfl) gc11 (h11.ev rfl)) fun _ h12=>?_;exact ae ⟨h12.mid (m:=[(_,_),(_,_),(_,_),(_,_)]) rfl,S1⟩
 case ht=>
  intro gc11;refine no h7 rfl rfl rfl gc11 rfl rfl fun _ h13=>?_;refine no h13 rfl rfl rfl gc11 rfl rfl fun _ h14=>?_;refine no h14 rfl rfl rfl gc11 rfl rfl fun _ h15=>?_;refine no h15 rfl rfl rfl gc11 rfl rfl fun _ h16=>?_;refine sv h16 (aA (h16.ev rfl) gc11 (h16.ev rfl)) fun _ h17=>?_;exact ae ⟨h17.mid (m:=[(_,_),(_,_),(_,_),(_,_)]) rfl,S1⟩
 case h=>
  rintro a18 X18 ⟨h18,S18⟩
  refine ae (aa ?_);refine aB (h18.ev rfl) (fun hc0=>?_) (fun hc0=>?_)
  ·
   rw[if_pos (by have:=hc0;simp at this;omega)] at hE;refine ab (ag ?_);refine ma h18 rfl rfl fun _ h19=>?_;refine ae (aa (wp_ret (ak ?_)));refine bw h19 rfl rfl ?_;exact⟨by rw[hE],S18.below⟩
  ·
   rw[if_neg (by rw[Bool.or_eq_false_iff] at hc0;simp at hc0;omega)] at hE
   have hn:t.ts.length≤60∧t.ds.length≤60:=by rw[Bool.or_eq_false_iff] at hc0;simp at hc0;omega
   refine wp_skip (aa (ab (ab (ag ?_))));refine ma h18 rfl rfl fun _ h20=>?_;refine ae (aa (wp_block ?_));refine bC h20 S18 [1] (fun (j:Nat)=>[(3,.int .i64 (j:Nat))]) (fun (j:Nat)=>j≤t.ts.length∧∀k (hk:k<t.ts.length),k<j→jQ (cW t.ts k) t.ts[k]=0) (fun (j:Nat) L=>L) (fun (j:Nat)=>t.ts.length-j) (0) (⟨Nat.zero_le _,fun k _ h=>absurd h (Nat.not_lt_zero _)⟩) ⟨rfl,rfl,trivial⟩ (S18) ?_;intro j _ _ hF0 h21 S21;refine ab (ab (ag ?_));refine mv h21 rfl rfl fun _ h22=>?_;refine vf h22 0 0 rfl rfl rfl fun _ h23=>?_;refine vl h23 S21 0 rfl rfl rfl rfl fun _ h24=>?_;refine sv h24 (bn Tryz.underlying22 (h24.ev rfl)) fun _ h25=>?_;refine sv h25 (bh (h25.ev rfl) (h25.ev rfl)) fun _ h26=>?_;refine ae (aa ?_);refine aB (h26.ev rfl) (fun hc1=>?_) (fun hc1=>?_)
   ·
    have hlt:j<t.ts.length:=by have:=of_decide_eq_true hc1;omega
    obtain⟨b,o,rfl,hB,_⟩:=hr.opened (aP bj (by decide) (by omega));refine wp_skip (aa (ab (wp_block (ab (ag ?_)))));refine vf h26 0 0 rfl rfl rfl fun _ h27=>?_;refine vl h27 S21 0 rfl rfl rfl rfl fun _ h28=>?_;refine mv h28 rfl rfl fun _ h29=>?_;refine sv h29 (aC (i:=j) (sz:=4) Tryz.underlying22 (by kernel_rfl) (h29.ev rfl) (h29.ev rfl) (by omega) (by omega) rfl) fun _ h30=>?_;refine sv (v:=eG t.ts[j]) h30 (av (by kernel_rfl) (by kernel_rfl) (h30.ev rfl) (ba bj (S21.rd0 hr) hlt)) fun _ h31=>?_;refine na (.agg #[.int .i64 0,.int .i64 0,.int .i64 0,.bool false]) h31 rfl S21 fun b4 _ _ gb4 h32 S32=>?_;refine az h32 (wn rfl) ⟨rfl,rfl⟩ (h32.ev rfl) (h32.ev rfl) rfl (by kernel_rfl) S32 (i:=0) rfl rfl rfl fun _ S33=>?_;refine ae (aa (ab (ab (ag ?_))));refine vf h32 0 0 rfl rfl rfl fun _ h34=>?_;refine vl h34 S33 0 rfl rfl rfl rfl fun _ h35=>?_;refine bF h35 (wn rfl) (aq (fun _ _=>by kernel_rfl) (h35.evs rfl) rfl) rfl rfl (aQ _ _ _ _) fun _ h36=>?_;refine sv h36 (cN (h36.ev rfl)) fun _ h37=>?_;refine mv h37 rfl rfl fun _ h38=>?_;apply eh h38 S33 33 rfl 5 38
    case hf=>
     intro gc33;refine sy h38 rfl rfl rfl gc33 (ai (off:=1) (j:=1) (by kernel_rfl) (h38.ev rfl) rfl) rfl rfl fun _ h39=>?_;refine sy h39 rfl rfl rfl gc33 (ao (by kernel_rfl) (h39.ev rfl) (S33.cell (i:=0) rfl rfl)) rfl rfl fun _ h40=>?_;refine bF h40 (ah h40 _ rfl rfl rfl gc33) (aq (fun _ _=>by kernel_rfl) (h40.evs rfl) rfl) rfl rfl (aQ _ _ _ _) fun _ h41=>?_;refine sy h41 rfl rfl rfl gc33 (cN (h41.ev rfl)) rfl rfl fun _ h42=>?_;refine sv h42 (aG (h42.ev rfl) gc33 (h42.ev rfl)) fun _ h43=>?_;exact ae ⟨h43.mid (m:=[(_,_),(_,_),(_,_),(_,_)]) rfl,S33⟩
    case ht=>
     intro gc33;refine no h38 rfl rfl rfl gc33 rfl rfl fun _ h44=>?_;refine no h44 rfl rfl rfl gc33 rfl rfl fun _ h45=>?_;refine no h45 rfl rfl rfl gc33 rfl rfl fun _ h46=>?_;refine no h46 rfl rfl rfl gc33 rfl rfl fun _ h47=>?_;refine sv h47 (aA (h47.ev rfl) gc33 (h47.ev rfl)) fun _ h48=>?_;exact ae ⟨h48.mid (m:=[(_,_),(_,_),(_,_),(_,_)]) rfl,S33⟩
    case h=>
     rintro a49 X49 ⟨h49,S49⟩
     refine mv h49 rfl rfl fun _ h50=>?_;apply eh h50 S49 39 rfl 7 46
     case hf=>
      intro gc39;refine sy h50 rfl rfl rfl gc39 (ai (off:=2) (j:=2) (by kernel_rfl) (h50.ev rfl) rfl) rfl rfl fun _ h51=>?_;refine sy h51 rfl rfl rfl gc39 (ao (by kernel_rfl) (h51.ev rfl) (S49.cell (i:=0) rfl rfl)) rfl rfl fun _ h52=>?_;refine sy h52 rfl rfl rfl gc39 (ai (off:=1) (j:=1) (by kernel_rfl) (h52.ev rfl) rfl) rfl rfl fun _ h53=>?_;refine sy h53 rfl rfl rfl gc39 (ao (by kernel_rfl) (h53.ev rfl) (S49.cell (i:=0) rfl rfl)) rfl rfl fun _ h54=>?_;refine bF h54 (ah h54 _ rfl rfl rfl gc39) (aq (fun _ _=>by kernel_rfl) (h54.evs rfl) rfl) rfl rfl (aQ _ _ _ _) fun _ h55=>?_;refine sy h55 rfl rfl rfl gc39 (cN (h55.ev rfl)) rfl rfl fun _ h56=>?_;refine sv h56 (aG (h56.ev rfl) gc39 (h56.ev rfl)) fun _ h57=>?_;exact ae ⟨h57.mid (m:=[(_,_),(_,_),(_,_),(_,_),(_,_),(_,_)]) rfl,S49⟩
     case ht=>
      intro gc39;refine no h50 rfl rfl rfl gc39 rfl rfl fun _ h58=>?_;refine no h58 rfl rfl rfl gc39 rfl rfl fun _ h59=>?_;refine no h59 rfl rfl rfl gc39 rfl rfl fun _ h60=>?_;refine no h60 rfl rfl rfl gc39 rfl rfl fun _ h61=>?_;refine no h61 rfl rfl rfl gc39 rfl rfl fun _ h62=>?_;refine no h62 rfl rfl rfl gc39 rfl rfl fun _ h63=>?_;refine sv h63 (aA (h63.ev rfl) gc39 (h63.ev rfl)) fun _ h64=>?_;exact ae ⟨h64.mid (m:=[(_,_),(_,_),(_,_),(_,_),(_,_),(_,_)]) rfl,S49⟩
     case h=>
      rintro a65 X65 ⟨h65,S65⟩
      refine ae (aa ?_);refine aB (h65.ev rfl) (fun hc2=>?_) (fun hc2=>?_)
      ·
       have hbad:(bH t.ts[j].i 1 9999&&bH t.ts[j].l 1 2147483647&&bH t.ts[j].u 0 t.ts[j].l)=false:=by
        cases q1:bH t.ts[j].i 1 9999<;>cases q2:bH t.ts[j].l 1 2147483647<;>cases q3:bH t.ts[j].u 0 t.ts[j].l<;>rw[q1,q2,q3] at hc2<;>first | rfl | (simp at hc2)
       have he:(jc t.ts).2=2:=jC (f:=fun i x=>jQ (cW t.ts i) x) hlt hF0.2 (vA hbad) (by decide);rw[he,if_pos (by decide)] at hE;refine ab (ag ?_);refine ma h65 rfl rfl fun _ h66=>?_;refine ae (aa (wp_ret (ak (aF (ak (ak (aF (ak ?_))))))));refine bw h66 rfl rfl ?_;exact⟨by rw[hE],S65.below⟩
      ·
       have hgood:(bH t.ts[j].i 1 9999&&bH t.ts[j].l 1 2147483647&&bH t.ts[j].u 0 t.ts[j].l)=true:=by
        cases q1:bH t.ts[j].i 1 9999<;>cases q2:bH t.ts[j].l 1 2147483647<;>cases q3:bH t.ts[j].u 0 t.ts[j].l<;>rw[q1,q2,q3] at hc2<;>first | rfl | (simp at hc2)
       refine wp_skip (aa (ab ?_));apply bq h65 [false,false,false,false,false,false,false,false,false,false,false,false,false] _ (by kernel_rfl)
       case h=>
        refine qv h65 (fun X hX=>aj (h65.ev rfl)) fun _ h67=>?_;refine qv h67 (fun X hX=>df (h67.ev rfl) (h67.ev rfl)) fun _ h68=>?_;refine qv h68 (fun X hX=>aj (h68.ev rfl)) fun _ h69=>?_;apply kc h69 49 rfl 10 59
        case ht=>
         intro gc49
         have hj0:0<j:=by have:=of_decide_eq_true gc49;omega
         refine au h69 (ah h69 _ rfl rfl rfl gc49) rfl rfl (fun X hX=>(ai (off:=0) (j:=0) (by kernel_rfl) (h69.ev rfl) rfl)) fun _ h70=>?_;refine au h70 (ah h70 _ rfl rfl rfl gc49) rfl rfl (fun X hX=>(ao (by kernel_rfl) (h70.ev rfl) ((S65.grow hX).cell (i:=0) rfl rfl))) fun _ h71=>?_;refine au h71 (ah h71 _ rfl rfl rfl gc49) rfl rfl (fun X hX=>(ai (off:=0) (j:=0) (by kernel_rfl) (h71.ev rfl) rfl)) fun _ h72=>?_;refine au h72 (ah h72 _ rfl rfl rfl gc49) rfl rfl (fun X hX=>(ao (by kernel_rfl) (h72.ev rfl) ((S65.grow hX).cell (i:=1) rfl rfl))) fun _ h73=>?_;refine au h73 (ah h73 _ rfl rfl rfl gc49) rfl rfl (fun X hX=>(aj (h73.ev rfl))) fun _ h74=>?_;refine au h74 (ah h74 _ rfl rfl rfl gc49) rfl rfl (fun X hX=>(gb (h74.ev rfl) (h74.ev rfl) (by omega))) fun _ h75=>?_;refine au h75 (ah h75 _ rfl rfl rfl gc49) rfl rfl (fun X hX=>(aC (i:=j-1) (sz:=4) Tryz.underlying22 (by kernel_rfl) (h75.ev rfl) (h75.ev rfl) (by omega) (by omega) rfl)) fun _ h76=>?_;refine au h76 (ah h76 _ rfl rfl rfl gc49) rfl rfl (fun X hX=>(ai (off:=0) (by kernel_rfl) (h76.ev rfl) rfl)) fun _ h77=>?_;refine au h77 (ah h77 _ rfl rfl rfl gc49) rfl rfl (fun X hX=>(ao (by kernel_rfl) (h77.ev rfl) ((ba bj ((S65.grow hX).rd0 hr) (show j-1<t.ts.length by omega)) 0 _ rfl))) fun _ h78=>?_;refine au h78 (ah h78 _ rfl rfl rfl gc49) rfl rfl (fun X hX=>(a8 (v':=.bool (decide (t.ts[j].i≤((cW t.ts j).getD AF).i))) (by rw[dL hj0 hlt,Option.getD_some]) (iG (h78.ev rfl) (h78.ev rfl)))) fun _ h79=>?_;exact aH (h79.mid (m:=[(_,_),(_,_),(_,_),(_,_),(_,_),(_,_),(_,_),(_,_),(_,_)]) rfl)
        case hf=>
         intro gc49;refine qo h69 rfl rfl rfl gc49 rfl rfl fun _ h80=>?_;refine qo h80 rfl rfl rfl gc49 rfl rfl fun _ h81=>?_;refine qo h81 rfl rfl rfl gc49 rfl rfl fun _ h82=>?_;refine qo h82 rfl rfl rfl gc49 rfl rfl fun _ h83=>?_;refine qo h83 rfl rfl rfl gc49 rfl rfl fun _ h84=>?_;refine qo h84 rfl rfl rfl gc49 rfl rfl fun _ h85=>?_;refine qo h85 rfl rfl rfl gc49 rfl rfl fun _ h86=>?_;refine qo h86 rfl rfl rfl gc49 rfl rfl fun _ h87=>?_;refine qo h87 rfl rfl rfl gc49 rfl rfl fun _ h88=>?_;refine qo h88 rfl rfl rfl gc49 rfl rfl fun _ h89=>?_;exact aH ⟨_,h89.mid (m:=[(_,_),(_,_),(_,_),(_,_),(_,_),(_,_),(_,_),(_,_),(_,_)]) rfl⟩
        case h=>
         intro v90 _ hg59 h90;refine aH ?_;refine bE fun _ hX91 hΦ91=>?_;have S91:=S65.grow hX91;refine sv h90 (el (h90.ev rfl) (h90.ev rfl) hg59 (h90.ev rfl)) fun _ h92=>?_;refine ae (aa ?_);refine aB (h92.ev rfl) (fun hc3=>?_) (fun hc3=>?_)
         ·
          have he:(jc t.ts).2=9:=by
           obtain⟨u1,u2⟩:=Bool.and_eq_true_iff.1 hc3
           have hj0:0<j:=by have:=of_decide_eq_true u1;omega
           refine jC (f:=fun i x=>jQ (cW t.ts i) x) hlt hF0.2 ?_ (by decide);rw[pf hgood];rw[dL hj0 hlt] at u2 ⊢;have:=of_decide_eq_true u2;show bL (decide (t.ts[j-1].i<t.ts[j].i)) 9=9;rw[decide_eq_false (by change t.ts[j].i≤t.ts[j-1].i at this;omega)];rfl
          rw[he,if_pos (by decide)] at hE;refine ab (ag ?_);refine ma h92 rfl rfl fun _ h93=>?_;refine ae (aa (wp_ret (aF (ak (ak (aF (ak ?_)))))));refine bw h93 rfl rfl ?_;exact⟨by rw[hE],S91.below⟩
         ·
          have hz:jQ (cW t.ts j) t.ts[j]=0:=by
           rw[pf hgood];rcases Nat.eq_zero_or_pos j with h0 | h0
           · subst h0;rfl
           · rw[decide_eq_true (by omega:(j:Int)>0),Bool.true_and,dL h0 hlt] at hc3
             have:=of_decide_eq_false hc3;rw[dL h0 hlt];show bL (decide (t.ts[j-1].i<t.ts[j].i)) 9=0;rw[decide_eq_true (by change ¬t.ts[j].i≤t.ts[j-1].i at this;omega)];rfl
          refine wp_skip (aK (aa (ag ?_)));refine mv h92 rfl rfl fun _ h94=>?_;refine sv h94 (a7 (h94.ev rfl) (h94.ev rfl) (by omega)) fun _ h95=>?_;refine ma h95 rfl rfl fun _ h96=>?_;refine ae (aa ?_);exact⟨j+1,(by omega),⟨hlt,fun k hk hkj=>by rcases Nat.lt_or_eq_of_le (show k≤j by omega) with q | q;exact hF0.2 k hk q;subst q;exact hz⟩,h96.re ⟨rfl,rfl,trivial⟩,(S91.sub (.cons _ (.cons_cons _ .slnil)))⟩
       case hB=>kernel_rfl
       case hst=>rfl
   ·
    have hge:t.ts.length≤j:=by have:=of_decide_eq_false hc1;omega
    have hz0:(jc t.ts).2=0:=(di _ _).2 fun k hk=>hF0.2 k hk (by omega);rw[if_neg (fun h=>h hz0)] at hE;refine wp_exit ?_;refine ar ?_;refine ar ?_;refine bz ?_;refine aa (ab (ab (ag ?_)));refine ma h26 rfl rfl fun _ h97=>?_;refine ae (aa (wp_block ?_));refine bC h97 S21 [1] (fun (j:Nat)=>[(5,.int .i64 (j:Nat))]) (fun (j:Nat)=>j≤t.ds.length∧∀k (hk:k<t.ds.length),k<j→jY (cW t.ds k) t.ds[k]=0) (fun (j:Nat) L=>L) (fun (j:Nat)=>t.ds.length-j) (0) (⟨Nat.zero_le _,fun k _ h=>absurd h (Nat.not_lt_zero _)⟩) ⟨rfl,rfl,trivial⟩ (S21) ?_;intro j _ _ hF1 h98 S98;refine ab (ab (ag ?_));refine mv h98 rfl rfl fun _ h99=>?_;refine vf h99 1 1 rfl rfl rfl fun _ h100=>?_;refine vl h100 S98 0 rfl rfl rfl rfl fun _ h101=>?_;refine sv h101 (bn Tryz.underlying23 (h101.ev rfl)) fun _ h102=>?_;refine sv h102 (bh (h102.ev rfl) (h102.ev rfl)) fun _ h103=>?_;refine ae (aa ?_);refine aB (h103.ev rfl) (fun hc4=>?_) (fun hc4=>?_)
    ·
     have hlt:j<t.ds.length:=by have:=of_decide_eq_true hc4;omega
     obtain⟨b,o,rfl,hB,_⟩:=hs.opened (aP bN (by decide) (by omega));refine wp_skip (aa (ab (wp_block (ab (ag ?_)))));refine vf h103 1 1 rfl rfl rfl fun _ h104=>?_;refine vl h104 S98 0 rfl rfl rfl rfl fun _ h105=>?_;refine mv h105 rfl rfl fun _ h106=>?_;refine sv h106 (aC (i:=j) (sz:=3) Tryz.underlying23 (by kernel_rfl) (h106.ev rfl) (h106.ev rfl) (by omega) (by omega) rfl) fun _ h107=>?_;refine sv (v:=fp t.ds[j]) h107 (av (by kernel_rfl) (by kernel_rfl) (h107.ev rfl) (ba bN (S98.rd0 hs) hlt)) fun _ h108=>?_;refine na (.agg #[.int .i64 0,.bool false,.int .i64 0]) h108 rfl S98 fun b6 _ _ gb6 h109 S109=>?_;refine az h109 (wn rfl) ⟨rfl,rfl⟩ (h109.ev rfl) (h109.ev rfl) rfl (by kernel_rfl) S109 (i:=0) rfl rfl rfl fun _ S110=>?_;refine ae (aa (ab (ab (ag ?_))));refine vf h109 0 0 rfl rfl rfl fun _ h111=>?_;refine vl h111 S110 0 rfl rfl rfl rfl fun _ h112=>?_;refine bF h112 (wn rfl) (aq (fun _ _=>by kernel_rfl) (h112.evs rfl) rfl) rfl rfl (aQ _ _ _ _) fun _ h113=>?_;refine sv h113 (cN (h113.ev rfl)) fun _ h114=>?_;refine mv h114 rfl rfl fun _ h115=>?_;apply eh h115 S110 77 rfl 5 82
     case hf=>
      intro gc77;refine sy h115 rfl rfl rfl gc77 (ai (off:=2) (j:=2) (by kernel_rfl) (h115.ev rfl) rfl) rfl rfl fun _ h116=>?_;refine sy h116 rfl rfl rfl gc77 (ao (by kernel_rfl) (h116.ev rfl) (S110.cell (i:=0) rfl rfl)) rfl rfl fun _ h117=>?_;refine bF h117 (ah h117 _ rfl rfl rfl gc77) (aq (fun _ _=>by kernel_rfl) (h117.evs rfl) rfl) rfl rfl (aQ _ _ _ _) fun _ h118=>?_;refine sy h118 rfl rfl rfl gc77 (cN (h118.ev rfl)) rfl rfl fun _ h119=>?_;refine sv h119 (aG (h119.ev rfl) gc77 (h119.ev rfl)) fun _ h120=>?_;exact ae ⟨h120.mid (m:=[(_,_),(_,_),(_,_),(_,_)]) rfl,S110⟩
     case ht=>
      intro gc77;refine no h115 rfl rfl rfl gc77 rfl rfl fun _ h121=>?_;refine no h121 rfl rfl rfl gc77 rfl rfl fun _ h122=>?_;refine no h122 rfl rfl rfl gc77 rfl rfl fun _ h123=>?_;refine no h123 rfl rfl rfl gc77 rfl rfl fun _ h124=>?_;refine sv h124 (aA (h124.ev rfl) gc77 (h124.ev rfl)) fun _ h125=>?_;exact ae ⟨h125.mid (m:=[(_,_),(_,_),(_,_),(_,_)]) rfl,S110⟩
     case h=>
      rintro a126 X126 ⟨h126,S126⟩
      refine ae (aa ?_);refine aB (h126.ev rfl) (fun hc5=>?_) (fun hc5=>?_)
      ·
       have hbad:(bH t.ds[j].g 0 600&&bH t.ds[j].l 1 2147483647)=false:=by
        cases q1:bH t.ds[j].g 0 600<;>cases q2:bH t.ds[j].l 1 2147483647<;>rw[q1,q2] at hc5<;>first | rfl | (simp at hc5)
       have he:(ql t.ds).2=2:=jC (f:=fun i x=>jY (cW t.ds i) x) hlt hF1.2 (wC hbad) (by decide);rw[he] at hE;refine ab (ag ?_);refine ma h126 rfl rfl fun _ h127=>?_;refine ae (aa (wp_ret (ak (aF (ak (ak (aF (ak ?_))))))));refine bw h127 rfl rfl ?_;exact⟨by rw[hE],S126.below⟩
      ·
       have hgood:(bH t.ds[j].g 0 600&&bH t.ds[j].l 1 2147483647)=true:=by
        cases q1:bH t.ds[j].g 0 600<;>cases q2:bH t.ds[j].l 1 2147483647<;>rw[q1,q2] at hc5<;>first | rfl | (simp at hc5)
       refine wp_skip (aa (ab ?_));apply bq h126 [false,false,false,false,false,false,false,false,false,false,false,false,false] _ (by kernel_rfl)
       case h=>
        refine qv h126 (fun X hX=>aj (h126.ev rfl)) fun _ h128=>?_;refine qv h128 (fun X hX=>df (h128.ev rfl) (h128.ev rfl)) fun _ h129=>?_;refine qv h129 (fun X hX=>aj (h129.ev rfl)) fun _ h130=>?_;apply kc h130 85 rfl 10 95
        case ht=>
         intro gc85
         have hj0:0<j:=by have:=of_decide_eq_true gc85;omega
         refine au h130 (ah h130 _ rfl rfl rfl gc85) rfl rfl (fun X hX=>(ai (off:=0) (j:=0) (by kernel_rfl) (h130.ev rfl) rfl)) fun _ h131=>?_;refine au h131 (ah h131 _ rfl rfl rfl gc85) rfl rfl (fun X hX=>(ao (by kernel_rfl) (h131.ev rfl) ((S126.grow hX).cell (i:=0) rfl rfl))) fun _ h132=>?_;refine au h132 (ah h132 _ rfl rfl rfl gc85) rfl rfl (fun X hX=>(ai (off:=1) (j:=1) (by kernel_rfl) (h132.ev rfl) rfl)) fun _ h133=>?_;refine au h133 (ah h133 _ rfl rfl rfl gc85) rfl rfl (fun X hX=>(ao (by kernel_rfl) (h133.ev rfl) ((S126.grow hX).cell (i:=1) rfl rfl))) fun _ h134=>?_;refine au h134 (ah h134 _ rfl rfl rfl gc85) rfl rfl (fun X hX=>(aj (h134.ev rfl))) fun _ h135=>?_;refine au h135 (ah h135 _ rfl rfl rfl gc85) rfl rfl (fun X hX=>(gb (h135.ev rfl) (h135.ev rfl) (by omega))) fun _ h136=>?_;refine au h136 (ah h136 _ rfl rfl rfl gc85) rfl rfl (fun X hX=>(aC (i:=j-1) (sz:=3) Tryz.underlying23 (by kernel_rfl) (h136.ev rfl) (h136.ev rfl) (by omega) (by omega) rfl)) fun _ h137=>?_;refine au h137 (ah h137 _ rfl rfl rfl gc85) rfl rfl (fun X hX=>(ai (off:=0) (by kernel_rfl) (h137.ev rfl) rfl)) fun _ h138=>?_;refine au h138 (ah h138 _ rfl rfl rfl gc85) rfl rfl (fun X hX=>(ao (by kernel_rfl) (h138.ev rfl) ((ba bN ((S126.grow hX).rd0 hs) (show j-1<t.ds.length by omega)) 0 _ rfl))) fun _ h139=>?_;refine au h139 (ah h139 _ rfl rfl rfl gc85) rfl rfl (fun X hX=>(a8 (v':=.bool (decide (t.ds[j].g≤((cW t.ds j).getD Az).g))) (by rw[dL hj0 hlt,Option.getD_some]) (iG (h139.ev rfl) (h139.ev rfl)))) fun _ h140=>?_;exact aH (h140.mid (m:=[(_,_),(_,_),(_,_),(_,_),(_,_),(_,_),(_,_),(_,_),(_,_)]) rfl)
        case hf=>
         intro gc85;refine qo h130 rfl rfl rfl gc85 rfl rfl fun _ h141=>?_;refine qo h141 rfl rfl rfl gc85 rfl rfl fun _ h142=>?_;refine qo h142 rfl rfl rfl gc85 rfl rfl fun _ h143=>?_;refine qo h143 rfl rfl rfl gc85 rfl rfl fun _ h144=>?_;refine qo h144 rfl rfl rfl gc85 rfl rfl fun _ h145=>?_;refine qo h145 rfl rfl rfl gc85 rfl rfl fun _ h146=>?_;refine qo h146 rfl rfl rfl gc85 rfl rfl fun _ h147=>?_;refine qo h147 rfl rfl rfl gc85 rfl rfl fun _ h148=>?_;refine qo h148 rfl rfl rfl gc85 rfl rfl fun _ h149=>?_;refine qo h149 rfl rfl rfl gc85 rfl rfl fun _ h150=>?_;exact aH ⟨_,h150.mid (m:=[(_,_),(_,_),(_,_),(_,_),(_,_),(_,_),(_,_),(_,_),(_,_)]) rfl⟩
        case h=>
         intro v151 _ hg95 h151;refine aH ?_;refine bE fun _ hX152 hΦ152=>?_;have S152:=S126.grow hX152;refine sv h151 (el (h151.ev rfl) (h151.ev rfl) hg95 (h151.ev rfl)) fun _ h153=>?_;refine ae (aa ?_);refine aB (h153.ev rfl) (fun hc6=>?_) (fun hc6=>?_)
         ·
          have he:(ql t.ds).2=9:=by
           obtain⟨u1,u2⟩:=Bool.and_eq_true_iff.1 hc6
           have hj0:0<j:=by have:=of_decide_eq_true u1;omega
           refine jC (f:=fun i x=>jY (cW t.ds i) x) hlt hF1.2 ?_ (by decide);rw[qJ hgood];rw[dL hj0 hlt] at u2 ⊢;have:=of_decide_eq_true u2;show bL (decide (t.ds[j-1].g<t.ds[j].g)) 9=9;rw[decide_eq_false (by change t.ds[j].g≤t.ds[j-1].g at this;omega)];rfl
          rw[he] at hE;refine ab (ag ?_);refine ma h153 rfl rfl fun _ h154=>?_;refine ae (aa (wp_ret (aF (ak (ak (aF (ak ?_)))))));refine bw h154 rfl rfl ?_;exact⟨by rw[hE],S152.below⟩
         ·
          have hz:jY (cW t.ds j) t.ds[j]=0:=by
           rw[qJ hgood];rcases Nat.eq_zero_or_pos j with h0 | h0
           · subst h0;rfl
           · rw[decide_eq_true (by omega:(j:Int)>0),Bool.true_and,dL h0 hlt] at hc6
             have:=of_decide_eq_false hc6;rw[dL h0 hlt];show bL (decide (t.ds[j-1].g<t.ds[j].g)) 9=0;rw[decide_eq_true (by change ¬t.ds[j].g≤t.ds[j-1].g at this;omega)];rfl
          refine wp_skip (aK (aa (ag ?_)));refine mv h153 rfl rfl fun _ h155=>?_;refine sv h155 (a7 (h155.ev rfl) (h155.ev rfl) (by omega)) fun _ h156=>?_;refine ma h156 rfl rfl fun _ h157=>?_;refine ae (aa ?_);exact⟨j+1,(by omega),⟨hlt,fun k hk hkj=>by rcases Nat.lt_or_eq_of_le (show k≤j by omega) with q | q;exact hF1.2 k hk q;subst q;exact hz⟩,h157.re ⟨rfl,rfl,trivial⟩,(S152.sub (.cons _ (.cons_cons _ .slnil)))⟩
       case hB=>kernel_rfl
       case hst=>rfl
    ·
     have hge:t.ds.length≤j:=by have:=of_decide_eq_false hc4;omega
     have hz1:(ql t.ds).2=0:=(di _ _).2 fun k hk=>hF1.2 k hk (by omega);rw[hz1] at hE;refine wp_exit ?_;refine ar ?_;refine ar ?_;refine bz ?_;refine aa (ab (ag ?_));refine ma h103 rfl rfl fun _ h158=>?_;refine ae (aa (wp_ret ?_));refine bw h158 rfl rfl ?_;exact⟨by rw[hE],S98.below⟩
theorem xW (x:Trn):lY [.int .i64 x.i,.int .i64 x.l,.int .i64 x.u,.bool x.c] [.int .i64 x.i,.int .i64 x.l,.int .i64 x.u,.bool x.c]=true:=by simp[lY,qS]
theorem yp (x:Dty):lY [.int .i64 x.g,.bool x.f,.int .i64 x.l] [.int .i64 x.g,.bool x.f,.int .i64 x.l]=true:=by simp[lY,qS]
theorem l7 (t:Tbl) (A:Option Addr) (c:Nat) (B:Option Addr) (d:Nat) (A':Option Addr) (c':Nat) (B':Option Addr) (d':Nat) (w:World) (hr:Rd w w.heap.size A (t.ts.flatMap bU)) (hs:Rd w w.heap.size B (t.ds.flatMap cm)) (hr':Rd w w.heap.size A' (t.ts.flatMap bU)) (hs':Rd w w.heap.size B' (t.ds.flatMap cm)) (hl:t.ts.length≤100000∧t.ds.length≤100000) :
 Calls Tryz.prog 20 #[bO t A c B d,bO t A' c' B' d'] w fun e w'=>e=.returned (.bool true)∧Below w.heap.size w w':=by
 refine aD (N:=59) Tryz.func20 rfl rfl rfl (fun _ h0=>?_);have S0:=St.init w;refine ab (ag ?_);refine nb h0 rfl rfl S0 fun b2 _ _ gb2 h1 S1=>?_;refine nb h1 rfl rfl S1 fun b3 _ _ gb3 h2 S2=>?_;refine ma h2 rfl rfl fun _ h3=>?_;refine ae (aa (ab (ab (ag ?_))));refine vf h3 0 0 rfl rfl rfl fun _ h4=>?_;refine vl h4 S2 1 rfl rfl rfl rfl fun _ h5=>?_;refine sv h5 (bn Tryz.underlying22 (h5.ev rfl)) fun _ h6=>?_;refine vf h6 0 0 rfl rfl rfl fun _ h7=>?_;refine vl h7 S2 0 rfl rfl rfl rfl fun _ h8=>?_;refine sv h8 (bn Tryz.underlying22 (h8.ev rfl)) fun _ h9=>?_;refine sv h9 (bc (h9.ev rfl) (h9.ev rfl)) fun _ h10=>?_;refine mv h10 rfl rfl fun _ h11=>?_;apply eh h11 S2 14 rfl 8 22
 case hf=>
  intro gc14;refine sy h11 rfl rfl rfl gc14 (ai (off:=1) (j:=1) (by kernel_rfl) (h11.ev rfl) rfl) rfl rfl fun _ h12=>?_;refine sy h12 rfl rfl rfl gc14 (ao (by kernel_rfl) (h12.ev rfl) (S2.cell (i:=1) rfl rfl)) rfl rfl fun _ h13=>?_;refine sy h13 rfl rfl rfl gc14 (bn Tryz.underlying23 (h13.ev rfl)) rfl rfl fun _ h14=>?_;refine sy h14 rfl rfl rfl gc14 (ai (off:=1) (j:=1) (by kernel_rfl) (h14.ev rfl) rfl) rfl rfl fun _ h15=>?_;refine sy h15 rfl rfl rfl gc14 (ao (by kernel_rfl) (h15.ev rfl) (S2.cell (i:=0) rfl rfl)) rfl rfl fun _ h16=>?_;refine sy h16 rfl rfl rfl gc14 (bn Tryz.underlying23 (h16.ev rfl)) rfl rfl fun _ h17=>?_;refine sy h17 rfl rfl rfl gc14 (bc (h17.ev rfl) (h17.ev rfl)) rfl rfl fun _ h18=>?_;refine sv h18 (aG (h18.ev rfl) gc14 (h18.ev rfl)) fun _ h19=>?_;exact ae ⟨h19.mid (m:=[(_,_),(_,_),(_,_),(_,_),(_,_),(_,_),(_,_)]) rfl,S2⟩
 case ht=>
  intro gc14;refine no h11 rfl rfl rfl gc14 rfl rfl fun _ h20=>?_;refine no h20 rfl rfl rfl gc14 rfl rfl fun _ h21=>?_;refine no h21 rfl rfl rfl gc14 rfl rfl fun _ h22=>?_;refine no h22 rfl rfl rfl gc14 rfl rfl fun _ h23=>?_;refine no h23 rfl rfl rfl gc14 rfl rfl fun _ h24=>?_;refine no h24 rfl rfl rfl gc14 rfl rfl fun _ h25=>?_;refine no h25 rfl rfl rfl gc14 rfl rfl fun _ h26=>?_;refine sv h26 (aA (h26.ev rfl) gc14 (h26.ev rfl)) fun _ h27=>?_;exact ae ⟨h27.mid (m:=[(_,_),(_,_),(_,_),(_,_),(_,_),(_,_),(_,_)]) rfl,S2⟩
 case h=>
  rintro a28 X28 ⟨h28,S28⟩
  refine ae (aa ?_);refine iK (h28.ev rfl) ((by simp)) ?_;refine wp_skip (aa (ab (ab (ag ?_))));refine ma h28 rfl rfl fun _ h29=>?_;refine ae (aa (wp_block ?_));refine bC h29 S28 [3,2] (fun (j:Nat)=>[(5,.int .i64 (j:Nat))]) (fun (j:Nat)=>j≤t.ts.length) (fun (j:Nat) L=>L) (fun (j:Nat)=>t.ts.length-j) (0) (Nat.zero_le _) ⟨rfl,rfl,rfl,trivial⟩ (S28) ?_;intro j _ _ hF0 h30 S30;refine ab (ab (ag ?_));refine mv h30 rfl rfl fun _ h31=>?_;refine vf h31 0 0 rfl rfl rfl fun _ h32=>?_;refine vl h32 S30 1 rfl rfl rfl rfl fun _ h33=>?_;refine sv h33 (bn Tryz.underlying22 (h33.ev rfl)) fun _ h34=>?_;refine sv h34 (bh (h34.ev rfl) (h34.ev rfl)) fun _ h35=>?_;refine ae (aa ?_);refine aB (h35.ev rfl) (fun hc1=>?_) (fun hc1=>?_)
  ·
   have hlt:j<t.ts.length:=by have:=of_decide_eq_true hc1;omega
   obtain⟨b,o,rfl,hB,_⟩:=hr.opened (aP bj (by decide) (by omega));obtain⟨b',o',rfl,hB',_⟩:=hr'.opened (aP bj (by decide) (by omega));refine wp_skip (aa (ab (wp_block (ab ?_))));apply bq h35 [false,false,false,false,false,false,false,false,false,false] _ (by kernel_rfl)
   case h=>
    refine qv h35 (fun X hX=>ai (off:=0) (j:=0) (by kernel_rfl) (h35.ev rfl) rfl) fun _ h36=>?_;refine qv h36 (fun X hX=>ao (by kernel_rfl) (h36.ev rfl) ((S30.grow hX).cell (i:=1) rfl rfl)) fun _ h37=>?_;refine qv h37 (fun X hX=>aj (h37.ev rfl)) fun _ h38=>?_;refine qv h38 (fun X hX=>aC (i:=j) (sz:=4) Tryz.underlying22 (by kernel_rfl) (h38.ev rfl) (h38.ev rfl) (by omega) (by omega) rfl) fun _ h39=>?_;refine qv (v:=eG t.ts[j]) h39 (fun X hX=>av (by kernel_rfl) (by kernel_rfl) (h39.ev rfl) (ba bj ((S30.grow hX).rd0 hr) hlt)) fun _ h40=>?_;refine qv h40 (fun X hX=>ai (off:=0) (j:=0) (by kernel_rfl) (h40.ev rfl) rfl) fun _ h41=>?_;refine qv h41 (fun X hX=>ao (by kernel_rfl) (h41.ev rfl) ((S30.grow hX).cell (i:=0) rfl rfl)) fun _ h42=>?_;refine qv h42 (fun X hX=>aj (h42.ev rfl)) fun _ h43=>?_;refine qv h43 (fun X hX=>aC (i:=j) (sz:=4) Tryz.underlying22 (by kernel_rfl) (h43.ev rfl) (h43.ev rfl) (by omega) (by omega) rfl) fun _ h44=>?_;refine qv (v:=eG t.ts[j]) h44 (fun X hX=>av (by kernel_rfl) (by kernel_rfl) (h44.ev rfl) (ba bj ((S30.grow hX).rd0 hr') hlt)) fun _ h45=>?_;refine aH ?_;refine bE fun _ hX46 hΦ46=>?_;have S46:=S30.grow hX46;refine sv h45 (ov (ks:=[.i .i64,.i .i64,.i .i64,.b]) (by kernel_rfl) Tryz.underlying116 (by kernel_rfl) (h45.ev rfl) (h45.ev rfl) rfl rfl) fun _ h47=>?_;refine ae (aa ?_);refine iK (h47.ev rfl) ((by rw[xW];rfl)) ?_;refine wp_skip (aK (aa (ag ?_)));refine mv h47 rfl rfl fun _ h48=>?_;refine sv h48 (a7 (h48.ev rfl) (h48.ev rfl) (by omega)) fun _ h49=>?_;refine ma h49 rfl rfl fun _ h50=>?_;refine ae (aa ?_);exact⟨j+1,(by omega),hlt,h50.re ⟨rfl,rfl,rfl,trivial⟩,S46⟩
   case hB=>kernel_rfl
   case hst=>rfl
  ·
   have hge:t.ts.length≤j:=by have:=of_decide_eq_false hc1;omega
   refine wp_exit ?_;refine ar ?_;refine ar ?_;refine bz ?_;refine aa (ab (ab (ag ?_)));refine ma h35 rfl rfl fun _ h51=>?_;refine ae (aa (wp_block ?_));refine bC h51 S30 [3,2] (fun (j:Nat)=>[(6,.int .i64 (j:Nat))]) (fun (j:Nat)=>j≤t.ds.length) (fun (j:Nat) L=>L) (fun (j:Nat)=>t.ds.length-j) (0) (Nat.zero_le _) ⟨rfl,rfl,rfl,trivial⟩ (S30) ?_;intro j _ _ hF1 h52 S52;refine ab (ab (ag ?_));refine mv h52 rfl rfl fun _ h53=>?_;refine vf h53 1 1 rfl rfl rfl fun _ h54=>?_;refine vl h54 S52 1 rfl rfl rfl rfl fun _ h55=>?_;refine sv h55 (bn Tryz.underlying23 (h55.ev rfl)) fun _ h56=>?_;refine sv h56 (bh (h56.ev rfl) (h56.ev rfl)) fun _ h57=>?_;refine ae (aa ?_);refine aB (h57.ev rfl) (fun hc3=>?_) (fun hc3=>?_)
   ·
    have hlt:j<t.ds.length:=by have:=of_decide_eq_true hc3;omega
    obtain⟨b,o,rfl,hB,_⟩:=hs.opened (aP bN (by decide) (by omega));obtain⟨b',o',rfl,hB',_⟩:=hs'.opened (aP bN (by decide) (by omega));refine wp_skip (aa (ab (wp_block (ab ?_))));apply bq h57 [false,false,false,false,false,false,false,false,false,false] _ (by kernel_rfl)
    case h=>
     refine qv h57 (fun X hX=>ai (off:=1) (j:=1) (by kernel_rfl) (h57.ev rfl) rfl) fun _ h58=>?_;refine qv h58 (fun X hX=>ao (by kernel_rfl) (h58.ev rfl) ((S52.grow hX).cell (i:=1) rfl rfl)) fun _ h59=>?_;refine qv h59 (fun X hX=>aj (h59.ev rfl)) fun _ h60=>?_;refine qv h60 (fun X hX=>aC (i:=j) (sz:=3) Tryz.underlying23 (by kernel_rfl) (h60.ev rfl) (h60.ev rfl) (by omega) (by omega) rfl) fun _ h61=>?_;refine qv (v:=fp t.ds[j]) h61 (fun X hX=>av (by kernel_rfl) (by kernel_rfl) (h61.ev rfl) (ba bN ((S52.grow hX).rd0 hs) hlt)) fun _ h62=>?_;refine qv h62 (fun X hX=>ai (off:=1) (j:=1) (by kernel_rfl) (h62.ev rfl) rfl) fun _ h63=>?_;refine qv h63 (fun X hX=>ao (by kernel_rfl) (h63.ev rfl) ((S52.grow hX).cell (i:=0) rfl rfl)) fun _ h64=>?_;refine qv h64 (fun X hX=>aj (h64.ev rfl)) fun _ h65=>?_;refine qv h65 (fun X hX=>aC (i:=j) (sz:=3) Tryz.underlying23 (by kernel_rfl) (h65.ev rfl) (h65.ev rfl) (by omega) (by omega) rfl) fun _ h66=>?_;refine qv (v:=fp t.ds[j]) h66 (fun X hX=>av (by kernel_rfl) (by kernel_rfl) (h66.ev rfl) (ba bN ((S52.grow hX).rd0 hs') hlt)) fun _ h67=>?_;refine aH ?_;refine bE fun _ hX68 hΦ68=>?_;have S68:=S52.grow hX68;refine sv h67 (ov (ks:=[.i .i64,.b,.i .i64]) (by kernel_rfl) Tryz.underlying124 (by kernel_rfl) (h67.ev rfl) (h67.ev rfl) rfl rfl) fun _ h69=>?_;refine ae (aa ?_);refine iK (h69.ev rfl) ((by rw[yp];rfl)) ?_;refine wp_skip (aK (aa (ag ?_)));refine mv h69 rfl rfl fun _ h70=>?_;refine sv h70 (a7 (h70.ev rfl) (h70.ev rfl) (by omega)) fun _ h71=>?_;refine ma h71 rfl rfl fun _ h72=>?_;refine ae (aa ?_);exact⟨j+1,(by omega),hlt,h72.re ⟨rfl,rfl,rfl,trivial⟩,S68⟩
    case hB=>kernel_rfl
    case hst=>rfl
   ·
    have hge:t.ds.length≤j:=by have:=of_decide_eq_false hc3;omega
    refine wp_exit ?_;refine ar ?_;refine ar ?_;refine bz ?_;refine aa (ab (ag ?_));refine ma h57 rfl rfl fun _ h73=>?_;refine ae (aa (wp_ret ?_));refine bw h73 rfl rfl ?_;exact⟨rfl,S52.below⟩
set_option maxRecDepth 4000
open Go.RowKit Go.Sort Go.Shelf
theorem dg (s:List UInt8) (a c:Nat) (h1:a+c≤s.length) (hs:s.length≤100000) (hc:c≤6) (w:World) :
 Calls Tryz.prog 73 #[.string (bs s),.int .i64 a,.int .i64 c] w fun e w'=>e=.returned (.int .i64 (iY s a c))∧w=w':=by
 have h:=n3 (bs s) a c (by rw[gS];exact h1) (by rw[gS];unfold maxLen;omega) hc w;rw[zA] at h;exact h
set_option maxRecDepth 4000
open Go.RowKit Go.Sort Go.Shelf
theorem vi {l:List UInt8} (k:Nat):(gN l (k+1)).flatMap bU=(gN l k).flatMap bU ++ [.int .i64 (iY l (2+11*k) 2),.int .i64 (iY l (2+11*k+2) 4),.int .i64 (iY l (2+11*k+6) 4),.bool (iY l (2+11*k+10) 1==1)]:=by
 rw[nN,List.flatMap_append];rfl
theorem w8 {l:List UInt8} (k:Nat):(iV l (k+1)).flatMap cm=(iV l k).flatMap cm ++ [.int .i64 (iY l (2+11*bo l+7*k) 2),.bool (iY l (2+11*bo l+7*k+2) 1==1),.int .i64 (iY l (2+11*bo l+7*k+3) 4)]:=by
 rw[nv,List.flatMap_append];rfl
theorem jL (l:List UInt8) (w:World) (hl:l.length≤100000) :
 Calls Tryz.prog 19 #[.string (bs l)] w fun e w'=>∃i:Option Addr × Nat × Option Addr × Nat,e=.returned (.tuple #[bO (cx l) i.1 i.2.1 i.2.2.1 i.2.2.2,.int .i64 (fC l)]) ∧
  St [] w w' [.row (.slice i.1 (cx l).ts.length i.2.1) (cx l).ts.length 116 4 ((cx l).ts.flatMap bU),.row (.slice i.2.2.1 (cx l).ds.length i.2.2.2) (cx l).ds.length 124 3 ((cx l).ds.flatMap cm)]:=by
 have hsz:(bs l).size=l.length:=gS l;have hN0:=xg l 0 1;have hM0:=xg l 1 1
 have hNi:((bo l:Nat):Int)=iY l 0 1:=by unfold bo;omega
 have hMi:((dD l:Nat):Int)=iY l 1 1:=by unfold dD;omega
 have hNb:bo l<256:=by have:=hN0.2;omega
 have hMb:dD l<256:=by have:=hM0.2;omega
 refine aD (N:=118) Tryz.func19 rfl rfl rfl (fun _ h0=>?_);have S0:=St.init w;refine ab (ag ?_);refine na (.agg #[.slice none 0 0,.slice none 0 0]) h0 rfl S0 fun b2 _ _ gb2 h1 S1=>?_;refine ma h1 rfl rfl fun _ h2=>?_;refine cu ?_;refine sv h2 (bb (zs:=[.slice none 0 0,.slice none 0 0]) (pl:=[(0,1),(1,1)]) (by kernel_rfl) (by kernel_rfl) (h2.evs2 rfl) rfl rfl) fun _ h3=>?_;refine na (.agg #[.slice none 0 0,.slice none 0 0]) h3 rfl S1 fun b4 _ _ gb4 h4 S4=>?_;refine az h4 (wn rfl) ⟨rfl,rfl⟩ (h4.ev rfl) (h4.ev rfl) rfl (by kernel_rfl) S4 (i:=0) rfl rfl rfl fun _ S5=>?_;refine ae (aa (ab (ab (ag ?_))));refine mv h4 rfl rfl fun _ h6=>?_;refine sv h6 (gQ Tryz.underlying9 (h6.ev rfl)) fun _ h7=>?_;refine sv h7 (bh (h7.ev rfl) (h7.ev rfl)) fun _ h8=>?_;refine ae (aa ?_);refine aB (h8.ev rfl) (fun hc0=>?_) (fun hc0=>?_)
 ·
  have hE:fC l=10:=by unfold fC;rw[if_pos (by have:=of_decide_eq_true hc0;omega)]
  have hR:cx l=tbl0:=by unfold cx;rw[if_neg (by rw[hE];decide)]
  refine ab (ag ?_);refine sv h8 (av (by kernel_rfl) (by kernel_rfl) (h8.ev rfl) (S5.cellsAll (i:=0) rfl)) fun _ h9=>?_;refine az h9 (wn rfl) ⟨rfl,rfl⟩ (h9.ev rfl) (h9.ev rfl) rfl (by kernel_rfl) S5 (i:=1) rfl rfl rfl fun _ S10=>?_;refine ma h9 rfl rfl fun _ h11=>?_;refine ae (aa (wp_ret (ak ?_)));refine dz h11 rfl rfl rfl S10 (i:=1) rfl (by kernel_rfl) (by kernel_rfl) ?_;refine⟨(none,0,none,0),by rw[hR,hE];rfl,?_⟩;rw[hR];exact((S10.sub (List.nil_sublist _)).nilRow 124 3).nilRow 116 4
 ·
  have h2:2≤l.length:=by have:=of_decide_eq_false hc0;omega
  refine wp_skip (aa (ab (ag ?_)));refine mv h8 rfl rfl fun _ h12=>?_;refine bF h12 (wn rfl) (aq (fun _ _=>by kernel_rfl) (h12.evs rfl) rfl) rfl rfl (dg l 0 1 (by omega) hl (by decide) _) fun _ h13=>?_;rw[←hNi] at h13;refine mv h13 rfl rfl fun _ h14=>?_;refine bF h14 (wn rfl) (aq (fun _ _=>by kernel_rfl) (h14.evs rfl) rfl) rfl rfl (dg l 1 1 (by omega) hl (by decide) _) fun _ h15=>?_;rw[←hMi] at h15;refine ma h15 rfl rfl fun _ h16=>?_;refine ma h16 rfl rfl fun _ h17=>?_;refine ae (aa (ab (ab (ag ?_))));refine mv h17 rfl rfl fun _ h18=>?_;refine sv h18 (gQ Tryz.underlying9 (h18.ev rfl)) fun _ h19=>?_;refine mv h19 rfl rfl fun _ h20=>?_;refine sv h20 (ij (h20.ev rfl) (h20.ev rfl) (by omega)) fun _ h21=>?_;refine sv h21 (a7 (h21.ev rfl) (h21.ev rfl) (by omega)) fun _ h22=>?_;refine mv h22 rfl rfl fun _ h23=>?_;refine sv h23 (ij (h23.ev rfl) (h23.ev rfl) (by omega)) fun _ h24=>?_;refine sv h24 (a7 (h24.ev rfl) (h24.ev rfl) (by omega)) fun _ h25=>?_;refine sv h25 (bc (h25.ev rfl) (h25.ev rfl)) fun _ h26=>?_;refine ae (aa ?_);refine aB (h26.ev rfl) (fun hc1=>?_) (fun hc1=>?_)
  ·
   have hE:fC l=10:=by
    unfold fC;rw[if_neg (by omega),if_pos];intro q;rw[hsz,q] at hc1;simp at hc1
   have hR:cx l=tbl0:=by unfold cx;rw[if_neg (by rw[hE];decide)]
   refine ab (ag ?_);refine sv h26 (av (by kernel_rfl) (by kernel_rfl) (h26.ev rfl) (S5.cellsAll (i:=0) rfl)) fun _ h27=>?_;refine az h27 (wn rfl) ⟨rfl,rfl⟩ (h27.ev rfl) (h27.ev rfl) rfl (by kernel_rfl) S5 (i:=1) rfl rfl rfl fun _ S28=>?_;refine ma h27 rfl rfl fun _ h29=>?_;refine ae (aa (wp_ret (ak ?_)));refine dz h29 rfl rfl rfl S28 (i:=1) rfl (by kernel_rfl) (by kernel_rfl) ?_;refine⟨(none,0,none,0),by rw[hR,hE];rfl,?_⟩;rw[hR];exact((S28.sub (List.nil_sublist _)).nilRow 124 3).nilRow 116 4
  ·
   have h3:l.length=2+11*bo l+7*dD l:=by
    rw[hsz] at hc1;simp at hc1;omega
   refine wp_skip (aa (ab (ag ?_)));refine na (.agg #[.slice none 0 0,.slice none 0 0]) h26 rfl S5 fun b7 _ _ gb7 h30 S30=>?_;replace S30:=St.nilRow (St.nilRow S30 124 3) 116 4;refine cu ?_;refine ma h30 rfl rfl fun _ h31=>?_;refine ae (aa (ab (ab (ag ?_))));refine ma h31 rfl rfl fun _ h32=>?_;refine ae (aa (wp_block ?_));refine bC h32 S30 [7,6,5,4,3,2,0] (fun (q:Nat × Option Addr × Nat)=>[(9,.int .i64 (q.1:Nat)),(8,.bool (fD l q.1))]) (fun (q:Nat × Option Addr × Nat)=>q.1≤bo l) (fun q L=>[.row (.slice q.2.1 q.1 q.2.2) q.1 116 4 ((gN l q.1).flatMap bU),.row (.slice none 0 0) 0 124 3 [],.box b7 #[.slice q.2.1 q.1 q.2.2,.slice none 0 0] 25,.box b4 #[.slice none 0 0,.slice none 0 0] 25,.box b2 #[.slice none 0 0,.slice none 0 0] 25]) (fun (q:Nat × Option Addr × Nat)=>bo l-q.1) ((0,none,0)) (Nat.zero_le _) ⟨rfl,rfl,rfl,rfl,rfl,rfl,rfl,rfl,rfl,trivial⟩ (S30) ?_;intro q _ _ hF0 h33 S33;refine ab (ab (ag ?_));refine mv h33 rfl rfl fun _ h34=>?_;refine mv h34 rfl rfl fun _ h35=>?_;refine sv h35 (bh (h35.ev rfl) (h35.ev rfl)) fun _ h36=>?_;refine ae (aa ?_);refine aB (h36.ev rfl) (fun hc2=>?_) (fun hc2=>?_)
   ·
    have hlt:q.1<bo l:=by have:=of_decide_eq_true hc2;omega
    refine wp_skip (aa (ab (wp_block (ab (ag ?_)))));refine mv h36 rfl rfl fun _ h37=>?_;refine sv h37 (ij (h37.ev rfl) (h37.ev rfl) (by omega)) fun _ h38=>?_;refine sv h38 (a8 (v':=.int .i64 ((2+11*q.1:Nat):Int)) (congrArg _ (by omega)) (a7 (h38.ev rfl) (h38.ev rfl) (by omega))) fun _ h39=>?_;refine ma h39 rfl rfl fun _ h40=>?_;refine cu ?_;refine mv h40 rfl rfl fun _ h41=>?_;refine mv h41 rfl rfl fun _ h42=>?_;apply cQ (x:=decide (iY l (2+11*q.1+10) 1≤1)) h42 S33 42 rfl 6 48
    case ht=>
     intro gc42;refine sy h42 rfl rfl rfl gc42 (aj (h42.ev rfl)) rfl rfl fun _ h43=>?_;refine sy h43 rfl rfl rfl gc42 (aj (h43.ev rfl)) rfl rfl fun _ h44=>?_;refine sy h44 rfl rfl rfl gc42 (a8 (v':=.int .i64 ((2+11*q.1+10:Nat):Int)) (congrArg _ (by omega)) (a7 (h44.ev rfl) (h44.ev rfl) (by omega))) rfl rfl fun _ h45=>?_;refine bF h45 (ah h45 _ rfl rfl rfl gc42) (aq (fun _ _=>by kernel_rfl) (h45.evs rfl) rfl) rfl rfl (dg l (2+11*q.1+10) 1 (by omega) hl (by decide) _) fun _ h46=>?_;refine sy h46 rfl rfl rfl gc42 (iG (h46.ev rfl) (h46.ev rfl)) rfl rfl fun _ h47=>?_;refine sv h47 (aA (h47.ev rfl) gc42 (h47.ev rfl)) fun _ h48=>?_;exact ae ⟨h48.mid (m:=[(_,_),(_,_),(_,_),(_,_),(_,_)]) rfl,S33⟩
    case hf=>
     intro gc42;refine no h42 rfl rfl rfl gc42 rfl rfl fun _ h49=>?_;refine no h49 rfl rfl rfl gc42 rfl rfl fun _ h50=>?_;refine no h50 rfl rfl rfl gc42 rfl rfl fun _ h51=>?_;refine no h51 rfl rfl rfl gc42 rfl rfl fun _ h52=>?_;refine no h52 rfl rfl rfl gc42 rfl rfl fun _ h53=>?_;refine sv h53 (aG (h53.ev rfl) gc42 (h53.ev rfl)) fun _ h54=>?_;exact ae ⟨h54.mid (m:=[(_,_),(_,_),(_,_),(_,_),(_,_)]) rfl,S33⟩
    case h=>
     rintro a55 X55 ⟨h55,S55⟩
     rw[←nn] at h55;refine ma h55 rfl rfl fun _ h56=>?_;refine ae (aa ?_);apply bq h56 [false,false,false,false,false,false,false,false,false,false,false,false,false,false,false,false,false,false,false,true] _ (by kernel_rfl)
     case h=>
      refine qv h56 (fun X hX=>ai (off:=0) (j:=0) (by kernel_rfl) (h56.ev rfl) rfl) fun _ h57=>?_;refine qv h57 (fun X hX=>ao (by kernel_rfl) (h57.ev rfl) ((S55.grow hX).cell (i:=2) rfl rfl)) fun _ h58=>?_;refine qv h58 (fun X hX=>aj (h58.ev rfl)) fun _ h59=>?_;refine qv h59 (fun X hX=>aj (h59.ev rfl)) fun _ h60=>?_;refine da h60 (wn rfl) rfl rfl (fun X=>(aq (fun _ _=>by kernel_rfl) (h60.evs rfl) rfl)) (fun X hX=>dg l (2+11*q.1) 2 (by omega) hl (by decide) _) fun _ h61=>?_;refine qv h61 (fun X hX=>aj (h61.ev rfl)) fun _ h62=>?_;refine qv h62 (fun X hX=>aj (h62.ev rfl)) fun _ h63=>?_;refine qv h63 (fun X hX=>a8 (v':=.int .i64 ((2+11*q.1+2:Nat):Int)) (congrArg _ (by omega)) (a7 (h63.ev rfl) (h63.ev rfl) (by omega))) fun _ h64=>?_;refine da h64 (wn rfl) rfl rfl (fun X=>(aq (fun _ _=>by kernel_rfl) (h64.evs rfl) rfl)) (fun X hX=>dg l (2+11*q.1+2) 4 (by omega) hl (by decide) _) fun _ h65=>?_;refine qv h65 (fun X hX=>aj (h65.ev rfl)) fun _ h66=>?_;refine qv h66 (fun X hX=>aj (h66.ev rfl)) fun _ h67=>?_;refine qv h67 (fun X hX=>a8 (v':=.int .i64 ((2+11*q.1+6:Nat):Int)) (congrArg _ (by omega)) (a7 (h67.ev rfl) (h67.ev rfl) (by omega))) fun _ h68=>?_;refine da h68 (wn rfl) rfl rfl (fun X=>(aq (fun _ _=>by kernel_rfl) (h68.evs rfl) rfl)) (fun X hX=>dg l (2+11*q.1+6) 4 (by omega) hl (by decide) _) fun _ h69=>?_;refine qv h69 (fun X hX=>aj (h69.ev rfl)) fun _ h70=>?_;refine qv h70 (fun X hX=>aj (h70.ev rfl)) fun _ h71=>?_;refine qv h71 (fun X hX=>a8 (v':=.int .i64 ((2+11*q.1+10:Nat):Int)) (congrArg _ (by omega)) (a7 (h71.ev rfl) (h71.ev rfl) (by omega))) fun _ h72=>?_;refine da h72 (wn rfl) rfl rfl (fun X=>(aq (fun _ _=>by kernel_rfl) (h72.evs rfl) rfl)) (fun X hX=>dg l (2+11*q.1+10) 1 (by omega) hl (by decide) _) fun _ h73=>?_
      refine qv h73 (fun X hX=>aW (h73.ev rfl) (h73.ev rfl)) fun _ h74=>?_;refine qv h74 (fun X hX=>bb (zs:=[.int .i64 0,.int .i64 0,.int .i64 0,.bool false]) (pl:=[(0,1),(1,1),(2,1),(3,1)]) (by kernel_rfl) (by kernel_rfl) (h74.evs2 rfl) rfl rfl) fun _ h75=>?_;refine aH ?_;apply ez (k:=19) (deps:=[]) (R:=NewB _ (fun b=>.slice (some ⟨b,0,none⟩) 1 1) _ _) h75 rfl rfl rfl NewB.stable (fun X hX hΦ=>eX (cD (zc:=[.int .i64 0,.int .i64 0,.int .i64 0,.bool false]) (sz:=4) rfl Tryz.underlying22 (by kernel_rfl) (by kernel_rfl) rfl rfl rfl (h75.evs2 rfl) rfl rfl rfl) hX.size);intro v68 _ h76;refine bE fun _ hX77 hΦ77=>?_;have S77:=S55.grow hX77;have qv68:=br hΦ77 (k:=19) rfl;obtain⟨b68,rfl,gb68,qv68⟩:=qv68;have S78:=S55.add hX77 (e:=.box _ _ _) qv68 (fun b hb=>by cases hb;exact⟨gb68,Box.lt qv68⟩);refine b0 (z:=.agg #[.int .i64 0,.int .i64 0,.int .i64 0,.bool false]) (sz:=4) (bytes:=32) h76 (wn rfl) ⟨rfl,rfl⟩ rfl Tryz.underlying22 (by kernel_rfl) rfl rfl (h76.ev rfl) (h76.ev rfl) S78 (i:=1) rfl (S78.boxRd (i:=0) rfl) rfl (List.all_eq_true.1 rfl) ⟨(by omega),by decide⟩ fun A69 c69 _ _ h79 S79=>?_;refine vf h79 0 0 rfl rfl rfl fun _ h80=>?_;refine cv h80 (wn rfl) ⟨rfl,rfl⟩ (h80.ev rfl) (h80.ev rfl) rfl (by kernel_rfl) S79 (i:=3) rfl rfl rfl fun _ S81=>?_;refine ae (aK (aa (ag ?_)));refine mv h80 rfl rfl fun _ h82=>?_;refine sv h82 (a7 (h82.ev rfl) (h82.ev rfl) (by omega)) fun _ h83=>?_;refine ma h83 rfl rfl fun _ h84=>?_;refine ae (aa ?_);exact⟨(q.1+1,A69,c69),(by show bo l-(q.1+1)<bo l-q.1;omega),hlt,h84.re ⟨rfl,rfl,rfl,rfl,rfl,rfl,rfl,rfl,rfl,trivial⟩,(by show St [] w _ [.row _ _ _ _ ((gN l (q.1+1)).flatMap bU),_,_,_,_];rw[vi];exact(S81.sub (.cons _ (.cons_cons _ (.cons_cons _ (.cons_cons _ (.cons_cons _ (.cons_cons _ .slnil))))))))⟩
     case hB=>kernel_rfl
     case hst=>rfl
   ·
    obtain⟨n1,A1,c1⟩:=q
    obtain rfl:n1=bo l:=by have h8:=of_decide_eq_false hc2;have h9:n1≤bo l:=hF0;change ¬((n1:Int)<_) at h8;omega
    have hG0:fD l (bo l)=(fD l (bo l)&&gy l 0):=by rw[show gy l 0=true from rfl,Bool.and_true]
    replace h36:=h36.also (t:=8) (v:=.bool (fD l (bo l)&&gy l 0)) (by rw[←hG0];rfl);refine wp_exit ?_;refine ar ?_;refine ar ?_;refine bz ?_;refine aa (ab (ab (ag ?_)));refine ma h36 rfl rfl fun _ h85=>?_;refine ae (aa (wp_block ?_));refine bC h85 S33 [7,6,5,4,3,2,0] (fun (q:Nat × Option Addr × Nat)=>[(11,.int .i64 (q.1:Nat)),(8,.bool (fD l (bo l)&&gy l q.1))]) (fun (q:Nat × Option Addr × Nat)=>q.1≤dD l) (fun q L=>[.row (.slice A1 (bo l) c1) (bo l) 116 4 ((gN l (bo l)).flatMap bU),.row (.slice q.2.1 q.1 q.2.2) q.1 124 3 ((iV l q.1).flatMap cm),.box b7 #[.slice A1 (bo l) c1,.slice q.2.1 q.1 q.2.2] 25,.box b4 #[.slice none 0 0,.slice none 0 0] 25,.box b2 #[.slice none 0 0,.slice none 0 0] 25]) (fun (q:Nat × Option Addr × Nat)=>dD l-q.1) ((0,none,0)) (Nat.zero_le _) ⟨rfl,rfl,rfl,rfl,rfl,rfl,rfl,rfl,rfl,trivial⟩ (S33) ?_;intro q _ X86 hF1 h86 S86;refine ab (ab (ag ?_));refine mv h86 rfl rfl fun _ h87=>?_;refine mv h87 rfl rfl fun _ h88=>?_;refine sv h88 (bh (h88.ev rfl) (h88.ev rfl)) fun _ h89=>?_;refine ae (aa ?_);refine aB (h89.ev rfl) (fun hc3=>?_) (fun hc3=>?_)
    ·
     have hlt:q.1<dD l:=by have:=of_decide_eq_true hc3;omega
     refine wp_skip (aa (ab (wp_block (ab (ag ?_)))));refine mv h89 rfl rfl fun _ h90=>?_;refine sv h90 (ij (h90.ev rfl) (h90.ev rfl) (by omega)) fun _ h91=>?_;refine sv h91 (a8 (v':=.int .i64 ((2+11*bo l:Nat):Int)) (congrArg _ (by omega)) (a7 (h91.ev rfl) (h91.ev rfl) (by omega))) fun _ h92=>?_;refine mv h92 rfl rfl fun _ h93=>?_;refine sv h93 (ij (h93.ev rfl) (h93.ev rfl) (by omega)) fun _ h94=>?_;refine sv h94 (a8 (v':=.int .i64 ((2+11*bo l+7*q.1:Nat):Int)) (congrArg _ (by omega)) (a7 (h94.ev rfl) (h94.ev rfl) (by omega))) fun _ h95=>?_;refine ma h95 rfl rfl fun _ h96=>?_;refine cu ?_;refine mv h96 rfl rfl fun _ h97=>?_;refine mv h97 rfl rfl fun _ h98=>?_;apply cQ (x:=decide (iY l (2+11*bo l+7*q.1+2) 1≤1)) h98 S86 83 rfl 6 89
     case ht=>
      intro gc83;refine sy h98 rfl rfl rfl gc83 (aj (h98.ev rfl)) rfl rfl fun _ h99=>?_;refine sy h99 rfl rfl rfl gc83 (aj (h99.ev rfl)) rfl rfl fun _ h100=>?_;refine sy h100 rfl rfl rfl gc83 (a8 (v':=.int .i64 ((2+11*bo l+7*q.1+2:Nat):Int)) (congrArg _ (by omega)) (a7 (h100.ev rfl) (h100.ev rfl) (by omega))) rfl rfl fun _ h101=>?_;refine bF h101 (ah h101 _ rfl rfl rfl gc83) (aq (fun _ _=>by kernel_rfl) (h101.evs rfl) rfl) rfl rfl (dg l (2+11*bo l+7*q.1+2) 1 (by omega) hl (by decide) _) fun _ h102=>?_;refine sy h102 rfl rfl rfl gc83 (iG (h102.ev rfl) (h102.ev rfl)) rfl rfl fun _ h103=>?_;refine sv h103 (aA (h103.ev rfl) gc83 (h103.ev rfl)) fun _ h104=>?_;exact ae ⟨h104.mid (m:=[(_,_),(_,_),(_,_),(_,_),(_,_)]) rfl,S86⟩
     case hf=>
      intro gc83;refine no h98 rfl rfl rfl gc83 rfl rfl fun _ h105=>?_;refine no h105 rfl rfl rfl gc83 rfl rfl fun _ h106=>?_;refine no h106 rfl rfl rfl gc83 rfl rfl fun _ h107=>?_;refine no h107 rfl rfl rfl gc83 rfl rfl fun _ h108=>?_;refine no h108 rfl rfl rfl gc83 rfl rfl fun _ h109=>?_;refine sv h109 (aG (h109.ev rfl) gc83 (h109.ev rfl)) fun _ h110=>?_;exact ae ⟨h110.mid (m:=[(_,_),(_,_),(_,_),(_,_),(_,_)]) rfl,S86⟩
     case h=>
      rintro a111 X111 ⟨h111,S111⟩
      rw[Bool.and_assoc,←nt] at h111;refine ma h111 rfl rfl fun _ h112=>?_;refine ae (aa ?_);apply bq h112 [false,false,false,false,false,false,false,false,false,false,false,false,false,false,false,true] _ (by kernel_rfl)
      case h=>
       refine qv h112 (fun X hX=>ai (off:=1) (j:=1) (by kernel_rfl) (h112.ev rfl) rfl) fun _ h113=>?_;refine qv h113 (fun X hX=>ao (by kernel_rfl) (h113.ev rfl) ((S111.grow hX).cell (i:=2) rfl rfl)) fun _ h114=>?_;refine qv h114 (fun X hX=>aj (h114.ev rfl)) fun _ h115=>?_;refine qv h115 (fun X hX=>aj (h115.ev rfl)) fun _ h116=>?_;refine da h116 (wn rfl) rfl rfl (fun X=>(aq (fun _ _=>by kernel_rfl) (h116.evs rfl) rfl)) (fun X hX=>dg l (2+11*bo l+7*q.1) 2 (by omega) hl (by decide) _) fun _ h117=>?_;refine qv h117 (fun X hX=>aj (h117.ev rfl)) fun _ h118=>?_;refine qv h118 (fun X hX=>aj (h118.ev rfl)) fun _ h119=>?_;refine qv h119 (fun X hX=>a8 (v':=.int .i64 ((2+11*bo l+7*q.1+2:Nat):Int)) (congrArg _ (by omega)) (a7 (h119.ev rfl) (h119.ev rfl) (by omega))) fun _ h120=>?_;refine da h120 (wn rfl) rfl rfl (fun X=>(aq (fun _ _=>by kernel_rfl) (h120.evs rfl) rfl)) (fun X hX=>dg l (2+11*bo l+7*q.1+2) 1 (by omega) hl (by decide) _) fun _ h121=>?_;refine qv h121 (fun X hX=>aW (h121.ev rfl) (h121.ev rfl)) fun _ h122=>?_;refine qv h122 (fun X hX=>aj (h122.ev rfl)) fun _ h123=>?_;refine qv h123 (fun X hX=>aj (h123.ev rfl)) fun _ h124=>?_;refine qv h124 (fun X hX=>a8 (v':=.int .i64 ((2+11*bo l+7*q.1+3:Nat):Int)) (congrArg _ (by omega)) (a7 (h124.ev rfl) (h124.ev rfl) (by omega))) fun _ h125=>?_;refine da h125 (wn rfl) rfl rfl (fun X=>(aq (fun _ _=>by kernel_rfl) (h125.evs rfl) rfl)) (fun X hX=>dg l (2+11*bo l+7*q.1+3) 4 (by omega) hl (by decide) _) fun _ h126=>?_;refine qv h126 (fun X hX=>bb (zs:=[.int .i64 0,.bool false,.int .i64 0]) (pl:=[(0,1),(1,1),(2,1)]) (by kernel_rfl) (by kernel_rfl) (h126.evs2 rfl) rfl rfl) fun _ h127=>?_;refine aH ?_;apply ez (k:=15) (deps:=[]) (R:=NewB _ (fun b=>.slice (some ⟨b,0,none⟩) 1 1) _ _) h127 rfl rfl rfl NewB.stable (fun X hX hΦ=>eX (cD (zc:=[.int .i64 0,.bool false,.int .i64 0]) (sz:=3) rfl Tryz.underlying23 (by kernel_rfl) (by kernel_rfl) rfl rfl rfl (h127.evs2 rfl) rfl rfl rfl) hX.size)
       intro v105 _ h128;refine bE fun _ hX129 hΦ129=>?_;have S129:=S111.grow hX129;have qv105:=br hΦ129 (k:=15) rfl;obtain⟨b105,rfl,gb105,qv105⟩:=qv105;have S130:=S111.add hX129 (e:=.box _ _ _) qv105 (fun b hb=>by cases hb;exact⟨gb105,Box.lt qv105⟩);refine b0 (z:=.agg #[.int .i64 0,.bool false,.int .i64 0]) (sz:=3) (bytes:=24) h128 (wn rfl) ⟨rfl,rfl⟩ rfl Tryz.underlying23 (by kernel_rfl) rfl rfl (h128.ev rfl) (h128.ev rfl) S130 (i:=2) rfl (S130.boxRd (i:=0) rfl) rfl (List.all_eq_true.1 rfl) ⟨(by omega),by decide⟩ fun A106 c106 _ _ h131 S131=>?_;refine vf h131 1 1 rfl rfl rfl fun _ h132=>?_;refine cv h132 (wn rfl) ⟨rfl,rfl⟩ (h132.ev rfl) (h132.ev rfl) rfl (by kernel_rfl) S131 (i:=3) rfl rfl rfl fun _ S133=>?_;refine ae (aK (aa (ag ?_)));refine mv h132 rfl rfl fun _ h134=>?_;refine sv h134 (a7 (h134.ev rfl) (h134.ev rfl) (by omega)) fun _ h135=>?_;refine ma h135 rfl rfl fun _ h136=>?_;refine ae (aa ?_);exact⟨(q.1+1,A106,c106),(by show dD l-(q.1+1)<dD l-q.1;omega),hlt,h136.re ⟨rfl,rfl,rfl,rfl,rfl,rfl,rfl,rfl,rfl,trivial⟩,(by show St [] w _ [_,.row _ _ _ _ ((iV l (q.1+1)).flatMap cm),_,_,_];rw[w8];exact(S133.sub (.cons _ (.cons_cons _ (.cons_cons _ (.cons_cons _ (.cons_cons _ (.cons_cons _ .slnil))))))))⟩
      case hB=>kernel_rfl
      case hst=>rfl
    ·
     obtain⟨n2,A2,c2⟩:=q
     obtain rfl:n2=dD l:=by have h8:=of_decide_eq_false hc3;have h9:n2≤dD l:=hF1;change ¬((n2:Int)<_) at h8;omega
     have eT:(dH l).ts.length=bo l:=by show(gN l (bo l)).length=_;unfold gN;simp
     have eD:(dH l).ds.length=dD l:=by show(iV l (dD l)).length=_;unfold iV;simp
     replace S86:St [] w X86 [.row (.slice A1 (dH l).ts.length c1) (dH l).ts.length 116 4 ((dH l).ts.flatMap bU),.row (.slice A2 (dH l).ds.length c2) (dH l).ds.length 124 3 ((dH l).ds.flatMap cm),.box b7 #[.slice A1 (dH l).ts.length c1,.slice A2 (dH l).ds.length c2] 25,.box b4 #[.slice none 0 0,.slice none 0 0] 25,.box b2 #[.slice none 0 0,.slice none 0 0] 25]:=by
      rw[eT,eD];exact S86
     refine wp_exit ?_;refine ar ?_;refine ar ?_;refine bz ?_;refine aa (ab (ab (ag ?_)));refine mv h89 rfl rfl fun _ h137=>?_;refine sv h137 (cN (h137.ev rfl)) fun _ h138=>?_;refine ae (aa ?_);refine aB (h138.ev rfl) (fun hc4=>?_) (fun hc4=>?_)
     ·
      have hE:fC l=3:=by
       unfold fC
       rw[if_neg (by omega),if_neg (by omega),show(fD l (bo l)&&gy l (dD l))=false by cases q1:(fD l (bo l)&&gy l (dD l)) with
        | false=>rfl
        | true=>rw[q1] at hc4;cases hc4];rfl
      have hR:cx l=tbl0:=by unfold cx;rw[if_neg (by rw[hE];decide)]
      refine ab (ag ?_);refine sv h138 (av (by kernel_rfl) (by kernel_rfl) (h138.ev rfl) (S86.cellsAll (i:=3) rfl)) fun _ h139=>?_;refine az h139 (wn rfl) ⟨rfl,rfl⟩ (h139.ev rfl) (h139.ev rfl) rfl (by kernel_rfl) S86 (i:=4) rfl rfl rfl fun _ S140=>?_;refine ma h139 rfl rfl fun _ h141=>?_;refine ae (aa (wp_ret (ak ?_)));refine dz h141 rfl rfl rfl S140 (i:=4) rfl (by kernel_rfl) (by kernel_rfl) ?_;refine⟨(none,0,none,0),by rw[hR,hE];rfl,?_⟩;rw[hR];exact((S140.sub (List.nil_sublist _)).nilRow 124 3).nilRow 116 4
     ·
      have hFG:(fD l (bo l)&&gy l (dD l))=true:=by simpa using hc4
      have hE:fC l=dk (dH l):=by
       unfold fC;rw[if_neg (by omega),if_neg (by omega),hFG];show(if (0:Int)=0 then (if dk (dH l)=0 then 0 else dk (dH l)) else 0)=_;rw[if_pos rfl]
       split<;>omega
      refine wp_skip (aa (ab (ab (ag ?_))));refine sv (v:=bO (dH l) A1 c1 A2 c2) h138 (av (by kernel_rfl) (by kernel_rfl) (h138.ev rfl) (S86.cellsAll (i:=2) rfl)) fun _ h142=>?_;refine aV h142 (wn rfl) (aq (fun _ _=>by kernel_rfl) (h142.evs rfl) rfl) rfl rfl S86 (jg (dH l) A1 c1 A2 c2 _ (S86.rdOf (i:=0) rfl) (S86.rdOf (i:=1) rfl)) fun _ _ h143 S143=>?_;refine ma h143 rfl rfl fun _ h144=>?_;refine cu ?_;refine mv h144 rfl rfl fun _ h145=>?_;refine sv h145 (bc (h145.ev rfl) (h145.ev rfl)) fun _ h146=>?_;refine ae (aa ?_);refine aB (h146.ev rfl) (fun hc5=>?_) (fun hc5=>?_)
      ·
       have hne:fC l≠0:=by rw[hE];simpa using hc5
       have hR:cx l=tbl0:=by unfold cx;rw[if_neg hne]
       refine ab (ag ?_);refine sv h146 (av (by kernel_rfl) (by kernel_rfl) (h146.ev rfl) (S143.cellsAll (i:=3) rfl)) fun _ h147=>?_;refine mv h147 rfl rfl fun _ h148=>?_;refine az h148 (wn rfl) ⟨rfl,rfl⟩ (h148.ev rfl) (h148.ev rfl) rfl (by kernel_rfl) S143 (i:=4) rfl rfl rfl fun _ S149=>?_;refine ma h148 rfl rfl fun _ h150=>?_;refine ae (aa (wp_ret (ak ?_)));refine dz h150 rfl rfl rfl S149 (i:=4) rfl (by kernel_rfl) (by kernel_rfl) ?_;refine⟨(none,0,none,0),by rw[hR,hE];rfl,?_⟩;rw[hR];exact((S149.sub (List.nil_sublist _)).nilRow 124 3).nilRow 116 4
      ·
       have hz:fC l=0:=by rw[hE];simpa using hc5
       have hR:cx l=dH l:=by unfold cx;rw[if_pos hz]
       refine wp_skip (aa (ab (ag ?_)));refine sv h146 (av (by kernel_rfl) (by kernel_rfl) (h146.ev rfl) (S143.cellsAll (i:=2) rfl)) fun _ h151=>?_;refine az h151 (wn rfl) ⟨rfl,rfl⟩ (h151.ev rfl) (h151.ev rfl) rfl (by kernel_rfl) S143 (i:=4) rfl rfl rfl fun _ S152=>?_;refine ma h151 rfl rfl fun _ h153=>?_;refine ae (aa (wp_ret ?_));refine dz h153 rfl rfl rfl S152 (i:=4) rfl (by kernel_rfl) (by kernel_rfl) ?_;refine⟨(A1,c1,A2,c2),by rw[hR,hz];rfl,?_⟩;rw[hR];exact(S152.sub (.cons_cons _ (.cons_cons _ (.cons _ (.cons _ (.cons _ .slnil))))))
end Go.Proofs.YtcfdpfmchchkaaaGreatDoor
