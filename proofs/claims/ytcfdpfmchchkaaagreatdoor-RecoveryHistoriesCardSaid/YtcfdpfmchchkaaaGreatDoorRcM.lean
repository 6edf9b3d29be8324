/-
  Chapter 22: the reference's errors and bytes of tables.
  Chapter 22: the reference's bytes of a table, and its table with any bytes.
  Chapter 22: the reference's table with any bytes.
-/
import Derived.Test.YtcfdpfmchchkaaaGreatDoorRcL
namespace Go.Proofs.YtcfdpfmchchkaaaGreatDoor
set_option maxHeartbeats 1000000
set_option maxRecDepth 4000
set_option linter.unusedVariables false
set_option linter.unusedSimpArgs false
open Go.RowKit Go.Sort Go.Shelf
theorem dw {α:Type} {l:List α} {j:Nat} (h0:0<j) (hj:j<l.length):cH l j=some (l[j-1]'ab):=by
 have:=dT l (j-1) ab
 rwa [show j-1+1=j by omega] at this
theorem xk (b:Bool):ar [bn true 2,bn b 9]=bn b 9:=by cases b<;>rfl
theorem xm {p:Option Trn} {x:Trn} (h:(bf x.i 1 9999&&bf x.l 1 2147483647&&bf x.u 0 x.l)=false):jH p x=2:=by unfold jH;rw[h];rfl
theorem rA {p:Option Trn} {x:Trn} (h:(bf x.i 1 9999&&bf x.l 1 2147483647&&bf x.u 0 x.l)=true):jH p x=bn (match p with | none=>true | some y=>decide (y.i<x.i)) 9:=by
 unfold jH;rw[h];exact xk _
theorem xZ {p:Option Dty} {x:Dty} (h:(bf x.g 0 600&&bf x.l 1 2147483647)=false):jL p x=2:=by unfold jL;rw[h];rfl
theorem rm {p:Option Dty} {x:Dty} (h:(bf x.g 0 600&&bf x.l 1 2147483647)=true):jL p x=bn (match p with | none=>true | some y=>decide (y.g<x.g)) 9:=by
 unfold jL;rw[h];exact xk _
theorem kh {α:Type} {f:Nat→α→Int} {l:List α} {j:Nat} (hj:j<l.length) (h:∀k (hk:k<l.length),k<j→f k l[k]=0) {e:Int} (he:f j l[j]=e) (h0:e≠0):(cB f 0 l).2=e:=by
 have:=cP f l 0 j hj (fun k hk hkj=>by rw[Nat.zero_add];exact h k hk hkj) (by rw[Nat.zero_add,he];exact h0);rw[Nat.zero_add,he] at this;rw[this]
def Cy:Trn:=⟨0,0,0,false⟩
def Cz:Dty:=⟨0,false,0⟩
theorem nE (t:Tbl) (A:Option Addr) (c:Nat) (B:Option Addr) (d:Nat) (w:World) (hr:Rd w w.heap.size A (t.ts.flatMap cd)) (hs:Rd w w.heap.size B (t.ds.flatMap cK)) :
 Calls Tryz.prog 21 #[cv t A c B d] w fun e w'=>e=.returned (.int .i64 (dy t))∧Below w.heap.size w w':=by
 obtain⟨E,hE⟩:∃E,E=dy t:=⟨_,rfl⟩;rw[←hE];unfold dy at hE;refine al (N:=97) Tryz.func21 rfl rfl rfl (fun _ h0=>?_);have Z:=St.init w;refine ah (ao ?_);refine nb h0 rfl rfl Z fun b1 _ _ Qb Y Z=>?_;refine GO 11 ?_;intro _ Y;apply bm Y Z 11 rfl 5 16
 case hf=>
  intro Zp;refine GO 5 ?_;intro _ Y;exact ae ⟨Y.midE 4,Z⟩
 case ht=>
  intro Zp;refine GO 5 ?_;intro _ Y;exact ae ⟨Y.midE 4,Z⟩
 case h=>
  rintro a18 Qc ⟨Zy,Zq⟩
  refine ae (ag ?_);refine ak (Zy.ev rfl) (fun Zb=>?_) (fun Zb=>?_)
  ·
   rw[if_pos (by have:=Zb;simp at this;omega)] at hE;refine GO 7 ?_;intro _ Y;refine aD Y rfl rfl ?_;exact⟨by rw[hE],Zq.below⟩
  ·
   rw[if_neg (by rw[Bool.or_eq_false_iff] at Zb;simp at Zb;omega)] at hE
   have hn:t.ts.length≤60∧t.ds.length≤60:=by rw[Bool.or_eq_false_iff] at Zb;simp at Zb;omega
   refine GO 9 ?_;intro _ Y;refine aY Y Zq [1] (fun (j:Nat)=>[(3,.int .i64 (j:Nat))]) (fun (j:Nat)=>j≤t.ts.length∧∀k (hk:k<t.ts.length),k<j→jH (cH t.ts k) t.ts[k]=0) (fun (j:Nat) L=>L) (fun (j:Nat)=>t.ts.length-j) (0) (⟨Nat.zero_le _,fun k _ h=>absurd h (Nat.not_lt_zero _)⟩) bz (Zq) ?_;intro j _ _ Zl Y Z;refine GO 10 ?_;intro _ Y;refine ak (Y.ev rfl) (fun Zr=>?_) (fun Zr=>?_)
   ·
    have hlt:j<t.ts.length:=by have:=of_decide_eq_true Zr;omega
    obtain⟨b,o,rfl,hB,_⟩:=hr.opened (aK cy aq ab);refine GO 9 ?_;intro _ Y;refine sv Y (au (i:=j) (sz:=4) Tryz.underlying22 aa (Y.ev rfl) (Y.ev rfl) ab ab rfl) fun _ Y=>?_;refine sv (v:=eV t.ts[j]) Y (ai aa aa (Y.ev rfl) (aW cy (Z.rd0 hr) hlt)) fun _ Y=>?_;refine na (.agg #[.int .i64 0,.int .i64 0,.int .i64 0,.bool false]) Y rfl Z fun b4 _ _ Qd Y Z=>?_;refine sw Y Z 0 fun _ Z=>?_;refine GO 7 ?_;intro _ Y;refine cC Y rfl (a6 _ _ _ _) fun _ Y=>?_;refine GO 2 ?_;intro _ Y;apply bm Y Z 33 rfl 5 38
    case hf=>
     intro Zc;refine GO 2 ?_;intro _ Y;refine bJ Y (aj Y _ rfl rfl rfl Zc) (ax a8 (Y.evs rfl) rfl) rfl rfl (a6 _ _ _ _) fun _ Y=>?_;refine GO 2 ?_;intro _ Y;exact ae ⟨Y.midE 4,Z⟩
    case ht=>
     intro Zc;refine GO 5 ?_;intro _ Y;exact ae ⟨Y.midE 4,Z⟩
    case h=>
     rintro a49 Qe ⟨Qf,Zs⟩
     refine GO 1 ?_;intro _ Y;apply bm Y Zs 39 rfl 7 46
     case hf=>
      intro Zd;refine GO 4 ?_;intro _ Y;refine bJ Y (aj Y _ rfl rfl rfl Zd) (ax a8 (Y.evs rfl) rfl) rfl rfl (a6 _ _ _ _) fun _ Y=>?_;refine GO 2 ?_;intro _ Y;exact ae ⟨Y.midE 6,Zs⟩
     case ht=>
      intro Zd;refine GO 7 ?_;intro _ Y;exact ae ⟨Y.midE 6,Zs⟩
     case h=>
      rintro a65 Qg ⟨Zw,Zt⟩
      refine ae (ag ?_);refine ak (Zw.ev rfl) (fun Ze=>?_) (fun Ze=>?_)
      ·
       have hbad:(bf t.ts[j].i 1 9999&&bf t.ts[j].l 1 2147483647&&bf t.ts[j].u 0 t.ts[j].l)=false:=by
        cases q1:bf t.ts[j].i 1 9999<;>cases q2:bf t.ts[j].l 1 2147483647<;>cases q3:bf t.ts[j].u 0 t.ts[j].l<;>rw[q1,q2,q3] at Ze<;>first | rfl | (simp at Ze)
       have he:(jh t.ts).2=2:=kh (f:=fun i x=>jH (cH t.ts i) x) hlt Zl.2 (xm hbad) aq;rw[he,if_pos aq] at hE;refine GO 12 ?_;intro _ Y;refine aD Y rfl rfl ?_;exact⟨by rw[hE],Zt.below⟩
      ·
       have hgood:(bf t.ts[j].i 1 9999&&bf t.ts[j].l 1 2147483647&&bf t.ts[j].u 0 t.ts[j].l)=true:=by
        cases q1:bf t.ts[j].i 1 9999<;>cases q2:bf t.ts[j].l 1 2147483647<;>cases q3:bf t.ts[j].u 0 t.ts[j].l<;>rw[q1,q2,q3] at Ze<;>first | rfl | (simp at Ze)
       refine wp_skip (ag (ah ?_));apply aH Zw (eZ 13) _ aa
       case h=>
        refine GO 3 ?_;intro _ Y;apply ln Y 49 rfl 10 59
        case ht=>
         intro Zf
         have hj0:0<j:=by have:=of_decide_eq_true Zf;omega
         refine GO 6 ?_;intro _ Y;refine qy Y (fun X hX=>(au (i:=j-1) (sz:=4) Tryz.underlying22 aa (Y.ev rfl) (Y.ev rfl) ab ab rfl)) fun _ Y=>?_;refine qy Y (fun X hX=>(fy 0 (Y.ev rfl))) fun _ Y=>?_;refine qy Y (fun X hX=>(lx (Y.ev rfl) ((aW cy ((Zt.grow hX).rd0 hr) (show j-1<t.ts.length by omega)) 0 _ rfl))) fun _ Y=>?_;refine qy Y (fun X hX=>(aw (v':=.bool (decide (t.ts[j].i≤((cH t.ts j).getD Cy).i))) (by rw[dw hj0 hlt,Option.getD_some]) (kW (Y.ev rfl) (Y.ev rfl)))) fun _ Y=>?_;exact av (Y.midE 9)
        case hf=>
         intro Zf;refine GO 10 ?_;intro _ Y;exact av ⟨_,Y.midE 9⟩
        case h=>
         intro v90 _ hg59 Y;refine av ?_;refine aP fun _ Zu Zz=>?_;have Z:=Zt.grow Zu;refine sv Y (dQ (Y.ev rfl) (Y.ev rfl) hg59 (Y.ev rfl)) fun _ Y=>?_;refine ae (ag ?_);refine ak (Y.ev rfl) (fun Zm=>?_) (fun Zm=>?_)
         ·
          have he:(jh t.ts).2=9:=by
           obtain⟨u1,u2⟩:=Bool.and_eq_true_iff.1 Zm
           have hj0:0<j:=by have:=of_decide_eq_true u1;omega
           refine kh (f:=fun i x=>jH (cH t.ts i) x) hlt Zl.2 ?_ aq;rw[rA hgood];rw[dw hj0 hlt] at u2 ⊢;have:=of_decide_eq_true u2;show bn (decide (t.ts[j-1].i<t.ts[j].i)) 9=9;rw[decide_eq_false (by change t.ts[j].i≤t.ts[j-1].i at this;omega)];rfl
          rw[he,if_pos aq] at hE;refine GO 11 ?_;intro _ Y;refine aD Y rfl rfl ?_;exact⟨by rw[hE],Z.below⟩
         ·
          have hz:jH (cH t.ts j) t.ts[j]=0:=by
           rw[rA hgood];rcases Nat.eq_zero_or_pos j with h0 | h0
           · subst h0;rfl
           · rw[decide_eq_true (by omega:(j:Int)>0),Bool.true_and,dw h0 hlt] at Zm
             have:=of_decide_eq_false Zm;rw[dw h0 hlt];show bn (decide (t.ts[j-1].i<t.ts[j].i)) 9=0;rw[decide_eq_true (by change ¬t.ts[j].i≤t.ts[j-1].i at this;omega)];rfl
          refine GO 9 ?_;intro _ Y;exact⟨j+1,ab,⟨hlt,fun k hk hkj=>by rcases Nat.lt_or_eq_of_le (show k≤j by omega) with q | q;exact Zl.2 k hk q;subst q;exact hz⟩,Y.re bz,(Z.sub (.cons _ (.cons_cons _ .slnil)))⟩
       case hB=>kernel_rfl
       case hst=>rfl
   ·
    have hge:t.ts.length≤j:=by have:=of_decide_eq_false Zr;omega
    have hz0:(jh t.ts).2=0:=(cu _ _).2 fun k hk=>Zl.2 k hk ab;rw[if_neg (fun h=>h hz0)] at hE;refine GO 12 ?_;intro _ Y;refine aY Y Z [1] (fun (j:Nat)=>[(5,.int .i64 (j:Nat))]) (fun (j:Nat)=>j≤t.ds.length∧∀k (hk:k<t.ds.length),k<j→jL (cH t.ds k) t.ds[k]=0) (fun (j:Nat) L=>L) (fun (j:Nat)=>t.ds.length-j) (0) (⟨Nat.zero_le _,fun k _ h=>absurd h (Nat.not_lt_zero _)⟩) bz (Z) ?_;intro j _ _ Zn Y Z;refine GO 10 ?_;intro _ Y;refine ak (Y.ev rfl) (fun Zv=>?_) (fun Zv=>?_)
    ·
     have hlt:j<t.ds.length:=by have:=of_decide_eq_true Zv;omega
     obtain⟨b,o,rfl,hB,_⟩:=hs.opened (aK cW aq ab);refine GO 9 ?_;intro _ Y;refine sv Y (au (i:=j) (sz:=3) Tryz.underlying23 aa (Y.ev rfl) (Y.ev rfl) ab ab rfl) fun _ Y=>?_;refine sv (v:=fF t.ds[j]) Y (ai aa aa (Y.ev rfl) (aW cW (Z.rd0 hs) hlt)) fun _ Y=>?_;refine na (.agg #[.int .i64 0,.bool false,.int .i64 0]) Y rfl Z fun b6 _ _ Qh Y Z=>?_;refine sw Y Z 0 fun _ Z=>?_;refine GO 7 ?_;intro _ Y;refine cC Y rfl (a6 _ _ _ _) fun _ Y=>?_;refine GO 2 ?_;intro _ Y;apply bm Y Z 77 rfl 5 82
     case hf=>
      intro Zg;refine GO 2 ?_;intro _ Y;refine bJ Y (aj Y _ rfl rfl rfl Zg) (ax a8 (Y.evs rfl) rfl) rfl rfl (a6 _ _ _ _) fun _ Y=>?_;refine GO 2 ?_;intro _ Y;exact ae ⟨Y.midE 4,Z⟩
     case ht=>
      intro Zg;refine GO 5 ?_;intro _ Y;exact ae ⟨Y.midE 4,Z⟩
     case h=>
      rintro a126 Qa ⟨Zh,Za⟩
      refine ae (ag ?_);refine ak (Zh.ev rfl) (fun Zi=>?_) (fun Zi=>?_)
      ·
       have hbad:(bf t.ds[j].g 0 600&&bf t.ds[j].l 1 2147483647)=false:=by
        cases q1:bf t.ds[j].g 0 600<;>cases q2:bf t.ds[j].l 1 2147483647<;>rw[q1,q2] at Zi<;>first | rfl | (simp at Zi)
       have he:(qO t.ds).2=2:=kh (f:=fun i x=>jL (cH t.ds i) x) hlt Zn.2 (xZ hbad) aq;rw[he] at hE;refine GO 12 ?_;intro _ Y;refine aD Y rfl rfl ?_;exact⟨by rw[hE],Za.below⟩
      ·
       have hgood:(bf t.ds[j].g 0 600&&bf t.ds[j].l 1 2147483647)=true:=by
        cases q1:bf t.ds[j].g 0 600<;>cases q2:bf t.ds[j].l 1 2147483647<;>rw[q1,q2] at Zi<;>first | rfl | (simp at Zi)
       refine wp_skip (ag (ah ?_));apply aH Zh (eZ 13) _ aa
       case h=>
        refine GO 3 ?_;intro _ Y;apply ln Y 85 rfl 10 95
        case ht=>
         intro Zj
         have hj0:0<j:=by have:=of_decide_eq_true Zj;omega
         refine GO 6 ?_;intro _ Y;refine qy Y (fun X hX=>(au (i:=j-1) (sz:=3) Tryz.underlying23 aa (Y.ev rfl) (Y.ev rfl) ab ab rfl)) fun _ Y=>?_;refine qy Y (fun X hX=>(fy 0 (Y.ev rfl))) fun _ Y=>?_;refine qy Y (fun X hX=>(lx (Y.ev rfl) ((aW cW ((Za.grow hX).rd0 hs) (show j-1<t.ds.length by omega)) 0 _ rfl))) fun _ Y=>?_;refine qy Y (fun X hX=>(aw (v':=.bool (decide (t.ds[j].g≤((cH t.ds j).getD Cz).g))) (by rw[dw hj0 hlt,Option.getD_some]) (kW (Y.ev rfl) (Y.ev rfl)))) fun _ Y=>?_;exact av (Y.midE 9)
        case hf=>
         intro Zj;refine GO 10 ?_;intro _ Y;exact av ⟨_,Y.midE 9⟩
        case h=>
         intro v151 _ hg95 Y;refine av ?_;refine aP fun _ Zk Zx=>?_;have Z:=Za.grow Zk;refine sv Y (dQ (Y.ev rfl) (Y.ev rfl) hg95 (Y.ev rfl)) fun _ Y=>?_;refine ae (ag ?_);refine ak (Y.ev rfl) (fun Zo=>?_) (fun Zo=>?_)
         ·
          have he:(qO t.ds).2=9:=by
           obtain⟨u1,u2⟩:=Bool.and_eq_true_iff.1 Zo
           have hj0:0<j:=by have:=of_decide_eq_true u1;omega
           refine kh (f:=fun i x=>jL (cH t.ds i) x) hlt Zn.2 ?_ aq;rw[rm hgood];rw[dw hj0 hlt] at u2 ⊢;have:=of_decide_eq_true u2;show bn (decide (t.ds[j-1].g<t.ds[j].g)) 9=9;rw[decide_eq_false (by change t.ds[j].g≤t.ds[j-1].g at this;omega)];rfl
          rw[he] at hE;refine GO 11 ?_;intro _ Y;refine aD Y rfl rfl ?_;exact⟨by rw[hE],Z.below⟩
         ·
          have hz:jL (cH t.ds j) t.ds[j]=0:=by
           rw[rm hgood];rcases Nat.eq_zero_or_pos j with h0 | h0
           · subst h0;rfl
           · rw[decide_eq_true (by omega:(j:Int)>0),Bool.true_and,dw h0 hlt] at Zo
             have:=of_decide_eq_false Zo;rw[dw h0 hlt];show bn (decide (t.ds[j-1].g<t.ds[j].g)) 9=0;rw[decide_eq_true (by change ¬t.ds[j].g≤t.ds[j-1].g at this;omega)];rfl
          refine GO 9 ?_;intro _ Y;exact⟨j+1,ab,⟨hlt,fun k hk hkj=>by rcases Nat.lt_or_eq_of_le (show k≤j by omega) with q | q;exact Zn.2 k hk q;subst q;exact hz⟩,Y.re bz,(Z.sub (.cons _ (.cons_cons _ .slnil)))⟩
       case hB=>kernel_rfl
       case hst=>rfl
    ·
     have hge:t.ds.length≤j:=by have:=of_decide_eq_false Zv;omega
     have hz1:(qO t.ds).2=0:=(cu _ _).2 fun k hk=>Zn.2 k hk ab;rw[hz1] at hE;refine GO 11 ?_;intro _ Y;refine aD Y rfl rfl ?_;exact⟨by rw[hE],Z.below⟩
open Go.RowKit Go.Sort Go.Shelf
theorem cR (s:List UInt8) (a c:Nat) (h1:a+c≤s.length) (hs:s.length≤100000) (hc:c≤6) (w:World) :
 Calls Tryz.prog 73 #[.string (bs s),.int .i64 a,.int .i64 c] w fun e w'=>e=.returned (.int .i64 (fe s a c))∧w=w':=by
 have h:=ko (bs s) a c (by rw[fI];exact h1) (by rw[fI];unfold maxLen;omega) hc w;rw[Bo] at h;exact h
open Go.RowKit Go.Sort Go.Shelf
theorem yx {l:List UInt8} (k:Nat):(gG l (k+1)).flatMap cd=(gG l k).flatMap cd ++ [.int .i64 (fe l (2+11*k) 2),.int .i64 (fe l (2+11*k+2) 4),.int .i64 (fe l (2+11*k+6) 4),.bool (fe l (2+11*k+10) 1==1)]:=by
 rw[oy,List.flatMap_append];rfl
theorem xd {l:List UInt8} (k:Nat):(jd l (k+1)).flatMap cK=(jd l k).flatMap cK ++ [.int .i64 (fe l (2+11*aV l+7*k) 2),.bool (fe l (2+11*aV l+7*k+2) 1==1),.int .i64 (fe l (2+11*aV l+7*k+3) 4)]:=by
 rw[pw,List.flatMap_append];rfl
theorem pY (l:List UInt8) (w:World) (hl:l.length≤100000) :
 Calls Tryz.prog 19 #[.string (bs l)] w fun e w'=>∃i:Option Addr × Nat × Option Addr × Nat,e=.returned (.tuple #[cv (cM l) i.1 i.2.1 i.2.2.1 i.2.2.2,.int .i64 (fE l)]) ∧
  St [] w w' [.row (.slice i.1 (cM l).ts.length i.2.1) (cM l).ts.length 116 4 ((cM l).ts.flatMap cd),.row (.slice i.2.2.1 (cM l).ds.length i.2.2.2) (cM l).ds.length 124 3 ((cM l).ds.flatMap cK)]:=by
 have hsz:(bs l).size=l.length:=fI l;have hN0:=ye l 0 1;have hM0:=ye l 1 1
 have hNi:((aV l:Nat):Int)=fe l 0 1:=by unfold aV;omega
 have hMi:((dm l:Nat):Int)=fe l 1 1:=by unfold dm;omega
 have hNb:aV l<256:=by have:=hN0.2;omega
 have hMb:dm l<256:=by have:=hM0.2;omega
 refine al (N:=118) Tryz.func19 rfl rfl rfl (fun _ Y=>?_);have Z:=St.init w;refine ah (ao ?_);refine na (.agg #[.slice none 0 0,.slice none 0 0]) Y rfl Z fun b2 _ _ Zz Y Z=>?_;refine GO 5 ?_;intro _ Y;refine sv Y (ay (zs:=[.slice none 0 0,.slice none 0 0]) (pl:=[(0,1),(1,1)]) aa aa (Y.evs2 rfl) rfl rfl) fun _ Y=>?_;refine na (.agg #[.slice none 0 0,.slice none 0 0]) Y rfl Z fun b4 _ _ Qa Y Z=>?_;refine sw Y Z 0 fun _ Z=>?_;refine GO 10 ?_;intro _ h8;refine ak (h8.ev rfl) (fun Zm=>?_) (fun Zm=>?_)
 ·
  have hE:fE l=10:=by unfold fE;rw[if_pos (by have:=of_decide_eq_true Zm;omega)]
  have hR:cM l=gA:=by unfold cM;rw[if_neg (by rw[hE];decide)]
  refine ah (ao ?_);refine sv h8 (ai aa aa (h8.ev rfl) (Z.cellsAll (i:=0) rfl)) fun _ h9=>?_;refine sw h9 Z 1 fun _ Z=>?_;refine GO 5 ?_;intro _ Y;refine bo Y rfl rfl rfl Z (i:=1) rfl aa aa ?_;refine⟨(none,0,none,0),by rw[hR,hE];rfl,?_⟩;rw[hR];exact((Z.sub (List.nil_sublist _)).nilRow 124 3).nilRow 116 4
 ·
  have Y:2≤l.length:=by have:=of_decide_eq_false Zm;omega
  refine GO 5 ?_;intro _ Y;refine cC Y rfl (cR l 0 1 ab hl aq _) fun _ Y=>?_;rw[←hNi] at Y;refine GO 1 ?_;intro _ Y;refine cC Y rfl (cR l 1 1 ab hl aq _) fun _ Y=>?_;rw[←hMi] at Y;refine GO 10 ?_;intro _ Y;refine sv Y (eW (Y.ev rfl) (Y.ev rfl) ab) fun _ Y=>?_;refine GO 2 ?_;intro _ Y;refine sv Y (eW (Y.ev rfl) (Y.ev rfl) ab) fun _ Y=>?_;refine GO 4 ?_;intro _ Zk;refine ak (Zk.ev rfl) (fun Zd=>?_) (fun Zd=>?_)
  ·
   have hE:fE l=10:=by
    unfold fE;rw[if_neg ab,if_pos];intro q;rw[hsz,q] at Zd;simp at Zd
   have hR:cM l=gA:=by unfold cM;rw[if_neg (by rw[hE];decide)]
   refine ah (ao ?_);refine sv Zk (ai aa aa (Zk.ev rfl) (Z.cellsAll (i:=0) rfl)) fun _ Y=>?_;refine sw Y Z 1 fun _ Z=>?_;refine GO 5 ?_;intro _ Y;refine bo Y rfl rfl rfl Z (i:=1) rfl aa aa ?_;refine⟨(none,0,none,0),by rw[hR,hE];rfl,?_⟩;rw[hR];exact((Z.sub (List.nil_sublist _)).nilRow 124 3).nilRow 116 4
  ·
   have Y:l.length=2+11*aV l+7*dm l:=by
    rw[hsz] at Zd;simp at Zd;omega
   refine wp_skip (ag (ah (ao ?_)));refine na (.agg #[.slice none 0 0,.slice none 0 0]) Zk rfl Z fun b7 _ _ Qb Y Z=>?_;replace Z:=St.nilRow (St.nilRow Z 124 3) 116 4;refine GO 14 ?_;intro _ Y;refine aY Y Z [7,6,5,4,3,2,0] (fun (q:Nat × Option Addr × Nat)=>[(9,.int .i64 (q.1:Nat)),(8,.bool (fB l q.1))]) (fun (q:Nat × Option Addr × Nat)=>q.1≤aV l) (fun q L=>[.row (.slice q.2.1 q.1 q.2.2) q.1 116 4 ((gG l q.1).flatMap cd),.row (.slice none 0 0) 0 124 3 [],.box b7 #[.slice q.2.1 q.1 q.2.2,.slice none 0 0] 25,.box b4 #[.slice none 0 0,.slice none 0 0] 25,.box b2 #[.slice none 0 0,.slice none 0 0] 25]) (fun (q:Nat × Option Addr × Nat)=>aV l-q.1) ((0,none,0)) (Nat.zero_le _) bz (Z) ?_;intro q _ _ Zu Y Z;refine GO 8 ?_;intro _ Y;refine ak (Y.ev rfl) (fun Zn=>?_) (fun Zn=>?_)
   ·
    have hlt:q.1<aV l:=by have:=of_decide_eq_true Zn;omega
    refine GO 7 ?_;intro _ Y;refine sv Y (eW (Y.ev rfl) (Y.ev rfl) ab) fun _ Y=>?_;refine sv Y (aw (v':=.int .i64 ((2+11*q.1:Nat):Int)) (congrArg _ ab) (bU (Y.ev rfl) (Y.ev rfl) ab)) fun _ Y=>?_;refine GO 7 ?_;intro _ Y;apply aZ (x:=decide (fe l (2+11*q.1+10) 1≤1)) Y Z 42 rfl 6 48
    case ht=>
     intro Ze;refine GO 2 ?_;intro _ Y;refine sy Y (aw (v':=.int .i64 ((2+11*q.1+10:Nat):Int)) (congrArg _ ab) (bU (Y.ev rfl) (Y.ev rfl) ab)) fun _ Y=>?_;refine bJ Y (aj Y _ rfl rfl rfl Ze) (ax a8 (Y.evs rfl) rfl) rfl rfl (cR l (2+11*q.1+10) 1 ab hl aq _) fun _ Y=>?_;refine GO 2 ?_;intro _ Y;exact ae ⟨Y.midE 5,Z⟩
    case hf=>
     intro Ze;refine GO 6 ?_;intro _ Y;exact ae ⟨Y.midE 5,Z⟩
    case h=>
     rintro a55 Qc ⟨Zv,Zt⟩
     rw[←pc] at Zv;refine GO 3 ?_;intro _ Y;apply aH Y [false,false,false,false,false,false,false,false,false,false,false,false,false,false,false,false,false,false,false,true] _ aa
     case h=>
      refine GO 4 ?_;intro _ Y;refine gd Y rfl (fun X hX=>cR l (2+11*q.1) 2 ab hl aq _) fun _ Y=>?_;refine GO 2 ?_;intro _ Y;refine qv Y (fun X hX=>aw (v':=.int .i64 ((2+11*q.1+2:Nat):Int)) (congrArg _ ab) (bU (Y.ev rfl) (Y.ev rfl) ab)) fun _ Y=>?_;refine gd Y rfl (fun X hX=>cR l (2+11*q.1+2) 4 ab hl aq _) fun _ Y=>?_;refine GO 2 ?_;intro _ Y;refine qv Y (fun X hX=>aw (v':=.int .i64 ((2+11*q.1+6:Nat):Int)) (congrArg _ ab) (bU (Y.ev rfl) (Y.ev rfl) ab)) fun _ Y=>?_;refine gd Y rfl (fun X hX=>cR l (2+11*q.1+6) 4 ab hl aq _) fun _ Y=>?_;refine GO 2 ?_;intro _ Y;refine qv Y (fun X hX=>aw (v':=.int .i64 ((2+11*q.1+10:Nat):Int)) (congrArg _ ab) (bU (Y.ev rfl) (Y.ev rfl) ab)) fun _ Y=>?_;refine gd Y rfl (fun X hX=>cR l (2+11*q.1+10) 1 ab hl aq _) fun _ Y=>?_;refine GO 1 ?_;intro _ Y;refine qv Y (fun X hX=>ay (zs:=[.int .i64 0,.int .i64 0,.int .i64 0,.bool false]) (pl:=[(0,1),(1,1),(2,1),(3,1)]) aa aa (Y.evs2 rfl) rfl rfl) fun _ Y=>?_;refine av ?_;apply gP (k:=19) (deps:=[]) (R:=NewB _ (fun b=>.slice (some ⟨b,0,none⟩) 1 1) _ _) Y rfl rfl rfl NewB.stable (fun X hX hΦ=>jz (eC (zc:=[.int .i64 0,.int .i64 0,.int .i64 0,.bool false]) (sz:=4) rfl Tryz.underlying22 aa aa rfl rfl rfl (Y.evs2 rfl) rfl rfl rfl) hX.size);intro v68 _ Y;refine aP fun _ Zf Zo=>?_;have Z:=Zt.grow Zf;have Zb:=ba Zo (k:=19) rfl;obtain⟨b68,rfl,Zp,Zb⟩:=Zb;have Z:=Zt.add Zf (e:=.box _ _ _) Zb (fun b hb=>by cases hb;exact⟨Zp,Box.lt Zb⟩);refine bG (z:=.agg #[.int .i64 0,.int .i64 0,.int .i64 0,.bool false]) (sz:=4) (bytes:=32) Y (wn rfl) ⟨rfl,rfl⟩ rfl Tryz.underlying22 aa rfl rfl (Y.ev rfl) (Y.ev rfl) Z (i:=1) rfl (Z.boxRd (i:=0) rfl) rfl (List.all_eq_true.1 rfl) ⟨ab,by decide⟩ fun A69 c69 _ _ Y Z=>?_
      refine GO 1 ?_;intro _ Y;refine aN Y (wn rfl) ⟨rfl,rfl⟩ (Y.ev rfl) (Y.ev rfl) rfl aa Z (i:=3) rfl rfl rfl fun _ Z=>?_;refine GO 9 ?_;intro _ Y;exact⟨(q.1+1,A69,c69),(by show aV l-(q.1+1)<aV l-q.1;omega),hlt,Y.re bz,(by show St [] w _ [.row _ _ _ _ ((gG l (q.1+1)).flatMap cd),_,_,_,_];rw[yx];exact(Z.sub (.cons _ (.cons_cons _ (.cons_cons _ (.cons_cons _ (.cons_cons _ (.cons_cons _ .slnil))))))))⟩
     case hB=>kernel_rfl
     case hst=>rfl
   ·
    obtain⟨n1,A1,c1⟩:=q
    obtain rfl:n1=aV l:=by have h8:=of_decide_eq_false Zn;have h9:n1≤aV l:=Zu;change ¬((n1:Int)<_) at h8;omega
    have hG0:fB l (aV l)=(fB l (aV l)&&gk l 0):=by rw[show gk l 0=true from rfl,Bool.and_true]
    replace Y:=Y.also (t:=8) (v:=.bool (fB l (aV l)&&gk l 0)) (by rw[←hG0];rfl);refine GO 12 ?_;intro _ Y;refine aY Y Z [7,6,5,4,3,2,0] (fun (q:Nat × Option Addr × Nat)=>[(11,.int .i64 (q.1:Nat)),(8,.bool (fB l (aV l)&&gk l q.1))]) (fun (q:Nat × Option Addr × Nat)=>q.1≤dm l) (fun q L=>[.row (.slice A1 (aV l) c1) (aV l) 116 4 ((gG l (aV l)).flatMap cd),.row (.slice q.2.1 q.1 q.2.2) q.1 124 3 ((jd l q.1).flatMap cK),.box b7 #[.slice A1 (aV l) c1,.slice q.2.1 q.1 q.2.2] 25,.box b4 #[.slice none 0 0,.slice none 0 0] 25,.box b2 #[.slice none 0 0,.slice none 0 0] 25]) (fun (q:Nat × Option Addr × Nat)=>dm l-q.1) ((0,none,0)) (Nat.zero_le _) bz (Z) ?_;intro q _ Zw Zx Y Z;refine GO 8 ?_;intro _ Y;refine ak (Y.ev rfl) (fun Zq=>?_) (fun Zq=>?_)
    ·
     have hlt:q.1<dm l:=by have:=of_decide_eq_true Zq;omega
     refine GO 7 ?_;intro _ Y;refine sv Y (eW (Y.ev rfl) (Y.ev rfl) ab) fun _ Y=>?_;refine sv Y (aw (v':=.int .i64 ((2+11*aV l:Nat):Int)) (congrArg _ ab) (bU (Y.ev rfl) (Y.ev rfl) ab)) fun _ Y=>?_;refine GO 1 ?_;intro _ Y;refine sv Y (eW (Y.ev rfl) (Y.ev rfl) ab) fun _ Y=>?_;refine sv Y (aw (v':=.int .i64 ((2+11*aV l+7*q.1:Nat):Int)) (congrArg _ ab) (bU (Y.ev rfl) (Y.ev rfl) ab)) fun _ Y=>?_;refine GO 7 ?_;intro _ Y;apply aZ (x:=decide (fe l (2+11*aV l+7*q.1+2) 1≤1)) Y Z 83 rfl 6 89
     case ht=>
      intro Zg;refine GO 2 ?_;intro _ Y;refine sy Y (aw (v':=.int .i64 ((2+11*aV l+7*q.1+2:Nat):Int)) (congrArg _ ab) (bU (Y.ev rfl) (Y.ev rfl) ab)) fun _ Y=>?_;refine bJ Y (aj Y _ rfl rfl rfl Zg) (ax a8 (Y.evs rfl) rfl) rfl rfl (cR l (2+11*aV l+7*q.1+2) 1 ab hl aq _) fun _ Y=>?_;refine GO 2 ?_;intro _ Y;exact ae ⟨Y.midE 5,Z⟩
     case hf=>
      intro Zg;refine GO 6 ?_;intro _ Y;exact ae ⟨Y.midE 5,Z⟩
     case h=>
      rintro a111 Zy ⟨Zr,Zh⟩
      rw[Bool.and_assoc,←oY] at Zr;refine GO 3 ?_;intro _ Y;apply aH Y [false,false,false,false,false,false,false,false,false,false,false,false,false,false,false,true] _ aa
      case h=>
       refine GO 4 ?_;intro _ Y;refine gd Y rfl (fun X hX=>cR l (2+11*aV l+7*q.1) 2 ab hl aq _) fun _ Y=>?_;refine GO 2 ?_;intro _ Y;refine qv Y (fun X hX=>aw (v':=.int .i64 ((2+11*aV l+7*q.1+2:Nat):Int)) (congrArg _ ab) (bU (Y.ev rfl) (Y.ev rfl) ab)) fun _ Y=>?_;refine gd Y rfl (fun X hX=>cR l (2+11*aV l+7*q.1+2) 1 ab hl aq _) fun _ Y=>?_;refine GO 3 ?_;intro _ Y;refine qv Y (fun X hX=>aw (v':=.int .i64 ((2+11*aV l+7*q.1+3:Nat):Int)) (congrArg _ ab) (bU (Y.ev rfl) (Y.ev rfl) ab)) fun _ Y=>?_;refine gd Y rfl (fun X hX=>cR l (2+11*aV l+7*q.1+3) 4 ab hl aq _) fun _ Y=>?_;refine qv Y (fun X hX=>ay (zs:=[.int .i64 0,.bool false,.int .i64 0]) (pl:=[(0,1),(1,1),(2,1)]) aa aa (Y.evs2 rfl) rfl rfl) fun _ Y=>?_;refine av ?_;apply gP (k:=15) (deps:=[]) (R:=NewB _ (fun b=>.slice (some ⟨b,0,none⟩) 1 1) _ _) Y rfl rfl rfl NewB.stable (fun X hX hΦ=>jz (eC (zc:=[.int .i64 0,.bool false,.int .i64 0]) (sz:=3) rfl Tryz.underlying23 aa aa rfl rfl rfl (Y.evs2 rfl) rfl rfl rfl) hX.size);intro v105 _ Y;refine aP fun _ Zc Zi=>?_;have Z:=Zh.grow Zc;have Za:=ba Zi (k:=15) rfl;obtain⟨b105,rfl,Zj,Za⟩:=Za;have Z:=Zh.add Zc (e:=.box _ _ _) Za (fun b hb=>by cases hb;exact⟨Zj,Box.lt Za⟩);refine bG (z:=.agg #[.int .i64 0,.bool false,.int .i64 0]) (sz:=3) (bytes:=24) Y (wn rfl) ⟨rfl,rfl⟩ rfl Tryz.underlying23 aa rfl rfl (Y.ev rfl) (Y.ev rfl) Z (i:=2) rfl (Z.boxRd (i:=0) rfl) rfl (List.all_eq_true.1 rfl) ⟨ab,by decide⟩ fun A106 c106 _ _ Y Z=>?_;refine GO 1 ?_;intro _ Y;refine aN Y (wn rfl) ⟨rfl,rfl⟩ (Y.ev rfl) (Y.ev rfl) rfl aa Z (i:=3) rfl rfl rfl fun _ Z=>?_;refine GO 9 ?_;intro _ Y;exact⟨(q.1+1,A106,c106),(by show dm l-(q.1+1)<dm l-q.1;omega),hlt,Y.re bz,(by show St [] w _ [_,.row _ _ _ _ ((jd l (q.1+1)).flatMap cK),_,_,_];rw[xd];exact(Z.sub (.cons _ (.cons_cons _ (.cons_cons _ (.cons_cons _ (.cons_cons _ (.cons_cons _ .slnil))))))))⟩
      case hB=>kernel_rfl
      case hst=>rfl
    ·
     obtain⟨n2,A2,c2⟩:=q
     obtain rfl:n2=dm l:=by have h8:=of_decide_eq_false Zq;have h9:n2≤dm l:=Zx;change ¬((n2:Int)<_) at h8;omega
     have eT:(dz l).ts.length=aV l:=by show(gG l (aV l)).length=_;unfold gG;simp
     have eD:(dz l).ds.length=dm l:=by show(jd l (dm l)).length=_;unfold jd;simp
     replace Z:St [] w Zw [.row (.slice A1 (dz l).ts.length c1) (dz l).ts.length 116 4 ((dz l).ts.flatMap cd),.row (.slice A2 (dz l).ds.length c2) (dz l).ds.length 124 3 ((dz l).ds.flatMap cK),.box b7 #[.slice A1 (dz l).ts.length c1,.slice A2 (dz l).ds.length c2] 25,.box b4 #[.slice none 0 0,.slice none 0 0] 25,.box b2 #[.slice none 0 0,.slice none 0 0] 25]:=by
      rw[eT,eD];exact Z
     refine GO 12 ?_;intro _ Y;refine ak (Y.ev rfl) (fun Zl=>?_) (fun Zl=>?_)
     ·
      have hE:fE l=3:=by
       unfold fE
       rw[if_neg ab,if_neg ab,show(fB l (aV l)&&gk l (dm l))=false by cases q1:(fB l (aV l)&&gk l (dm l)) with
        | false=>rfl
        | true=>rw[q1] at Zl;cases Zl];rfl
      have hR:cM l=gA:=by unfold cM;rw[if_neg (by rw[hE];decide)]
      refine ah (ao ?_);refine sv Y (ai aa aa (Y.ev rfl) (Z.cellsAll (i:=3) rfl)) fun _ Y=>?_;refine sw Y Z 4 fun _ Z=>?_;refine GO 5 ?_;intro _ Y;refine bo Y rfl rfl rfl Z (i:=4) rfl aa aa ?_;refine⟨(none,0,none,0),by rw[hR,hE];rfl,?_⟩;rw[hR];exact((Z.sub (List.nil_sublist _)).nilRow 124 3).nilRow 116 4
     ·
      have hFG:(fB l (aV l)&&gk l (dm l))=true:=by simpa using Zl
      have hE:fE l=dy (dz l):=by
       unfold fE;rw[if_neg ab,if_neg ab,hFG];show(if (0:Int)=0 then (if dy (dz l)=0 then 0 else dy (dz l)) else 0)=_;rw[if_pos rfl]
       split<;>omega
      refine wp_skip (ag (ah (ah (ao ?_))));refine sv (v:=cv (dz l) A1 c1 A2 c2) Y (ai aa aa (Y.ev rfl) (Z.cellsAll (i:=2) rfl)) fun _ Y=>?_;refine cE Y rfl Z (nE (dz l) A1 c1 A2 c2 _ (Z.rdOf (i:=0) rfl) (Z.rdOf (i:=1) rfl)) fun _ _ Y Z=>?_;refine GO 9 ?_;intro _ Y;refine ak (Y.ev rfl) (fun Zs=>?_) (fun Zs=>?_)
      ·
       have hne:fE l≠0:=by rw[hE];simpa using Zs
       have hR:cM l=gA:=by unfold cM;rw[if_neg hne]
       refine ah (ao ?_);refine sv Y (ai aa aa (Y.ev rfl) (Z.cellsAll (i:=3) rfl)) fun _ Y=>?_;refine GO 1 ?_;intro _ Y;refine sw Y Z 4 fun _ Z=>?_;refine GO 5 ?_;intro _ Y;refine bo Y rfl rfl rfl Z (i:=4) rfl aa aa ?_;refine⟨(none,0,none,0),by rw[hR,hE];rfl,?_⟩;rw[hR];exact((Z.sub (List.nil_sublist _)).nilRow 124 3).nilRow 116 4
      ·
       have hz:fE l=0:=by rw[hE];simpa using Zs
       have hR:cM l=dz l:=by unfold cM;rw[if_pos hz]
       refine wp_skip (ag (ah (ao ?_)));refine sv Y (ai aa aa (Y.ev rfl) (Z.cellsAll (i:=2) rfl)) fun _ Y=>?_;refine sw Y Z 4 fun _ Z=>?_;refine GO 4 ?_;intro _ Y;refine bo Y rfl rfl rfl Z (i:=4) rfl aa aa ?_;refine⟨(A1,c1,A2,c2),by rw[hR,hz];rfl,?_⟩;rw[hR];exact(Z.sub (.cons_cons _ (.cons_cons _ (.cons _ (.cons _ (.cons _ .slnil))))))
end Go.Proofs.YtcfdpfmchchkaaaGreatDoor
