/-
  Chapter 22: the reference's errors and bytes of tables.
  Chapter 22: the reference's bytes of a table, and its table with any bytes.
  Chapter 22: the reference's table with any bytes.
-/
import Derived.Test.YtcfdpfmchchkaaaGreatDoorRcL
namespace Go.Proofs.YtcfdpfmchchkaaaGreatDoor
set_option maxHeartbeats 1000000
set_option maxRecDepth 4000
set_option linter.unusedVariables false
set_option linter.unusedSimpArgs false
open Go.RowKit Go.Sort Go.Shelf
theorem dB {α:Type} {l:List α} {j:Nat} (h0:0<j) (hj:j<l.length):cO l j=some (l[j-1]'ab):=by
 have:=eb l (j-1) ab
 rwa [show j-1+1=j by omega] at this
theorem zl (b:Bool):au [bo true 2,bo b 9]=bo b 9:=by cases b<;>rfl
theorem wR {p:Option Trn} {x:Trn} (h:(bb x.i 1 9999&&bb x.l 1 2147483647&&bb x.u 0 x.l)=false):kp p x=2:=by unfold kp;rw[h];rfl
theorem rn {p:Option Trn} {x:Trn} (h:(bb x.i 1 9999&&bb x.l 1 2147483647&&bb x.u 0 x.l)=true):kp p x=bo (match p with | none=>true | some y=>decide (y.i<x.i)) 9:=by
 unfold kp;rw[h];exact zl _
theorem xQ {p:Option Dty} {x:Dty} (h:(bb x.g 0 600&&bb x.l 1 2147483647)=false):j9 p x=2:=by unfold j9;rw[h];rfl
theorem ra {p:Option Dty} {x:Dty} (h:(bb x.g 0 600&&bb x.l 1 2147483647)=true):j9 p x=bo (match p with | none=>true | some y=>decide (y.g<x.g)) 9:=by
 unfold j9;rw[h];exact zl _
theorem j5 {α:Type} {f:Nat→α→Int} {l:List α} {j:Nat} (hj:j<l.length) (h:∀k (hk:k<l.length),k<j→f k l[k]=0) {e:Int} (he:f j l[j]=e) (h0:e≠0):(cH f 0 l).2=e:=by
 have:=cX f l 0 j hj (fun k hk hkj=>by rw[Nat.zero_add];exact h k hk hkj) (by rw[Nat.zero_add,he];exact h0);rw[Nat.zero_add,he] at this;rw[this]
def CO:Trn:=⟨0,0,0,false⟩
def CJ:Dty:=⟨0,false,0⟩
theorem og (t:Tbl) (A:Option Addr) (c:Nat) (B:Option Addr) (d:Nat) (w:World) (hr:Rd w w.heap.size A (t.ts.flatMap cp)) (hs:Rd w w.heap.size B (t.ds.flatMap cP)) :
 Calls Tryz.prog 21 #[cB t A c B d] w fun e w'=>e=.returned (.int .i64 (dw t))∧Below w.heap.size w w':=by
 obtain⟨E,hE⟩:∃E,E=dw t:=⟨_,rfl⟩;rw[←hE];unfold dw at hE;refine ao (N:=97) Tryz.func21 rfl rfl rfl (fun _ h0=>?_);have Z:=St.init w;refine ai (aq ?_);refine nb h0 rfl rfl Z fun b1 _ _ Qb Y Z=>?_;refine GO 11 ?_;intro _ Y;apply bn Y Z 11 rfl 5 16
 case hf=>
  intro Zp;refine GO 5 ?_;intro _ Y;exact ae ⟨Y.midE 4,Z⟩
 case ht=>
  intro Zp;refine GO 5 ?_;intro _ Y;exact ae ⟨Y.midE 4,Z⟩
 case h=>
  rintro a18 Qc ⟨Zy,Zq⟩
  refine ae (ag ?_);refine ak (Zy.ev rfl) (fun Zb=>?_) (fun Zb=>?_)
  ·
   rw[if_pos (by have:=Zb;simp at this;omega)] at hE;refine GO 7 ?_;intro _ Y;refine aF Y rfl rfl ?_;exact⟨by rw[hE],Zq.below⟩
  ·
   rw[if_neg (by rw[Bool.or_eq_false_iff] at Zb;simp at Zb;omega)] at hE
   have hn:t.ts.length≤60∧t.ds.length≤60:=by rw[Bool.or_eq_false_iff] at Zb;simp at Zb;omega
   refine GO 9 ?_;intro _ Y;refine aY Y Zq [1] (fun (j:Nat)=>[(3,.int .i64 (j:Nat))]) (fun (j:Nat)=>j≤t.ts.length∧∀k (hk:k<t.ts.length),k<j→kp (cO t.ts k) t.ts[k]=0) (fun (j:Nat) L=>L) (fun (j:Nat)=>t.ts.length-j) (0) (⟨Nat.zero_le _,fun k _ h=>absurd h (Nat.not_lt_zero _)⟩) bD (Zq) ?_;intro j _ _ Zl Y Z;refine GO 10 ?_;intro _ Y;refine ak (Y.ev rfl) (fun Zr=>?_) (fun Zr=>?_)
   ·
    have hlt:j<t.ts.length:=by have:=of_decide_eq_true Zr;omega
    obtain⟨b,o,rfl,hB,_⟩:=hr.opened (aK cC ar ab);refine GO 9 ?_;intro _ Y;refine sv Y (av (i:=j) (sz:=4) Tryz.underlying22 aa (Y.ev rfl) (Y.ev rfl) ab ab rfl) fun _ Y=>?_;refine sv (v:=eZ t.ts[j]) Y (ah aa aa (Y.ev rfl) (aW cC (Z.rd0 hr) hlt)) fun _ Y=>?_;refine na (.agg #[.int .i64 0,.int .i64 0,.int .i64 0,.bool false]) Y rfl Z fun b4 _ _ Qd Y Z=>?_;refine sw Y Z 0 fun _ Z=>?_;refine GO 7 ?_;intro _ Y;refine cI Y rfl (a6 _ _ _ _) fun _ Y=>?_;refine GO 2 ?_;intro _ Y;apply bn Y Z 33 rfl 5 38
    case hf=>
     intro Zc;refine GO 2 ?_;intro _ Y;refine bN Y (aj Y _ rfl rfl rfl Zc) (ax a8 (Y.evs rfl) rfl) rfl rfl (a6 _ _ _ _) fun _ Y=>?_;refine GO 2 ?_;intro _ Y;exact ae ⟨Y.midE 4,Z⟩
    case ht=>
     intro Zc;refine GO 5 ?_;intro _ Y;exact ae ⟨Y.midE 4,Z⟩
    case h=>
     rintro a49 Qe ⟨Qf,Zs⟩
     refine GO 1 ?_;intro _ Y;apply bn Y Zs 39 rfl 7 46
     case hf=>
      intro Zd;refine GO 4 ?_;intro _ Y;refine bN Y (aj Y _ rfl rfl rfl Zd) (ax a8 (Y.evs rfl) rfl) rfl rfl (a6 _ _ _ _) fun _ Y=>?_;refine GO 2 ?_;intro _ Y;exact ae ⟨Y.midE 6,Zs⟩
     case ht=>
      intro Zd;refine GO 7 ?_;intro _ Y;exact ae ⟨Y.midE 6,Zs⟩
     case h=>
      rintro a65 Qg ⟨Zw,Zt⟩
      refine ae (ag ?_);refine ak (Zw.ev rfl) (fun Ze=>?_) (fun Ze=>?_)
      ·
       have hbad:(bb t.ts[j].i 1 9999&&bb t.ts[j].l 1 2147483647&&bb t.ts[j].u 0 t.ts[j].l)=false:=by
        cases q1:bb t.ts[j].i 1 9999<;>cases q2:bb t.ts[j].l 1 2147483647<;>cases q3:bb t.ts[j].u 0 t.ts[j].l<;>rw[q1,q2,q3] at Ze<;>first | rfl | (simp at Ze)
       have he:(jj t.ts).2=2:=j5 (f:=fun i x=>kp (cO t.ts i) x) hlt Zl.2 (wR hbad) ar;rw[he,if_pos ar] at hE;refine GO 12 ?_;intro _ Y;refine aF Y rfl rfl ?_;exact⟨by rw[hE],Zt.below⟩
      ·
       have hgood:(bb t.ts[j].i 1 9999&&bb t.ts[j].l 1 2147483647&&bb t.ts[j].u 0 t.ts[j].l)=true:=by
        cases q1:bb t.ts[j].i 1 9999<;>cases q2:bb t.ts[j].l 1 2147483647<;>cases q3:bb t.ts[j].u 0 t.ts[j].l<;>rw[q1,q2,q3] at Ze<;>first | rfl | (simp at Ze)
       refine wp_skip (ag (ai ?_));apply aL Zw (fA 13) _ aa
       case h=>
        refine GO 3 ?_;intro _ Y;apply kH Y 49 rfl 10 59
        case ht=>
         intro Zf
         have hj0:0<j:=by have:=of_decide_eq_true Zf;omega
         refine GO 6 ?_;intro _ Y;refine qy Y (fun X hX=>(av (i:=j-1) (sz:=4) Tryz.underlying22 aa (Y.ev rfl) (Y.ev rfl) ab ab rfl)) fun _ Y=>?_;refine qy Y (fun X hX=>(fy 0 (Y.ev rfl))) fun _ Y=>?_;refine qy Y (fun X hX=>(lx (Y.ev rfl) ((aW cC ((Zt.grow hX).rd0 hr) (show j-1<t.ts.length by omega)) 0 _ rfl))) fun _ Y=>?_;refine qy Y (fun X hX=>(aC (v':=.bool (decide (t.ts[j].i≤((cO t.ts j).getD CO).i))) (by rw[dB hj0 hlt,Option.getD_some]) (kC (Y.ev rfl) (Y.ev rfl)))) fun _ Y=>?_;exact aw (Y.midE 9)
        case hf=>
         intro Zf;refine GO 10 ?_;intro _ Y;exact aw ⟨_,Y.midE 9⟩
        case h=>
         intro v90 _ hg59 Y;refine aw ?_;refine aS fun _ Zu Zz=>?_;have Z:=Zt.grow Zu;refine sv Y (dW (Y.ev rfl) (Y.ev rfl) hg59 (Y.ev rfl)) fun _ Y=>?_;refine ae (ag ?_);refine ak (Y.ev rfl) (fun Zm=>?_) (fun Zm=>?_)
         ·
          have he:(jj t.ts).2=9:=by
           obtain⟨u1,u2⟩:=Bool.and_eq_true_iff.1 Zm
           have hj0:0<j:=by have:=of_decide_eq_true u1;omega
           refine j5 (f:=fun i x=>kp (cO t.ts i) x) hlt Zl.2 ?_ ar;rw[rn hgood];rw[dB hj0 hlt] at u2 ⊢;have:=of_decide_eq_true u2;show bo (decide (t.ts[j-1].i<t.ts[j].i)) 9=9;rw[decide_eq_false (by change t.ts[j].i≤t.ts[j-1].i at this;omega)];rfl
          rw[he,if_pos ar] at hE;refine GO 11 ?_;intro _ Y;refine aF Y rfl rfl ?_;exact⟨by rw[hE],Z.below⟩
         ·
          have hz:kp (cO t.ts j) t.ts[j]=0:=by
           rw[rn hgood];rcases Nat.eq_zero_or_pos j with h0 | h0
           · subst h0;rfl
           · rw[decide_eq_true (by omega:(j:Int)>0),Bool.true_and,dB h0 hlt] at Zm
             have:=of_decide_eq_false Zm;rw[dB h0 hlt];show bo (decide (t.ts[j-1].i<t.ts[j].i)) 9=0;rw[decide_eq_true (by change ¬t.ts[j].i≤t.ts[j-1].i at this;omega)];rfl
          refine GO 9 ?_;intro _ Y;exact⟨j+1,ab,⟨hlt,fun k hk hkj=>by rcases Nat.lt_or_eq_of_le (show k≤j by omega) with q | q;exact Zl.2 k hk q;subst q;exact hz⟩,Y.re bD,(Z.sub (.cons _ (.cons_cons _ .slnil)))⟩
       case hB=>kernel_rfl
       case hst=>rfl
   ·
    have hge:t.ts.length≤j:=by have:=of_decide_eq_false Zr;omega
    have hz0:(jj t.ts).2=0:=(cA _ _).2 fun k hk=>Zl.2 k hk ab;rw[if_neg (fun h=>h hz0)] at hE;refine GO 12 ?_;intro _ Y;refine aY Y Z [1] (fun (j:Nat)=>[(5,.int .i64 (j:Nat))]) (fun (j:Nat)=>j≤t.ds.length∧∀k (hk:k<t.ds.length),k<j→j9 (cO t.ds k) t.ds[k]=0) (fun (j:Nat) L=>L) (fun (j:Nat)=>t.ds.length-j) (0) (⟨Nat.zero_le _,fun k _ h=>absurd h (Nat.not_lt_zero _)⟩) bD (Z) ?_;intro j _ _ Zn Y Z;refine GO 10 ?_;intro _ Y;refine ak (Y.ev rfl) (fun Zv=>?_) (fun Zv=>?_)
    ·
     have hlt:j<t.ds.length:=by have:=of_decide_eq_true Zv;omega
     obtain⟨b,o,rfl,hB,_⟩:=hs.opened (aK dg ar ab);refine GO 9 ?_;intro _ Y;refine sv Y (av (i:=j) (sz:=3) Tryz.underlying23 aa (Y.ev rfl) (Y.ev rfl) ab ab rfl) fun _ Y=>?_;refine sv (v:=fM t.ds[j]) Y (ah aa aa (Y.ev rfl) (aW dg (Z.rd0 hs) hlt)) fun _ Y=>?_;refine na (.agg #[.int .i64 0,.bool false,.int .i64 0]) Y rfl Z fun b6 _ _ Qh Y Z=>?_;refine sw Y Z 0 fun _ Z=>?_;refine GO 7 ?_;intro _ Y;refine cI Y rfl (a6 _ _ _ _) fun _ Y=>?_;refine GO 2 ?_;intro _ Y;apply bn Y Z 77 rfl 5 82
     case hf=>
      intro Zg;refine GO 2 ?_;intro _ Y;refine bN Y (aj Y _ rfl rfl rfl Zg) (ax a8 (Y.evs rfl) rfl) rfl rfl (a6 _ _ _ _) fun _ Y=>?_;refine GO 2 ?_;intro _ Y;exact ae ⟨Y.midE 4,Z⟩
     case ht=>
      intro Zg;refine GO 5 ?_;intro _ Y;exact ae ⟨Y.midE 4,Z⟩
     case h=>
      rintro a126 Qa ⟨Zh,Za⟩
      refine ae (ag ?_);refine ak (Zh.ev rfl) (fun Zi=>?_) (fun Zi=>?_)
      ·
       have hbad:(bb t.ds[j].g 0 600&&bb t.ds[j].l 1 2147483647)=false:=by
        cases q1:bb t.ds[j].g 0 600<;>cases q2:bb t.ds[j].l 1 2147483647<;>rw[q1,q2] at Zi<;>first | rfl | (simp at Zi)
       have he:(rM t.ds).2=2:=j5 (f:=fun i x=>j9 (cO t.ds i) x) hlt Zn.2 (xQ hbad) ar;rw[he] at hE;refine GO 12 ?_;intro _ Y;refine aF Y rfl rfl ?_;exact⟨by rw[hE],Za.below⟩
      ·
       have hgood:(bb t.ds[j].g 0 600&&bb t.ds[j].l 1 2147483647)=true:=by
        cases q1:bb t.ds[j].g 0 600<;>cases q2:bb t.ds[j].l 1 2147483647<;>rw[q1,q2] at Zi<;>first | rfl | (simp at Zi)
       refine wp_skip (ag (ai ?_));apply aL Zh (fA 13) _ aa
       case h=>
        refine GO 3 ?_;intro _ Y;apply kH Y 85 rfl 10 95
        case ht=>
         intro Zj
         have hj0:0<j:=by have:=of_decide_eq_true Zj;omega
         refine GO 6 ?_;intro _ Y;refine qy Y (fun X hX=>(av (i:=j-1) (sz:=3) Tryz.underlying23 aa (Y.ev rfl) (Y.ev rfl) ab ab rfl)) fun _ Y=>?_;refine qy Y (fun X hX=>(fy 0 (Y.ev rfl))) fun _ Y=>?_;refine qy Y (fun X hX=>(lx (Y.ev rfl) ((aW dg ((Za.grow hX).rd0 hs) (show j-1<t.ds.length by omega)) 0 _ rfl))) fun _ Y=>?_;refine qy Y (fun X hX=>(aC (v':=.bool (decide (t.ds[j].g≤((cO t.ds j).getD CJ).g))) (by rw[dB hj0 hlt,Option.getD_some]) (kC (Y.ev rfl) (Y.ev rfl)))) fun _ Y=>?_;exact aw (Y.midE 9)
        case hf=>
         intro Zj;refine GO 10 ?_;intro _ Y;exact aw ⟨_,Y.midE 9⟩
        case h=>
         intro v151 _ hg95 Y;refine aw ?_;refine aS fun _ Zk Zx=>?_;have Z:=Za.grow Zk;refine sv Y (dW (Y.ev rfl) (Y.ev rfl) hg95 (Y.ev rfl)) fun _ Y=>?_;refine ae (ag ?_);refine ak (Y.ev rfl) (fun Zo=>?_) (fun Zo=>?_)
         ·
          have he:(rM t.ds).2=9:=by
           obtain⟨u1,u2⟩:=Bool.and_eq_true_iff.1 Zo
           have hj0:0<j:=by have:=of_decide_eq_true u1;omega
           refine j5 (f:=fun i x=>j9 (cO t.ds i) x) hlt Zn.2 ?_ ar;rw[ra hgood];rw[dB hj0 hlt] at u2 ⊢;have:=of_decide_eq_true u2;show bo (decide (t.ds[j-1].g<t.ds[j].g)) 9=9;rw[decide_eq_false (by change t.ds[j].g≤t.ds[j-1].g at this;omega)];rfl
          rw[he] at hE;refine GO 11 ?_;intro _ Y;refine aF Y rfl rfl ?_;exact⟨by rw[hE],Z.below⟩
         ·
          have hz:j9 (cO t.ds j) t.ds[j]=0:=by
           rw[ra hgood];rcases Nat.eq_zero_or_pos j with h0 | h0
           · subst h0;rfl
           · rw[decide_eq_true (by omega:(j:Int)>0),Bool.true_and,dB h0 hlt] at Zo
             have:=of_decide_eq_false Zo;rw[dB h0 hlt];show bo (decide (t.ds[j-1].g<t.ds[j].g)) 9=0;rw[decide_eq_true (by change ¬t.ds[j].g≤t.ds[j-1].g at this;omega)];rfl
          refine GO 9 ?_;intro _ Y;exact⟨j+1,ab,⟨hlt,fun k hk hkj=>by rcases Nat.lt_or_eq_of_le (show k≤j by omega) with q | q;exact Zn.2 k hk q;subst q;exact hz⟩,Y.re bD,(Z.sub (.cons _ (.cons_cons _ .slnil)))⟩
       case hB=>kernel_rfl
       case hst=>rfl
    ·
     have hge:t.ds.length≤j:=by have:=of_decide_eq_false Zv;omega
     have hz1:(rM t.ds).2=0:=(cA _ _).2 fun k hk=>Zn.2 k hk ab;rw[hz1] at hE;refine GO 11 ?_;intro _ Y;refine aF Y rfl rfl ?_;exact⟨by rw[hE],Z.below⟩
open Go.RowKit Go.Sort Go.Shelf
theorem cZ (s:List UInt8) (a c:Nat) (h1:a+c≤s.length) (hs:s.length≤100000) (hc:c≤6) (w:World) :
 Calls Tryz.prog 73 #[.string (bs s),.int .i64 a,.int .i64 c] w fun e w'=>e=.returned (.int .i64 (fm s a c))∧w=w':=by
 have h:=jZ (bs s) a c (by rw[fX];exact h1) (by rw[fX];unfold maxLen;omega) hc w;rw[BB] at h;exact h
open Go.RowKit Go.Sort Go.Shelf
theorem zd {l:List UInt8} (k:Nat):(gY l (k+1)).flatMap cp=(gY l k).flatMap cp ++ [.int .i64 (fm l (2+11*k) 2),.int .i64 (fm l (2+11*k+2) 4),.int .i64 (fm l (2+11*k+6) 4),.bool (fm l (2+11*k+10) 1==1)]:=by
 rw[o9,List.flatMap_append];rfl
theorem xO {l:List UInt8} (k:Nat):(jg l (k+1)).flatMap cP=(jg l k).flatMap cP ++ [.int .i64 (fm l (2+11*aU l+7*k) 2),.bool (fm l (2+11*aU l+7*k+2) 1==1),.int .i64 (fm l (2+11*aU l+7*k+3) 4)]:=by
 rw[pq,List.flatMap_append];rfl
theorem qs (l:List UInt8) (w:World) (hl:l.length≤100000) :
 Calls Tryz.prog 19 #[.string (bs l)] w fun e w'=>∃i:Option Addr × Nat × Option Addr × Nat,e=.returned (.tuple #[cB (cV l) i.1 i.2.1 i.2.2.1 i.2.2.2,.int .i64 (fJ l)]) ∧
  St [] w w' [.row (.slice i.1 (cV l).ts.length i.2.1) (cV l).ts.length 116 4 ((cV l).ts.flatMap cp),.row (.slice i.2.2.1 (cV l).ds.length i.2.2.2) (cV l).ds.length 124 3 ((cV l).ds.flatMap cP)]:=by
 have hsz:(bs l).size=l.length:=fX l;have hN0:=yU l 0 1;have hM0:=yU l 1 1
 have hNi:((aU l:Nat):Int)=fm l 0 1:=by unfold aU;omega
 have hMi:((dt l:Nat):Int)=fm l 1 1:=by unfold dt;omega
 have hNb:aU l<256:=by have:=hN0.2;omega
 have hMb:dt l<256:=by have:=hM0.2;omega
 refine ao (N:=118) Tryz.func19 rfl rfl rfl (fun _ Y=>?_);have Z:=St.init w;refine ai (aq ?_);refine na (.agg #[.slice none 0 0,.slice none 0 0]) Y rfl Z fun b2 _ _ Zz Y Z=>?_;refine GO 5 ?_;intro _ Y;refine sv Y (ay (zs:=[.slice none 0 0,.slice none 0 0]) (pl:=[(0,1),(1,1)]) aa aa (Y.evs2 rfl) rfl rfl) fun _ Y=>?_;refine na (.agg #[.slice none 0 0,.slice none 0 0]) Y rfl Z fun b4 _ _ Qa Y Z=>?_;refine sw Y Z 0 fun _ Z=>?_;refine GO 10 ?_;intro _ h8;refine ak (h8.ev rfl) (fun Zm=>?_) (fun Zm=>?_)
 ·
  have hE:fJ l=10:=by unfold fJ;rw[if_pos (by have:=of_decide_eq_true Zm;omega)]
  have hR:cV l=gn:=by unfold cV;rw[if_neg (by rw[hE];decide)]
  refine ai (aq ?_);refine sv h8 (ah aa aa (h8.ev rfl) (Z.cellsAll (i:=0) rfl)) fun _ h9=>?_;refine sw h9 Z 1 fun _ Z=>?_;refine GO 5 ?_;intro _ Y;refine br Y rfl rfl rfl Z (i:=1) rfl aa aa ?_;refine⟨(none,0,none,0),by rw[hR,hE];rfl,?_⟩;rw[hR];exact((Z.sub (List.nil_sublist _)).nilRow 124 3).nilRow 116 4
 ·
  have Y:2≤l.length:=by have:=of_decide_eq_false Zm;omega
  refine GO 5 ?_;intro _ Y;refine cI Y rfl (cZ l 0 1 ab hl ar _) fun _ Y=>?_;rw[←hNi] at Y;refine GO 1 ?_;intro _ Y;refine cI Y rfl (cZ l 1 1 ab hl ar _) fun _ Y=>?_;rw[←hMi] at Y;refine GO 10 ?_;intro _ Y;refine sv Y (ff (Y.ev rfl) (Y.ev rfl) ab) fun _ Y=>?_;refine GO 2 ?_;intro _ Y;refine sv Y (ff (Y.ev rfl) (Y.ev rfl) ab) fun _ Y=>?_;refine GO 4 ?_;intro _ Zk;refine ak (Zk.ev rfl) (fun Zd=>?_) (fun Zd=>?_)
  ·
   have hE:fJ l=10:=by
    unfold fJ;rw[if_neg ab,if_pos];intro q;rw[hsz,q] at Zd;simp at Zd
   have hR:cV l=gn:=by unfold cV;rw[if_neg (by rw[hE];decide)]
   refine ai (aq ?_);refine sv Zk (ah aa aa (Zk.ev rfl) (Z.cellsAll (i:=0) rfl)) fun _ Y=>?_;refine sw Y Z 1 fun _ Z=>?_;refine GO 5 ?_;intro _ Y;refine br Y rfl rfl rfl Z (i:=1) rfl aa aa ?_;refine⟨(none,0,none,0),by rw[hR,hE];rfl,?_⟩;rw[hR];exact((Z.sub (List.nil_sublist _)).nilRow 124 3).nilRow 116 4
  ·
   have Y:l.length=2+11*aU l+7*dt l:=by
    rw[hsz] at Zd;simp at Zd;omega
   refine wp_skip (ag (ai (aq ?_)));refine na (.agg #[.slice none 0 0,.slice none 0 0]) Zk rfl Z fun b7 _ _ Qb Y Z=>?_;replace Z:=St.nilRow (St.nilRow Z 124 3) 116 4;refine GO 14 ?_;intro _ Y;refine aY Y Z [7,6,5,4,3,2,0] (fun (q:Nat × Option Addr × Nat)=>[(9,.int .i64 (q.1:Nat)),(8,.bool (fw l q.1))]) (fun (q:Nat × Option Addr × Nat)=>q.1≤aU l) (fun q L=>[.row (.slice q.2.1 q.1 q.2.2) q.1 116 4 ((gY l q.1).flatMap cp),.row (.slice none 0 0) 0 124 3 [],.box b7 #[.slice q.2.1 q.1 q.2.2,.slice none 0 0] 25,.box b4 #[.slice none 0 0,.slice none 0 0] 25,.box b2 #[.slice none 0 0,.slice none 0 0] 25]) (fun (q:Nat × Option Addr × Nat)=>aU l-q.1) ((0,none,0)) (Nat.zero_le _) bD (Z) ?_;intro q _ _ Zu Y Z;refine GO 8 ?_;intro _ Y;refine ak (Y.ev rfl) (fun Zn=>?_) (fun Zn=>?_)
   ·
    have hlt:q.1<aU l:=by have:=of_decide_eq_true Zn;omega
    refine GO 7 ?_;intro _ Y;refine sv Y (ff (Y.ev rfl) (Y.ev rfl) ab) fun _ Y=>?_;refine sv Y (aC (v':=.int .i64 ((2+11*q.1:Nat):Int)) (congrArg _ ab) (cJ (Y.ev rfl) (Y.ev rfl) ab)) fun _ Y=>?_;refine GO 7 ?_;intro _ Y;apply aZ (x:=decide (fm l (2+11*q.1+10) 1≤1)) Y Z 42 rfl 6 48
    case ht=>
     intro Ze;refine GO 2 ?_;intro _ Y;refine sy Y (aC (v':=.int .i64 ((2+11*q.1+10:Nat):Int)) (congrArg _ ab) (cJ (Y.ev rfl) (Y.ev rfl) ab)) fun _ Y=>?_;refine bN Y (aj Y _ rfl rfl rfl Ze) (ax a8 (Y.evs rfl) rfl) rfl rfl (cZ l (2+11*q.1+10) 1 ab hl ar _) fun _ Y=>?_;refine GO 2 ?_;intro _ Y;exact ae ⟨Y.midE 5,Z⟩
    case hf=>
     intro Ze;refine GO 6 ?_;intro _ Y;exact ae ⟨Y.midE 5,Z⟩
    case h=>
     rintro a55 Qc ⟨Zv,Zt⟩
     rw[←pA] at Zv;refine GO 3 ?_;intro _ Y;apply aL Y [false,false,false,false,false,false,false,false,false,false,false,false,false,false,false,false,false,false,false,true] _ aa
     case h=>
      refine GO 4 ?_;intro _ Y;refine gm Y rfl (fun X hX=>cZ l (2+11*q.1) 2 ab hl ar _) fun _ Y=>?_;refine GO 2 ?_;intro _ Y;refine qv Y (fun X hX=>aC (v':=.int .i64 ((2+11*q.1+2:Nat):Int)) (congrArg _ ab) (cJ (Y.ev rfl) (Y.ev rfl) ab)) fun _ Y=>?_;refine gm Y rfl (fun X hX=>cZ l (2+11*q.1+2) 4 ab hl ar _) fun _ Y=>?_;refine GO 2 ?_;intro _ Y;refine qv Y (fun X hX=>aC (v':=.int .i64 ((2+11*q.1+6:Nat):Int)) (congrArg _ ab) (cJ (Y.ev rfl) (Y.ev rfl) ab)) fun _ Y=>?_;refine gm Y rfl (fun X hX=>cZ l (2+11*q.1+6) 4 ab hl ar _) fun _ Y=>?_;refine GO 2 ?_;intro _ Y;refine qv Y (fun X hX=>aC (v':=.int .i64 ((2+11*q.1+10:Nat):Int)) (congrArg _ ab) (cJ (Y.ev rfl) (Y.ev rfl) ab)) fun _ Y=>?_;refine gm Y rfl (fun X hX=>cZ l (2+11*q.1+10) 1 ab hl ar _) fun _ Y=>?_;refine GO 1 ?_;intro _ Y;refine qv Y (fun X hX=>ay (zs:=[.int .i64 0,.int .i64 0,.int .i64 0,.bool false]) (pl:=[(0,1),(1,1),(2,1),(3,1)]) aa aa (Y.evs2 rfl) rfl rfl) fun _ Y=>?_;refine aw ?_;apply gV (k:=19) (deps:=[]) (R:=NewB _ (fun b=>.slice (some ⟨b,0,none⟩) 1 1) _ _) Y rfl rfl rfl NewB.stable (fun X hX hΦ=>js (eS (zc:=[.int .i64 0,.int .i64 0,.int .i64 0,.bool false]) (sz:=4) rfl Tryz.underlying22 aa aa rfl rfl rfl (Y.evs2 rfl) rfl rfl rfl) hX.size);intro v68 _ Y;refine aS fun _ Zf Zo=>?_;have Z:=Zt.grow Zf;have Zb:=ba Zo (k:=19) rfl;obtain⟨b68,rfl,Zp,Zb⟩:=Zb;have Z:=Zt.add Zf (e:=.box _ _ _) Zb (fun b hb=>by cases hb;exact⟨Zp,Box.lt Zb⟩);refine bI (z:=.agg #[.int .i64 0,.int .i64 0,.int .i64 0,.bool false]) (sz:=4) (bytes:=32) Y (wn rfl) ⟨rfl,rfl⟩ rfl Tryz.underlying22 aa rfl rfl (Y.ev rfl) (Y.ev rfl) Z (i:=1) rfl (Z.boxRd (i:=0) rfl) rfl (List.all_eq_true.1 rfl) ⟨ab,by decide⟩ fun A69 c69 _ _ Y Z=>?_
      refine GO 1 ?_;intro _ Y;refine aP Y (wn rfl) ⟨rfl,rfl⟩ (Y.ev rfl) (Y.ev rfl) rfl aa Z (i:=3) rfl rfl rfl fun _ Z=>?_;refine GO 9 ?_;intro _ Y;exact⟨(q.1+1,A69,c69),(by show aU l-(q.1+1)<aU l-q.1;omega),hlt,Y.re bD,(by show St [] w _ [.row _ _ _ _ ((gY l (q.1+1)).flatMap cp),_,_,_,_];rw[zd];exact(Z.sub (.cons _ (.cons_cons _ (.cons_cons _ (.cons_cons _ (.cons_cons _ (.cons_cons _ .slnil))))))))⟩
     case hB=>kernel_rfl
     case hst=>rfl
   ·
    obtain⟨n1,A1,c1⟩:=q
    obtain rfl:n1=aU l:=by have h8:=of_decide_eq_false Zn;have h9:n1≤aU l:=Zu;change ¬((n1:Int)<_) at h8;omega
    have hG0:fw l (aU l)=(fw l (aU l)&&gu l 0):=by rw[show gu l 0=true from rfl,Bool.and_true]
    replace Y:=Y.also (t:=8) (v:=.bool (fw l (aU l)&&gu l 0)) (by rw[←hG0];rfl);refine GO 12 ?_;intro _ Y;refine aY Y Z [7,6,5,4,3,2,0] (fun (q:Nat × Option Addr × Nat)=>[(11,.int .i64 (q.1:Nat)),(8,.bool (fw l (aU l)&&gu l q.1))]) (fun (q:Nat × Option Addr × Nat)=>q.1≤dt l) (fun q L=>[.row (.slice A1 (aU l) c1) (aU l) 116 4 ((gY l (aU l)).flatMap cp),.row (.slice q.2.1 q.1 q.2.2) q.1 124 3 ((jg l q.1).flatMap cP),.box b7 #[.slice A1 (aU l) c1,.slice q.2.1 q.1 q.2.2] 25,.box b4 #[.slice none 0 0,.slice none 0 0] 25,.box b2 #[.slice none 0 0,.slice none 0 0] 25]) (fun (q:Nat × Option Addr × Nat)=>dt l-q.1) ((0,none,0)) (Nat.zero_le _) bD (Z) ?_;intro q _ Zw Zx Y Z;refine GO 8 ?_;intro _ Y;refine ak (Y.ev rfl) (fun Zq=>?_) (fun Zq=>?_)
    ·
     have hlt:q.1<dt l:=by have:=of_decide_eq_true Zq;omega
     refine GO 7 ?_;intro _ Y;refine sv Y (ff (Y.ev rfl) (Y.ev rfl) ab) fun _ Y=>?_;refine sv Y (aC (v':=.int .i64 ((2+11*aU l:Nat):Int)) (congrArg _ ab) (cJ (Y.ev rfl) (Y.ev rfl) ab)) fun _ Y=>?_;refine GO 1 ?_;intro _ Y;refine sv Y (ff (Y.ev rfl) (Y.ev rfl) ab) fun _ Y=>?_;refine sv Y (aC (v':=.int .i64 ((2+11*aU l+7*q.1:Nat):Int)) (congrArg _ ab) (cJ (Y.ev rfl) (Y.ev rfl) ab)) fun _ Y=>?_;refine GO 7 ?_;intro _ Y;apply aZ (x:=decide (fm l (2+11*aU l+7*q.1+2) 1≤1)) Y Z 83 rfl 6 89
     case ht=>
      intro Zg;refine GO 2 ?_;intro _ Y;refine sy Y (aC (v':=.int .i64 ((2+11*aU l+7*q.1+2:Nat):Int)) (congrArg _ ab) (cJ (Y.ev rfl) (Y.ev rfl) ab)) fun _ Y=>?_;refine bN Y (aj Y _ rfl rfl rfl Zg) (ax a8 (Y.evs rfl) rfl) rfl rfl (cZ l (2+11*aU l+7*q.1+2) 1 ab hl ar _) fun _ Y=>?_;refine GO 2 ?_;intro _ Y;exact ae ⟨Y.midE 5,Z⟩
     case hf=>
      intro Zg;refine GO 6 ?_;intro _ Y;exact ae ⟨Y.midE 5,Z⟩
     case h=>
      rintro a111 Zy ⟨Zr,Zh⟩
      rw[Bool.and_assoc,←pz] at Zr;refine GO 3 ?_;intro _ Y;apply aL Y [false,false,false,false,false,false,false,false,false,false,false,false,false,false,false,true] _ aa
      case h=>
       refine GO 4 ?_;intro _ Y;refine gm Y rfl (fun X hX=>cZ l (2+11*aU l+7*q.1) 2 ab hl ar _) fun _ Y=>?_;refine GO 2 ?_;intro _ Y;refine qv Y (fun X hX=>aC (v':=.int .i64 ((2+11*aU l+7*q.1+2:Nat):Int)) (congrArg _ ab) (cJ (Y.ev rfl) (Y.ev rfl) ab)) fun _ Y=>?_;refine gm Y rfl (fun X hX=>cZ l (2+11*aU l+7*q.1+2) 1 ab hl ar _) fun _ Y=>?_;refine GO 3 ?_;intro _ Y;refine qv Y (fun X hX=>aC (v':=.int .i64 ((2+11*aU l+7*q.1+3:Nat):Int)) (congrArg _ ab) (cJ (Y.ev rfl) (Y.ev rfl) ab)) fun _ Y=>?_;refine gm Y rfl (fun X hX=>cZ l (2+11*aU l+7*q.1+3) 4 ab hl ar _) fun _ Y=>?_;refine qv Y (fun X hX=>ay (zs:=[.int .i64 0,.bool false,.int .i64 0]) (pl:=[(0,1),(1,1),(2,1)]) aa aa (Y.evs2 rfl) rfl rfl) fun _ Y=>?_;refine aw ?_;apply gV (k:=15) (deps:=[]) (R:=NewB _ (fun b=>.slice (some ⟨b,0,none⟩) 1 1) _ _) Y rfl rfl rfl NewB.stable (fun X hX hΦ=>js (eS (zc:=[.int .i64 0,.bool false,.int .i64 0]) (sz:=3) rfl Tryz.underlying23 aa aa rfl rfl rfl (Y.evs2 rfl) rfl rfl rfl) hX.size);intro v105 _ Y;refine aS fun _ Zc Zi=>?_;have Z:=Zh.grow Zc;have Za:=ba Zi (k:=15) rfl;obtain⟨b105,rfl,Zj,Za⟩:=Za;have Z:=Zh.add Zc (e:=.box _ _ _) Za (fun b hb=>by cases hb;exact⟨Zj,Box.lt Za⟩);refine bI (z:=.agg #[.int .i64 0,.bool false,.int .i64 0]) (sz:=3) (bytes:=24) Y (wn rfl) ⟨rfl,rfl⟩ rfl Tryz.underlying23 aa rfl rfl (Y.ev rfl) (Y.ev rfl) Z (i:=2) rfl (Z.boxRd (i:=0) rfl) rfl (List.all_eq_true.1 rfl) ⟨ab,by decide⟩ fun A106 c106 _ _ Y Z=>?_;refine GO 1 ?_;intro _ Y;refine aP Y (wn rfl) ⟨rfl,rfl⟩ (Y.ev rfl) (Y.ev rfl) rfl aa Z (i:=3) rfl rfl rfl fun _ Z=>?_;refine GO 9 ?_;intro _ Y;exact⟨(q.1+1,A106,c106),(by show dt l-(q.1+1)<dt l-q.1;omega),hlt,Y.re bD,(by show St [] w _ [_,.row _ _ _ _ ((jg l (q.1+1)).flatMap cP),_,_,_];rw[xO];exact(Z.sub (.cons _ (.cons_cons _ (.cons_cons _ (.cons_cons _ (.cons_cons _ (.cons_cons _ .slnil))))))))⟩
      case hB=>kernel_rfl
      case hst=>rfl
    ·
     obtain⟨n2,A2,c2⟩:=q
     obtain rfl:n2=dt l:=by have h8:=of_decide_eq_false Zq;have h9:n2≤dt l:=Zx;change ¬((n2:Int)<_) at h8;omega
     have eT:(dE l).ts.length=aU l:=by show(gY l (aU l)).length=_;unfold gY;simp
     have eD:(dE l).ds.length=dt l:=by show(jg l (dt l)).length=_;unfold jg;simp
     replace Z:St [] w Zw [.row (.slice A1 (dE l).ts.length c1) (dE l).ts.length 116 4 ((dE l).ts.flatMap cp),.row (.slice A2 (dE l).ds.length c2) (dE l).ds.length 124 3 ((dE l).ds.flatMap cP),.box b7 #[.slice A1 (dE l).ts.length c1,.slice A2 (dE l).ds.length c2] 25,.box b4 #[.slice none 0 0,.slice none 0 0] 25,.box b2 #[.slice none 0 0,.slice none 0 0] 25]:=by
      rw[eT,eD];exact Z
     refine GO 12 ?_;intro _ Y;refine ak (Y.ev rfl) (fun Zl=>?_) (fun Zl=>?_)
     ·
      have hE:fJ l=3:=by
       unfold fJ
       rw[if_neg ab,if_neg ab,show(fw l (aU l)&&gu l (dt l))=false by cases q1:(fw l (aU l)&&gu l (dt l)) with
        | false=>rfl
        | true=>rw[q1] at Zl;cases Zl];rfl
      have hR:cV l=gn:=by unfold cV;rw[if_neg (by rw[hE];decide)]
      refine ai (aq ?_);refine sv Y (ah aa aa (Y.ev rfl) (Z.cellsAll (i:=3) rfl)) fun _ Y=>?_;refine sw Y Z 4 fun _ Z=>?_;refine GO 5 ?_;intro _ Y;refine br Y rfl rfl rfl Z (i:=4) rfl aa aa ?_;refine⟨(none,0,none,0),by rw[hR,hE];rfl,?_⟩;rw[hR];exact((Z.sub (List.nil_sublist _)).nilRow 124 3).nilRow 116 4
     ·
      have hFG:(fw l (aU l)&&gu l (dt l))=true:=by simpa using Zl
      have hE:fJ l=dw (dE l):=by
       unfold fJ;rw[if_neg ab,if_neg ab,hFG];show(if (0:Int)=0 then (if dw (dE l)=0 then 0 else dw (dE l)) else 0)=_;rw[if_pos rfl]
       split<;>omega
      refine wp_skip (ag (ai (ai (aq ?_))));refine sv (v:=cB (dE l) A1 c1 A2 c2) Y (ah aa aa (Y.ev rfl) (Z.cellsAll (i:=2) rfl)) fun _ Y=>?_;refine cT Y rfl Z (og (dE l) A1 c1 A2 c2 _ (Z.rdOf (i:=0) rfl) (Z.rdOf (i:=1) rfl)) fun _ _ Y Z=>?_;refine GO 9 ?_;intro _ Y;refine ak (Y.ev rfl) (fun Zs=>?_) (fun Zs=>?_)
      ·
       have hne:fJ l≠0:=by rw[hE];simpa using Zs
       have hR:cV l=gn:=by unfold cV;rw[if_neg hne]
       refine ai (aq ?_);refine sv Y (ah aa aa (Y.ev rfl) (Z.cellsAll (i:=3) rfl)) fun _ Y=>?_;refine GO 1 ?_;intro _ Y;refine sw Y Z 4 fun _ Z=>?_;refine GO 5 ?_;intro _ Y;refine br Y rfl rfl rfl Z (i:=4) rfl aa aa ?_;refine⟨(none,0,none,0),by rw[hR,hE];rfl,?_⟩;rw[hR];exact((Z.sub (List.nil_sublist _)).nilRow 124 3).nilRow 116 4
      ·
       have hz:fJ l=0:=by rw[hE];simpa using Zs
       have hR:cV l=dE l:=by unfold cV;rw[if_pos hz]
       refine wp_skip (ag (ai (aq ?_)));refine sv Y (ah aa aa (Y.ev rfl) (Z.cellsAll (i:=2) rfl)) fun _ Y=>?_;refine sw Y Z 4 fun _ Z=>?_;refine GO 4 ?_;intro _ Y;refine br Y rfl rfl rfl Z (i:=4) rfl aa aa ?_;refine⟨(A1,c1,A2,c2),by rw[hR,hz];rfl,?_⟩;rw[hR];exact(Z.sub (.cons_cons _ (.cons_cons _ (.cons _ (.cons _ (.cons _ .slnil))))))
end Go.Proofs.YtcfdpfmchchkaaaGreatDoor
