/-
  Chapter 22: the reference's errors and bytes of tables.
  Chapter 22: the reference's bytes of a table, and its table with any bytes.
  Chapter 22: the reference's table with any bytes.
-/
import Derived.Test.YtcfdpfmchchkaaaGreatDoorRcL
namespace Go.Proofs.YtcfdpfmchchkaaaGreatDoor
set_option maxHeartbeats 1000000
set_option maxRecDepth 4000
set_option linter.unusedVariables false
set_option linter.unusedSimpArgs false
open Go.RowKit Go.Sort Go.Shelf
theorem dH {α:Type} {l:List α} {j:Nat} (h0:0<j) (hj:j<l.length):cU l j=some (l[j-1]'ab):=by
 have:=ek l (j-1) ab
 rwa [show j-1+1=j by omega] at this
theorem yC (b:Bool):au [aS true 2,aS b 9]=aS b 9:=by cases b<;>rfl
theorem Aj {p:Option Trn} {x:Trn} (h:(bm x.i 1 9999&&bm x.l 1 2147483647&&bm x.u 0 x.l)=false):kz p x=2:=by unfold kz;rw[h];rfl
theorem rH {p:Option Trn} {x:Trn} (h:(bm x.i 1 9999&&bm x.l 1 2147483647&&bm x.u 0 x.l)=true):kz p x=aS (match p with | none=>true | some y=>decide (y.i<x.i)) 9:=by
 unfold kz;rw[h];exact yC _
theorem zy {p:Option Dty} {x:Dty} (h:(bm x.g 0 600&&bm x.l 1 2147483647)=false):j9 p x=2:=by unfold j9;rw[h];rfl
theorem qW {p:Option Dty} {x:Dty} (h:(bm x.g 0 600&&bm x.l 1 2147483647)=true):j9 p x=aS (match p with | none=>true | some y=>decide (y.g<x.g)) 9:=by
 unfold j9;rw[h];exact yC _
theorem ko {α:Type} {f:Nat→α→Int} {l:List α} {j:Nat} (hj:j<l.length) (h:∀k (hk:k<l.length),k<j→f k l[k]=0) {e:Int} (he:f j l[j]=e) (h0:e≠0):(cP f 0 l).2=e:=by
 have:=dd f l 0 j hj (fun k hk hkj=>by rw[Nat.zero_add];exact h k hk hkj) (by rw[Nat.zero_add,he];exact h0);rw[Nat.zero_add,he] at this;rw[this]
def Dr:Trn:=⟨0,0,0,false⟩
def Du:Dty:=⟨0,false,0⟩
theorem n4 (t:Tbl) (A:Option Addr) (c:Nat) (B:Option Addr) (d:Nat) (w:World) (hr:Rd w w.heap.size A (t.ts.flatMap cw)) (hs:Rd w w.heap.size B (t.ds.flatMap cV)) :
 Calls Tryz.prog 21 #[cH t A c B d] w fun e w'=>e=.returned (.int .i64 (dJ t))∧Below w.heap.size w w':=by
 obtain⟨E,hE⟩:∃E,E=dJ t:=⟨_,rfl⟩;rw[←hE];unfold dJ at hE;refine ao (N:=97) Tryz.func21 rfl rfl rfl (fun _ h0=>?_);have Z:=St.init w;refine ak (av ?_);refine nb h0 rfl rfl Z fun b1 _ _ Qb Y Z=>?_;refine GO 11 ?_;intro _ Y;apply cZ Y Z 11 rfl 5 16
 case hf=>
  intro Zp;refine GO 5 ?_;intro _ Y;exact ae ⟨Y.midE 4,Z⟩
 case ht=>
  intro Zp;refine GO 5 ?_;intro _ Y;exact ae ⟨Y.midE 4,Z⟩
 case h=>
  rintro a18 Qc ⟨Zy,Zq⟩
  refine ae (ag ?_);refine ar (Zy.ev rfl) (fun Zb=>?_) (fun Zb=>?_)
  ·
   rw[if_pos (by have:=Zb;simp at this;omega)] at hE;refine GO 7 ?_;intro _ Y;refine aP Y rfl rfl ?_;exact⟨by rw[hE],Zq.below⟩
  ·
   rw[if_neg (by rw[Bool.or_eq_false_iff] at Zb;simp at Zb;omega)] at hE
   have hn:t.ts.length≤60∧t.ds.length≤60:=by rw[Bool.or_eq_false_iff] at Zb;simp at Zb;omega
   refine GO 9 ?_;intro _ Y;refine bh Y Zq [1] (fun (j:Nat)=>[(3,.int .i64 (j:Nat))]) (fun (j:Nat)=>j≤t.ts.length∧∀k (hk:k<t.ts.length),k<j→kz (cU t.ts k) t.ts[k]=0) (fun (j:Nat) L=>L) (fun (j:Nat)=>t.ts.length-j) (0) (⟨Nat.zero_le _,fun k _ h=>absurd h (Nat.not_lt_zero _)⟩) bW (Zq) ?_;intro j _ _ Zl Y Z;refine GO 10 ?_;intro _ Y;refine ar (Y.ev rfl) (fun Zr=>?_) (fun Zr=>?_)
   ·
    have hlt:j<t.ts.length:=by have:=of_decide_eq_true Zr;omega
    obtain⟨b,o,rfl,hB,_⟩:=hr.opened (aO cK aq ab);refine GO 9 ?_;intro _ Y;refine sv Y (aw (i:=j) (sz:=4) Tryz.underlying22 aa (Y.ev rfl) (Y.ev rfl) ab ab rfl) fun _ Y=>?_;refine sv (v:=fk t.ts[j]) Y (ah aa aa (Y.ev rfl) (bb cK (Z.rd0 hr) hlt)) fun _ Y=>?_;refine na (.agg #[.int .i64 0,.int .i64 0,.int .i64 0,.bool false]) Y rfl Z fun b4 _ _ Qd Y Z=>?_;refine sw Y Z 0 fun _ Z=>?_;refine GO 7 ?_;intro _ Y;refine ey Y rfl (aF _ _ _ _) fun _ Y=>?_;refine GO 2 ?_;intro _ Y;apply cZ Y Z 33 rfl 5 38
    case hf=>
     intro Zc;refine GO 2 ?_;intro _ Y;refine da Y (aj Y _ rfl rfl rfl Zc) (aC br (Y.evs rfl) rfl) rfl rfl (aF _ _ _ _) fun _ Y=>?_;refine GO 2 ?_;intro _ Y;exact ae ⟨Y.midE 4,Z⟩
    case ht=>
     intro Zc;refine GO 5 ?_;intro _ Y;exact ae ⟨Y.midE 4,Z⟩
    case h=>
     rintro a49 Qe ⟨Qf,Zs⟩
     refine GO 1 ?_;intro _ Y;apply cZ Y Zs 39 rfl 7 46
     case hf=>
      intro Zd;refine GO 4 ?_;intro _ Y;refine da Y (aj Y _ rfl rfl rfl Zd) (aC br (Y.evs rfl) rfl) rfl rfl (aF _ _ _ _) fun _ Y=>?_;refine GO 2 ?_;intro _ Y;exact ae ⟨Y.midE 6,Zs⟩
     case ht=>
      intro Zd;refine GO 7 ?_;intro _ Y;exact ae ⟨Y.midE 6,Zs⟩
     case h=>
      rintro a65 Qg ⟨Zw,Zt⟩
      refine ae (ag ?_);refine ar (Zw.ev rfl) (fun Ze=>?_) (fun Ze=>?_)
      ·
       have hbad:(bm t.ts[j].i 1 9999&&bm t.ts[j].l 1 2147483647&&bm t.ts[j].u 0 t.ts[j].l)=false:=by
        cases q1:bm t.ts[j].i 1 9999<;>cases q2:bm t.ts[j].l 1 2147483647<;>cases q3:bm t.ts[j].u 0 t.ts[j].l<;>rw[q1,q2,q3] at Ze<;>first | rfl | (simp at Ze)
       have he:(jB t.ts).2=2:=ko (f:=fun i x=>kz (cU t.ts i) x) hlt Zl.2 (Aj hbad) aq;rw[he,if_pos aq] at hE;refine GO 12 ?_;intro _ Y;refine aP Y rfl rfl ?_;exact⟨by rw[hE],Zt.below⟩
      ·
       have hgood:(bm t.ts[j].i 1 9999&&bm t.ts[j].l 1 2147483647&&bm t.ts[j].u 0 t.ts[j].l)=true:=by
        cases q1:bm t.ts[j].i 1 9999<;>cases q2:bm t.ts[j].l 1 2147483647<;>cases q3:bm t.ts[j].u 0 t.ts[j].l<;>rw[q1,q2,q3] at Ze<;>first | rfl | (simp at Ze)
       refine wp_skip (ag (ak ?_));apply aU Zw (gB 13) _ aa
       case h=>
        refine GO 3 ?_;intro _ Y;apply k8 Y 49 rfl 10 59
        case ht=>
         intro Zf
         have hj0:0<j:=by have:=of_decide_eq_true Zf;omega
         refine GO 6 ?_;intro _ Y;refine qy Y (fun X hX=>(aw (i:=j-1) (sz:=4) Tryz.underlying22 aa (Y.ev rfl) (Y.ev rfl) ab ab rfl)) fun _ Y=>?_;refine qy Y (fun X hX=>(fy 0 (Y.ev rfl))) fun _ Y=>?_;refine qy Y (fun X hX=>(lx (Y.ev rfl) ((bb cK ((Zt.grow hX).rd0 hr) (show j-1<t.ts.length by omega)) 0 _ rfl))) fun _ Y=>?_;refine qy Y (fun X hX=>(aY (v':=.bool (decide (t.ts[j].i≤((cU t.ts j).getD Dr).i))) (by rw[dH hj0 hlt,Option.getD_some]) (nA (Y.ev rfl) (Y.ev rfl)))) fun _ Y=>?_;exact aA (Y.midE 9)
        case hf=>
         intro Zf;refine GO 10 ?_;intro _ Y;exact aA ⟨_,Y.midE 9⟩
        case h=>
         intro v90 _ hg59 Y;refine aA ?_;refine bc fun _ Zu Zz=>?_;have Z:=Zt.grow Zu;refine sv Y (el (Y.ev rfl) (Y.ev rfl) hg59 (Y.ev rfl)) fun _ Y=>?_;refine ae (ag ?_);refine ar (Y.ev rfl) (fun Zm=>?_) (fun Zm=>?_)
         ·
          have he:(jB t.ts).2=9:=by
           obtain⟨u1,u2⟩:=Bool.and_eq_true_iff.1 Zm
           have hj0:0<j:=by have:=of_decide_eq_true u1;omega
           refine ko (f:=fun i x=>kz (cU t.ts i) x) hlt Zl.2 ?_ aq;rw[rH hgood];rw[dH hj0 hlt] at u2 ⊢;have:=of_decide_eq_true u2;show aS (decide (t.ts[j-1].i<t.ts[j].i)) 9=9;rw[decide_eq_false (by change t.ts[j].i≤t.ts[j-1].i at this;omega)];rfl
          rw[he,if_pos aq] at hE;refine GO 11 ?_;intro _ Y;refine aP Y rfl rfl ?_;exact⟨by rw[hE],Z.below⟩
         ·
          have hz:kz (cU t.ts j) t.ts[j]=0:=by
           rw[rH hgood];rcases Nat.eq_zero_or_pos j with h0 | h0
           · subst h0;rfl
           · rw[decide_eq_true (by omega:(j:Int)>0),Bool.true_and,dH h0 hlt] at Zm
             have:=of_decide_eq_false Zm;rw[dH h0 hlt];show aS (decide (t.ts[j-1].i<t.ts[j].i)) 9=0;rw[decide_eq_true (by change ¬t.ts[j].i≤t.ts[j-1].i at this;omega)];rfl
          refine GO 9 ?_;intro _ Y;exact⟨j+1,ab,⟨hlt,fun k hk hkj=>by rcases Nat.lt_or_eq_of_le (show k≤j by omega) with q | q;exact Zl.2 k hk q;subst q;exact hz⟩,Y.re bW,(Z.sub (.cons _ (.cons_cons _ .slnil)))⟩
       case hB=>kernel_rfl
       case hst=>rfl
   ·
    have hge:t.ts.length≤j:=by have:=of_decide_eq_false Zr;omega
    have hz0:(jB t.ts).2=0:=(cI _ _).2 fun k hk=>Zl.2 k hk ab;rw[if_neg (fun h=>h hz0)] at hE;refine GO 12 ?_;intro _ Y;refine bh Y Z [1] (fun (j:Nat)=>[(5,.int .i64 (j:Nat))]) (fun (j:Nat)=>j≤t.ds.length∧∀k (hk:k<t.ds.length),k<j→j9 (cU t.ds k) t.ds[k]=0) (fun (j:Nat) L=>L) (fun (j:Nat)=>t.ds.length-j) (0) (⟨Nat.zero_le _,fun k _ h=>absurd h (Nat.not_lt_zero _)⟩) bW (Z) ?_;intro j _ _ Zn Y Z;refine GO 10 ?_;intro _ Y;refine ar (Y.ev rfl) (fun Zv=>?_) (fun Zv=>?_)
    ·
     have hlt:j<t.ds.length:=by have:=of_decide_eq_true Zv;omega
     obtain⟨b,o,rfl,hB,_⟩:=hs.opened (aO dm aq ab);refine GO 9 ?_;intro _ Y;refine sv Y (aw (i:=j) (sz:=3) Tryz.underlying23 aa (Y.ev rfl) (Y.ev rfl) ab ab rfl) fun _ Y=>?_;refine sv (v:=fS t.ds[j]) Y (ah aa aa (Y.ev rfl) (bb dm (Z.rd0 hs) hlt)) fun _ Y=>?_;refine na (.agg #[.int .i64 0,.bool false,.int .i64 0]) Y rfl Z fun b6 _ _ Qh Y Z=>?_;refine sw Y Z 0 fun _ Z=>?_;refine GO 7 ?_;intro _ Y;refine ey Y rfl (aF _ _ _ _) fun _ Y=>?_;refine GO 2 ?_;intro _ Y;apply cZ Y Z 77 rfl 5 82
     case hf=>
      intro Zg;refine GO 2 ?_;intro _ Y;refine da Y (aj Y _ rfl rfl rfl Zg) (aC br (Y.evs rfl) rfl) rfl rfl (aF _ _ _ _) fun _ Y=>?_;refine GO 2 ?_;intro _ Y;exact ae ⟨Y.midE 4,Z⟩
     case ht=>
      intro Zg;refine GO 5 ?_;intro _ Y;exact ae ⟨Y.midE 4,Z⟩
     case h=>
      rintro a126 Qa ⟨Zh,Za⟩
      refine ae (ag ?_);refine ar (Zh.ev rfl) (fun Zi=>?_) (fun Zi=>?_)
      ·
       have hbad:(bm t.ds[j].g 0 600&&bm t.ds[j].l 1 2147483647)=false:=by
        cases q1:bm t.ds[j].g 0 600<;>cases q2:bm t.ds[j].l 1 2147483647<;>rw[q1,q2] at Zi<;>first | rfl | (simp at Zi)
       have he:(rj t.ds).2=2:=ko (f:=fun i x=>j9 (cU t.ds i) x) hlt Zn.2 (zy hbad) aq;rw[he] at hE;refine GO 12 ?_;intro _ Y;refine aP Y rfl rfl ?_;exact⟨by rw[hE],Za.below⟩
      ·
       have hgood:(bm t.ds[j].g 0 600&&bm t.ds[j].l 1 2147483647)=true:=by
        cases q1:bm t.ds[j].g 0 600<;>cases q2:bm t.ds[j].l 1 2147483647<;>rw[q1,q2] at Zi<;>first | rfl | (simp at Zi)
       refine wp_skip (ag (ak ?_));apply aU Zh (gB 13) _ aa
       case h=>
        refine GO 3 ?_;intro _ Y;apply k8 Y 85 rfl 10 95
        case ht=>
         intro Zj
         have hj0:0<j:=by have:=of_decide_eq_true Zj;omega
         refine GO 6 ?_;intro _ Y;refine qy Y (fun X hX=>(aw (i:=j-1) (sz:=3) Tryz.underlying23 aa (Y.ev rfl) (Y.ev rfl) ab ab rfl)) fun _ Y=>?_;refine qy Y (fun X hX=>(fy 0 (Y.ev rfl))) fun _ Y=>?_;refine qy Y (fun X hX=>(lx (Y.ev rfl) ((bb dm ((Za.grow hX).rd0 hs) (show j-1<t.ds.length by omega)) 0 _ rfl))) fun _ Y=>?_;refine qy Y (fun X hX=>(aY (v':=.bool (decide (t.ds[j].g≤((cU t.ds j).getD Du).g))) (by rw[dH hj0 hlt,Option.getD_some]) (nA (Y.ev rfl) (Y.ev rfl)))) fun _ Y=>?_;exact aA (Y.midE 9)
        case hf=>
         intro Zj;refine GO 10 ?_;intro _ Y;exact aA ⟨_,Y.midE 9⟩
        case h=>
         intro v151 _ hg95 Y;refine aA ?_;refine bc fun _ Zk Zx=>?_;have Z:=Za.grow Zk;refine sv Y (el (Y.ev rfl) (Y.ev rfl) hg95 (Y.ev rfl)) fun _ Y=>?_;refine ae (ag ?_);refine ar (Y.ev rfl) (fun Zo=>?_) (fun Zo=>?_)
         ·
          have he:(rj t.ds).2=9:=by
           obtain⟨u1,u2⟩:=Bool.and_eq_true_iff.1 Zo
           have hj0:0<j:=by have:=of_decide_eq_true u1;omega
           refine ko (f:=fun i x=>j9 (cU t.ds i) x) hlt Zn.2 ?_ aq;rw[qW hgood];rw[dH hj0 hlt] at u2 ⊢;have:=of_decide_eq_true u2;show aS (decide (t.ds[j-1].g<t.ds[j].g)) 9=9;rw[decide_eq_false (by change t.ds[j].g≤t.ds[j-1].g at this;omega)];rfl
          rw[he] at hE;refine GO 11 ?_;intro _ Y;refine aP Y rfl rfl ?_;exact⟨by rw[hE],Z.below⟩
         ·
          have hz:j9 (cU t.ds j) t.ds[j]=0:=by
           rw[qW hgood];rcases Nat.eq_zero_or_pos j with h0 | h0
           · subst h0;rfl
           · rw[decide_eq_true (by omega:(j:Int)>0),Bool.true_and,dH h0 hlt] at Zo
             have:=of_decide_eq_false Zo;rw[dH h0 hlt];show aS (decide (t.ds[j-1].g<t.ds[j].g)) 9=0;rw[decide_eq_true (by change ¬t.ds[j].g≤t.ds[j-1].g at this;omega)];rfl
          refine GO 9 ?_;intro _ Y;exact⟨j+1,ab,⟨hlt,fun k hk hkj=>by rcases Nat.lt_or_eq_of_le (show k≤j by omega) with q | q;exact Zn.2 k hk q;subst q;exact hz⟩,Y.re bW,(Z.sub (.cons _ (.cons_cons _ .slnil)))⟩
       case hB=>kernel_rfl
       case hst=>rfl
    ·
     have hge:t.ds.length≤j:=by have:=of_decide_eq_false Zv;omega
     have hz1:(rj t.ds).2=0:=(cI _ _).2 fun k hk=>Zn.2 k hk ab;rw[hz1] at hE;refine GO 11 ?_;intro _ Y;refine aP Y rfl rfl ?_;exact⟨by rw[hE],Z.below⟩
open Go.RowKit Go.Sort Go.Shelf
theorem de (s:List UInt8) (a c:Nat) (h1:a+c≤s.length) (hs:s.length≤100000) (hc:c≤6) (w:World) :
 Calls Tryz.prog 73 #[.string (bs s),.int .i64 a,.int .i64 c] w fun e w'=>e=.returned (.int .i64 (fv s a c))∧w=w':=by
 have h:=im (bs s) a c (by rw[gn];exact h1) (by rw[gn];unfold maxLen;omega) hc w;rw[Cu] at h;exact h
open Go.RowKit Go.Sort Go.Shelf
theorem zo {l:List UInt8} (k:Nat):(il l (k+1)).flatMap cw=(il l k).flatMap cw ++ [.int .i64 (fv l (2+11*k) 2),.int .i64 (fv l (2+11*k+2) 4),.int .i64 (fv l (2+11*k+6) 4),.bool (fv l (2+11*k+10) 1==1)]:=by
 rw[pk,List.flatMap_append];rfl
theorem z7 {l:List UInt8} (k:Nat):(ju l (k+1)).flatMap cV=(ju l k).flatMap cV ++ [.int .i64 (fv l (2+11*ba l+7*k) 2),.bool (fv l (2+11*ba l+7*k+2) 1==1),.int .i64 (fv l (2+11*ba l+7*k+3) 4)]:=by
 rw[pE,List.flatMap_append];rfl
theorem pX (l:List UInt8) (w:World) (hl:l.length≤100000) :
 Calls Tryz.prog 19 #[.string (bs l)] w fun e w'=>∃i:Option Addr × Nat × Option Addr × Nat,e=.returned (.tuple #[cH (cX l) i.1 i.2.1 i.2.2.1 i.2.2.2,.int .i64 (fU l)]) ∧
  St [] w w' [.row (.slice i.1 (cX l).ts.length i.2.1) (cX l).ts.length 116 4 ((cX l).ts.flatMap cw),.row (.slice i.2.2.1 (cX l).ds.length i.2.2.2) (cX l).ds.length 124 3 ((cX l).ds.flatMap cV)]:=by
 have hsz:(bs l).size=l.length:=gn l;have hN0:=Ax l 0 1;have hM0:=Ax l 1 1
 have hNi:((ba l:Nat):Int)=fv l 0 1:=by unfold ba;omega
 have hMi:((dD l:Nat):Int)=fv l 1 1:=by unfold dD;omega
 have hNb:ba l<256:=by have:=hN0.2;omega
 have hMb:dD l<256:=by have:=hM0.2;omega
 refine ao (N:=118) Tryz.func19 rfl rfl rfl (fun _ Y=>?_);have Z:=St.init w;refine ak (av ?_);refine na (.agg #[.slice none 0 0,.slice none 0 0]) Y rfl Z fun b2 _ _ Zz Y Z=>?_;refine GO 5 ?_;intro _ Y;refine sv Y (aT (zs:=[.slice none 0 0,.slice none 0 0]) (pl:=[(0,1),(1,1)]) aa aa (Y.evs2 rfl) rfl rfl) fun _ Y=>?_;refine na (.agg #[.slice none 0 0,.slice none 0 0]) Y rfl Z fun b4 _ _ Qa Y Z=>?_;refine sw Y Z 0 fun _ Z=>?_;refine GO 10 ?_;intro _ h8;refine ar (h8.ev rfl) (fun Zm=>?_) (fun Zm=>?_)
 ·
  have hE:fU l=10:=by unfold fU;rw[if_pos (by have:=of_decide_eq_true Zm;omega)]
  have hR:cX l=gR:=by unfold cX;rw[if_neg (by rw[hE];decide)]
  refine ak (av ?_);refine sv h8 (ah aa aa (h8.ev rfl) (Z.cellsAll (i:=0) rfl)) fun _ h9=>?_;refine sw h9 Z 1 fun _ Z=>?_;refine GO 5 ?_;intro _ Y;refine dX Y rfl rfl rfl Z (i:=1) rfl aa aa ?_;refine⟨(none,0,none,0),by rw[hR,hE];rfl,?_⟩;rw[hR];exact((Z.sub (List.nil_sublist _)).nilRow 124 3).nilRow 116 4
 ·
  have Y:2≤l.length:=by have:=of_decide_eq_false Zm;omega
  refine GO 5 ?_;intro _ Y;refine ey Y rfl (de l 0 1 ab hl aq _) fun _ Y=>?_;rw[←hNi] at Y;refine GO 1 ?_;intro _ Y;refine ey Y rfl (de l 1 1 ab hl aq _) fun _ Y=>?_;rw[←hMi] at Y;refine GO 10 ?_;intro _ Y;refine sv Y (fF (Y.ev rfl) (Y.ev rfl) ab) fun _ Y=>?_;refine GO 2 ?_;intro _ Y;refine sv Y (fF (Y.ev rfl) (Y.ev rfl) ab) fun _ Y=>?_;refine GO 4 ?_;intro _ Zk;refine ar (Zk.ev rfl) (fun Zd=>?_) (fun Zd=>?_)
  ·
   have hE:fU l=10:=by
    unfold fU;rw[if_neg ab,if_pos];intro q;rw[hsz,q] at Zd;simp at Zd
   have hR:cX l=gR:=by unfold cX;rw[if_neg (by rw[hE];decide)]
   refine ak (av ?_);refine sv Zk (ah aa aa (Zk.ev rfl) (Z.cellsAll (i:=0) rfl)) fun _ Y=>?_;refine sw Y Z 1 fun _ Z=>?_;refine GO 5 ?_;intro _ Y;refine dX Y rfl rfl rfl Z (i:=1) rfl aa aa ?_;refine⟨(none,0,none,0),by rw[hR,hE];rfl,?_⟩;rw[hR];exact((Z.sub (List.nil_sublist _)).nilRow 124 3).nilRow 116 4
  ·
   have Y:l.length=2+11*ba l+7*dD l:=by
    rw[hsz] at Zd;simp at Zd;omega
   refine wp_skip (ag (ak (av ?_)));refine na (.agg #[.slice none 0 0,.slice none 0 0]) Zk rfl Z fun b7 _ _ Qb Y Z=>?_;replace Z:=St.nilRow (St.nilRow Z 124 3) 116 4;refine GO 14 ?_;intro _ Y;refine bh Y Z [7,6,5,4,3,2,0] (fun (q:Nat × Option Addr × Nat)=>[(9,.int .i64 (q.1:Nat)),(8,.bool (fL l q.1))]) (fun (q:Nat × Option Addr × Nat)=>q.1≤ba l) (fun q L=>[.row (.slice q.2.1 q.1 q.2.2) q.1 116 4 ((il l q.1).flatMap cw),.row (.slice none 0 0) 0 124 3 [],.box b7 #[.slice q.2.1 q.1 q.2.2,.slice none 0 0] 25,.box b4 #[.slice none 0 0,.slice none 0 0] 25,.box b2 #[.slice none 0 0,.slice none 0 0] 25]) (fun (q:Nat × Option Addr × Nat)=>ba l-q.1) ((0,none,0)) (Nat.zero_le _) bW (Z) ?_;intro q _ _ Zu Y Z;refine GO 8 ?_;intro _ Y;refine ar (Y.ev rfl) (fun Zn=>?_) (fun Zn=>?_)
   ·
    have hlt:q.1<ba l:=by have:=of_decide_eq_true Zn;omega
    refine GO 7 ?_;intro _ Y;refine sv Y (fF (Y.ev rfl) (Y.ev rfl) ab) fun _ Y=>?_;refine sv Y (aY (v':=.int .i64 ((2+11*q.1:Nat):Int)) (congrArg _ ab) (eh (Y.ev rfl) (Y.ev rfl) ab)) fun _ Y=>?_;refine GO 7 ?_;intro _ Y;apply bG (x:=decide (fv l (2+11*q.1+10) 1≤1)) Y Z 42 rfl 6 48
    case ht=>
     intro Ze;refine GO 2 ?_;intro _ Y;refine sy Y (aY (v':=.int .i64 ((2+11*q.1+10:Nat):Int)) (congrArg _ ab) (eh (Y.ev rfl) (Y.ev rfl) ab)) fun _ Y=>?_;refine da Y (aj Y _ rfl rfl rfl Ze) (aC br (Y.evs rfl) rfl) rfl rfl (de l (2+11*q.1+10) 1 ab hl aq _) fun _ Y=>?_;refine GO 2 ?_;intro _ Y;exact ae ⟨Y.midE 5,Z⟩
    case hf=>
     intro Ze;refine GO 6 ?_;intro _ Y;exact ae ⟨Y.midE 5,Z⟩
    case h=>
     rintro a55 Qc ⟨Zv,Zt⟩
     rw[←pF] at Zv;refine GO 3 ?_;intro _ Y;apply aU Y [false,false,false,false,false,false,false,false,false,false,false,false,false,false,false,false,false,false,false,true] _ aa
     case h=>
      refine GO 4 ?_;intro _ Y;refine lT Y rfl (fun X hX=>de l (2+11*q.1) 2 ab hl aq _) fun _ Y=>?_;refine GO 2 ?_;intro _ Y;refine qv Y (fun X hX=>aY (v':=.int .i64 ((2+11*q.1+2:Nat):Int)) (congrArg _ ab) (eh (Y.ev rfl) (Y.ev rfl) ab)) fun _ Y=>?_;refine lT Y rfl (fun X hX=>de l (2+11*q.1+2) 4 ab hl aq _) fun _ Y=>?_;refine GO 2 ?_;intro _ Y;refine qv Y (fun X hX=>aY (v':=.int .i64 ((2+11*q.1+6:Nat):Int)) (congrArg _ ab) (eh (Y.ev rfl) (Y.ev rfl) ab)) fun _ Y=>?_;refine lT Y rfl (fun X hX=>de l (2+11*q.1+6) 4 ab hl aq _) fun _ Y=>?_;refine GO 2 ?_;intro _ Y;refine qv Y (fun X hX=>aY (v':=.int .i64 ((2+11*q.1+10:Nat):Int)) (congrArg _ ab) (eh (Y.ev rfl) (Y.ev rfl) ab)) fun _ Y=>?_;refine lT Y rfl (fun X hX=>de l (2+11*q.1+10) 1 ab hl aq _) fun _ Y=>?_;refine GO 1 ?_;intro _ Y;refine qv Y (fun X hX=>aT (zs:=[.int .i64 0,.int .i64 0,.int .i64 0,.bool false]) (pl:=[(0,1),(1,1),(2,1),(3,1)]) aa aa (Y.evs2 rfl) rfl rfl) fun _ Y=>?_;refine aA ?_;apply ij (k:=19) (deps:=[]) (R:=NewB _ (fun b=>.slice (some ⟨b,0,none⟩) 1 1) _ _) Y rfl rfl rfl NewB.stable (fun X hX hΦ=>jN (eY (zc:=[.int .i64 0,.int .i64 0,.int .i64 0,.bool false]) (sz:=4) rfl Tryz.underlying22 aa aa rfl rfl rfl (Y.evs2 rfl) rfl rfl rfl) hX.size);intro v68 _ Y;refine bc fun _ Zf Zo=>?_;have Z:=Zt.grow Zf;have Zb:=bC Zo (k:=19) rfl;obtain⟨b68,rfl,Zp,Zb⟩:=Zb;have Z:=Zt.add Zf (e:=.box _ _ _) Zb (fun b hb=>by cases hb;exact⟨Zp,Box.lt Zb⟩);refine bO (z:=.agg #[.int .i64 0,.int .i64 0,.int .i64 0,.bool false]) (sz:=4) (bytes:=32) Y (wn rfl) ⟨rfl,rfl⟩ rfl Tryz.underlying22 aa rfl rfl (Y.ev rfl) (Y.ev rfl) Z (i:=1) rfl (Z.boxRd (i:=0) rfl) rfl (List.all_eq_true.1 rfl) ⟨ab,by decide⟩ fun A69 c69 _ _ Y Z=>?_
      refine GO 1 ?_;intro _ Y;refine cq Y (wn rfl) ⟨rfl,rfl⟩ (Y.ev rfl) (Y.ev rfl) rfl aa Z (i:=3) rfl rfl rfl fun _ Z=>?_;refine GO 9 ?_;intro _ Y;exact⟨(q.1+1,A69,c69),(by show ba l-(q.1+1)<ba l-q.1;omega),hlt,Y.re bW,(by show St [] w _ [.row _ _ _ _ ((il l (q.1+1)).flatMap cw),_,_,_,_];rw[zo];exact(Z.sub (.cons _ (.cons_cons _ (.cons_cons _ (.cons_cons _ (.cons_cons _ (.cons_cons _ .slnil))))))))⟩
     case hB=>kernel_rfl
     case hst=>rfl
   ·
    obtain⟨n1,A1,c1⟩:=q
    obtain rfl:n1=ba l:=by have h8:=of_decide_eq_false Zn;have h9:n1≤ba l:=Zu;change ¬((n1:Int)<_) at h8;omega
    have hG0:fL l (ba l)=(fL l (ba l)&&gU l 0):=by rw[show gU l 0=true from rfl,Bool.and_true]
    replace Y:=Y.also (t:=8) (v:=.bool (fL l (ba l)&&gU l 0)) (by rw[←hG0];rfl);refine GO 12 ?_;intro _ Y;refine bh Y Z [7,6,5,4,3,2,0] (fun (q:Nat × Option Addr × Nat)=>[(11,.int .i64 (q.1:Nat)),(8,.bool (fL l (ba l)&&gU l q.1))]) (fun (q:Nat × Option Addr × Nat)=>q.1≤dD l) (fun q L=>[.row (.slice A1 (ba l) c1) (ba l) 116 4 ((il l (ba l)).flatMap cw),.row (.slice q.2.1 q.1 q.2.2) q.1 124 3 ((ju l q.1).flatMap cV),.box b7 #[.slice A1 (ba l) c1,.slice q.2.1 q.1 q.2.2] 25,.box b4 #[.slice none 0 0,.slice none 0 0] 25,.box b2 #[.slice none 0 0,.slice none 0 0] 25]) (fun (q:Nat × Option Addr × Nat)=>dD l-q.1) ((0,none,0)) (Nat.zero_le _) bW (Z) ?_;intro q _ Zw Zx Y Z;refine GO 8 ?_;intro _ Y;refine ar (Y.ev rfl) (fun Zq=>?_) (fun Zq=>?_)
    ·
     have hlt:q.1<dD l:=by have:=of_decide_eq_true Zq;omega
     refine GO 7 ?_;intro _ Y;refine sv Y (fF (Y.ev rfl) (Y.ev rfl) ab) fun _ Y=>?_;refine sv Y (aY (v':=.int .i64 ((2+11*ba l:Nat):Int)) (congrArg _ ab) (eh (Y.ev rfl) (Y.ev rfl) ab)) fun _ Y=>?_;refine GO 1 ?_;intro _ Y;refine sv Y (fF (Y.ev rfl) (Y.ev rfl) ab) fun _ Y=>?_;refine sv Y (aY (v':=.int .i64 ((2+11*ba l+7*q.1:Nat):Int)) (congrArg _ ab) (eh (Y.ev rfl) (Y.ev rfl) ab)) fun _ Y=>?_;refine GO 7 ?_;intro _ Y;apply bG (x:=decide (fv l (2+11*ba l+7*q.1+2) 1≤1)) Y Z 83 rfl 6 89
     case ht=>
      intro Zg;refine GO 2 ?_;intro _ Y;refine sy Y (aY (v':=.int .i64 ((2+11*ba l+7*q.1+2:Nat):Int)) (congrArg _ ab) (eh (Y.ev rfl) (Y.ev rfl) ab)) fun _ Y=>?_;refine da Y (aj Y _ rfl rfl rfl Zg) (aC br (Y.evs rfl) rfl) rfl rfl (de l (2+11*ba l+7*q.1+2) 1 ab hl aq _) fun _ Y=>?_;refine GO 2 ?_;intro _ Y;exact ae ⟨Y.midE 5,Z⟩
     case hf=>
      intro Zg;refine GO 6 ?_;intro _ Y;exact ae ⟨Y.midE 5,Z⟩
     case h=>
      rintro a111 Zy ⟨Zr,Zh⟩
      rw[Bool.and_assoc,←pA] at Zr;refine GO 3 ?_;intro _ Y;apply aU Y [false,false,false,false,false,false,false,false,false,false,false,false,false,false,false,true] _ aa
      case h=>
       refine GO 4 ?_;intro _ Y;refine lT Y rfl (fun X hX=>de l (2+11*ba l+7*q.1) 2 ab hl aq _) fun _ Y=>?_;refine GO 2 ?_;intro _ Y;refine qv Y (fun X hX=>aY (v':=.int .i64 ((2+11*ba l+7*q.1+2:Nat):Int)) (congrArg _ ab) (eh (Y.ev rfl) (Y.ev rfl) ab)) fun _ Y=>?_;refine lT Y rfl (fun X hX=>de l (2+11*ba l+7*q.1+2) 1 ab hl aq _) fun _ Y=>?_;refine GO 3 ?_;intro _ Y;refine qv Y (fun X hX=>aY (v':=.int .i64 ((2+11*ba l+7*q.1+3:Nat):Int)) (congrArg _ ab) (eh (Y.ev rfl) (Y.ev rfl) ab)) fun _ Y=>?_;refine lT Y rfl (fun X hX=>de l (2+11*ba l+7*q.1+3) 4 ab hl aq _) fun _ Y=>?_;refine qv Y (fun X hX=>aT (zs:=[.int .i64 0,.bool false,.int .i64 0]) (pl:=[(0,1),(1,1),(2,1)]) aa aa (Y.evs2 rfl) rfl rfl) fun _ Y=>?_;refine aA ?_;apply ij (k:=15) (deps:=[]) (R:=NewB _ (fun b=>.slice (some ⟨b,0,none⟩) 1 1) _ _) Y rfl rfl rfl NewB.stable (fun X hX hΦ=>jN (eY (zc:=[.int .i64 0,.bool false,.int .i64 0]) (sz:=3) rfl Tryz.underlying23 aa aa rfl rfl rfl (Y.evs2 rfl) rfl rfl rfl) hX.size);intro v105 _ Y;refine bc fun _ Zc Zi=>?_;have Z:=Zh.grow Zc;have Za:=bC Zi (k:=15) rfl;obtain⟨b105,rfl,Zj,Za⟩:=Za;have Z:=Zh.add Zc (e:=.box _ _ _) Za (fun b hb=>by cases hb;exact⟨Zj,Box.lt Za⟩);refine bO (z:=.agg #[.int .i64 0,.bool false,.int .i64 0]) (sz:=3) (bytes:=24) Y (wn rfl) ⟨rfl,rfl⟩ rfl Tryz.underlying23 aa rfl rfl (Y.ev rfl) (Y.ev rfl) Z (i:=2) rfl (Z.boxRd (i:=0) rfl) rfl (List.all_eq_true.1 rfl) ⟨ab,by decide⟩ fun A106 c106 _ _ Y Z=>?_;refine GO 1 ?_;intro _ Y;refine cq Y (wn rfl) ⟨rfl,rfl⟩ (Y.ev rfl) (Y.ev rfl) rfl aa Z (i:=3) rfl rfl rfl fun _ Z=>?_;refine GO 9 ?_;intro _ Y;exact⟨(q.1+1,A106,c106),(by show dD l-(q.1+1)<dD l-q.1;omega),hlt,Y.re bW,(by show St [] w _ [_,.row _ _ _ _ ((ju l (q.1+1)).flatMap cV),_,_,_];rw[z7];exact(Z.sub (.cons _ (.cons_cons _ (.cons_cons _ (.cons_cons _ (.cons_cons _ (.cons_cons _ .slnil))))))))⟩
      case hB=>kernel_rfl
      case hst=>rfl
    ·
     obtain⟨n2,A2,c2⟩:=q
     obtain rfl:n2=dD l:=by have h8:=of_decide_eq_false Zq;have h9:n2≤dD l:=Zx;change ¬((n2:Int)<_) at h8;omega
     have eT:(dQ l).ts.length=ba l:=by show(il l (ba l)).length=_;unfold il;simp
     have eD:(dQ l).ds.length=dD l:=by show(ju l (dD l)).length=_;unfold ju;simp
     replace Z:St [] w Zw [.row (.slice A1 (dQ l).ts.length c1) (dQ l).ts.length 116 4 ((dQ l).ts.flatMap cw),.row (.slice A2 (dQ l).ds.length c2) (dQ l).ds.length 124 3 ((dQ l).ds.flatMap cV),.box b7 #[.slice A1 (dQ l).ts.length c1,.slice A2 (dQ l).ds.length c2] 25,.box b4 #[.slice none 0 0,.slice none 0 0] 25,.box b2 #[.slice none 0 0,.slice none 0 0] 25]:=by
      rw[eT,eD];exact Z
     refine GO 12 ?_;intro _ Y;refine ar (Y.ev rfl) (fun Zl=>?_) (fun Zl=>?_)
     ·
      have hE:fU l=3:=by
       unfold fU
       rw[if_neg ab,if_neg ab,show(fL l (ba l)&&gU l (dD l))=false by cases q1:(fL l (ba l)&&gU l (dD l)) with
        | false=>rfl
        | true=>rw[q1] at Zl;cases Zl];rfl
      have hR:cX l=gR:=by unfold cX;rw[if_neg (by rw[hE];decide)]
      refine ak (av ?_);refine sv Y (ah aa aa (Y.ev rfl) (Z.cellsAll (i:=3) rfl)) fun _ Y=>?_;refine sw Y Z 4 fun _ Z=>?_;refine GO 5 ?_;intro _ Y;refine dX Y rfl rfl rfl Z (i:=4) rfl aa aa ?_;refine⟨(none,0,none,0),by rw[hR,hE];rfl,?_⟩;rw[hR];exact((Z.sub (List.nil_sublist _)).nilRow 124 3).nilRow 116 4
     ·
      have hFG:(fL l (ba l)&&gU l (dD l))=true:=by simpa using Zl
      have hE:fU l=dJ (dQ l):=by
       unfold fU;rw[if_neg ab,if_neg ab,hFG];show(if (0:Int)=0 then (if dJ (dQ l)=0 then 0 else dJ (dQ l)) else 0)=_;rw[if_pos rfl]
       split<;>omega
      refine wp_skip (ag (ak (ak (av ?_))));refine sv (v:=cH (dQ l) A1 c1 A2 c2) Y (ah aa aa (Y.ev rfl) (Z.cellsAll (i:=2) rfl)) fun _ Y=>?_;refine dz Y rfl Z (n4 (dQ l) A1 c1 A2 c2 _ (Z.rdOf (i:=0) rfl) (Z.rdOf (i:=1) rfl)) fun _ _ Y Z=>?_;refine GO 9 ?_;intro _ Y;refine ar (Y.ev rfl) (fun Zs=>?_) (fun Zs=>?_)
      ·
       have hne:fU l≠0:=by rw[hE];simpa using Zs
       have hR:cX l=gR:=by unfold cX;rw[if_neg hne]
       refine ak (av ?_);refine sv Y (ah aa aa (Y.ev rfl) (Z.cellsAll (i:=3) rfl)) fun _ Y=>?_;refine GO 1 ?_;intro _ Y;refine sw Y Z 4 fun _ Z=>?_;refine GO 5 ?_;intro _ Y;refine dX Y rfl rfl rfl Z (i:=4) rfl aa aa ?_;refine⟨(none,0,none,0),by rw[hR,hE];rfl,?_⟩;rw[hR];exact((Z.sub (List.nil_sublist _)).nilRow 124 3).nilRow 116 4
      ·
       have hz:fU l=0:=by rw[hE];simpa using Zs
       have hR:cX l=dQ l:=by unfold cX;rw[if_pos hz]
       refine wp_skip (ag (ak (av ?_)));refine sv Y (ah aa aa (Y.ev rfl) (Z.cellsAll (i:=2) rfl)) fun _ Y=>?_;refine sw Y Z 4 fun _ Z=>?_;refine GO 4 ?_;intro _ Y;refine dX Y rfl rfl rfl Z (i:=4) rfl aa aa ?_;refine⟨(A1,c1,A2,c2),by rw[hR,hz];rfl,?_⟩;rw[hR];exact(Z.sub (.cons_cons _ (.cons_cons _ (.cons _ (.cons _ (.cons _ .slnil))))))
end Go.Proofs.YtcfdpfmchchkaaaGreatDoor
