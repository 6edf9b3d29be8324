/- Chapter 22 -/
import Derived.Test.YtcfdpfmchchkaaaGreatDoorRcL
namespace Go.Proofs.YtcfdpfmchchkaaaGreatDoor
set_option maxHeartbeats 1000000
set_option maxRecDepth 4000
set_option linter.unusedVariables false
set_option linter.unusedSimpArgs false
open Go.RowKit Go.Sort Go.Shelf
theorem dI {α:Type} {l:List α} {j:Nat} (b:0<j) (a:j<l.length):da l j=some (l[j-1]'ab):=by
 have:=fE l (j-1) ab
 rwa [show j-1+1=j by omega] at this
theorem C7 (b:Bool):av [bQ true 2,bQ b 9]=bQ b 9:=by cases b<;>rfl
theorem BS {p:Option Trn} {x:Trn} (h:(bB x.i 1 9999&&bB x.l 1 2147483647&&bB x.u 0 x.l)=false):nJ p x=2:=by unfold nJ;rw[h];rfl
theorem wV {p:Option Trn} {x:Trn} (h:(bB x.i 1 9999&&bB x.l 1 2147483647&&bB x.u 0 x.l)=true):nJ p x=bQ (match p with | none=>true | some y=>decide (y.i<x.i)) 9:=by
 unfold nJ;rw[h];exact C7 _
theorem B3 {p:Option Dty} {x:Dty} (h:(bB x.g 0 600&&bB x.l 1 2147483647)=false):nk p x=2:=by unfold nk;rw[h];rfl
theorem vA {p:Option Dty} {x:Dty} (h:(bB x.g 0 600&&bB x.l 1 2147483647)=true):nk p x=bQ (match p with | none=>true | some y=>decide (y.g<x.g)) 9:=by
 unfold nk;rw[h];exact C7 _
theorem fQ {α:Type} {f:Nat→α→Int} {l:List α} {j:Nat} (d:j<l.length) (h:∀k (b:k<l.length),k<j→f k l[k]=0) {e:Int} (c:f j l[j]=e) (g:e≠0):(df f 0 l).2=e:=by
 have:=dU f l 0 j d (fun k b a=>by rw[Nat.zero_add];exact h k b a) (by rw[Nat.zero_add,c];exact g);rw[Nat.zero_add,c] at this;rw[this]
def HU:Trn:=⟨0,0,0,false⟩
def HW:Dty:=⟨0,false,0⟩
theorem lE (t:Tbl) (A:Option Addr) (c:Nat) (B:Option Addr) (d:Nat) (w:World) (hr:Rd w w.heap.size A (t.ts.flatMap bW)) (hs:Rd w w.heap.size B (t.ds.flatMap cN)) :
 bu 21 #[cc t A c B d] w (ae (cZ t)):=by
 obtain⟨E,m⟩:∃E,E=cZ t:=⟨_,rfl⟩;rw[←m];unfold cZ at m;refine an (N:=97) Tryz.func21 rfl rfl rfl (fun _ r=>?_);have Z:=St.init w;refine aj (aq ?_);refine nb r rfl rfl Z fun b1 _ _ Qb Y Z=>GO 11 ?_;intro _ Y;apply bI Y Z 11 rfl 5 16
 case hf=>
  intro Zp;refine GO 5 ?_;intro _ Y;exact ag ⟨Y.midE 4,Z⟩
 case ht=>
  intro Zp;refine GO 5 ?_;intro _ Y;exact ag ⟨Y.midE 4,Z⟩
 case h=>
  rintro Jy Qc ⟨Zy,U⟩
  refine ag (ai ?_);refine ak (Zy.ev rfl) (fun C=>?_) (fun C=>?_)
  ·
   rw[if_pos (by have:=C;simp at this;omega)] at m;refine GO 7 ?_;intro _ Y;refine aC Y rfl rfl ?_;exact⟨by rw[m],U.below⟩
  ·
   rw[if_neg (by rw[Bool.or_eq_false_iff] at C;simp at C;omega)] at m
   have hn:t.ts.length≤60∧t.ds.length≤60:=by rw[Bool.or_eq_false_iff] at C;simp at C;omega
   refine GO 9 ?_;intro _ Y;refine aV Y U [1] (fun (j:Nat)=>[(3,ae (j:Nat))]) (fun (j:Nat)=>j≤t.ts.length∧∀k (y:k<t.ts.length),k<j→nJ (da t.ts k) t.ts[k]=0) (fun (j:Nat) L=>L) (fun (j:Nat)=>t.ts.length-j) (0) (⟨Nat.zero_le _,fun k _ h=>absurd h (Nat.not_lt_zero _)⟩) bC (U) ?_;intro j _ _ K Y Z;refine GO 10 ?_;intro _ Y;refine ak (Y.ev rfl) (fun Zr=>?_) (fun Zr=>?_)
   ·
    have a:j<t.ts.length:=by have:=of_decide_eq_true Zr;omega
    obtain⟨b,o,rfl,hB,_⟩:=hr.opened (aF bq au ab);refine GO 9 ?_;intro _ Y;refine sv Y (ar (i:=j) (sz:=4) dT aa (Y.ev rfl) (Y.ev rfl) ab ab rfl) fun _ Y=>?_;refine sv (v:=eX t.ts[j]) Y (ah aa aa (Y.ev rfl) (aL bq (Z.rd0 hr) a)) fun _ Y=>?_;refine na (.agg lZ) Y rfl Z fun b4 _ _ Qd Y Z=>sw Y Z 0 fun _ Z=>?_;refine GO 7 ?_;intro _ Y;refine dn Y rfl (br _ _ _ _) fun _ Y=>?_;refine GO 2 ?_;intro _ Y;apply bI Y Z 33 rfl 5 38
    case hf=>
     intro Zc;refine GO 2 ?_;intro _ Y;refine cx Y (ao Y _ rfl rfl rfl Zc) (aw a6 (Y.evs rfl) rfl) rfl rfl (br _ _ _ _) fun _ Y=>GO 2 ?_;intro _ Y;exact ag ⟨Y.midE 4,Z⟩
    case ht=>
     intro Zc;refine GO 5 ?_;intro _ Y;exact ag ⟨Y.midE 4,Z⟩
    case h=>
     rintro Va Qe ⟨Qf,Zs⟩
     refine GO 1 ?_;intro _ Y;apply bI Y Zs 39 rfl 7 46
     case hf=>
      intro Zd;refine GO 4 ?_;intro _ Y;refine cx Y (ao Y _ rfl rfl rfl Zd) (aw a6 (Y.evs rfl) rfl) rfl rfl (br _ _ _ _) fun _ Y=>GO 2 ?_;intro _ Y;exact ag ⟨Y.midE 6,Zs⟩
     case ht=>
      intro Zd;refine GO 7 ?_;intro _ Y;exact ag ⟨Y.midE 6,Zs⟩
     case h=>
      rintro Jx Qg ⟨Zw,Zt⟩
      refine ag (ai ?_);refine ak (Zw.ev rfl) (fun H=>?_) (fun H=>?_)
      ·
       have p:(bB t.ts[j].i 1 9999&&bB t.ts[j].l 1 2147483647&&bB t.ts[j].u 0 t.ts[j].l)=false:=by
        cases q1:bB t.ts[j].i 1 9999<;>cases q2:bB t.ts[j].l 1 2147483647<;>cases q3:bB t.ts[j].u 0 t.ts[j].l<;>rw[q1,q2,q3] at H<;>first | rfl | (simp at H)
       have z:(lH t.ts).2=2:=fQ (f:=fun i x=>nJ (da t.ts i) x) a K.2 (BS p) au;rw[z,if_pos au] at m;refine GO 12 ?_;intro _ Y;refine aC Y rfl rfl ?_;exact⟨by rw[m],Zt.below⟩
      ·
       have e:(bB t.ts[j].i 1 9999&&bB t.ts[j].l 1 2147483647&&bB t.ts[j].u 0 t.ts[j].l)=true:=by
        cases q1:bB t.ts[j].i 1 9999<;>cases q2:bB t.ts[j].l 1 2147483647<;>cases q3:bB t.ts[j].u 0 t.ts[j].l<;>rw[q1,q2,q3] at H<;>first | rfl | (simp at H)
       refine wp_skip (ai (aj ?_));apply aK Zw (fK 13) _ aa
       case h=>
        refine GO 3 ?_;intro _ Y;apply lR Y 49 rfl 10 59
        case ht=>
         intro Zf
         have n:0<j:=by have:=of_decide_eq_true Zf;omega
         refine GO 6 ?_;intro _ Y;refine qy Y (fun X s=>(ar (i:=j-1) (sz:=4) dT aa (Y.ev rfl) (Y.ev rfl) ab ab rfl)) fun _ Y=>?_;refine qy Y (fun X s=>(fy 0 (Y.ev rfl))) fun _ Y=>?_;refine qy Y (fun X s=>(lx (Y.ev rfl) ((aL bq ((Zt.grow s).rd0 hr) (show j-1<t.ts.length by omega)) 0 _ rfl))) fun _ Y=>?_;refine qy Y (fun X s=>(aA (v':=.bool (decide (t.ts[j].i≤((da t.ts j).getD HU).i))) (by rw[dI n a,Option.getD_some]) (lY (Y.ev rfl) (Y.ev rfl)))) fun _ Y=>?_;exact ax (Y.midE 9)
        case hf=>
         intro Zf;refine GO 10 ?_;intro _ Y;exact ax ⟨_,Y.midE 9⟩
        case h=>
         intro Jz _ D Y;refine ax ?_;refine aT fun _ Zu Zz=>?_;have Z:=Zt.grow Zu;refine sv Y (eK (Y.ev rfl) (Y.ev rfl) D (Y.ev rfl)) fun _ Y=>?_;refine ag (ai ?_);refine ak (Y.ev rfl) (fun J=>?_) (fun J=>?_)
         ·
          have z:(lH t.ts).2=9:=by
           obtain⟨u1,F⟩:=Bool.and_eq_true_iff.1 J
           have n:0<j:=by have:=of_decide_eq_true u1;omega
           refine fQ (f:=fun i x=>nJ (da t.ts i) x) a K.2 ?_ au;rw[wV e];rw[dI n a] at F ⊢;have:=of_decide_eq_true F;show bQ (decide (t.ts[j-1].i<t.ts[j].i)) 9=9;rw[decide_eq_false (by change t.ts[j].i≤t.ts[j-1].i at this;omega)];rfl
          rw[z,if_pos au] at m;refine GO 11 ?_;intro _ Y;refine aC Y rfl rfl ?_;exact⟨by rw[m],Z.below⟩
         ·
          have T:nJ (da t.ts j) t.ts[j]=0:=by
           rw[wV e];rcases Nat.eq_zero_or_pos j with r | r
           · subst r;rfl
           · rw[decide_eq_true (by omega:(j:Int)>0),Bool.true_and,dI r a] at J
             have:=of_decide_eq_false J;rw[dI r a];show bQ (decide (t.ts[j-1].i<t.ts[j].i)) 9=0;rw[decide_eq_true (by change ¬t.ts[j].i≤t.ts[j-1].i at this;omega)];rfl
          refine GO 9 ?_;intro _ Y;exact⟨j+1,ab,⟨a,fun k y P=>by rcases Nat.lt_or_eq_of_le (show k≤j by omega) with q | q;exact K.2 k y q;subst q;exact T⟩,Y.re bC,(Z.sub (aB 2))⟩
       case hB=>kernel_rfl
       case hst=>rfl
   ·
    have Q:t.ts.length≤j:=by have:=of_decide_eq_false Zr;omega
    have S:(lH t.ts).2=0:=(cK _ _).2 fun k y=>K.2 k y ab;rw[if_neg (fun h=>h S)] at m;refine GO 12 ?_;intro _ Y;refine aV Y Z [1] (fun (j:Nat)=>[(5,ae (j:Nat))]) (fun (j:Nat)=>j≤t.ds.length∧∀k (y:k<t.ds.length),k<j→nk (da t.ds k) t.ds[k]=0) (fun (j:Nat) L=>L) (fun (j:Nat)=>t.ds.length-j) (0) (⟨Nat.zero_le _,fun k _ h=>absurd h (Nat.not_lt_zero _)⟩) bC (Z) ?_;intro j _ _ O Y Z;refine GO 10 ?_;intro _ Y;refine ak (Y.ev rfl) (fun W=>?_) (fun W=>?_)
    ·
     have a:j<t.ds.length:=by have:=of_decide_eq_true W;omega
     obtain⟨b,o,rfl,hB,_⟩:=hs.opened (aF dF au ab);refine GO 9 ?_;intro _ Y;refine sv Y (ar (i:=j) (sz:=3) iy aa (Y.ev rfl) (Y.ev rfl) ab ab rfl) fun _ Y=>?_;refine sv (v:=iL t.ds[j]) Y (ah aa aa (Y.ev rfl) (aL dF (Z.rd0 hs) a)) fun _ Y=>?_;refine na (.agg oz) Y rfl Z fun b6 _ _ Qh Y Z=>sw Y Z 0 fun _ Z=>?_;refine GO 7 ?_;intro _ Y;refine dn Y rfl (br _ _ _ _) fun _ Y=>?_;refine GO 2 ?_;intro _ Y;apply bI Y Z 77 rfl 5 82
     case hf=>
      intro Zg;refine GO 2 ?_;intro _ Y;refine cx Y (ao Y _ rfl rfl rfl Zg) (aw a6 (Y.evs rfl) rfl) rfl rfl (br _ _ _ _) fun _ Y=>GO 2 ?_;intro _ Y;exact ag ⟨Y.midE 4,Z⟩
     case ht=>
      intro Zg;refine GO 5 ?_;intro _ Y;exact ag ⟨Y.midE 4,Z⟩
     case h=>
      rintro Jw Qa ⟨Zh,V⟩
      refine ag (ai ?_);refine ak (Zh.ev rfl) (fun G=>?_) (fun G=>?_)
      ·
       have p:(bB t.ds[j].g 0 600&&bB t.ds[j].l 1 2147483647)=false:=by
        cases q1:bB t.ds[j].g 0 600<;>cases q2:bB t.ds[j].l 1 2147483647<;>rw[q1,q2] at G<;>first | rfl | (simp at G)
       have z:(wi t.ds).2=2:=fQ (f:=fun i x=>nk (da t.ds i) x) a O.2 (B3 p) au;rw[z] at m;refine GO 12 ?_;intro _ Y;refine aC Y rfl rfl ?_;exact⟨by rw[m],V.below⟩
      ·
       have e:(bB t.ds[j].g 0 600&&bB t.ds[j].l 1 2147483647)=true:=by
        cases q1:bB t.ds[j].g 0 600<;>cases q2:bB t.ds[j].l 1 2147483647<;>rw[q1,q2] at G<;>first | rfl | (simp at G)
       refine wp_skip (ai (aj ?_));apply aK Zh (fK 13) _ aa
       case h=>
        refine GO 3 ?_;intro _ Y;apply lR Y 85 rfl 10 95
        case ht=>
         intro Zj
         have n:0<j:=by have:=of_decide_eq_true Zj;omega
         refine GO 6 ?_;intro _ Y;refine qy Y (fun X s=>(ar (i:=j-1) (sz:=3) iy aa (Y.ev rfl) (Y.ev rfl) ab ab rfl)) fun _ Y=>?_;refine qy Y (fun X s=>(fy 0 (Y.ev rfl))) fun _ Y=>?_;refine qy Y (fun X s=>(lx (Y.ev rfl) ((aL dF ((V.grow s).rd0 hs) (show j-1<t.ds.length by omega)) 0 _ rfl))) fun _ Y=>?_;refine qy Y (fun X s=>(aA (v':=.bool (decide (t.ds[j].g≤((da t.ds j).getD HW).g))) (by rw[dI n a,Option.getD_some]) (lY (Y.ev rfl) (Y.ev rfl)))) fun _ Y=>?_;exact ax (Y.midE 9)
        case hf=>
         intro Zj;refine GO 10 ?_;intro _ Y;exact ax ⟨_,Y.midE 9⟩
        case h=>
         intro Jv _ I Y;refine ax ?_;refine aT fun _ Zk Zx=>?_;have Z:=V.grow Zk;refine sv Y (eK (Y.ev rfl) (Y.ev rfl) I (Y.ev rfl)) fun _ Y=>?_;refine ag (ai ?_);refine ak (Y.ev rfl) (fun M=>?_) (fun M=>?_)
         ·
          have z:(wi t.ds).2=9:=by
           obtain⟨u1,F⟩:=Bool.and_eq_true_iff.1 M
           have n:0<j:=by have:=of_decide_eq_true u1;omega
           refine fQ (f:=fun i x=>nk (da t.ds i) x) a O.2 ?_ au;rw[vA e];rw[dI n a] at F ⊢;have:=of_decide_eq_true F;show bQ (decide (t.ds[j-1].g<t.ds[j].g)) 9=9;rw[decide_eq_false (by change t.ds[j].g≤t.ds[j-1].g at this;omega)];rfl
          rw[z] at m;refine GO 11 ?_;intro _ Y;refine aC Y rfl rfl ?_;exact⟨by rw[m],Z.below⟩
         ·
          have T:nk (da t.ds j) t.ds[j]=0:=by
           rw[vA e];rcases Nat.eq_zero_or_pos j with r | r
           · subst r;rfl
           · rw[decide_eq_true (by omega:(j:Int)>0),Bool.true_and,dI r a] at M
             have:=of_decide_eq_false M;rw[dI r a];show bQ (decide (t.ds[j-1].g<t.ds[j].g)) 9=0;rw[decide_eq_true (by change ¬t.ds[j].g≤t.ds[j-1].g at this;omega)];rfl
          refine GO 9 ?_;intro _ Y;exact⟨j+1,ab,⟨a,fun k y P=>by rcases Nat.lt_or_eq_of_le (show k≤j by omega) with q | q;exact O.2 k y q;subst q;exact T⟩,Y.re bC,(Z.sub (aB 2))⟩
       case hB=>kernel_rfl
       case hst=>rfl
    ·
     have Q:t.ds.length≤j:=by have:=of_decide_eq_false W;omega
     have R:(wi t.ds).2=0:=(cK _ _).2 fun k y=>O.2 k y ab;rw[R] at m;refine GO 11 ?_;intro _ Y;refine aC Y rfl rfl ?_;exact⟨by rw[m],Z.below⟩
open Go.RowKit Go.Sort Go.Shelf
theorem dS (s:List UInt8) (a c:Nat) (d:a+c≤s.length) (e:s.length≤100000) (b:c≤6) (w:World) :
 gQ 73 #[.string (bs s),ae a,ae c] w (ae (gY s a c)):=by
 have h:=mu (bs s) a c (by rw[cm];exact d) (by rw[cm];unfold maxLen;omega) b w;rw[qu] at h;exact h
open Go.RowKit Go.Sort Go.Shelf
theorem Ef {l:List UInt8} (k:Nat):(jW l (k+1)).flatMap bW=(jW l k).flatMap bW ++ [ae (gY l (2+11*k) 2),ae (gY l (2+11*k+2) 4),ae (gY l (2+11*k+6) 4),.bool (gY l (2+11*k+10) 1==1)]:=by
 rw[tJ,List.flatMap_append];rfl
theorem Cb {l:List UInt8} (k:Nat):(lz l (k+1)).flatMap cN=(lz l k).flatMap cN ++ [ae (gY l (2+11*bn l+7*k) 2),.bool (gY l (2+11*bn l+7*k+2) 1==1),ae (gY l (2+11*bn l+7*k+3) 4)]:=by
 rw[tr,List.flatMap_append];rfl
theorem vd (l:List UInt8) (w:World) (f:l.length≤100000) :
 Calls Tryz.prog 19 #[.string (bs l)] w fun e w'=>∃i:Option Addr × Nat × Option Addr × Nat,e=.returned (.tuple #[cc (dK l) i.1 i.2.1 i.2.2.1 i.2.2.2,ae (iM l)]) ∧
  St [] w w' [.row (.slice i.1 (dK l).ts.length i.2.1) (dK l).ts.length 116 4 ((dK l).ts.flatMap bW),.row (.slice i.2.2.1 (dK l).ds.length i.2.2.2) (dK l).ds.length 124 3 ((dK l).ds.flatMap cN)]:=by
 have r:(bs l).size=l.length:=cm l;have U:=CX l 0 1;have H:=CX l 1 1
 have C:((bn l:Nat):Int)=gY l 0 1:=by unfold bn;omega
 have Q:((eA l:Nat):Int)=gY l 1 1:=by unfold eA;omega
 have Jz:bn l<256:=by have:=U.2;omega
 have Jx:eA l<256:=by have:=H.2;omega
 refine an (N:=118) Tryz.func19 rfl rfl rfl (fun _ Y=>?_);have Z:=St.init w;refine aj (aq ?_);refine na (.agg gV) Y rfl Z fun G _ _ Zz Y Z=>GO 5 ?_;intro _ Y;refine sv Y (az (zs:=mD) (pl:=lM) aa aa (Y.evs2 rfl) rfl rfl) fun _ Y=>?_;refine na (.agg gV) Y rfl Z fun b4 _ _ Qa Y Z=>sw Y Z 0 fun _ Z=>?_;refine GO 10 ?_;intro _ j;refine ak (j.ev rfl) (fun D=>?_) (fun D=>?_)
 ·
  have d:iM l=10:=by unfold iM;rw[if_pos (by have:=of_decide_eq_true D;omega)]
  have c:dK l=jI:=by unfold dK;rw[if_neg (by rw[d];decide)]
  refine aj (aq ?_);refine sv j (ah aa aa (j.ev rfl) (Z.cellsAll (i:=0) rfl)) fun _ E=>?_;refine sw E Z 1 fun _ Z=>?_;refine GO 5 ?_;intro _ Y;refine bZ Y rfl rfl rfl Z (i:=1) rfl aa aa ?_;refine⟨(none,0,none,0),by rw[c,d];rfl,?_⟩;rw[c];exact((Z.sub (List.nil_sublist _)).nilRow 124 3).nilRow 116 4
 ·
  have Y:2≤l.length:=by have:=of_decide_eq_false D;omega
  refine GO 5 ?_;intro _ Y;refine dn Y rfl (dS l 0 1 ab f au _) fun _ Y=>?_;rw[←C] at Y;refine GO 1 ?_;intro _ Y;refine dn Y rfl (dS l 1 1 ab f au _) fun _ Y=>?_;rw[←Q] at Y;refine GO 10 ?_;intro _ Y;refine sv Y (gT (Y.ev rfl) (Y.ev rfl) ab) fun _ Y=>?_;refine GO 2 ?_;intro _ Y;refine sv Y (gT (Y.ev rfl) (Y.ev rfl) ab) fun _ Y=>?_;refine GO 4 ?_;intro _ B;refine ak (B.ev rfl) (fun p=>?_) (fun p=>?_)
  ·
   have d:iM l=10:=by
    unfold iM;rw[if_neg ab,if_pos];intro q;rw[r,q] at p;simp at p
   have c:dK l=jI:=by unfold dK;rw[if_neg (by rw[d];decide)]
   refine aj (aq ?_);refine sv B (ah aa aa (B.ev rfl) (Z.cellsAll (i:=0) rfl)) fun _ Y=>?_;refine sw Y Z 1 fun _ Z=>?_;refine GO 5 ?_;intro _ Y;refine bZ Y rfl rfl rfl Z (i:=1) rfl aa aa ?_;refine⟨(none,0,none,0),by rw[c,d];rfl,?_⟩;rw[c];exact((Z.sub (List.nil_sublist _)).nilRow 124 3).nilRow 116 4
  ·
   have Y:l.length=2+11*bn l+7*eA l:=by
    rw[r] at p;simp at p;omega
   refine wp_skip (ai (aj (aq ?_)));refine na (.agg gV) B rfl Z fun J _ _ Qb Y Z=>?_;replace Z:=St.nilRow (St.nilRow Z 124 3) 116 4;refine GO 14 ?_;intro _ Y;refine aV Y Z [7,6,5,4,3,2,0] (fun (q:Nat × Option Addr × Nat)=>[(9,ae (q.1:Nat)),(8,.bool (iB l q.1))]) (fun (q:Nat × Option Addr × Nat)=>q.1≤bn l) (fun q L=>[.row (.slice q.2.1 q.1 q.2.2) q.1 116 4 ((jW l q.1).flatMap bW),.row (.slice none 0 0) 0 124 3 [],.box J #[.slice q.2.1 q.1 q.2.2,.slice none 0 0] 25,.box b4 #[.slice none 0 0,.slice none 0 0] 25,.box G #[.slice none 0 0,.slice none 0 0] 25]) (fun (q:Nat × Option Addr × Nat)=>bn l-q.1) ((0,none,0)) (Nat.zero_le _) bC (Z) ?_;intro q _ _ Zu Y Z;refine GO 8 ?_;intro _ Y;refine ak (Y.ev rfl) (fun T=>?_) (fun T=>?_)
   ·
    have g:q.1<bn l:=by have:=of_decide_eq_true T;omega
    refine GO 7 ?_;intro _ Y;refine sv Y (gT (Y.ev rfl) (Y.ev rfl) ab) fun _ Y=>?_;refine sv Y (aA (v':=ae ((2+11*q.1:Nat):Int)) (congrArg _ ab) (cM (Y.ev rfl) (Y.ev rfl) ab)) fun _ Y=>?_;refine GO 7 ?_;intro _ Y;apply a8 (x:=decide (gY l (2+11*q.1+10) 1≤1)) Y Z 42 rfl 6 48
    case ht=>
     intro Ze;refine GO 2 ?_;intro _ Y;refine sy Y (aA (v':=ae ((2+11*q.1+10:Nat):Int)) (congrArg _ ab) (cM (Y.ev rfl) (Y.ev rfl) ab)) fun _ Y=>?_;refine cx Y (ao Y _ rfl rfl rfl Ze) (aw a6 (Y.evs rfl) rfl) rfl rfl (dS l (2+11*q.1+10) 1 ab f au _) fun _ Y=>?_;refine GO 2 ?_;intro _ Y;exact ag ⟨Y.midE 5,Z⟩
    case hf=>
     intro Ze;refine GO 6 ?_;intro _ Y;exact ag ⟨Y.midE 5,Z⟩
    case h=>
     rintro Jy Qc ⟨Zv,Zt⟩
     rw[←tA] at Zv;refine GO 3 ?_;intro _ Y;apply aK Y [false,false,false,false,false,false,false,false,false,false,false,false,false,false,false,false,false,false,false,true] _ aa
     case h=>
      refine GO 4 ?_;intro _ Y;refine iW Y rfl (fun X a=>dS l (2+11*q.1) 2 ab f au _) fun _ Y=>?_;refine GO 2 ?_;intro _ Y;refine qv Y (fun X a=>aA (v':=ae ((2+11*q.1+2:Nat):Int)) (congrArg _ ab) (cM (Y.ev rfl) (Y.ev rfl) ab)) fun _ Y=>?_;refine iW Y rfl (fun X a=>dS l (2+11*q.1+2) 4 ab f au _) fun _ Y=>?_;refine GO 2 ?_;intro _ Y;refine qv Y (fun X a=>aA (v':=ae ((2+11*q.1+6:Nat):Int)) (congrArg _ ab) (cM (Y.ev rfl) (Y.ev rfl) ab)) fun _ Y=>?_;refine iW Y rfl (fun X a=>dS l (2+11*q.1+6) 4 ab f au _) fun _ Y=>?_;refine GO 2 ?_;intro _ Y;refine qv Y (fun X a=>aA (v':=ae ((2+11*q.1+10:Nat):Int)) (congrArg _ ab) (cM (Y.ev rfl) (Y.ev rfl) ab)) fun _ Y=>?_;refine iW Y rfl (fun X a=>dS l (2+11*q.1+10) 1 ab f au _) fun _ Y=>?_;refine GO 1 ?_;intro _ Y;refine qv Y (fun X a=>az (zs:=oJ) (pl:=yH) aa aa (Y.evs2 rfl) rfl rfl) fun _ Y=>?_;refine ax ?_;apply eU (k:=19) (deps:=[]) (R:=NewB _ (fun b=>.slice (some ⟨b,0,none⟩) 1 1) _ _) Y rfl rfl rfl NewB.stable (fun X a hΦ=>jm (ec (zc:=oJ) (sz:=4) rfl dT aa aa rfl rfl rfl (Y.evs2 rfl) rfl rfl rfl) a.size);intro Va _ Y;refine aT fun _ Zf Zo=>?_;have Z:=Zt.grow Zf;have A:=aD Zo (k:=19) rfl;obtain⟨Vb,rfl,Zp,A⟩:=A;have Z:=Zt.add Zf (e:=.box _ _ _) A (fun b S=>by cases S;exact⟨Zp,Box.lt A⟩);refine bS (z:=.agg lZ) (sz:=4) (bytes:=32) Y (wn rfl) ⟨rfl,rfl⟩ rfl dT aa rfl rfl (Y.ev rfl) (Y.ev rfl) Z (i:=1) rfl (Z.boxRd (i:=0) rfl) rfl (List.all_eq_true.1 rfl) ⟨ab,by decide⟩ fun M F _ _ Y Z=>?_;refine GO 1 ?_;intro _ Y;refine aS Y (wn rfl) ⟨rfl,rfl⟩ (Y.ev rfl) (Y.ev rfl) rfl aa Z (i:=3) rfl rfl rfl fun _ Z=>GO 9 ?_;intro _ Y;exact⟨(q.1+1,M,F),(by show bn l-(q.1+1)<bn l-q.1;omega),g,Y.re bC,(by show St [] w _ [.row _ _ _ _ ((jW l (q.1+1)).flatMap bW),_,_,_,_];rw[Ef];exact(Z.sub (aB 62)))⟩
     case hB=>kernel_rfl
     case hst=>rfl
   ·
    obtain⟨n1,m,c1⟩:=q
    obtain rfl:n1=bn l:=by have j:=of_decide_eq_false T;have E:n1≤bn l:=Zu;change ¬((n1:Int)<_) at j;omega
    have I:iB l (bn l)=(iB l (bn l)&&jC l 0):=by rw[show jC l 0=true from rfl,Bool.and_true]
    replace Y:=Y.also (t:=8) (v:=.bool (iB l (bn l)&&jC l 0)) (by rw[←I];rfl);refine GO 12 ?_;intro _ Y;refine aV Y Z [7,6,5,4,3,2,0] (fun (q:Nat × Option Addr × Nat)=>[(11,ae (q.1:Nat)),(8,.bool (iB l (bn l)&&jC l q.1))]) (fun (q:Nat × Option Addr × Nat)=>q.1≤eA l) (fun q L=>[.row (.slice m (bn l) c1) (bn l) 116 4 ((jW l (bn l)).flatMap bW),.row (.slice q.2.1 q.1 q.2.2) q.1 124 3 ((lz l q.1).flatMap cN),.box J #[.slice m (bn l) c1,.slice q.2.1 q.1 q.2.2] 25,.box b4 #[.slice none 0 0,.slice none 0 0] 25,.box G #[.slice none 0 0,.slice none 0 0] 25]) (fun (q:Nat × Option Addr × Nat)=>eA l-q.1) ((0,none,0)) (Nat.zero_le _) bC (Z) ?_;intro q _ Zw Zx Y Z;refine GO 8 ?_;intro _ Y;refine ak (Y.ev rfl) (fun O=>?_) (fun O=>?_)
    ·
     have g:q.1<eA l:=by have:=of_decide_eq_true O;omega
     refine GO 7 ?_;intro _ Y;refine sv Y (gT (Y.ev rfl) (Y.ev rfl) ab) fun _ Y=>?_;refine sv Y (aA (v':=ae ((2+11*bn l:Nat):Int)) (congrArg _ ab) (cM (Y.ev rfl) (Y.ev rfl) ab)) fun _ Y=>?_;refine GO 1 ?_;intro _ Y;refine sv Y (gT (Y.ev rfl) (Y.ev rfl) ab) fun _ Y=>?_;refine sv Y (aA (v':=ae ((2+11*bn l+7*q.1:Nat):Int)) (congrArg _ ab) (cM (Y.ev rfl) (Y.ev rfl) ab)) fun _ Y=>?_;refine GO 7 ?_;intro _ Y;apply a8 (x:=decide (gY l (2+11*bn l+7*q.1+2) 1≤1)) Y Z 83 rfl 6 89
     case ht=>
      intro Zg;refine GO 2 ?_;intro _ Y;refine sy Y (aA (v':=ae ((2+11*bn l+7*q.1+2:Nat):Int)) (congrArg _ ab) (cM (Y.ev rfl) (Y.ev rfl) ab)) fun _ Y=>?_;refine cx Y (ao Y _ rfl rfl rfl Zg) (aw a6 (Y.evs rfl) rfl) rfl rfl (dS l (2+11*bn l+7*q.1+2) 1 ab f au _) fun _ Y=>?_;refine GO 2 ?_;intro _ Y;exact ag ⟨Y.midE 5,Z⟩
     case hf=>
      intro Zg;refine GO 6 ?_;intro _ Y;exact ag ⟨Y.midE 5,Z⟩
     case h=>
      rintro V Zy ⟨Zr,Zh⟩
      rw[Bool.and_assoc,←sJ] at Zr;refine GO 3 ?_;intro _ Y;apply aK Y [false,false,false,false,false,false,false,false,false,false,false,false,false,false,false,true] _ aa
      case h=>
       refine GO 4 ?_;intro _ Y;refine iW Y rfl (fun X a=>dS l (2+11*bn l+7*q.1) 2 ab f au _) fun _ Y=>?_;refine GO 2 ?_;intro _ Y;refine qv Y (fun X a=>aA (v':=ae ((2+11*bn l+7*q.1+2:Nat):Int)) (congrArg _ ab) (cM (Y.ev rfl) (Y.ev rfl) ab)) fun _ Y=>?_;refine iW Y rfl (fun X a=>dS l (2+11*bn l+7*q.1+2) 1 ab f au _) fun _ Y=>?_;refine GO 3 ?_;intro _ Y;refine qv Y (fun X a=>aA (v':=ae ((2+11*bn l+7*q.1+3:Nat):Int)) (congrArg _ ab) (cM (Y.ev rfl) (Y.ev rfl) ab)) fun _ Y=>?_;refine iW Y rfl (fun X a=>dS l (2+11*bn l+7*q.1+3) 4 ab f au _) fun _ Y=>?_;refine qv Y (fun X a=>az (zs:=ri) (pl:=fY) aa aa (Y.evs2 rfl) rfl rfl) fun _ Y=>?_;refine ax ?_;apply eU (k:=15) (deps:=[]) (R:=NewB _ (fun b=>.slice (some ⟨b,0,none⟩) 1 1) _ _) Y rfl rfl rfl NewB.stable (fun X a hΦ=>jm (ec (zc:=ri) (sz:=3) rfl iy aa aa rfl rfl rfl (Y.evs2 rfl) rfl rfl rfl) a.size);intro Jv _ Y;refine aT fun _ Zc Zi=>?_;have Z:=Zh.grow Zc;have u:=aD Zi (k:=15) rfl;obtain⟨Jw,rfl,Zj,u⟩:=u;have Z:=Zh.add Zc (e:=.box _ _ _) u (fun b S=>by cases S;exact⟨Zj,Box.lt u⟩);refine bS (z:=.agg oz) (sz:=3) (bytes:=24) Y (wn rfl) ⟨rfl,rfl⟩ rfl iy aa rfl rfl (Y.ev rfl) (Y.ev rfl) Z (i:=2) rfl (Z.boxRd (i:=0) rfl) rfl (List.all_eq_true.1 rfl) ⟨ab,by decide⟩ fun o n _ _ Y Z=>?_;refine GO 1 ?_;intro _ Y;refine aS Y (wn rfl) ⟨rfl,rfl⟩ (Y.ev rfl) (Y.ev rfl) rfl aa Z (i:=3) rfl rfl rfl fun _ Z=>GO 9 ?_;intro _ Y;exact⟨(q.1+1,o,n),(by show eA l-(q.1+1)<eA l-q.1;omega),g,Y.re bC,(by show St [] w _ [_,.row _ _ _ _ ((lz l (q.1+1)).flatMap cN),_,_,_];rw[Cb];exact(Z.sub (aB 62)))⟩
      case hB=>kernel_rfl
      case hst=>rfl
    ·
     obtain⟨n2,s,c2⟩:=q
     obtain rfl:n2=eA l:=by have j:=of_decide_eq_false O;have E:n2≤eA l:=Zx;change ¬((n2:Int)<_) at j;omega
     have eT:(eS l).ts.length=bn l:=by show(jW l (bn l)).length=_;unfold jW;simp
     have eD:(eS l).ds.length=eA l:=by show(lz l (eA l)).length=_;unfold lz;simp
     replace Z:St [] w Zw [.row (.slice m (eS l).ts.length c1) (eS l).ts.length 116 4 ((eS l).ts.flatMap bW),.row (.slice s (eS l).ds.length c2) (eS l).ds.length 124 3 ((eS l).ds.flatMap cN),.box J #[.slice m (eS l).ts.length c1,.slice s (eS l).ds.length c2] 25,.box b4 #[.slice none 0 0,.slice none 0 0] 25,.box G #[.slice none 0 0,.slice none 0 0] 25]:=by
      rw[eT,eD];exact Z
     refine GO 12 ?_;intro _ Y;refine ak (Y.ev rfl) (fun y=>?_) (fun y=>?_)
     ·
      have d:iM l=3:=by
       unfold iM
       rw[if_neg ab,if_neg ab,show(iB l (bn l)&&jC l (eA l))=false by cases q1:(iB l (bn l)&&jC l (eA l)) with
        | false=>rfl
        | true=>rw[q1] at y;cases y];rfl
      have c:dK l=jI:=by unfold dK;rw[if_neg (by rw[d];decide)]
      refine aj (aq ?_);refine sv Y (ah aa aa (Y.ev rfl) (Z.cellsAll (i:=3) rfl)) fun _ Y=>?_;refine sw Y Z 4 fun _ Z=>?_;refine GO 5 ?_;intro _ Y;refine bZ Y rfl rfl rfl Z (i:=4) rfl aa aa ?_;refine⟨(none,0,none,0),by rw[c,d];rfl,?_⟩;rw[c];exact((Z.sub (List.nil_sublist _)).nilRow 124 3).nilRow 116 4
     ·
      have P:(iB l (bn l)&&jC l (eA l))=true:=al y
      have d:iM l=cZ (eS l):=by
       unfold iM;rw[if_neg ab,if_neg ab,P];show(if (0:Int)=0 then (if cZ (eS l)=0 then 0 else cZ (eS l)) else 0)=_;rw[if_pos rfl]
       split<;>omega
      refine wp_skip (ai (aj (aj (aq ?_))));refine sv (v:=cc (eS l) m c1 s c2) Y (ah aa aa (Y.ev rfl) (Z.cellsAll (i:=2) rfl)) fun _ Y=>?_;refine cQ Y rfl Z (lE (eS l) m c1 s c2 _ (Z.rdOf (i:=0) rfl) (Z.rdOf (i:=1) rfl)) fun _ _ Y Z=>?_;refine GO 9 ?_;intro _ Y;refine ak (Y.ev rfl) (fun K=>?_) (fun K=>?_)
      ·
       have hne:iM l≠0:=by rw[d];simpa using K
       have c:dK l=jI:=by unfold dK;rw[if_neg hne]
       refine aj (aq ?_);refine sv Y (ah aa aa (Y.ev rfl) (Z.cellsAll (i:=3) rfl)) fun _ Y=>?_;refine GO 1 ?_;intro _ Y;refine sw Y Z 4 fun _ Z=>?_;refine GO 5 ?_;intro _ Y;refine bZ Y rfl rfl rfl Z (i:=4) rfl aa aa ?_;refine⟨(none,0,none,0),by rw[c,d];rfl,?_⟩;rw[c];exact((Z.sub (List.nil_sublist _)).nilRow 124 3).nilRow 116 4
      ·
       have W:iM l=0:=by rw[d];simpa using K
       have c:dK l=eS l:=by unfold dK;rw[if_pos W]
       refine wp_skip (ai (aj (aq ?_)));refine sv Y (ah aa aa (Y.ev rfl) (Z.cellsAll (i:=2) rfl)) fun _ Y=>?_;refine sw Y Z 4 fun _ Z=>?_;refine GO 4 ?_;intro _ Y;refine bZ Y rfl rfl rfl Z (i:=4) rfl aa aa ?_;refine⟨(m,c1,s,c2),by rw[c,W];rfl,?_⟩;rw[c];exact(Z.sub (aB 3))
end Go.Proofs.YtcfdpfmchchkaaaGreatDoor
