/- Chapter 22 -/
import Derived.Test.YtcfdpfmchchkaaaGreatDoorRcL
namespace Go.Proofs.YtcfdpfmchchkaaaGreatDoor
set_option maxHeartbeats 1000000
set_option maxRecDepth 4000
set_option linter.unusedVariables false
set_option linter.unusedSimpArgs false
open Go.RowKit Go.Sort Go.Shelf
theorem ea {α:Type} {l:List α} {j:Nat} (b:0<j) (a:j<l.length):dv l j=some (l[j-1]'ab):=by
 have:=eX l (j-1) ab
 rwa [show j-1+1=j by omega] at this
theorem Dm (b:Bool):aw [bF true 2,bF b 9]=bF b 9:=by cases b<;>rfl
theorem Cl {p:Option Trn} {x:Trn} (h:(bD x.i 1 9999&&bD x.l 1 2147483647&&bD x.u 0 x.l)=false):lX p x=2:=by unfold lX;rw[h];rfl
theorem um {p:Option Trn} {x:Trn} (h:(bD x.i 1 9999&&bD x.l 1 2147483647&&bD x.u 0 x.l)=true):lX p x=bF (match p with | none=>true | some y=>decide (y.i<x.i)) 9:=by
 unfold lX;rw[h];exact Dm _
theorem Du {p:Option Dty} {x:Dty} (h:(bD x.g 0 600&&bD x.l 1 2147483647)=false):mC p x=2:=by unfold mC;rw[h];rfl
theorem vD {p:Option Dty} {x:Dty} (h:(bD x.g 0 600&&bD x.l 1 2147483647)=true):mC p x=bF (match p with | none=>true | some y=>decide (y.g<x.g)) 9:=by
 unfold mC;rw[h];exact Dm _
theorem lK {α:Type} {f:Nat→α→Int} {l:List α} {j:Nat} (d:j<l.length) (h:∀k (b:k<l.length),k<j→f k l[k]=0) {e:Int} (c:f j l[j]=e) (g:e≠0):(di f 0 l).2=e:=by
 have:=dB f l 0 j d (fun k b a=>by rw[Nat.zero_add];exact h k b a) (by rw[Nat.zero_add,c];exact g);rw[Nat.zero_add,c] at this;rw[this]
def G8:Trn:=⟨0,0,0,false⟩
def G5:Dty:=⟨0,false,0⟩
theorem kO (t:Tbl) (A:Option Addr) (c:Nat) (B:Option Addr) (d:Nat) (w:World) (hr:Rd w w.heap.size A (t.ts.flatMap cc)) (P:Rd w w.heap.size B (t.ds.flatMap cw)) :
 bz 21 #[bW t A c B d] w (ae (dz t)):=by
 obtain⟨E,m⟩:∃E,E=dz t:=⟨_,rfl⟩;rw[←m];unfold dz at m;refine aq (N:=97) Tryz.func21 rfl rfl rfl (fun _ p=>?_);have Z:=St.init w;refine ai (an ?_);refine nb p rfl rfl Z fun b1 _ _ Qb Y Z=>GO 11 ?_;intro _ Y;apply bI Y Z 11 rfl 5 16
 case hf=>
  intro Zp;refine GO 5 ?_;intro _ Y;exact ah ⟨Y.midE 4,Z⟩
 case ht=>
  intro Zp;refine GO 5 ?_;intro _ Y;exact ah ⟨Y.midE 4,Z⟩
 case h=>
  rintro Jz Qc ⟨Zy,T⟩
  refine ah (aj ?_);refine ak (Zy.ev rfl) (fun C=>?_) (fun C=>?_)
  ·
   rw[if_pos (by have:=C;simp at this;omega)] at m;refine GO 7 ?_;intro _ Y;refine aI Y rfl rfl ?_;exact⟨by rw[m],T.below⟩
  ·
   rw[if_neg (by rw[Bool.or_eq_false_iff] at C;simp at C;omega)] at m
   have hn:t.ts.length≤60∧t.ds.length≤60:=by rw[Bool.or_eq_false_iff] at C;simp at C;omega
   refine GO 9 ?_;intro _ Y;refine aY Y T [1] (fun (j:Nat)=>[(3,ae (j:Nat))]) (fun (j:Nat)=>j≤t.ts.length∧∀k (s:k<t.ts.length),k<j→lX (dv t.ts k) t.ts[k]=0) (fun (j:Nat) L=>L) (fun (j:Nat)=>t.ts.length-j) (0) (⟨Nat.zero_le _,fun k _ h=>absurd h (Nat.not_lt_zero _)⟩) bN (T) ?_;intro j _ _ O Y Z;refine GO 10 ?_;intro _ Y;refine ak (Y.ev rfl) (fun Zr=>?_) (fun Zr=>?_)
   ·
    have a:j<t.ts.length:=by have:=of_decide_eq_true Zr;omega
    obtain⟨b,o,rfl,hB,_⟩:=hr.opened (aQ bG au ab);refine GO 9 ?_;intro _ Y;refine sv Y (av (i:=j) (sz:=4) ed aa (Y.ev rfl) (Y.ev rfl) ab ab rfl) fun _ Y=>?_;refine sv (v:=e9 t.ts[j]) Y (ag aa aa (Y.ev rfl) (aZ bG (Z.rd0 hr) a)) fun _ Y=>?_;refine na (.agg lG) Y rfl Z fun b4 _ _ Qd Y Z=>sw Y Z 0 fun _ Z=>?_;refine GO 7 ?_;intro _ Y;refine cU Y rfl (bu _ _ _ _) fun _ Y=>?_;refine GO 2 ?_;intro _ Y;apply bI Y Z 33 rfl 5 38
    case hf=>
     intro Zc;refine GO 2 ?_;intro _ Y;refine ct Y (ao Y _ rfl rfl rfl Zc) (az bc (Y.evs rfl) rfl) rfl rfl (bu _ _ _ _) fun _ Y=>GO 2 ?_;intro _ Y;exact ah ⟨Y.midE 4,Z⟩
    case ht=>
     intro Zc;refine GO 5 ?_;intro _ Y;exact ah ⟨Y.midE 4,Z⟩
    case h=>
     rintro Va Qe ⟨Qf,W⟩
     refine GO 1 ?_;intro _ Y;apply bI Y W 39 rfl 7 46
     case hf=>
      intro Zd;refine GO 4 ?_;intro _ Y;refine ct Y (ao Y _ rfl rfl rfl Zd) (az bc (Y.evs rfl) rfl) rfl rfl (bu _ _ _ _) fun _ Y=>GO 2 ?_;intro _ Y;exact ah ⟨Y.midE 6,W⟩
     case ht=>
      intro Zd;refine GO 7 ?_;intro _ Y;exact ah ⟨Y.midE 6,W⟩
     case h=>
      rintro Vb Qg ⟨Zw,R⟩
      refine ah (aj ?_);refine ak (Zw.ev rfl) (fun H=>?_) (fun H=>?_)
      ·
       have r:(bD t.ts[j].i 1 9999&&bD t.ts[j].l 1 2147483647&&bD t.ts[j].u 0 t.ts[j].l)=false:=by
        cases q1:bD t.ts[j].i 1 9999<;>cases q2:bD t.ts[j].l 1 2147483647<;>cases q3:bD t.ts[j].u 0 t.ts[j].l<;>rw[q1,q2,q3] at H<;>first | rfl | (simp at H)
       have z:(kU t.ts).2=2:=lK (f:=fun i x=>lX (dv t.ts i) x) a O.2 (Cl r) au;rw[z,if_pos au] at m;refine GO 12 ?_;intro _ Y;refine aI Y rfl rfl ?_;exact⟨by rw[m],R.below⟩
      ·
       have e:(bD t.ts[j].i 1 9999&&bD t.ts[j].l 1 2147483647&&bD t.ts[j].u 0 t.ts[j].l)=true:=by
        cases q1:bD t.ts[j].i 1 9999<;>cases q2:bD t.ts[j].l 1 2147483647<;>cases q3:bD t.ts[j].u 0 t.ts[j].l<;>rw[q1,q2,q3] at H<;>first | rfl | (simp at H)
       refine wp_skip (aj (ai ?_));apply aK Zw (fA 13) _ aa
       case h=>
        refine GO 3 ?_;intro _ Y;apply mV Y 49 rfl 10 59
        case ht=>
         intro Zf
         have n:0<j:=by have:=of_decide_eq_true Zf;omega
         refine GO 6 ?_;intro _ Y;refine qy Y (fun X y=>(av (i:=j-1) (sz:=4) ed aa (Y.ev rfl) (Y.ev rfl) ab ab rfl)) fun _ Y=>?_;refine qy Y (fun X y=>(fy 0 (Y.ev rfl))) fun _ Y=>?_;refine qy Y (fun X y=>(lx (Y.ev rfl) ((aZ bG ((R.grow y).rd0 hr) (show j-1<t.ts.length by omega)) 0 _ rfl))) fun _ Y=>?_;refine qy Y (fun X y=>(aA (v':=.bool (decide (t.ts[j].i≤((dv t.ts j).getD G8).i))) (by rw[ea n a,Option.getD_some]) (mU (Y.ev rfl) (Y.ev rfl)))) fun _ Y=>?_;exact ax (Y.midE 9)
        case hf=>
         intro Zf;refine GO 10 ?_;intro _ Y;exact ax ⟨_,Y.midE 9⟩
        case h=>
         intro Vc _ I Y;refine ax ?_;refine aV fun _ Zu Zz=>?_;have Z:=R.grow Zu;refine sv Y (eO (Y.ev rfl) (Y.ev rfl) I (Y.ev rfl)) fun _ Y=>?_;refine ah (aj ?_);refine ak (Y.ev rfl) (fun K=>?_) (fun K=>?_)
         ·
          have z:(kU t.ts).2=9:=by
           obtain⟨u1,F⟩:=Bool.and_eq_true_iff.1 K
           have n:0<j:=by have:=of_decide_eq_true u1;omega
           refine lK (f:=fun i x=>lX (dv t.ts i) x) a O.2 ?_ au;rw[um e];rw[ea n a] at F ⊢;have:=of_decide_eq_true F;show bF (decide (t.ts[j-1].i<t.ts[j].i)) 9=9;rw[decide_eq_false (by change t.ts[j].i≤t.ts[j-1].i at this;omega)];rfl
          rw[z,if_pos au] at m;refine GO 11 ?_;intro _ Y;refine aI Y rfl rfl ?_;exact⟨by rw[m],Z.below⟩
         ·
          have V:lX (dv t.ts j) t.ts[j]=0:=by
           rw[um e];rcases Nat.eq_zero_or_pos j with p | p
           · subst p;rfl
           · rw[decide_eq_true (by omega:(j:Int)>0),Bool.true_and,ea p a] at K
             have:=of_decide_eq_false K;rw[ea p a];show bF (decide (t.ts[j-1].i<t.ts[j].i)) 9=0;rw[decide_eq_true (by change ¬t.ts[j].i≤t.ts[j-1].i at this;omega)];rfl
          refine GO 9 ?_;intro _ Y;exact⟨j+1,ab,⟨a,fun k s U=>by rcases Nat.lt_or_eq_of_le (show k≤j by omega) with q | q;exact O.2 k s q;subst q;exact V⟩,Y.re bN,(Z.sub (aL 2))⟩
       case hB=>kernel_rfl
       case hst=>rfl
   ·
    have Jv:t.ts.length≤j:=by have:=of_decide_eq_false Zr;omega
    have Jw:(kU t.ts).2=0:=(cY _ _).2 fun k s=>O.2 k s ab;rw[if_neg (fun h=>h Jw)] at m;refine GO 12 ?_;intro _ Y;refine aY Y Z [1] (fun (j:Nat)=>[(5,ae (j:Nat))]) (fun (j:Nat)=>j≤t.ds.length∧∀k (s:k<t.ds.length),k<j→mC (dv t.ds k) t.ds[k]=0) (fun (j:Nat) L=>L) (fun (j:Nat)=>t.ds.length-j) (0) (⟨Nat.zero_le _,fun k _ h=>absurd h (Nat.not_lt_zero _)⟩) bN (Z) ?_;intro j _ _ M Y Z;refine GO 10 ?_;intro _ Y;refine ak (Y.ev rfl) (fun S=>?_) (fun S=>?_)
    ·
     have a:j<t.ds.length:=by have:=of_decide_eq_true S;omega
     obtain⟨b,o,rfl,hB,_⟩:=P.opened (aQ bU au ab);refine GO 9 ?_;intro _ Y;refine sv Y (av (i:=j) (sz:=3) eP aa (Y.ev rfl) (Y.ev rfl) ab ab rfl) fun _ Y=>?_;refine sv (v:=fV t.ds[j]) Y (ag aa aa (Y.ev rfl) (aZ bU (Z.rd0 P) a)) fun _ Y=>?_;refine na (.agg ln) Y rfl Z fun b6 _ _ Qh Y Z=>sw Y Z 0 fun _ Z=>?_;refine GO 7 ?_;intro _ Y;refine cU Y rfl (bu _ _ _ _) fun _ Y=>?_;refine GO 2 ?_;intro _ Y;apply bI Y Z 77 rfl 5 82
     case hf=>
      intro Zg;refine GO 2 ?_;intro _ Y;refine ct Y (ao Y _ rfl rfl rfl Zg) (az bc (Y.evs rfl) rfl) rfl rfl (bu _ _ _ _) fun _ Y=>GO 2 ?_;intro _ Y;exact ah ⟨Y.midE 4,Z⟩
     case ht=>
      intro Zg;refine GO 5 ?_;intro _ Y;exact ah ⟨Y.midE 4,Z⟩
     case h=>
      rintro Jx Qa ⟨Zh,Za⟩
      refine ah (aj ?_);refine ak (Zh.ev rfl) (fun G=>?_) (fun G=>?_)
      ·
       have r:(bD t.ds[j].g 0 600&&bD t.ds[j].l 1 2147483647)=false:=by
        cases q1:bD t.ds[j].g 0 600<;>cases q2:bD t.ds[j].l 1 2147483647<;>rw[q1,q2] at G<;>first | rfl | (simp at G)
       have z:(vP t.ds).2=2:=lK (f:=fun i x=>mC (dv t.ds i) x) a M.2 (Du r) au;rw[z] at m;refine GO 12 ?_;intro _ Y;refine aI Y rfl rfl ?_;exact⟨by rw[m],Za.below⟩
      ·
       have e:(bD t.ds[j].g 0 600&&bD t.ds[j].l 1 2147483647)=true:=by
        cases q1:bD t.ds[j].g 0 600<;>cases q2:bD t.ds[j].l 1 2147483647<;>rw[q1,q2] at G<;>first | rfl | (simp at G)
       refine wp_skip (aj (ai ?_));apply aK Zh (fA 13) _ aa
       case h=>
        refine GO 3 ?_;intro _ Y;apply mV Y 85 rfl 10 95
        case ht=>
         intro Zj
         have n:0<j:=by have:=of_decide_eq_true Zj;omega
         refine GO 6 ?_;intro _ Y;refine qy Y (fun X y=>(av (i:=j-1) (sz:=3) eP aa (Y.ev rfl) (Y.ev rfl) ab ab rfl)) fun _ Y=>?_;refine qy Y (fun X y=>(fy 0 (Y.ev rfl))) fun _ Y=>?_;refine qy Y (fun X y=>(lx (Y.ev rfl) ((aZ bU ((Za.grow y).rd0 P) (show j-1<t.ds.length by omega)) 0 _ rfl))) fun _ Y=>?_;refine qy Y (fun X y=>(aA (v':=.bool (decide (t.ds[j].g≤((dv t.ds j).getD G5).g))) (by rw[ea n a,Option.getD_some]) (mU (Y.ev rfl) (Y.ev rfl)))) fun _ Y=>?_;exact ax (Y.midE 9)
        case hf=>
         intro Zj;refine GO 10 ?_;intro _ Y;exact ax ⟨_,Y.midE 9⟩
        case h=>
         intro Jy _ D Y;refine ax ?_;refine aV fun _ Zk Zx=>?_;have Z:=Za.grow Zk;refine sv Y (eO (Y.ev rfl) (Y.ev rfl) D (Y.ev rfl)) fun _ Y=>?_;refine ah (aj ?_);refine ak (Y.ev rfl) (fun J=>?_) (fun J=>?_)
         ·
          have z:(vP t.ds).2=9:=by
           obtain⟨u1,F⟩:=Bool.and_eq_true_iff.1 J
           have n:0<j:=by have:=of_decide_eq_true u1;omega
           refine lK (f:=fun i x=>mC (dv t.ds i) x) a M.2 ?_ au;rw[vD e];rw[ea n a] at F ⊢;have:=of_decide_eq_true F;show bF (decide (t.ds[j-1].g<t.ds[j].g)) 9=9;rw[decide_eq_false (by change t.ds[j].g≤t.ds[j-1].g at this;omega)];rfl
          rw[z] at m;refine GO 11 ?_;intro _ Y;refine aI Y rfl rfl ?_;exact⟨by rw[m],Z.below⟩
         ·
          have V:mC (dv t.ds j) t.ds[j]=0:=by
           rw[vD e];rcases Nat.eq_zero_or_pos j with p | p
           · subst p;rfl
           · rw[decide_eq_true (by omega:(j:Int)>0),Bool.true_and,ea p a] at J
             have:=of_decide_eq_false J;rw[ea p a];show bF (decide (t.ds[j-1].g<t.ds[j].g)) 9=0;rw[decide_eq_true (by change ¬t.ds[j].g≤t.ds[j-1].g at this;omega)];rfl
          refine GO 9 ?_;intro _ Y;exact⟨j+1,ab,⟨a,fun k s U=>by rcases Nat.lt_or_eq_of_le (show k≤j by omega) with q | q;exact M.2 k s q;subst q;exact V⟩,Y.re bN,(Z.sub (aL 2))⟩
       case hB=>kernel_rfl
       case hst=>rfl
    ·
     have Jv:t.ds.length≤j:=by have:=of_decide_eq_false S;omega
     have Q:(vP t.ds).2=0:=(cY _ _).2 fun k s=>M.2 k s ab;rw[Q] at m;refine GO 11 ?_;intro _ Y;refine aI Y rfl rfl ?_;exact⟨by rw[m],Z.below⟩
theorem E3 (x:Trn):jO [ae x.i,ae x.l,ae x.u,.bool x.c] [ae x.i,ae x.l,ae x.u,.bool x.c]=true:=by simp[jO,s7]
theorem Es (x:Dty):jO [ae x.g,.bool x.f,ae x.l] [ae x.g,.bool x.f,ae x.l]=true:=by simp[jO,s7]
theorem xd (t:Tbl) (A:Option Addr) (c:Nat) (B:Option Addr) (d:Nat) (p:Option Addr) (E:Nat) (r:Option Addr) (d':Nat) (w:World) (hr:Rd w w.heap.size A (t.ts.flatMap cc)) (q:Rd w w.heap.size B (t.ds.flatMap cw)) (g:Rd w w.heap.size p (t.ts.flatMap cc)) (f:Rd w w.heap.size r (t.ds.flatMap cw)) (J:t.ts.length≤100000∧t.ds.length≤100000) :
 bz 20 #[bW t A c B d,bW t p E r d'] w (.bool true):=by
 refine aq (N:=59) Tryz.func20 rfl rfl rfl (fun _ Y=>?_);have Z:=St.init w;refine ai (an ?_);refine nb Y rfl rfl Z fun I _ _ H Y Z=>nb Y rfl rfl Z fun K _ _ O Y Z=>GO 14 ?_;intro _ Y;apply bI Y Z 14 rfl 8 22
 case hf=>
  intro D;refine GO 8 ?_;intro _ Y;exact ah ⟨Y.midE 7,Z⟩
 case ht=>
  intro D;refine GO 8 ?_;intro _ Y;exact ah ⟨Y.midE 7,Z⟩
 case h=>
  rintro z Q ⟨C,s⟩
  refine ah (aj ?_);refine jm (C.ev rfl) (bm) ?_;refine GO 9 ?_;intro _ Y;refine aY Y s [3,2] (fun (j:Nat)=>[(5,ae (j:Nat))]) (fun (j:Nat)=>j≤t.ts.length) (fun (j:Nat) L=>L) (fun (j:Nat)=>t.ts.length-j) (0) (Nat.zero_le _) bN (s) ?_;intro j _ _ G Y Z;refine GO 10 ?_;intro _ Y;refine ak (Y.ev rfl) (fun k=>?_) (fun k=>?_)
  ·
   have a:j<t.ts.length:=by have:=of_decide_eq_true k;omega
   obtain⟨b,o,rfl,hB,_⟩:=hr.opened (aQ bG au ab);obtain⟨u,o',rfl,n,_⟩:=g.opened (aQ bG au ab);refine wp_skip (aj (ai (wp_block (ai ?_))));apply aK Y (fA 10) _ aa
   case h=>
    refine GO 3 ?_;intro _ Y;refine qv Y (fun X e=>av (i:=j) (sz:=4) ed aa (Y.ev rfl) (Y.ev rfl) ab ab rfl) fun _ Y=>?_;refine qv (v:=e9 t.ts[j]) Y (fun X e=>ag aa aa (Y.ev rfl) (aZ bG ((Z.grow e).rd0 hr) a)) fun _ Y=>?_;refine GO 3 ?_;intro _ Y;refine qv Y (fun X e=>av (i:=j) (sz:=4) ed aa (Y.ev rfl) (Y.ev rfl) ab ab rfl) fun _ Y=>?_;refine qv (v:=e9 t.ts[j]) Y (fun X e=>ag aa aa (Y.ev rfl) (aZ bG ((Z.grow e).rd0 g) a)) fun _ Y=>?_;refine ax ?_;refine aV fun _ y F=>?_;have Z:=Z.grow y;refine sv Y (h7 (ks:=[.i .i64,.i .i64,.i .i64,.b]) aa sT aa (Y.ev rfl) (Y.ev rfl) rfl rfl) fun _ Y=>?_;refine ah (aj ?_);refine jm (Y.ev rfl) ((by rw[E3];rfl)) ?_;refine GO 9 ?_;intro _ Y;exact⟨j+1,ab,a,Y.re bN,Z⟩
   case hB=>kernel_rfl
   case hst=>rfl
  ·
   have m:t.ts.length≤j:=by have:=of_decide_eq_false k;omega
   refine GO 12 ?_;intro _ Y;refine aY Y Z [3,2] (fun (j:Nat)=>[(6,ae (j:Nat))]) (fun (j:Nat)=>j≤t.ds.length) (fun (j:Nat) L=>L) (fun (j:Nat)=>t.ds.length-j) (0) (Nat.zero_le _) bN (Z) ?_;intro j _ _ P Y Z;refine GO 10 ?_;intro _ Y;refine ak (Y.ev rfl) (fun l=>?_) (fun l=>?_)
   ·
    have a:j<t.ds.length:=by have:=of_decide_eq_true l;omega
    obtain⟨b,o,rfl,hB,_⟩:=q.opened (aQ bU au ab);obtain⟨u,o',rfl,n,_⟩:=f.opened (aQ bU au ab);refine wp_skip (aj (ai (wp_block (ai ?_))));apply aK Y (fA 10) _ aa
    case h=>
     refine GO 3 ?_;intro _ Y;refine qv Y (fun X e=>av (i:=j) (sz:=3) eP aa (Y.ev rfl) (Y.ev rfl) ab ab rfl) fun _ Y=>?_;refine qv (v:=fV t.ds[j]) Y (fun X e=>ag aa aa (Y.ev rfl) (aZ bU ((Z.grow e).rd0 q) a)) fun _ Y=>?_;refine GO 3 ?_;intro _ Y;refine qv Y (fun X e=>av (i:=j) (sz:=3) eP aa (Y.ev rfl) (Y.ev rfl) ab ab rfl) fun _ Y=>?_;refine qv (v:=fV t.ds[j]) Y (fun X e=>ag aa aa (Y.ev rfl) (aZ bU ((Z.grow e).rd0 f) a)) fun _ Y=>?_;refine ax ?_;refine aV fun _ x M=>?_;have Z:=Z.grow x;refine sv Y (h7 (ks:=[.i .i64,.b,.i .i64]) aa Tryz.underlying124 aa (Y.ev rfl) (Y.ev rfl) rfl rfl) fun _ Y=>?_;refine ah (aj ?_);refine jm (Y.ev rfl) ((by rw[Es];rfl)) ?_;refine GO 9 ?_;intro _ Y;exact⟨j+1,ab,a,Y.re bN,Z⟩
    case hB=>kernel_rfl
    case hst=>rfl
   ·
    have m:t.ds.length≤j:=by have:=of_decide_eq_false l;omega
    refine GO 11 ?_;intro _ Y;refine aI Y rfl rfl ?_;exact⟨rfl,Z.below⟩
open Go.RowKit Go.Sort Go.Shelf
theorem dD (s:List UInt8) (a c:Nat) (d:a+c≤s.length) (e:s.length≤100000) (b:c≤6) (w:World) :
 fZ 73 #[.string (bs s),ae a,ae c] w (ae (fw s a c)):=by
 have h:=lY (bs s) a c (by rw[bq];exact d) (by rw[bq];unfold maxLen;omega) b w;rw[jJ] at h;exact h
theorem Fp (a b:List UInt8):bs a ++ bs b=bs (a ++ b):=dU (by rw[cH,jJ,jJ,jJ])
theorem tW (b:Bool) (w:World):fZ 76 #[.bool b] w (ae (ir b)):=xN b w
def G7 (t:Tbl):List UInt8:=lit t.ts.length 1 ++ lit t.ds.length 1
def wg (t:Tbl) (j:Nat):List UInt8:=G7 t ++ (t.ts.take j).flatMap kJ
def zd (t:Tbl) (j:Nat):List UInt8:=wg t t.ts.length ++ (t.ds.take j).flatMap kL
theorem EJ (t:Tbl):(G7 t).length=2:=by unfold G7;rw[List.length_append,aB,aB]
theorem xY (t:Tbl) (j:Nat):(wg t j).length≤2+11*t.ts.length:=by
 unfold wg;rw[List.length_append,EJ,kC lT,List.length_take];have:=Nat.min_le_right j t.ts.length;omega
theorem En (t:Tbl) (j:Nat):(zd t j).length≤2+11*t.ts.length+7*t.ds.length:=by
 unfold zd;rw[List.length_append,kC l7,List.length_take];have:=xY t t.ts.length;have:=Nat.min_le_right j t.ds.length;omega
theorem GG (t:Tbl):wg t 0=G7 t:=by unfold wg;simp
theorem GM (t:Tbl):zd t 0=wg t t.ts.length:=by unfold zd;simp
theorem Dj (t:Tbl) {j:Nat} (h:j<t.ts.length):wg t (j+1)=wg t j ++ lit t.ts[j].i 2 ++ lit t.ts[j].l 4 ++ lit t.ts[j].u 4 ++ lit (ir t.ts[j].c) 1:=by
 unfold wg;rw[List.take_succ_eq_append_getElem h,List.flatMap_append,List.flatMap_singleton];unfold kJ;simp only[List.append_assoc]
theorem B7 (t:Tbl) {j:Nat} (h:j<t.ds.length):zd t (j+1)=zd t j ++ lit t.ds[j].g 2 ++ lit (ir t.ds[j].f) 1 ++ lit t.ds[j].l 4:=by
 unfold zd;rw[List.take_succ_eq_append_getElem h,List.flatMap_append,List.flatMap_singleton];unfold kL;simp only[List.append_assoc]
theorem ER (t:Tbl):zd t t.ds.length=jx t:=by
 unfold zd wg jx G7;rw[List.take_length,List.take_length];simp only[List.append_assoc]
theorem oA (t:Tbl) (A:Option Addr) (c:Nat) (B:Option Addr) (d:Nat) (w:World) (ht:TblOk t) (hr:Rd w w.heap.size A (t.ts.flatMap cc)) (x:Rd w w.heap.size B (t.ds.flatMap cw)) :
 bz 22 #[bW t A c B d] w (.string (bs (jx t))):=by
 have R:=ht.n;have hm:=ht.m;have y:=xY t;have C:=En t;refine aq (N:=74) Tryz.func22 rfl rfl rfl (fun _ Y=>?_);have Z:=St.init w;refine ai (an ?_);refine nb Y rfl rfl Z fun b1 _ _ T Y Z=>GO 4 ?_;intro _ Y;apply aK Y (fA 7) _ aa
 case h=>
  refine GO 3 ?_;intro _ Y;refine jM Y rfl (fun X e=>bA t.ts.length 1 ab ab au _) fun _ Y=>?_;refine GO 4 ?_;intro _ Y;refine aV fun _ F Q=>?_;have Z:=Z.grow F;refine cN Y rfl Z (bA t.ds.length 1 ab ab au _) fun _ _ Y Z=>?_;refine sv Y (aA (v':=.string (bs (wg t 0))) (congrArg _ (by rw[Fp,GG];rfl)) (dH (Y.ev rfl) (Y.ev rfl) (by rw[bq,bq,aB,aB];decide))) fun _ Y=>?_;refine GO 10 ?_;intro _ Y;refine aY Y Z [2,1] (fun (j:Nat)=>[(4,ae (j:Nat)),(3,.string (bs (wg t j)))]) (fun (j:Nat)=>j≤t.ts.length) (fun (j:Nat) L=>L) (fun (j:Nat)=>t.ts.length-j) (0) (Nat.zero_le _) bN (Z) ?_;intro j _ _ O Y Z;refine GO 10 ?_;intro _ Y;refine ak (Y.ev rfl) (fun p=>?_) (fun p=>?_)
  ·
   have a:j<t.ts.length:=by have:=of_decide_eq_true p;omega
   obtain⟨b,o,rfl,hB,_⟩:=hr.opened (aQ bG au ab);have k:=ht.ts j a;have K:=k.i;have r:=k.l;have hu:=k.u;have H:=oO t.ts[j].c;have D:=y j;refine GO 9 ?_;intro _ Y;refine sv Y (av (i:=j) (sz:=4) ed aa (Y.ev rfl) (Y.ev rfl) ab ab rfl) fun _ Y=>?_;refine sv (v:=e9 t.ts[j]) Y (ag aa aa (Y.ev rfl) (aZ bG (Z.rd0 hr) a)) fun _ Y=>?_;refine na (.agg lG) Y rfl Z fun J _ _ U Y Z=>sw Y Z 0 fun _ Z=>?_;refine ah (aj ?_);apply aK Y (fA 17) _ aa
   case h=>
    refine GO 3 ?_;intro _ Y;refine jM Y rfl (fun X e=>bA t.ts[j].i 2 ab ab au _) fun _ Y=>?_;refine qv Y (fun X e=>aA (v':=.string (bs (wg t j ++ lit t.ts[j].i 2))) (congrArg _ (Fp _ _)) (dH (Y.ev rfl) (Y.ev rfl) (by rw[bq,bq,aB];omega))) fun _ Y=>?_;refine GO 2 ?_;intro _ Y;refine jM Y rfl (fun X e=>bA t.ts[j].l 4 ab ab au _) fun _ Y=>?_;refine qv Y (fun X e=>aA (v':=.string (bs (wg t j ++ lit t.ts[j].i 2 ++ lit t.ts[j].l 4))) (congrArg _ (Fp _ _)) (dH (Y.ev rfl) (Y.ev rfl) (by rw[bq,bq,aB,List.length_append,aB];omega))) fun _ Y=>?_;refine GO 2 ?_;intro _ Y;refine jM Y rfl (fun X e=>bA t.ts[j].u 4 ab ab au _) fun _ Y=>?_;refine qv Y (fun X e=>aA (v':=.string (bs (wg t j ++ lit t.ts[j].i 2 ++ lit t.ts[j].l 4 ++ lit t.ts[j].u 4))) (congrArg _ (Fp _ _)) (dH (Y.ev rfl) (Y.ev rfl) (by rw[bq,bq];simp only[List.length_append,aB];omega))) fun _ Y=>?_;refine GO 2 ?_;intro _ Y;refine gp Y rfl (fun X e=>tW _ _) fun _ Y=>?_;refine jM Y rfl (fun X e=>bA (ir t.ts[j].c) 1 ab ab au _) fun _ Y=>?_;refine ax ?_;refine aV fun _ E S=>?_;have Z:=Z.grow E;refine sv Y (aA (v':=.string (bs (wg t (j+1)))) (congrArg _ (by rw[Fp,Dj t a])) (dH (Y.ev rfl) (Y.ev rfl) (by rw[bq,bq];simp only[List.length_append,aB];omega))) fun _ Y=>?_;refine GO 10 ?_;intro _ Y;exact⟨j+1,ab,a,Y.re bN,(Z.sub (aL 2))⟩
   case hB=>kernel_rfl
   case hst=>rfl
  ·
   have s:t.ts.length≤j:=by have:=of_decide_eq_false p;omega
   obtain rfl:j=t.ts.length:=by omega
   rw[←GM] at Y;refine GO 12 ?_;intro _ Y;refine aY Y Z [2,1] (fun (j:Nat)=>[(6,ae (j:Nat)),(3,.string (bs (zd t j)))]) (fun (j:Nat)=>j≤t.ds.length) (fun (j:Nat) L=>L) (fun (j:Nat)=>t.ds.length-j) (0) (Nat.zero_le _) bN (Z) ?_;intro j _ _ V Y Z;refine GO 10 ?_;intro _ Y;refine ak (Y.ev rfl) (fun q=>?_) (fun q=>?_)
   ·
    have a:j<t.ds.length:=by have:=of_decide_eq_true q;omega
    obtain⟨b,o,rfl,hB,_⟩:=x.opened (aQ bU au ab);have k:=ht.ds j a;have W:=k.g;have r:=k.l;have H:=oO t.ds[j].f;have G:=C j;refine GO 9 ?_;intro _ Y;refine sv Y (av (i:=j) (sz:=3) eP aa (Y.ev rfl) (Y.ev rfl) ab ab rfl) fun _ Y=>?_;refine sv (v:=fV t.ds[j]) Y (ag aa aa (Y.ev rfl) (aZ bU (Z.rd0 x) a)) fun _ Y=>?_;refine na (.agg ln) Y rfl Z fun P _ _ M Y Z=>sw Y Z 0 fun _ Z=>?_;refine ah (aj ?_);apply aK Y (fA 13) _ aa
    case h=>
     refine GO 3 ?_;intro _ Y;refine jM Y rfl (fun X e=>bA t.ds[j].g 2 ab ab au _) fun _ Y=>?_;refine qv Y (fun X e=>aA (v':=.string (bs (zd t j ++ lit t.ds[j].g 2))) (congrArg _ (Fp _ _)) (dH (Y.ev rfl) (Y.ev rfl) (by rw[bq,bq,aB];omega))) fun _ Y=>?_;refine GO 2 ?_;intro _ Y;refine gp Y rfl (fun X e=>tW _ _) fun _ Y=>?_;refine jM Y rfl (fun X e=>bA (ir t.ds[j].f) 1 ab ab au _) fun _ Y=>?_;refine qv Y (fun X e=>aA (v':=.string (bs (zd t j ++ lit t.ds[j].g 2 ++ lit (ir t.ds[j].f) 1))) (congrArg _ (Fp _ _)) (dH (Y.ev rfl) (Y.ev rfl) (by rw[bq,bq,aB,List.length_append,aB];omega))) fun _ Y=>?_;refine GO 2 ?_;intro _ Y;refine jM Y rfl (fun X e=>bA t.ds[j].l 4 ab ab au _) fun _ Y=>?_;refine ax ?_;refine aV fun _ z I=>?_;have Z:=Z.grow z;refine sv Y (aA (v':=.string (bs (zd t (j+1)))) (congrArg _ (by rw[Fp,B7 t a])) (dH (Y.ev rfl) (Y.ev rfl) (by rw[bq,bq];simp only[List.length_append,aB];omega))) fun _ Y=>?_;refine GO 10 ?_;intro _ Y;exact⟨j+1,ab,a,Y.re bN,(Z.sub (aL 2))⟩
    case hB=>kernel_rfl
    case hst=>rfl
   ·
    have s:t.ds.length≤j:=by have:=of_decide_eq_false q;omega
    obtain rfl:j=t.ds.length:=by omega
    refine GO 12 ?_;intro _ Y;refine aI Y rfl rfl ?_;exact⟨by rw[ER],Z.below⟩
 case hB=>kernel_rfl
 case hst=>rfl
open Go.RowKit Go.Sort Go.Shelf
theorem Dq {l:List UInt8} (k:Nat):(iO l (k+1)).flatMap cc=(iO l k).flatMap cc ++ [ae (fw l (2+11*k) 2),ae (fw l (2+11*k+2) 4),ae (fw l (2+11*k+6) 4),.bool (fw l (2+11*k+10) 1==1)]:=by
 rw[se,List.flatMap_append];rfl
theorem Da {l:List UInt8} (k:Nat):(kd l (k+1)).flatMap cw=(kd l k).flatMap cw ++ [ae (fw l (2+11*bh l+7*k) 2),.bool (fw l (2+11*bh l+7*k+2) 1==1),ae (fw l (2+11*bh l+7*k+3) 4)]:=by
 rw[sM,List.flatMap_append];rfl
theorem tH (l:List UInt8) (w:World) (f:l.length≤100000) :
 Calls Tryz.prog 19 #[.string (bs l)] w fun e w'=>∃i:Option Addr × Nat × Option Addr × Nat,e=.returned (.tuple #[bW (dg l) i.1 i.2.1 i.2.2.1 i.2.2.2,ae (gE l)]) ∧
  St [] w w' [.row (.slice i.1 (dg l).ts.length i.2.1) (dg l).ts.length 116 4 ((dg l).ts.flatMap cc),.row (.slice i.2.2.1 (dg l).ds.length i.2.2.2) (dg l).ds.length 124 3 ((dg l).ds.flatMap cw)]:=by
 have o:(bs l).size=l.length:=bq l;have H:=A5 l 0 1;have D:=A5 l 1 1
 have T:((bh l:Nat):Int)=fw l 0 1:=by unfold bh;omega
 have M:((dP l:Nat):Int)=fw l 1 1:=by unfold dP;omega
 have Jz:bh l<256:=by have:=H.2;omega
 have Jy:dP l<256:=by have:=D.2;omega
 refine aq (N:=118) Tryz.func19 rfl rfl rfl (fun _ Y=>?_);have Z:=St.init w;refine ai (an ?_);refine na (.agg fX) Y rfl Z fun I _ _ Zz Y Z=>GO 5 ?_;intro _ Y;refine sv Y (ay (zs:=l5) (pl:=kT) aa aa (Y.evs2 rfl) rfl rfl) fun _ Y=>?_;refine na (.agg fX) Y rfl Z fun b4 _ _ Qa Y Z=>sw Y Z 0 fun _ Z=>?_;refine GO 10 ?_;intro _ j;refine ak (j.ev rfl) (fun Q=>?_) (fun Q=>?_)
 ·
  have d:gE l=10:=by unfold gE;rw[if_pos (by have:=of_decide_eq_true Q;omega)]
  have c:dg l=iu:=by unfold dg;rw[if_neg (by rw[d];decide)]
  refine ai (an ?_);refine sv j (ag aa aa (j.ev rfl) (Z.cellsAll (i:=0) rfl)) fun _ U=>?_;refine sw U Z 1 fun _ Z=>?_;refine GO 5 ?_;intro _ Y;refine br Y rfl rfl rfl Z (i:=1) rfl aa aa ?_;refine⟨(none,0,none,0),by rw[c,d];rfl,?_⟩;rw[c];exact((Z.sub (List.nil_sublist _)).nilRow 124 3).nilRow 116 4
 ·
  have Y:2≤l.length:=by have:=of_decide_eq_false Q;omega
  refine GO 5 ?_;intro _ Y;refine cU Y rfl (dD l 0 1 ab f au _) fun _ Y=>?_;rw[←T] at Y;refine GO 1 ?_;intro _ Y;refine cU Y rfl (dD l 1 1 ab f au _) fun _ Y=>?_;rw[←M] at Y;refine GO 10 ?_;intro _ Y;refine sv Y (gg (Y.ev rfl) (Y.ev rfl) ab) fun _ Y=>?_;refine GO 2 ?_;intro _ Y;refine sv Y (gg (Y.ev rfl) (Y.ev rfl) ab) fun _ Y=>?_;refine GO 4 ?_;intro _ A;refine ak (A.ev rfl) (fun p=>?_) (fun p=>?_)
  ·
   have d:gE l=10:=by
    unfold gE;rw[if_neg ab,if_pos];intro q;rw[o,q] at p;simp at p
   have c:dg l=iu:=by unfold dg;rw[if_neg (by rw[d];decide)]
   refine ai (an ?_);refine sv A (ag aa aa (A.ev rfl) (Z.cellsAll (i:=0) rfl)) fun _ Y=>?_;refine sw Y Z 1 fun _ Z=>?_;refine GO 5 ?_;intro _ Y;refine br Y rfl rfl rfl Z (i:=1) rfl aa aa ?_;refine⟨(none,0,none,0),by rw[c,d];rfl,?_⟩;rw[c];exact((Z.sub (List.nil_sublist _)).nilRow 124 3).nilRow 116 4
  ·
   have Y:l.length=2+11*bh l+7*dP l:=by
    rw[o] at p;simp at p;omega
   refine wp_skip (aj (ai (an ?_)));refine na (.agg fX) A rfl Z fun F _ _ Qb Y Z=>?_;replace Z:=St.nilRow (St.nilRow Z 124 3) 116 4;refine GO 14 ?_;intro _ Y;refine aY Y Z [7,6,5,4,3,2,0] (fun (q:Nat × Option Addr × Nat)=>[(9,ae (q.1:Nat)),(8,.bool (gx l q.1))]) (fun (q:Nat × Option Addr × Nat)=>q.1≤bh l) (fun q L=>[.row (.slice q.2.1 q.1 q.2.2) q.1 116 4 ((iO l q.1).flatMap cc),.row (.slice none 0 0) 0 124 3 [],.box F #[.slice q.2.1 q.1 q.2.2,.slice none 0 0] 25,.box b4 #[.slice none 0 0,.slice none 0 0] 25,.box I #[.slice none 0 0,.slice none 0 0] 25]) (fun (q:Nat × Option Addr × Nat)=>bh l-q.1) ((0,none,0)) (Nat.zero_le _) bN (Z) ?_;intro q _ _ Zu Y Z;refine GO 8 ?_;intro _ Y;refine ak (Y.ev rfl) (fun S=>?_) (fun S=>?_)
   ·
    have m:q.1<bh l:=by have:=of_decide_eq_true S;omega
    refine GO 7 ?_;intro _ Y;refine sv Y (gg (Y.ev rfl) (Y.ev rfl) ab) fun _ Y=>?_;refine sv Y (aA (v':=ae ((2+11*q.1:Nat):Int)) (congrArg _ ab) (cy (Y.ev rfl) (Y.ev rfl) ab)) fun _ Y=>?_;refine GO 7 ?_;intro _ Y;apply bo (x:=decide (fw l (2+11*q.1+10) 1≤1)) Y Z 42 rfl 6 48
    case ht=>
     intro Ze;refine GO 2 ?_;intro _ Y;refine sy Y (aA (v':=ae ((2+11*q.1+10:Nat):Int)) (congrArg _ ab) (cy (Y.ev rfl) (Y.ev rfl) ab)) fun _ Y=>?_;refine ct Y (ao Y _ rfl rfl rfl Ze) (az bc (Y.evs rfl) rfl) rfl rfl (dD l (2+11*q.1+10) 1 ab f au _) fun _ Y=>?_;refine GO 2 ?_;intro _ Y;exact ah ⟨Y.midE 5,Z⟩
    case hf=>
     intro Ze;refine GO 6 ?_;intro _ Y;exact ah ⟨Y.midE 5,Z⟩
    case h=>
     rintro Jx Qc ⟨Zv,Zt⟩
     rw[←sH] at Zv;refine GO 3 ?_;intro _ Y;apply aK Y [false,false,false,false,false,false,false,false,false,false,false,false,false,false,false,false,false,false,false,true] _ aa
     case h=>
      refine GO 4 ?_;intro _ Y;refine gp Y rfl (fun X a=>dD l (2+11*q.1) 2 ab f au _) fun _ Y=>?_;refine GO 2 ?_;intro _ Y;refine qv Y (fun X a=>aA (v':=ae ((2+11*q.1+2:Nat):Int)) (congrArg _ ab) (cy (Y.ev rfl) (Y.ev rfl) ab)) fun _ Y=>?_;refine gp Y rfl (fun X a=>dD l (2+11*q.1+2) 4 ab f au _) fun _ Y=>?_;refine GO 2 ?_;intro _ Y;refine qv Y (fun X a=>aA (v':=ae ((2+11*q.1+6:Nat):Int)) (congrArg _ ab) (cy (Y.ev rfl) (Y.ev rfl) ab)) fun _ Y=>?_;refine gp Y rfl (fun X a=>dD l (2+11*q.1+6) 4 ab f au _) fun _ Y=>?_;refine GO 2 ?_;intro _ Y;refine qv Y (fun X a=>aA (v':=ae ((2+11*q.1+10:Nat):Int)) (congrArg _ ab) (cy (Y.ev rfl) (Y.ev rfl) ab)) fun _ Y=>?_;refine gp Y rfl (fun X a=>dD l (2+11*q.1+10) 1 ab f au _) fun _ Y=>?_;refine GO 1 ?_;intro _ Y;refine qv Y (fun X a=>ay (zs:=nV) (pl:=yt) aa aa (Y.evs2 rfl) rfl rfl) fun _ Y=>?_;refine ax ?_;apply eF (k:=19) (deps:=[]) (R:=NewB _ (fun b=>.slice (some ⟨b,0,none⟩) 1 1) _ _) Y rfl rfl rfl NewB.stable (fun X a hΦ=>gK (dw (zc:=nV) (sz:=4) rfl ed aa aa rfl rfl rfl (Y.evs2 rfl) rfl rfl rfl) a.size);intro Vb _ Y;refine aV fun _ Zf Zo=>?_;have Z:=Zt.grow Zf;have u:=aF Zo (k:=19) rfl;obtain⟨Va,rfl,Zp,u⟩:=u;have Z:=Zt.add Zf (e:=.box _ _ _) u (fun b P=>by cases P;exact⟨Zp,Box.lt u⟩);refine bP (z:=.agg lG) (sz:=4) (bytes:=32) Y (wn rfl) ⟨rfl,rfl⟩ rfl ed aa rfl rfl (Y.ev rfl) (Y.ev rfl) Z (i:=1) rfl (Z.boxRd (i:=0) rfl) rfl (List.all_eq_true.1 rfl) ⟨ab,by decide⟩ fun C J _ _ Y Z=>?_;refine GO 1 ?_;intro _ Y;refine aM Y (wn rfl) ⟨rfl,rfl⟩ (Y.ev rfl) (Y.ev rfl) rfl aa Z (i:=3) rfl rfl rfl fun _ Z=>GO 9 ?_;intro _ Y;exact⟨(q.1+1,C,J),(by show bh l-(q.1+1)<bh l-q.1;omega),m,Y.re bN,(by show St [] w _ [.row _ _ _ _ ((iO l (q.1+1)).flatMap cc),_,_,_,_];rw[Dq];exact(Z.sub (aL 62)))⟩
     case hB=>kernel_rfl
     case hst=>rfl
   ·
    obtain⟨n1,g,c1⟩:=q
    obtain rfl:n1=bh l:=by have j:=of_decide_eq_false S;have U:n1≤bh l:=Zu;change ¬((n1:Int)<_) at j;omega
    have E:gx l (bh l)=(gx l (bh l)&&im l 0):=by rw[show im l 0=true from rfl,Bool.and_true]
    replace Y:=Y.also (t:=8) (v:=.bool (gx l (bh l)&&im l 0)) (by rw[←E];rfl);refine GO 12 ?_;intro _ Y;refine aY Y Z [7,6,5,4,3,2,0] (fun (q:Nat × Option Addr × Nat)=>[(11,ae (q.1:Nat)),(8,.bool (gx l (bh l)&&im l q.1))]) (fun (q:Nat × Option Addr × Nat)=>q.1≤dP l) (fun q L=>[.row (.slice g (bh l) c1) (bh l) 116 4 ((iO l (bh l)).flatMap cc),.row (.slice q.2.1 q.1 q.2.2) q.1 124 3 ((kd l q.1).flatMap cw),.box F #[.slice g (bh l) c1,.slice q.2.1 q.1 q.2.2] 25,.box b4 #[.slice none 0 0,.slice none 0 0] 25,.box I #[.slice none 0 0,.slice none 0 0] 25]) (fun (q:Nat × Option Addr × Nat)=>dP l-q.1) ((0,none,0)) (Nat.zero_le _) bN (Z) ?_;intro q _ Zw Zx Y Z;refine GO 8 ?_;intro _ Y;refine ak (Y.ev rfl) (fun K=>?_) (fun K=>?_)
    ·
     have m:q.1<dP l:=by have:=of_decide_eq_true K;omega
     refine GO 7 ?_;intro _ Y;refine sv Y (gg (Y.ev rfl) (Y.ev rfl) ab) fun _ Y=>?_;refine sv Y (aA (v':=ae ((2+11*bh l:Nat):Int)) (congrArg _ ab) (cy (Y.ev rfl) (Y.ev rfl) ab)) fun _ Y=>?_;refine GO 1 ?_;intro _ Y;refine sv Y (gg (Y.ev rfl) (Y.ev rfl) ab) fun _ Y=>?_;refine sv Y (aA (v':=ae ((2+11*bh l+7*q.1:Nat):Int)) (congrArg _ ab) (cy (Y.ev rfl) (Y.ev rfl) ab)) fun _ Y=>?_;refine GO 7 ?_;intro _ Y;apply bo (x:=decide (fw l (2+11*bh l+7*q.1+2) 1≤1)) Y Z 83 rfl 6 89
     case ht=>
      intro Zg;refine GO 2 ?_;intro _ Y;refine sy Y (aA (v':=ae ((2+11*bh l+7*q.1+2:Nat):Int)) (congrArg _ ab) (cy (Y.ev rfl) (Y.ev rfl) ab)) fun _ Y=>?_;refine ct Y (ao Y _ rfl rfl rfl Zg) (az bc (Y.evs rfl) rfl) rfl rfl (dD l (2+11*bh l+7*q.1+2) 1 ab f au _) fun _ Y=>?_;refine GO 2 ?_;intro _ Y;exact ah ⟨Y.midE 5,Z⟩
     case hf=>
      intro Zg;refine GO 6 ?_;intro _ Y;exact ah ⟨Y.midE 5,Z⟩
     case h=>
      rintro Jv Zy ⟨Zr,Zh⟩
      rw[Bool.and_assoc,←rN] at Zr;refine GO 3 ?_;intro _ Y;apply aK Y [false,false,false,false,false,false,false,false,false,false,false,false,false,false,false,true] _ aa
      case h=>
       refine GO 4 ?_;intro _ Y;refine gp Y rfl (fun X a=>dD l (2+11*bh l+7*q.1) 2 ab f au _) fun _ Y=>?_;refine GO 2 ?_;intro _ Y;refine qv Y (fun X a=>aA (v':=ae ((2+11*bh l+7*q.1+2:Nat):Int)) (congrArg _ ab) (cy (Y.ev rfl) (Y.ev rfl) ab)) fun _ Y=>?_;refine gp Y rfl (fun X a=>dD l (2+11*bh l+7*q.1+2) 1 ab f au _) fun _ Y=>?_;refine GO 3 ?_;intro _ Y;refine qv Y (fun X a=>aA (v':=ae ((2+11*bh l+7*q.1+3:Nat):Int)) (congrArg _ ab) (cy (Y.ev rfl) (Y.ev rfl) ab)) fun _ Y=>?_;refine gp Y rfl (fun X a=>dD l (2+11*bh l+7*q.1+3) 4 ab f au _) fun _ Y=>?_;refine qv Y (fun X a=>ay (zs:=pZ) (pl:=fE) aa aa (Y.evs2 rfl) rfl rfl) fun _ Y=>?_;refine ax ?_;apply eF (k:=15) (deps:=[]) (R:=NewB _ (fun b=>.slice (some ⟨b,0,none⟩) 1 1) _ _) Y rfl rfl rfl NewB.stable (fun X a hΦ=>gK (dw (zc:=pZ) (sz:=3) rfl eP aa aa rfl rfl rfl (Y.evs2 rfl) rfl rfl rfl) a.size);intro W _ Y;refine aV fun _ Zc Zi=>?_;have Z:=Zh.grow Zc;have B:=aF Zi (k:=15) rfl;obtain⟨Jw,rfl,Zj,B⟩:=B;have Z:=Zh.add Zc (e:=.box _ _ _) B (fun b P=>by cases P;exact⟨Zj,Box.lt B⟩);refine bP (z:=.agg ln) (sz:=3) (bytes:=24) Y (wn rfl) ⟨rfl,rfl⟩ rfl eP aa rfl rfl (Y.ev rfl) (Y.ev rfl) Z (i:=2) rfl (Z.boxRd (i:=0) rfl) rfl (List.all_eq_true.1 rfl) ⟨ab,by decide⟩ fun r n _ _ Y Z=>?_;refine GO 1 ?_;intro _ Y;refine aM Y (wn rfl) ⟨rfl,rfl⟩ (Y.ev rfl) (Y.ev rfl) rfl aa Z (i:=3) rfl rfl rfl fun _ Z=>GO 9 ?_;intro _ Y;exact⟨(q.1+1,r,n),(by show dP l-(q.1+1)<dP l-q.1;omega),m,Y.re bN,(by show St [] w _ [_,.row _ _ _ _ ((kd l (q.1+1)).flatMap cw),_,_,_];rw[Da];exact(Z.sub (aL 62)))⟩
      case hB=>kernel_rfl
      case hst=>rfl
    ·
     obtain⟨n2,s,c2⟩:=q
     obtain rfl:n2=dP l:=by have j:=of_decide_eq_false K;have U:n2≤dP l:=Zx;change ¬((n2:Int)<_) at j;omega
     have eT:(dT l).ts.length=bh l:=by show(iO l (bh l)).length=_;unfold iO;simp
     have eD:(dT l).ds.length=dP l:=by show(kd l (dP l)).length=_;unfold kd;simp
     replace Z:St [] w Zw [.row (.slice g (dT l).ts.length c1) (dT l).ts.length 116 4 ((dT l).ts.flatMap cc),.row (.slice s (dT l).ds.length c2) (dT l).ds.length 124 3 ((dT l).ds.flatMap cw),.box F #[.slice g (dT l).ts.length c1,.slice s (dT l).ds.length c2] 25,.box b4 #[.slice none 0 0,.slice none 0 0] 25,.box I #[.slice none 0 0,.slice none 0 0] 25]:=by
      rw[eT,eD];exact Z
     refine GO 12 ?_;intro _ Y;refine ak (Y.ev rfl) (fun y=>?_) (fun y=>?_)
     ·
      have d:gE l=3:=by
       unfold gE
       rw[if_neg ab,if_neg ab,show(gx l (bh l)&&im l (dP l))=false by cases q1:(gx l (bh l)&&im l (dP l)) with
        | false=>rfl
        | true=>rw[q1] at y;cases y];rfl
      have c:dg l=iu:=by unfold dg;rw[if_neg (by rw[d];decide)]
      refine ai (an ?_);refine sv Y (ag aa aa (Y.ev rfl) (Z.cellsAll (i:=3) rfl)) fun _ Y=>?_;refine sw Y Z 4 fun _ Z=>?_;refine GO 5 ?_;intro _ Y;refine br Y rfl rfl rfl Z (i:=4) rfl aa aa ?_;refine⟨(none,0,none,0),by rw[c,d];rfl,?_⟩;rw[c];exact((Z.sub (List.nil_sublist _)).nilRow 124 3).nilRow 116 4
     ·
      have G:(gx l (bh l)&&im l (dP l))=true:=ar y
      have d:gE l=dz (dT l):=by
       unfold gE;rw[if_neg ab,if_neg ab,G];show(if (0:Int)=0 then (if dz (dT l)=0 then 0 else dz (dT l)) else 0)=_;rw[if_pos rfl]
       split<;>omega
      refine wp_skip (aj (ai (ai (an ?_))));refine sv (v:=bW (dT l) g c1 s c2) Y (ag aa aa (Y.ev rfl) (Z.cellsAll (i:=2) rfl)) fun _ Y=>?_;refine cN Y rfl Z (kO (dT l) g c1 s c2 _ (Z.rdOf (i:=0) rfl) (Z.rdOf (i:=1) rfl)) fun _ _ Y Z=>?_;refine GO 9 ?_;intro _ Y;refine ak (Y.ev rfl) (fun O=>?_) (fun O=>?_)
      ·
       have V:gE l≠0:=by rw[d];simpa using O
       have c:dg l=iu:=by unfold dg;rw[if_neg V]
       refine ai (an ?_);refine sv Y (ag aa aa (Y.ev rfl) (Z.cellsAll (i:=3) rfl)) fun _ Y=>?_;refine GO 1 ?_;intro _ Y;refine sw Y Z 4 fun _ Z=>?_;refine GO 5 ?_;intro _ Y;refine br Y rfl rfl rfl Z (i:=4) rfl aa aa ?_;refine⟨(none,0,none,0),by rw[c,d];rfl,?_⟩;rw[c];exact((Z.sub (List.nil_sublist _)).nilRow 124 3).nilRow 116 4
      ·
       have hz:gE l=0:=by rw[d];simpa using O
       have c:dg l=dT l:=by unfold dg;rw[if_pos hz]
       refine wp_skip (aj (ai (an ?_)));refine sv Y (ag aa aa (Y.ev rfl) (Z.cellsAll (i:=2) rfl)) fun _ Y=>?_;refine sw Y Z 4 fun _ Z=>?_;refine GO 4 ?_;intro _ Y;refine br Y rfl rfl rfl Z (i:=4) rfl aa aa ?_;refine⟨(g,c1,s,c2),by rw[c,hz];rfl,?_⟩;rw[c];exact(Z.sub (aL 3))
end Go.Proofs.YtcfdpfmchchkaaaGreatDoor
