/- Chapter 22 -/
import Derived.Test.YtcfdpfmchchkaaaGreatDoorRcA
import Derived.Test.YtcfdpfmchchkaaaGreatDoorRgB
namespace Go.Proofs.YtcfdpfmchchkaaaGreatDoor
set_option maxHeartbeats 1000000
set_option maxRecDepth 4000
set_option linter.unusedVariables false
set_option linter.unusedSimpArgs false
open Go.RowKit Go.Sort
def e9 (x:Trn):Value:=.agg #[ae x.i,ae x.l,ae x.u,.bool x.c]
def fV (x:Dty):Value:=.agg #[ae x.g,.bool x.f,ae x.l]
def gV (x:Rcd):Value:=.agg #[ae x.l,ae x.e.k,ae x.e.t,ae x.e.p,ae x.e.x,ae x.e.g,.bool x.e.f,ae x.e.o.k,ae x.e.o.a,ae x.e.o.e,ae x.e.o.c,.string x.e.o.o,.string x.e.o.n,.string x.e.d]
def xg (x:Pgp):Value:=.agg #[ae x.g,.bool x.f,.string x.b]
def bW (t:Tbl) (A:Option Addr) (c:Nat) (B:Option Addr) (d:Nat):Value:=.agg #[.slice A t.ts.length c,.slice B t.ds.length d]
theorem aQ {α:Type} {f:α→List Value} {n:Nat} (hf:∀x,(f x).length=n) (a:0<n) {l:List α} (h:0<l.length):0<(l.flatMap f).length:=by
 match l,h with
 | x::r,_=>rw[List.flatMap_cons,List.length_append,hf];omega
theorem wc (g:Nat→Trn→Int) (l:List Trn) (A:Option Addr) (c:Nat) (f:FuncId) (n:List Value) (w:World) (hr:Rd w w.heap.size A (l.flatMap cc)) (x:l.length≤1000) (u:∀(vs:Array Value) (W:World),(callFunc f vs).run Tryz.prog W=.ok (.enter f vs) W)
 (t:∀X,Below w.heap.size w X→∀(k:Nat) (d:k<l.length),(∀m (hm:m<l.length),m<k→g m l[m]=0)→Calls Tryz.prog f ([ae k,e9 l[k]] ++ n).toArray X fun e X'=>e=.returned (ae (g k l[k]))∧Below X.heap.size X X') :
 bz 60 #[.slice A l.length c,.func (.func f) #[] n.toArray] w (.tuple #[ae (di g 0 l).1,ae (di g 0 l).2]):=by
 refine aq (N:=25) Tryz.func60 rfl rfl rfl (fun _ Y=>?_);have Z:=St.init w;refine GO 3 ?_;intro _ Y;refine GO 6 ?_;intro _ Y;refine GO 6 ?_;intro _ Y;refine aY Y Z [10,9,1] (fun (j:Nat)=>[(11,ae j)]) (fun (j:Nat)=>j≤l.length∧∀k (d:k<l.length),k<j→g k l[k]=0) (fun (j:Nat) L=>L) (fun (j:Nat)=>l.length-j) (0) (⟨Nat.zero_le _,fun k _ h=>by omega⟩) bN (Z) ?_;intro j _ _ p Y Z;refine GO 6 ?_;intro _ Y;refine ak (Y.ev rfl) (fun r=>?_) (fun r=>?_)
 ·
  have a:j<l.length:=by have:=of_decide_eq_true r;omega
  obtain⟨b,o,rfl,hB,_⟩:=hr.opened (aQ bG au ab);refine GO 7 ?_;intro _ Y;refine sv Y (av (i:=j) (sz:=4) ed aa (Y.ev rfl) (Y.ev rfl) ab ab rfl) fun _ Y=>?_;refine sv (v:=e9 l[j]) Y (ag aa aa (Y.ev rfl) (aZ bG (Z.rd0 hr) a)) fun _ Y=>?_;refine na (.agg lG) Y rfl Z fun B _ _ z Y Z=>GO 1 ?_;intro _ Y;refine sw Y Z 0 fun _ Z=>?_;refine GO 6 ?_;intro _ Y;refine sv (v:=e9 l[j]) Y (ag aa aa (Y.ev rfl) (Z.cellsAll (i:=0) rfl)) fun _ Y=>?_;refine dk Y (wn rfl) (cQ u (Y.ev rfl) (Y.evs rfl) rfl) rfl rfl Z (t _ Z.below j a p.2) fun _ _ Y Z=>GO 9 ?_;intro _ Y;refine ak (Y.ev rfl) (fun s=>?_) (fun s=>?_)
  ·
   refine GO 14 ?_;intro _ Y;refine cd Y rfl rfl rfl ?_;have Y:g j l[j]≠0:=ar s;have Y:=dB g l 0 j a (fun k d h=>by rw[Nat.zero_add];exact p.2 k d h) (by rw[Nat.zero_add];exact Y);exact⟨by rw[Y,Nat.zero_add],Z.below⟩
  ·
   refine GO 8 ?_;intro _ Y;exact⟨j+1,by omega,⟨a,fun k d h=>(Nat.lt_or_ge k j).elim (fun q=>p.2 k d q) (fun q=>by(obtain rfl:k=j:=by omega);simpa using s)⟩,Y.re bN,Z.sub (aL 0)⟩
 ·
  have y:l.length≤j:=by have:=of_decide_eq_false r;omega
  refine GO 12 ?_;intro _ Y;refine cd Y rfl rfl rfl ?_;exact⟨by rw[dc g l 0 (fun k d=>by rw[Nat.zero_add];exact p.2 k d ab)],Z.below⟩
theorem vv (g:Nat→Dty→Int) (l:List Dty) (A:Option Addr) (c:Nat) (f:FuncId) (n:List Value) (w:World) (hr:Rd w w.heap.size A (l.flatMap cw)) (x:l.length≤1000) (u:∀(vs:Array Value) (W:World),(callFunc f vs).run Tryz.prog W=.ok (.enter f vs) W)
 (t:∀X,Below w.heap.size w X→∀(k:Nat) (d:k<l.length),(∀m (hm:m<l.length),m<k→g m l[m]=0)→Calls Tryz.prog f ([ae k,fV l[k]] ++ n).toArray X fun e X'=>e=.returned (ae (g k l[k]))∧Below X.heap.size X X') :
 bz 65 #[.slice A l.length c,.func (.func f) #[] n.toArray] w (.tuple #[ae (di g 0 l).1,ae (di g 0 l).2]):=by
 refine aq (N:=25) Tryz.func65 rfl rfl rfl (fun _ Y=>?_);have Z:=St.init w;refine GO 3 ?_;intro _ Y;refine GO 6 ?_;intro _ Y;refine GO 6 ?_;intro _ Y;refine aY Y Z [10,9,1] (fun (j:Nat)=>[(11,ae j)]) (fun (j:Nat)=>j≤l.length∧∀k (d:k<l.length),k<j→g k l[k]=0) (fun (j:Nat) L=>L) (fun (j:Nat)=>l.length-j) (0) (⟨Nat.zero_le _,fun k _ h=>by omega⟩) bN (Z) ?_;intro j _ _ p Y Z;refine GO 6 ?_;intro _ Y;refine ak (Y.ev rfl) (fun r=>?_) (fun r=>?_)
 ·
  have a:j<l.length:=by have:=of_decide_eq_true r;omega
  obtain⟨b,o,rfl,hB,_⟩:=hr.opened (aQ bU au ab);refine GO 7 ?_;intro _ Y;refine sv Y (av (i:=j) (sz:=3) eP aa (Y.ev rfl) (Y.ev rfl) ab ab rfl) fun _ Y=>?_;refine sv (v:=fV l[j]) Y (ag aa aa (Y.ev rfl) (aZ bU (Z.rd0 hr) a)) fun _ Y=>?_;refine na (.agg ln) Y rfl Z fun B _ _ z Y Z=>GO 1 ?_;intro _ Y;refine sw Y Z 0 fun _ Z=>?_;refine GO 6 ?_;intro _ Y;refine sv (v:=fV l[j]) Y (ag aa aa (Y.ev rfl) (Z.cellsAll (i:=0) rfl)) fun _ Y=>?_;refine dk Y (wn rfl) (cQ u (Y.ev rfl) (Y.evs rfl) rfl) rfl rfl Z (t _ Z.below j a p.2) fun _ _ Y Z=>GO 9 ?_;intro _ Y;refine ak (Y.ev rfl) (fun s=>?_) (fun s=>?_)
  ·
   refine GO 14 ?_;intro _ Y;refine cd Y rfl rfl rfl ?_;have Y:g j l[j]≠0:=ar s;have Y:=dB g l 0 j a (fun k d h=>by rw[Nat.zero_add];exact p.2 k d h) (by rw[Nat.zero_add];exact Y);exact⟨by rw[Y,Nat.zero_add],Z.below⟩
  ·
   refine GO 8 ?_;intro _ Y;exact⟨j+1,by omega,⟨a,fun k d h=>(Nat.lt_or_ge k j).elim (fun q=>p.2 k d q) (fun q=>by(obtain rfl:k=j:=by omega);simpa using s)⟩,Y.re bN,Z.sub (aL 0)⟩
 ·
  have y:l.length≤j:=by have:=of_decide_eq_false r;omega
  refine GO 12 ?_;intro _ Y;refine cd Y rfl rfl rfl ?_;exact⟨by rw[dc g l 0 (fun k d=>by rw[Nat.zero_add];exact p.2 k d ab)],Z.below⟩
theorem uL (g:Nat→Pgp→Int) (l:List Pgp) (A:Option Addr) (c:Nat) (f:FuncId) (n:List Value) (w:World) (hr:Rd w w.heap.size A (l.flatMap cS)) (x:l.length≤1000) (u:∀(vs:Array Value) (W:World),(callFunc f vs).run Tryz.prog W=.ok (.enter f vs) W)
 (t:∀X,Below w.heap.size w X→∀(k:Nat) (d:k<l.length),(∀m (hm:m<l.length),m<k→g m l[m]=0)→Calls Tryz.prog f ([ae k,xg l[k]] ++ n).toArray X fun e X'=>e=.returned (ae (g k l[k]))∧Below X.heap.size X X') :
 bz 200 #[.slice A l.length c,.func (.func f) #[] n.toArray] w (.tuple #[ae (di g 0 l).1,ae (di g 0 l).2]):=by
 refine aq (N:=25) Tryz.func200 rfl rfl rfl (fun _ Y=>?_);have Z:=St.init w;refine GO 3 ?_;intro _ Y;refine GO 6 ?_;intro _ Y;refine GO 6 ?_;intro _ Y;refine aY Y Z [10,9,1] (fun (j:Nat)=>[(11,ae j)]) (fun (j:Nat)=>j≤l.length∧∀k (d:k<l.length),k<j→g k l[k]=0) (fun (j:Nat) L=>L) (fun (j:Nat)=>l.length-j) (0) (⟨Nat.zero_le _,fun k _ h=>by omega⟩) bN (Z) ?_;intro j _ _ p Y Z;refine GO 6 ?_;intro _ Y;refine ak (Y.ev rfl) (fun r=>?_) (fun r=>?_)
 ·
  have a:j<l.length:=by have:=of_decide_eq_true r;omega
  obtain⟨b,o,rfl,hB,_⟩:=hr.opened (aQ bZ au ab);refine GO 7 ?_;intro _ Y;refine sv Y (av (i:=j) (sz:=3) ke aa (Y.ev rfl) (Y.ev rfl) ab ab rfl) fun _ Y=>?_;refine sv (v:=xg l[j]) Y (ag aa aa (Y.ev rfl) (aZ bZ (Z.rd0 hr) a)) fun _ Y=>?_;refine na (.agg #[ae 0,.bool false,.string ⟨#[]⟩]) Y rfl Z fun B _ _ z Y Z=>GO 1 ?_;intro _ Y;refine sw Y Z 0 fun _ Z=>?_;refine GO 6 ?_;intro _ Y;refine sv (v:=xg l[j]) Y (ag aa aa (Y.ev rfl) (Z.cellsAll (i:=0) rfl)) fun _ Y=>?_;refine dk Y (wn rfl) (cQ u (Y.ev rfl) (Y.evs rfl) rfl) rfl rfl Z (t _ Z.below j a p.2) fun _ _ Y Z=>GO 9 ?_;intro _ Y;refine ak (Y.ev rfl) (fun s=>?_) (fun s=>?_)
  ·
   refine GO 14 ?_;intro _ Y;refine cd Y rfl rfl rfl ?_;have Y:g j l[j]≠0:=ar s;have Y:=dB g l 0 j a (fun k d h=>by rw[Nat.zero_add];exact p.2 k d h) (by rw[Nat.zero_add];exact Y);exact⟨by rw[Y,Nat.zero_add],Z.below⟩
  ·
   refine GO 8 ?_;intro _ Y;exact⟨j+1,by omega,⟨a,fun k d h=>(Nat.lt_or_ge k j).elim (fun q=>p.2 k d q) (fun q=>by(obtain rfl:k=j:=by omega);simpa using s)⟩,Y.re bN,Z.sub (aL 0)⟩
 ·
  have y:l.length≤j:=by have:=of_decide_eq_false r;omega
  refine GO 12 ?_;intro _ Y;refine cd Y rfl rfl rfl ?_;exact⟨by rw[dc g l 0 (fun k d=>by rw[Nat.zero_add];exact p.2 k d ab)],Z.below⟩
theorem uI (g:Nat→Rcd→Int) (l:List Rcd) (A:Option Addr) (c:Nat) (f:FuncId) (n:List Value) (w:World) (hr:Rd w w.heap.size A (l.flatMap cm)) (x:l.length≤1000) (u:∀(vs:Array Value) (W:World),(callFunc f vs).run Tryz.prog W=.ok (.enter f vs) W)
 (t:∀X,Below w.heap.size w X→∀(k:Nat) (d:k<l.length),(∀m (hm:m<l.length),m<k→g m l[m]=0)→Calls Tryz.prog f ([ae k,gV l[k]] ++ n).toArray X fun e X'=>e=.returned (ae (g k l[k]))∧Below X.heap.size X X') :
 bz 102 #[.slice A l.length c,.func (.func f) #[] n.toArray] w (.tuple #[ae (di g 0 l).1,ae (di g 0 l).2]):=by
 refine aq (N:=25) Tryz.func102 rfl rfl rfl (fun _ Y=>?_);have Z:=St.init w;refine GO 3 ?_;intro _ Y;refine GO 6 ?_;intro _ Y;refine GO 6 ?_;intro _ Y;refine aY Y Z [10,9,1] (fun (j:Nat)=>[(11,ae j)]) (fun (j:Nat)=>j≤l.length∧∀k (d:k<l.length),k<j→g k l[k]=0) (fun (j:Nat) L=>L) (fun (j:Nat)=>l.length-j) (0) (⟨Nat.zero_le _,fun k _ h=>by omega⟩) bN (Z) ?_;intro j _ _ p Y Z;refine GO 6 ?_;intro _ Y;refine ak (Y.ev rfl) (fun r=>?_) (fun r=>?_)
 ·
  have a:j<l.length:=by have:=of_decide_eq_true r;omega
  obtain⟨b,o,rfl,hB,_⟩:=hr.opened (aQ aO au ab);refine GO 7 ?_;intro _ Y;refine sv Y (av (i:=j) (sz:=14) dd aa (Y.ev rfl) (Y.ev rfl) ab ab rfl) fun _ Y=>?_;refine sv (v:=gV l[j]) Y (ag aa aa (Y.ev rfl) (aZ aO (Z.rd0 hr) a)) fun _ Y=>?_;refine na (.agg qU) Y rfl Z fun B _ _ z Y Z=>GO 1 ?_;intro _ Y;refine sw Y Z 0 fun _ Z=>?_;refine GO 6 ?_;intro _ Y;refine sv (v:=gV l[j]) Y (ag aa aa (Y.ev rfl) (Z.cellsAll (i:=0) rfl)) fun _ Y=>?_;refine dk Y (wn rfl) (cQ u (Y.ev rfl) (Y.evs rfl) rfl) rfl rfl Z (t _ Z.below j a p.2) fun _ _ Y Z=>GO 9 ?_;intro _ Y;refine ak (Y.ev rfl) (fun s=>?_) (fun s=>?_)
  ·
   refine GO 14 ?_;intro _ Y;refine cd Y rfl rfl rfl ?_;have Y:g j l[j]≠0:=ar s;have Y:=dB g l 0 j a (fun k d h=>by rw[Nat.zero_add];exact p.2 k d h) (by rw[Nat.zero_add];exact Y);exact⟨by rw[Y,Nat.zero_add],Z.below⟩
  ·
   refine GO 8 ?_;intro _ Y;exact⟨j+1,by omega,⟨a,fun k d h=>(Nat.lt_or_ge k j).elim (fun q=>p.2 k d q) (fun q=>by(obtain rfl:k=j:=by omega);simpa using s)⟩,Y.re bN,Z.sub (aL 0)⟩
 ·
  have y:l.length≤j:=by have:=of_decide_eq_false r;omega
  refine GO 12 ?_;intro _ Y;refine cd Y rfl rfl rfl ?_;exact⟨by rw[dc g l 0 (fun k d=>by rw[Nat.zero_add];exact p.2 k d ab)],Z.below⟩
def zh (l:List Trn) (i:Nat):Bool:=match dv l i with
 | none=>true
 | some y=>match l[i]? with | none=>true | some x=>decide (y.i<x.i)
def AT (l:List Dty) (i:Nat):Bool:=match dv l i with
 | none=>true
 | some y=>match l[i]? with | none=>true | some x=>decide (y.g<x.g)
theorem Df (t:Tbl) (A:Option Addr) (c:Nat) (B:Option Addr) (d i b:Nat) (T:TypeId) (w:World) (p:Box w b #[.slice A t.ts.length c,.slice B t.ds.length d] T) (hr:Rd w w.heap.size A (t.ts.flatMap cc)) (q:i<t.ts.length) (I:t.ts.length≤100) :
 bz 61 #[ae i,e9 t.ts[i],.pointer (some ⟨b,0,none⟩)] w (ae (lX (dv t.ts i) t.ts[i])):=by
 obtain⟨F,o',rfl,_⟩:=hr.opened (aQ bG au ab);refine aq (N:=42) Tryz.func61 rfl rfl rfl (fun _ j=>?_);have Z:=St.init w;refine ai (an ?_);refine nb j rfl rfl Z fun b4 _ _ K Y Z=>GO 7 ?_;intro _ Y;refine cU Y rfl (ca _ _ _ _) fun _ Y=>?_;refine GO 1 ?_;intro _ Y;apply bo (x:=bD t.ts[i].l 1 2147483647) Y Z 10 rfl 4 14
 case ht=>
  intro v;refine GO 2 ?_;intro _ Y;refine ct Y (ao Y _ rfl rfl rfl v) (az bc (Y.evs rfl) rfl) rfl rfl (ca _ _ _ _) fun _ Y=>GO 1 ?_;intro _ Y;exact ah ⟨Y.midE 3,Z⟩
 case hf=>
  intro v;refine GO 4 ?_;intro _ Y;exact ah ⟨Y.midE 3,Z⟩
 case h=>
  rintro D H ⟨L,n⟩
  refine GO 1 ?_;intro _ Y;apply bo (x:=bD t.ts[i].u 0 t.ts[i].l) Y n 15 rfl 6 21
  case ht=>
   intro r;refine GO 4 ?_;intro _ Y;refine ct Y (ao Y _ rfl rfl rfl r) (az bc (Y.evs rfl) rfl) rfl rfl (ca _ _ _ _) fun _ Y=>GO 1 ?_;intro _ Y;exact ah ⟨Y.midE 5,n⟩
  case hf=>
   intro r;refine GO 6 ?_;intro _ Y;exact ah ⟨Y.midE 5,n⟩
  case h=>
   rintro y M ⟨G,m⟩
   refine GO 4 ?_;intro _ Y;apply aK Y (fA 17) _ aa
   case h=>
    refine GO 1 ?_;intro _ Y;refine gp Y rfl (fun X a=>aW _ _ _) fun _ Y=>?_;refine GO 3 ?_;intro _ Y;apply fF (x:=zh t.ts i) Y 26 rfl 12 38
    case hf=>
     intro s
     have k:i≠0:=by simp only[beq_eq_false_iff_ne] at s;omega
     have g:i-1<t.ts.length:=by omega
     have o:dv t.ts i=some t.ts[i-1]:=by unfold dv;rw[if_neg k,List.getElem?_eq_getElem g]
     refine qy Y (fun X a=>(fy 0 (Y.ev rfl))) fun _ Y=>?_;refine qy Y (fun X a=>(lx (Y.ev rfl) (Box.cells (p.below (m.grow a).below) 0))) fun _ Y=>?_;refine GO 2 ?_;intro _ Y;refine qy Y (fun X a=>(pB aa (Y.ev rfl) (Y.ev rfl))) fun _ Y=>?_;refine qy Y (fun X a=>(av (i:=i-1) (sz:=4) ed aa (Y.ev rfl) (Y.ev rfl) ab ab rfl)) fun _ Y=>?_;refine qy Y (fun X a=>(fy 0 (Y.ev rfl))) fun _ Y=>?_;refine qy Y (fun X a=>(lx (Y.ev rfl) ((aZ bG ((m.grow a).rd0 hr) g) 0 _ rfl))) fun _ Y=>?_;refine GO 2 ?_;intro _ Y;refine qy Y (fun X a=>(aA (v':=.bool (zh t.ts i)) (congrArg Value.bool (by unfold zh;rw[o,List.getElem?_eq_getElem q])) (mW (Y.ev rfl) (Y.ev rfl)))) fun _ Y=>?_;refine GO 1 ?_;intro _ Y;exact ax (Y.midE 11)
    case ht=>
     intro s;refine GO 12 ?_;intro _ Y;exact ax (Y.midE 11)
    case h=>
     intro _ Y;refine ax ?_;refine aV fun _ z J=>?_;have Z:=m.grow z;refine cU Y rfl (aW _ _ _) fun _ Y=>?_;refine bV Y (wn rfl) (f:=fun b=>.slice (some ⟨b,0,none⟩) 2 2) (bb cT aa aa (Y.evs2 rfl) rfl rfl rfl au au) rfl rfl Z fun C _ _ E Y Z=>cU Y rfl (dq (Z.at_ (i:=0) rfl)) fun _ Y=>?_;refine GO 4 ?_;intro _ Y;refine aI Y rfl rfl ?_;refine⟨?_,Z.below⟩
     have e:((i:Int)==0||zh t.ts i)=zh t.ts i:=by
      rcases Nat.eq_zero_or_pos i with j | j
      · subst j;rfl
      · rw[show((i:Int)==0)=false by rw[beq_eq_false_iff_ne];omega];rfl
     rw[e];unfold lX zh;rw[List.getElem?_eq_getElem q]
     cases dv t.ts i<;>rfl
   case hB=>kernel_rfl
   case hst=>rfl
theorem C5 (t:Tbl) (A:Option Addr) (c:Nat) (B:Option Addr) (d i b:Nat) (T:TypeId) (w:World) (o:Box w b #[.slice A t.ts.length c,.slice B t.ds.length d] T) (hr:Rd w w.heap.size B (t.ds.flatMap cw)) (p:i<t.ds.length) (E:t.ds.length≤100) :
 bz 66 #[ae i,fV t.ds[i],.pointer (some ⟨b,0,none⟩)] w (ae (mC (dv t.ds i) t.ds[i])):=by
 obtain⟨z,o',rfl,_⟩:=hr.opened (aQ bU au ab);refine aq (N:=35) Tryz.func66 rfl rfl rfl (fun _ j=>?_);have Z:=St.init w;refine ai (an ?_);refine nb j rfl rfl Z fun b4 _ _ F Y Z=>GO 7 ?_;intro _ Y;refine cU Y rfl (ca _ _ _ _) fun _ Y=>?_;refine GO 1 ?_;intro _ Y;apply bo (x:=bD t.ds[i].l 1 2147483647) Y Z 10 rfl 4 14
 case ht=>
  intro r;refine GO 2 ?_;intro _ Y;refine ct Y (ao Y _ rfl rfl rfl r) (az bc (Y.evs rfl) rfl) rfl rfl (ca _ _ _ _) fun _ Y=>GO 1 ?_;intro _ Y;exact ah ⟨Y.midE 3,Z⟩
 case hf=>
  intro r;refine GO 4 ?_;intro _ Y;exact ah ⟨Y.midE 3,Z⟩
 case h=>
  rintro v y ⟨G,m⟩
  refine GO 4 ?_;intro _ Y;apply aK Y (fA 17) _ aa
  case h=>
   refine GO 1 ?_;intro _ Y;refine gp Y rfl (fun X a=>aW _ _ _) fun _ Y=>?_;refine GO 3 ?_;intro _ Y;apply fF (x:=AT t.ds i) Y 19 rfl 12 31
   case hf=>
    intro q
    have k:i≠0:=by simp only[beq_eq_false_iff_ne] at q;omega
    have g:i-1<t.ds.length:=by omega
    have n:dv t.ds i=some t.ds[i-1]:=by unfold dv;rw[if_neg k,List.getElem?_eq_getElem g]
    refine qy Y (fun X a=>(fy 1 (Y.ev rfl))) fun _ Y=>?_;refine qy Y (fun X a=>(lx (Y.ev rfl) (Box.cells (o.below (m.grow a).below) 1))) fun _ Y=>?_;refine GO 2 ?_;intro _ Y;refine qy Y (fun X a=>(pB aa (Y.ev rfl) (Y.ev rfl))) fun _ Y=>?_;refine qy Y (fun X a=>(av (i:=i-1) (sz:=3) eP aa (Y.ev rfl) (Y.ev rfl) ab ab rfl)) fun _ Y=>?_;refine qy Y (fun X a=>(fy 0 (Y.ev rfl))) fun _ Y=>?_;refine qy Y (fun X a=>(lx (Y.ev rfl) ((aZ bU ((m.grow a).rd0 hr) g) 0 _ rfl))) fun _ Y=>?_;refine GO 2 ?_;intro _ Y;refine qy Y (fun X a=>(aA (v':=.bool (AT t.ds i)) (congrArg Value.bool (by unfold AT;rw[n,List.getElem?_eq_getElem p])) (mW (Y.ev rfl) (Y.ev rfl)))) fun _ Y=>?_;refine GO 1 ?_;intro _ Y;exact ax (Y.midE 11)
   case ht=>
    intro q;refine GO 12 ?_;intro _ Y;exact ax (Y.midE 11)
   case h=>
    intro _ Y;refine ax ?_;refine aV fun _ s C=>?_;have Z:=m.grow s;refine cU Y rfl (aW _ _ _) fun _ Y=>?_;refine bV Y (wn rfl) (f:=fun b=>.slice (some ⟨b,0,none⟩) 2 2) (bb cT aa aa (Y.evs2 rfl) rfl rfl rfl au au) rfl rfl Z fun u _ _ D Y Z=>cU Y rfl (dq (Z.at_ (i:=0) rfl)) fun _ Y=>?_;refine GO 4 ?_;intro _ Y;refine aI Y rfl rfl ?_;refine⟨?_,Z.below⟩
    have e:((i:Int)==0||AT t.ds i)=AT t.ds i:=by
     rcases Nat.eq_zero_or_pos i with j | j
     · subst j;rfl
     · rw[show((i:Int)==0)=false by rw[beq_eq_false_iff_ne];omega];rfl
    rw[e];unfold mC AT;rw[List.getElem?_eq_getElem p]
    cases dv t.ds i<;>rfl
  case hB=>kernel_rfl
  case hst=>rfl
theorem da (t:Tbl) (A:Option Addr) (c:Nat) (B:Option Addr) (d:Nat) (w:World) (hr:Rd w w.heap.size A (t.ts.flatMap cc)) (n:Rd w w.heap.size B (t.ds.flatMap cw)) :
 bz 15 #[bW t A c B d] w (ae (dz t)):=by
 refine aq (N:=33) Tryz.func15 rfl rfl rfl (fun _ Y=>?_);have Z:=St.init w;refine ai (an ?_);refine nb Y rfl rfl Z fun b1 _ _ u Y Z=>GO 11 ?_;intro _ Y;apply bI (x:=decide ((t.ds.length:Int)>60)) Y Z 9 rfl 5 14
 case hf=>
  intro r;refine GO 5 ?_;intro _ Y;exact ah ⟨Y.midE 4,Z⟩
 case ht=>
  intro r;refine GO 5 ?_;intro _ Y;exact ah ⟨Y.midE 4,Z⟩
 case h=>
  rintro o s ⟨q,a⟩
  refine ah (aj ?_);refine ak (q.ev rfl) (fun g=>?_) (fun g=>?_)
  ·
   have e:60<t.ts.length∨60<t.ds.length:=by simp only[Bool.or_eq_true,decide_eq_true_eq] at g;omega
   refine GO 7 ?_;intro _ Y;refine aI Y rfl rfl ?_;refine⟨?_,a.below⟩;unfold dz;rw[if_pos e]
  ·
   have v:t.ts.length≤60∧t.ds.length≤60:=by simp only[Bool.or_eq_false_iff,decide_eq_false_iff_not] at g;omega
   refine GO 6 ?_;intro _ Y;refine sv Y (fo (Y.evs rfl) (Y.evs rfl)) fun _ Y=>?_;refine cN Y rfl a (wc (fun k x=>lX (dv t.ts k) x) t.ts A c 61 [.pointer (some ⟨b1,0,none⟩)] _ (a.rd0 hr) ab bc (fun X b k l f=>Df t A c B d k b1 _ X (Box.below (a.at_ (i:=0) rfl) b) ((a.rd0 hr).below' b) l ab)) fun _ _ Y Z=>?_;refine GO 14 ?_;intro _ Y;refine ak (Y.ev rfl) (fun j=>?_) (fun j=>?_)
   ·
    have m:(kU t.ts).2≠0:=by unfold kU;simpa using j
    refine GO 8 ?_;intro _ Y;refine aI Y rfl rfl ?_;refine⟨?_,Z.below⟩;unfold dz;rw[if_neg ab,if_pos m];rfl
   ·
    have p:(kU t.ts).2=0:=by unfold kU;simpa using j
    refine GO 6 ?_;intro _ Y;refine sv Y (fo (Y.evs rfl) (Y.evs rfl)) fun _ Y=>?_;refine cN Y rfl Z (vv (fun k x=>mC (dv t.ds k) x) t.ds B d 66 [.pointer (some ⟨b1,0,none⟩)] _ (Z.rd0 n) ab bc (fun X b k l f=>C5 t A c B d k b1 _ X (Box.below (Z.at_ (i:=0) rfl) b) ((Z.rd0 n).below' b) l ab)) fun _ _ Y Z=>?_;refine GO 13 ?_;intro _ Y;refine aI Y rfl rfl ?_;refine⟨?_,Z.below⟩;unfold dz;rw[if_neg ab,if_neg (ar p)];rfl
theorem vy (b:Bool) (w:World):fZ 69 #[.bool b] w (.int .u8 (ir b)):=by
 refine aq (N:=4) Tryz.func69 rfl rfl rfl (fun _ Y=>?_);have c:=St.init w;refine GO 11 ?_;intro _ Y;refine ak (Y.ev rfl) (fun a=>?_) (fun a=>?_)
 ·
  refine GO 7 ?_;intro _ Y;refine aI Y rfl rfl ?_;exact⟨by rw[show b=true from a];rfl,rfl⟩
 ·
  refine GO 8 ?_;intro _ Y;refine aI Y rfl rfl ?_;exact⟨by rw[show b=false from a];rfl,rfl⟩
theorem ki (e:Lge) (w:World):bz 91 #[cZ e] w (.bool (eh e)):=by
 refine aq (N:=11) Tryz.func91 rfl rfl rfl (fun _ Y=>?_);have Z:=St.init w;refine ai (an ?_);refine nb Y rfl rfl Z fun b1 _ _ d Y Z=>GO 9 ?_;intro _ Y;apply bI (x:=e.k==1) Y Z 6 rfl 4 10
 case hf=>
  intro a;refine GO 4 ?_;intro _ Y;exact ah ⟨Y.midE 3,Z⟩
 case ht=>
  intro a;refine GO 4 ?_;intro _ Y;exact ah ⟨Y.midE 3,Z⟩
 case h=>
  rintro b g ⟨f,c⟩
  refine GO 4 ?_;intro _ Y;refine aI Y rfl rfl ?_;exact⟨rfl,c.below⟩
open Go.RowKit Go.Sort
theorem nm (v:Value) (n:Nat) (us:List UInt8) (m:Int) (e:0≤m) (w:World) (g:w.ownsRow 0 5 1 v n (us.map bB)) (l:n≤100000) :
 Calls Tryz.prog 67 #[v,.int .u16 m] w fun r h=>∃A c,r=.returned (.slice A (n+2) c)∧St v.ownBlock.toList w h [.row (.slice A (n+2) c) (n+2) 5 1 ((us ++ lit m 2).map bB)]:=by
 refine aq (N:=13) Tryz.func67 rfl rfl rfl (fun _ e=>?_);have Z:=St.initO g;refine GO 9 ?_;intro _ Y;refine sv Y (en (k0:=.i64) aa oy (Y.ev rfl)) fun _ Y=>?_;refine GO 1 ?_;intro _ Y;refine sv Y (qp (n:=8) (Y.ev rfl) (Y.ev rfl) rfl ab) fun _ Y=>?_;refine sv Y (en (k0:=.i64) aa oy (Y.ev rfl)) fun _ Y=>?_;refine bV Y (wn rfl) (f:=fun b=>.slice (some ⟨b,0,none⟩) 2 2) (bb bX aa aa (Y.evs2 rfl) rfl rfl rfl au au) rfl rfl Z fun j _ _ k Y Z=>bP (z:=.int .u8 0) (sz:=1) (bytes:=1) Y (wn rfl) ⟨rfl,rfl⟩ rfl bX aa rfl rfl (Y.ev rfl) (Y.ev rfl) Z (i:=1) rfl (Z.boxRd (i:=0) rfl) rfl (List.all_eq_true.1 rfl) ⟨ab,by decide⟩ fun d a _ _ Y Z=>?_;refine GO 4 ?_;intro _ Y;refine aI Y rfl rfl ?_;refine⟨d,a,rfl,?_⟩;have q:=(Z.sub (aL 2));rw[List.map_append,←wI];exact q
theorem nH (v:Value) (n:Nat) (us:List UInt8) (m:Int) (g:0≤m) (w:World) (j:w.ownsRow 0 5 1 v n (us.map bB)) (s:n≤90000) :
 Calls Tryz.prog 68 #[v,.int .u32 m] w fun r k=>∃A c,r=.returned (.slice A (n+2+2) c)∧St v.ownBlock.toList w k [.row (.slice A (n+2+2) c) (n+2+2) 5 1 ((us ++ lit m 4).map bB)]:=by
 refine aq (N:=17) Tryz.func68 rfl rfl rfl (fun _ g=>?_);have Z:=St.initO j;refine GO 9 ?_;intro _ Y;refine sv Y (en (k0:=.i64) aa qF (Y.ev rfl)) fun _ Y=>?_;refine kp Y (wn rfl) (az bc (Y.evs rfl) rfl) rfl rfl Z (i:=0) rfl (nm _ _ us _ (by rw[j0];omega) _ (Z.at_ (i:=0) rfl) ab) fun p o _ _ Y Z=>?_;refine GO 1 ?_;intro _ Y;refine sv Y (qp (n:=16) (Y.ev rfl) (Y.ev rfl) rfl ab) fun _ Y=>?_;refine sv Y (en (k0:=.i64) aa oy (Y.ev rfl)) fun _ Y=>?_;refine GO 1 ?_;intro _ Y;refine sv Y (qp (n:=24) (Y.ev rfl) (Y.ev rfl) rfl ab) fun _ Y=>?_;refine sv Y (en (k0:=.i64) aa oy (Y.ev rfl)) fun _ Y=>?_;refine bV Y (wn rfl) (f:=fun b=>.slice (some ⟨b,0,none⟩) 2 2) (bb bX aa aa (Y.evs2 rfl) rfl rfl rfl au au) rfl rfl Z fun h _ _ l Y Z=>bP (z:=.int .u8 0) (sz:=1) (bytes:=1) Y (wn rfl) ⟨rfl,rfl⟩ rfl bX aa rfl rfl (Y.ev rfl) (Y.ev rfl) Z (i:=1) rfl (Z.boxRd (i:=0) rfl) rfl (List.all_eq_true.1 rfl) ⟨ab,by decide⟩ fun d a _ _ Y Z=>?_;refine GO 4 ?_;intro _ Y;refine aI Y rfl rfl ?_;refine⟨d,a,rfl,?_⟩;have q:=(Z.sub (aL 2))
 have e:(us ++ lit m 4).map bB=(us ++ lit (IntKind.u16.wrap m) 2).map bB ++ [.int .u8 (IntKind.u8.wrap (m / 2 ^ 16)),.int .u8 (IntKind.u8.wrap (m / 2 ^ 24))]:=by
  rw[nB,nB,qu,j0];simp only[List.map_append,List.append_assoc];rfl
 rw[e];exact q
theorem jz (b o n c:Nat) (l:List UInt8) (w:World) (d:nC w b l) (h:o+2≤l.length) (j:2≤n) :
 bz 71 #[.slice (some ⟨b,o,none⟩) n c] w (.int .u16 (g16 l o)):=by
 have u1:=(l.getD o 0).toNat_lt;have e:=(l.getD (o+1) 0).toNat_lt;refine aq (N:=13) Tryz.func71 rfl rfl rfl (fun _ Y=>?_);have Z:=St.init w;refine GO 6 ?_;intro _ Y;apply aK Y (fA 9) _ aa
 case h=>
  refine GO 1 ?_;intro _ Y;refine qv Y (fun X a=>av (i:=0) (sz:=1) bX aa (Y.ev rfl) (Y.ev rfl) ab ab rfl) fun _ Y=>?_;refine qv (v:=bB (l.getD o 0)) Y (fun X a=>lx (Y.ev rfl) ((mx (i:=0) (iT d (Z.grow a).below) ab) 0 _ rfl)) fun _ Y=>?_;refine qv Y (fun X a=>cA aa qF (Y.ev rfl) (wrap_u16 ab)) fun _ Y=>?_;refine GO 1 ?_;intro _ Y;refine qv Y (fun X a=>av (i:=1) (sz:=1) bX aa (Y.ev rfl) (Y.ev rfl) ab ab rfl) fun _ Y=>?_;refine qv (v:=bB (l.getD (o+1) 0)) Y (fun X a=>lx (Y.ev rfl) ((mx (i:=1) (iT d (Z.grow a).below) ab) 0 _ rfl)) fun _ Y=>?_;refine qv Y (fun X a=>cA aa qF (Y.ev rfl) (wrap_u16 ab)) fun _ Y=>?_;refine qv Y (fun X a=>xB (n:=8) (r:=((l.getD (o+1) 0).toNat:Int)*256) (Y.ev rfl) (Y.ev rfl) rfl (by rw[wrap_u16 ab];omega)) fun _ Y=>?_;refine ax ?_;refine aV fun _ f g=>?_;have Z:=Z.grow f;refine sv Y (mj (r:=g16 l o) rfl (Y.ev rfl) (Y.ev rfl) (AK u1 e)) fun _ Y=>?_;refine GO 4 ?_;intro _ Y;refine aI Y rfl rfl ?_;exact⟨rfl,Z.below⟩
 case hB=>kernel_rfl
 case hst=>rfl
theorem ll (b o n c:Nat) (l:List UInt8) (w:World) (i:nC w b l) (h:o+4≤l.length) (q:4≤n) (j:n≤c) :
 bz 72 #[.slice (some ⟨b,o,none⟩) n c] w (.int .u32 (xX l o)):=by
 have u1:=nk l o;have f:=nk l (o+2);refine aq (N:=12) Tryz.func72 rfl rfl rfl (fun _ Y=>?_);have Z:=St.init w;refine GO 6 ?_;intro _ Y;apply aK Y (fA 8) _ aa
 case h=>
  refine GO 1 ?_;intro _ Y;refine jM Y rfl (fun X d=>jz b o n c l _ (iT i (Z.grow d).below) ab ab) fun _ Y=>?_;refine qv Y (fun X d=>cA aa ph (Y.ev rfl) (wrap_u32 ab)) fun _ Y=>?_;refine GO 1 ?_;intro _ Y;refine qv Y (fun X d=>ga (l:=2) (h:=n) (sz:=1) bX aa (Y.ev rfl) (Y.ev rfl) rfl ab j (.inl ab) rfl) fun _ Y=>?_;refine jM Y rfl (fun X d=>jz b (o+2*1) (n-2) (c-2) l _ (iT i (Z.grow d).below) ab ab) fun _ Y=>?_;refine qv Y (fun X d=>cA aa ph (Y.ev rfl) (wrap_u32 (by show 0≤g16 l (o+2)∧g16 l (o+2)<4294967296;omega))) fun _ Y=>?_;refine qv Y (fun X d=>xB (n:=16) (r:=g16 l (o+2)*65536) (Y.ev rfl) (Y.ev rfl) rfl (by show IntKind.u32.wrap (g16 l (o+2)*2 ^ 16)=_;rw[wrap_u32 ab];omega)) fun _ Y=>?_;refine ax ?_;refine aV fun _ k p=>?_;have Z:=Z.grow k;refine sv Y (mj (r:=xX l o) rfl (Y.ev rfl) (Y.ev rfl) (by obtain⟨a,g⟩:=Int.eq_ofNat_of_zero_le u1.1;obtain⟨m,e⟩:=Int.eq_ofNat_of_zero_le f.1;unfold xX;rw[g,e];rw[g] at u1;rw[e] at f;exact AM ab ab)) fun _ Y=>?_;refine GO 4 ?_;intro _ Y;refine aI Y rfl rfl ?_;exact⟨rfl,Z.below⟩
 case hB=>kernel_rfl
 case hst=>rfl
structure TbW where
 k:Nat
 n:Nat
 us:List UInt8
 A:Option Addr
 c:Nat
theorem BH {n:Int}:lit (IntKind.u32.wrap n) 4=lit n 4:=by
 rw[mJ,vz,vz n]
 have b:n % 4294967296 % 65536=n % 65536:=by omega
 have a:n % 4294967296 / 2 ^ 16 % 65536=n / 2 ^ 16 % 65536:=by omega
 rw[b,a]
theorem Fl {n:Int}:lit (IntKind.u16.wrap n) 2=lit n 2:=by
 rw[j0]
 have b:n % 65536 % 256=n % 256:=by omega
 have a:n % 65536 / 256 % 256=n / 256 % 256:=by omega
 simp only[lit,b,a]
theorem E4 (t:Tbl):[Value.int .u8 (IntKind.u8.wrap t.ts.length),.int .u8 (IntKind.u8.wrap t.ds.length)]=((lit t.ts.length 1 ++ lit t.ds.length 1 ++ ([] ++ []):List UInt8)).map bB:=by
 rw[nB,nB];rfl
theorem sL (b:Bool):[Value.int .u8 (ir b)]=(lit (ir b) 1).map bB:=by cases b<;>rfl
theorem A4 (us:List UInt8) (x:Trn):(us ++ kJ x).map bB=(((us ++ lit (IntKind.u16.wrap x.i) 2) ++ lit (IntKind.u32.wrap x.l) 4) ++ lit (IntKind.u32.wrap x.u) 4).map bB ++ [Value.int .u8 (ir x.c)]:=by
 rw[sL,←List.map_append]
 congr 1
 rw[Fl,BH,BH];unfold kJ;simp only[List.append_assoc]
theorem CD (us:List UInt8) (x:Dty):(us ++ kL x).map bB=(((us ++ lit (IntKind.u16.wrap x.g) 2) ++ lit (ir x.f) 1) ++ lit (IntKind.u32.wrap x.l) 4).map bB:=by
 congr 1
 rw[Fl,BH];unfold kL;simp only[List.append_assoc]
def CP (t:Tbl) (k j:Nat):List UInt8:=lit t.ts.length 1 ++ lit t.ds.length 1 ++ ((t.ts.take k).flatMap kJ ++ (t.ds.take j).flatMap kL)
theorem GN {t:Tbl} {k:Nat} (a:k<t.ts.length):CP t (k+1) 0=CP t k 0 ++ kJ t.ts[k]:=by
 unfold CP;rw[List.take_succ_eq_append_getElem a,List.flatMap_append];simp
theorem GD {t:Tbl} {k j:Nat} (a:j<t.ds.length):CP t k (j+1)=CP t k j ++ kL t.ds[j]:=by
 unfold CP;rw[List.take_succ_eq_append_getElem a,List.flatMap_append];simp
theorem D2 (t:Tbl):CP t t.ts.length t.ds.length=jx t:=by
 unfold CP jx;rw[List.take_length,List.take_length]
theorem jU (t:Tbl) (A:Option Addr) (c:Nat) (B:Option Addr) (d:Nat) (w:World) (hr:Rd w w.heap.size A (t.ts.flatMap cc)) (x:Rd w w.heap.size B (t.ds.flatMap cw)) :
 bz 17 #[bW t A c B d] w (.tuple #[.string (if dz t=0 then bs (jx t) else ⟨#[]⟩),ae (dz t)]):=by
 refine aq (N:=79) Tryz.func17 rfl rfl rfl (fun _ Y=>?_);have Z:=St.init w;refine ai (an ?_);refine nb Y rfl rfl Z fun b1 _ _ Zj Y Z=>GO 7 ?_;intro _ Y;refine sv (v:=bW t A c B d) Y (ag aa aa (Y.ev rfl) (Z.cellsAll (i:=0) rfl)) fun _ Y=>?_;refine cN Y rfl Z (da t A c B d _ (Z.rd0 hr) (Z.rd0 x)) fun _ _ Y Z=>?_;refine GO 9 ?_;intro _ Y;refine ak (Y.ev rfl) (fun C=>?_) (fun C=>?_)
 ·
  have J:¬dz t=0:=ar C;refine GO 9 ?_;intro _ Y;refine cd Y rfl rfl rfl ?_;refine⟨?_,Z.below⟩;rw[if_neg J]
 ·
  have D:dz t=0:=ar C;have K:=tblE_zero.1 D;have hn:=K.n;have hm:=K.m;refine GO 7 ?_;intro _ Y;refine sv Y (en (k0:=.i64) aa oy (Y.ev rfl)) fun _ Y=>?_;refine GO 3 ?_;intro _ Y;refine sv Y (en (k0:=.i64) aa oy (Y.ev rfl)) fun _ Y=>?_;refine bV Y (wn rfl) (f:=fun b=>.slice (some ⟨b,0,none⟩) 2 2) (bb bX aa aa (Y.evs2 rfl) rfl rfl rfl au au) rfl rfl Z fun o _ W Zg Y Z=>GO 1 ?_;intro _ Y;replace Z:=Z.toRow (i:=0) (n:=2) (sz:=1) rfl rfl au;replace Z:St [] w W [.row (.slice (some ⟨o,0,none⟩) 2 2) 2 5 1 [Value.int .u8 (IntKind.u8.wrap t.ts.length),.int .u8 (IntKind.u8.wrap t.ds.length)],.box b1 (bW t A c B d).cells 25]:=Z;rw[E4 t] at Z;refine GO 12 ?_;intro _ Y;refine aY Y Z [26,25,3,2,1] (fun (q:TbW)=>[(27,ae (q.k:Nat)),(5,.slice q.A q.n q.c)]) (fun (q:TbW)=>q.k≤t.ts.length∧q.n=2+11*q.k∧q.us=CP t q.k 0) (fun q L=>L.set 0 (.row (.slice q.A q.n q.c) q.n 5 1 (q.us.map bB))) (fun (q:TbW)=>t.ts.length-q.k) (⟨0,2,CP t 0 0,some ⟨o,0,none⟩,2⟩) (⟨Nat.zero_le _,rfl,rfl⟩) bN (Z) ?_;intro q _ _ a Y Z;refine GO 6 ?_;intro _ Y;refine ak (Y.ev rfl) (fun H=>?_) (fun H=>?_)
  ·
   have r:q.k<t.ts.length:=by have:=of_decide_eq_true H;omega
   obtain⟨b_,O,rfl,_⟩:=hr.opened (aQ bG au ab);refine wp_skip (aj (ai (wp_block (ai (an ?_)))));refine sv Y (av (i:=q.k) (sz:=4) ed aa (Y.ev rfl) (Y.ev rfl) ab ab rfl) fun _ Y=>?_;refine sv (v:=e9 t.ts[q.k]) Y (ag aa aa (Y.ev rfl) (aZ bG (Z.rd0 hr) r)) fun _ Y=>?_;refine na (.agg lG) Y rfl Z fun b7 _ _ Zk Y Z=>sw Y Z 0 fun _ Z=>?_;refine GO 7 ?_;intro _ Y;refine sv Y (en (k0:=.i64) aa qF (Y.ev rfl)) fun _ Y=>?_;refine kp Y (wn rfl) (az bc (Y.evs rfl) rfl) rfl rfl Z (i:=1) rfl (nm _ _ q.us _ (by rw[j0];omega) _ (Z.at_ (i:=1) rfl) (by have:=a.2.1;omega)) fun R V _ _ Y Z=>GO 8 ?_;intro _ Y;refine sv Y (en (k0:=.i64) aa ph (Y.ev rfl)) fun _ Y=>?_;refine kp Y (wn rfl) (az bc (Y.evs rfl) rfl) rfl rfl Z (i:=1) rfl (nH _ _ (q.us ++ lit (IntKind.u16.wrap t.ts[q.k].i) 2) _ (by rw[mJ];omega) _ (Z.at_ (i:=1) rfl) (by have:=a.2.1;omega)) fun P U _ _ Y Z=>GO 8 ?_;intro _ Y;refine sv Y (en (k0:=.i64) aa ph (Y.ev rfl)) fun _ Y=>?_;refine kp Y (wn rfl) (az bc (Y.evs rfl) rfl) rfl rfl Z (i:=1) rfl (nH _ _ ((q.us ++ lit (IntKind.u16.wrap t.ts[q.k].i) 2) ++ lit (IntKind.u32.wrap t.ts[q.k].l) 4) _ (by rw[mJ];omega) _ (Z.at_ (i:=1) rfl) (by have:=a.2.1;omega)) fun Jv T _ _ Y Z=>GO 7 ?_;intro _ Y;refine cU Y rfl (vy _ _) fun _ Y=>?_;refine bV Y (wn rfl) (f:=fun b=>.slice (some ⟨b,0,none⟩) 1 1) (bb bX aa aa (Y.evs2 rfl) rfl rfl rfl au au) rfl rfl Z fun Q _ _ Zh Y Z=>bP (z:=.int .u8 0) (sz:=1) (bytes:=1) Y (wn rfl) ⟨rfl,rfl⟩ rfl bX aa rfl rfl (Y.ev rfl) (Y.ev rfl) Z (i:=2) rfl (Z.boxRd (i:=0) rfl) rfl (List.all_eq_true.1 rfl) ⟨(by have:=a.2.1;omega),by decide⟩ fun F y _ _ Y Z=>GO 9 ?_;intro _ Y
   exact⟨⟨q.k+1,q.n+2+2+2+2+2+1,q.us ++ kJ t.ts[q.k],F,y⟩,(by show _-(q.k+1)<_;omega),⟨by show q.k+1≤_;omega,by show q.n+2+2+2+2+2+1=2+11*(q.k+1);have:=a.2.1;omega,by show q.us ++ _=_;rw[a.2.2,GN r]⟩,Y.re bN,(by have s:=(Z.sub (aL 12));rw[←A4] at s;exact s)⟩
  ·
   have p:q.k=t.ts.length:=by have:=of_decide_eq_false H;have:=a.1;omega
   refine GO 15 ?_;intro _ Y;refine aY Y Z [55,54,3,2] (fun (u:TbW)=>[(56,ae (u.k:Nat)),(5,.slice u.A u.n u.c)]) (fun (u:TbW)=>u.k≤t.ds.length∧u.n=2+11*t.ts.length+7*u.k∧u.us=CP t t.ts.length u.k) (fun u L=>L.set 0 (.row (.slice u.A u.n u.c) u.n 5 1 (u.us.map bB))) (fun (u:TbW)=>t.ds.length-u.k) (⟨0,q.n,q.us,q.A,q.c⟩) (⟨Nat.zero_le _,by show q.n=_;rw[a.2.1,p];rfl,by show q.us=_;rw[a.2.2,p]⟩) bN (Z) ?_;intro u _ _ h Y Z;refine GO 6 ?_;intro _ Y;refine ak (Y.ev rfl) (fun G=>?_) (fun G=>?_)
   ·
    have e:u.k<t.ds.length:=by have:=of_decide_eq_true G;omega
    obtain⟨b_,O,rfl,_⟩:=x.opened (aQ bU au ab);refine wp_skip (aj (ai (wp_block (ai (an ?_)))));refine sv Y (av (i:=u.k) (sz:=3) eP aa (Y.ev rfl) (Y.ev rfl) ab ab rfl) fun _ Y=>?_;refine sv (v:=fV t.ds[u.k]) Y (ag aa aa (Y.ev rfl) (aZ bU (Z.rd0 x) e)) fun _ Y=>?_;refine na (.agg ln) Y rfl Z fun b9 _ _ Zl Y Z=>sw Y Z 0 fun _ Z=>?_;refine GO 7 ?_;intro _ Y;refine sv Y (en (k0:=.i64) aa qF (Y.ev rfl)) fun _ Y=>?_;refine kp Y (wn rfl) (az bc (Y.evs rfl) rfl) rfl rfl Z (i:=1) rfl (nm _ _ u.us _ (by rw[j0];omega) _ (Z.at_ (i:=1) rfl) (by have:=h.2.1;omega)) fun S M _ _ Y Z=>GO 8 ?_;intro _ Y;refine cU Y rfl (vy _ _) fun _ Y=>?_;refine bV Y (wn rfl) (f:=fun b=>.slice (some ⟨b,0,none⟩) 1 1) (bb bX aa aa (Y.evs2 rfl) rfl rfl rfl au au) rfl rfl Z fun Jw _ _ Zi Y Z=>bP (z:=.int .u8 0) (sz:=1) (bytes:=1) Y (wn rfl) ⟨rfl,rfl⟩ rfl bX aa rfl rfl (Y.ev rfl) (Y.ev rfl) Z (i:=2) rfl (Z.boxRd (i:=0) rfl) rfl (List.all_eq_true.1 rfl) ⟨(by have:=h.2.1;omega),by decide⟩ fun X Jx _ _ Y Z=>?_;rw[sL,←List.map_append] at Z;refine GO 7 ?_;intro _ Y;refine sv Y (en (k0:=.i64) aa ph (Y.ev rfl)) fun _ Y=>?_;refine kp Y (wn rfl) (az bc (Y.evs rfl) rfl) rfl rfl Z (i:=2) rfl (nH _ _ ((u.us ++ lit (IntKind.u16.wrap t.ds[u.k].g) 2) ++ lit (ir t.ds[u.k].f) 1) _ (by rw[mJ];omega) _ (Z.at_ (i:=2) rfl) (by have:=h.2.1;omega)) fun E I _ _ Y Z=>GO 9 ?_;intro _ Y;exact⟨⟨u.k+1,u.n+2+1+2+2,u.us ++ kL t.ds[u.k],E,I⟩,(by show _-(u.k+1)<_;omega),⟨by show u.k+1≤_;omega,by show u.n+2+1+2+2=2+11*t.ts.length+7*(u.k+1);have:=h.2.1;omega,by show u.us ++ _=_;rw[h.2.2,GD e]⟩,Y.re bN,(by have s:=(Z.sub (aL 12));rw[←CD] at s;exact s)⟩
   ·
    have j:u.k=t.ds.length:=by have:=of_decide_eq_false G;have:=h.1;omega
    refine GO 8 ?_;intro _ Y;refine sv Y (EA bX oy dh (Y.ev rfl) (Z.at_ (i:=0) rfl)) fun _ Y=>?_;refine GO 5 ?_;intro _ Y;refine cd Y rfl rfl rfl ?_;refine⟨?_,Z.below⟩;rw[if_pos D,D,h.2.2,j,D2]
end Go.Proofs.YtcfdpfmchchkaaaGreatDoor
