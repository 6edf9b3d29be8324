/- Chapter 22 -/
import Derived.Test.YtcfdpfmchchkaaaGreatDoorRcA
import Derived.Test.YtcfdpfmchchkaaaGreatDoorRgB
namespace Go.Proofs.YtcfdpfmchchkaaaGreatDoor
set_option maxHeartbeats 1000000
set_option maxRecDepth 4000
set_option linter.unusedVariables false
set_option linter.unusedSimpArgs false
open Go.RowKit Go.Sort
def eX (x:Trn):Value:=.agg #[ae x.i,ae x.l,ae x.u,.bool x.c]
def iL (x:Dty):Value:=.agg #[ae x.g,.bool x.f,ae x.l]
def iR (x:Rcd):Value:=.agg #[ae x.l,ae x.e.k,ae x.e.t,ae x.e.p,ae x.e.x,ae x.e.g,.bool x.e.f,ae x.e.o.k,ae x.e.o.a,ae x.e.o.e,ae x.e.o.c,.string x.e.o.o,.string x.e.o.n,.string x.e.d]
def uT (x:Pgp):Value:=.agg #[ae x.g,.bool x.f,.string x.b]
def cc (t:Tbl) (A:Option Addr) (c:Nat) (B:Option Addr) (d:Nat):Value:=.agg #[.slice A t.ts.length c,.slice B t.ds.length d]
theorem aF {α:Type} {f:α→List Value} {n:Nat} (hf:∀x,(f x).length=n) (a:0<n) {l:List α} (h:0<l.length):0<(l.flatMap f).length:=by
 match l,h with
 | x::r,_=>rw[List.flatMap_cons,List.length_append,hf];omega
theorem w9 (g:Nat→Trn→Int) (l:List Trn) (A:Option Addr) (c:Nat) (f:FuncId) (n:List Value) (w:World) (hr:Rd w w.heap.size A (l.flatMap bW)) (x:l.length≤1000) (u:∀(vs:Array Value) (W:World),(callFunc f vs).run Tryz.prog W=.ok (.enter f vs) W)
 (t:∀X,Below w.heap.size w X→∀(k:Nat) (d:k<l.length),(∀m (hm:m<l.length),m<k→g m l[m]=0)→Calls Tryz.prog f ([ae k,eX l[k]] ++ n).toArray X fun e X'=>e=.returned (ae (g k l[k]))∧Below X.heap.size X X') :
 bu 60 #[.slice A l.length c,.func (.func f) #[] n.toArray] w (.tuple #[ae (df g 0 l).1,ae (df g 0 l).2]):=by
 refine an (N:=25) Tryz.func60 rfl rfl rfl (fun _ Y=>?_);have Z:=St.init w;refine GO 3 ?_;intro _ Y;refine GO 6 ?_;intro _ Y;refine GO 6 ?_;intro _ Y;refine aV Y Z [10,9,1] (fun (j:Nat)=>[(11,ae j)]) (fun (j:Nat)=>j≤l.length∧∀k (d:k<l.length),k<j→g k l[k]=0) (fun (j:Nat) L=>L) (fun (j:Nat)=>l.length-j) (0) (⟨Nat.zero_le _,fun k _ h=>by omega⟩) bC (Z) ?_;intro j _ _ p Y Z;refine GO 6 ?_;intro _ Y;refine ak (Y.ev rfl) (fun s=>?_) (fun s=>?_)
 ·
  have a:j<l.length:=by have:=of_decide_eq_true s;omega
  obtain⟨b,o,rfl,hB,_⟩:=hr.opened (aF bq au ab);refine GO 7 ?_;intro _ Y;refine sv Y (ar (i:=j) (sz:=4) dT aa (Y.ev rfl) (Y.ev rfl) ab ab rfl) fun _ Y=>?_;refine sv (v:=eX l[j]) Y (ah aa aa (Y.ev rfl) (aL bq (Z.rd0 hr) a)) fun _ Y=>?_;refine na (.agg lZ) Y rfl Z fun B _ _ z Y Z=>GO 1 ?_;intro _ Y;refine sw Y Z 0 fun _ Z=>?_;refine GO 6 ?_;intro _ Y;refine sv (v:=eX l[j]) Y (ah aa aa (Y.ev rfl) (Z.cellsAll (i:=0) rfl)) fun _ Y=>?_;refine dO Y (wn rfl) (cG u (Y.ev rfl) (Y.evs rfl) rfl) rfl rfl Z (t _ Z.below j a p.2) fun _ _ Y Z=>GO 9 ?_;intro _ Y;refine ak (Y.ev rfl) (fun r=>?_) (fun r=>?_)
  ·
   refine GO 14 ?_;intro _ Y;refine bU Y rfl rfl rfl ?_;have Y:g j l[j]≠0:=al r;have Y:=dU g l 0 j a (fun k d h=>by rw[Nat.zero_add];exact p.2 k d h) (by rw[Nat.zero_add];exact Y);exact⟨by rw[Y,Nat.zero_add],Z.below⟩
  ·
   refine GO 8 ?_;intro _ Y;exact⟨j+1,by omega,⟨a,fun k d h=>(Nat.lt_or_ge k j).elim (fun q=>p.2 k d q) (fun q=>by(obtain rfl:k=j:=by omega);simpa using r)⟩,Y.re bC,Z.sub (aB 0)⟩
 ·
  have y:l.length≤j:=by have:=of_decide_eq_false s;omega
  refine GO 12 ?_;intro _ Y;refine bU Y rfl rfl rfl ?_;exact⟨by rw[dx g l 0 (fun k d=>by rw[Nat.zero_add];exact p.2 k d ab)],Z.below⟩
theorem vU (g:Nat→Dty→Int) (l:List Dty) (A:Option Addr) (c:Nat) (f:FuncId) (n:List Value) (w:World) (hr:Rd w w.heap.size A (l.flatMap cN)) (x:l.length≤1000) (u:∀(vs:Array Value) (W:World),(callFunc f vs).run Tryz.prog W=.ok (.enter f vs) W)
 (t:∀X,Below w.heap.size w X→∀(k:Nat) (d:k<l.length),(∀m (hm:m<l.length),m<k→g m l[m]=0)→Calls Tryz.prog f ([ae k,iL l[k]] ++ n).toArray X fun e X'=>e=.returned (ae (g k l[k]))∧Below X.heap.size X X') :
 bu 65 #[.slice A l.length c,.func (.func f) #[] n.toArray] w (.tuple #[ae (df g 0 l).1,ae (df g 0 l).2]):=by
 refine an (N:=25) Tryz.func65 rfl rfl rfl (fun _ Y=>?_);have Z:=St.init w;refine GO 3 ?_;intro _ Y;refine GO 6 ?_;intro _ Y;refine GO 6 ?_;intro _ Y;refine aV Y Z [10,9,1] (fun (j:Nat)=>[(11,ae j)]) (fun (j:Nat)=>j≤l.length∧∀k (d:k<l.length),k<j→g k l[k]=0) (fun (j:Nat) L=>L) (fun (j:Nat)=>l.length-j) (0) (⟨Nat.zero_le _,fun k _ h=>by omega⟩) bC (Z) ?_;intro j _ _ p Y Z;refine GO 6 ?_;intro _ Y;refine ak (Y.ev rfl) (fun s=>?_) (fun s=>?_)
 ·
  have a:j<l.length:=by have:=of_decide_eq_true s;omega
  obtain⟨b,o,rfl,hB,_⟩:=hr.opened (aF dF au ab);refine GO 7 ?_;intro _ Y;refine sv Y (ar (i:=j) (sz:=3) iy aa (Y.ev rfl) (Y.ev rfl) ab ab rfl) fun _ Y=>?_;refine sv (v:=iL l[j]) Y (ah aa aa (Y.ev rfl) (aL dF (Z.rd0 hr) a)) fun _ Y=>?_;refine na (.agg oz) Y rfl Z fun B _ _ z Y Z=>GO 1 ?_;intro _ Y;refine sw Y Z 0 fun _ Z=>?_;refine GO 6 ?_;intro _ Y;refine sv (v:=iL l[j]) Y (ah aa aa (Y.ev rfl) (Z.cellsAll (i:=0) rfl)) fun _ Y=>?_;refine dO Y (wn rfl) (cG u (Y.ev rfl) (Y.evs rfl) rfl) rfl rfl Z (t _ Z.below j a p.2) fun _ _ Y Z=>GO 9 ?_;intro _ Y;refine ak (Y.ev rfl) (fun r=>?_) (fun r=>?_)
  ·
   refine GO 14 ?_;intro _ Y;refine bU Y rfl rfl rfl ?_;have Y:g j l[j]≠0:=al r;have Y:=dU g l 0 j a (fun k d h=>by rw[Nat.zero_add];exact p.2 k d h) (by rw[Nat.zero_add];exact Y);exact⟨by rw[Y,Nat.zero_add],Z.below⟩
  ·
   refine GO 8 ?_;intro _ Y;exact⟨j+1,by omega,⟨a,fun k d h=>(Nat.lt_or_ge k j).elim (fun q=>p.2 k d q) (fun q=>by(obtain rfl:k=j:=by omega);simpa using r)⟩,Y.re bC,Z.sub (aB 0)⟩
 ·
  have y:l.length≤j:=by have:=of_decide_eq_false s;omega
  refine GO 12 ?_;intro _ Y;refine bU Y rfl rfl rfl ?_;exact⟨by rw[dx g l 0 (fun k d=>by rw[Nat.zero_add];exact p.2 k d ab)],Z.below⟩
theorem wD (g:Nat→Pgp→Int) (l:List Pgp) (A:Option Addr) (c:Nat) (f:FuncId) (n:List Value) (w:World) (hr:Rd w w.heap.size A (l.flatMap bX)) (x:l.length≤1000) (u:∀(vs:Array Value) (W:World),(callFunc f vs).run Tryz.prog W=.ok (.enter f vs) W)
 (t:∀X,Below w.heap.size w X→∀(k:Nat) (d:k<l.length),(∀m (hm:m<l.length),m<k→g m l[m]=0)→Calls Tryz.prog f ([ae k,uT l[k]] ++ n).toArray X fun e X'=>e=.returned (ae (g k l[k]))∧Below X.heap.size X X') :
 bu 200 #[.slice A l.length c,.func (.func f) #[] n.toArray] w (.tuple #[ae (df g 0 l).1,ae (df g 0 l).2]):=by
 refine an (N:=25) Tryz.func200 rfl rfl rfl (fun _ Y=>?_);have Z:=St.init w;refine GO 3 ?_;intro _ Y;refine GO 6 ?_;intro _ Y;refine GO 6 ?_;intro _ Y;refine aV Y Z [10,9,1] (fun (j:Nat)=>[(11,ae j)]) (fun (j:Nat)=>j≤l.length∧∀k (d:k<l.length),k<j→g k l[k]=0) (fun (j:Nat) L=>L) (fun (j:Nat)=>l.length-j) (0) (⟨Nat.zero_le _,fun k _ h=>by omega⟩) bC (Z) ?_;intro j _ _ p Y Z;refine GO 6 ?_;intro _ Y;refine ak (Y.ev rfl) (fun s=>?_) (fun s=>?_)
 ·
  have a:j<l.length:=by have:=of_decide_eq_true s;omega
  obtain⟨b,o,rfl,hB,_⟩:=hr.opened (aF aY au ab);refine GO 7 ?_;intro _ Y;refine sv Y (ar (i:=j) (sz:=3) en aa (Y.ev rfl) (Y.ev rfl) ab ab rfl) fun _ Y=>?_;refine sv (v:=uT l[j]) Y (ah aa aa (Y.ev rfl) (aL aY (Z.rd0 hr) a)) fun _ Y=>?_;refine na (.agg GK) Y rfl Z fun B _ _ z Y Z=>GO 1 ?_;intro _ Y;refine sw Y Z 0 fun _ Z=>?_;refine GO 6 ?_;intro _ Y;refine sv (v:=uT l[j]) Y (ah aa aa (Y.ev rfl) (Z.cellsAll (i:=0) rfl)) fun _ Y=>?_;refine dO Y (wn rfl) (cG u (Y.ev rfl) (Y.evs rfl) rfl) rfl rfl Z (t _ Z.below j a p.2) fun _ _ Y Z=>GO 9 ?_;intro _ Y;refine ak (Y.ev rfl) (fun r=>?_) (fun r=>?_)
  ·
   refine GO 14 ?_;intro _ Y;refine bU Y rfl rfl rfl ?_;have Y:g j l[j]≠0:=al r;have Y:=dU g l 0 j a (fun k d h=>by rw[Nat.zero_add];exact p.2 k d h) (by rw[Nat.zero_add];exact Y);exact⟨by rw[Y,Nat.zero_add],Z.below⟩
  ·
   refine GO 8 ?_;intro _ Y;exact⟨j+1,by omega,⟨a,fun k d h=>(Nat.lt_or_ge k j).elim (fun q=>p.2 k d q) (fun q=>by(obtain rfl:k=j:=by omega);simpa using r)⟩,Y.re bC,Z.sub (aB 0)⟩
 ·
  have y:l.length≤j:=by have:=of_decide_eq_false s;omega
  refine GO 12 ?_;intro _ Y;refine bU Y rfl rfl rfl ?_;exact⟨by rw[dx g l 0 (fun k d=>by rw[Nat.zero_add];exact p.2 k d ab)],Z.below⟩
theorem wN (g:Nat→Rcd→Int) (l:List Rcd) (A:Option Addr) (c:Nat) (f:FuncId) (n:List Value) (w:World) (hr:Rd w w.heap.size A (l.flatMap cB)) (x:l.length≤1000) (u:∀(vs:Array Value) (W:World),(callFunc f vs).run Tryz.prog W=.ok (.enter f vs) W)
 (t:∀X,Below w.heap.size w X→∀(k:Nat) (d:k<l.length),(∀m (hm:m<l.length),m<k→g m l[m]=0)→Calls Tryz.prog f ([ae k,iR l[k]] ++ n).toArray X fun e X'=>e=.returned (ae (g k l[k]))∧Below X.heap.size X X') :
 bu 102 #[.slice A l.length c,.func (.func f) #[] n.toArray] w (.tuple #[ae (df g 0 l).1,ae (df g 0 l).2]):=by
 refine an (N:=25) Tryz.func102 rfl rfl rfl (fun _ Y=>?_);have Z:=St.init w;refine GO 3 ?_;intro _ Y;refine GO 6 ?_;intro _ Y;refine GO 6 ?_;intro _ Y;refine aV Y Z [10,9,1] (fun (j:Nat)=>[(11,ae j)]) (fun (j:Nat)=>j≤l.length∧∀k (d:k<l.length),k<j→g k l[k]=0) (fun (j:Nat) L=>L) (fun (j:Nat)=>l.length-j) (0) (⟨Nat.zero_le _,fun k _ h=>by omega⟩) bC (Z) ?_;intro j _ _ p Y Z;refine GO 6 ?_;intro _ Y;refine ak (Y.ev rfl) (fun s=>?_) (fun s=>?_)
 ·
  have a:j<l.length:=by have:=of_decide_eq_true s;omega
  obtain⟨b,o,rfl,hB,_⟩:=hr.opened (aF aI au ab);refine GO 7 ?_;intro _ Y;refine sv Y (ar (i:=j) (sz:=14) cO aa (Y.ev rfl) (Y.ev rfl) ab ab rfl) fun _ Y=>?_;refine sv (v:=iR l[j]) Y (ah aa aa (Y.ev rfl) (aL aI (Z.rd0 hr) a)) fun _ Y=>?_;refine na (.agg mi) Y rfl Z fun B _ _ z Y Z=>GO 1 ?_;intro _ Y;refine sw Y Z 0 fun _ Z=>?_;refine GO 6 ?_;intro _ Y;refine sv (v:=iR l[j]) Y (ah aa aa (Y.ev rfl) (Z.cellsAll (i:=0) rfl)) fun _ Y=>?_;refine dO Y (wn rfl) (cG u (Y.ev rfl) (Y.evs rfl) rfl) rfl rfl Z (t _ Z.below j a p.2) fun _ _ Y Z=>GO 9 ?_;intro _ Y;refine ak (Y.ev rfl) (fun r=>?_) (fun r=>?_)
  ·
   refine GO 14 ?_;intro _ Y;refine bU Y rfl rfl rfl ?_;have Y:g j l[j]≠0:=al r;have Y:=dU g l 0 j a (fun k d h=>by rw[Nat.zero_add];exact p.2 k d h) (by rw[Nat.zero_add];exact Y);exact⟨by rw[Y,Nat.zero_add],Z.below⟩
  ·
   refine GO 8 ?_;intro _ Y;exact⟨j+1,by omega,⟨a,fun k d h=>(Nat.lt_or_ge k j).elim (fun q=>p.2 k d q) (fun q=>by(obtain rfl:k=j:=by omega);simpa using r)⟩,Y.re bC,Z.sub (aB 0)⟩
 ·
  have y:l.length≤j:=by have:=of_decide_eq_false s;omega
  refine GO 12 ?_;intro _ Y;refine bU Y rfl rfl rfl ?_;exact⟨by rw[dx g l 0 (fun k d=>by rw[Nat.zero_add];exact p.2 k d ab)],Z.below⟩
def Az (l:List Trn) (i:Nat):Bool:=match da l i with
 | none=>true
 | some y=>match l[i]? with | none=>true | some x=>decide (y.i<x.i)
def AV (l:List Dty) (i:Nat):Bool:=match da l i with
 | none=>true
 | some y=>match l[i]? with | none=>true | some x=>decide (y.g<x.g)
theorem CD (t:Tbl) (A:Option Addr) (c:Nat) (B:Option Addr) (d i b:Nat) (T:TypeId) (w:World) (o:Box w b #[.slice A t.ts.length c,.slice B t.ds.length d] T) (hr:Rd w w.heap.size A (t.ts.flatMap bW)) (s:i<t.ts.length) (G:t.ts.length≤100) :
 bu 61 #[ae i,eX t.ts[i],.pointer (some ⟨b,0,none⟩)] w (ae (nJ (da t.ts i) t.ts[i])):=by
 obtain⟨b',o',rfl,_⟩:=hr.opened (aF bq au ab);refine an (N:=42) Tryz.func61 rfl rfl rfl (fun _ j=>?_);have Z:=St.init w;refine aj (aq ?_);refine nb j rfl rfl Z fun b4 _ _ F Y Z=>GO 7 ?_;intro _ Y;refine dn Y rfl (cg _ _ _ _) fun _ Y=>?_;refine GO 1 ?_;intro _ Y;apply a8 (x:=bB t.ts[i].l 1 2147483647) Y Z 10 rfl 4 14
 case ht=>
  intro v;refine GO 2 ?_;intro _ Y;refine cx Y (ao Y _ rfl rfl rfl v) (aw a6 (Y.evs rfl) rfl) rfl rfl (cg _ _ _ _) fun _ Y=>GO 1 ?_;intro _ Y;exact ag ⟨Y.midE 3,Z⟩
 case hf=>
  intro v;refine GO 4 ?_;intro _ Y;exact ag ⟨Y.midE 3,Z⟩
 case h=>
  rintro y J ⟨L,p⟩
  refine GO 1 ?_;intro _ Y;apply a8 (x:=bB t.ts[i].u 0 t.ts[i].l) Y p 15 rfl 6 21
  case ht=>
   intro r;refine GO 4 ?_;intro _ Y;refine cx Y (ao Y _ rfl rfl rfl r) (aw a6 (Y.evs rfl) rfl) rfl rfl (cg _ _ _ _) fun _ Y=>GO 1 ?_;intro _ Y;exact ag ⟨Y.midE 5,p⟩
  case hf=>
   intro r;refine GO 6 ?_;intro _ Y;exact ag ⟨Y.midE 5,p⟩
  case h=>
   rintro D I ⟨E,m⟩
   refine GO 4 ?_;intro _ Y;apply aK Y (fK 17) _ aa
   case h=>
    refine GO 1 ?_;intro _ Y;refine iW Y rfl (fun X a=>aX _ _ _) fun _ Y=>?_;refine GO 3 ?_;intro _ Y;apply fZ (x:=Az t.ts i) Y 26 rfl 12 38
    case hf=>
     intro q
     have n:i≠0:=by simp only[beq_eq_false_iff_ne] at q;omega
     have g:i-1<t.ts.length:=by omega
     have k:da t.ts i=some t.ts[i-1]:=by unfold da;rw[if_neg n,List.getElem?_eq_getElem g]
     refine qy Y (fun X a=>(fy 0 (Y.ev rfl))) fun _ Y=>?_;refine qy Y (fun X a=>(lx (Y.ev rfl) (Box.cells (o.below (m.grow a).below) 0))) fun _ Y=>?_;refine GO 2 ?_;intro _ Y;refine qy Y (fun X a=>(rn aa (Y.ev rfl) (Y.ev rfl))) fun _ Y=>?_;refine qy Y (fun X a=>(ar (i:=i-1) (sz:=4) dT aa (Y.ev rfl) (Y.ev rfl) ab ab rfl)) fun _ Y=>?_;refine qy Y (fun X a=>(fy 0 (Y.ev rfl))) fun _ Y=>?_;refine qy Y (fun X a=>(lx (Y.ev rfl) ((aL bq ((m.grow a).rd0 hr) g) 0 _ rfl))) fun _ Y=>?_;refine GO 2 ?_;intro _ Y;refine qy Y (fun X a=>(aA (v':=.bool (Az t.ts i)) (congrArg Value.bool (by unfold Az;rw[k,List.getElem?_eq_getElem s])) (nY (Y.ev rfl) (Y.ev rfl)))) fun _ Y=>?_;refine GO 1 ?_;intro _ Y;exact ax (Y.midE 11)
    case ht=>
     intro q;refine GO 12 ?_;intro _ Y;exact ax (Y.midE 11)
    case h=>
     intro _ Y;refine ax ?_;refine aT fun _ C H=>?_;have Z:=m.grow C;refine dn Y rfl (aX _ _ _) fun _ Y=>?_;refine bV Y (wn rfl) (f:=fun b=>.slice (some ⟨b,0,none⟩) 2 2) (ba dt aa aa (Y.evs2 rfl) rfl rfl rfl au au) rfl rfl Z fun z _ _ K Y Z=>dn Y rfl (ei (Z.at_ (i:=0) rfl)) fun _ Y=>?_;refine GO 4 ?_;intro _ Y;refine aC Y rfl rfl ?_;refine⟨?_,Z.below⟩
     have e:((i:Int)==0||Az t.ts i)=Az t.ts i:=by
      rcases Nat.eq_zero_or_pos i with j | j
      · subst j;rfl
      · rw[show((i:Int)==0)=false by rw[beq_eq_false_iff_ne];omega];rfl
     rw[e];unfold nJ Az;rw[List.getElem?_eq_getElem s]
     cases da t.ts i<;>rfl
   case hB=>kernel_rfl
   case hst=>rfl
theorem Cc (t:Tbl) (A:Option Addr) (c:Nat) (B:Option Addr) (d i b:Nat) (T:TypeId) (w:World) (o:Box w b #[.slice A t.ts.length c,.slice B t.ds.length d] T) (hr:Rd w w.heap.size B (t.ds.flatMap cN)) (q:i<t.ds.length) (z:t.ds.length≤100) :
 bu 66 #[ae i,iL t.ds[i],.pointer (some ⟨b,0,none⟩)] w (ae (nk (da t.ds i) t.ds[i])):=by
 obtain⟨b',o',rfl,_⟩:=hr.opened (aF dF au ab);refine an (N:=35) Tryz.func66 rfl rfl rfl (fun _ j=>?_);have Z:=St.init w;refine aj (aq ?_);refine nb j rfl rfl Z fun b4 _ _ C Y Z=>GO 7 ?_;intro _ Y;refine dn Y rfl (cg _ _ _ _) fun _ Y=>?_;refine GO 1 ?_;intro _ Y;apply a8 (x:=bB t.ds[i].l 1 2147483647) Y Z 10 rfl 4 14
 case ht=>
  intro r;refine GO 2 ?_;intro _ Y;refine cx Y (ao Y _ rfl rfl rfl r) (aw a6 (Y.evs rfl) rfl) rfl rfl (cg _ _ _ _) fun _ Y=>GO 1 ?_;intro _ Y;exact ag ⟨Y.midE 3,Z⟩
 case hf=>
  intro r;refine GO 4 ?_;intro _ Y;exact ag ⟨Y.midE 3,Z⟩
 case h=>
  rintro s F ⟨y,k⟩
  refine GO 4 ?_;intro _ Y;apply aK Y (fK 17) _ aa
  case h=>
   refine GO 1 ?_;intro _ Y;refine iW Y rfl (fun X a=>aX _ _ _) fun _ Y=>?_;refine GO 3 ?_;intro _ Y;apply fZ (x:=AV t.ds i) Y 19 rfl 12 31
   case hf=>
    intro p
    have n:i≠0:=by simp only[beq_eq_false_iff_ne] at p;omega
    have g:i-1<t.ds.length:=by omega
    have m:da t.ds i=some t.ds[i-1]:=by unfold da;rw[if_neg n,List.getElem?_eq_getElem g]
    refine qy Y (fun X a=>(fy 1 (Y.ev rfl))) fun _ Y=>?_;refine qy Y (fun X a=>(lx (Y.ev rfl) (Box.cells (o.below (k.grow a).below) 1))) fun _ Y=>?_;refine GO 2 ?_;intro _ Y;refine qy Y (fun X a=>(rn aa (Y.ev rfl) (Y.ev rfl))) fun _ Y=>?_;refine qy Y (fun X a=>(ar (i:=i-1) (sz:=3) iy aa (Y.ev rfl) (Y.ev rfl) ab ab rfl)) fun _ Y=>?_;refine qy Y (fun X a=>(fy 0 (Y.ev rfl))) fun _ Y=>?_;refine qy Y (fun X a=>(lx (Y.ev rfl) ((aL dF ((k.grow a).rd0 hr) g) 0 _ rfl))) fun _ Y=>?_;refine GO 2 ?_;intro _ Y;refine qy Y (fun X a=>(aA (v':=.bool (AV t.ds i)) (congrArg Value.bool (by unfold AV;rw[m,List.getElem?_eq_getElem q])) (nY (Y.ev rfl) (Y.ev rfl)))) fun _ Y=>?_;refine GO 1 ?_;intro _ Y;exact ax (Y.midE 11)
   case ht=>
    intro p;refine GO 12 ?_;intro _ Y;exact ax (Y.midE 11)
   case h=>
    intro _ Y;refine ax ?_;refine aT fun _ v D=>?_;have Z:=k.grow v;refine dn Y rfl (aX _ _ _) fun _ Y=>?_;refine bV Y (wn rfl) (f:=fun b=>.slice (some ⟨b,0,none⟩) 2 2) (ba dt aa aa (Y.evs2 rfl) rfl rfl rfl au au) rfl rfl Z fun u _ _ E Y Z=>dn Y rfl (ei (Z.at_ (i:=0) rfl)) fun _ Y=>?_;refine GO 4 ?_;intro _ Y;refine aC Y rfl rfl ?_;refine⟨?_,Z.below⟩
    have e:((i:Int)==0||AV t.ds i)=AV t.ds i:=by
     rcases Nat.eq_zero_or_pos i with j | j
     · subst j;rfl
     · rw[show((i:Int)==0)=false by rw[beq_eq_false_iff_ne];omega];rfl
    rw[e];unfold nk AV;rw[List.getElem?_eq_getElem q]
    cases da t.ds i<;>rfl
  case hB=>kernel_rfl
  case hst=>rfl
theorem dp (t:Tbl) (A:Option Addr) (c:Nat) (B:Option Addr) (d:Nat) (w:World) (hr:Rd w w.heap.size A (t.ts.flatMap bW)) (m:Rd w w.heap.size B (t.ds.flatMap cN)) :
 bu 15 #[cc t A c B d] w (ae (cZ t)):=by
 refine an (N:=33) Tryz.func15 rfl rfl rfl (fun _ Y=>?_);have Z:=St.init w;refine aj (aq ?_);refine nb Y rfl rfl Z fun b1 _ _ r Y Z=>GO 11 ?_;intro _ Y;apply bI (x:=decide ((t.ds.length:Int)>60)) Y Z 9 rfl 5 14
 case hf=>
  intro n;refine GO 5 ?_;intro _ Y;exact ag ⟨Y.midE 4,Z⟩
 case ht=>
  intro n;refine GO 5 ?_;intro _ Y;exact ag ⟨Y.midE 4,Z⟩
 case h=>
  rintro p u ⟨o,a⟩
  refine ag (ai ?_);refine ak (o.ev rfl) (fun j=>?_) (fun j=>?_)
  ·
   have e:60<t.ts.length∨60<t.ds.length:=by simp only[Bool.or_eq_true,decide_eq_true_eq] at j;omega
   refine GO 7 ?_;intro _ Y;refine aC Y rfl rfl ?_;refine⟨?_,a.below⟩;unfold cZ;rw[if_pos e]
  ·
   have s:t.ts.length≤60∧t.ds.length≤60:=by simp only[Bool.or_eq_false_iff,decide_eq_false_iff_not] at j;omega
   refine GO 6 ?_;intro _ Y;refine sv Y (fm (Y.evs rfl) (Y.evs rfl)) fun _ Y=>?_;refine cQ Y rfl a (w9 (fun k x=>nJ (da t.ts k) x) t.ts A c 61 [.pointer (some ⟨b1,0,none⟩)] _ (a.rd0 hr) ab a6 (fun X b k g l=>CD t A c B d k b1 _ X (Box.below (a.at_ (i:=0) rfl) b) ((a.rd0 hr).below' b) g ab)) fun _ _ Y Z=>?_;refine GO 14 ?_;intro _ Y;refine ak (Y.ev rfl) (fun f=>?_) (fun f=>?_)
   ·
    have hne:(lH t.ts).2≠0:=by unfold lH;simpa using f
    refine GO 8 ?_;intro _ Y;refine aC Y rfl rfl ?_;refine⟨?_,Z.below⟩;unfold cZ;rw[if_neg ab,if_pos hne];rfl
   ·
    have q:(lH t.ts).2=0:=by unfold lH;simpa using f
    refine GO 6 ?_;intro _ Y;refine sv Y (fm (Y.evs rfl) (Y.evs rfl)) fun _ Y=>?_;refine cQ Y rfl Z (vU (fun k x=>nk (da t.ds k) x) t.ds B d 66 [.pointer (some ⟨b1,0,none⟩)] _ (Z.rd0 m) ab a6 (fun X b k g l=>Cc t A c B d k b1 _ X (Box.below (Z.at_ (i:=0) rfl) b) ((Z.rd0 m).below' b) g ab)) fun _ _ Y Z=>?_;refine GO 13 ?_;intro _ Y;refine aC Y rfl rfl ?_;refine⟨?_,Z.below⟩;unfold cZ;rw[if_neg ab,if_neg (al q)];rfl
theorem wX (b:Bool) (w:World):gQ 69 #[.bool b] w (.int .u8 (sh b)):=by
 refine an (N:=4) Tryz.func69 rfl rfl rfl (fun _ Y=>?_);have c:=St.init w;refine GO 11 ?_;intro _ Y;refine ak (Y.ev rfl) (fun a=>?_) (fun a=>?_)
 ·
  refine GO 7 ?_;intro _ Y;refine aC Y rfl rfl ?_;exact⟨by rw[show b=true from a];rfl,rfl⟩
 ·
  refine GO 8 ?_;intro _ Y;refine aC Y rfl rfl ?_;exact⟨by rw[show b=false from a];rfl,rfl⟩
theorem jR (e:Lge) (w:World):bu 91 #[cy e] w (.bool (cb e)):=by
 refine an (N:=11) Tryz.func91 rfl rfl rfl (fun _ Y=>?_);have Z:=St.init w;refine aj (aq ?_);refine nb Y rfl rfl Z fun b1 _ _ d Y Z=>GO 9 ?_;intro _ Y;apply bI (x:=e.k==1) Y Z 6 rfl 4 10
 case hf=>
  intro a;refine GO 4 ?_;intro _ Y;exact ag ⟨Y.midE 3,Z⟩
 case ht=>
  intro a;refine GO 4 ?_;intro _ Y;exact ag ⟨Y.midE 3,Z⟩
 case h=>
  rintro c f ⟨g,b⟩
  refine GO 4 ?_;intro _ Y;refine aC Y rfl rfl ?_;exact⟨rfl,b.below⟩
open Go.RowKit Go.Sort
theorem nT (v:Value) (n:Nat) (us:List UInt8) (m:Int) (j:0≤m) (w:World) (g:w.ownsRow 0 5 1 v n (us.map bA)) (l:n≤100000) :
 Calls Tryz.prog 67 #[v,.int .u16 m] w fun r h=>∃A c,r=.returned (.slice A (n+2) c)∧St v.ownBlock.toList w h [.row (.slice A (n+2) c) (n+2) 5 1 ((us ++ lit m 2).map bA)]:=by
 refine an (N:=13) Tryz.func67 rfl rfl rfl (fun _ j=>?_);have Z:=St.initO g;refine GO 9 ?_;intro _ Y;refine sv Y (eQ (k0:=.i64) aa px (Y.ev rfl)) fun _ Y=>?_;refine GO 1 ?_;intro _ Y;refine sv Y (qh (n:=8) (Y.ev rfl) (Y.ev rfl) rfl ab) fun _ Y=>?_;refine sv Y (eQ (k0:=.i64) aa px (Y.ev rfl)) fun _ Y=>?_;refine bV Y (wn rfl) (f:=fun b=>.slice (some ⟨b,0,none⟩) 2 2) (ba bY aa aa (Y.evs2 rfl) rfl rfl rfl au au) rfl rfl Z fun e _ _ k Y Z=>bS (z:=.int .u8 0) (sz:=1) (bytes:=1) Y (wn rfl) ⟨rfl,rfl⟩ rfl bY aa rfl rfl (Y.ev rfl) (Y.ev rfl) Z (i:=1) rfl (Z.boxRd (i:=0) rfl) rfl (List.all_eq_true.1 rfl) ⟨ab,by decide⟩ fun d a _ _ Y Z=>?_;refine GO 4 ?_;intro _ Y;refine aC Y rfl rfl ?_;refine⟨d,a,rfl,?_⟩;have q:=(Z.sub (aB 2));rw[List.map_append,←xY];exact q
theorem nL (v:Value) (n:Nat) (us:List UInt8) (m:Int) (k:0≤m) (w:World) (h:w.ownsRow 0 5 1 v n (us.map bA)) (p:n≤90000) :
 Calls Tryz.prog 68 #[v,.int .u32 m] w fun r j=>∃A c,r=.returned (.slice A (n+2+2) c)∧St v.ownBlock.toList w j [.row (.slice A (n+2+2) c) (n+2+2) 5 1 ((us ++ lit m 4).map bA)]:=by
 refine an (N:=17) Tryz.func68 rfl rfl rfl (fun _ k=>?_);have Z:=St.initO h;refine GO 9 ?_;intro _ Y;refine sv Y (eQ (k0:=.i64) aa qL (Y.ev rfl)) fun _ Y=>?_;refine la Y (wn rfl) (aw a6 (Y.evs rfl) rfl) rfl rfl Z (i:=0) rfl (nT _ _ us _ (by rw[kR];omega) _ (Z.at_ (i:=0) rfl) ab) fun s o _ _ Y Z=>?_;refine GO 1 ?_;intro _ Y;refine sv Y (qh (n:=16) (Y.ev rfl) (Y.ev rfl) rfl ab) fun _ Y=>?_;refine sv Y (eQ (k0:=.i64) aa px (Y.ev rfl)) fun _ Y=>?_;refine GO 1 ?_;intro _ Y;refine sv Y (qh (n:=24) (Y.ev rfl) (Y.ev rfl) rfl ab) fun _ Y=>?_;refine sv Y (eQ (k0:=.i64) aa px (Y.ev rfl)) fun _ Y=>?_;refine bV Y (wn rfl) (f:=fun b=>.slice (some ⟨b,0,none⟩) 2 2) (ba bY aa aa (Y.evs2 rfl) rfl rfl rfl au au) rfl rfl Z fun g _ _ l Y Z=>bS (z:=.int .u8 0) (sz:=1) (bytes:=1) Y (wn rfl) ⟨rfl,rfl⟩ rfl bY aa rfl rfl (Y.ev rfl) (Y.ev rfl) Z (i:=1) rfl (Z.boxRd (i:=0) rfl) rfl (List.all_eq_true.1 rfl) ⟨ab,by decide⟩ fun a d _ _ Y Z=>?_;refine GO 4 ?_;intro _ Y;refine aC Y rfl rfl ?_;refine⟨a,d,rfl,?_⟩;have q:=(Z.sub (aB 2))
 have e:(us ++ lit m 4).map bA=(us ++ lit (IntKind.u16.wrap m) 2).map bA ++ [.int .u8 (IntKind.u8.wrap (m / 2 ^ 16)),.int .u8 (IntKind.u8.wrap (m / 2 ^ 24))]:=by
  rw[ou,ou,rO,kR];simp only[List.map_append,List.append_assoc];rfl
 rw[e];exact q
theorem jX (b o n c:Nat) (l:List UInt8) (w:World) (d:nN w b l) (h:o+2≤l.length) (j:2≤n) :
 bu 71 #[.slice (some ⟨b,o,none⟩) n c] w (.int .u16 (g16 l o)):=by
 have u1:=(l.getD o 0).toNat_lt;have f:=(l.getD (o+1) 0).toNat_lt;refine an (N:=13) Tryz.func71 rfl rfl rfl (fun _ Y=>?_);have Z:=St.init w;refine GO 6 ?_;intro _ Y;apply aK Y (fK 9) _ aa
 case h=>
  refine GO 1 ?_;intro _ Y;refine qv Y (fun X a=>ar (i:=0) (sz:=1) bY aa (Y.ev rfl) (Y.ev rfl) ab ab rfl) fun _ Y=>?_;refine qv (v:=bA (l.getD o 0)) Y (fun X a=>lx (Y.ev rfl) ((mH (i:=0) (jF d (Z.grow a).below) ab) 0 _ rfl)) fun _ Y=>?_;refine qv Y (fun X a=>cD aa qL (Y.ev rfl) (wrap_u16 ab)) fun _ Y=>?_;refine GO 1 ?_;intro _ Y;refine qv Y (fun X a=>ar (i:=1) (sz:=1) bY aa (Y.ev rfl) (Y.ev rfl) ab ab rfl) fun _ Y=>?_;refine qv (v:=bA (l.getD (o+1) 0)) Y (fun X a=>lx (Y.ev rfl) ((mH (i:=1) (jF d (Z.grow a).below) ab) 0 _ rfl)) fun _ Y=>?_;refine qv Y (fun X a=>cD aa qL (Y.ev rfl) (wrap_u16 ab)) fun _ Y=>?_;refine qv Y (fun X a=>yh (n:=8) (r:=((l.getD (o+1) 0).toNat:Int)*256) (Y.ev rfl) (Y.ev rfl) rfl (by rw[wrap_u16 ab];omega)) fun _ Y=>?_;refine ax ?_;refine aT fun _ e g=>?_;have Z:=Z.grow e;refine sv Y (nc (r:=g16 l o) rfl (Y.ev rfl) (Y.ev rfl) (AM u1 f)) fun _ Y=>?_;refine GO 4 ?_;intro _ Y;refine aC Y rfl rfl ?_;exact⟨rfl,Z.below⟩
 case hB=>kernel_rfl
 case hst=>rfl
theorem lU (b o n c:Nat) (l:List UInt8) (w:World) (i:nN w b l) (h:o+4≤l.length) (p:4≤n) (j:n≤c) :
 bu 72 #[.slice (some ⟨b,o,none⟩) n c] w (.int .u32 (y9 l o)):=by
 have u1:=n3 l o;have f:=n3 l (o+2);refine an (N:=12) Tryz.func72 rfl rfl rfl (fun _ Y=>?_);have Z:=St.init w;refine GO 6 ?_;intro _ Y;apply aK Y (fK 8) _ aa
 case h=>
  refine GO 1 ?_;intro _ Y;refine nH Y rfl (fun X d=>jX b o n c l _ (jF i (Z.grow d).below) ab ab) fun _ Y=>?_;refine qv Y (fun X d=>cD aa rP (Y.ev rfl) (wrap_u32 ab)) fun _ Y=>?_;refine GO 1 ?_;intro _ Y;refine qv Y (fun X d=>jN (l:=2) (h:=n) (sz:=1) bY aa (Y.ev rfl) (Y.ev rfl) rfl ab j (.inl ab) rfl) fun _ Y=>?_;refine nH Y rfl (fun X d=>jX b (o+2*1) (n-2) (c-2) l _ (jF i (Z.grow d).below) ab ab) fun _ Y=>?_;refine qv Y (fun X d=>cD aa rP (Y.ev rfl) (wrap_u32 (by show 0≤g16 l (o+2)∧g16 l (o+2)<4294967296;omega))) fun _ Y=>?_;refine qv Y (fun X d=>yh (n:=16) (r:=g16 l (o+2)*65536) (Y.ev rfl) (Y.ev rfl) rfl (by show IntKind.u32.wrap (g16 l (o+2)*2 ^ 16)=_;rw[wrap_u32 ab];omega)) fun _ Y=>?_;refine ax ?_;refine aT fun _ k m=>?_;have Z:=Z.grow k;refine sv Y (nc (r:=y9 l o) rfl (Y.ev rfl) (Y.ev rfl) (by obtain⟨a,g⟩:=Int.eq_ofNat_of_zero_le u1.1;obtain⟨b',e⟩:=Int.eq_ofNat_of_zero_le f.1;unfold y9;rw[g,e];rw[g] at u1;rw[e] at f;exact Aa ab ab)) fun _ Y=>?_;refine GO 4 ?_;intro _ Y;refine aC Y rfl rfl ?_;exact⟨rfl,Z.below⟩
 case hB=>kernel_rfl
 case hst=>rfl
structure TbW where
 k:Nat
 n:Nat
 us:List UInt8
 A:Option Addr
 c:Nat
theorem Dk {n:Int}:lit (IntKind.u32.wrap n) 4=lit n 4:=by
 rw[mA,vO,vO n]
 have a:n % 4294967296 % 65536=n % 65536:=by omega
 have b:n % 4294967296 / 2 ^ 16 % 65536=n / 2 ^ 16 % 65536:=by omega
 rw[a,b]
theorem Gc {n:Int}:lit (IntKind.u16.wrap n) 2=lit n 2:=by
 rw[kR]
 have a:n % 65536 % 256=n % 256:=by omega
 have b:n % 65536 / 256 % 256=n / 256 % 256:=by omega
 simp only[lit,a,b]
theorem Fp (t:Tbl):[Value.int .u8 (IntKind.u8.wrap t.ts.length),.int .u8 (IntKind.u8.wrap t.ds.length)]=((lit t.ts.length 1 ++ lit t.ds.length 1 ++ ([] ++ []):List UInt8)).map bA:=by
 rw[ou,ou];rfl
theorem sH (b:Bool):[Value.int .u8 (sh b)]=(lit (sh b) 1).map bA:=by cases b<;>rfl
theorem Ec (us:List UInt8) (x:Trn):(us ++ AJ x).map bA=(((us ++ lit (IntKind.u16.wrap x.i) 2) ++ lit (IntKind.u32.wrap x.l) 4) ++ lit (IntKind.u32.wrap x.u) 4).map bA ++ [Value.int .u8 (sh x.c)]:=by
 rw[sH,←List.map_append]
 congr 1
 rw[Gc,Dk,Dk];unfold AJ;simp only[List.append_assoc]
theorem Dp (us:List UInt8) (x:Dty):(us ++ Ax x).map bA=(((us ++ lit (IntKind.u16.wrap x.g) 2) ++ lit (sh x.f) 1) ++ lit (IntKind.u32.wrap x.l) 4).map bA:=by
 congr 1
 rw[Gc,Dk];unfold Ax;simp only[List.append_assoc]
def Cy (t:Tbl) (k j:Nat):List UInt8:=lit t.ts.length 1 ++ lit t.ds.length 1 ++ ((t.ts.take k).flatMap AJ ++ (t.ds.take j).flatMap Ax)
theorem Ig {t:Tbl} {k:Nat} (a:k<t.ts.length):Cy t (k+1) 0=Cy t k 0 ++ AJ t.ts[k]:=by
 unfold Cy;rw[List.take_succ_eq_append_getElem a,List.flatMap_append];simp
theorem H6 {t:Tbl} {k j:Nat} (a:j<t.ds.length):Cy t k (j+1)=Cy t k j ++ Ax t.ds[j]:=by
 unfold Cy;rw[List.take_succ_eq_append_getElem a,List.flatMap_append];simp
theorem E9 (t:Tbl):Cy t t.ts.length t.ds.length=Ey t:=by
 unfold Cy Ey;rw[List.take_length,List.take_length]
theorem rC (t:Tbl) (A:Option Addr) (c:Nat) (B:Option Addr) (d:Nat) (w:World) (hr:Rd w w.heap.size A (t.ts.flatMap bW)) (C:Rd w w.heap.size B (t.ds.flatMap cN)) :
 bu 17 #[cc t A c B d] w (.tuple #[.string (if cZ t=0 then bs (Ey t) else ⟨#[]⟩),ae (cZ t)]):=by
 refine an (N:=79) Tryz.func17 rfl rfl rfl (fun _ Y=>?_);have Z:=St.init w;refine aj (aq ?_);refine nb Y rfl rfl Z fun b1 _ _ Zj Y Z=>GO 7 ?_;intro _ Y;refine sv (v:=cc t A c B d) Y (ah aa aa (Y.ev rfl) (Z.cellsAll (i:=0) rfl)) fun _ Y=>?_;refine cQ Y rfl Z (dp t A c B d _ (Z.rd0 hr) (Z.rd0 C)) fun _ _ Y Z=>?_;refine GO 9 ?_;intro _ Y;refine ak (Y.ev rfl) (fun x=>?_) (fun x=>?_)
 ·
  have hne:¬cZ t=0:=al x;refine GO 9 ?_;intro _ Y;refine bU Y rfl rfl rfl ?_;refine⟨?_,Z.below⟩;rw[if_neg hne]
 ·
  have y:cZ t=0:=al x;have J:=tblE_zero.1 y;have hn:=J.n;have hm:=J.m;refine GO 7 ?_;intro _ Y;refine sv Y (eQ (k0:=.i64) aa px (Y.ev rfl)) fun _ Y=>?_;refine GO 3 ?_;intro _ Y;refine sv Y (eQ (k0:=.i64) aa px (Y.ev rfl)) fun _ Y=>?_;refine bV Y (wn rfl) (f:=fun b=>.slice (some ⟨b,0,none⟩) 2 2) (ba bY aa aa (Y.evs2 rfl) rfl rfl rfl au au) rfl rfl Z fun s _ W Zg Y Z=>GO 1 ?_;intro _ Y;replace Z:=Z.toRow (i:=0) (n:=2) (sz:=1) rfl rfl au;replace Z:St [] w W [.row (.slice (some ⟨s,0,none⟩) 2 2) 2 5 1 [Value.int .u8 (IntKind.u8.wrap t.ts.length),.int .u8 (IntKind.u8.wrap t.ds.length)],.box b1 (cc t A c B d).cells 25]:=Z;rw[Fp t] at Z;refine GO 12 ?_;intro _ Y;refine aV Y Z [26,25,3,2,1] (fun (q:TbW)=>[(27,ae (q.k:Nat)),(5,.slice q.A q.n q.c)]) (fun (q:TbW)=>q.k≤t.ts.length∧q.n=2+11*q.k∧q.us=Cy t q.k 0) (fun q L=>L.set 0 (.row (.slice q.A q.n q.c) q.n 5 1 (q.us.map bA))) (fun (q:TbW)=>t.ts.length-q.k) (⟨0,2,Cy t 0 0,some ⟨s,0,none⟩,2⟩) (⟨Nat.zero_le _,rfl,rfl⟩) bC (Z) ?_;intro q _ _ a Y Z;refine GO 6 ?_;intro _ Y;refine ak (Y.ev rfl) (fun D=>?_) (fun D=>?_)
  ·
   have o:q.k<t.ts.length:=by have:=of_decide_eq_true D;omega
   obtain⟨O,P,rfl,_⟩:=hr.opened (aF bq au ab);refine wp_skip (ai (aj (wp_block (aj (aq ?_)))));refine sv Y (ar (i:=q.k) (sz:=4) dT aa (Y.ev rfl) (Y.ev rfl) ab ab rfl) fun _ Y=>?_;refine sv (v:=eX t.ts[q.k]) Y (ah aa aa (Y.ev rfl) (aL bq (Z.rd0 hr) o)) fun _ Y=>?_;refine na (.agg lZ) Y rfl Z fun b7 _ _ Zk Y Z=>sw Y Z 0 fun _ Z=>?_;refine GO 7 ?_;intro _ Y;refine sv Y (eQ (k0:=.i64) aa qL (Y.ev rfl)) fun _ Y=>?_;refine la Y (wn rfl) (aw a6 (Y.evs rfl) rfl) rfl rfl Z (i:=1) rfl (nT _ _ q.us _ (by rw[kR];omega) _ (Z.at_ (i:=1) rfl) (by have:=a.2.1;omega)) fun R X _ _ Y Z=>GO 8 ?_;intro _ Y;refine sv Y (eQ (k0:=.i64) aa rP (Y.ev rfl)) fun _ Y=>?_;refine la Y (wn rfl) (aw a6 (Y.evs rfl) rfl) rfl rfl Z (i:=1) rfl (nL _ _ (q.us ++ lit (IntKind.u16.wrap t.ts[q.k].i) 2) _ (by rw[mA];omega) _ (Z.at_ (i:=1) rfl) (by have:=a.2.1;omega)) fun S M _ _ Y Z=>GO 8 ?_;intro _ Y;refine sv Y (eQ (k0:=.i64) aa rP (Y.ev rfl)) fun _ Y=>?_;refine la Y (wn rfl) (aw a6 (Y.evs rfl) rfl) rfl rfl Z (i:=1) rfl (nL _ _ ((q.us ++ lit (IntKind.u16.wrap t.ts[q.k].i) 2) ++ lit (IntKind.u32.wrap t.ts[q.k].l) 4) _ (by rw[mA];omega) _ (Z.at_ (i:=1) rfl) (by have:=a.2.1;omega)) fun Jv Q _ _ Y Z=>GO 7 ?_;intro _ Y;refine dn Y rfl (wX _ _) fun _ Y=>?_;refine bV Y (wn rfl) (f:=fun b=>.slice (some ⟨b,0,none⟩) 1 1) (ba bY aa aa (Y.evs2 rfl) rfl rfl rfl au au) rfl rfl Z fun K _ _ Zh Y Z=>bS (z:=.int .u8 0) (sz:=1) (bytes:=1) Y (wn rfl) ⟨rfl,rfl⟩ rfl bY aa rfl rfl (Y.ev rfl) (Y.ev rfl) Z (i:=2) rfl (Z.boxRd (i:=0) rfl) rfl (List.all_eq_true.1 rfl) ⟨(by have:=a.2.1;omega),by decide⟩ fun E I _ _ Y Z=>GO 9 ?_;intro _ Y
   exact⟨⟨q.k+1,q.n+2+2+2+2+2+1,q.us ++ AJ t.ts[q.k],E,I⟩,(by show _-(q.k+1)<_;omega),⟨by show q.k+1≤_;omega,by show q.n+2+2+2+2+2+1=2+11*(q.k+1);have:=a.2.1;omega,by show q.us ++ _=_;rw[a.2.2,Ig o]⟩,Y.re bC,(by have p:=(Z.sub (aB 12));rw[←Ec] at p;exact p)⟩
  ·
   have j:q.k=t.ts.length:=by have:=of_decide_eq_false D;have:=a.1;omega
   refine GO 15 ?_;intro _ Y;refine aV Y Z [55,54,3,2] (fun (u:TbW)=>[(56,ae (u.k:Nat)),(5,.slice u.A u.n u.c)]) (fun (u:TbW)=>u.k≤t.ds.length∧u.n=2+11*t.ts.length+7*u.k∧u.us=Cy t t.ts.length u.k) (fun u L=>L.set 0 (.row (.slice u.A u.n u.c) u.n 5 1 (u.us.map bA))) (fun (u:TbW)=>t.ds.length-u.k) (⟨0,q.n,q.us,q.A,q.c⟩) (⟨Nat.zero_le _,by show q.n=_;rw[a.2.1,j];rfl,by show q.us=_;rw[a.2.2,j]⟩) bC (Z) ?_;intro u _ _ h Y Z;refine GO 6 ?_;intro _ Y;refine ak (Y.ev rfl) (fun G=>?_) (fun G=>?_)
   ·
    have e:u.k<t.ds.length:=by have:=of_decide_eq_true G;omega
    obtain⟨O,P,rfl,_⟩:=C.opened (aF dF au ab);refine wp_skip (ai (aj (wp_block (aj (aq ?_)))));refine sv Y (ar (i:=u.k) (sz:=3) iy aa (Y.ev rfl) (Y.ev rfl) ab ab rfl) fun _ Y=>?_;refine sv (v:=iL t.ds[u.k]) Y (ah aa aa (Y.ev rfl) (aL dF (Z.rd0 C) e)) fun _ Y=>?_;refine na (.agg oz) Y rfl Z fun b9 _ _ Zl Y Z=>sw Y Z 0 fun _ Z=>?_;refine GO 7 ?_;intro _ Y;refine sv Y (eQ (k0:=.i64) aa qL (Y.ev rfl)) fun _ Y=>?_;refine la Y (wn rfl) (aw a6 (Y.evs rfl) rfl) rfl rfl Z (i:=1) rfl (nT _ _ u.us _ (by rw[kR];omega) _ (Z.at_ (i:=1) rfl) (by have:=h.2.1;omega)) fun Jw V _ _ Y Z=>GO 8 ?_;intro _ Y;refine dn Y rfl (wX _ _) fun _ Y=>?_;refine bV Y (wn rfl) (f:=fun b=>.slice (some ⟨b,0,none⟩) 1 1) (ba bY aa aa (Y.evs2 rfl) rfl rfl rfl au au) rfl rfl Z fun U _ _ Zi Y Z=>bS (z:=.int .u8 0) (sz:=1) (bytes:=1) Y (wn rfl) ⟨rfl,rfl⟩ rfl bY aa rfl rfl (Y.ev rfl) (Y.ev rfl) Z (i:=2) rfl (Z.boxRd (i:=0) rfl) rfl (List.all_eq_true.1 rfl) ⟨(by have:=h.2.1;omega),by decide⟩ fun Jx T _ _ Y Z=>?_;rw[sH,←List.map_append] at Z;refine GO 7 ?_;intro _ Y;refine sv Y (eQ (k0:=.i64) aa rP (Y.ev rfl)) fun _ Y=>?_;refine la Y (wn rfl) (aw a6 (Y.evs rfl) rfl) rfl rfl Z (i:=2) rfl (nL _ _ ((u.us ++ lit (IntKind.u16.wrap t.ds[u.k].g) 2) ++ lit (sh t.ds[u.k].f) 1) _ (by rw[mA];omega) _ (Z.at_ (i:=2) rfl) (by have:=h.2.1;omega)) fun F H _ _ Y Z=>GO 9 ?_;intro _ Y;exact⟨⟨u.k+1,u.n+2+1+2+2,u.us ++ Ax t.ds[u.k],F,H⟩,(by show _-(u.k+1)<_;omega),⟨by show u.k+1≤_;omega,by show u.n+2+1+2+2=2+11*t.ts.length+7*(u.k+1);have:=h.2.1;omega,by show u.us ++ _=_;rw[h.2.2,H6 e]⟩,Y.re bC,(by have p:=(Z.sub (aB 12));rw[←Dp] at p;exact p)⟩
   ·
    have r:u.k=t.ds.length:=by have:=of_decide_eq_false G;have:=h.1;omega
    refine GO 8 ?_;intro _ Y;refine sv Y (EH bY px dr (Y.ev rfl) (Z.at_ (i:=0) rfl)) fun _ Y=>?_;refine GO 5 ?_;intro _ Y;refine bU Y rfl rfl rfl ?_;refine⟨?_,Z.below⟩;rw[if_pos y,y,h.2.2,r,E9]
end Go.Proofs.YtcfdpfmchchkaaaGreatDoor
