/-
  Chapter 22: small functions, tables checked.
  Chapter 22: numbers in bytes; the bytes of a table.
-/
import Derived.Test.YtcfdpfmchchkaaaGreatDoorRcA
import Derived.Test.YtcfdpfmchchkaaaGreatDoorRgB
namespace Go.Proofs.YtcfdpfmchchkaaaGreatDoor
set_option maxHeartbeats 1000000
set_option maxRecDepth 4000
set_option linter.unusedVariables false
set_option linter.unusedSimpArgs false
open Go.RowKit Go.Sort
def eZ (x:Trn):Value:=.agg #[.int .i64 x.i,.int .i64 x.l,.int .i64 x.u,.bool x.c]
def fM (x:Dty):Value:=.agg #[.int .i64 x.g,.bool x.f,.int .i64 x.l]
def fk (x:Rcd):Value:=.agg #[.int .i64 x.l,.int .i64 x.e.k,.int .i64 x.e.t,.int .i64 x.e.p,.int .i64 x.e.x,.int .i64 x.e.g,.bool x.e.f,.int .i64 x.e.o.k,.int .i64 x.e.o.a,.int .i64 x.e.o.e,.int .i64 x.e.o.c,.string x.e.o.o,.string x.e.o.n,.string x.e.d]
def tL (x:Pgp):Value:=.agg #[.int .i64 x.g,.bool x.f,.string x.b]
def cB (t:Tbl) (A:Option Addr) (c:Nat) (B:Option Addr) (d:Nat):Value:=.agg #[.slice A t.ts.length c,.slice B t.ds.length d]
theorem aK {α:Type} {f:α→List Value} {n:Nat} (hf:∀x,(f x).length=n) (hn:0<n) {l:List α} (h:0<l.length):0<(l.flatMap f).length:=by
 match l,h with
 | x::r,_=>rw[List.flatMap_cons,List.length_append,hf];omega
theorem qL (g:Nat→Trn→Int) (l:List Trn) (A:Option Addr) (c:Nat) (f:FuncId) (cap:List Value) (w:World) (hr:Rd w w.heap.size A (l.flatMap cp)) (hlen:l.length≤1000) (hfc:∀(vs:Array Value) (W:World),(callFunc f vs).run Tryz.prog W=.ok (.enter f vs) W)
 (hcl:∀X,Below w.heap.size w X→∀(k:Nat) (hk:k<l.length),(∀m (hm:m<l.length),m<k→g m l[m]=0)→Calls Tryz.prog f ([.int .i64 k,eZ l[k]] ++ cap).toArray X fun e X'=>e=.returned (.int .i64 (g k l[k]))∧Below X.heap.size X X') :
 Calls Tryz.prog 60 #[.slice A l.length c,.func (.func f) #[] cap.toArray] w fun e w'=>e=.returned (.tuple #[.int .i64 (cH g 0 l).1,.int .i64 (cH g 0 l).2])∧Below w.heap.size w w':=by
 refine ao (N:=25) Tryz.func60 rfl rfl rfl (fun _ Y=>?_);have Z:=St.init w;refine GO 3 ?_;intro _ Y;refine GO 6 ?_;intro _ Y;refine GO 6 ?_;intro _ Y;refine aY Y Z [10,9,1] (fun (j:Nat)=>[(11,.int .i64 j)]) (fun (j:Nat)=>j≤l.length∧∀k (hk:k<l.length),k<j→g k l[k]=0) (fun (j:Nat) L=>L) (fun (j:Nat)=>l.length-j) (0) (⟨Nat.zero_le _,fun k _ h=>by omega⟩) bD (Z) ?_;intro j _ _ Za Y Z;refine GO 6 ?_;intro _ Y;refine ak (Y.ev rfl) (fun Zb=>?_) (fun Zb=>?_)
 ·
  have hlt:j<l.length:=by have:=of_decide_eq_true Zb;omega
  obtain⟨b,o,rfl,hB,_⟩:=hr.opened (aK cC ar ab);refine GO 7 ?_;intro _ Y;refine sv Y (av (i:=j) (sz:=4) Tryz.underlying22 aa (Y.ev rfl) (Y.ev rfl) ab ab rfl) fun _ Y=>?_;refine sv (v:=eZ l[j]) Y (ah aa aa (Y.ev rfl) (aW cC (Z.rd0 hr) hlt)) fun _ Y=>?_;refine na (.agg #[.int .i64 0,.int .i64 0,.int .i64 0,.bool false]) Y rfl Z fun b7 _ _ Zd Y Z=>?_;refine GO 1 ?_;intro _ Y;refine sw Y Z 0 fun _ Z=>?_;refine GO 6 ?_;intro _ Y;refine sv (v:=eZ l[j]) Y (ah aa aa (Y.ev rfl) (Z.cellsAll (i:=0) rfl)) fun _ Y=>?_;refine dp Y (wn rfl) (cF hfc (Y.ev rfl) (Y.evs rfl) rfl) rfl rfl Z (hcl _ Z.below j hlt Za.2) fun _ _ Y Z=>?_;refine GO 9 ?_;intro _ Y;refine ak (Y.ev rfl) (fun Zc=>?_) (fun Zc=>?_)
  ·
   refine GO 14 ?_;intro _ Y;refine bW Y rfl rfl rfl ?_
   have Y:g j l[j]≠0:=by simpa using Zc
   have Y:=cX g l 0 j hlt (fun k hk h=>by rw[Nat.zero_add];exact Za.2 k hk h) (by rw[Nat.zero_add];exact Y);exact⟨by rw[Y,Nat.zero_add],Z.below⟩
  ·
   refine GO 8 ?_;intro _ Y;exact⟨j+1,by omega,⟨hlt,fun k hk h=>(Nat.lt_or_ge k j).elim (fun q=>Za.2 k hk q) (fun q=>by(obtain rfl:k=j:=by omega);simpa using Zc)⟩,Y.re bD,Z.sub (.cons _ .slnil)⟩
 ·
  have hge:l.length≤j:=by have:=of_decide_eq_false Zb;omega
  refine GO 12 ?_;intro _ Y;refine bW Y rfl rfl rfl ?_;exact⟨by rw[cU g l 0 (fun k hk=>by rw[Nat.zero_add];exact Za.2 k hk ab)],Z.below⟩
theorem rm (g:Nat→Dty→Int) (l:List Dty) (A:Option Addr) (c:Nat) (f:FuncId) (cap:List Value) (w:World) (hr:Rd w w.heap.size A (l.flatMap cP)) (hlen:l.length≤1000) (hfc:∀(vs:Array Value) (W:World),(callFunc f vs).run Tryz.prog W=.ok (.enter f vs) W)
 (hcl:∀X,Below w.heap.size w X→∀(k:Nat) (hk:k<l.length),(∀m (hm:m<l.length),m<k→g m l[m]=0)→Calls Tryz.prog f ([.int .i64 k,fM l[k]] ++ cap).toArray X fun e X'=>e=.returned (.int .i64 (g k l[k]))∧Below X.heap.size X X') :
 Calls Tryz.prog 65 #[.slice A l.length c,.func (.func f) #[] cap.toArray] w fun e w'=>e=.returned (.tuple #[.int .i64 (cH g 0 l).1,.int .i64 (cH g 0 l).2])∧Below w.heap.size w w':=by
 refine ao (N:=25) Tryz.func65 rfl rfl rfl (fun _ Y=>?_);have Z:=St.init w;refine GO 3 ?_;intro _ Y;refine GO 6 ?_;intro _ Y;refine GO 6 ?_;intro _ Y;refine aY Y Z [10,9,1] (fun (j:Nat)=>[(11,.int .i64 j)]) (fun (j:Nat)=>j≤l.length∧∀k (hk:k<l.length),k<j→g k l[k]=0) (fun (j:Nat) L=>L) (fun (j:Nat)=>l.length-j) (0) (⟨Nat.zero_le _,fun k _ h=>by omega⟩) bD (Z) ?_;intro j _ _ Za Y Z;refine GO 6 ?_;intro _ Y;refine ak (Y.ev rfl) (fun Zb=>?_) (fun Zb=>?_)
 ·
  have hlt:j<l.length:=by have:=of_decide_eq_true Zb;omega
  obtain⟨b,o,rfl,hB,_⟩:=hr.opened (aK dg ar ab);refine GO 7 ?_;intro _ Y;refine sv Y (av (i:=j) (sz:=3) Tryz.underlying23 aa (Y.ev rfl) (Y.ev rfl) ab ab rfl) fun _ Y=>?_;refine sv (v:=fM l[j]) Y (ah aa aa (Y.ev rfl) (aW dg (Z.rd0 hr) hlt)) fun _ Y=>?_;refine na (.agg #[.int .i64 0,.bool false,.int .i64 0]) Y rfl Z fun b7 _ _ Zd Y Z=>?_;refine GO 1 ?_;intro _ Y;refine sw Y Z 0 fun _ Z=>?_;refine GO 6 ?_;intro _ Y;refine sv (v:=fM l[j]) Y (ah aa aa (Y.ev rfl) (Z.cellsAll (i:=0) rfl)) fun _ Y=>?_;refine dp Y (wn rfl) (cF hfc (Y.ev rfl) (Y.evs rfl) rfl) rfl rfl Z (hcl _ Z.below j hlt Za.2) fun _ _ Y Z=>?_;refine GO 9 ?_;intro _ Y;refine ak (Y.ev rfl) (fun Zc=>?_) (fun Zc=>?_)
  ·
   refine GO 14 ?_;intro _ Y;refine bW Y rfl rfl rfl ?_
   have Y:g j l[j]≠0:=by simpa using Zc
   have Y:=cX g l 0 j hlt (fun k hk h=>by rw[Nat.zero_add];exact Za.2 k hk h) (by rw[Nat.zero_add];exact Y);exact⟨by rw[Y,Nat.zero_add],Z.below⟩
  ·
   refine GO 8 ?_;intro _ Y;exact⟨j+1,by omega,⟨hlt,fun k hk h=>(Nat.lt_or_ge k j).elim (fun q=>Za.2 k hk q) (fun q=>by(obtain rfl:k=j:=by omega);simpa using Zc)⟩,Y.re bD,Z.sub (.cons _ .slnil)⟩
 ·
  have hge:l.length≤j:=by have:=of_decide_eq_false Zb;omega
  refine GO 12 ?_;intro _ Y;refine bW Y rfl rfl rfl ?_;exact⟨by rw[cU g l 0 (fun k hk=>by rw[Nat.zero_add];exact Za.2 k hk ab)],Z.below⟩
theorem rI (g:Nat→Pgp→Int) (l:List Pgp) (A:Option Addr) (c:Nat) (f:FuncId) (cap:List Value) (w:World) (hr:Rd w w.heap.size A (l.flatMap cE)) (hlen:l.length≤1000) (hfc:∀(vs:Array Value) (W:World),(callFunc f vs).run Tryz.prog W=.ok (.enter f vs) W)
 (hcl:∀X,Below w.heap.size w X→∀(k:Nat) (hk:k<l.length),(∀m (hm:m<l.length),m<k→g m l[m]=0)→Calls Tryz.prog f ([.int .i64 k,tL l[k]] ++ cap).toArray X fun e X'=>e=.returned (.int .i64 (g k l[k]))∧Below X.heap.size X X') :
 Calls Tryz.prog 200 #[.slice A l.length c,.func (.func f) #[] cap.toArray] w fun e w'=>e=.returned (.tuple #[.int .i64 (cH g 0 l).1,.int .i64 (cH g 0 l).2])∧Below w.heap.size w w':=by
 refine ao (N:=25) Tryz.func200 rfl rfl rfl (fun _ Y=>?_);have Z:=St.init w;refine GO 3 ?_;intro _ Y;refine GO 6 ?_;intro _ Y;refine GO 6 ?_;intro _ Y;refine aY Y Z [10,9,1] (fun (j:Nat)=>[(11,.int .i64 j)]) (fun (j:Nat)=>j≤l.length∧∀k (hk:k<l.length),k<j→g k l[k]=0) (fun (j:Nat) L=>L) (fun (j:Nat)=>l.length-j) (0) (⟨Nat.zero_le _,fun k _ h=>by omega⟩) bD (Z) ?_;intro j _ _ Za Y Z;refine GO 6 ?_;intro _ Y;refine ak (Y.ev rfl) (fun Zb=>?_) (fun Zb=>?_)
 ·
  have hlt:j<l.length:=by have:=of_decide_eq_true Zb;omega
  obtain⟨b,o,rfl,hB,_⟩:=hr.opened (aK bw ar ab);refine GO 7 ?_;intro _ Y;refine sv Y (av (i:=j) (sz:=3) Tryz.underlying48 aa (Y.ev rfl) (Y.ev rfl) ab ab rfl) fun _ Y=>?_;refine sv (v:=tL l[j]) Y (ah aa aa (Y.ev rfl) (aW bw (Z.rd0 hr) hlt)) fun _ Y=>?_;refine na (.agg #[.int .i64 0,.bool false,.string ⟨#[]⟩]) Y rfl Z fun b7 _ _ Zd Y Z=>?_;refine GO 1 ?_;intro _ Y;refine sw Y Z 0 fun _ Z=>?_;refine GO 6 ?_;intro _ Y;refine sv (v:=tL l[j]) Y (ah aa aa (Y.ev rfl) (Z.cellsAll (i:=0) rfl)) fun _ Y=>?_;refine dp Y (wn rfl) (cF hfc (Y.ev rfl) (Y.evs rfl) rfl) rfl rfl Z (hcl _ Z.below j hlt Za.2) fun _ _ Y Z=>?_;refine GO 9 ?_;intro _ Y;refine ak (Y.ev rfl) (fun Zc=>?_) (fun Zc=>?_)
  ·
   refine GO 14 ?_;intro _ Y;refine bW Y rfl rfl rfl ?_
   have Y:g j l[j]≠0:=by simpa using Zc
   have Y:=cX g l 0 j hlt (fun k hk h=>by rw[Nat.zero_add];exact Za.2 k hk h) (by rw[Nat.zero_add];exact Y);exact⟨by rw[Y,Nat.zero_add],Z.below⟩
  ·
   refine GO 8 ?_;intro _ Y;exact⟨j+1,by omega,⟨hlt,fun k hk h=>(Nat.lt_or_ge k j).elim (fun q=>Za.2 k hk q) (fun q=>by(obtain rfl:k=j:=by omega);simpa using Zc)⟩,Y.re bD,Z.sub (.cons _ .slnil)⟩
 ·
  have hge:l.length≤j:=by have:=of_decide_eq_false Zb;omega
  refine GO 12 ?_;intro _ Y;refine bW Y rfl rfl rfl ?_;exact⟨by rw[cU g l 0 (fun k hk=>by rw[Nat.zero_add];exact Za.2 k hk ab)],Z.below⟩
theorem rp (g:Nat→Rcd→Int) (l:List Rcd) (A:Option Addr) (c:Nat) (f:FuncId) (cap:List Value) (w:World) (hr:Rd w w.heap.size A (l.flatMap bC)) (hlen:l.length≤1000) (hfc:∀(vs:Array Value) (W:World),(callFunc f vs).run Tryz.prog W=.ok (.enter f vs) W)
 (hcl:∀X,Below w.heap.size w X→∀(k:Nat) (hk:k<l.length),(∀m (hm:m<l.length),m<k→g m l[m]=0)→Calls Tryz.prog f ([.int .i64 k,fk l[k]] ++ cap).toArray X fun e X'=>e=.returned (.int .i64 (g k l[k]))∧Below X.heap.size X X') :
 Calls Tryz.prog 102 #[.slice A l.length c,.func (.func f) #[] cap.toArray] w fun e w'=>e=.returned (.tuple #[.int .i64 (cH g 0 l).1,.int .i64 (cH g 0 l).2])∧Below w.heap.size w w':=by
 refine ao (N:=25) Tryz.func102 rfl rfl rfl (fun _ Y=>?_);have Z:=St.init w;refine GO 3 ?_;intro _ Y;refine GO 6 ?_;intro _ Y;refine GO 6 ?_;intro _ Y;refine aY Y Z [10,9,1] (fun (j:Nat)=>[(11,.int .i64 j)]) (fun (j:Nat)=>j≤l.length∧∀k (hk:k<l.length),k<j→g k l[k]=0) (fun (j:Nat) L=>L) (fun (j:Nat)=>l.length-j) (0) (⟨Nat.zero_le _,fun k _ h=>by omega⟩) bD (Z) ?_;intro j _ _ Za Y Z;refine GO 6 ?_;intro _ Y;refine ak (Y.ev rfl) (fun Zb=>?_) (fun Zb=>?_)
 ·
  have hlt:j<l.length:=by have:=of_decide_eq_true Zb;omega
  obtain⟨b,o,rfl,hB,_⟩:=hr.opened (aK aB ar ab);refine GO 7 ?_;intro _ Y;refine sv Y (av (i:=j) (sz:=14) Tryz.underlying41 aa (Y.ev rfl) (Y.ev rfl) ab ab rfl) fun _ Y=>?_;refine sv (v:=fk l[j]) Y (ah aa aa (Y.ev rfl) (aW aB (Z.rd0 hr) hlt)) fun _ Y=>?_;refine na (.agg #[.int .i64 0,.int .i64 0,.int .i64 0,.int .i64 0,.int .i64 0,.int .i64 0,.bool false,.int .i64 0,.int .i64 0,.int .i64 0,.int .i64 0,.string ⟨#[]⟩,.string ⟨#[]⟩,.string ⟨#[]⟩]) Y rfl Z fun b7 _ _ Zd Y Z=>?_;refine GO 1 ?_;intro _ Y;refine sw Y Z 0 fun _ Z=>?_;refine GO 6 ?_;intro _ Y;refine sv (v:=fk l[j]) Y (ah aa aa (Y.ev rfl) (Z.cellsAll (i:=0) rfl)) fun _ Y=>?_;refine dp Y (wn rfl) (cF hfc (Y.ev rfl) (Y.evs rfl) rfl) rfl rfl Z (hcl _ Z.below j hlt Za.2) fun _ _ Y Z=>?_;refine GO 9 ?_;intro _ Y;refine ak (Y.ev rfl) (fun Zc=>?_) (fun Zc=>?_)
  ·
   refine GO 14 ?_;intro _ Y;refine bW Y rfl rfl rfl ?_
   have Y:g j l[j]≠0:=by simpa using Zc
   have Y:=cX g l 0 j hlt (fun k hk h=>by rw[Nat.zero_add];exact Za.2 k hk h) (by rw[Nat.zero_add];exact Y);exact⟨by rw[Y,Nat.zero_add],Z.below⟩
  ·
   refine GO 8 ?_;intro _ Y;exact⟨j+1,by omega,⟨hlt,fun k hk h=>(Nat.lt_or_ge k j).elim (fun q=>Za.2 k hk q) (fun q=>by(obtain rfl:k=j:=by omega);simpa using Zc)⟩,Y.re bD,Z.sub (.cons _ .slnil)⟩
 ·
  have hge:l.length≤j:=by have:=of_decide_eq_false Zb;omega
  refine GO 12 ?_;intro _ Y;refine bW Y rfl rfl rfl ?_;exact⟨by rw[cU g l 0 (fun k hk=>by rw[Nat.zero_add];exact Za.2 k hk ab)],Z.below⟩
def vI (l:List Trn) (i:Nat):Bool:=match cO l i with
 | none=>true
 | some y=>match l[i]? with | none=>true | some x=>decide (y.i<x.i)
def v7 (l:List Dty) (i:Nat):Bool:=match cO l i with
 | none=>true
 | some y=>match l[i]? with | none=>true | some x=>decide (y.g<x.g)
theorem xx (t:Tbl) (A:Option Addr) (c:Nat) (B:Option Addr) (d i b:Nat) (T:TypeId) (w:World) (hbx:Box w b #[.slice A t.ts.length c,.slice B t.ds.length d] T) (hr:Rd w w.heap.size A (t.ts.flatMap cp)) (hi:i<t.ts.length) (hl:t.ts.length≤100) :
 Calls Tryz.prog 61 #[.int .i64 i,eZ t.ts[i],.pointer (some ⟨b,0,none⟩)] w fun e w'=>e=.returned (.int .i64 (kp (cO t.ts i) t.ts[i]))∧Below w.heap.size w w':=by
 obtain⟨b',o',rfl,_⟩:=hr.opened (aK cC ar ab);refine ao (N:=42) Tryz.func61 rfl rfl rfl (fun _ h0=>?_);have Z:=St.init w;refine ai (aq ?_);refine nb h0 rfl rfl Z fun b4 _ _ Zi Y Z=>?_;refine GO 7 ?_;intro _ Y;refine cI Y rfl (bA _ _ _ _) fun _ Y=>?_;refine GO 1 ?_;intro _ Y;apply aZ (x:=bb t.ts[i].l 1 2147483647) Y Z 10 rfl 4 14
 case ht=>
  intro Za;refine GO 2 ?_;intro _ Y;refine bN Y (aj Y _ rfl rfl rfl Za) (ax a8 (Y.evs rfl) rfl) rfl rfl (bA _ _ _ _) fun _ Y=>?_;refine GO 1 ?_;intro _ Y;exact ae ⟨Y.midE 3,Z⟩
 case hf=>
  intro Za;refine GO 4 ?_;intro _ Y;exact ae ⟨Y.midE 3,Z⟩
 case h=>
  rintro a15 Zj ⟨Zk,Zd⟩
  refine GO 1 ?_;intro _ Y;apply aZ (x:=bb t.ts[i].u 0 t.ts[i].l) Y Zd 15 rfl 6 21
  case ht=>
   intro Zb;refine GO 4 ?_;intro _ Y;refine bN Y (aj Y _ rfl rfl rfl Zb) (ax a8 (Y.evs rfl) rfl) rfl rfl (bA _ _ _ _) fun _ Y=>?_;refine GO 1 ?_;intro _ Y;exact ae ⟨Y.midE 5,Zd⟩
  case hf=>
   intro Zb;refine GO 6 ?_;intro _ Y;exact ae ⟨Y.midE 5,Zd⟩
  case h=>
   rintro a29 Zl ⟨Zm,Ze⟩
   refine GO 4 ?_;intro _ Y;apply aL Y (fA 17) _ aa
   case h=>
    refine GO 1 ?_;intro _ Y;refine gm Y rfl (fun X hX=>aJ _ _ _) fun _ Y=>?_;refine GO 3 ?_;intro _ Y;apply fh (x:=vI t.ts i) Y 26 rfl 12 38
    case hf=>
     intro Zc
     have hi0:i≠0:=by simp only[beq_eq_false_iff_ne] at Zc;omega
     have hi1:i-1<t.ts.length:=by omega
     have hbf:cO t.ts i=some t.ts[i-1]:=by unfold cO;rw[if_neg hi0,List.getElem?_eq_getElem hi1]
     refine qy Y (fun X hX=>(fy 0 (Y.ev rfl))) fun _ Y=>?_;refine qy Y (fun X hX=>(lx (Y.ev rfl) (Box.cells (hbx.below (Ze.grow hX).below) 0))) fun _ Y=>?_;refine GO 2 ?_;intro _ Y;refine qy Y (fun X hX=>(np aa (Y.ev rfl) (Y.ev rfl))) fun _ Y=>?_;refine qy Y (fun X hX=>(av (i:=i-1) (sz:=4) Tryz.underlying22 aa (Y.ev rfl) (Y.ev rfl) ab ab rfl)) fun _ Y=>?_;refine qy Y (fun X hX=>(fy 0 (Y.ev rfl))) fun _ Y=>?_;refine qy Y (fun X hX=>(lx (Y.ev rfl) ((aW cC ((Ze.grow hX).rd0 hr) hi1) 0 _ rfl))) fun _ Y=>?_;refine GO 2 ?_;intro _ Y;refine qy Y (fun X hX=>(aC (v':=.bool (vI t.ts i)) (congrArg Value.bool (by unfold vI;rw[hbf,List.getElem?_eq_getElem hi])) (ku (Y.ev rfl) (Y.ev rfl)))) fun _ Y=>?_;refine GO 1 ?_;intro _ Y;exact aw (Y.midE 11)
    case ht=>
     intro Zc;refine GO 12 ?_;intro _ Y;exact aw (Y.midE 11)
    case h=>
     intro _ Y;refine aw ?_;refine aS fun _ Zf Zg=>?_;have Z:=Ze.grow Zf;refine cI Y rfl (aJ _ _ _) fun _ Y=>?_;refine bz Y (wn rfl) (f:=fun b=>.slice (some ⟨b,0,none⟩) 2 2) (aX Tryz.underlying214 aa aa (Y.evs2 rfl) rfl rfl rfl ar ar) rfl rfl Z fun b40 _ _ Zh Y Z=>?_;refine cI Y rfl (dd (Z.at_ (i:=0) rfl)) fun _ Y=>?_;refine GO 4 ?_;intro _ Y;refine aF Y rfl rfl ?_;refine⟨?_,Z.below⟩
     have e:((i:Int)==0||vI t.ts i)=vI t.ts i:=by
      rcases Nat.eq_zero_or_pos i with h0 | h0
      · subst h0;rfl
      · rw[show((i:Int)==0)=false by rw[beq_eq_false_iff_ne];omega];rfl
     rw[e];unfold kp vI;rw[List.getElem?_eq_getElem hi]
     cases cO t.ts i<;>rfl
   case hB=>kernel_rfl
   case hst=>rfl
theorem xo (t:Tbl) (A:Option Addr) (c:Nat) (B:Option Addr) (d i b:Nat) (T:TypeId) (w:World) (hbx:Box w b #[.slice A t.ts.length c,.slice B t.ds.length d] T) (hr:Rd w w.heap.size B (t.ds.flatMap cP)) (hi:i<t.ds.length) (hl:t.ds.length≤100) :
 Calls Tryz.prog 66 #[.int .i64 i,fM t.ds[i],.pointer (some ⟨b,0,none⟩)] w fun e w'=>e=.returned (.int .i64 (j9 (cO t.ds i) t.ds[i]))∧Below w.heap.size w w':=by
 obtain⟨b',o',rfl,_⟩:=hr.opened (aK dg ar ab);refine ao (N:=35) Tryz.func66 rfl rfl rfl (fun _ h0=>?_);have Z:=St.init w;refine ai (aq ?_);refine nb h0 rfl rfl Z fun b4 _ _ Zg Y Z=>?_;refine GO 7 ?_;intro _ Y;refine cI Y rfl (bA _ _ _ _) fun _ Y=>?_;refine GO 1 ?_;intro _ Y;apply aZ (x:=bb t.ds[i].l 1 2147483647) Y Z 10 rfl 4 14
 case ht=>
  intro Za;refine GO 2 ?_;intro _ Y;refine bN Y (aj Y _ rfl rfl rfl Za) (ax a8 (Y.evs rfl) rfl) rfl rfl (bA _ _ _ _) fun _ Y=>?_;refine GO 1 ?_;intro _ Y;exact ae ⟨Y.midE 3,Z⟩
 case hf=>
  intro Za;refine GO 4 ?_;intro _ Y;exact ae ⟨Y.midE 3,Z⟩
 case h=>
  rintro a15 Zh ⟨Zi,Zc⟩
  refine GO 4 ?_;intro _ Y;apply aL Y (fA 17) _ aa
  case h=>
   refine GO 1 ?_;intro _ Y;refine gm Y rfl (fun X hX=>aJ _ _ _) fun _ Y=>?_;refine GO 3 ?_;intro _ Y;apply fh (x:=v7 t.ds i) Y 19 rfl 12 31
   case hf=>
    intro Zb
    have hi0:i≠0:=by simp only[beq_eq_false_iff_ne] at Zb;omega
    have hi1:i-1<t.ds.length:=by omega
    have hbf:cO t.ds i=some t.ds[i-1]:=by unfold cO;rw[if_neg hi0,List.getElem?_eq_getElem hi1]
    refine qy Y (fun X hX=>(fy 1 (Y.ev rfl))) fun _ Y=>?_;refine qy Y (fun X hX=>(lx (Y.ev rfl) (Box.cells (hbx.below (Zc.grow hX).below) 1))) fun _ Y=>?_;refine GO 2 ?_;intro _ Y;refine qy Y (fun X hX=>(np aa (Y.ev rfl) (Y.ev rfl))) fun _ Y=>?_;refine qy Y (fun X hX=>(av (i:=i-1) (sz:=3) Tryz.underlying23 aa (Y.ev rfl) (Y.ev rfl) ab ab rfl)) fun _ Y=>?_;refine qy Y (fun X hX=>(fy 0 (Y.ev rfl))) fun _ Y=>?_;refine qy Y (fun X hX=>(lx (Y.ev rfl) ((aW dg ((Zc.grow hX).rd0 hr) hi1) 0 _ rfl))) fun _ Y=>?_;refine GO 2 ?_;intro _ Y;refine qy Y (fun X hX=>(aC (v':=.bool (v7 t.ds i)) (congrArg Value.bool (by unfold v7;rw[hbf,List.getElem?_eq_getElem hi])) (ku (Y.ev rfl) (Y.ev rfl)))) fun _ Y=>?_;refine GO 1 ?_;intro _ Y;exact aw (Y.midE 11)
   case ht=>
    intro Zb;refine GO 12 ?_;intro _ Y;exact aw (Y.midE 11)
   case h=>
    intro _ Y;refine aw ?_;refine aS fun _ Zd Ze=>?_;have Z:=Zc.grow Zd;refine cI Y rfl (aJ _ _ _) fun _ Y=>?_;refine bz Y (wn rfl) (f:=fun b=>.slice (some ⟨b,0,none⟩) 2 2) (aX Tryz.underlying214 aa aa (Y.evs2 rfl) rfl rfl rfl ar ar) rfl rfl Z fun b33 _ _ Zf Y Z=>?_;refine cI Y rfl (dd (Z.at_ (i:=0) rfl)) fun _ Y=>?_;refine GO 4 ?_;intro _ Y;refine aF Y rfl rfl ?_;refine⟨?_,Z.below⟩
    have e:((i:Int)==0||v7 t.ds i)=v7 t.ds i:=by
     rcases Nat.eq_zero_or_pos i with h0 | h0
     · subst h0;rfl
     · rw[show((i:Int)==0)=false by rw[beq_eq_false_iff_ne];omega];rfl
    rw[e];unfold j9 v7;rw[List.getElem?_eq_getElem hi]
    cases cO t.ds i<;>rfl
  case hB=>kernel_rfl
  case hst=>rfl
theorem cY (t:Tbl) (A:Option Addr) (c:Nat) (B:Option Addr) (d:Nat) (w:World) (hr:Rd w w.heap.size A (t.ts.flatMap cp)) (hs:Rd w w.heap.size B (t.ds.flatMap cP)) :
 Calls Tryz.prog 15 #[cB t A c B d] w fun e w'=>e=.returned (.int .i64 (dw t))∧Below w.heap.size w w':=by
 refine ao (N:=33) Tryz.func15 rfl rfl rfl (fun _ Y=>?_);have Z:=St.init w;refine ai (aq ?_);refine nb Y rfl rfl Z fun b1 _ _ Zf Y Z=>?_;refine GO 11 ?_;intro _ Y;apply bn (x:=decide ((t.ds.length:Int)>60)) Y Z 9 rfl 5 14
 case hf=>
  intro Zd;refine GO 5 ?_;intro _ Y;exact ae ⟨Y.midE 4,Z⟩
 case ht=>
  intro Zd;refine GO 5 ?_;intro _ Y;exact ae ⟨Y.midE 4,Z⟩
 case h=>
  rintro a18 Zg ⟨Ze,Za⟩
  refine ae (ag ?_);refine ak (Ze.ev rfl) (fun Zb=>?_) (fun Zb=>?_)
  ·
   have hbig:60<t.ts.length∨60<t.ds.length:=by simp only[Bool.or_eq_true,decide_eq_true_eq] at Zb;omega
   refine GO 7 ?_;intro _ Y;refine aF Y rfl rfl ?_;refine⟨?_,Za.below⟩;unfold dw;rw[if_pos hbig]
  ·
   have hn:t.ts.length≤60∧t.ds.length≤60:=by simp only[Bool.or_eq_false_iff,decide_eq_false_iff_not] at Zb;omega
   refine GO 6 ?_;intro _ Y;refine sv Y (eU (Y.evs rfl) (Y.evs rfl)) fun _ Y=>?_;refine cT Y rfl Za (qL (fun k x=>kp (cO t.ts k) x) t.ts A c 61 [.pointer (some ⟨b1,0,none⟩)] _ (Za.rd0 hr) ab a8 (fun X hX k hk hz'=>xx t A c B d k b1 _ X (Box.below (Za.at_ (i:=0) rfl) hX) ((Za.rd0 hr).below' hX) hk ab)) fun _ _ Y Z=>?_;refine GO 14 ?_;intro _ Y;refine ak (Y.ev rfl) (fun Zc=>?_) (fun Zc=>?_)
   ·
    have hne:(jj t.ts).2≠0:=by unfold jj;simpa using Zc
    refine GO 8 ?_;intro _ Y;refine aF Y rfl rfl ?_;refine⟨?_,Z.below⟩;unfold dw;rw[if_neg ab,if_pos hne];rfl
   ·
    have hz:(jj t.ts).2=0:=by unfold jj;simpa using Zc
    refine GO 6 ?_;intro _ Y;refine sv Y (eU (Y.evs rfl) (Y.evs rfl)) fun _ Y=>?_;refine cT Y rfl Z (rm (fun k x=>j9 (cO t.ds k) x) t.ds B d 66 [.pointer (some ⟨b1,0,none⟩)] _ (Z.rd0 hs) ab a8 (fun X hX k hk hz'=>xo t A c B d k b1 _ X (Box.below (Z.at_ (i:=0) rfl) hX) ((Z.rd0 hs).below' hX) hk ab)) fun _ _ Y Z=>?_;refine GO 13 ?_;intro _ Y;refine aF Y rfl rfl ?_;refine⟨?_,Z.below⟩;unfold dw;rw[if_neg ab,if_neg (by simpa using hz)];rfl
theorem qZ (b:Bool) (w:World):Calls Tryz.prog 69 #[.bool b] w fun e w'=>e=.returned (.int .u8 (nV b))∧w=w':=by
 refine ao (N:=4) Tryz.func69 rfl rfl rfl (fun _ Y=>?_);have S0:=St.init w;refine GO 11 ?_;intro _ Y;refine ak (Y.ev rfl) (fun Za=>?_) (fun Za=>?_)
 ·
  refine GO 7 ?_;intro _ Y;refine aF Y rfl rfl ?_;exact⟨by rw[show b=true from Za];rfl,rfl⟩
 ·
  refine GO 8 ?_;intro _ Y;refine aF Y rfl rfl ?_;exact⟨by rw[show b=false from Za];rfl,rfl⟩
theorem iP (e:Lge) (w:World):Calls Tryz.prog 91 #[de e] w fun r w'=>r=.returned (.bool (dz e))∧Below w.heap.size w w':=by
 refine ao (N:=11) Tryz.func91 rfl rfl rfl (fun _ Y=>?_);have Z:=St.init w;refine ai (aq ?_);refine nb Y rfl rfl Z fun b1 _ _ Zc Y Z=>?_;refine GO 9 ?_;intro _ Y;apply bn (x:=e.k==1) Y Z 6 rfl 4 10
 case hf=>
  intro Za;refine GO 4 ?_;intro _ Y;exact ae ⟨Y.midE 3,Z⟩
 case ht=>
  intro Za;refine GO 4 ?_;intro _ Y;exact ae ⟨Y.midE 3,Z⟩
 case h=>
  rintro a15 Zd ⟨Ze,Zb⟩
  refine GO 4 ?_;intro _ Y;refine aF Y rfl rfl ?_;exact⟨rfl,Zb.below⟩
open Go.RowKit Go.Sort
theorem kM (v:Value) (n:Nat) (us:List UInt8) (m:Int) (h0:0≤m) (w:World) (ho:w.ownsRow 0 5 1 v n (us.map bm)) (hn:n≤100000) :
 Calls Tryz.prog 67 #[v,.int .u16 m] w fun r w'=>∃A c,r=.returned (.slice A (n+2) c)∧St v.ownBlock.toList w w' [.row (.slice A (n+2) c) (n+2) 5 1 ((us ++ lit m 2).map bm)]:=by
 refine ao (N:=13) Tryz.func67 rfl rfl rfl (fun _ h0=>?_);have Z:=St.initO ho;refine GO 9 ?_;intro _ Y;refine sv Y (dF (k0:=.i64) aa Tryz.underlying5 (Y.ev rfl)) fun _ Y=>?_;refine GO 1 ?_;intro _ Y;refine sv Y (ni (n:=8) (Y.ev rfl) (Y.ev rfl) rfl ab) fun _ Y=>?_;refine sv Y (dF (k0:=.i64) aa Tryz.underlying5 (Y.ev rfl)) fun _ Y=>?_;refine bz Y (wn rfl) (f:=fun b=>.slice (some ⟨b,0,none⟩) 2 2) (aX Tryz.underlying126 aa aa (Y.evs2 rfl) rfl rfl rfl ar ar) rfl rfl Z fun b11 _ _ Za Y Z=>?_;refine bI (z:=.int .u8 0) (sz:=1) (bytes:=1) Y (wn rfl) ⟨rfl,rfl⟩ rfl Tryz.underlying126 aa rfl rfl (Y.ev rfl) (Y.ev rfl) Z (i:=1) rfl (Z.boxRd (i:=0) rfl) rfl (List.all_eq_true.1 rfl) ⟨ab,by decide⟩ fun A12 c12 _ _ Y Z=>?_;refine GO 4 ?_;intro _ Y;refine aF Y rfl rfl ?_;refine⟨A12,c12,rfl,?_⟩;have q:=(Z.sub (.cons _ (.cons_cons _ .slnil)));rw[List.map_append,←s8];exact q
theorem lg (v:Value) (n:Nat) (us:List UInt8) (m:Int) (h0:0≤m) (w:World) (ho:w.ownsRow 0 5 1 v n (us.map bm)) (hn:n≤90000) :
 Calls Tryz.prog 68 #[v,.int .u32 m] w fun r w'=>∃A c,r=.returned (.slice A (n+2+2) c)∧St v.ownBlock.toList w w' [.row (.slice A (n+2+2) c) (n+2+2) 5 1 ((us ++ lit m 4).map bm)]:=by
 refine ao (N:=17) Tryz.func68 rfl rfl rfl (fun _ h0=>?_);have Z:=St.initO ho;refine GO 9 ?_;intro _ Y;refine sv Y (dF (k0:=.i64) aa Tryz.underlying128 (Y.ev rfl)) fun _ Y=>?_;refine jd Y (wn rfl) (ax a8 (Y.evs rfl) rfl) rfl rfl Z (i:=0) rfl (kM _ _ us _ (by rw[iN];omega) _ (Z.at_ (i:=0) rfl) ab) fun A8 c8 _ _ Y Z=>?_;refine GO 1 ?_;intro _ Y;refine sv Y (ni (n:=16) (Y.ev rfl) (Y.ev rfl) rfl ab) fun _ Y=>?_;refine sv Y (dF (k0:=.i64) aa Tryz.underlying5 (Y.ev rfl)) fun _ Y=>?_;refine GO 1 ?_;intro _ Y;refine sv Y (ni (n:=24) (Y.ev rfl) (Y.ev rfl) rfl ab) fun _ Y=>?_;refine sv Y (dF (k0:=.i64) aa Tryz.underlying5 (Y.ev rfl)) fun _ Y=>?_;refine bz Y (wn rfl) (f:=fun b=>.slice (some ⟨b,0,none⟩) 2 2) (aX Tryz.underlying126 aa aa (Y.evs2 rfl) rfl rfl rfl ar ar) rfl rfl Z fun b15 _ _ Za Y Z=>?_;refine bI (z:=.int .u8 0) (sz:=1) (bytes:=1) Y (wn rfl) ⟨rfl,rfl⟩ rfl Tryz.underlying126 aa rfl rfl (Y.ev rfl) (Y.ev rfl) Z (i:=1) rfl (Z.boxRd (i:=0) rfl) rfl (List.all_eq_true.1 rfl) ⟨ab,by decide⟩ fun A16 c16 _ _ Y Z=>?_;refine GO 4 ?_;intro _ Y;refine aF Y rfl rfl ?_;refine⟨A16,c16,rfl,?_⟩;have q:=(Z.sub (.cons _ (.cons_cons _ .slnil)))
 have e:(us ++ lit m 4).map bm=(us ++ lit (IntKind.u16.wrap m) 2).map bm ++ [.int .u8 (IntKind.u8.wrap (m / 2 ^ 16)),.int .u8 (IntKind.u8.wrap (m / 2 ^ 24))]:=by
  rw[kV,kV,mg,iN];simp only[List.map_append,List.append_assoc];rfl
 rw[e];exact q
theorem gZ (b o n c:Nat) (l:List UInt8) (w:World) (hb:q7 w b l) (h:o+2≤l.length) (hn:2≤n) :
 Calls Tryz.prog 71 #[.slice (some ⟨b,o,none⟩) n c] w fun e w'=>e=.returned (.int .u16 (g16 l o))∧Below w.heap.size w w':=by
 have u1:=(l.getD o 0).toNat_lt;have u2:=(l.getD (o+1) 0).toNat_lt;refine ao (N:=13) Tryz.func71 rfl rfl rfl (fun _ Y=>?_);have Z:=St.init w;refine GO 6 ?_;intro _ Y;apply aL Y (fA 9) _ aa
 case h=>
  refine GO 1 ?_;intro _ Y;refine qv Y (fun X hX=>av (i:=0) (sz:=1) Tryz.underlying126 aa (Y.ev rfl) (Y.ev rfl) ab ab rfl) fun _ Y=>?_;refine qv (v:=bm (l.getD o 0)) Y (fun X hX=>lx (Y.ev rfl) ((kr (i:=0) (gL hb (Z.grow hX).below) ab) 0 _ rfl)) fun _ Y=>?_;refine qv Y (fun X hX=>bU aa Tryz.underlying128 (Y.ev rfl) (wrap_u16 ab)) fun _ Y=>?_;refine GO 1 ?_;intro _ Y;refine qv Y (fun X hX=>av (i:=1) (sz:=1) Tryz.underlying126 aa (Y.ev rfl) (Y.ev rfl) ab ab rfl) fun _ Y=>?_;refine qv (v:=bm (l.getD (o+1) 0)) Y (fun X hX=>lx (Y.ev rfl) ((kr (i:=1) (gL hb (Z.grow hX).below) ab) 0 _ rfl)) fun _ Y=>?_;refine qv Y (fun X hX=>bU aa Tryz.underlying128 (Y.ev rfl) (wrap_u16 ab)) fun _ Y=>?_;refine qv Y (fun X hX=>yS (n:=8) (r:=((l.getD (o+1) 0).toNat:Int)*256) (Y.ev rfl) (Y.ev rfl) rfl (by rw[wrap_u16 ab];omega)) fun _ Y=>?_;refine aw ?_;refine aS fun _ Za Zb=>?_;have Z:=Z.grow Za;refine sv Y (uM (r:=g16 l o) rfl (Y.ev rfl) (Y.ev rfl) (wM u1 u2)) fun _ Y=>?_;refine GO 4 ?_;intro _ Y;refine aF Y rfl rfl ?_;exact⟨rfl,Z.below⟩
 case hB=>kernel_rfl
 case hst=>rfl
theorem jH (b o n c:Nat) (l:List UInt8) (w:World) (hb:q7 w b l) (h:o+4≤l.length) (hn:4≤n) (hc:n≤c) :
 Calls Tryz.prog 72 #[.slice (some ⟨b,o,none⟩) n c] w fun e w'=>e=.returned (.int .u32 (uK l o))∧Below w.heap.size w w':=by
 have u1:=kB l o;have u2:=kB l (o+2);refine ao (N:=12) Tryz.func72 rfl rfl rfl (fun _ Y=>?_);have Z:=St.init w;refine GO 6 ?_;intro _ Y;apply aL Y (fA 8) _ aa
 case h=>
  refine GO 1 ?_;intro _ Y;refine nF Y rfl (fun X hX=>gZ b o n c l _ (gL hb (Z.grow hX).below) ab ab) fun _ Y=>?_;refine qv Y (fun X hX=>bU aa Tryz.underlying130 (Y.ev rfl) (wrap_u32 ab)) fun _ Y=>?_;refine GO 1 ?_;intro _ Y;refine qv Y (fun X hX=>gK (l:=2) (h:=n) (sz:=1) Tryz.underlying126 aa (Y.ev rfl) (Y.ev rfl) rfl ab hc (.inl ab) rfl) fun _ Y=>?_;refine nF Y rfl (fun X hX=>gZ b (o+2*1) (n-2) (c-2) l _ (gL hb (Z.grow hX).below) ab ab) fun _ Y=>?_;refine qv Y (fun X hX=>bU aa Tryz.underlying130 (Y.ev rfl) (wrap_u32 (by show 0≤g16 l (o+2)∧g16 l (o+2)<4294967296;omega))) fun _ Y=>?_;refine qv Y (fun X hX=>yS (n:=16) (r:=g16 l (o+2)*65536) (Y.ev rfl) (Y.ev rfl) rfl (by show IntKind.u32.wrap (g16 l (o+2)*2 ^ 16)=_;rw[wrap_u32 ab];omega)) fun _ Y=>?_;refine aw ?_;refine aS fun _ Za Zb=>?_;have Z:=Z.grow Za;refine sv Y (uM (r:=uK l o) rfl (Y.ev rfl) (Y.ev rfl) (by obtain⟨a,ha⟩:=Int.eq_ofNat_of_zero_le u1.1;obtain⟨b',hb'⟩:=Int.eq_ofNat_of_zero_le u2.1;unfold uK;rw[ha,hb'];rw[ha] at u1;rw[hb'] at u2;exact vt ab ab)) fun _ Y=>?_;refine GO 4 ?_;intro _ Y;refine aF Y rfl rfl ?_;exact⟨rfl,Z.below⟩
 case hB=>kernel_rfl
 case hst=>rfl
structure TbW where
 k:Nat
 n:Nat
 us:List UInt8
 A:Option Addr
 c:Nat
theorem xK {n:Int}:lit (IntKind.u32.wrap n) 4=lit n 4:=by
 rw[jQ,sF,sF n]
 have h1:n % 4294967296 % 65536=n % 65536:=by omega
 have h2:n % 4294967296 / 2 ^ 16 % 65536=n / 2 ^ 16 % 65536:=by omega
 rw[h1,h2]
theorem Bo {n:Int}:lit (IntKind.u16.wrap n) 2=lit n 2:=by
 rw[iN]
 have h1:n % 65536 % 256=n % 256:=by omega
 have h2:n % 65536 / 256 % 256=n / 256 % 256:=by omega
 simp only[lit,h1,h2]
theorem Bk (t:Tbl):[Value.int .u8 (IntKind.u8.wrap t.ts.length),.int .u8 (IntKind.u8.wrap t.ds.length)]=((lit t.ts.length 1 ++ lit t.ds.length 1 ++ ([] ++ []):List UInt8)).map bm:=by
 rw[kV,kV];rfl
theorem pv (b:Bool):[Value.int .u8 (nV b)]=(lit (nV b) 1).map bm:=by cases b<;>rfl
theorem xR (us:List UInt8) (x:Trn):(us ++ vL x).map bm=(((us ++ lit (IntKind.u16.wrap x.i) 2) ++ lit (IntKind.u32.wrap x.l) 4) ++ lit (IntKind.u32.wrap x.u) 4).map bm ++ [Value.int .u8 (nV x.c)]:=by
 rw[pv,←List.map_append]
 congr 1
 rw[Bo,xK,xK];unfold vL;simp only[List.append_assoc]
theorem yL (us:List UInt8) (x:Dty):(us ++ vR x).map bm=(((us ++ lit (IntKind.u16.wrap x.g) 2) ++ lit (nV x.f) 1) ++ lit (IntKind.u32.wrap x.l) 4).map bm:=by
 congr 1
 rw[Bo,xK];unfold vR;simp only[List.append_assoc]
def wY (t:Tbl) (k j:Nat):List UInt8:=lit t.ts.length 1 ++ lit t.ds.length 1 ++ ((t.ts.take k).flatMap vL ++ (t.ds.take j).flatMap vR)
theorem Ct {t:Tbl} {k:Nat} (hk:k<t.ts.length):wY t (k+1) 0=wY t k 0 ++ vL t.ts[k]:=by
 unfold wY;rw[List.take_succ_eq_append_getElem hk,List.flatMap_append];simp
theorem CH {t:Tbl} {k j:Nat} (hj:j<t.ds.length):wY t k (j+1)=wY t k j ++ vR t.ds[j]:=by
 unfold wY;rw[List.take_succ_eq_append_getElem hj,List.flatMap_append];simp
theorem AK (t:Tbl):wY t t.ts.length t.ds.length=AF t:=by
 unfold wY AF;rw[List.take_length,List.take_length]
theorem nw (t:Tbl) (A:Option Addr) (c:Nat) (B:Option Addr) (d:Nat) (w:World) (hr:Rd w w.heap.size A (t.ts.flatMap cp)) (hs:Rd w w.heap.size B (t.ds.flatMap cP)) :
 Calls Tryz.prog 17 #[cB t A c B d] w fun e w'=>e=.returned (.tuple #[.string (if dw t=0 then bs (AF t) else ⟨#[]⟩),.int .i64 (dw t)])∧Below w.heap.size w w':=by
 refine ao (N:=79) Tryz.func17 rfl rfl rfl (fun _ Y=>?_);have Z:=St.init w;refine ai (aq ?_);refine nb Y rfl rfl Z fun b1 _ _ Zj Y Z=>?_;refine GO 7 ?_;intro _ Y;refine sv (v:=cB t A c B d) Y (ah aa aa (Y.ev rfl) (Z.cellsAll (i:=0) rfl)) fun _ Y=>?_;refine cT Y rfl Z (cY t A c B d _ (Z.rd0 hr) (Z.rd0 hs)) fun _ _ Y Z=>?_;refine GO 9 ?_;intro _ Y;refine ak (Y.ev rfl) (fun Zc=>?_) (fun Zc=>?_)
 ·
  have hne:¬dw t=0:=by simpa using Zc
  refine GO 9 ?_;intro _ Y;refine bW Y rfl rfl rfl ?_;refine⟨?_,Z.below⟩;rw[if_neg hne]
 ·
  have hz:dw t=0:=by simpa using Zc
  have hk:=tblE_zero.1 hz;have hn:=hk.n;have hm:=hk.m;refine GO 7 ?_;intro _ Y;refine sv Y (dF (k0:=.i64) aa Tryz.underlying5 (Y.ev rfl)) fun _ Y=>?_;refine GO 3 ?_;intro _ Y;refine sv Y (dF (k0:=.i64) aa Tryz.underlying5 (Y.ev rfl)) fun _ Y=>?_;refine bz Y (wn rfl) (f:=fun b=>.slice (some ⟨b,0,none⟩) 2 2) (aX Tryz.underlying126 aa aa (Y.evs2 rfl) rfl rfl rfl ar ar) rfl rfl Z fun b23 _ Zf Zg Y Z=>?_;refine GO 1 ?_;intro _ Y;replace Z:=Z.toRow (i:=0) (n:=2) (sz:=1) rfl rfl ar;replace Z:St [] w Zf [.row (.slice (some ⟨b23,0,none⟩) 2 2) 2 5 1 [Value.int .u8 (IntKind.u8.wrap t.ts.length),.int .u8 (IntKind.u8.wrap t.ds.length)],.box b1 (cB t A c B d).cells 25]:=Z;rw[Bk t] at Z;refine GO 12 ?_;intro _ Y;refine aY Y Z [26,25,3,2,1] (fun (q:TbW)=>[(27,.int .i64 (q.k:Nat)),(5,.slice q.A q.n q.c)]) (fun (q:TbW)=>q.k≤t.ts.length∧q.n=2+11*q.k∧q.us=wY t q.k 0) (fun q L=>L.set 0 (.row (.slice q.A q.n q.c) q.n 5 1 (q.us.map bm))) (fun (q:TbW)=>t.ts.length-q.k) (⟨0,2,wY t 0 0,some ⟨b23,0,none⟩,2⟩) (⟨Nat.zero_le _,rfl,rfl⟩) bD (Z) ?_;intro q _ _ Za Y Z;refine GO 6 ?_;intro _ Y;refine ak (Y.ev rfl) (fun Zd=>?_) (fun Zd=>?_)
  ·
   have hlt:q.k<t.ts.length:=by have:=of_decide_eq_true Zd;omega
   obtain⟨b_,o_,rfl,_⟩:=hr.opened (aK cC ar ab);refine wp_skip (ag (ai (wp_block (ai (aq ?_)))));refine sv Y (av (i:=q.k) (sz:=4) Tryz.underlying22 aa (Y.ev rfl) (Y.ev rfl) ab ab rfl) fun _ Y=>?_;refine sv (v:=eZ t.ts[q.k]) Y (ah aa aa (Y.ev rfl) (aW cC (Z.rd0 hr) hlt)) fun _ Y=>?_;refine na (.agg #[.int .i64 0,.int .i64 0,.int .i64 0,.bool false]) Y rfl Z fun b7 _ _ Zk Y Z=>?_;refine sw Y Z 0 fun _ Z=>?_;refine GO 7 ?_;intro _ Y;refine sv Y (dF (k0:=.i64) aa Tryz.underlying128 (Y.ev rfl)) fun _ Y=>?_;refine jd Y (wn rfl) (ax a8 (Y.evs rfl) rfl) rfl rfl Z (i:=1) rfl (kM _ _ q.us _ (by rw[iN];omega) _ (Z.at_ (i:=1) rfl) (by have:=Za.2.1;omega)) fun A35 c35 _ _ Y Z=>?_;refine GO 8 ?_;intro _ Y;refine sv Y (dF (k0:=.i64) aa Tryz.underlying130 (Y.ev rfl)) fun _ Y=>?_;refine jd Y (wn rfl) (ax a8 (Y.evs rfl) rfl) rfl rfl Z (i:=1) rfl (lg _ _ (q.us ++ lit (IntKind.u16.wrap t.ts[q.k].i) 2) _ (by rw[jQ];omega) _ (Z.at_ (i:=1) rfl) (by have:=Za.2.1;omega)) fun A40 c40 _ _ Y Z=>?_;refine GO 8 ?_;intro _ Y;refine sv Y (dF (k0:=.i64) aa Tryz.underlying130 (Y.ev rfl)) fun _ Y=>?_;refine jd Y (wn rfl) (ax a8 (Y.evs rfl) rfl) rfl rfl Z (i:=1) rfl (lg _ _ ((q.us ++ lit (IntKind.u16.wrap t.ts[q.k].i) 2) ++ lit (IntKind.u32.wrap t.ts[q.k].l) 4) _ (by rw[jQ];omega) _ (Z.at_ (i:=1) rfl) (by have:=Za.2.1;omega)) fun A45 c45 _ _ Y Z=>?_;refine GO 7 ?_;intro _ Y;refine cI Y rfl (qZ _ _) fun _ Y=>?_;refine bz Y (wn rfl) (f:=fun b=>.slice (some ⟨b,0,none⟩) 1 1) (aX Tryz.underlying126 aa aa (Y.evs2 rfl) rfl rfl rfl ar ar) rfl rfl Z fun b50 _ _ Zh Y Z=>?_;refine bI (z:=.int .u8 0) (sz:=1) (bytes:=1) Y (wn rfl) ⟨rfl,rfl⟩ rfl Tryz.underlying126 aa rfl rfl (Y.ev rfl) (Y.ev rfl) Z (i:=2) rfl (Z.boxRd (i:=0) rfl) rfl (List.all_eq_true.1 rfl) ⟨(by have:=Za.2.1;omega),by decide⟩ fun A51 c51 _ _ Y Z=>?_
   refine GO 9 ?_;intro _ Y;exact⟨⟨q.k+1,q.n+2+2+2+2+2+1,q.us ++ vL t.ts[q.k],A51,c51⟩,(by show _-(q.k+1)<_;omega),⟨by show q.k+1≤_;omega,by show q.n+2+2+2+2+2+1=2+11*(q.k+1);have:=Za.2.1;omega,by show q.us ++ _=_;rw[Za.2.2,Ct hlt]⟩,Y.re bD,(by have qq:=(Z.sub (.cons _ (.cons _ (.cons_cons _ (.cons_cons _ .slnil)))));rw[←xR] at qq;exact qq)⟩
  ·
   have hge:q.k=t.ts.length:=by have:=of_decide_eq_false Zd;have:=Za.1;omega
   refine GO 15 ?_;intro _ Y;refine aY Y Z [55,54,3,2] (fun (u:TbW)=>[(56,.int .i64 (u.k:Nat)),(5,.slice u.A u.n u.c)]) (fun (u:TbW)=>u.k≤t.ds.length∧u.n=2+11*t.ts.length+7*u.k∧u.us=wY t t.ts.length u.k) (fun u L=>L.set 0 (.row (.slice u.A u.n u.c) u.n 5 1 (u.us.map bm))) (fun (u:TbW)=>t.ds.length-u.k) (⟨0,q.n,q.us,q.A,q.c⟩) (⟨Nat.zero_le _,by show q.n=_;rw[Za.2.1,hge];rfl,by show q.us=_;rw[Za.2.2,hge]⟩) bD (Z) ?_;intro u _ _ Zb Y Z;refine GO 6 ?_;intro _ Y;refine ak (Y.ev rfl) (fun Ze=>?_) (fun Ze=>?_)
   ·
    have hlt2:u.k<t.ds.length:=by have:=of_decide_eq_true Ze;omega
    obtain⟨b_,o_,rfl,_⟩:=hs.opened (aK dg ar ab);refine wp_skip (ag (ai (wp_block (ai (aq ?_)))));refine sv Y (av (i:=u.k) (sz:=3) Tryz.underlying23 aa (Y.ev rfl) (Y.ev rfl) ab ab rfl) fun _ Y=>?_;refine sv (v:=fM t.ds[u.k]) Y (ah aa aa (Y.ev rfl) (aW dg (Z.rd0 hs) hlt2)) fun _ Y=>?_;refine na (.agg #[.int .i64 0,.bool false,.int .i64 0]) Y rfl Z fun b9 _ _ Zl Y Z=>?_;refine sw Y Z 0 fun _ Z=>?_;refine GO 7 ?_;intro _ Y;refine sv Y (dF (k0:=.i64) aa Tryz.underlying128 (Y.ev rfl)) fun _ Y=>?_;refine jd Y (wn rfl) (ax a8 (Y.evs rfl) rfl) rfl rfl Z (i:=1) rfl (kM _ _ u.us _ (by rw[iN];omega) _ (Z.at_ (i:=1) rfl) (by have:=Zb.2.1;omega)) fun A64 c64 _ _ Y Z=>?_;refine GO 8 ?_;intro _ Y;refine cI Y rfl (qZ _ _) fun _ Y=>?_;refine bz Y (wn rfl) (f:=fun b=>.slice (some ⟨b,0,none⟩) 1 1) (aX Tryz.underlying126 aa aa (Y.evs2 rfl) rfl rfl rfl ar ar) rfl rfl Z fun b69 _ _ Zi Y Z=>?_;refine bI (z:=.int .u8 0) (sz:=1) (bytes:=1) Y (wn rfl) ⟨rfl,rfl⟩ rfl Tryz.underlying126 aa rfl rfl (Y.ev rfl) (Y.ev rfl) Z (i:=2) rfl (Z.boxRd (i:=0) rfl) rfl (List.all_eq_true.1 rfl) ⟨(by have:=Zb.2.1;omega),by decide⟩ fun A70 c70 _ _ Y Z=>?_;rw[pv,←List.map_append] at Z;refine GO 7 ?_;intro _ Y;refine sv Y (dF (k0:=.i64) aa Tryz.underlying130 (Y.ev rfl)) fun _ Y=>?_;refine jd Y (wn rfl) (ax a8 (Y.evs rfl) rfl) rfl rfl Z (i:=2) rfl (lg _ _ ((u.us ++ lit (IntKind.u16.wrap t.ds[u.k].g) 2) ++ lit (nV t.ds[u.k].f) 1) _ (by rw[jQ];omega) _ (Z.at_ (i:=2) rfl) (by have:=Zb.2.1;omega)) fun A75 c75 _ _ Y Z=>?_;refine GO 9 ?_;intro _ Y;exact⟨⟨u.k+1,u.n+2+1+2+2,u.us ++ vR t.ds[u.k],A75,c75⟩,(by show _-(u.k+1)<_;omega),⟨by show u.k+1≤_;omega,by show u.n+2+1+2+2=2+11*t.ts.length+7*(u.k+1);have:=Zb.2.1;omega,by show u.us ++ _=_;rw[Zb.2.2,CH hlt2]⟩,Y.re bD,(by have qq:=(Z.sub (.cons _ (.cons _ (.cons_cons _ (.cons_cons _ .slnil)))));rw[←yL] at qq;exact qq)⟩
   ·
    have hge2:u.k=t.ds.length:=by have:=of_decide_eq_false Ze;have:=Zb.1;omega
    refine GO 8 ?_;intro _ Y;refine sv Y (Be Tryz.underlying126 Tryz.underlying5 Tryz.underlying9 (Y.ev rfl) (Z.at_ (i:=0) rfl)) fun _ Y=>?_;refine GO 5 ?_;intro _ Y;refine bW Y rfl rfl rfl ?_;refine⟨?_,Z.below⟩;rw[if_pos hz,hz,Zb.2.2,hge2,AK]
end Go.Proofs.YtcfdpfmchchkaaaGreatDoor
