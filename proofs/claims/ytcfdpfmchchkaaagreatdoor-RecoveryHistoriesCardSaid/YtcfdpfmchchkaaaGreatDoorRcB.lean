/-
  Chapter 22: small functions, tables checked.
  Chapter 22: numbers in bytes; the bytes of a table.
-/
import Derived.Test.YtcfdpfmchchkaaaGreatDoorRcA
import Derived.Test.YtcfdpfmchchkaaaGreatDoorRgB
namespace Go.Proofs.YtcfdpfmchchkaaaGreatDoor
set_option maxHeartbeats 1000000
set_option maxRecDepth 4000
set_option linter.unusedVariables false
set_option linter.unusedSimpArgs false
open Go.RowKit Go.Sort
def eV (x:Trn):Value:=.agg #[.int .i64 x.i,.int .i64 x.l,.int .i64 x.u,.bool x.c]
def fF (x:Dty):Value:=.agg #[.int .i64 x.g,.bool x.f,.int .i64 x.l]
def ff (x:Rcd):Value:=.agg #[.int .i64 x.l,.int .i64 x.e.k,.int .i64 x.e.t,.int .i64 x.e.p,.int .i64 x.e.x,.int .i64 x.e.g,.bool x.e.f,.int .i64 x.e.o.k,.int .i64 x.e.o.a,.int .i64 x.e.o.e,.int .i64 x.e.o.c,.string x.e.o.o,.string x.e.o.n,.string x.e.d]
def sO (x:Pgp):Value:=.agg #[.int .i64 x.g,.bool x.f,.string x.b]
def cv (t:Tbl) (A:Option Addr) (c:Nat) (B:Option Addr) (d:Nat):Value:=.agg #[.slice A t.ts.length c,.slice B t.ds.length d]
theorem aK {α:Type} {f:α→List Value} {n:Nat} (hf:∀x,(f x).length=n) (hn:0<n) {l:List α} (h:0<l.length):0<(l.flatMap f).length:=by
 match l,h with
 | x::r,_=>rw[List.flatMap_cons,List.length_append,hf];omega
theorem ri (g:Nat→Trn→Int) (l:List Trn) (A:Option Addr) (c:Nat) (f:FuncId) (cap:List Value) (w:World) (hr:Rd w w.heap.size A (l.flatMap cd)) (hlen:l.length≤1000) (hfc:∀(vs:Array Value) (W:World),(callFunc f vs).run Tryz.prog W=.ok (.enter f vs) W)
 (hcl:∀X,Below w.heap.size w X→∀(k:Nat) (hk:k<l.length),(∀m (hm:m<l.length),m<k→g m l[m]=0)→Calls Tryz.prog f ([.int .i64 k,eV l[k]] ++ cap).toArray X fun e X'=>e=.returned (.int .i64 (g k l[k]))∧Below X.heap.size X X') :
 Calls Tryz.prog 60 #[.slice A l.length c,.func (.func f) #[] cap.toArray] w fun e w'=>e=.returned (.tuple #[.int .i64 (cB g 0 l).1,.int .i64 (cB g 0 l).2])∧Below w.heap.size w w':=by
 refine al (N:=25) Tryz.func60 rfl rfl rfl (fun _ Y=>?_);have Z:=St.init w;refine GO 3 ?_;intro _ Y;refine GO 6 ?_;intro _ Y;refine GO 6 ?_;intro _ Y;refine aY Y Z [10,9,1] (fun (j:Nat)=>[(11,.int .i64 j)]) (fun (j:Nat)=>j≤l.length∧∀k (hk:k<l.length),k<j→g k l[k]=0) (fun (j:Nat) L=>L) (fun (j:Nat)=>l.length-j) (0) (⟨Nat.zero_le _,fun k _ h=>by omega⟩) bz (Z) ?_;intro j _ _ Za Y Z;refine GO 6 ?_;intro _ Y;refine ak (Y.ev rfl) (fun Zb=>?_) (fun Zb=>?_)
 ·
  have hlt:j<l.length:=by have:=of_decide_eq_true Zb;omega
  obtain⟨b,o,rfl,hB,_⟩:=hr.opened (aK cy aq ab);refine GO 7 ?_;intro _ Y;refine sv Y (au (i:=j) (sz:=4) Tryz.underlying22 aa (Y.ev rfl) (Y.ev rfl) ab ab rfl) fun _ Y=>?_;refine sv (v:=eV l[j]) Y (ai aa aa (Y.ev rfl) (aW cy (Z.rd0 hr) hlt)) fun _ Y=>?_;refine na (.agg #[.int .i64 0,.int .i64 0,.int .i64 0,.bool false]) Y rfl Z fun b7 _ _ Zd Y Z=>?_;refine GO 1 ?_;intro _ Y;refine sw Y Z 0 fun _ Z=>?_;refine GO 6 ?_;intro _ Y;refine sv (v:=eV l[j]) Y (ai aa aa (Y.ev rfl) (Z.cellsAll (i:=0) rfl)) fun _ Y=>?_;refine dg Y (wn rfl) (cz hfc (Y.ev rfl) (Y.evs rfl) rfl) rfl rfl Z (hcl _ Z.below j hlt Za.2) fun _ _ Y Z=>?_;refine GO 9 ?_;intro _ Y;refine ak (Y.ev rfl) (fun Zc=>?_) (fun Zc=>?_)
  ·
   refine GO 14 ?_;intro _ Y;refine bC Y rfl rfl rfl ?_
   have Y:g j l[j]≠0:=by simpa using Zc
   have Y:=cP g l 0 j hlt (fun k hk h=>by rw[Nat.zero_add];exact Za.2 k hk h) (by rw[Nat.zero_add];exact Y);exact⟨by rw[Y,Nat.zero_add],Z.below⟩
  ·
   refine GO 8 ?_;intro _ Y;exact⟨j+1,by omega,⟨hlt,fun k hk h=>(Nat.lt_or_ge k j).elim (fun q=>Za.2 k hk q) (fun q=>by(obtain rfl:k=j:=by omega);simpa using Zc)⟩,Y.re bz,Z.sub (.cons _ .slnil)⟩
 ·
  have hge:l.length≤j:=by have:=of_decide_eq_false Zb;omega
  refine GO 12 ?_;intro _ Y;refine bC Y rfl rfl rfl ?_;exact⟨by rw[cN g l 0 (fun k hk=>by rw[Nat.zero_add];exact Za.2 k hk ab)],Z.below⟩
theorem rN (g:Nat→Dty→Int) (l:List Dty) (A:Option Addr) (c:Nat) (f:FuncId) (cap:List Value) (w:World) (hr:Rd w w.heap.size A (l.flatMap cK)) (hlen:l.length≤1000) (hfc:∀(vs:Array Value) (W:World),(callFunc f vs).run Tryz.prog W=.ok (.enter f vs) W)
 (hcl:∀X,Below w.heap.size w X→∀(k:Nat) (hk:k<l.length),(∀m (hm:m<l.length),m<k→g m l[m]=0)→Calls Tryz.prog f ([.int .i64 k,fF l[k]] ++ cap).toArray X fun e X'=>e=.returned (.int .i64 (g k l[k]))∧Below X.heap.size X X') :
 Calls Tryz.prog 65 #[.slice A l.length c,.func (.func f) #[] cap.toArray] w fun e w'=>e=.returned (.tuple #[.int .i64 (cB g 0 l).1,.int .i64 (cB g 0 l).2])∧Below w.heap.size w w':=by
 refine al (N:=25) Tryz.func65 rfl rfl rfl (fun _ Y=>?_);have Z:=St.init w;refine GO 3 ?_;intro _ Y;refine GO 6 ?_;intro _ Y;refine GO 6 ?_;intro _ Y;refine aY Y Z [10,9,1] (fun (j:Nat)=>[(11,.int .i64 j)]) (fun (j:Nat)=>j≤l.length∧∀k (hk:k<l.length),k<j→g k l[k]=0) (fun (j:Nat) L=>L) (fun (j:Nat)=>l.length-j) (0) (⟨Nat.zero_le _,fun k _ h=>by omega⟩) bz (Z) ?_;intro j _ _ Za Y Z;refine GO 6 ?_;intro _ Y;refine ak (Y.ev rfl) (fun Zb=>?_) (fun Zb=>?_)
 ·
  have hlt:j<l.length:=by have:=of_decide_eq_true Zb;omega
  obtain⟨b,o,rfl,hB,_⟩:=hr.opened (aK cW aq ab);refine GO 7 ?_;intro _ Y;refine sv Y (au (i:=j) (sz:=3) Tryz.underlying23 aa (Y.ev rfl) (Y.ev rfl) ab ab rfl) fun _ Y=>?_;refine sv (v:=fF l[j]) Y (ai aa aa (Y.ev rfl) (aW cW (Z.rd0 hr) hlt)) fun _ Y=>?_;refine na (.agg #[.int .i64 0,.bool false,.int .i64 0]) Y rfl Z fun b7 _ _ Zd Y Z=>?_;refine GO 1 ?_;intro _ Y;refine sw Y Z 0 fun _ Z=>?_;refine GO 6 ?_;intro _ Y;refine sv (v:=fF l[j]) Y (ai aa aa (Y.ev rfl) (Z.cellsAll (i:=0) rfl)) fun _ Y=>?_;refine dg Y (wn rfl) (cz hfc (Y.ev rfl) (Y.evs rfl) rfl) rfl rfl Z (hcl _ Z.below j hlt Za.2) fun _ _ Y Z=>?_;refine GO 9 ?_;intro _ Y;refine ak (Y.ev rfl) (fun Zc=>?_) (fun Zc=>?_)
  ·
   refine GO 14 ?_;intro _ Y;refine bC Y rfl rfl rfl ?_
   have Y:g j l[j]≠0:=by simpa using Zc
   have Y:=cP g l 0 j hlt (fun k hk h=>by rw[Nat.zero_add];exact Za.2 k hk h) (by rw[Nat.zero_add];exact Y);exact⟨by rw[Y,Nat.zero_add],Z.below⟩
  ·
   refine GO 8 ?_;intro _ Y;exact⟨j+1,by omega,⟨hlt,fun k hk h=>(Nat.lt_or_ge k j).elim (fun q=>Za.2 k hk q) (fun q=>by(obtain rfl:k=j:=by omega);simpa using Zc)⟩,Y.re bz,Z.sub (.cons _ .slnil)⟩
 ·
  have hge:l.length≤j:=by have:=of_decide_eq_false Zb;omega
  refine GO 12 ?_;intro _ Y;refine bC Y rfl rfl rfl ?_;exact⟨by rw[cN g l 0 (fun k hk=>by rw[Nat.zero_add];exact Za.2 k hk ab)],Z.below⟩
theorem rL (g:Nat→Pgp→Int) (l:List Pgp) (A:Option Addr) (c:Nat) (f:FuncId) (cap:List Value) (w:World) (hr:Rd w w.heap.size A (l.flatMap cx)) (hlen:l.length≤1000) (hfc:∀(vs:Array Value) (W:World),(callFunc f vs).run Tryz.prog W=.ok (.enter f vs) W)
 (hcl:∀X,Below w.heap.size w X→∀(k:Nat) (hk:k<l.length),(∀m (hm:m<l.length),m<k→g m l[m]=0)→Calls Tryz.prog f ([.int .i64 k,sO l[k]] ++ cap).toArray X fun e X'=>e=.returned (.int .i64 (g k l[k]))∧Below X.heap.size X X') :
 Calls Tryz.prog 200 #[.slice A l.length c,.func (.func f) #[] cap.toArray] w fun e w'=>e=.returned (.tuple #[.int .i64 (cB g 0 l).1,.int .i64 (cB g 0 l).2])∧Below w.heap.size w w':=by
 refine al (N:=25) Tryz.func200 rfl rfl rfl (fun _ Y=>?_);have Z:=St.init w;refine GO 3 ?_;intro _ Y;refine GO 6 ?_;intro _ Y;refine GO 6 ?_;intro _ Y;refine aY Y Z [10,9,1] (fun (j:Nat)=>[(11,.int .i64 j)]) (fun (j:Nat)=>j≤l.length∧∀k (hk:k<l.length),k<j→g k l[k]=0) (fun (j:Nat) L=>L) (fun (j:Nat)=>l.length-j) (0) (⟨Nat.zero_le _,fun k _ h=>by omega⟩) bz (Z) ?_;intro j _ _ Za Y Z;refine GO 6 ?_;intro _ Y;refine ak (Y.ev rfl) (fun Zb=>?_) (fun Zb=>?_)
 ·
  have hlt:j<l.length:=by have:=of_decide_eq_true Zb;omega
  obtain⟨b,o,rfl,hB,_⟩:=hr.opened (aK br aq ab);refine GO 7 ?_;intro _ Y;refine sv Y (au (i:=j) (sz:=3) Tryz.underlying48 aa (Y.ev rfl) (Y.ev rfl) ab ab rfl) fun _ Y=>?_;refine sv (v:=sO l[j]) Y (ai aa aa (Y.ev rfl) (aW br (Z.rd0 hr) hlt)) fun _ Y=>?_;refine na (.agg #[.int .i64 0,.bool false,.string ⟨#[]⟩]) Y rfl Z fun b7 _ _ Zd Y Z=>?_;refine GO 1 ?_;intro _ Y;refine sw Y Z 0 fun _ Z=>?_;refine GO 6 ?_;intro _ Y;refine sv (v:=sO l[j]) Y (ai aa aa (Y.ev rfl) (Z.cellsAll (i:=0) rfl)) fun _ Y=>?_;refine dg Y (wn rfl) (cz hfc (Y.ev rfl) (Y.evs rfl) rfl) rfl rfl Z (hcl _ Z.below j hlt Za.2) fun _ _ Y Z=>?_;refine GO 9 ?_;intro _ Y;refine ak (Y.ev rfl) (fun Zc=>?_) (fun Zc=>?_)
  ·
   refine GO 14 ?_;intro _ Y;refine bC Y rfl rfl rfl ?_
   have Y:g j l[j]≠0:=by simpa using Zc
   have Y:=cP g l 0 j hlt (fun k hk h=>by rw[Nat.zero_add];exact Za.2 k hk h) (by rw[Nat.zero_add];exact Y);exact⟨by rw[Y,Nat.zero_add],Z.below⟩
  ·
   refine GO 8 ?_;intro _ Y;exact⟨j+1,by omega,⟨hlt,fun k hk h=>(Nat.lt_or_ge k j).elim (fun q=>Za.2 k hk q) (fun q=>by(obtain rfl:k=j:=by omega);simpa using Zc)⟩,Y.re bz,Z.sub (.cons _ .slnil)⟩
 ·
  have hge:l.length≤j:=by have:=of_decide_eq_false Zb;omega
  refine GO 12 ?_;intro _ Y;refine bC Y rfl rfl rfl ?_;exact⟨by rw[cN g l 0 (fun k hk=>by rw[Nat.zero_add];exact Za.2 k hk ab)],Z.below⟩
theorem rD (g:Nat→Rcd→Int) (l:List Rcd) (A:Option Addr) (c:Nat) (f:FuncId) (cap:List Value) (w:World) (hr:Rd w w.heap.size A (l.flatMap bA)) (hlen:l.length≤1000) (hfc:∀(vs:Array Value) (W:World),(callFunc f vs).run Tryz.prog W=.ok (.enter f vs) W)
 (hcl:∀X,Below w.heap.size w X→∀(k:Nat) (hk:k<l.length),(∀m (hm:m<l.length),m<k→g m l[m]=0)→Calls Tryz.prog f ([.int .i64 k,ff l[k]] ++ cap).toArray X fun e X'=>e=.returned (.int .i64 (g k l[k]))∧Below X.heap.size X X') :
 Calls Tryz.prog 102 #[.slice A l.length c,.func (.func f) #[] cap.toArray] w fun e w'=>e=.returned (.tuple #[.int .i64 (cB g 0 l).1,.int .i64 (cB g 0 l).2])∧Below w.heap.size w w':=by
 refine al (N:=25) Tryz.func102 rfl rfl rfl (fun _ Y=>?_);have Z:=St.init w;refine GO 3 ?_;intro _ Y;refine GO 6 ?_;intro _ Y;refine GO 6 ?_;intro _ Y;refine aY Y Z [10,9,1] (fun (j:Nat)=>[(11,.int .i64 j)]) (fun (j:Nat)=>j≤l.length∧∀k (hk:k<l.length),k<j→g k l[k]=0) (fun (j:Nat) L=>L) (fun (j:Nat)=>l.length-j) (0) (⟨Nat.zero_le _,fun k _ h=>by omega⟩) bz (Z) ?_;intro j _ _ Za Y Z;refine GO 6 ?_;intro _ Y;refine ak (Y.ev rfl) (fun Zb=>?_) (fun Zb=>?_)
 ·
  have hlt:j<l.length:=by have:=of_decide_eq_true Zb;omega
  obtain⟨b,o,rfl,hB,_⟩:=hr.opened (aK aB aq ab);refine GO 7 ?_;intro _ Y;refine sv Y (au (i:=j) (sz:=14) Tryz.underlying41 aa (Y.ev rfl) (Y.ev rfl) ab ab rfl) fun _ Y=>?_;refine sv (v:=ff l[j]) Y (ai aa aa (Y.ev rfl) (aW aB (Z.rd0 hr) hlt)) fun _ Y=>?_;refine na (.agg #[.int .i64 0,.int .i64 0,.int .i64 0,.int .i64 0,.int .i64 0,.int .i64 0,.bool false,.int .i64 0,.int .i64 0,.int .i64 0,.int .i64 0,.string ⟨#[]⟩,.string ⟨#[]⟩,.string ⟨#[]⟩]) Y rfl Z fun b7 _ _ Zd Y Z=>?_;refine GO 1 ?_;intro _ Y;refine sw Y Z 0 fun _ Z=>?_;refine GO 6 ?_;intro _ Y;refine sv (v:=ff l[j]) Y (ai aa aa (Y.ev rfl) (Z.cellsAll (i:=0) rfl)) fun _ Y=>?_;refine dg Y (wn rfl) (cz hfc (Y.ev rfl) (Y.evs rfl) rfl) rfl rfl Z (hcl _ Z.below j hlt Za.2) fun _ _ Y Z=>?_;refine GO 9 ?_;intro _ Y;refine ak (Y.ev rfl) (fun Zc=>?_) (fun Zc=>?_)
  ·
   refine GO 14 ?_;intro _ Y;refine bC Y rfl rfl rfl ?_
   have Y:g j l[j]≠0:=by simpa using Zc
   have Y:=cP g l 0 j hlt (fun k hk h=>by rw[Nat.zero_add];exact Za.2 k hk h) (by rw[Nat.zero_add];exact Y);exact⟨by rw[Y,Nat.zero_add],Z.below⟩
  ·
   refine GO 8 ?_;intro _ Y;exact⟨j+1,by omega,⟨hlt,fun k hk h=>(Nat.lt_or_ge k j).elim (fun q=>Za.2 k hk q) (fun q=>by(obtain rfl:k=j:=by omega);simpa using Zc)⟩,Y.re bz,Z.sub (.cons _ .slnil)⟩
 ·
  have hge:l.length≤j:=by have:=of_decide_eq_false Zb;omega
  refine GO 12 ?_;intro _ Y;refine bC Y rfl rfl rfl ?_;exact⟨by rw[cN g l 0 (fun k hk=>by rw[Nat.zero_add];exact Za.2 k hk ab)],Z.below⟩
def vW (l:List Trn) (i:Nat):Bool:=match cH l i with
 | none=>true
 | some y=>match l[i]? with | none=>true | some x=>decide (y.i<x.i)
def wR (l:List Dty) (i:Nat):Bool:=match cH l i with
 | none=>true
 | some y=>match l[i]? with | none=>true | some x=>decide (y.g<x.g)
theorem zm (t:Tbl) (A:Option Addr) (c:Nat) (B:Option Addr) (d i b:Nat) (T:TypeId) (w:World) (hbx:Box w b #[.slice A t.ts.length c,.slice B t.ds.length d] T) (hr:Rd w w.heap.size A (t.ts.flatMap cd)) (hi:i<t.ts.length) (hl:t.ts.length≤100) :
 Calls Tryz.prog 61 #[.int .i64 i,eV t.ts[i],.pointer (some ⟨b,0,none⟩)] w fun e w'=>e=.returned (.int .i64 (jH (cH t.ts i) t.ts[i]))∧Below w.heap.size w w':=by
 obtain⟨b',o',rfl,_⟩:=hr.opened (aK cy aq ab);refine al (N:=42) Tryz.func61 rfl rfl rfl (fun _ h0=>?_);have Z:=St.init w;refine ah (ao ?_);refine nb h0 rfl rfl Z fun b4 _ _ Zi Y Z=>?_;refine GO 7 ?_;intro _ Y;refine cC Y rfl (bu _ _ _ _) fun _ Y=>?_;refine GO 1 ?_;intro _ Y;apply aZ (x:=bf t.ts[i].l 1 2147483647) Y Z 10 rfl 4 14
 case ht=>
  intro Za;refine GO 2 ?_;intro _ Y;refine bJ Y (aj Y _ rfl rfl rfl Za) (ax a8 (Y.evs rfl) rfl) rfl rfl (bu _ _ _ _) fun _ Y=>?_;refine GO 1 ?_;intro _ Y;exact ae ⟨Y.midE 3,Z⟩
 case hf=>
  intro Za;refine GO 4 ?_;intro _ Y;exact ae ⟨Y.midE 3,Z⟩
 case h=>
  rintro a15 Zj ⟨Zk,Zd⟩
  refine GO 1 ?_;intro _ Y;apply aZ (x:=bf t.ts[i].u 0 t.ts[i].l) Y Zd 15 rfl 6 21
  case ht=>
   intro Zb;refine GO 4 ?_;intro _ Y;refine bJ Y (aj Y _ rfl rfl rfl Zb) (ax a8 (Y.evs rfl) rfl) rfl rfl (bu _ _ _ _) fun _ Y=>?_;refine GO 1 ?_;intro _ Y;exact ae ⟨Y.midE 5,Zd⟩
  case hf=>
   intro Zb;refine GO 6 ?_;intro _ Y;exact ae ⟨Y.midE 5,Zd⟩
  case h=>
   rintro a29 Zl ⟨Zm,Ze⟩
   refine GO 4 ?_;intro _ Y;apply aH Y (eZ 17) _ aa
   case h=>
    refine GO 1 ?_;intro _ Y;refine gd Y rfl (fun X hX=>aJ _ _ _) fun _ Y=>?_;refine GO 3 ?_;intro _ Y;apply fa (x:=vW t.ts i) Y 26 rfl 12 38
    case hf=>
     intro Zc
     have hi0:i≠0:=by simp only[beq_eq_false_iff_ne] at Zc;omega
     have hi1:i-1<t.ts.length:=by omega
     have hbf:cH t.ts i=some t.ts[i-1]:=by unfold cH;rw[if_neg hi0,List.getElem?_eq_getElem hi1]
     refine qy Y (fun X hX=>(fy 0 (Y.ev rfl))) fun _ Y=>?_;refine qy Y (fun X hX=>(lx (Y.ev rfl) (Box.cells (hbx.below (Ze.grow hX).below) 0))) fun _ Y=>?_;refine GO 2 ?_;intro _ Y;refine qy Y (fun X hX=>(nf aa (Y.ev rfl) (Y.ev rfl))) fun _ Y=>?_;refine qy Y (fun X hX=>(au (i:=i-1) (sz:=4) Tryz.underlying22 aa (Y.ev rfl) (Y.ev rfl) ab ab rfl)) fun _ Y=>?_;refine qy Y (fun X hX=>(fy 0 (Y.ev rfl))) fun _ Y=>?_;refine qy Y (fun X hX=>(lx (Y.ev rfl) ((aW cy ((Ze.grow hX).rd0 hr) hi1) 0 _ rfl))) fun _ Y=>?_;refine GO 2 ?_;intro _ Y;refine qy Y (fun X hX=>(aw (v':=.bool (vW t.ts i)) (congrArg Value.bool (by unfold vW;rw[hbf,List.getElem?_eq_getElem hi])) (kU (Y.ev rfl) (Y.ev rfl)))) fun _ Y=>?_;refine GO 1 ?_;intro _ Y;exact av (Y.midE 11)
    case ht=>
     intro Zc;refine GO 12 ?_;intro _ Y;exact av (Y.midE 11)
    case h=>
     intro _ Y;refine av ?_;refine aP fun _ Zf Zg=>?_;have Z:=Ze.grow Zf;refine cC Y rfl (aJ _ _ _) fun _ Y=>?_;refine bw Y (wn rfl) (f:=fun b=>.slice (some ⟨b,0,none⟩) 2 2) (aX Tryz.underlying214 aa aa (Y.evs2 rfl) rfl rfl rfl aq aq) rfl rfl Z fun b40 _ _ Zh Y Z=>?_;refine cC Y rfl (cZ (Z.at_ (i:=0) rfl)) fun _ Y=>?_;refine GO 4 ?_;intro _ Y;refine aD Y rfl rfl ?_;refine⟨?_,Z.below⟩
     have e:((i:Int)==0||vW t.ts i)=vW t.ts i:=by
      rcases Nat.eq_zero_or_pos i with h0 | h0
      · subst h0;rfl
      · rw[show((i:Int)==0)=false by rw[beq_eq_false_iff_ne];omega];rfl
     rw[e];unfold jH vW;rw[List.getElem?_eq_getElem hi]
     cases cH t.ts i<;>rfl
   case hB=>kernel_rfl
   case hst=>rfl
theorem xR (t:Tbl) (A:Option Addr) (c:Nat) (B:Option Addr) (d i b:Nat) (T:TypeId) (w:World) (hbx:Box w b #[.slice A t.ts.length c,.slice B t.ds.length d] T) (hr:Rd w w.heap.size B (t.ds.flatMap cK)) (hi:i<t.ds.length) (hl:t.ds.length≤100) :
 Calls Tryz.prog 66 #[.int .i64 i,fF t.ds[i],.pointer (some ⟨b,0,none⟩)] w fun e w'=>e=.returned (.int .i64 (jL (cH t.ds i) t.ds[i]))∧Below w.heap.size w w':=by
 obtain⟨b',o',rfl,_⟩:=hr.opened (aK cW aq ab);refine al (N:=35) Tryz.func66 rfl rfl rfl (fun _ h0=>?_);have Z:=St.init w;refine ah (ao ?_);refine nb h0 rfl rfl Z fun b4 _ _ Zg Y Z=>?_;refine GO 7 ?_;intro _ Y;refine cC Y rfl (bu _ _ _ _) fun _ Y=>?_;refine GO 1 ?_;intro _ Y;apply aZ (x:=bf t.ds[i].l 1 2147483647) Y Z 10 rfl 4 14
 case ht=>
  intro Za;refine GO 2 ?_;intro _ Y;refine bJ Y (aj Y _ rfl rfl rfl Za) (ax a8 (Y.evs rfl) rfl) rfl rfl (bu _ _ _ _) fun _ Y=>?_;refine GO 1 ?_;intro _ Y;exact ae ⟨Y.midE 3,Z⟩
 case hf=>
  intro Za;refine GO 4 ?_;intro _ Y;exact ae ⟨Y.midE 3,Z⟩
 case h=>
  rintro a15 Zh ⟨Zi,Zc⟩
  refine GO 4 ?_;intro _ Y;apply aH Y (eZ 17) _ aa
  case h=>
   refine GO 1 ?_;intro _ Y;refine gd Y rfl (fun X hX=>aJ _ _ _) fun _ Y=>?_;refine GO 3 ?_;intro _ Y;apply fa (x:=wR t.ds i) Y 19 rfl 12 31
   case hf=>
    intro Zb
    have hi0:i≠0:=by simp only[beq_eq_false_iff_ne] at Zb;omega
    have hi1:i-1<t.ds.length:=by omega
    have hbf:cH t.ds i=some t.ds[i-1]:=by unfold cH;rw[if_neg hi0,List.getElem?_eq_getElem hi1]
    refine qy Y (fun X hX=>(fy 1 (Y.ev rfl))) fun _ Y=>?_;refine qy Y (fun X hX=>(lx (Y.ev rfl) (Box.cells (hbx.below (Zc.grow hX).below) 1))) fun _ Y=>?_;refine GO 2 ?_;intro _ Y;refine qy Y (fun X hX=>(nf aa (Y.ev rfl) (Y.ev rfl))) fun _ Y=>?_;refine qy Y (fun X hX=>(au (i:=i-1) (sz:=3) Tryz.underlying23 aa (Y.ev rfl) (Y.ev rfl) ab ab rfl)) fun _ Y=>?_;refine qy Y (fun X hX=>(fy 0 (Y.ev rfl))) fun _ Y=>?_;refine qy Y (fun X hX=>(lx (Y.ev rfl) ((aW cW ((Zc.grow hX).rd0 hr) hi1) 0 _ rfl))) fun _ Y=>?_;refine GO 2 ?_;intro _ Y;refine qy Y (fun X hX=>(aw (v':=.bool (wR t.ds i)) (congrArg Value.bool (by unfold wR;rw[hbf,List.getElem?_eq_getElem hi])) (kU (Y.ev rfl) (Y.ev rfl)))) fun _ Y=>?_;refine GO 1 ?_;intro _ Y;exact av (Y.midE 11)
   case ht=>
    intro Zb;refine GO 12 ?_;intro _ Y;exact av (Y.midE 11)
   case h=>
    intro _ Y;refine av ?_;refine aP fun _ Zd Ze=>?_;have Z:=Zc.grow Zd;refine cC Y rfl (aJ _ _ _) fun _ Y=>?_;refine bw Y (wn rfl) (f:=fun b=>.slice (some ⟨b,0,none⟩) 2 2) (aX Tryz.underlying214 aa aa (Y.evs2 rfl) rfl rfl rfl aq aq) rfl rfl Z fun b33 _ _ Zf Y Z=>?_;refine cC Y rfl (cZ (Z.at_ (i:=0) rfl)) fun _ Y=>?_;refine GO 4 ?_;intro _ Y;refine aD Y rfl rfl ?_;refine⟨?_,Z.below⟩
    have e:((i:Int)==0||wR t.ds i)=wR t.ds i:=by
     rcases Nat.eq_zero_or_pos i with h0 | h0
     · subst h0;rfl
     · rw[show((i:Int)==0)=false by rw[beq_eq_false_iff_ne];omega];rfl
    rw[e];unfold jL wR;rw[List.getElem?_eq_getElem hi]
    cases cH t.ds i<;>rfl
  case hB=>kernel_rfl
  case hst=>rfl
theorem cQ (t:Tbl) (A:Option Addr) (c:Nat) (B:Option Addr) (d:Nat) (w:World) (hr:Rd w w.heap.size A (t.ts.flatMap cd)) (hs:Rd w w.heap.size B (t.ds.flatMap cK)) :
 Calls Tryz.prog 15 #[cv t A c B d] w fun e w'=>e=.returned (.int .i64 (dy t))∧Below w.heap.size w w':=by
 refine al (N:=33) Tryz.func15 rfl rfl rfl (fun _ Y=>?_);have Z:=St.init w;refine ah (ao ?_);refine nb Y rfl rfl Z fun b1 _ _ Zf Y Z=>?_;refine GO 11 ?_;intro _ Y;apply bm (x:=decide ((t.ds.length:Int)>60)) Y Z 9 rfl 5 14
 case hf=>
  intro Zd;refine GO 5 ?_;intro _ Y;exact ae ⟨Y.midE 4,Z⟩
 case ht=>
  intro Zd;refine GO 5 ?_;intro _ Y;exact ae ⟨Y.midE 4,Z⟩
 case h=>
  rintro a18 Zg ⟨Ze,Za⟩
  refine ae (ag ?_);refine ak (Ze.ev rfl) (fun Zb=>?_) (fun Zb=>?_)
  ·
   have hbig:60<t.ts.length∨60<t.ds.length:=by simp only[Bool.or_eq_true,decide_eq_true_eq] at Zb;omega
   refine GO 7 ?_;intro _ Y;refine aD Y rfl rfl ?_;refine⟨?_,Za.below⟩;unfold dy;rw[if_pos hbig]
  ·
   have hn:t.ts.length≤60∧t.ds.length≤60:=by simp only[Bool.or_eq_false_iff,decide_eq_false_iff_not] at Zb;omega
   refine GO 6 ?_;intro _ Y;refine sv Y (eL (Y.evs rfl) (Y.evs rfl)) fun _ Y=>?_;refine cE Y rfl Za (ri (fun k x=>jH (cH t.ts k) x) t.ts A c 61 [.pointer (some ⟨b1,0,none⟩)] _ (Za.rd0 hr) ab a8 (fun X hX k hk hz'=>zm t A c B d k b1 _ X (Box.below (Za.at_ (i:=0) rfl) hX) ((Za.rd0 hr).below' hX) hk ab)) fun _ _ Y Z=>?_;refine GO 14 ?_;intro _ Y;refine ak (Y.ev rfl) (fun Zc=>?_) (fun Zc=>?_)
   ·
    have hne:(jh t.ts).2≠0:=by unfold jh;simpa using Zc
    refine GO 8 ?_;intro _ Y;refine aD Y rfl rfl ?_;refine⟨?_,Z.below⟩;unfold dy;rw[if_neg ab,if_pos hne];rfl
   ·
    have hz:(jh t.ts).2=0:=by unfold jh;simpa using Zc
    refine GO 6 ?_;intro _ Y;refine sv Y (eL (Y.evs rfl) (Y.evs rfl)) fun _ Y=>?_;refine cE Y rfl Z (rN (fun k x=>jL (cH t.ds k) x) t.ds B d 66 [.pointer (some ⟨b1,0,none⟩)] _ (Z.rd0 hs) ab a8 (fun X hX k hk hz'=>xR t A c B d k b1 _ X (Box.below (Z.at_ (i:=0) rfl) hX) ((Z.rd0 hs).below' hX) hk ab)) fun _ _ Y Z=>?_;refine GO 13 ?_;intro _ Y;refine aD Y rfl rfl ?_;refine⟨?_,Z.below⟩;unfold dy;rw[if_neg ab,if_neg (by simpa using hz)];rfl
theorem rk (b:Bool) (w:World):Calls Tryz.prog 69 #[.bool b] w fun e w'=>e=.returned (.int .u8 (n3 b))∧w=w':=by
 refine al (N:=4) Tryz.func69 rfl rfl rfl (fun _ Y=>?_);have S0:=St.init w;refine GO 11 ?_;intro _ Y;refine ak (Y.ev rfl) (fun Za=>?_) (fun Za=>?_)
 ·
  refine GO 7 ?_;intro _ Y;refine aD Y rfl rfl ?_;exact⟨by rw[show b=true from Za];rfl,rfl⟩
 ·
  refine GO 8 ?_;intro _ Y;refine aD Y rfl rfl ?_;exact⟨by rw[show b=false from Za];rfl,rfl⟩
theorem iN (e:Lge) (w:World):Calls Tryz.prog 91 #[cY e] w fun r w'=>r=.returned (.bool (dt e))∧Below w.heap.size w w':=by
 refine al (N:=11) Tryz.func91 rfl rfl rfl (fun _ Y=>?_);have Z:=St.init w;refine ah (ao ?_);refine nb Y rfl rfl Z fun b1 _ _ Zc Y Z=>?_;refine GO 9 ?_;intro _ Y;apply bm (x:=e.k==1) Y Z 6 rfl 4 10
 case hf=>
  intro Za;refine GO 4 ?_;intro _ Y;exact ae ⟨Y.midE 3,Z⟩
 case ht=>
  intro Za;refine GO 4 ?_;intro _ Y;exact ae ⟨Y.midE 3,Z⟩
 case h=>
  rintro a15 Zd ⟨Ze,Zb⟩
  refine GO 4 ?_;intro _ Y;refine aD Y rfl rfl ?_;exact⟨rfl,Zb.below⟩
open Go.RowKit Go.Sort
theorem kX (v:Value) (n:Nat) (us:List UInt8) (m:Int) (h0:0≤m) (w:World) (ho:w.ownsRow 0 5 1 v n (us.map bb)) (hn:n≤100000) :
 Calls Tryz.prog 67 #[v,.int .u16 m] w fun r w'=>∃A c,r=.returned (.slice A (n+2) c)∧St v.ownBlock.toList w w' [.row (.slice A (n+2) c) (n+2) 5 1 ((us ++ lit m 2).map bb)]:=by
 refine al (N:=13) Tryz.func67 rfl rfl rfl (fun _ h0=>?_);have Z:=St.initO ho;refine GO 9 ?_;intro _ Y;refine sv Y (dC (k0:=.i64) aa Tryz.underlying5 (Y.ev rfl)) fun _ Y=>?_;refine GO 1 ?_;intro _ Y;refine sv Y (mX (n:=8) (Y.ev rfl) (Y.ev rfl) rfl ab) fun _ Y=>?_;refine sv Y (dC (k0:=.i64) aa Tryz.underlying5 (Y.ev rfl)) fun _ Y=>?_;refine bw Y (wn rfl) (f:=fun b=>.slice (some ⟨b,0,none⟩) 2 2) (aX Tryz.underlying126 aa aa (Y.evs2 rfl) rfl rfl rfl aq aq) rfl rfl Z fun b11 _ _ Za Y Z=>?_;refine bG (z:=.int .u8 0) (sz:=1) (bytes:=1) Y (wn rfl) ⟨rfl,rfl⟩ rfl Tryz.underlying126 aa rfl rfl (Y.ev rfl) (Y.ev rfl) Z (i:=1) rfl (Z.boxRd (i:=0) rfl) rfl (List.all_eq_true.1 rfl) ⟨ab,by decide⟩ fun A12 c12 _ _ Y Z=>?_;refine GO 4 ?_;intro _ Y;refine aD Y rfl rfl ?_;refine⟨A12,c12,rfl,?_⟩;have q:=(Z.sub (.cons _ (.cons_cons _ .slnil)));rw[List.map_append,←tf];exact q
theorem kv (v:Value) (n:Nat) (us:List UInt8) (m:Int) (h0:0≤m) (w:World) (ho:w.ownsRow 0 5 1 v n (us.map bb)) (hn:n≤90000) :
 Calls Tryz.prog 68 #[v,.int .u32 m] w fun r w'=>∃A c,r=.returned (.slice A (n+2+2) c)∧St v.ownBlock.toList w w' [.row (.slice A (n+2+2) c) (n+2+2) 5 1 ((us ++ lit m 4).map bb)]:=by
 refine al (N:=17) Tryz.func68 rfl rfl rfl (fun _ h0=>?_);have Z:=St.initO ho;refine GO 9 ?_;intro _ Y;refine sv Y (dC (k0:=.i64) aa Tryz.underlying128 (Y.ev rfl)) fun _ Y=>?_;refine iR Y (wn rfl) (ax a8 (Y.evs rfl) rfl) rfl rfl Z (i:=0) rfl (kX _ _ us _ (by rw[iM];omega) _ (Z.at_ (i:=0) rfl) ab) fun A8 c8 _ _ Y Z=>?_;refine GO 1 ?_;intro _ Y;refine sv Y (mX (n:=16) (Y.ev rfl) (Y.ev rfl) rfl ab) fun _ Y=>?_;refine sv Y (dC (k0:=.i64) aa Tryz.underlying5 (Y.ev rfl)) fun _ Y=>?_;refine GO 1 ?_;intro _ Y;refine sv Y (mX (n:=24) (Y.ev rfl) (Y.ev rfl) rfl ab) fun _ Y=>?_;refine sv Y (dC (k0:=.i64) aa Tryz.underlying5 (Y.ev rfl)) fun _ Y=>?_;refine bw Y (wn rfl) (f:=fun b=>.slice (some ⟨b,0,none⟩) 2 2) (aX Tryz.underlying126 aa aa (Y.evs2 rfl) rfl rfl rfl aq aq) rfl rfl Z fun b15 _ _ Za Y Z=>?_;refine bG (z:=.int .u8 0) (sz:=1) (bytes:=1) Y (wn rfl) ⟨rfl,rfl⟩ rfl Tryz.underlying126 aa rfl rfl (Y.ev rfl) (Y.ev rfl) Z (i:=1) rfl (Z.boxRd (i:=0) rfl) rfl (List.all_eq_true.1 rfl) ⟨ab,by decide⟩ fun A16 c16 _ _ Y Z=>?_;refine GO 4 ?_;intro _ Y;refine aD Y rfl rfl ?_;refine⟨A16,c16,rfl,?_⟩;have q:=(Z.sub (.cons _ (.cons_cons _ .slnil)))
 have e:(us ++ lit m 4).map bb=(us ++ lit (IntKind.u16.wrap m) 2).map bb ++ [.int .u8 (IntKind.u8.wrap (m / 2 ^ 16)),.int .u8 (IntKind.u8.wrap (m / 2 ^ 24))]:=by
  rw[k9,k9,ny,iM];simp only[List.map_append,List.append_assoc];rfl
 rw[e];exact q
theorem gI (b o n c:Nat) (l:List UInt8) (w:World) (hb:kC w b l) (h:o+2≤l.length) (hn:2≤n) :
 Calls Tryz.prog 71 #[.slice (some ⟨b,o,none⟩) n c] w fun e w'=>e=.returned (.int .u16 (g16 l o))∧Below w.heap.size w w':=by
 have u1:=(l.getD o 0).toNat_lt;have u2:=(l.getD (o+1) 0).toNat_lt;refine al (N:=13) Tryz.func71 rfl rfl rfl (fun _ Y=>?_);have Z:=St.init w;refine GO 6 ?_;intro _ Y;apply aH Y (eZ 9) _ aa
 case h=>
  refine GO 1 ?_;intro _ Y;refine qv Y (fun X hX=>au (i:=0) (sz:=1) Tryz.underlying126 aa (Y.ev rfl) (Y.ev rfl) ab ab rfl) fun _ Y=>?_;refine qv (v:=bb (l.getD o 0)) Y (fun X hX=>lx (Y.ev rfl) ((jQ (i:=0) (gl hb (Z.grow hX).below) ab) 0 _ rfl)) fun _ Y=>?_;refine qv Y (fun X hX=>bN aa Tryz.underlying128 (Y.ev rfl) (wrap_u16 ab)) fun _ Y=>?_;refine GO 1 ?_;intro _ Y;refine qv Y (fun X hX=>au (i:=1) (sz:=1) Tryz.underlying126 aa (Y.ev rfl) (Y.ev rfl) ab ab rfl) fun _ Y=>?_;refine qv (v:=bb (l.getD (o+1) 0)) Y (fun X hX=>lx (Y.ev rfl) ((jQ (i:=1) (gl hb (Z.grow hX).below) ab) 0 _ rfl)) fun _ Y=>?_;refine qv Y (fun X hX=>bN aa Tryz.underlying128 (Y.ev rfl) (wrap_u16 ab)) fun _ Y=>?_;refine qv Y (fun X hX=>tx (n:=8) (r:=((l.getD (o+1) 0).toNat:Int)*256) (Y.ev rfl) (Y.ev rfl) rfl (by rw[wrap_u16 ab];omega)) fun _ Y=>?_;refine av ?_;refine aP fun _ Za Zb=>?_;have Z:=Z.grow Za;refine sv Y (ki (r:=g16 l o) rfl (Y.ev rfl) (Y.ev rfl) (vY u1 u2)) fun _ Y=>?_;refine GO 4 ?_;intro _ Y;refine aD Y rfl rfl ?_;exact⟨rfl,Z.below⟩
 case hB=>kernel_rfl
 case hst=>rfl
theorem jy (b o n c:Nat) (l:List UInt8) (w:World) (hb:kC w b l) (h:o+4≤l.length) (hn:4≤n) (hc:n≤c) :
 Calls Tryz.prog 72 #[.slice (some ⟨b,o,none⟩) n c] w fun e w'=>e=.returned (.int .u32 (ua l o))∧Below w.heap.size w w':=by
 have u1:=ky l o;have u2:=ky l (o+2);refine al (N:=12) Tryz.func72 rfl rfl rfl (fun _ Y=>?_);have Z:=St.init w;refine GO 6 ?_;intro _ Y;apply aH Y (eZ 8) _ aa
 case h=>
  refine GO 1 ?_;intro _ Y;refine lT Y rfl (fun X hX=>gI b o n c l _ (gl hb (Z.grow hX).below) ab ab) fun _ Y=>?_;refine qv Y (fun X hX=>bN aa Tryz.underlying130 (Y.ev rfl) (wrap_u32 ab)) fun _ Y=>?_;refine GO 1 ?_;intro _ Y;refine qv Y (fun X hX=>gx (l:=2) (h:=n) (sz:=1) Tryz.underlying126 aa (Y.ev rfl) (Y.ev rfl) rfl ab hc (.inl ab) rfl) fun _ Y=>?_;refine lT Y rfl (fun X hX=>gI b (o+2*1) (n-2) (c-2) l _ (gl hb (Z.grow hX).below) ab ab) fun _ Y=>?_;refine qv Y (fun X hX=>bN aa Tryz.underlying130 (Y.ev rfl) (wrap_u32 (by show 0≤g16 l (o+2)∧g16 l (o+2)<4294967296;omega))) fun _ Y=>?_;refine qv Y (fun X hX=>tx (n:=16) (r:=g16 l (o+2)*65536) (Y.ev rfl) (Y.ev rfl) rfl (by show IntKind.u32.wrap (g16 l (o+2)*2 ^ 16)=_;rw[wrap_u32 ab];omega)) fun _ Y=>?_;refine av ?_;refine aP fun _ Za Zb=>?_;have Z:=Z.grow Za;refine sv Y (ki (r:=ua l o) rfl (Y.ev rfl) (Y.ev rfl) (by obtain⟨a,ha⟩:=Int.eq_ofNat_of_zero_le u1.1;obtain⟨b',hb'⟩:=Int.eq_ofNat_of_zero_le u2.1;unfold ua;rw[ha,hb'];rw[ha] at u1;rw[hb'] at u2;exact wy ab ab)) fun _ Y=>?_;refine GO 4 ?_;intro _ Y;refine aD Y rfl rfl ?_;exact⟨rfl,Z.below⟩
 case hB=>kernel_rfl
 case hst=>rfl
structure TbW where
 k:Nat
 n:Nat
 us:List UInt8
 A:Option Addr
 c:Nat
theorem xY {n:Int}:lit (IntKind.u32.wrap n) 4=lit n 4:=by
 rw[j9,rI,rI n]
 have h1:n % 4294967296 % 65536=n % 65536:=by omega
 have h2:n % 4294967296 / 2 ^ 16 % 65536=n / 2 ^ 16 % 65536:=by omega
 rw[h1,h2]
theorem BE {n:Int}:lit (IntKind.u16.wrap n) 2=lit n 2:=by
 rw[iM]
 have h1:n % 65536 % 256=n % 256:=by omega
 have h2:n % 65536 / 256 % 256=n / 256 % 256:=by omega
 simp only[lit,h1,h2]
theorem z8 (t:Tbl):[Value.int .u8 (IntKind.u8.wrap t.ts.length),.int .u8 (IntKind.u8.wrap t.ds.length)]=((lit t.ts.length 1 ++ lit t.ds.length 1 ++ ([] ++ []):List UInt8)).map bb:=by
 rw[k9,k9];rfl
theorem pv (b:Bool):[Value.int .u8 (n3 b)]=(lit (n3 b) 1).map bb:=by cases b<;>rfl
theorem yp (us:List UInt8) (x:Trn):(us ++ vw x).map bb=(((us ++ lit (IntKind.u16.wrap x.i) 2) ++ lit (IntKind.u32.wrap x.l) 4) ++ lit (IntKind.u32.wrap x.u) 4).map bb ++ [Value.int .u8 (n3 x.c)]:=by
 rw[pv,←List.map_append]
 congr 1
 rw[BE,xY,xY];unfold vw;simp only[List.append_assoc]
theorem yH (us:List UInt8) (x:Dty):(us ++ ve x).map bb=(((us ++ lit (IntKind.u16.wrap x.g) 2) ++ lit (n3 x.f) 1) ++ lit (IntKind.u32.wrap x.l) 4).map bb:=by
 congr 1
 rw[BE,xY];unfold ve;simp only[List.append_assoc]
def zf (t:Tbl) (k j:Nat):List UInt8:=lit t.ts.length 1 ++ lit t.ds.length 1 ++ ((t.ts.take k).flatMap vw ++ (t.ds.take j).flatMap ve)
theorem CK {t:Tbl} {k:Nat} (hk:k<t.ts.length):zf t (k+1) 0=zf t k 0 ++ vw t.ts[k]:=by
 unfold zf;rw[List.take_succ_eq_append_getElem hk,List.flatMap_append];simp
theorem CN {t:Tbl} {k j:Nat} (hj:j<t.ds.length):zf t k (j+1)=zf t k j ++ ve t.ds[j]:=by
 unfold zf;rw[List.take_succ_eq_append_getElem hj,List.flatMap_append];simp
theorem Bb (t:Tbl):zf t t.ts.length t.ds.length=A4 t:=by
 unfold zf A4;rw[List.take_length,List.take_length]
theorem mB (t:Tbl) (A:Option Addr) (c:Nat) (B:Option Addr) (d:Nat) (w:World) (hr:Rd w w.heap.size A (t.ts.flatMap cd)) (hs:Rd w w.heap.size B (t.ds.flatMap cK)) :
 Calls Tryz.prog 17 #[cv t A c B d] w fun e w'=>e=.returned (.tuple #[.string (if dy t=0 then bs (A4 t) else ⟨#[]⟩),.int .i64 (dy t)])∧Below w.heap.size w w':=by
 refine al (N:=79) Tryz.func17 rfl rfl rfl (fun _ Y=>?_);have Z:=St.init w;refine ah (ao ?_);refine nb Y rfl rfl Z fun b1 _ _ Zj Y Z=>?_;refine GO 7 ?_;intro _ Y;refine sv (v:=cv t A c B d) Y (ai aa aa (Y.ev rfl) (Z.cellsAll (i:=0) rfl)) fun _ Y=>?_;refine cE Y rfl Z (cQ t A c B d _ (Z.rd0 hr) (Z.rd0 hs)) fun _ _ Y Z=>?_;refine GO 9 ?_;intro _ Y;refine ak (Y.ev rfl) (fun Zc=>?_) (fun Zc=>?_)
 ·
  have hne:¬dy t=0:=by simpa using Zc
  refine GO 9 ?_;intro _ Y;refine bC Y rfl rfl rfl ?_;refine⟨?_,Z.below⟩;rw[if_neg hne]
 ·
  have hz:dy t=0:=by simpa using Zc
  have hk:=tblE_zero.1 hz;have hn:=hk.n;have hm:=hk.m;refine GO 7 ?_;intro _ Y;refine sv Y (dC (k0:=.i64) aa Tryz.underlying5 (Y.ev rfl)) fun _ Y=>?_;refine GO 3 ?_;intro _ Y;refine sv Y (dC (k0:=.i64) aa Tryz.underlying5 (Y.ev rfl)) fun _ Y=>?_;refine bw Y (wn rfl) (f:=fun b=>.slice (some ⟨b,0,none⟩) 2 2) (aX Tryz.underlying126 aa aa (Y.evs2 rfl) rfl rfl rfl aq aq) rfl rfl Z fun b23 _ Zf Zg Y Z=>?_;refine GO 1 ?_;intro _ Y;replace Z:=Z.toRow (i:=0) (n:=2) (sz:=1) rfl rfl aq;replace Z:St [] w Zf [.row (.slice (some ⟨b23,0,none⟩) 2 2) 2 5 1 [Value.int .u8 (IntKind.u8.wrap t.ts.length),.int .u8 (IntKind.u8.wrap t.ds.length)],.box b1 (cv t A c B d).cells 25]:=Z;rw[z8 t] at Z;refine GO 12 ?_;intro _ Y;refine aY Y Z [26,25,3,2,1] (fun (q:TbW)=>[(27,.int .i64 (q.k:Nat)),(5,.slice q.A q.n q.c)]) (fun (q:TbW)=>q.k≤t.ts.length∧q.n=2+11*q.k∧q.us=zf t q.k 0) (fun q L=>L.set 0 (.row (.slice q.A q.n q.c) q.n 5 1 (q.us.map bb))) (fun (q:TbW)=>t.ts.length-q.k) (⟨0,2,zf t 0 0,some ⟨b23,0,none⟩,2⟩) (⟨Nat.zero_le _,rfl,rfl⟩) bz (Z) ?_;intro q _ _ Za Y Z;refine GO 6 ?_;intro _ Y;refine ak (Y.ev rfl) (fun Zd=>?_) (fun Zd=>?_)
  ·
   have hlt:q.k<t.ts.length:=by have:=of_decide_eq_true Zd;omega
   obtain⟨b_,o_,rfl,_⟩:=hr.opened (aK cy aq ab);refine wp_skip (ag (ah (wp_block (ah (ao ?_)))));refine sv Y (au (i:=q.k) (sz:=4) Tryz.underlying22 aa (Y.ev rfl) (Y.ev rfl) ab ab rfl) fun _ Y=>?_;refine sv (v:=eV t.ts[q.k]) Y (ai aa aa (Y.ev rfl) (aW cy (Z.rd0 hr) hlt)) fun _ Y=>?_;refine na (.agg #[.int .i64 0,.int .i64 0,.int .i64 0,.bool false]) Y rfl Z fun b7 _ _ Zk Y Z=>?_;refine sw Y Z 0 fun _ Z=>?_;refine GO 7 ?_;intro _ Y;refine sv Y (dC (k0:=.i64) aa Tryz.underlying128 (Y.ev rfl)) fun _ Y=>?_;refine iR Y (wn rfl) (ax a8 (Y.evs rfl) rfl) rfl rfl Z (i:=1) rfl (kX _ _ q.us _ (by rw[iM];omega) _ (Z.at_ (i:=1) rfl) (by have:=Za.2.1;omega)) fun A35 c35 _ _ Y Z=>?_;refine GO 8 ?_;intro _ Y;refine sv Y (dC (k0:=.i64) aa Tryz.underlying130 (Y.ev rfl)) fun _ Y=>?_;refine iR Y (wn rfl) (ax a8 (Y.evs rfl) rfl) rfl rfl Z (i:=1) rfl (kv _ _ (q.us ++ lit (IntKind.u16.wrap t.ts[q.k].i) 2) _ (by rw[j9];omega) _ (Z.at_ (i:=1) rfl) (by have:=Za.2.1;omega)) fun A40 c40 _ _ Y Z=>?_;refine GO 8 ?_;intro _ Y;refine sv Y (dC (k0:=.i64) aa Tryz.underlying130 (Y.ev rfl)) fun _ Y=>?_;refine iR Y (wn rfl) (ax a8 (Y.evs rfl) rfl) rfl rfl Z (i:=1) rfl (kv _ _ ((q.us ++ lit (IntKind.u16.wrap t.ts[q.k].i) 2) ++ lit (IntKind.u32.wrap t.ts[q.k].l) 4) _ (by rw[j9];omega) _ (Z.at_ (i:=1) rfl) (by have:=Za.2.1;omega)) fun A45 c45 _ _ Y Z=>?_;refine GO 7 ?_;intro _ Y;refine cC Y rfl (rk _ _) fun _ Y=>?_;refine bw Y (wn rfl) (f:=fun b=>.slice (some ⟨b,0,none⟩) 1 1) (aX Tryz.underlying126 aa aa (Y.evs2 rfl) rfl rfl rfl aq aq) rfl rfl Z fun b50 _ _ Zh Y Z=>?_;refine bG (z:=.int .u8 0) (sz:=1) (bytes:=1) Y (wn rfl) ⟨rfl,rfl⟩ rfl Tryz.underlying126 aa rfl rfl (Y.ev rfl) (Y.ev rfl) Z (i:=2) rfl (Z.boxRd (i:=0) rfl) rfl (List.all_eq_true.1 rfl) ⟨(by have:=Za.2.1;omega),by decide⟩ fun A51 c51 _ _ Y Z=>?_
   refine GO 9 ?_;intro _ Y;exact⟨⟨q.k+1,q.n+2+2+2+2+2+1,q.us ++ vw t.ts[q.k],A51,c51⟩,(by show _-(q.k+1)<_;omega),⟨by show q.k+1≤_;omega,by show q.n+2+2+2+2+2+1=2+11*(q.k+1);have:=Za.2.1;omega,by show q.us ++ _=_;rw[Za.2.2,CK hlt]⟩,Y.re bz,(by have qq:=(Z.sub (.cons _ (.cons _ (.cons_cons _ (.cons_cons _ .slnil)))));rw[←yp] at qq;exact qq)⟩
  ·
   have hge:q.k=t.ts.length:=by have:=of_decide_eq_false Zd;have:=Za.1;omega
   refine GO 15 ?_;intro _ Y;refine aY Y Z [55,54,3,2] (fun (u:TbW)=>[(56,.int .i64 (u.k:Nat)),(5,.slice u.A u.n u.c)]) (fun (u:TbW)=>u.k≤t.ds.length∧u.n=2+11*t.ts.length+7*u.k∧u.us=zf t t.ts.length u.k) (fun u L=>L.set 0 (.row (.slice u.A u.n u.c) u.n 5 1 (u.us.map bb))) (fun (u:TbW)=>t.ds.length-u.k) (⟨0,q.n,q.us,q.A,q.c⟩) (⟨Nat.zero_le _,by show q.n=_;rw[Za.2.1,hge];rfl,by show q.us=_;rw[Za.2.2,hge]⟩) bz (Z) ?_;intro u _ _ Zb Y Z;refine GO 6 ?_;intro _ Y;refine ak (Y.ev rfl) (fun Ze=>?_) (fun Ze=>?_)
   ·
    have hlt2:u.k<t.ds.length:=by have:=of_decide_eq_true Ze;omega
    obtain⟨b_,o_,rfl,_⟩:=hs.opened (aK cW aq ab);refine wp_skip (ag (ah (wp_block (ah (ao ?_)))));refine sv Y (au (i:=u.k) (sz:=3) Tryz.underlying23 aa (Y.ev rfl) (Y.ev rfl) ab ab rfl) fun _ Y=>?_;refine sv (v:=fF t.ds[u.k]) Y (ai aa aa (Y.ev rfl) (aW cW (Z.rd0 hs) hlt2)) fun _ Y=>?_;refine na (.agg #[.int .i64 0,.bool false,.int .i64 0]) Y rfl Z fun b9 _ _ Zl Y Z=>?_;refine sw Y Z 0 fun _ Z=>?_;refine GO 7 ?_;intro _ Y;refine sv Y (dC (k0:=.i64) aa Tryz.underlying128 (Y.ev rfl)) fun _ Y=>?_;refine iR Y (wn rfl) (ax a8 (Y.evs rfl) rfl) rfl rfl Z (i:=1) rfl (kX _ _ u.us _ (by rw[iM];omega) _ (Z.at_ (i:=1) rfl) (by have:=Zb.2.1;omega)) fun A64 c64 _ _ Y Z=>?_;refine GO 8 ?_;intro _ Y;refine cC Y rfl (rk _ _) fun _ Y=>?_;refine bw Y (wn rfl) (f:=fun b=>.slice (some ⟨b,0,none⟩) 1 1) (aX Tryz.underlying126 aa aa (Y.evs2 rfl) rfl rfl rfl aq aq) rfl rfl Z fun b69 _ _ Zi Y Z=>?_;refine bG (z:=.int .u8 0) (sz:=1) (bytes:=1) Y (wn rfl) ⟨rfl,rfl⟩ rfl Tryz.underlying126 aa rfl rfl (Y.ev rfl) (Y.ev rfl) Z (i:=2) rfl (Z.boxRd (i:=0) rfl) rfl (List.all_eq_true.1 rfl) ⟨(by have:=Zb.2.1;omega),by decide⟩ fun A70 c70 _ _ Y Z=>?_;rw[pv,←List.map_append] at Z;refine GO 7 ?_;intro _ Y;refine sv Y (dC (k0:=.i64) aa Tryz.underlying130 (Y.ev rfl)) fun _ Y=>?_;refine iR Y (wn rfl) (ax a8 (Y.evs rfl) rfl) rfl rfl Z (i:=2) rfl (kv _ _ ((u.us ++ lit (IntKind.u16.wrap t.ds[u.k].g) 2) ++ lit (n3 t.ds[u.k].f) 1) _ (by rw[j9];omega) _ (Z.at_ (i:=2) rfl) (by have:=Zb.2.1;omega)) fun A75 c75 _ _ Y Z=>?_;refine GO 9 ?_;intro _ Y;exact⟨⟨u.k+1,u.n+2+1+2+2,u.us ++ ve t.ds[u.k],A75,c75⟩,(by show _-(u.k+1)<_;omega),⟨by show u.k+1≤_;omega,by show u.n+2+1+2+2=2+11*t.ts.length+7*(u.k+1);have:=Zb.2.1;omega,by show u.us ++ _=_;rw[Zb.2.2,CN hlt2]⟩,Y.re bz,(by have qq:=(Z.sub (.cons _ (.cons _ (.cons_cons _ (.cons_cons _ .slnil)))));rw[←yH] at qq;exact qq)⟩
   ·
    have hge2:u.k=t.ds.length:=by have:=of_decide_eq_false Ze;have:=Zb.1;omega
    refine GO 8 ?_;intro _ Y;refine sv Y (zL Tryz.underlying126 Tryz.underlying5 Tryz.underlying9 (Y.ev rfl) (Z.at_ (i:=0) rfl)) fun _ Y=>?_;refine GO 5 ?_;intro _ Y;refine bC Y rfl rfl rfl ?_;refine⟨?_,Z.below⟩;rw[if_pos hz,hz,Zb.2.2,hge2,Bb]
end Go.Proofs.YtcfdpfmchchkaaaGreatDoor
