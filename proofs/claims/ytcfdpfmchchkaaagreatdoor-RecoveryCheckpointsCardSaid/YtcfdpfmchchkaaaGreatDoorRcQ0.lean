/- Chapter 22 -/
import Derived.Test.YtcfdpfmchchkaaaGreatDoorRcP0
import Derived.LaidMore
import Derived.MakeChecks
import Derived.FnData
namespace Go.Proofs.YtcfdpfmchchkaaaGreatDoor
set_option maxRecDepth 100000
set_option maxHeartbeats 1000000
set_option linter.unusedVariables false
set_option linter.unusedSimpArgs false
open Go.RowKit Go.Sort Go.Shelf
structure PlnS where
 U:List Int
 s:List Stp
 A:Option Addr
 c:Nat
open Go.RowKit Go.Sort Go.Shelf
def TelI {ι:Type} (φ:ι→Value) (R:ι→World→Prop) (v:Value) (X:World):Prop:=∃i,v=φ i∧R i X
theorem TelI.stable {ι:Type} {φ:ι→Value} {R:ι→World→Prop} (c:∀i X X',R i X→Below X.heap.size X X'→R i X') (v:Value) (X X':World) (h:TelI φ R v X) (d:Below X.heap.size X X'):TelI φ R v X':=by
 obtain⟨i,b,a⟩:=h;exact⟨i,b,c i X X' a d⟩
theorem pL {ι:Type} {φ:ι→Value} {R:ι→World→Prop} {X:World} {f:FuncId} {args:Array Value} {r:Result Next} (hx:r=.ok (.enter f args) X) (a:Calls Tryz.prog f args X fun e X'=>∃i,e=.returned (φ i)∧R i X'∧Below X.heap.size X X'):cz Tryz.prog (TelI φ R) X r:=by
 subst hx;exact⟨rfl,a.mono fun e X' ⟨i,d,b,c⟩=>⟨_,d,c,i,rfl,b⟩⟩
theorem s8 {A:Option Addr} {xs:List Value} {X X':World} (h:Rd X X.heap.size A xs) (a:Below X.heap.size X X'):Rd X' X'.heap.size A xs:=h.below' a
def G9 (n:Nat) (i:Option Addr × Nat):Value:=.slice i.1 n i.2
def RdN (n:Nat) (xs:List Value) (i:Option Addr × Nat) (X:World):Prop:=n≤i.2∧Rd X X.heap.size i.1 xs
theorem RdN.grow {n:Nat} {xs:List Value} (i:Option Addr × Nat) (X X':World) (h:RdN n xs i X) (a:Below X.heap.size X X'):RdN n xs i X':=⟨h.1,s8 h.2 a⟩
def RdT (t:Tbl) (i:Option Addr × Nat × Option Addr × Nat) (X:World):Prop:=Rd X X.heap.size i.1 (t.ts.flatMap cc)∧Rd X X.heap.size i.2.2.1 (t.ds.flatMap cw)
theorem RdT.grow {t:Tbl} (i:Option Addr × Nat × Option Addr × Nat) (X X':World) (h:RdT t i X) (a:Below X.heap.size X X'):RdT t i X':=⟨s8 h.1 a,s8 h.2 a⟩
def G6 (t:Tbl) (i:Option Addr × Nat × Option Addr × Nat):Value:=bW t i.1 i.2.1 i.2.2.1 i.2.2.2
def RdR (B:Nat) (l:List Rcd) (t:Tbl) (p:List Pgp) (i:Option Addr × Nat) (X:World):Prop:=X.ownsRow B 111 3 (.slice i.1 (j8 l t p).1.length i.2) (j8 l t p).1.length ((j8 l t p).1.flatMap cS)
theorem RdR.grow {B:Nat} {l:List Rcd} {t:Tbl} {p:List Pgp} (i:Option Addr × Nat) (X X':World) (h:RdR B l t p i X) (a:Below X.heap.size X X'):RdR B l t p i X':=cK h a
def RdO (B:Nat) (l:List Rcd) (t:Tbl) (i:Option Addr × Nat) (X:World):Prop:=X.ownsRow B 3 1 (.slice i.1 (oz l t).length i.2) (oz l t).length ((oz l t).map (.int .i64))
theorem RdO.grow {B:Nat} {l:List Rcd} {t:Tbl} (i:Option Addr × Nat) (X X':World) (h:RdO B l t i X) (a:Below X.heap.size X X'):RdO B l t i X':=cK h a
open Go.RowKit Go.Sort Go.Shelf
theorem zT (t:Tbl) (A:Option Addr) (c:Nat) (B:Option Addr) (d:Nat) (w:World) :
 bz 14 #[bW t A c B d] w (.bool (decide (t.ts.length≤62∧t.ds.length≤62))):=by
 refine aq (N:=13) Tryz.func14 rfl rfl rfl (fun _ Y=>?_);have Z:=St.init w;refine ai (an ?_);refine nb Y rfl rfl Z fun b1 _ _ j Y Z=>GO 10 ?_;intro _ Y;apply bo (x:=decide ((t.ds.length:Int)≤62)) Y Z 7 rfl 5 12
 case ht=>
  intro f;refine GO 5 ?_;intro _ Y;exact ah ⟨Y.midE 4,Z⟩
 case hf=>
  intro f;refine GO 5 ?_;intro _ Y;exact ah ⟨Y.midE 4,Z⟩
 case h=>
  rintro a i ⟨g,b⟩
  refine GO 4 ?_;intro _ Y;refine aI Y rfl rfl ?_;refine⟨?_,b.below⟩
  have e:decide (t.ts.length≤62∧t.ds.length≤62)=(decide ((t.ts.length:Int)≤62)&&decide ((t.ds.length:Int)≤62)):=by
   rw[Bool.eq_iff_iff];simp;omega
  rw[e]
open Go.ChangeShapes Go.WideShapes Go.ChangeAt Go.RowKit
theorem AR {W:World} {k:Nat} {v:Value} {x:DataW Unit × List MemPlace} {xs:List Int} (h:DataW.trod (fun _=>()) Tryz.prog W 0 (fun _=>true) false k 53 [v]=some x)
 (hx:x.1=.slice (xs.map fun n=>.lit (.int .i64 n)) []):∃A c,v=.slice A xs.length c∧Rd W W.heap.size A (xs.map (.int .i64)):=by
 rcases Go.Deep.open_slice1 n4 aa h with ⟨_,q⟩ | ⟨a,len,cap,m,n,V,D,Pl,g,hb,hl,hm,hmm,q,hV⟩
 · rw[q] at hx;cases hx
 · rw[q] at hx
   injection hx with hx _
   have i:len=xs.length:=by have:=congrArg List.length hx;simpa using this
   injection g with g _;subst i;refine⟨some a,cap,g,fun j u e=>?_⟩;rw[if_pos rfl] at hmm;rw[List.getElem?_map] at e
   have f:j<xs.length:=by
    cases hq:xs[j]? with
    | none=>rw[hq] at e;cases e
    | some z=>exact(List.getElem?_eq_some_iff.1 hq).1
   rw[List.getElem?_eq_getElem f] at e;injection e with e;obtain⟨p,ht⟩:=hV j ab;obtain⟨z,r,e2,_⟩:=DataW.trod_int ew ht
   have e3:D j=.lit (.int .i64 xs[j]):=by
    have:=congrArg (fun l=>l[j]?) hx;simp only[List.getElem?_map] at this;rw[List.getElem?_range f,List.getElem?_eq_getElem f] at this;injection this
   have d:D j=.lit (.int .i64 z):=(Prod.mk.inj e2).1;rw[e3] at d;injection d with d;injection d with _ d;injection r with r _;rw[r,←d,e] at p;obtain⟨b,o,w⟩:=a
   have s:w=none:=by
    have:=World.cell?_spot (hV 0 ab).1
    simpa [Addr.add] using this
   subst s
   have t:((⟨b,o,none⟩:Addr).add j)=⟨b,o+j,none⟩:=by unfold Addr.add;by_cases g:j=0<;>simp[g]
   rw[t] at p;exact⟨b,o,rfl,block_lt_of_cell p,p⟩
theorem CS {W:World} {b:Nat} {v:Value} {x:DataW Unit × List MemPlace} (h:DataW.trod (fun _=>()) Tryz.prog W 0 (fun _=>true) false b 53 [v]=some x) (hx:x.1=.nil):v=.slice none 0 0:=by
 rcases Go.Deep.open_slice1 n4 aa h with ⟨c,_⟩ | ⟨a,len,cap,m,n,V,D,Pl,c,hb,hl,hm,hmm,h2,hV⟩
 · injection c
 · rw[h2] at hx;cases hx
theorem B4 {W:World} (h:laidMetH Tryz.prog [("unicode/utf8.acceptRanges",Rows.laid_unicode_utf8_acceptRanges),("depository/recovery.follows",Rows.laid_depository_recovery_follows),("unicode/utf8.first",Rows.laid_unicode_utf8_first)] W):FolT W:=by
 rw[MakeChecks.laidMetH_plain _ _ _ aa] at h;obtain⟨ps,⟨P,R,I,Q,S,T,_,_,_,_,⟨g,t,cs,C,p,q,D,ht,O,N,_,_⟩,_⟩,_,_⟩:=h;obtain rfl:=Option.some.inj ((show Tryz.prog.globalNamed "depository/recovery.follows" = some 0 by kernel_rfl).symm.trans D);obtain rfl:=Option.some.inj ((show(Tryz.prog.globals[0]?).map (·.type)=some 255 by kernel_rfl).symm.trans ht);obtain⟨xs,m,_,ex,f,G,j⟩:=DataW.trod_array Tryz.underlying255 N
 have c1:Tryz.prog.cellsOf 53=1:=by kernel_rfl
 have H:Tryz.prog.cellsOf 255=6:=by kernel_rfl
 rw[H] at f;rw[c1] at j;unfold Rows.laid_depository_recovery_follows at ex
 match xs,G with
 | [x0,x1,x2,x3,x4,x5],_=>
  have o:=(DataW.agg.inj (Prod.mk.inj ex).1);simp only[List.map_cons,List.map_nil,List.cons.injEq,and_true] at o;obtain⟨k0,M,F,L,K,J⟩:=o
  have u:∀i,i<6→∃v,cs[i]? = some v∧∃x,[x0,x1,x2,x3,x4,x5][i]? = some x∧DataW.trod (fun _=>()) Tryz.prog W 0 (fun _=>true) false m 53 [v]=some x:=fun i r=>by
   have B:=j i r
   have z:i<cs.size:=by rw[←Array.length_toList,f];exact r
   refine⟨cs[i],Array.getElem?_eq_getElem z,_,List.getElem?_eq_getElem r,?_⟩
   have e:(cs.toList.drop (i*1)).take 1=[cs[i]]:=by
    rw[Nat.mul_one,List.drop_eq_getElem_cons (ar z)];simp
   rw[e,List.getElem?_eq_getElem r] at B;exact B
  have cell:=fun i=>World.var?_cell D O i;refine⟨fun k E=>?_⟩;obtain⟨v,y,x,a,l⟩:=u k E;have b:W.cell? ⟨0,k,none⟩=some v:=(cell k).trans y
  have key:∀s:List Int,x.1=.slice (s.map fun n=>.lit (.int .i64 n)) []→∃A c,W.cell? ⟨0,k,none⟩=some (.slice A s.length c)∧Rd W W.heap.size A (s.map (.int .i64)):=fun s w=>by
   obtain⟨A,c,e,hr⟩:=AR l w;exact⟨A,c,by rw[b,e],hr⟩
  have d:x.1=.nil→∃A c,W.cell? ⟨0,k,none⟩=some (.slice A ([]:List Int).length c)∧Rd W W.heap.size A (([]:List Int).map (.int .i64)):=fun w=>⟨none,0,by rw[b,CS l w];rfl,Rd.nil _ _ _⟩
  match k,E with
  | 0,_=>obtain rfl:x0=x:=Option.some.inj a;exact key [0,1,2,3,4] k0.symm
  | 1,_=>obtain rfl:x1=x:=Option.some.inj a;exact key [1,4] M.symm
  | 2,_=>obtain rfl:x2=x:=Option.some.inj a;exact key [4] F.symm
  | 3,_=>obtain rfl:x3=x:=Option.some.inj a;exact key [1,4] L.symm
  | 4,_=>obtain rfl:x4=x:=Option.some.inj a;exact d K.symm
  | 5,_=>obtain rfl:x5=x:=Option.some.inj a;exact d J.symm
open Go.ChangeShapes Go.WideShapes Go.ChangeAt Go.RowKit
theorem Ch {H:Type} {enc:TypeId × Value→H} {W:World} {a:Nat} {cs:List Value} {x:DataW H × List MemPlace} (p:cs.length=4)
 (h:DataW.trod enc Tryz.prog W 0 (fun _=>true) true a 116 cs=some x):∃y:Trn,cs=cc y∧True:=by
 obtain⟨xs,k,r,o,_,b,hf⟩:=DataW.trod_struct sT h
 match xs,b,cs,p with
 | [y0,y1,y2,y3],_,[c0,c1,c2,c3],_=>
  have j:Tryz.prog.cellsOf 3=1:=by kernel_rfl
  have l:Tryz.prog.cellsOf 4=1:=by kernel_rfl
  have d:=hf 0 _ rfl;have f:=hf 1 _ rfl;have c:=hf 2 _ rfl;have e:=hf 3 _ rfl;simp[j,l] at d f c e;obtain⟨i,e0,_,_⟩:=DataW.trod_int ew d;obtain⟨m,g,_,_⟩:=DataW.trod_int ew f;obtain⟨n,e2,_,_⟩:=DataW.trod_int ew c;obtain⟨q,e3,_⟩:=DataW.trod_bool xx e;simp only[List.cons.injEq,and_true] at e0 g e2 e3;exact⟨⟨i,m,n,q⟩,by rw[e0,g,e2,e3];rfl,trivial⟩
theorem CK {H:Type} {enc:TypeId × Value→H} {W:World} {a:Nat} {cs:List Value} {x:DataW H × List MemPlace} (o:cs.length=3)
 (h:DataW.trod enc Tryz.prog W 0 (fun _=>true) true a 124 cs=some x):∃y:Dty,cs=cw y∧True:=by
 obtain⟨xs,k,p,n,_,b,hf⟩:=DataW.trod_struct Tryz.underlying124 h
 match xs,b,cs,o with
 | [y0,y1,y2],_,[c0,c1,c2],_=>
  have i:Tryz.prog.cellsOf 3=1:=by kernel_rfl
  have j:Tryz.prog.cellsOf 4=1:=by kernel_rfl
  have d:=hf 0 _ rfl;have e:=hf 1 _ rfl;have c:=hf 2 _ rfl;simp[i,j] at d e c;obtain⟨g,e0,_,_⟩:=DataW.trod_int ew d;obtain⟨l,f,_⟩:=DataW.trod_bool xx e;obtain⟨m,e2,_,_⟩:=DataW.trod_int ew c;simp only[List.cons.injEq,and_true] at e0 f e2;exact⟨⟨g,l,m⟩,by rw[e0,f,e2];rfl,trivial⟩
structure TblA where
 t:Tbl
 A:Option Addr
 c:Nat
 B:Option Addr
 d:Nat
theorem BV {H:Type} {enc:TypeId × Value→H} {W:World} {r:Reach} {b:Nat} {v:Value} {d:DataW H} {p:List MemPlace}
 (o:Value.okWide Tryz.prog W r b 25 v) (h:DataW.Trod enc Tryz.prog W 0 (fun _=>true) true 25 v d p) :
 ∃(t:Tbl) (A:Option Addr) (c:Nat) (B:Option Addr) (d:Nat),v=bW t A c B d∧Rd W W.heap.size A (t.ts.flatMap cc)∧Rd W W.heap.size B (t.ds.flatMap cw):=by
 obtain⟨y,n,m,h3⟩:=tT (α:=TblA) (fun y=>[.slice y.A y.t.ts.length y.c,.slice y.B y.t.ds.length y.d]) 2 (fun y=>Rd W W.heap.size y.A (y.t.ts.flatMap cc)∧Rd W W.heap.size y.B (y.t.ds.flatMap cw)) Tryz.underlying25 aa (fun a cs x e h=>by
  obtain⟨xs,k,u,q,_,f,hf⟩:=DataW.trod_struct Tryz.underlying25 h
  match xs,f,cs,e with
  | [y0,y1],_,[c0,c1],_=>
   have c1:Tryz.prog.cellsOf 22=1:=by kernel_rfl
   have c2:Tryz.prog.cellsOf 23=1:=by kernel_rfl
   have i:=hf 0 _ rfl;have g:=hf 1 _ rfl;simp[c1,c2] at i g;obtain⟨A,c,ts,e0,_,s,_⟩:=mP cc 4 bG (fun _=>True) ed aa (fun a cs x e h=>Ch e h) i;obtain⟨B,d,ds,j,_,l,_⟩:=mP cw 3 bU (fun _=>True) eP aa (fun a cs x e h=>CK e h) g;simp only[List.cons.injEq,and_true] at e0 j
   exact⟨⟨⟨ts,ds⟩,A,c,B,d⟩,by rw[e0,j],s,l⟩) o h
 exact⟨y.t,y.A,y.c,y.B,y.d,n,m,h3⟩
end Go.Proofs.YtcfdpfmchchkaaaGreatDoor
