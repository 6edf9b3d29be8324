/-
  Chapter 22: the laid table recovery.follows, as the walks want it; histories, tables and pages that came in.
  Chapter 22: histories, tables and pages that came in.
-/
import Derived.Test.YtcfdpfmchchkaaaGreatDoorRc30
import Derived.LaidMore
import Derived.MakeChecks
import Derived.FnData
namespace Go.Proofs.YtcfdpfmchchkaaaGreatDoor
set_option maxRecDepth 100000
set_option linter.unusedVariables false
set_option linter.unusedSimpArgs false
open Go.ChangeShapes Go.WideShapes Go.ChangeAt Go.RowKit
theorem wa {W:World} {fuel:Nat} {v:Value} {x:DataW Unit × List MemPlace} {xs:List Int} (h:DataW.trod (fun _=>()) Tryz.prog W 0 (fun _=>true) false fuel 53 [v]=some x)
 (hx:x.1=.slice (xs.map fun n=>.lit (.int .i64 n)) []):∃A c,v=.slice A xs.length c∧Rd W W.heap.size A (xs.map (.int .i64)):=by
 rcases Go.Deep.open_slice1 Tryz.underlying53 aa h with ⟨_,h2⟩ | ⟨a,len,cap,m,n,V,D,Pl,h1,hb,hl,hm,hmm,h2,hV⟩
 · rw[h2] at hx;cases hx
 · rw[h2] at hx
   injection hx with hx _
   have hlen:len=xs.length:=by have:=congrArg List.length hx;simpa using this
   injection h1 with h1 _;subst hlen;refine⟨some a,cap,h1,fun j u hj=>?_⟩;rw[if_pos rfl] at hmm;rw[List.getElem?_map] at hj
   have hjl:j<xs.length:=by
    cases hq:xs[j]? with
    | none=>rw[hq] at hj;cases hj
    | some z=>exact(List.getElem?_eq_some_iff.1 hq).1
   rw[List.getElem?_eq_getElem hjl] at hj;injection hj with hj;obtain⟨hc,ht⟩:=hV j ab;obtain⟨z,e1,e2,_⟩:=DataW.trod_int Tryz.underlying3 ht
   have e3:D j=.lit (.int .i64 xs[j]):=by
    have:=congrArg (fun l=>l[j]?) hx;simp only[List.getElem?_map] at this;rw[List.getElem?_range hjl,List.getElem?_eq_getElem hjl] at this;injection this
   have e2':D j=.lit (.int .i64 z):=(Prod.mk.inj e2).1;rw[e3] at e2';injection e2' with e2';injection e2' with _ e2';injection e1 with e1 _;rw[e1,←e2',hj] at hc;obtain⟨b,o,sp⟩:=a
   have hs:sp=none:=by
    have:=World.cell?_spot (hV 0 ab).1
    simpa [Addr.add] using this
   subst hs
   have ea:((⟨b,o,none⟩:Addr).add j)=⟨b,o+j,none⟩:=by unfold Addr.add;by_cases h1:j=0<;>simp[h1]
   rw[ea] at hc;exact⟨b,o,rfl,block_lt_of_cell hc,hc⟩
theorem xz {W:World} {fuel:Nat} {v:Value} {x:DataW Unit × List MemPlace} (h:DataW.trod (fun _=>()) Tryz.prog W 0 (fun _=>true) false fuel 53 [v]=some x) (hx:x.1=.nil):v=.slice none 0 0:=by
 rcases Go.Deep.open_slice1 Tryz.underlying53 aa h with ⟨h1,_⟩ | ⟨a,len,cap,m,n,V,D,Pl,h1,hb,hl,hm,hmm,h2,hV⟩
 · injection h1
 · rw[h2] at hx;cases hx
theorem xX {W:World} (h:laidMetH Tryz.prog [("unicode/utf8.acceptRanges",Rows.laid_unicode_utf8_acceptRanges),("depository/recovery.follows",Rows.laid_depository_recovery_follows),("unicode/utf8.first",Rows.laid_unicode_utf8_first)] W):FolT W:=by
 rw[MakeChecks.laidMetH_plain _ _ _ aa] at h;obtain⟨ps,⟨g1,t1,cs1,f1,p1,q1,_,_,_,_,⟨g,t,cs,fuel,p,q,hg,ht,hv,hd,_,_⟩,_⟩,_,_⟩:=h;obtain rfl:=Option.some.inj ((show Tryz.prog.globalNamed "depository/recovery.follows" = some 0 by kernel_rfl).symm.trans hg);obtain rfl:=Option.some.inj ((show(Tryz.prog.globals[0]?).map (·.type)=some 255 by kernel_rfl).symm.trans ht);obtain⟨xs,m,_,ex,hcl,hl,hel⟩:=DataW.trod_array Tryz.underlying255 hd
 have c1:Tryz.prog.cellsOf 53=1:=by kernel_rfl
 have c6:Tryz.prog.cellsOf 255=6:=by kernel_rfl
 rw[c6] at hcl;rw[c1] at hel;unfold Rows.laid_depository_recovery_follows at ex
 match xs,hl with
 | [x0,x1,x2,x3,x4,x5],_=>
  have ex1:=(DataW.agg.inj (Prod.mk.inj ex).1);simp only[List.map_cons,List.map_nil,List.cons.injEq,and_true] at ex1;obtain⟨k0,k1,k2,k3,k4,k5⟩:=ex1
  have one:∀i,i<6→∃v,cs[i]? = some v∧∃x,[x0,x1,x2,x3,x4,x5][i]? = some x∧DataW.trod (fun _=>()) Tryz.prog W 0 (fun _=>true) false m 53 [v]=some x:=fun i hi=>by
   have hE:=hel i hi
   have hs:i<cs.size:=by rw[←Array.length_toList,hcl];exact hi
   refine⟨cs[i],Array.getElem?_eq_getElem hs,_,List.getElem?_eq_getElem hi,?_⟩
   have e:(cs.toList.drop (i*1)).take 1=[cs[i]]:=by
    rw[Nat.mul_one,List.drop_eq_getElem_cons (by simpa using hs)];simp
   rw[e,List.getElem?_eq_getElem hi] at hE;exact hE
  have cell:=fun i=>World.var?_cell hg hv i;refine⟨fun k hk=>?_⟩;obtain⟨v,hcv,x,hxx,htr⟩:=one k hk;have hcell:W.cell? ⟨0,k,none⟩=some v:=(cell k).trans hcv
  have key:∀ns:List Int,x.1=.slice (ns.map fun n=>.lit (.int .i64 n)) []→∃A c,W.cell? ⟨0,k,none⟩=some (.slice A ns.length c)∧Rd W W.heap.size A (ns.map (.int .i64)):=fun ns hn=>by
   obtain⟨A,c,e,hr⟩:=wa htr hn;exact⟨A,c,by rw[hcell,e],hr⟩
  have keyn:x.1=.nil→∃A c,W.cell? ⟨0,k,none⟩=some (.slice A ([]:List Int).length c)∧Rd W W.heap.size A (([]:List Int).map (.int .i64)):=fun hn=>⟨none,0,by rw[hcell,xz htr hn];rfl,Rd.nil _ _ _⟩
  match k,hk with
  | 0,_=>obtain rfl:x0=x:=Option.some.inj hxx;exact key [0,1,2,3,4] k0.symm
  | 1,_=>obtain rfl:x1=x:=Option.some.inj hxx;exact key [1,4] k1.symm
  | 2,_=>obtain rfl:x2=x:=Option.some.inj hxx;exact key [4] k2.symm
  | 3,_=>obtain rfl:x3=x:=Option.some.inj hxx;exact key [1,4] k3.symm
  | 4,_=>obtain rfl:x4=x:=Option.some.inj hxx;exact keyn k4.symm
  | 5,_=>obtain rfl:x5=x:=Option.some.inj hxx;exact keyn k5.symm
theorem CC {n:Int} (h:(Lit.int .i64 n).wf=true):I6 n:=by
 have h1:(decide (IntKind.i64.min≤n)&&decide (n≤IntKind.i64.max))=true:=h
 have e1:IntKind.i64.min = -9223372036854775808:=by decide
 have e2:IntKind.i64.max=9223372036854775807:=by decide
 rw[e1,e2,Bool.and_eq_true,decide_eq_true_eq,decide_eq_true_eq] at h1;unfold I6;omega
theorem sI {H:Type} {enc:TypeId × Value→H} {W:World} {fuel:Nat} {cs:List Value} {x:DataW H × List MemPlace} (hl:cs.length=13)
 (h:DataW.trod enc Tryz.prog W 0 (fun _=>true) true fuel 143 cs=some x):∃y:Lge,cs=qL y∧mh y∧I6 y.g:=by
 obtain⟨xs,k,hk,hxy,_,hxl,hf⟩:=DataW.trod_struct Tryz.underlying143 h
 match xs,hxl,cs,hl with
 | [y0,y1,y2,y3,y4,y5,y6,y7],_,[c0,c1,c2,c3,c4,c5,c6,c7,c8,c9,c10,c11,c12],_=>
  have ci:Tryz.prog.cellsOf 3=1:=by kernel_rfl
  have cS:Tryz.prog.cellsOf 9=1:=by kernel_rfl
  have cb:Tryz.prog.cellsOf 4=1:=by kernel_rfl
  have co:Tryz.prog.cellsOf 141=6:=by kernel_rfl
  have g0:=hf 0 _ rfl;have g1:=hf 1 _ rfl;have g2:=hf 2 _ rfl;have g3:=hf 3 _ rfl;have g4:=hf 4 _ rfl;have g5:=hf 5 _ rfl;have g6:=hf 6 _ rfl;have g7:=hf 7 _ rfl;simp[ci,cS,cb,co] at g0 g1 g2 g3 g4 g5 g6 g7;obtain⟨x0,e0,_,_⟩:=DataW.trod_int Tryz.underlying3 g0;obtain⟨x1,e1,_,_⟩:=DataW.trod_int Tryz.underlying3 g1;obtain⟨x2,e2,_,_⟩:=DataW.trod_int Tryz.underlying3 g2;obtain⟨x3,e3,_,_⟩:=DataW.trod_int Tryz.underlying3 g3;obtain⟨x4,e4,_,b4⟩:=DataW.trod_int Tryz.underlying3 g4;obtain⟨x5,e5,_⟩:=DataW.trod_bool Tryz.underlying4 g5;obtain⟨x6,e6,o1,o2⟩:=AX rfl g6;obtain⟨x7,e7,_,s7⟩:=DataW.trod_string Tryz.underlying9 g7;simp only[List.cons.injEq,and_true] at e0 e1 e2 e3 e4 e5 e7;unfold rT at e6;simp only[List.cons.injEq,and_true] at e6;obtain⟨f0,f1,f2,f3,f4,f5⟩:=e6;refine⟨⟨x0,x1,x2,x3,x4,x5,x6,x7⟩,?_,⟨⟨o1,o2⟩,s7⟩,CC b4⟩;rw[e0,e1,e2,e3,e4,e5,e7,f0,f1,f2,f3,f4,f5];rfl
open Go.ChangeShapes Go.WideShapes Go.ChangeAt Go.RowKit
theorem xC {H:Type} {enc:TypeId × Value→H} {P:Program} {W:World} {t e:TypeId} {A:Option Addr} {n c:Nat} {d:DataW H} {p:List MemPlace}
 (ht:P.underlying t=some (.slice e)) (h:DataW.Trod enc P W 0 (fun _=>true) true t (.slice A n c) d p):n≤c:=by
 obtain⟨fuel,hfu⟩:=h;rcases Go.Deep.open_slice ht hfu with ⟨hcs,_⟩ | ⟨a,len,cap,m,k,D,Pl,hcs,_,hl,_⟩
 · simp[Value.cells] at hcs
   omega
 · simp[Value.cells] at hcs
   omega
theorem sK {H:Type} {enc:TypeId × Value→H} {W:World} {r:Reach} {base:Nat} {v:Value} {d:DataW H} {p:List MemPlace}
 (hv:Value.okWide Tryz.prog W r base 41 v) (h:DataW.Trod enc Tryz.prog W 0 (fun _=>true) true 41 v d p) :
 ∃(A:Option Addr) (c:Nat) (l:List Rcd),v=.slice A l.length c∧l.length≤maxLen∧Rd W W.heap.size A (l.flatMap bA)∧∀x∈l,mh x.e∧I6 x.e.g:=
 vg bA 14 aB (fun x=>mh x.e∧I6 x.e.g) Tryz.underlying41 aa (fun fuel cs x hl h=>by
  obtain⟨xs,k,hk,hxy,_,hxl,hf⟩:=DataW.trod_struct Tryz.underlying145 h
  match xs,hxl,cs,hl with
  | [y0,y1],_,c0::cr,hl=>
   have ci:Tryz.prog.cellsOf 3=1:=by kernel_rfl
   have ce:Tryz.prog.cellsOf 143=13:=by kernel_rfl
   have hcr:cr.length=13:=by simpa using hl
   have g0:=hf 0 _ rfl;have g1:=hf 1 _ rfl;simp[ci,ce] at g0 g1;obtain⟨x0,e0,_,_⟩:=DataW.trod_int Tryz.underlying3 g0;rw[List.take_of_length_le ab] at g1;obtain⟨y,e1,m1,i1⟩:=sI hcr g1;simp only[List.cons.injEq,and_true] at e0
   exact⟨⟨x0,y⟩,by rw[e0,e1];rfl,m1,i1⟩) hv h
theorem vJ {H:Type} {enc:TypeId × Value→H} {W:World} {r:Reach} {base:Nat} {v:Value} {d:DataW H} {p:List MemPlace}
 (hv:Value.okWide Tryz.prog W r base 41 v) (h:DataW.Trod enc Tryz.prog W 0 (fun _=>true) true 41 v d p) :
 ∃(A:Option Addr) (c:Nat) (l:List Rcd),v=.slice A l.length c∧(l.length≤maxLen∧l.length≤c)∧Rd W W.heap.size A (l.flatMap bA)∧∀x∈l,mh x.e∧I6 x.e.g:=by
 obtain⟨A,c,l,rfl,h1,h2,h3⟩:=sK hv h;exact⟨A,c,l,rfl,⟨h1,xC Tryz.underlying41 h⟩,h2,h3⟩
structure TblA where
 t:Tbl
 A:Option Addr
 c:Nat
 B:Option Addr
 d:Nat
end Go.Proofs.YtcfdpfmchchkaaaGreatDoor
