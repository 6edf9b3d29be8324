/-
  Chapter 22, plain: what the reference makes of a table by a record, by positions.
  Chapter 22: what the reference makes of a table by a record.
  Chapter 22: the reference's analysis.
-/
import Derived.Test.YtcfdpfmchchkaaaGreatDoorRcQ0
import Derived.Test.YtcfdpfmchchkaaaGreatDoorSplF
namespace Go.Proofs.YtcfdpfmchchkaaaGreatDoor
set_option linter.unusedVariables false
set_option linter.unusedSimpArgs false
open Go.RowKit
section
variable {α:Type} {κ:α→Int}
theorem sf {n:Int}:∀{l:List α} {j:Nat},j≤l.length→(∀i (hi:i<l.length),i<j→κ l[i]<n)→(∀hj:j<l.length,¬κ l[j]<n)→eJ κ l n=j
 | [],j,hj,_,_=>by
  have:j=0:=by simpa using hj
  subst this;rfl
 | x::l,0,_,_,he=>by
  have:=he (by simp);unfold eJ;rw[List.takeWhile_cons,if_neg (by simpa using this)];rfl
 | x::l,j+1,hj,h,he=>by
  have Y:κ x<n:=h 0 (by simp) (by omega);have ih:=sf (l:=l) (j:=j) (n:=n) (by simpa using hj) (fun i hi hij=>by have:=h (i+1) (by simpa using hi) (by omega);simpa using this) (fun hj2=>by have:=he (by simpa using hj2);simpa using this);unfold eJ at ih ⊢;rw[List.takeWhile_cons,if_pos (decide_eq_true Y),List.length_cons,ih]
theorem rK {n:Int} {l:List α}:eJ κ l n≤l.length:=by
 unfold eJ;exact(List.takeWhile_prefix _).length_le
end
def ui (x:Rcd) (y:Trn):Trn:=⟨y.i,x.l,if x.e.k=0 then x.l else if x.e.k=1 then x.e.x else y.u,x.e.k==2||y.c⟩
theorem vk {t:Tbl} {x:Rcd} {y:Trn} (h:dB t.ts x.e.t=some y):iD t x=ui x y:=by
 have hi:y.i=x.e.t:=(en h).2;unfold iD ui;rw[h,hi];rfl
theorem wv {t:Tbl} {x:Rcd} (h:dB t.ts x.e.t=none):iD t x=ui x ⟨x.e.t,0,0,false⟩:=by
 unfold iD ui;rw[h];rfl
theorem xX {t:Tbl} (ht:bX Trn.i t.ts) {x:Rcd} (h:dB t.ts x.e.t=none) (y:Trn) (hy:y.i=x.e.t):eO Trn.i t.ts y=t.ts.take (eJ Trn.i t.ts x.e.t) ++ y::t.ts.drop (eJ Trn.i t.ts x.e.t):=by
 have:=sO ht y (by rw[hy];exact h);rw[hy] at this;exact this
def gY (t:Tbl) (x:Rcd):List Trn:=if gE Trn.i x.e.t t.ts 0<0 then t.ts.take (eJ Trn.i t.ts x.e.t) ++ ⟨x.e.t,0,0,false⟩::t.ts.drop (eJ Trn.i t.ts x.e.t) else t.ts
def iZ (t:Tbl) (x:Rcd):Nat:=if gE Trn.i x.e.t t.ts 0<0 then eJ Trn.i t.ts x.e.t else (gE Trn.i x.e.t t.ts 0).toNat
theorem sg {t:Tbl} {x:Rcd}:iZ t x<(gY t x).length:=by
 unfold iZ gY;by_cases h:gE Trn.i x.e.t t.ts 0<0
 · rw[if_pos h,if_pos h,List.length_append,List.length_take,List.length_cons]
   have:=rK (κ:=Trn.i) (l:=t.ts) (n:=x.e.t);omega
 · obtain⟨j,hj,e,_⟩:=dW h
   rw[if_neg h,if_neg h,e];omega
theorem yv {t:Tbl} {x:Rcd}:(gY t x).length≤t.ts.length+1:=by
 unfold gY
 split
 · rw[List.length_append,List.length_take,List.length_cons,List.length_drop];omega
 · omega
theorem zn {α:Type} {l:List α} {p:Nat} (hp:p≤l.length) (y z:α):(l.take p ++ y::l.drop p).set p z=l.take p ++ z::l.drop p:=by
 have hl:(l.take p).length=p:=by rw[List.length_take];omega
 rw[List.set_append,if_neg (by omega),hl,Nat.sub_self,List.set_cons_zero]
theorem zj {α:Type} {l:List α} {p:Nat} (hp:p≤l.length) (y:α):(l.take p ++ y::l.drop p).take p ++ (l.take p ++ y::l.drop p).drop (p+1)=l:=by
 have hl:(l.take p).length=p:=by rw[List.length_take];omega
 rw[List.take_left' hl,List.drop_append,hl,List.drop_of_length_le (by omega),show p+1-p=1 by omega,List.drop_one,List.tail_cons,List.nil_append,List.take_append_drop]
theorem xS {t:Tbl} (ht:bX Trn.i t.ts) (x:Rcd):(gY t x).set (iZ t x) (ui x ((gY t x)[iZ t x]'sg))=eO Trn.i t.ts (iD t x):=by
 have key:∀(L:List Trn) (i:Nat) (hi:i<L.length),gY t x=L→iZ t x=i→L.set i (ui x L[i])=eO Trn.i t.ts (iD t x)→(gY t x).set (iZ t x) (ui x ((gY t x)[iZ t x]'sg))=eO Trn.i t.ts (iD t x):=by
  intro L i hi e1 e2 h;subst e1 e2;exact h
 by_cases h:gE Trn.i x.e.t t.ts 0<0
 · have hn:dB t.ts x.e.t=none:=gj h
   have hp:=rK (κ:=Trn.i) (l:=t.ts) (n:=x.e.t)
   have hl:(t.ts.take (eJ Trn.i t.ts x.e.t)).length=eJ Trn.i t.ts x.e.t:=by rw[List.length_take];omega
   have hlt:eJ Trn.i t.ts x.e.t<(t.ts.take (eJ Trn.i t.ts x.e.t) ++ (⟨x.e.t,0,0,false⟩:Trn)::t.ts.drop (eJ Trn.i t.ts x.e.t)).length:=by rw[List.length_append,hl,List.length_cons];omega
   refine key _ _ hlt (by unfold gY;rw[if_pos h]) (by unfold iZ;rw[if_pos h]) ?_
   have hg:(t.ts.take (eJ Trn.i t.ts x.e.t) ++ (⟨x.e.t,0,0,false⟩:Trn)::t.ts.drop (eJ Trn.i t.ts x.e.t))[eJ Trn.i t.ts x.e.t]'hlt=⟨x.e.t,0,0,false⟩:=by
    rw[List.getElem_append_right (by omega)];simp[hl]
   rw[hg,zn hp,wv hn,xX ht hn _ rfl]
 · obtain⟨j,hj,e,e2,e3⟩:=dW h
   refine key t.ts j hj (by unfold gY;rw[if_neg h]) (by unfold iZ;rw[if_neg h,e];omega) ?_;rw[vk e3];exact(xY ht hj (x:=ui x t.ts[j]) rfl).symm
theorem yD {t:Tbl} (ht:bX Trn.i t.ts) (x:Rcd):(gY t x).take (iZ t x) ++ (gY t x).drop (iZ t x+1)=il Trn.i t.ts x.e.t:=by
 by_cases h:gE Trn.i x.e.t t.ts 0<0
 · have hn:dB t.ts x.e.t=none:=gj h
   unfold gY iZ;rw[if_pos h,if_pos h,zj rK,uq hn]
 · obtain⟨j,hj,e,e2,e3⟩:=dW h
   unfold gY iZ;rw[if_neg h,if_neg h,e,zL ht hj e2.symm];simp
theorem xp {t:Tbl} (ht:bX Dty.g t.ds) {x:Rcd}:gm t x=if du x.e=true∧gE Dty.g x.e.g t.ds 0<0 then t.ds.take (eJ Dty.g t.ds x.e.g) ++ ⟨x.e.g,x.e.f,x.l⟩::t.ds.drop (eJ Dty.g t.ds x.e.g) else t.ds:=by
 unfold gm;by_cases h:gE Dty.g x.e.g t.ds 0<0
 · have hn:dp t.ds x.e.g=none:=gj h
   by_cases hx:du x.e=true
   · rw[if_pos ⟨hx,hn⟩,if_pos ⟨hx,h⟩]
     exact sO ht ⟨x.e.g,x.e.f,x.l⟩ hn
   · rw[if_neg (fun q=>hx q.1),if_neg (fun q=>hx q.1)]
 · obtain⟨j,hj,e,e2,e3⟩:=dW h
   rw[if_neg (fun q=>by rw[show dp t.ds x.e.g=some t.ds[j] from e3] at q;exact absurd q.2 (by simp)),if_neg (fun q=>h q.2)]
theorem uQ {l:List Rcd} {a:Int} (ha:a≠0) (h:gE Rcd.l a l 0<0):cY l a=(tbl0,6):=by
 have hn:dY l a=none:=gj (κ:=Rcd.l) h;unfold cY;rw[if_neg ha,hn]
theorem tN {l:List Rcd} (hs:bX Rcd.l l) {a:Int} (ha:a≠0) {j:Nat} (hj:j<l.length) (e:l[j].l=a):cY l a=if l[j].e.k≠5 then (tbl0,6) else js (cx (bl l[j].e.d)) (l.drop (j+1)):=by
 have hn:dY l a=some l[j]:=by rw[←e];exact eE (κ:=Rcd.l) hs (List.getElem_mem hj)
 obtain⟨h1,h2,h3⟩:=kj hs hj
 have hf:l.filter (fun y=>decide (a<y.l))=l.drop (j+1):=by
  conv=>lhs;rw[h3]
  rw[List.filter_append,kg fun x hx=>decide_eq_false (by have:=h1 x hx;omega),List.filter_cons,if_neg (by simp;omega),filter_all fun x hx=>decide_eq_true (by have:=h2 x hx;omega),List.nil_append]
 unfold cY;rw[if_neg ha,hn,←hf]
theorem uF {l:List Rcd}:cY l 0=js tbl0 l:=by unfold cY;rw[if_pos rfl]
def rW (t:Tbl) (l:List Rcd):Tbl:=l.foldl ct t
theorem uG (t:Tbl) (x:Rcd) (l:List Rcd):rW t (x::l)=rW (ct t x) l:=rfl
theorem Ak {t:Tbl} {l:List Rcd}:js t l=if dk (rW t l)≠0 then (tbl0,dk (rW t l)) else (rW t l,0):=rfl
theorem vM (t:Tbl) (x:Rcd):(ct t x).ts.length≤t.ts.length+1∧(ct t x).ds.length≤t.ds.length+1:=by
 have hi:∀{α:Type} (κ:α→Int) (l:List α) (y:α),(eO κ l y).length≤l.length+1:=by
  intro α κ l y;unfold eO;rw[List.length_append,List.length_cons]
  have key:∀l:List α,(l.filter fun z=>decide (κ z<κ y)).length+(l.filter fun z=>decide (κ y<κ z)).length≤l.length:=by
   intro l
   induction l with
   | nil=>simp
   | cons z l ih=>
    rw[List.filter_cons,List.filter_cons];by_cases h1:κ z<κ y
    · rw[if_pos (decide_eq_true h1),if_neg (by simp;omega)];simp only[List.length_cons];omega
    · rw[if_neg (by simpa using h1)];split<;>simp only[List.length_cons]<;>omega
  have:=key l;omega
 unfold ct
 split
 · exact⟨by omega,by omega⟩
 · refine⟨?_,?_⟩
   · show(if x.e.k=4 then _ else _:List Trn).length≤_
     split
     · unfold il;have:=List.length_filter_le (fun y=>decide (Trn.i y≠x.e.t)) t.ts;omega
     · exact hi _ _ _
   · show(gm t x).length≤_
     unfold gm
     split
     · exact hi _ _ _
     · omega
set_option maxRecDepth 4000
open Go.RowKit Go.Sort Go.Shelf
theorem j7 {α:Type} {f:α→List Value} {n:Nat} (hf:∀x,(f x).length=n) {w:World} {B c:Nat} {A:Option Addr} {l:List α} (h:Rd w B A (l.flatMap f)) (hc:l.length≤c) (k:Nat):Rd w B (oF A c k n) ((l.drop k).flatMap f):=by
 rw[←kh hf];exact h.offA' (by rw[dh hf,Nat.mul_comm];exact Nat.mul_le_mul_right _ hc)
theorem lK {α:Type} {f:α→List Value} {n:Nat} (hf:∀x,(f x).length=n) {w:World} {B c:Nat} {A:Option Addr} {l:List α} (h:Rd w B A (l.flatMap f)) (hc:l.length≤c) (k:Nat):Rd w B (oF A c 0 n) ((l.take k).flatMap f):=by
 have:=(j7 hf h hc 0);rw[List.drop_zero] at this;exact this.takeF hf k
theorem o3 (t:Tbl) (x:Rcd) (A:Option Addr) (c:Nat) (B:Option Addr) (d:Nat) (w:World) (ht:SrtT t) (hr:Rd w w.heap.size A (t.ts.flatMap bU)) (hs:Rd w w.heap.size B (t.ds.flatMap cm)) (hl:t.ts.length≤900∧t.ds.length≤900) (hc:t.ts.length≤c∧t.ds.length≤d) :
 Calls Tryz.prog 80 #[bO t A c B d,fw x] w fun e w'=>∃i:Option Addr × Nat × Option Addr × Nat,e=.returned (bO (ct t x) i.1 i.2.1 i.2.2.1 i.2.2.2) ∧
  ((x.e.k=5∧i=(A,c,B,d)∧Below w.heap.size w w')∨St [] w w' [.row (.slice i.1 (ct t x).ts.length i.2.1) (ct t x).ts.length 116 4 ((ct t x).ts.flatMap bU),.row (.slice i.2.2.1 (ct t x).ds.length i.2.2.2) (ct t x).ds.length 124 3 ((ct t x).ds.flatMap cm)]):=by
 obtain⟨M,hM⟩:∃M,M=gY t x:=⟨_,rfl⟩;obtain⟨m,hm⟩:∃m,m=iZ t x:=⟨_,rfl⟩;obtain⟨D,hD⟩:∃D,D=gm t x:=⟨_,rfl⟩
 have hml:m<M.length:=by rw[hM,hm];exact sg
 have hMl:M.length≤901:=by have:=yv (t:=t) (x:=x);rw[hM];omega
 have hset:M.set m (ui x M[m])=eO Trn.i t.ts (iD t x):=by subst hM hm;exact xS ht.ts x
 have hdel:M.take m ++ M.drop (m+1)=il Trn.i t.ts x.e.t:=by subst hM hm;exact yD ht.ts x
 have hDp:=xp ht.ds (x:=x);rw[←hD] at hDp;generalize hT:ct t x=T;refine aD (N:=163) Tryz.func80 rfl rfl rfl (fun _ h0=>?_);have S0:=St.init w;refine ab (ag ?_);refine nb h0 rfl rfl S0 fun b2 _ _ gb2 h1 S1=>?_;refine nb h1 rfl rfl S1 fun b3 _ _ gb3 h2 S2=>?_;refine na (.agg #[.slice none 0 0,.slice none 0 0]) h2 rfl S2 fun b4 _ _ gb4 h3 S3=>?_;refine cu ?_;refine vf h3 1 1 rfl rfl rfl fun _ h4=>?_;refine sv (v:=ey x.e) h4 (av (by kernel_rfl) (by kernel_rfl) (h4.ev rfl) (S3.cellsOf (i:=1) rfl 1 13)) fun _ h5=>?_;refine na (.agg #[.int .i64 0,.int .i64 0,.int .i64 0,.int .i64 0,.int .i64 0,.bool false,.int .i64 0,.int .i64 0,.int .i64 0,.int .i64 0,.string ⟨#[]⟩,.string ⟨#[]⟩,.string ⟨#[]⟩]) h5 rfl S3 fun b5 _ _ gb5 h6 S6=>?_;refine az h6 (wn rfl) ⟨rfl,rfl⟩ (h6.ev rfl) (h6.ev rfl) rfl (by kernel_rfl) S6 (i:=0) rfl rfl rfl fun _ S7=>?_;refine ae (aa (ab (ab (ag ?_))));refine vf h6 0 0 rfl rfl rfl fun _ h8=>?_;refine vl h8 S7 0 rfl rfl rfl rfl fun _ h9=>?_;refine sv h9 (aW (h9.ev rfl) (h9.ev rfl)) fun _ h10=>?_;refine ae (aa ?_);refine aB (h10.ev rfl) (fun hc0=>?_) (fun hc0=>?_)
 ·
  have hk5:x.e.k=5:=by simpa using hc0
  have hT5:T=t:=by rw[←hT];unfold ct;rw[if_pos hk5]
  refine ab (ag ?_);refine sv (v:=bO t A c B d) h10 (av (by kernel_rfl) (by kernel_rfl) (h10.ev rfl) (S7.cellsAll (i:=3) rfl)) fun _ h11=>?_;refine az h11 (wn rfl) ⟨rfl,rfl⟩ (h11.ev rfl) (h11.ev rfl) rfl (by kernel_rfl) S7 (i:=1) rfl rfl rfl fun _ S12=>?_;refine ae (aa (wp_ret (ak ?_)));refine lT h11 rfl rfl S12 (i:=1) rfl (by kernel_rfl) (by kernel_rfl) ?_;subst hT5;exact⟨(A,c,B,d),rfl,.inl ⟨hk5,rfl,S12.below⟩⟩
 ·
  have hk5:x.e.k≠5:=by simpa using hc0
  have hTs:T.ts=if x.e.k=4 then il Trn.i t.ts x.e.t else eO Trn.i t.ts (iD t x):=by rw[←hT];unfold ct;rw[if_neg hk5]
  have hTd:T.ds=D:=by rw[←hT,hD];unfold ct;rw[if_neg hk5]
  refine wp_skip (aa (ab (ag ?_)));refine sv (v:=bO t A c B d) h10 (av (by kernel_rfl) (by kernel_rfl) (h10.ev rfl) (S7.cellsAll (i:=3) rfl)) fun _ h13=>?_;refine cT h13 (wn rfl) (aq (fun _ _=>by kernel_rfl) (h13.evs rfl) rfl) rfl rfl S7 (rJ t A c B d _ (S7.rd0 hr) (S7.rd0 hs) (by omega)) fun p19 _ _ h14 S14=>?_;refine na (.agg #[.slice none 0 0,.slice none 0 0]) h14 rfl S14 fun b6 _ _ gb6 h15 S15=>?_;refine az h15 (wn rfl) ⟨rfl,rfl⟩ (h15.ev rfl) (h15.ev rfl) rfl (by kernel_rfl) S15 (i:=0) rfl rfl rfl fun _ S16=>?_;refine ae (aa (ab (ab (ag ?_))));refine vf h15 0 0 rfl rfl rfl fun _ h17=>?_;refine vl h17 S16 3 rfl rfl rfl rfl fun _ h18=>?_;refine sv h18 (aW (h18.ev rfl) (h18.ev rfl)) fun _ h19=>?_;refine mv h19 rfl rfl fun _ h20=>?_;apply eh h20 S16 23 rfl 4 27
  case hf=>
   intro gc23;refine sy h20 rfl rfl rfl gc23 (ai (off:=0) (j:=0) (by kernel_rfl) (h20.ev rfl) rfl) rfl rfl fun _ h21=>?_;refine sy h21 rfl rfl rfl gc23 (ao (by kernel_rfl) (h21.ev rfl) (S16.cell (i:=3) rfl rfl)) rfl rfl fun _ h22=>?_;refine sy h22 rfl rfl rfl gc23 (aW (h22.ev rfl) (h22.ev rfl)) rfl rfl fun _ h23=>?_;refine sv h23 (aG (h23.ev rfl) gc23 (h23.ev rfl)) fun _ h24=>?_;exact ae ⟨h24.mid (m:=[(_,_),(_,_),(_,_)]) rfl,S16⟩
  case ht=>
   intro gc23;refine no h20 rfl rfl rfl gc23 rfl rfl fun _ h25=>?_;refine no h25 rfl rfl rfl gc23 rfl rfl fun _ h26=>?_;refine no h26 rfl rfl rfl gc23 rfl rfl fun _ h27=>?_;refine sv h27 (aA (h27.ev rfl) gc23 (h27.ev rfl)) fun _ h28=>?_;exact ae ⟨h28.mid (m:=[(_,_),(_,_),(_,_)]) rfl,S16⟩
  case h=>
   rintro a29 X29 ⟨h29,S29⟩
   refine mv h29 rfl rfl fun _ h30=>?_;apply cQ (x:=decide (gE Dty.g x.e.g t.ds 0<0)) h30 S29 28 rfl 6 34
   case ht=>
    intro gc28;refine aY (v:=bO t A c B d) h30 (ah h30 _ rfl rfl rfl gc28) (av (by kernel_rfl) (by kernel_rfl) (h30.ev rfl) (S29.cellsAll (i:=6) rfl)) rfl rfl fun _ h31=>?_;refine sy h31 rfl rfl rfl gc28 (ai (off:=4) (j:=4) (by kernel_rfl) (h31.ev rfl) rfl) rfl rfl fun _ h32=>?_;refine sy h32 rfl rfl rfl gc28 (ao (by kernel_rfl) (h32.ev rfl) (S29.cell (i:=3) rfl rfl)) rfl rfl fun _ h33=>?_;refine aV h33 (ah h33 _ rfl rfl rfl gc28) (aq (fun _ _=>by kernel_rfl) (h33.evs rfl) rfl) rfl rfl S29 (rN t x.e.g A c B d _ (S29.rd0 hs) (by omega)) fun _ _ h34 S34=>?_;refine sy h34 rfl rfl rfl gc28 (bh (h34.ev rfl) (h34.ev rfl)) rfl rfl fun _ h35=>?_;refine sv h35 (aA (h35.ev rfl) gc28 (h35.ev rfl)) fun _ h36=>?_;exact ae ⟨h36.mid (m:=[(_,_),(_,_),(_,_),(_,_),(_,_)]) rfl,S34⟩
   case hf=>
    intro gc28;refine no h30 rfl rfl rfl gc28 rfl rfl fun _ h37=>?_;refine no h37 rfl rfl rfl gc28 rfl rfl fun _ h38=>?_;refine no h38 rfl rfl rfl gc28 rfl rfl fun _ h39=>?_;refine no h39 rfl rfl rfl gc28 rfl rfl fun _ h40=>?_;refine no h40 rfl rfl rfl gc28 rfl rfl fun _ h41=>?_;refine sv h41 (aG (h41.ev rfl) gc28 (h41.ev rfl)) fun _ h42=>?_;exact ae ⟨h42.mid (m:=[(_,_),(_,_),(_,_),(_,_),(_,_)]) rfl,S29⟩
   case h=>
    rintro a43 X43 ⟨h43,S43⟩
    refine ae (aa ?_);refine lQ h43 S43 (fun (i:Option Addr × Nat)=>[]) [6,5,4,3,2] (fun (i:Option Addr × Nat)=>fun L=>(L.set 2 (.row (.slice i.1 D.length i.2) D.length 124 3 (D.flatMap cm))).set 0 (.box b6 #[.slice p19.1 t.ts.length p19.2.1,.slice i.1 D.length i.2] 25)) (fun (i:Option Addr × Nat)=>True) ?_ (fun i _ _ h44 S44 hjT=>?_)
    ·
     refine aB (h43.ev rfl) (fun hc1=>?_) (fun hc1=>?_)
     ·
      obtain⟨u1,u2⟩:=Bool.and_eq_true_iff.1 hc1;have hDe:=hDp;rw[if_pos ⟨u1,of_decide_eq_true u2⟩] at hDe;refine ab (ag ?_);refine vf h43 4 4 rfl rfl rfl fun _ h45=>?_;refine vl h45 S43 3 rfl rfl rfl rfl fun _ h46=>?_;refine vf h46 5 5 rfl rfl rfl fun _ h47=>?_;refine vl h47 S43 3 rfl rfl rfl rfl fun _ h48=>?_;refine vf h48 0 0 rfl rfl rfl fun _ h49=>?_;refine vl h49 S43 5 rfl rfl rfl rfl fun _ h50=>?_;refine sv h50 (bb (zs:=[.int .i64 0,.bool false,.int .i64 0]) (pl:=[(0,1),(1,1),(2,1)]) (by kernel_rfl) (by kernel_rfl) (h50.evs2 rfl) rfl rfl) fun _ h51=>?_;refine na (.agg #[.int .i64 0,.bool false,.int .i64 0]) h51 rfl S43 fun b7 _ _ gb7 h52 S52=>?_;refine az h52 (wn rfl) ⟨rfl,rfl⟩ (h52.ev rfl) (h52.ev rfl) rfl (by kernel_rfl) S52 (i:=0) rfl rfl rfl fun _ S53=>?_;refine cu ?_;refine ma h52 rfl rfl fun _ h54=>?_;refine ae (aa (ab (wp_block ?_)));refine bC h54 S53 [7,6,5,4,3,2] (fun (k:Nat)=>[(8,.int .i64 (k:Nat))]) (fun (k:Nat)=>k≤t.ds.length∧∀i (hi:i<t.ds.length),i<k→Dty.g t.ds[i]<x.e.g) (fun (k:Nat) L=>L) (fun (k:Nat)=>t.ds.length-k) (0) (⟨Nat.zero_le _,fun i _ h=>absurd h (Nat.not_lt_zero _)⟩) ⟨rfl,rfl,rfl,rfl,rfl,rfl,rfl,trivial⟩ (S53) ?_;intro k _ _ hF0 h55 S55;refine ab (ab ?_);apply bq h55 [false,false,false,false,false,false,false,false,false,false,false,false,false,false,false] _ (by kernel_rfl)
      case h=>
       refine qv h55 (fun X hX=>aj (h55.ev rfl)) fun _ h56=>?_;refine qv h56 (fun X hX=>ai (off:=1) (j:=1) (by kernel_rfl) (h56.ev rfl) rfl) fun _ h57=>?_;refine qv h57 (fun X hX=>ao (by kernel_rfl) (h57.ev rfl) ((S55.grow hX).cell (i:=7) rfl rfl)) fun _ h58=>?_;refine qv h58 (fun X hX=>bn Tryz.underlying23 (h58.ev rfl)) fun _ h59=>?_;refine qv h59 (fun X hX=>bh (h59.ev rfl) (h59.ev rfl)) fun _ h60=>?_;refine qv h60 (fun X hX=>aj (h60.ev rfl)) fun _ h61=>?_;apply kc h61 47 rfl 9 56
       case ht=>
        intro gc47
        have hlt:k<t.ds.length:=by have:=of_decide_eq_true gc47;omega
        obtain⟨b1,o1,rfl,_⟩:=hs.opened (aP bN (by decide) (by omega));refine au h61 (ah h61 _ rfl rfl rfl gc47) rfl rfl (fun X hX=>(ai (off:=1) (j:=1) (by kernel_rfl) (h61.ev rfl) rfl)) fun _ h62=>?_;refine au h62 (ah h62 _ rfl rfl rfl gc47) rfl rfl (fun X hX=>(ao (by kernel_rfl) (h62.ev rfl) ((S55.grow hX).cell (i:=7) rfl rfl))) fun _ h63=>?_;refine au h63 (ah h63 _ rfl rfl rfl gc47) rfl rfl (fun X hX=>(aj (h63.ev rfl))) fun _ h64=>?_;refine au h64 (ah h64 _ rfl rfl rfl gc47) rfl rfl (fun X hX=>(aC (i:=k) (sz:=3) Tryz.underlying23 (by kernel_rfl) (h64.ev rfl) (h64.ev rfl) (by omega) (by omega) rfl)) fun _ h65=>?_;refine au h65 (ah h65 _ rfl rfl rfl gc47) rfl rfl (fun X hX=>(ai (off:=0) (by kernel_rfl) (h65.ev rfl) rfl)) fun _ h66=>?_;refine au h66 (ah h66 _ rfl rfl rfl gc47) rfl rfl (fun X hX=>(ao (by kernel_rfl) (h66.ev rfl) ((ba bN ((S55.grow hX).rd0 hs) hlt) 0 _ rfl))) fun _ h67=>?_;refine au h67 (ah h67 _ rfl rfl rfl gc47) rfl rfl (fun X hX=>(ai (off:=0) (j:=0) (by kernel_rfl) (h67.ev rfl) rfl)) fun _ h68=>?_;refine au h68 (ah h68 _ rfl rfl rfl gc47) rfl rfl (fun X hX=>(ao (by kernel_rfl) (h68.ev rfl) ((S55.grow hX).cell (i:=0) rfl rfl))) fun _ h69=>?_;refine au h69 (ah h69 _ rfl rfl rfl gc47) rfl rfl (fun X hX=>(a8 (v':=.bool (decide (((t.ds[k]?).getD ⟨0,false,0⟩).g<x.e.g))) (by rw[List.getElem?_eq_getElem hlt];rfl) (bh (h69.ev rfl) (h69.ev rfl)))) fun _ h70=>?_;exact aH (h70.mid (m:=[(_,_),(_,_),(_,_),(_,_),(_,_),(_,_),(_,_),(_,_)]) rfl)
       case hf=>
        intro gc47;refine qo h61 rfl rfl rfl gc47 rfl rfl fun _ h71=>?_;refine qo h71 rfl rfl rfl gc47 rfl rfl fun _ h72=>?_;refine qo h72 rfl rfl rfl gc47 rfl rfl fun _ h73=>?_;refine qo h73 rfl rfl rfl gc47 rfl rfl fun _ h74=>?_;refine qo h74 rfl rfl rfl gc47 rfl rfl fun _ h75=>?_;refine qo h75 rfl rfl rfl gc47 rfl rfl fun _ h76=>?_;refine qo h76 rfl rfl rfl gc47 rfl rfl fun _ h77=>?_;refine qo h77 rfl rfl rfl gc47 rfl rfl fun _ h78=>?_;refine qo h78 rfl rfl rfl gc47 rfl rfl fun _ h79=>?_;exact aH ⟨_,h79.mid (m:=[(_,_),(_,_),(_,_),(_,_),(_,_),(_,_),(_,_),(_,_)]) rfl⟩
       case h=>
        intro v80 _ hg56 h80;refine aH ?_;refine bE fun _ hX81 hΦ81=>?_;have S81:=S55.grow hX81;refine sv h80 (el (h80.ev rfl) (h80.ev rfl) hg56 (h80.ev rfl)) fun _ h82=>?_;refine ae (aa ?_);refine aB (h82.ev rfl) (fun hc2=>?_) (fun hc2=>?_)
        ·
         obtain⟨u3,u4⟩:=Bool.and_eq_true_iff.1 hc2
         have hlt:k<t.ds.length:=by have:=of_decide_eq_true u3;omega
         have hless:Dty.g t.ds[k]<x.e.g:=by have:=of_decide_eq_true u4;rwa [List.getElem?_eq_getElem hlt] at this
         refine wp_skip (aa (wp_block (ag ?_)));refine mv h82 rfl rfl fun _ h83=>?_;refine sv h83 (a7 (h83.ev rfl) (h83.ev rfl) (by omega)) fun _ h84=>?_;refine ma h84 rfl rfl fun _ h85=>?_;refine ae (aK (aa ?_));exact⟨k+1,(by omega),⟨hlt,fun i hi hik=>by rcases Nat.lt_or_eq_of_le (show i≤k by omega) with q | q;exact hF0.2 i hi q;subst q;exact hless⟩,h85.re ⟨rfl,rfl,rfl,rfl,rfl,rfl,rfl,trivial⟩,S81⟩
        ·
         have hpos:eJ Dty.g t.ds x.e.g=k:=sf hF0.1 hF0.2 fun hj h=>by
          rw[decide_eq_true (show(k:Int)<t.ds.length by omega),List.getElem?_eq_getElem hj] at hc2;rw[show decide ((((some t.ds[k]).getD ⟨0,false,0⟩:Dty)).g<x.e.g)=true from decide_eq_true h] at hc2
          cases hc2
         rw[hpos] at hDe;have hkl:=hF0.1;refine wp_exit ?_;refine ar ?_;refine ar ?_;refine bz ?_;refine aa ?_;apply qx h82 [(8,max k 1*3)] [true,false,false,false,false,true,false,true,true,false,false,false,false] _ (by kernel_rfl)
         case h=>
          refine qv h82 (fun X hX=>ai (off:=1) (j:=1) (by kernel_rfl) (h82.ev rfl) rfl) fun _ h86=>?_;refine qv h86 (fun X hX=>ao (by kernel_rfl) (h86.ev rfl) ((S81.grow hX).cell (i:=7) rfl rfl)) fun _ h87=>?_;refine qv h87 (fun X hX=>aj (h87.ev rfl)) fun _ h88=>?_;refine qv h88 (fun X hX=>a8 (v':=.slice (oF B d 0 3) k d) rfl (fv (l:=0) (h:=k) (sz:=3) Tryz.underlying23 (by kernel_rfl) (h88.ev rfl) rfl (h88.ev rfl) (by omega) (by omega))) fun _ h89=>?_;refine qv h89 (fun X hX=>av (by kernel_rfl) (by kernel_rfl) (h89.ev rfl) ((S81.grow hX).cellsAll (i:=0) rfl)) fun _ h90=>?_;refine qv h90 (fun X hX=>ai (off:=1) (j:=1) (by kernel_rfl) (h90.ev rfl) rfl) fun _ h91=>?_;refine qv h91 (fun X hX=>ao (by kernel_rfl) (h91.ev rfl) ((S81.grow hX).cell (i:=7) rfl rfl)) fun _ h92=>?_;refine qv h92 (fun X hX=>aj (h92.ev rfl)) fun _ h93=>?_;refine qv h93 (fun X hX=>fv (l:=k) (h:=t.ds.length) (sz:=3) Tryz.underlying23 (by kernel_rfl) (h93.ev rfl) (h93.ev rfl) rfl (by omega) (by omega)) fun _ h94=>?_;refine aH ?_;apply iM (k:=0) (deps:=[]) (R:=NewB _ (fun b=>.slice (some ⟨b,0,none⟩) 0 0) _ _) h94 rfl rfl rfl NewB.stable
          case hx=>exact fun X hX hΦ=>eX (cD (zc:=[.int .i64 0,.bool false,.int .i64 0]) (sz:=3) rfl Tryz.underlying23 (by kernel_rfl) (by kernel_rfl) rfl rfl rfl (h94.evs2 rfl) rfl rfl rfl) hX.size
          case hst2=>exact(mV (NewB.kpK (by show 0≤_;omega)))
          intro v60 _ h95;apply iM (k:=5) (deps:=[0]) (R:=OwnC _ _ _ _ _) h95 rfl rfl rfl OwnC.stable
          case hx=>exact fun X hX hΦ=>pH (z:=.agg #[.int .i64 0,.bool false,.int .i64 0]) (sz:=3) (bytes:=24) rfl Tryz.underlying23 (by kernel_rfl) rfl rfl (h95.ev rfl) (h95.ev rfl) (bQ (k:=0) hΦ rfl rfl) rfl ⟨_,_,rfl,lK bN ((S81.grow hX).rd0 hs) hc.2 k⟩ (by rw[dh bN,List.length_take,Nat.min_eq_left hkl,Nat.mul_comm]) (fun u hu=>by obtain⟨z,_,hz⟩:=List.mem_flatMap.1 hu;exact jD z u hz) ⟨(by omega),by decide⟩ hX.size
          case hst2=>exact(mV (OwnC.kpK (by omega)))
          intro v65 _ h96;apply iM (k:=7) (deps:=[]) (R:=NewB _ (fun b=>.slice (some ⟨b,0,none⟩) 1 1) _ _) h96 rfl rfl rfl NewB.stable
          case hx=>exact fun X hX hΦ=>eX (cD (zc:=[.int .i64 0,.bool false,.int .i64 0]) (sz:=3) rfl Tryz.underlying23 (by kernel_rfl) (by kernel_rfl) rfl rfl rfl (h96.evs2 rfl) rfl rfl rfl) hX.size
          case hst2=>exact(mV (NewB.kpK (by show 3≤_;omega)))
          intro v67 _ h97;apply vn (k:=8) (K:=max k 1*3) (deps:=[5,7]) (R:=OwnB _ _ _ _ _) h97 rfl rfl rfl (by simp) OwnB.stable
          case hx=>exact fun X hX hΦ=>wT (z:=.agg #[.int .i64 0,.bool false,.int .i64 0]) (sz:=3) (bytes:=24) rfl Tryz.underlying23 (by kernel_rfl) rfl rfl (h97.ev rfl) (h97.ev rfl) (bQ (k:=5) hΦ rfl rfl) (NewB.rd (bQ (k:=7) hΦ rfl rfl)) rfl (List.all_eq_true.1 rfl) ⟨(by omega),by decide⟩ hX.size (by intro _;omega)
          case hst2=>exact(mV (fun hne=>absurd rfl hne))
          intro v68 _ h98;refine wD fun _ hX99 hΦ99=>?_;have S99:=S81.grow hX99;have qv60:=br hΦ99 (k:=0) rfl;have qv65:=br hΦ99 (k:=5) rfl;have qv67:=br hΦ99 (k:=7) rfl;have qv68:=br hΦ99 (k:=8) rfl;obtain⟨A68,c68,rfl,qv68⟩:=qv68;have S100:=S81.add hX99 (e:=.row _ _ _ _ _) (bJ qv68 (Nat.zero_le _)) (fun b hb=>qv68.lt b hb);refine b0 (z:=.agg #[.int .i64 0,.bool false,.int .i64 0]) (sz:=3) (bytes:=24) h98 (wn rfl) ⟨rfl,rfl⟩ rfl Tryz.underlying23 (by kernel_rfl) rfl rfl (h98.ev rfl) (h98.ev rfl) S100 (i:=0) rfl (j7 bN (S100.rd0 hs) hc.2 k) (by rw[dh bN,List.length_drop,Nat.mul_comm]) (fun u hu=>by obtain⟨z,_,hz⟩:=List.mem_flatMap.1 hu;exact jD z u hz) ⟨(by omega),by decide⟩ fun A73 c73 _ _ h101 S101=>?_;refine vf h101 1 1 rfl rfl rfl fun _ h102=>?_;refine cv h102 (wn rfl) ⟨rfl,rfl⟩ (h102.ev rfl) (h102.ev rfl) rfl (by kernel_rfl) S101 (i:=2) rfl rfl rfl fun _ S103=>?_;refine ae (aa ?_);have hjT:=trivial
          have e1:k+1+(t.ds.length-k)=D.length:=by rw[hDe,List.length_append,List.length_take,List.length_cons,List.length_drop];omega
          have e2:(t.ds.take k).flatMap cm ++ [.int .i64 x.e.g,.bool x.e.f,.int .i64 x.l] ++ (t.ds.drop k).flatMap cm=D.flatMap cm:=by rw[hDe,List.flatMap_append,List.flatMap_cons,List.append_assoc];rfl
          exact⟨(A73,c73),h102.re ⟨rfl,rfl,rfl,rfl,rfl,trivial⟩,(by rw[←e1,←e2];exact(St.pull' (St.pull' (St.pull' (St.pull' (St.pull' (St.pull' (St.pull' (S103.sub (.cons_cons _ (.cons _ (.cons_cons _ (.cons_cons _ (.cons _ (.cons_cons _ (.cons_cons _ (.cons_cons _ (.cons_cons _ .slnil)))))))))) 6 rfl) 6 rfl) 6 rfl) 6 rfl) 4 rfl) 6 rfl) 6 rfl)),hjT⟩
         case hB=>kernel_rfl
      case hB=>kernel_rfl
      case hst=>rfl
     ·
      have hDe:D=t.ds:=by
       rw[hDp];refine if_neg fun h=>?_;rw[show((x.e.k==0)||(x.e.k==1))=true from h.1,decide_eq_true h.2] at hc1
       cases hc1
      refine wp_skip (aa ?_);have hjT:=trivial;exact⟨(p19.2.2.1,p19.2.2.2),h43.re ⟨rfl,rfl,rfl,rfl,rfl,trivial⟩,(by rw[hDe];exact S43),hjT⟩
    ·
     obtain⟨Da,dc⟩:=i;refine aa (ab (ag ?_));refine sv (v:=bO t A c B d) h44 (av (by kernel_rfl) (by kernel_rfl) (h44.ev rfl) (S44.cellsAll (i:=6) rfl)) fun _ h104=>?_;refine vf h104 1 1 rfl rfl rfl fun _ h105=>?_;refine vl h105 S44 3 rfl rfl rfl rfl fun _ h106=>?_;refine aV h106 (wn rfl) (aq (fun _ _=>by kernel_rfl) (h106.evs rfl) rfl) rfl rfl S44 (sa t x.e.t A c B d _ (S44.rd0 hr) (by omega)) fun _ _ h107 S107=>?_;refine ma h107 rfl rfl fun _ h108=>?_;refine ae (aa (ab (ab (ag ?_))));refine mv h108 rfl rfl fun _ h109=>?_;refine sv h109 (bh (h109.ev rfl) (h109.ev rfl)) fun _ h110=>?_;refine ae (aa ?_);refine lQ h110 S107 (fun (i:Option Addr × Nat)=>[(9,.int .i64 (m:Nat))]) [6,5,4,3] (fun (i:Option Addr × Nat)=>fun L=>(L.set 1 (.row (.slice i.1 M.length i.2) M.length 116 4 (M.flatMap bU))).set 0 (.box b6 #[.slice i.1 M.length i.2,.slice Da D.length dc] 25)) (fun (i:Option Addr × Nat)=>True) ?_ (fun i _ _ h111 S111 hjT=>?_)
     ·
      refine aB (h110.ev rfl) (fun hc3=>?_) (fun hc3=>?_)
      ·
       have h3:=of_decide_eq_true hc3;have hMe:=hM;have hme:=hm;unfold gY at hMe;unfold iZ at hme;rw[if_pos h3] at hMe hme;refine ab (ag ?_);refine ma h110 rfl rfl fun _ h112=>?_;refine ae (aa (ab (wp_block ?_)));refine bC h112 S107 [6,5,4,3,2] (fun (k:Nat)=>[(9,.int .i64 (k:Nat))]) (fun (k:Nat)=>k≤t.ts.length∧∀i (hi:i<t.ts.length),i<k→Trn.i t.ts[i]<x.e.t) (fun (k:Nat) L=>L) (fun (k:Nat)=>t.ts.length-k) (0) (⟨Nat.zero_le _,fun i _ h=>absurd h (Nat.not_lt_zero _)⟩) ⟨rfl,rfl,rfl,rfl,rfl,rfl,trivial⟩ (S107) ?_;intro k _ _ hF1 h113 S113;refine ab (ab ?_);apply bq h113 [false,false,false,false,false,false,false,false,false,false,false,false,false,false,false] _ (by kernel_rfl)
       case h=>
        refine qv h113 (fun X hX=>aj (h113.ev rfl)) fun _ h114=>?_;refine qv h114 (fun X hX=>ai (off:=0) (j:=0) (by kernel_rfl) (h114.ev rfl) rfl) fun _ h115=>?_;refine qv h115 (fun X hX=>ao (by kernel_rfl) (h115.ev rfl) ((S113.grow hX).cell (i:=6) rfl rfl)) fun _ h116=>?_;refine qv h116 (fun X hX=>bn Tryz.underlying22 (h116.ev rfl)) fun _ h117=>?_;refine qv h117 (fun X hX=>bh (h117.ev rfl) (h117.ev rfl)) fun _ h118=>?_;refine qv h118 (fun X hX=>aj (h118.ev rfl)) fun _ h119=>?_;apply kc h119 86 rfl 9 95
        case ht=>
         intro gc86
         have hlt:k<t.ts.length:=by have:=of_decide_eq_true gc86;omega
         obtain⟨b1,o1,rfl,_⟩:=hr.opened (aP bj (by decide) (by omega));refine au h119 (ah h119 _ rfl rfl rfl gc86) rfl rfl (fun X hX=>(ai (off:=0) (j:=0) (by kernel_rfl) (h119.ev rfl) rfl)) fun _ h120=>?_;refine au h120 (ah h120 _ rfl rfl rfl gc86) rfl rfl (fun X hX=>(ao (by kernel_rfl) (h120.ev rfl) ((S113.grow hX).cell (i:=6) rfl rfl))) fun _ h121=>?_;refine au h121 (ah h121 _ rfl rfl rfl gc86) rfl rfl (fun X hX=>(aj (h121.ev rfl))) fun _ h122=>?_;refine au h122 (ah h122 _ rfl rfl rfl gc86) rfl rfl (fun X hX=>(aC (i:=k) (sz:=4) Tryz.underlying22 (by kernel_rfl) (h122.ev rfl) (h122.ev rfl) (by omega) (by omega) rfl)) fun _ h123=>?_;refine au h123 (ah h123 _ rfl rfl rfl gc86) rfl rfl (fun X hX=>(ai (off:=0) (by kernel_rfl) (h123.ev rfl) rfl)) fun _ h124=>?_;refine au h124 (ah h124 _ rfl rfl rfl gc86) rfl rfl (fun X hX=>(ao (by kernel_rfl) (h124.ev rfl) ((ba bj ((S113.grow hX).rd0 hr) hlt) 0 _ rfl))) fun _ h125=>?_;refine au h125 (ah h125 _ rfl rfl rfl gc86) rfl rfl (fun X hX=>(ai (off:=1) (j:=1) (by kernel_rfl) (h125.ev rfl) rfl)) fun _ h126=>?_;refine au h126 (ah h126 _ rfl rfl rfl gc86) rfl rfl (fun X hX=>(ao (by kernel_rfl) (h126.ev rfl) ((S113.grow hX).cell (i:=3) rfl rfl))) fun _ h127=>?_;refine au h127 (ah h127 _ rfl rfl rfl gc86) rfl rfl (fun X hX=>(a8 (v':=.bool (decide (((t.ts[k]?).getD kf).i<x.e.t))) (by rw[List.getElem?_eq_getElem hlt];rfl) (bh (h127.ev rfl) (h127.ev rfl)))) fun _ h128=>?_;exact aH (h128.mid (m:=[(_,_),(_,_),(_,_),(_,_),(_,_),(_,_),(_,_),(_,_)]) rfl)
        case hf=>
         intro gc86;refine qo h119 rfl rfl rfl gc86 rfl rfl fun _ h129=>?_;refine qo h129 rfl rfl rfl gc86 rfl rfl fun _ h130=>?_;refine qo h130 rfl rfl rfl gc86 rfl rfl fun _ h131=>?_;refine qo h131 rfl rfl rfl gc86 rfl rfl fun _ h132=>?_;refine qo h132 rfl rfl rfl gc86 rfl rfl fun _ h133=>?_;refine qo h133 rfl rfl rfl gc86 rfl rfl fun _ h134=>?_;refine qo h134 rfl rfl rfl gc86 rfl rfl fun _ h135=>?_;refine qo h135 rfl rfl rfl gc86 rfl rfl fun _ h136=>?_;refine qo h136 rfl rfl rfl gc86 rfl rfl fun _ h137=>?_;exact aH ⟨_,h137.mid (m:=[(_,_),(_,_),(_,_),(_,_),(_,_),(_,_),(_,_),(_,_)]) rfl⟩
        case h=>
         intro v138 _ hg95 h138;refine aH ?_;refine bE fun _ hX139 hΦ139=>?_;have S139:=S113.grow hX139;refine sv h138 (el (h138.ev rfl) (h138.ev rfl) hg95 (h138.ev rfl)) fun _ h140=>?_;refine ae (aa ?_);refine aB (h140.ev rfl) (fun hc4=>?_) (fun hc4=>?_)
         ·
          obtain⟨u3,u4⟩:=Bool.and_eq_true_iff.1 hc4
          have hlt:k<t.ts.length:=by have:=of_decide_eq_true u3;omega
          have hless:Trn.i t.ts[k]<x.e.t:=by have:=of_decide_eq_true u4;rwa [List.getElem?_eq_getElem hlt] at this
          refine wp_skip (aa (wp_block (ag ?_)));refine mv h140 rfl rfl fun _ h141=>?_;refine sv h141 (a7 (h141.ev rfl) (h141.ev rfl) (by omega)) fun _ h142=>?_;refine ma h142 rfl rfl fun _ h143=>?_;refine ae (aK (aa ?_));exact⟨k+1,(by omega),⟨hlt,fun i hi hik=>by rcases Nat.lt_or_eq_of_le (show i≤k by omega) with q | q;exact hF1.2 i hi q;subst q;exact hless⟩,h143.re ⟨rfl,rfl,rfl,rfl,rfl,rfl,trivial⟩,S139⟩
         ·
          have hpos:eJ Trn.i t.ts x.e.t=k:=sf hF1.1 hF1.2 fun hj h=>by
           rw[decide_eq_true (show(k:Int)<t.ts.length by omega),List.getElem?_eq_getElem hj] at hc4;rw[show decide ((((some t.ts[k]).getD kf:Trn)).i<x.e.t)=true from decide_eq_true h] at hc4
           cases hc4
          rw[hpos] at hMe hme;subst hme;have hkl:=hF1.1;refine wp_exit ?_;refine ar ?_;refine ar ?_;refine bz ?_;refine aa (ab (ag ?_));refine vf h140 1 1 rfl rfl rfl fun _ h144=>?_;refine vl h144 S139 3 rfl rfl rfl rfl fun _ h145=>?_;refine sv h145 (bb (zs:=[.int .i64 0,.int .i64 0,.int .i64 0,.bool false]) (pl:=[(0,1),(1,1),(2,1),(3,1)]) (by kernel_rfl) (by kernel_rfl) (h145.evs2 rfl) rfl rfl) fun _ h146=>?_;refine na (.agg #[.int .i64 0,.int .i64 0,.int .i64 0,.bool false]) h146 rfl S139 fun b10 _ _ gb10 h147 S147=>?_;refine az h147 (wn rfl) ⟨rfl,rfl⟩ (h147.ev rfl) (h147.ev rfl) rfl (by kernel_rfl) S147 (i:=0) rfl rfl rfl fun _ S148=>?_;refine ae (aa ?_);apply qx h147 [(8,max m 1*4)] [true,false,false,false,false,true,false,true,true,false,false,false,false] _ (by kernel_rfl)
          case h=>
           refine qv h147 (fun X hX=>ai (off:=0) (j:=0) (by kernel_rfl) (h147.ev rfl) rfl) fun _ h149=>?_;refine qv h149 (fun X hX=>ao (by kernel_rfl) (h149.ev rfl) ((S148.grow hX).cell (i:=7) rfl rfl)) fun _ h150=>?_;refine qv h150 (fun X hX=>aj (h150.ev rfl)) fun _ h151=>?_;refine qv h151 (fun X hX=>a8 (v':=.slice (oF A c 0 4) m c) rfl (fv (l:=0) (h:=m) (sz:=4) Tryz.underlying22 (by kernel_rfl) (h151.ev rfl) rfl (h151.ev rfl) (by omega) (by omega))) fun _ h152=>?_;refine qv h152 (fun X hX=>av (by kernel_rfl) (by kernel_rfl) (h152.ev rfl) ((S148.grow hX).cellsAll (i:=0) rfl)) fun _ h153=>?_;refine qv h153 (fun X hX=>ai (off:=0) (j:=0) (by kernel_rfl) (h153.ev rfl) rfl) fun _ h154=>?_;refine qv h154 (fun X hX=>ao (by kernel_rfl) (h154.ev rfl) ((S148.grow hX).cell (i:=7) rfl rfl)) fun _ h155=>?_;refine qv h155 (fun X hX=>aj (h155.ev rfl)) fun _ h156=>?_;refine qv h156 (fun X hX=>fv (l:=m) (h:=t.ts.length) (sz:=4) Tryz.underlying22 (by kernel_rfl) (h156.ev rfl) (h156.ev rfl) rfl (by omega) (by omega)) fun _ h157=>?_;refine aH ?_;apply iM (k:=0) (deps:=[]) (R:=NewB _ (fun b=>.slice (some ⟨b,0,none⟩) 0 0) _ _) h157 rfl rfl rfl NewB.stable
           case hx=>exact fun X hX hΦ=>eX (cD (zc:=[.int .i64 0,.int .i64 0,.int .i64 0,.bool false]) (sz:=4) rfl Tryz.underlying22 (by kernel_rfl) (by kernel_rfl) rfl rfl rfl (h157.evs2 rfl) rfl rfl rfl) hX.size
           case hst2=>exact(mV (NewB.kpK (by show 0≤_;omega)))
           intro v102 _ h158;apply iM (k:=5) (deps:=[0]) (R:=OwnC _ _ _ _ _) h158 rfl rfl rfl OwnC.stable
           case hx=>exact fun X hX hΦ=>pH (z:=.agg #[.int .i64 0,.int .i64 0,.int .i64 0,.bool false]) (sz:=4) (bytes:=32) rfl Tryz.underlying22 (by kernel_rfl) rfl rfl (h158.ev rfl) (h158.ev rfl) (bQ (k:=0) hΦ rfl rfl) rfl ⟨_,_,rfl,lK bj ((S148.grow hX).rd0 hr) hc.1 m⟩ (by rw[dh bj,List.length_take,Nat.min_eq_left hkl,Nat.mul_comm]) (fun u hu=>by obtain⟨z,_,hz⟩:=List.mem_flatMap.1 hu;exact gA z u hz) ⟨(by omega),by decide⟩ hX.size
           case hst2=>exact(mV (OwnC.kpK (by omega)))
           intro v107 _ h159;apply iM (k:=7) (deps:=[]) (R:=NewB _ (fun b=>.slice (some ⟨b,0,none⟩) 1 1) _ _) h159 rfl rfl rfl NewB.stable
           case hx=>exact fun X hX hΦ=>eX (cD (zc:=[.int .i64 0,.int .i64 0,.int .i64 0,.bool false]) (sz:=4) rfl Tryz.underlying22 (by kernel_rfl) (by kernel_rfl) rfl rfl rfl (h159.evs2 rfl) rfl rfl rfl) hX.size
           case hst2=>exact(mV (NewB.kpK (by show 4≤_;omega)))
           intro v109 _ h160;apply vn (k:=8) (K:=max m 1*4) (deps:=[5,7]) (R:=OwnB _ _ _ _ _) h160 rfl rfl rfl (by simp) OwnB.stable
           case hx=>exact fun X hX hΦ=>wT (z:=.agg #[.int .i64 0,.int .i64 0,.int .i64 0,.bool false]) (sz:=4) (bytes:=32) rfl Tryz.underlying22 (by kernel_rfl) rfl rfl (h160.ev rfl) (h160.ev rfl) (bQ (k:=5) hΦ rfl rfl) (NewB.rd (bQ (k:=7) hΦ rfl rfl)) rfl (List.all_eq_true.1 rfl) ⟨(by omega),by decide⟩ hX.size (by intro _;omega)
           case hst2=>exact(mV (fun hne=>absurd rfl hne))
           intro v110 _ h161;refine wD fun _ hX162 hΦ162=>?_;have S162:=S148.grow hX162;have qv102:=br hΦ162 (k:=0) rfl;have qv107:=br hΦ162 (k:=5) rfl;have qv109:=br hΦ162 (k:=7) rfl;have qv110:=br hΦ162 (k:=8) rfl;obtain⟨A110,c110,rfl,qv110⟩:=qv110;have S163:=S148.add hX162 (e:=.row _ _ _ _ _) (bJ qv110 (Nat.zero_le _)) (fun b hb=>qv110.lt b hb);refine b0 (z:=.agg #[.int .i64 0,.int .i64 0,.int .i64 0,.bool false]) (sz:=4) (bytes:=32) h161 (wn rfl) ⟨rfl,rfl⟩ rfl Tryz.underlying22 (by kernel_rfl) rfl rfl (h161.ev rfl) (h161.ev rfl) S163 (i:=0) rfl (j7 bj (S163.rd0 hr) hc.1 m) (by rw[dh bj,List.length_drop,Nat.mul_comm]) (fun u hu=>by obtain⟨z,_,hz⟩:=List.mem_flatMap.1 hu;exact gA z u hz) ⟨(by omega),by decide⟩ fun A115 c115 _ _ h164 S164=>?_;refine vf h164 0 0 rfl rfl rfl fun _ h165=>?_;refine cv h165 (wn rfl) ⟨rfl,rfl⟩ (h165.ev rfl) (h165.ev rfl) rfl (by kernel_rfl) S164 (i:=2) rfl rfl rfl fun _ S166=>?_;refine ae (aa ?_);have hjT:=trivial
           have e1:m+1+(t.ts.length-m)=M.length:=by rw[hMe,List.length_append,List.length_take,List.length_cons,List.length_drop];omega
           have e2:(t.ts.take m).flatMap bU ++ [.int .i64 x.e.t,.int .i64 0,.int .i64 0,.bool false] ++ (t.ts.drop m).flatMap bU=M.flatMap bU:=by rw[hMe,List.flatMap_append,List.flatMap_cons,List.append_assoc];rfl
           exact⟨(A115,c115),h165.re ⟨rfl,rfl,rfl,rfl,rfl,trivial⟩,(by rw[←e1,←e2];exact(St.pull' (St.pull' (St.pull' (St.pull' (St.pull' (St.pull' (St.pull' (S166.sub (.cons_cons _ (.cons _ (.cons_cons _ (.cons _ (.cons_cons _ (.cons_cons _ (.cons_cons _ (.cons_cons _ (.cons_cons _ .slnil)))))))))) 6 rfl) 6 rfl) 6 rfl) 6 rfl) 6 rfl) 5 rfl) 6 rfl)),hjT⟩
          case hB=>kernel_rfl
       case hB=>kernel_rfl
       case hst=>rfl
      ·
       have h3:=of_decide_eq_false hc3
       have hMe:M=t.ts:=by rw[hM];unfold gY;rw[if_neg h3]
       obtain⟨j,hj,ej,_⟩:=dW h3
       have hme:gE Trn.i x.e.t t.ts 0=(m:Int):=by rw[hm];unfold iZ;rw[if_neg h3,ej];omega
       refine wp_skip (aa ?_);have hjT:=trivial;rw[hme] at h110;exact⟨(p19.1,p19.2.1),h110.re ⟨rfl,rfl,rfl,rfl,rfl,trivial⟩,(by rw[hMe];exact S107),hjT⟩
     ·
      obtain⟨Ma,mc⟩:=i;obtain⟨bm,om,rfl,_⟩:=(S111.rdOf (i:=1) rfl).opened (aP bj (by decide) (by omega));obtain rfl:om=0:=oO (S111.at_ (i:=1) rfl);have hmc:M.length≤mc:=fR (S111.at_ (i:=1) rfl);obtain⟨y,hy⟩:∃y,y=M[m]:=⟨_,rfl⟩;rw[←hy] at hset;have f1:=jx bj M (q:=1) hml (by decide) ⟨y.i,x.l,y.u,y.c⟩ (.int .i64 x.l) (by rw[←hy];rfl);obtain⟨M1,hM1⟩:∃M1,M1=M.set m ⟨y.i,x.l,y.u,y.c⟩:=⟨_,rfl⟩;rw[←hM1,←Nat.zero_add (m*4)] at f1
      have hl1:M1.length=M.length:=by rw[hM1,List.length_set]
      have hm1:m<M1.length:=by rw[hl1];exact hml
      have hy1:M1[m]=⟨y.i,x.l,y.u,y.c⟩:=by subst hM1;exact List.getElem_set_self ..
      have hst1:∀z,M1.set m z=M.set m z:=fun z=>by rw[hM1,List.set_set]
      refine aa (ab (ag ?_));refine vf h111 0 0 rfl rfl rfl fun _ h167=>?_;refine vl h167 S111 0 rfl rfl rfl rfl fun _ h168=>?_;refine mv h168 rfl rfl fun _ h169=>?_;refine sv h169 (aC (i:=m) (sz:=4) Tryz.underlying22 (by kernel_rfl) (h169.ev rfl) (h169.ev rfl) (by omega) (by omega) rfl) fun _ h170=>?_;refine ma h170 rfl rfl fun _ h171=>?_;refine cu ?_;refine mv h171 rfl rfl fun _ h172=>?_;refine vf h172 0 0 rfl rfl rfl fun _ h173=>?_;refine vl h173 S111 5 rfl rfl rfl rfl fun _ h174=>?_;refine sv h174 (a6 (h174.ev rfl)) fun _ h175=>?_;refine sv h175 (ai (off:=1) (by kernel_rfl) (h175.ev rfl) rfl) fun _ h176=>?_;refine fu h176 (wn rfl) ⟨rfl,rfl⟩ (h176.ev rfl) (h176.ev rfl) rfl (by kernel_rfl) S111 (i:=1) rfl rfl (by show 0+m*4+1+1≤M.length*4;omega) fun _ S177=>?_;replace S177:=St.rowTo (i:=1) S177 rfl rfl f1.symm;refine ae (aa (ab (ab (ag ?_))));refine vf h176 0 0 rfl rfl rfl fun _ h178=>?_;refine vl h178 S177 3 rfl rfl rfl rfl fun _ h179=>?_;refine ae (aa (wp_block (ab (ag ?_))));refine sv h179 (aW (h179.ev rfl) (h179.ev rfl)) fun _ h180=>?_;refine ma h180 rfl rfl fun _ h181=>?_;refine ae (aa ?_);refine aB (h181.ev rfl) (fun hc5=>?_) (fun hc5=>?_)
      ·
       have hk0:x.e.k=0:=by simpa using hc5
       have f2:=jx bj M1 (q:=2) hm1 (by decide) ⟨y.i,x.l,x.l,y.c⟩ (.int .i64 x.l) (by rw[hy1];rfl)
       have hTt:T.ts=M1.set m ⟨y.i,x.l,x.l,y.c⟩:=by rw[hTs,if_neg (by omega),←hset,hst1];unfold ui;rw[if_pos hk0,hk0];rfl
       rw[←hTt,←Nat.zero_add (m*4)] at f2
       have hTl:T.ts.length=M.length:=by rw[hTt,List.length_set,hl1]
       refine ag ?_;refine mv h181 rfl rfl fun _ h182=>?_;refine vf h182 0 0 rfl rfl rfl fun _ h183=>?_;refine vl h183 S177 5 rfl rfl rfl rfl fun _ h184=>?_;refine sv h184 (a6 (h184.ev rfl)) fun _ h185=>?_;refine sv h185 (ai (off:=2) (by kernel_rfl) (h185.ev rfl) rfl) fun _ h186=>?_;refine fu h186 (wn rfl) ⟨rfl,rfl⟩ (h186.ev rfl) (h186.ev rfl) rfl (by kernel_rfl) S177 (i:=1) rfl rfl (by show 0+m*4+2+1≤M.length*4;omega) fun _ S187=>?_;replace S187:=St.rowTo (i:=1) S187 rfl rfl f2.symm;refine ae (aK (aa (ab (ag ?_))));refine sv h186 (av (by kernel_rfl) (by kernel_rfl) (h186.ev rfl) (S187.cellsAll (i:=0) rfl)) fun _ h188=>?_;refine az h188 (wn rfl) ⟨rfl,rfl⟩ (h188.ev rfl) (h188.ev rfl) rfl (by kernel_rfl) S187 (i:=4) rfl rfl rfl fun _ S189=>?_;refine ae (aa (wp_ret ?_));refine lT h188 rfl rfl S189 (i:=4) rfl (by kernel_rfl) (by kernel_rfl) ?_;refine⟨(some ⟨bm,0,none⟩,mc,Da,dc),by unfold bO;first | (rw[hTl,hTd];done) | (rw[hTl,hTd];rfl),.inr ?_⟩;rw[hTl,hTd];exact(St.pull' (St.pull' (S189.sub (.cons _ (.cons_cons _ (.cons_cons _ (.cons _ (.cons _ (.cons _ (.cons _ .slnil)))))))) 1 rfl) 1 rfl)
      ·
       have hk0:x.e.k≠0:=by simpa using hc5
       refine ab (ag ?_);refine sv h181 (aW (h181.ev rfl) (h181.ev rfl)) fun _ h190=>?_;refine ma h190 rfl rfl fun _ h191=>?_;refine ae (aa ?_);refine aB (h191.ev rfl) (fun hc6=>?_) (fun hc6=>?_)
       ·
        have hk1:x.e.k=1:=by simpa using hc6
        have f2:=jx bj M1 (q:=2) hm1 (by decide) ⟨y.i,x.l,x.e.x,y.c⟩ (.int .i64 x.e.x) (by rw[hy1];rfl)
        have hTt:T.ts=M1.set m ⟨y.i,x.l,x.e.x,y.c⟩:=by rw[hTs,if_neg (by omega),←hset,hst1];unfold ui;rw[if_neg hk0,if_pos hk1,hk1];rfl
        rw[←hTt,←Nat.zero_add (m*4)] at f2
        have hTl:T.ts.length=M.length:=by rw[hTt,List.length_set,hl1]
        refine ag ?_;refine mv h191 rfl rfl fun _ h192=>?_;refine vf h192 3 3 rfl rfl rfl fun _ h193=>?_;refine vl h193 S177 3 rfl rfl rfl rfl fun _ h194=>?_;refine sv h194 (a6 (h194.ev rfl)) fun _ h195=>?_;refine sv h195 (ai (off:=2) (by kernel_rfl) (h195.ev rfl) rfl) fun _ h196=>?_;refine fu h196 (wn rfl) ⟨rfl,rfl⟩ (h196.ev rfl) (h196.ev rfl) rfl (by kernel_rfl) S177 (i:=1) rfl rfl (by show 0+m*4+2+1≤M.length*4;omega) fun _ S197=>?_;replace S197:=St.rowTo (i:=1) S197 rfl rfl f2.symm;refine ae (aK (aa (ab (ag ?_))));refine sv h196 (av (by kernel_rfl) (by kernel_rfl) (h196.ev rfl) (S197.cellsAll (i:=0) rfl)) fun _ h198=>?_;refine az h198 (wn rfl) ⟨rfl,rfl⟩ (h198.ev rfl) (h198.ev rfl) rfl (by kernel_rfl) S197 (i:=4) rfl rfl rfl fun _ S199=>?_;refine ae (aa (wp_ret ?_));refine lT h198 rfl rfl S199 (i:=4) rfl (by kernel_rfl) (by kernel_rfl) ?_;refine⟨(some ⟨bm,0,none⟩,mc,Da,dc),by unfold bO;first | (rw[hTl,hTd];done) | (rw[hTl,hTd];rfl),.inr ?_⟩;rw[hTl,hTd];exact(St.pull' (St.pull' (S199.sub (.cons _ (.cons_cons _ (.cons_cons _ (.cons _ (.cons _ (.cons _ (.cons _ .slnil)))))))) 1 rfl) 1 rfl)
       ·
        have hk1:x.e.k≠1:=by simpa using hc6
        refine ab (ag ?_);refine sv h191 (aW (h191.ev rfl) (h191.ev rfl)) fun _ h200=>?_;refine ma h200 rfl rfl fun _ h201=>?_;refine ae (aa ?_);refine aB (h201.ev rfl) (fun hc7=>?_) (fun hc7=>?_)
        ·
         have hk2:x.e.k=2:=by simpa using hc7
         have f2:=jx bj M1 (q:=3) hm1 (by decide) ⟨y.i,x.l,y.u,true⟩ (.bool true) (by rw[hy1];rfl)
         have hTt:T.ts=M1.set m ⟨y.i,x.l,y.u,true⟩:=by rw[hTs,if_neg (by omega),←hset,hst1];unfold ui;rw[if_neg hk0,if_neg hk1,hk2];rfl
         rw[←hTt,←Nat.zero_add (m*4)] at f2
         have hTl:T.ts.length=M.length:=by rw[hTt,List.length_set,hl1]
         refine ag ?_;refine mv h201 rfl rfl fun _ h202=>?_;refine sv h202 (a6 (h202.ev rfl)) fun _ h203=>?_;refine sv h203 (ai (off:=3) (by kernel_rfl) (h203.ev rfl) rfl) fun _ h204=>?_;refine fu h204 (wn rfl) ⟨rfl,rfl⟩ (h204.ev rfl) (h204.ev rfl) rfl (by kernel_rfl) S177 (i:=1) rfl rfl (by show 0+m*4+3+1≤M.length*4;omega) fun _ S205=>?_;replace S205:=St.rowTo (i:=1) S205 rfl rfl f2.symm;refine ae (aK (aa (ab (ag ?_))));refine sv h204 (av (by kernel_rfl) (by kernel_rfl) (h204.ev rfl) (S205.cellsAll (i:=0) rfl)) fun _ h206=>?_;refine az h206 (wn rfl) ⟨rfl,rfl⟩ (h206.ev rfl) (h206.ev rfl) rfl (by kernel_rfl) S205 (i:=4) rfl rfl rfl fun _ S207=>?_;refine ae (aa (wp_ret ?_));refine lT h206 rfl rfl S207 (i:=4) rfl (by kernel_rfl) (by kernel_rfl) ?_;refine⟨(some ⟨bm,0,none⟩,mc,Da,dc),by unfold bO;first | (rw[hTl,hTd];done) | (rw[hTl,hTd];rfl),.inr ?_⟩;rw[hTl,hTd];exact(St.pull' (St.pull' (S207.sub (.cons _ (.cons_cons _ (.cons_cons _ (.cons _ (.cons _ (.cons _ (.cons _ .slnil)))))))) 1 rfl) 1 rfl)
        ·
         have hk2:x.e.k≠2:=by simpa using hc7
         refine ab (ag ?_);refine sv h201 (aW (h201.ev rfl) (h201.ev rfl)) fun _ h208=>?_;refine ma h208 rfl rfl fun _ h209=>?_;refine ae (aa ?_);refine aB (h209.ev rfl) (fun hc8=>?_) (fun hc8=>?_)
         ·
          have hk4:x.e.k=4:=by simpa using hc8
          have hTt:T.ts=M1.take m ++ M1.drop (m+1):=by rw[hTs,if_pos hk4,←hdel,hM1,List.take_set_of_le (Nat.le_refl _),List.drop_set_of_lt (Nat.lt_succ_self _)]
          apply bq h209 [true,false,false,false,false,true,false,false,false,false,false] _ (by kernel_rfl)
          case h=>
           refine qv h209 (fun X hX=>ai (off:=0) (j:=0) (by kernel_rfl) (h209.ev rfl) rfl) fun _ h210=>?_;refine qv h210 (fun X hX=>ao (by kernel_rfl) (h210.ev rfl) ((S177.grow hX).cell (i:=0) rfl rfl)) fun _ h211=>?_;refine qv h211 (fun X hX=>aj (h211.ev rfl)) fun _ h212=>?_;refine qv h212 (fun X hX=>a8 (v':=.slice (oF (some ⟨bm,0,none⟩) mc 0 4) m mc) rfl (fv (l:=0) (h:=m) (sz:=4) Tryz.underlying22 (by kernel_rfl) (h212.ev rfl) rfl (h212.ev rfl) (by omega) (by omega))) fun _ h213=>?_;refine qv h213 (fun X hX=>ai (off:=0) (j:=0) (by kernel_rfl) (h213.ev rfl) rfl) fun _ h214=>?_;refine qv h214 (fun X hX=>ao (by kernel_rfl) (h214.ev rfl) ((S177.grow hX).cell (i:=0) rfl rfl)) fun _ h215=>?_;refine qv h215 (fun X hX=>aj (h215.ev rfl)) fun _ h216=>?_;refine qv h216 (fun X hX=>a8 (v':=.int .i64 ((m+1:Nat):Int)) (congrArg _ (by omega)) (a7 (h216.ev rfl) (h216.ev rfl) (by omega))) fun _ h217=>?_;refine qv h217 (fun X hX=>fv (l:=m+1) (h:=M.length) (sz:=4) Tryz.underlying22 (by kernel_rfl) (h217.ev rfl) (h217.ev rfl) rfl (by omega) (by omega)) fun _ h218=>?_;refine aH ?_;apply ez (k:=0) (deps:=[]) (R:=NewB _ (fun b=>.slice (some ⟨b,0,none⟩) 0 0) _ _) h218 rfl rfl rfl NewB.stable (fun X hX hΦ=>eX (cD (zc:=[.int .i64 0,.int .i64 0,.int .i64 0,.bool false]) (sz:=4) rfl Tryz.underlying22 (by kernel_rfl) (by kernel_rfl) rfl rfl rfl (h218.evs2 rfl) rfl rfl rfl) hX.size);intro v149 _ h219;apply ez (k:=5) (deps:=[0]) (R:=OwnB _ _ _ _ _) h219 rfl rfl rfl OwnB.stable (fun X hX hΦ=>oq (z:=.agg #[.int .i64 0,.int .i64 0,.int .i64 0,.bool false]) (sz:=4) (bytes:=32) rfl Tryz.underlying22 (by kernel_rfl) rfl rfl (h219.ev rfl) (h219.ev rfl) (bQ (k:=0) hΦ rfl rfl) rfl ⟨_,_,rfl,lK bj ((S177.grow hX).rdOf (i:=1) rfl) (by omega) m⟩ (by rw[dh bj,List.length_take,Nat.min_eq_left (by omega),Nat.mul_comm]) (fun u hu=>by obtain⟨z,_,hz⟩:=List.mem_flatMap.1 hu;exact gA z u hz) ⟨(by omega),by decide⟩ hX.size)
           intro v154 _ h220;refine bE fun _ hX221 hΦ221=>?_;have S221:=S177.grow hX221;have qv149:=br hΦ221 (k:=0) rfl;have qv154:=br hΦ221 (k:=5) rfl;obtain⟨A154,c154,rfl,qv154⟩:=qv154;have S222:=S177.add hX221 (e:=.row _ _ _ _ _) (bJ qv154 (Nat.zero_le _)) (fun b hb=>qv154.lt b hb);refine b0 (z:=.agg #[.int .i64 0,.int .i64 0,.int .i64 0,.bool false]) (sz:=4) (bytes:=32) h220 (wn rfl) ⟨rfl,rfl⟩ rfl Tryz.underlying22 (by kernel_rfl) rfl rfl (h220.ev rfl) (h220.ev rfl) S222 (i:=0) rfl (j7 bj (S222.rdOf (i:=2) rfl) (by omega) (m+1)) (by rw[dh bj,List.length_drop,hl1,Nat.mul_comm]) (fun u hu=>by obtain⟨z,_,hz⟩:=List.mem_flatMap.1 hu;exact gA z u hz) ⟨(by omega),by decide⟩ fun A160 c160 _ _ h223 S223=>?_;refine vf h223 0 0 rfl rfl rfl fun _ h224=>?_;refine cv h224 (wn rfl) ⟨rfl,rfl⟩ (h224.ev rfl) (h224.ev rfl) rfl (by kernel_rfl) S223 (i:=1) rfl rfl rfl fun _ S225=>?_
           have e1:m+(M.length-(m+1))=T.ts.length:=by rw[hTt,List.length_append,List.length_take,List.length_drop,hl1];omega
           have e2:(M1.take m).flatMap bU ++ (M1.drop (m+1)).flatMap bU=T.ts.flatMap bU:=by rw[hTt,List.flatMap_append]
           replace S225:=St.rowTo (i:=0) S225 rfl e1 e2;replace h224:=Has.also h224 (t:=160) (v:=.slice A160 T.ts.length c160) (by rw[←e1];rfl);refine ae (aK (aa (ab (ag ?_))));refine sv h224 (av (by kernel_rfl) (by kernel_rfl) (h224.ev rfl) (S225.cellsAll (i:=1) rfl)) fun _ h226=>?_;refine az h226 (wn rfl) ⟨rfl,rfl⟩ (h226.ev rfl) (h226.ev rfl) rfl (by kernel_rfl) S225 (i:=5) rfl rfl rfl fun _ S227=>?_;refine ae (aa (wp_ret ?_));refine lT h226 rfl rfl S227 (i:=5) rfl (by kernel_rfl) (by kernel_rfl) ?_;refine⟨(A160,c160,Da,dc),by unfold bO;first | (rw[hTd,←e1];done) | (rw[hTd,←e1];rfl),.inr ?_⟩;rw[hTd];exact(St.pull' (St.pull' (S227.sub (.cons_cons _ (.cons _ (.cons _ (.cons_cons _ (.cons _ (.cons _ (.cons _ (.cons _ .slnil))))))))) 1 rfl) 1 rfl)
          case hB=>kernel_rfl
          case hst=>rfl
         ·
          have hk4:x.e.k≠4:=by simpa using hc8
          have hTt:T.ts=M1:=by rw[hTs,if_neg hk4,←hset,hM1];unfold ui;rw[if_neg hk0,if_neg hk1,show(x.e.k==2)=false by simpa using hk2];rfl
          have hTl:T.ts.length=M.length:=by rw[hTt,hl1]
          replace S177:=St.rowTo (i:=1) S177 rfl rfl (congrArg (List.flatMap bU) hTt.symm);refine wp_skip (aK (aa (ab (ag ?_))));refine sv h209 (av (by kernel_rfl) (by kernel_rfl) (h209.ev rfl) (S177.cellsAll (i:=0) rfl)) fun _ h228=>?_;refine az h228 (wn rfl) ⟨rfl,rfl⟩ (h228.ev rfl) (h228.ev rfl) rfl (by kernel_rfl) S177 (i:=4) rfl rfl rfl fun _ S229=>?_;refine ae (aa (wp_ret ?_));refine lT h228 rfl rfl S229 (i:=4) rfl (by kernel_rfl) (by kernel_rfl) ?_;refine⟨(some ⟨bm,0,none⟩,mc,Da,dc),by unfold bO;first | (rw[hTl,hTd];done) | (rw[hTl,hTd];rfl),.inr ?_⟩;rw[hTl,hTd];exact(St.pull' (St.pull' (S229.sub (.cons _ (.cons_cons _ (.cons_cons _ (.cons _ (.cons _ (.cons _ (.cons _ .slnil)))))))) 1 rfl) 1 rfl)
set_option maxRecDepth 4000
open Go.RowKit Go.Sort Go.Shelf
theorem ye (s:List UInt8):SrtT (cx s)∧(cx s).ts.length≤60∧(cx s).ds.length≤60:=by
 unfold cx
 split
 · rename_i h
   have hk:dk (dH s)=0:=by
    unfold fC at h
    split at h
    · cases h
    · split at h
      · cases h
      · rw[bu] at h
        exact h _ (.tail _ (.head _))
   have hok:=tblE_zero.1 hk;exact⟨hok.srt,hok.n,hok.m⟩
 · exact⟨iA,Nat.zero_le _,Nat.zero_le _⟩
theorem rk {M:List Nat} {w0 w:World} {E:List Ent} {t:Tbl} {x:Rcd} {A:Option Addr} {c:Nat} {B:Option Addr} {d:Nat} (hS:St M w0 w (.row (.slice A t.ts.length c) t.ts.length 116 4 (t.ts.flatMap bU)::.row (.slice B t.ds.length d) t.ds.length 124 3 (t.ds.flatMap cm)::E)) (ht:SrtT t) (hl:t.ts.length≤900∧t.ds.length≤900) :
 Calls Tryz.prog 80 #[bO t A c B d,fw x] w fun e w'=>∃i:Option Addr × Nat × Option Addr × Nat,e=.returned (bO (ct t x) i.1 i.2.1 i.2.2.1 i.2.2.2) ∧
  St M w0 w' (.row (.slice i.1 (ct t x).ts.length i.2.1) (ct t x).ts.length 116 4 ((ct t x).ts.flatMap bU)::.row (.slice i.2.2.1 (ct t x).ds.length i.2.2.2) (ct t x).ds.length 124 3 ((ct t x).ds.flatMap cm)::E):=by
 refine(o3 t x A c B d w ht (hS.rdOf (i:=0) rfl) (hS.rdOf (i:=1) rfl) hl ⟨fR (hS.at_ (i:=0) rfl),fR (hS.at_ (i:=1) rfl)⟩).mono fun e w' ⟨i,he,h⟩=>⟨i,he,?_⟩;rcases h with ⟨h1,h2,h3⟩ | h
 · have e1:ct t x=t:=by unfold ct;rw[if_pos h1]
   rw[e1,h2];exact hS.grow h3
 · exact(hS.sub (.cons _ (.cons _ (List.Sublist.refl _)))).append h
structure AnlS where
 j:Nat
 t:Tbl
 i:Option Addr × Nat × Option Addr × Nat
theorem mM (l:List Rcd) (a:Int) (A:Option Addr) (c:Nat) (w:World) (hr:Rd w w.heap.size A (l.flatMap cw)) (hv:VldH l l.length) (hl:l.length≤100) (hx:∀x∈l,FewE x.e) :
 Calls Tryz.prog 27 #[.slice A l.length c,.int .i64 a] w fun e w'=>∃i:Option Addr × Nat × Option Addr × Nat,e=.returned (.tuple #[bO (cY l a).1 i.1 i.2.1 i.2.2.1 i.2.2.2,.int .i64 (cY l a).2]) ∧
  St [] w w' [.row (.slice i.1 (cY l a).1.ts.length i.2.1) (cY l a).1.ts.length 116 4 ((cY l a).1.ts.flatMap bU),.row (.slice i.2.2.1 (cY l a).1.ds.length i.2.2.2) (cY l a).1.ds.length 124 3 ((cY l a).1.ds.flatMap cm)]:=by
 have hsl:bX Rcd.l l:=by have:=hv.srt;rwa [List.take_length] at this
 have av2:=@uQ l a;have av3:=@tN l hsl a
 have av4:a=0→cY l a=js tbl0 l:=fun h=>by subst h;exact uF
 generalize cY l a=R at av2 av3 av4;refine aD (N:=62) Tryz.func27 rfl rfl rfl (fun _ h0=>?_);have S0:=St.init w;refine ab (ag ?_);refine na (.agg #[.slice none 0 0,.slice none 0 0]) h0 rfl S0 fun b4 _ _ gb4 h1 S1=>?_;refine ma h1 rfl rfl fun _ h2=>?_;refine cu ?_;refine sv h2 (bb (zs:=[.slice none 0 0,.slice none 0 0]) (pl:=[(0,1),(1,1)]) (by kernel_rfl) (by kernel_rfl) (h2.evs2 rfl) rfl rfl) fun _ h3=>?_;refine na (.agg #[.slice none 0 0,.slice none 0 0]) h3 rfl S1 fun b6 _ _ gb6 h4 S4=>?_;refine az h4 (wn rfl) ⟨rfl,rfl⟩ (h4.ev rfl) (h4.ev rfl) rfl (by kernel_rfl) S4 (i:=0) rfl rfl rfl fun _ S5=>?_;refine cu ?_;refine na (.agg #[.slice none 0 0,.slice none 0 0]) h4 rfl S5 fun b7 _ _ gb7 h6 S6=>?_;refine cu ?_;refine ma h6 rfl rfl fun _ h7=>?_;refine ae (aa (ab (ab (ag ?_))));refine mv h7 rfl rfl fun _ h8=>?_;refine sv h8 (bc (h8.ev rfl) (h8.ev rfl)) fun _ h9=>?_;refine ae (aa ?_);refine lQ h9 S6 (fun (q:AnlS)=>[(8,.int .i64 (q.j:Nat))]) [7,6,4,0] (fun (q:AnlS)=>fun L=>[.row (.slice q.i.1 q.t.ts.length q.i.2.1) q.t.ts.length 116 4 (q.t.ts.flatMap bU),.row (.slice q.i.2.2.1 q.t.ds.length q.i.2.2.2) q.t.ds.length 124 3 (q.t.ds.flatMap cm),.box b7 #[.slice q.i.1 q.t.ts.length q.i.2.1,.slice q.i.2.2.1 q.t.ds.length q.i.2.2.2] 25,.box b6 #[.slice none 0 0,.slice none 0 0] 25,.box b4 #[.slice none 0 0,.slice none 0 0] 25]) (fun (q:AnlS)=>q.j≤l.length∧SrtT q.t∧q.t.ts.length≤60∧q.t.ds.length≤60∧R=js q.t (l.drop q.j)) ?_ (fun q _ _ h10 S10 hq=>?_)
 ·
  refine aB (h9.ev rfl) (fun hc0=>?_) (fun hc0=>?_)
  ·
   have ha:a≠0:=by simpa using hc0
   refine ab (ag ?_);refine mv h9 rfl rfl fun _ h11=>?_;refine mv h11 rfl rfl fun _ h12=>?_;refine aV h12 (wn rfl) (aq (fun _ _=>by kernel_rfl) (h12.evs rfl) rfl) rfl rfl S6 (sP l a A c _ (S6.rd0 hr) (by omega)) fun _ _ h13 S13=>?_;refine ma h13 rfl rfl fun _ h14=>?_;refine ae (aa (ab (ab (ag ?_))));refine mv h14 rfl rfl fun _ h15=>?_;refine sv h15 (bh (h15.ev rfl) (h15.ev rfl)) fun _ h16=>?_;refine mv h16 rfl rfl fun _ h17=>?_;apply eh (x:=dM l (gE Rcd.l a l 0).toNat != 5) h17 S13 20 rfl 8 28
   case hf=>
    intro gc20;obtain⟨j,hj,ej,ej2,_⟩:=dW (of_decide_eq_false gc20);rw[Nat.zero_add] at ej;obtain⟨b1,o1,rfl,_⟩:=hr.opened (aP aL (by decide) (by omega));refine sy h17 rfl rfl rfl gc20 (aj (h17.ev rfl)) rfl rfl fun _ h18=>?_;refine sy h18 rfl rfl rfl gc20 (aj (h18.ev rfl)) rfl rfl fun _ h19=>?_;refine sy h19 rfl rfl rfl gc20 (aC (i:=j) (sz:=14) Tryz.underlying41 (by kernel_rfl) (h19.ev rfl) (h19.ev rfl) (by omega) (by omega) rfl) rfl rfl fun _ h20=>?_;refine sy h20 rfl rfl rfl gc20 (ai (off:=1) (by kernel_rfl) (h20.ev rfl) rfl) rfl rfl fun _ h21=>?_;refine sy h21 rfl rfl rfl gc20 (ai (off:=0) (by kernel_rfl) (h21.ev rfl) rfl) rfl rfl fun _ h22=>?_;refine sy h22 rfl rfl rfl gc20 (ao (by kernel_rfl) (h22.ev rfl) ((ba aL (S13.rd0 hr) hj) 1 _ rfl)) rfl rfl fun _ h23=>?_;refine sy h23 rfl rfl rfl gc20 (a8 (v':=.bool (dM l (gE Rcd.l a l 0).toNat != 5)) (by rw[ej,Int.toNat_natCast,eC hj]) (bc (h23.ev rfl) (h23.ev rfl))) rfl rfl fun _ h24=>?_;refine sv h24 (aG (h24.ev rfl) gc20 (h24.ev rfl)) fun _ h25=>?_;exact ae ⟨h25.mid (m:=[(_,_),(_,_),(_,_),(_,_),(_,_),(_,_),(_,_)]) rfl,S13⟩
   case ht=>
    intro gc20;refine no h17 rfl rfl rfl gc20 rfl rfl fun _ h26=>?_;refine no h26 rfl rfl rfl gc20 rfl rfl fun _ h27=>?_;refine no h27 rfl rfl rfl gc20 rfl rfl fun _ h28=>?_;refine no h28 rfl rfl rfl gc20 rfl rfl fun _ h29=>?_;refine no h29 rfl rfl rfl gc20 rfl rfl fun _ h30=>?_;refine no h30 rfl rfl rfl gc20 rfl rfl fun _ h31=>?_;refine no h31 rfl rfl rfl gc20 rfl rfl fun _ h32=>?_;refine sv h32 (aA (h32.ev rfl) gc20 (h32.ev rfl)) fun _ h33=>?_;exact ae ⟨h33.mid (m:=[(_,_),(_,_),(_,_),(_,_),(_,_),(_,_),(_,_)]) rfl,S13⟩
   case h=>
    rintro a34 X34 ⟨h34,S34⟩
    refine ae (aa ?_);refine aB (h34.ev rfl) (fun hc1=>?_) (fun hc1=>?_)
    ·
     have hR:R=(tbl0,6):=by
      rcases Bool.or_eq_true_iff.1 hc1 with u | u
      · exact av2 ha (of_decide_eq_true u)
      · by_cases hn:gE Rcd.l a l 0<0
        · exact av2 ha hn
        · obtain⟨j,hj,ej,ej2,_⟩:=dW hn
          rw[Nat.zero_add] at ej;rw[ej,Int.toNat_natCast,eC hj] at u;rw[av3 ha hj ej2,if_pos (by simpa using u)]
     refine ab (ag ?_);refine sv h34 (av (by kernel_rfl) (by kernel_rfl) (h34.ev rfl) (S34.cellsAll (i:=1) rfl)) fun _ h35=>?_;refine az h35 (wn rfl) ⟨rfl,rfl⟩ (h35.ev rfl) (h35.ev rfl) rfl (by kernel_rfl) S34 (i:=2) rfl rfl rfl fun _ S36=>?_;refine ma h35 rfl rfl fun _ h37=>?_;refine ae (aa (wp_ret (ak (ak (ak ?_)))));refine dz h37 rfl rfl rfl S36 (i:=2) rfl (by kernel_rfl) (by kernel_rfl) ?_;refine⟨(none,0,none,0),by rw[hR];rfl,?_⟩;rw[hR];exact((S36.sub (List.nil_sublist _)).nilRow 124 3).nilRow 116 4
    ·
     obtain⟨u1,u2⟩:=Bool.or_eq_false_iff.1 hc1;obtain⟨j,hj,ej,ej2,_⟩:=dW (of_decide_eq_false u1);rw[Nat.zero_add] at ej;rw[ej,Int.toNat_natCast,eC hj] at u2
     have hR:R=js (cx (bl l[j].e.d)) (l.drop (j+1)):=by rw[av3 ha hj ej2,if_neg (by simpa using u2)]
     obtain⟨ok1,ok2,ok3⟩:=ye (bl l[j].e.d);obtain⟨b1,o1,rfl,_⟩:=hr.opened (aP aL (by decide) (by omega));have hdd:=(hx _ (List.getElem_mem hj)).d;refine wp_skip (aa (ab (ag ?_)));refine mv h34 rfl rfl fun _ h38=>?_;refine mv h38 rfl rfl fun _ h39=>?_;refine sv h39 (aC (i:=j) (sz:=14) Tryz.underlying41 (by kernel_rfl) (h39.ev rfl) (h39.ev rfl) (by omega) (by omega) rfl) fun _ h40=>?_;refine sv h40 (ai (off:=1) (by kernel_rfl) (h40.ev rfl) rfl) fun _ h41=>?_;refine sv h41 (ai (off:=12) (by kernel_rfl) (h41.ev rfl) rfl) fun _ h42=>?_;refine sv h42 (a8 (v':=.string (bs (bl l[j].e.d))) (by rw[xe]) (ao (by kernel_rfl) (h42.ev rfl) ((ba aL (S34.rd0 hr) hj) 13 _ rfl))) fun _ h43=>?_;refine cT h43 (wn rfl) (aq (fun _ _=>by kernel_rfl) (h43.evs rfl) rfl) rfl rfl S34 (jL (bl l[j].e.d) _ (by rw[bf];exact hdd)) fun p37 _ _ h44 S44=>?_;refine mv h44 rfl rfl fun _ h45=>?_;refine vx h45 rfl rfl rfl fun _ h46=>?_;refine vx h46 rfl rfl rfl fun _ h47=>?_;refine az h47 (wn rfl) ⟨rfl,rfl⟩ (h47.ev rfl) (h47.ev rfl) rfl (by kernel_rfl) S44 (i:=2) rfl rfl rfl fun _ S48=>?_;refine ae (aa (ag ?_));refine mv h47 rfl rfl fun _ h49=>?_;refine sv h49 (a8 (v':=.int .i64 ((j+1:Nat):Int)) (by rw[ej];congr 1) (a7 (h49.ev rfl) (h49.ev rfl) (by omega))) fun _ h50=>?_;refine ma h50 rfl rfl fun _ h51=>?_;refine ae (aa ?_);have hq:j+1≤l.length∧SrtT (cx (bl l[j].e.d))∧(cx (bl l[j].e.d)).ts.length≤60∧(cx (bl l[j].e.d)).ds.length≤60∧R=js (cx (bl l[j].e.d)) (l.drop (j+1)):=⟨hj,ok1,ok2,ok3,hR⟩;exact⟨⟨j+1,cx (bl l[j].e.d),p37⟩,h51.re ⟨rfl,rfl,rfl,rfl,rfl,trivial⟩,(St.pull' (St.pull' (St.pull' (St.pull' (St.pull' S48 4 rfl) 4 rfl) 4 rfl) 4 rfl) 4 rfl),hq⟩
  ·
   have ha:a=0:=by simpa using hc0
   refine wp_skip (aa ?_);have hq:0≤l.length∧SrtT tbl0∧tbl0.ts.length≤60∧tbl0.ds.length≤60∧R=js tbl0 (l.drop 0):=⟨Nat.zero_le _,iA,Nat.zero_le _,Nat.zero_le _,by rw[List.drop_zero];exact av4 ha⟩;exact⟨⟨0,tbl0,(none,0,none,0)⟩,h9.re ⟨rfl,rfl,rfl,rfl,rfl,trivial⟩,((S6.nilRow 124 3).nilRow 116 4),hq⟩
 ·
  clear av2 av3 av4;obtain⟨j0,t0,i0⟩:=q;obtain⟨q1,q2,q3,q4,q5⟩:=hq;refine aa (ab (ab (ag ?_)));refine mv h10 rfl rfl fun _ h52=>?_;refine ma h52 rfl rfl fun _ h53=>?_;refine ae (aa (wp_block ?_));refine bC h53 S10 [7,6,4,0] (fun (q:AnlS)=>[(10,.int .i64 (q.j:Nat))]) (fun (q:AnlS)=>q.j≤l.length∧SrtT q.t∧q.t.ts.length≤60+q.j∧q.t.ds.length≤60+q.j∧rW t0 (l.drop j0)=rW q.t (l.drop q.j)) (fun q L=>[.row (.slice q.i.1 q.t.ts.length q.i.2.1) q.t.ts.length 116 4 (q.t.ts.flatMap bU),.row (.slice q.i.2.2.1 q.t.ds.length q.i.2.2.2) q.t.ds.length 124 3 (q.t.ds.flatMap cm),.box b7 #[.slice q.i.1 q.t.ts.length q.i.2.1,.slice q.i.2.2.1 q.t.ds.length q.i.2.2.2] 25,.box b6 #[.slice none 0 0,.slice none 0 0] 25,.box b4 #[.slice none 0 0,.slice none 0 0] 25]) (fun (q:AnlS)=>l.length-q.j) (⟨j0,t0,i0⟩) (⟨q1,q2,by show t0.ts.length≤60+j0;have h9:t0.ts.length≤60:=q3;omega,by show t0.ds.length≤60+j0;have h9:t0.ds.length≤60:=q4;omega,rfl⟩) ⟨rfl,rfl,rfl,rfl,rfl,trivial⟩ (S10) ?_;intro q _ _ hF0 h54 S54;refine ab (ab (ag ?_));refine mv h54 rfl rfl fun _ h55=>?_;refine mv h55 rfl rfl fun _ h56=>?_;refine sv h56 (bn Tryz.underlying41 (h56.ev rfl)) fun _ h57=>?_;refine sv h57 (bh (h57.ev rfl) (h57.ev rfl)) fun _ h58=>?_;refine ae (aa ?_);refine aB (h58.ev rfl) (fun hc2=>?_) (fun hc2=>?_)
  ·
   have hlt:q.j<l.length:=by have:=of_decide_eq_true hc2;omega
   obtain⟨b2,o2,rfl,_⟩:=hr.opened (aP aL (by decide) (by omega));have hdr:l.drop q.j=l[q.j]::l.drop (q.j+1):=List.drop_eq_getElem_cons hlt;obtain⟨-,hsq,hn1,hn2,hun⟩:=hF0;have hch:=vM q.t l[q.j];refine wp_skip (aa (ab (wp_block ?_)));apply bq h58 [false,false,false,false,false] _ (by kernel_rfl)
   case h=>
    refine qv (v:=bO q.t q.i.1 q.i.2.1 q.i.2.2.1 q.i.2.2.2) h58 (fun X hX=>av (by kernel_rfl) (by kernel_rfl) (h58.ev rfl) ((S54.grow hX).cellsAll (i:=2) rfl)) fun _ h59=>?_;refine qv h59 (fun X hX=>aj (h59.ev rfl)) fun _ h60=>?_;refine qv h60 (fun X hX=>aj (h60.ev rfl)) fun _ h61=>?_;refine qv h61 (fun X hX=>aC (i:=q.j) (sz:=14) Tryz.underlying41 (by kernel_rfl) (h61.ev rfl) (h61.ev rfl) (by omega) (by omega) rfl) fun _ h62=>?_;refine qv (v:=fw l[q.j]) h62 (fun X hX=>av (by kernel_rfl) (by kernel_rfl) (h62.ev rfl) (ba aL ((S54.grow hX).rd0 hr) hlt)) fun _ h63=>?_;refine aH ?_;refine bE fun _ hX64 hΦ64=>?_;have S64:=S54.grow hX64;refine iL h63 (wn rfl) (aq (fun _ _=>by kernel_rfl) (h63.evs rfl) rfl) rfl rfl (rk (x:=l[q.j]) S64 hsq (by omega)) fun e9 X65 ⟨i9,he9,S65⟩=>⟨_,he9,fun _ h65=>?_⟩;refine az h65 (wn rfl) ⟨rfl,rfl⟩ (h65.ev rfl) (h65.ev rfl) rfl (by kernel_rfl) S65 (i:=2) rfl rfl rfl fun _ S66=>?_;refine ae (aK (aa (ag ?_)));refine mv h65 rfl rfl fun _ h67=>?_;refine sv h67 (a7 (h67.ev rfl) (h67.ev rfl) (by omega)) fun _ h68=>?_;refine ma h68 rfl rfl fun _ h69=>?_;refine ae (aa ?_);exact⟨⟨q.j+1,ct q.t l[q.j],i9⟩,(by show l.length-(q.j+1)<l.length-q.j;omega),⟨hlt,hsq.chg _,by have:=hch.1;show(ct q.t l[q.j]).ts.length≤60+(q.j+1);omega,by have:=hch.2;show(ct q.t l[q.j]).ds.length≤60+(q.j+1);omega,by rw[hun,hdr,uG]⟩,h69.re ⟨rfl,rfl,rfl,rfl,rfl,trivial⟩,S66⟩
   case hB=>kernel_rfl
   case hst=>rfl
  ·
   have hge:l.length≤q.j:=by have:=of_decide_eq_false hc2;omega
   obtain⟨-,hsq,hn1,hn2,hun⟩:=hF0;rw[List.drop_of_length_le hge] at hun;rw[Ak,hun] at q5;replace q5:R=if dk q.t≠0 then (tbl0,dk q.t) else (q.t,0):=q5;obtain⟨j9,T,Ta,tc,Tb,td⟩:=q;refine wp_exit ?_;refine ar ?_;refine ar ?_;refine bz ?_;refine aa (ab (ab (ag ?_)));refine sv (v:=bO T Ta tc Tb td) h58 (av (by kernel_rfl) (by kernel_rfl) (h58.ev rfl) (S54.cellsAll (i:=2) rfl)) fun _ h70=>?_;refine aV h70 (wn rfl) (aq (fun _ _=>by kernel_rfl) (h70.evs rfl) rfl) rfl rfl S54 (jg T Ta tc Tb td _ (S54.rdOf (i:=0) rfl) (S54.rdOf (i:=1) rfl)) fun _ _ h71 S71=>?_;refine ma h71 rfl rfl fun _ h72=>?_;refine cu ?_;refine mv h72 rfl rfl fun _ h73=>?_;refine sv h73 (bc (h73.ev rfl) (h73.ev rfl)) fun _ h74=>?_;refine ae (aa ?_);refine aB (h74.ev rfl) (fun hc3=>?_) (fun hc3=>?_)
   ·
    have hR:R=(tbl0,dk T):=by rw[q5];exact if_pos (by simpa using hc3)
    refine ab (ag ?_);refine sv h74 (av (by kernel_rfl) (by kernel_rfl) (h74.ev rfl) (S71.cellsAll (i:=3) rfl)) fun _ h75=>?_;refine mv h75 rfl rfl fun _ h76=>?_;refine az h76 (wn rfl) ⟨rfl,rfl⟩ (h76.ev rfl) (h76.ev rfl) rfl (by kernel_rfl) S71 (i:=4) rfl rfl rfl fun _ S77=>?_;refine ma h76 rfl rfl fun _ h78=>?_;refine ae (aa (wp_ret (ak ?_)));refine dz h78 rfl rfl rfl S77 (i:=4) rfl (by kernel_rfl) (by kernel_rfl) ?_;refine⟨(none,0,none,0),by rw[hR];rfl,?_⟩;rw[hR];exact((S77.sub (List.nil_sublist _)).nilRow 124 3).nilRow 116 4
   ·
    have hR:R=(T,0):=by rw[q5];exact if_neg (by simpa using hc3)
    refine wp_skip (aa (ab (ag ?_)));refine sv h74 (av (by kernel_rfl) (by kernel_rfl) (h74.ev rfl) (S71.cellsAll (i:=2) rfl)) fun _ h79=>?_;refine az h79 (wn rfl) ⟨rfl,rfl⟩ (h79.ev rfl) (h79.ev rfl) rfl (by kernel_rfl) S71 (i:=4) rfl rfl rfl fun _ S80=>?_;refine ma h79 rfl rfl fun _ h81=>?_;refine ae (aa (wp_ret ?_));refine dz h81 rfl rfl rfl S80 (i:=4) rfl (by kernel_rfl) (by kernel_rfl) ?_;refine⟨(Ta,tc,Tb,td),by rw[hR];rfl,?_⟩;rw[hR];exact(St.pull' (St.pull' (S80.sub (.cons_cons _ (.cons_cons _ (.cons _ (.cons _ (.cons _ .slnil)))))) 1 rfl) 1 rfl)
end Go.Proofs.YtcfdpfmchchkaaaGreatDoor
