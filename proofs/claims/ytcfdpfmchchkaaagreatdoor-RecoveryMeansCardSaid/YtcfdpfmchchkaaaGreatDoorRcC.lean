/-
  Chapter 22: the iterator of slices.Chunk at rows of bytes whose length is a multiple of a part's.
  Chapter 22: the table with bytes.
  Chapter 22: records and pages looked up by halving.
-/
import Derived.Test.YtcfdpfmchchkaaaGreatDoorSplE
import Derived.Test.YtcfdpfmchchkaaaGreatDoorRcB
namespace Go.Proofs.YtcfdpfmchchkaaaGreatDoor
set_option linter.unusedVariables false
set_option linter.unusedSimpArgs false
open Go.RowKit Go.Sort Go.Shelf
attribute [local go_sem] Oper.semAt_some yE rZ
def qc (B o m:Nat) (j:Nat):Value:=.slice (some ⟨B,o+j*m,none⟩) m m
set_option maxRecDepth 100000 in
set_option maxHeartbeats 400000 in
theorem nu (n B o k m c b1 b2:Nat) (hm:1≤m) (hm2:m≤1000) (hk:k≤1000) (hc:k*m≤c) :
 rH n Tryz.prog 127 #[.pointer (some ⟨b1,0,none⟩),.pointer (some ⟨b2,0,none⟩)] (fun j:Nat=>#[qc B o m j]) (fun W=>Box W b1 #[.slice (some ⟨B,o,none⟩) (k*m) c] 126∧Box W b2 #[.int .i64 m] 3) (List.range k):=by
 intro l J W hJK hJb hY h0;refine callsIn_of_wp Tryz.func127 rfl trivial ?_ rfl;simp only[Tryz.ntmps127,List.size_toArray,List.length_cons,List.length_nil,Nat.reduceAdd,Nat.reduceSub,Array.replicate_succ,Array.replicate_zero,List.push_toArray,List.append_toArray,List.nil_append,List.cons_append];obtain⟨Ln,hLn⟩:∃Ln,Ln=k*m:=⟨_,rfl⟩;rw[←hLn] at hc hJK
 have hLb:Ln≤1000000:=by
  have:=Nat.mul_le_mul hk hm2;omega
 gi_wp2
 gi_loopw [4] (fun ix wr=>∃j:Nat,j≤k∧ix=.int .i64 ((j*m:Nat):Int)∧J ((List.range k).take j) wr) (fun ix _=>Ln-(intOf ix).toNat)
 case atStart=>exact⟨0,by omega,by simp,h0⟩
 case round=>
  obtain⟨j,hj,rfl,hJ⟩:=hrel;clear h0;obtain⟨x1,x2⟩:=hJK _ _ hJ;have y1:wr.cell? ⟨b1,0,none⟩=some (.slice (some ⟨B,o,none⟩) Ln c):=x1.cells 0;have y2:wr.cell? ⟨b2,0,none⟩=some (.int .i64 m):=x2.cells 0;by_cases hlt:j<k
  · have hIm:j*m+m≤Ln:=by
     have:=Nat.mul_le_mul_right m (show j+1≤k from hlt);rw[hLn];rw[Nat.add_mul] at this;omega
    have hsnoc:(List.range k).take (j+1)=(List.range k).take j ++ [j]:=by
     rw[List.take_succ_eq_append_getElem (by rw[List.length_range];exact hlt),List.getElem_range]
    have hsplit:List.range k=(List.range k).take j ++ j::(List.range k).drop (j+1):=by
     have:=List.drop_eq_getElem_cons (l:=List.range k) (i:=j) (by rw[List.length_range];exact hlt);rw[List.getElem_range] at this;rw[←this,List.take_append_drop]
    have HY:=Lib.hid (fun X (hX:Below wr.heap.size wr X)=>hY _ _ _ X hsplit (hJb _ _ _ hJ hX));have HS:=Lib.hid hsnoc;have HNX:=Lib.hid (show((j*m:Nat):Int)+m=(((j+1)*m:Nat):Int) by rw[Nat.add_mul];push_cast;omega);unfold qc at HY;obtain⟨I,hI⟩:∃I,I=j*m:=⟨_,rfl⟩;rw[←hI] at HY hIm HNX ⊢;have l1:=x1.lt;have l2:=x2.lt;clear hsplit hsnoc hY x1 x2 hLn hI
    gi_wp2
    (refine jN [false,false,false,false,false,false] [] (by kernel_rfl) (by kernel_rfl) (by kernel_rfl) ?_;simp only[pick,List.length_cons,List.length_nil,List.drop_succ_cons,List.drop_zero,Nat.zero_add,Nat.reduceAdd];apply Exists.intro;refine⟨fun X hX=>?_,?_⟩;(focus (obtain⟨hcX,hfX⟩:=aK hX;have hgX:=zj hX;have hsX:=hX.size;(try simp only[World.size_alloc] at hsX);(repeat (go_big_quiet_step ((first | fail))));exact wpQuiet_nil rfl));simp only[lJ,told,dW,List.contains_cons,List.contains_nil,List.mem_cons,List.not_mem_nil,forall_eq_or_imp,false_implies,implies_true,and_true,Nat.reduceBEq,BEq.rfl,beq_self_eq_true,Bool.or_false,Bool.false_or,Bool.true_or,Bool.or_true,Bool.false_eq_true,if_true,if_false,true_implies,aL,List.getElem?_toArray,List.getElem?_cons_succ,List.getElem?_cons_zero,Option.some.injEq,forall_eq',Option.bind_some,Act.put,List.setIfInBounds_toArray,List.set_cons_succ,List.set_cons_zero])
    intro X hX;have z1:X.cell? ⟨b1,0,none⟩=some (.slice (some ⟨B,o,none⟩) Ln c):=(hX.cell (p:=⟨b1,0,none⟩) l1).trans y1;have z2:X.cell? ⟨b2,0,none⟩=some (.int .i64 m):=(hX.cell (p:=⟨b2,0,none⟩) l2).trans y2;obtain⟨fn,tmps,assign,body,hy,hR'⟩:=HY.out X hX
    have hmin:min (m:Int) ((Ln-I:Nat):Int)=m:=by omega
    have hmn:((I:Int)+(m:Int)).toNat-I=m:=by omega
    go_wp2
    simp only[hmin]
    gi_wp2
    refine hR'.mono ?_
    rintro e W3 ⟨rfl,hJ3⟩
    have z3:W3.cell? ⟨b2,0,none⟩=some (.int .i64 m):=(hJK _ _ hJ3).2.cells 0
    gi_wp2
    go_roundw
    case rel=>exact⟨j+1,by omega,by rw[←HNX.out],by rw[HS.out];exact hJ3⟩
    case measure=>simp[intOf];omega
  · obtain rfl:j=k:=by omega
    rw[List.take_of_length_le (by rw[List.length_range];omega)] at hJ;rw[←hLn];clear hLn
    gi_wp2
    go_end0
    exact⟨⟨_,rfl⟩,hJ⟩
set_option maxRecDepth 4000
open Go.RowKit Go.Sort Go.Shelf
theorem nw (A:Option Addr) (n c m:Nat) (hm:1≤m) (w:World) :
 Calls Tryz.prog 70 #[.slice A n c,.int .i64 (m:Nat)] w fun e w'=>∃i:Nat × Nat,e=.returned (.func (.func 127) #[] #[.pointer (some ⟨i.1,0,none⟩),.pointer (some ⟨i.2,0,none⟩)])∧St [] w w' [.box i.2 #[.int .i64 (m:Nat)] 3,.box i.1 #[.slice A n c] 126]:=by
 refine aF (N:=9) Tryz.func70 rfl rfl rfl (fun _ Y=>?_);have Z:=St.init w;refine ab (ah ?_);refine nb Y rfl rfl Z fun b2 _ _ gb2 Y Z=>?_;refine nb Y rfl rfl Z fun b3 _ _ gb3 Y Z=>?_;refine ma Y rfl rfl fun _ Y=>?_;refine ae (aa (ab (ab (ah ?_))));refine vl Y Z 0 rfl rfl rfl rfl fun _ Y=>?_;refine sv Y (bq (Y.ev rfl) (Y.ev rfl)) fun _ Y=>?_;refine ae (aa ?_);refine iQ (Y.ev rfl) ((by simp;omega)) ?_;refine wp_skip (aa (ab (ah ?_)));refine sv Y (gi (Y.evs rfl) (Y.evs rfl)) fun _ Y=>?_;refine ma Y rfl rfl fun _ Y=>?_;refine ae (aa (wp_ret ?_));refine bm Y rfl rfl ?_;exact⟨(b2,b3),rfl,Z⟩
theorem ga {l:List UInt8} {o:Nat} (h:o+1≤l.length):ja l o 1=((l.getD o 0).toNat:Int):=by
 unfold ja
 have Y:(l.drop o).take 1=[l[o]'(by omega)]:=by rw[List.drop_eq_getElem_cons (by omega),List.take_succ_cons,List.take_zero]
 rw[Y,List.getD_eq_getElem?_getD,List.getElem?_eq_getElem (by omega)];simp[num]
theorem Aa {α:Type} {l:List α} (h:l.length=2):∃x y,l=[x,y]:=by
 match l,h with
 | [x,y],_=>exact⟨x,y,rfl⟩
theorem o7 {l:List UInt8} {o:Nat} (h:o+4≤l.length):tf l o=ja l o 4:=by
 unfold tf;rw[ly (by omega),ly (by omega)];unfold ja;have h1:(l.drop o).take 4=(l.drop o).take 2 ++ (l.drop (o+2)).take 2:=(vg l o 2 2).symm
 have h2:((l.drop o).take 2).length=2:=by rw[List.length_take,List.length_drop];omega
 rw[h1];obtain⟨x,y,hxy⟩:∃x y,(l.drop o).take 2=[x,y]:=Aa h2;rw[hxy];simp[num];omega
theorem mf {n p x:Nat} {rest:List Nat} (h:List.range n=List.range p ++ x::rest):x=p∧p<n:=by
 have hl:=congrArg List.length h;rw[List.length_range,List.length_append,List.length_cons,List.length_range] at hl
 have hp:p<n:=by omega
 have Y:(List.range n)[p]? = some p:=by rw[List.getElem?_range hp]
 rw[h,List.getElem?_append_right (by rw[List.length_range];exact Nat.le_refl _),List.length_range,Nat.sub_self] at Y;exact⟨by simpa using Y,hp⟩
theorem nJ (s:List UInt8) (k:Nat):ia s (k+1)=ia s k ++ [tH s (2+11*k)]:=by
 unfold ia;rw[List.range_succ,List.map_append];rfl
theorem nF (s:List UInt8) (k:Nat):i7 s (k+1)=i7 s k ++ [th s (2+11*bu s+7*k)]:=by
 unfold i7;rw[List.range_succ,List.map_append];rfl
theorem nS (s:List UInt8) (k:Nat):fL s (k+1)=(fL s k&&decide (ja s (2+11*k+10) 1≤1)):=by
 unfold fL;rw[List.range_succ,List.all_append];simp
theorem nY (s:List UInt8) (k:Nat):gL s (k+1)=(gL s k&&decide (ja s (2+11*bu s+7*k+2) 1≤1)):=by
 unfold gL;rw[List.range_succ,List.all_append];simp
theorem zl {l:List UInt8} {a:Nat} (h:a+11≤l.length):cA (tH l a)=[.int .i64 (g16 l a),.int .i64 (tf l (a+2)),.int .i64 (tf l (a+6)),.bool (((l.getD (a+10) 0).toNat:Int)==1)]:=by
 unfold cA tH;simp only[];rw[ly (by omega),o7 (by omega),o7 (by omega),ga (o:=a+10) (by omega)]
theorem yA {l:List UInt8} {a:Nat} (h:a+7≤l.length):da (th l a)=[.int .i64 (g16 l a),.bool (((l.getD (a+2) 0).toNat:Int)==1),.int .i64 (tf l (a+3))]:=by
 unfold da th;simp only[];rw[ly (by omega),o7 (by omega),ga (o:=a+2) (by omega)]
theorem wt {l:List UInt8} {k:Nat} (h:2+k*11+11≤l.length):(ia l (k+1)).flatMap cA=(ia l k).flatMap cA ++ [.int .i64 (g16 l (2+k*11)),.int .i64 (tf l (2+k*11+2)),.int .i64 (tf l (2+k*11+6)),.bool (((l.getD (2+k*11+10) 0).toNat:Int)==1)]:=by
 rw[nJ,List.flatMap_append,show 2+11*k=2+k*11 by omega,←zl h];simp
theorem wQ {l:List UInt8} {k:Nat} (h:2+bu l*11+k*7+7≤l.length):(i7 l (k+1)).flatMap da=(i7 l k).flatMap da ++ [.int .i64 (g16 l (2+bu l*11+k*7)),.bool (((l.getD (2+bu l*11+k*7+2) 0).toNat:Int)==1),.int .i64 (tf l (2+bu l*11+k*7+3))]:=by
 rw[nF,List.flatMap_append,show 2+11*bu l+7*k=2+bu l*11+k*7 by omega,←yA h];simp
theorem xf {l:List UInt8} {k:Nat} (h:2+k*11+11≤l.length):fL l (k+1)=(fL l k&&decide (((l.getD (2+k*11+10) 0).toNat:Int)≤1)):=by
 rw[nS,show 2+11*k+10=2+k*11+10 by omega,ga (by omega)]
theorem xU {l:List UInt8} {k:Nat} (h:2+bu l*11+k*7+7≤l.length):gL l (k+1)=(gL l k&&decide (((l.getD (2+bu l*11+k*7+2) 0).toNat:Int)≤1)):=by
 rw[nY,show 2+11*bu l+7*k+2=2+bu l*11+k*7+2 by omega,ga (by omega)]
theorem k7 (l:List UInt8) (w:World) (hl:l.length≤100000) :
 Calls Tryz.prog 18 #[.string (bs l)] w fun e w'=>∃i:Option Addr × Nat × Option Addr × Nat,e=.returned (.tuple #[cR (di l) i.1 i.2.1 i.2.2.1 i.2.2.2,.int .i64 (fQ l)]) ∧
  St [] w w' [.row (.slice i.1 (di l).ts.length i.2.1) (di l).ts.length 116 4 ((di l).ts.flatMap cA),.row (.slice i.2.2.1 (di l).ds.length i.2.2.2) (di l).ds.length 124 3 ((di l).ds.flatMap da)]:=by
 have hsz:(bs l).size=l.length:=rfl;have hb0:=(l.getD 0 0).toNat_lt;have hb1:=(l.getD 1 0).toNat_lt;refine vz (N:=113) Tryz.func18 rfl rfl rfl (fun _ h0=>?_);have S0:=St.init w;refine ab (ah ?_);refine na (.agg #[.slice none 0 0,.slice none 0 0]) h0 rfl S0 fun b2 _ _ gb2 h1 S1=>?_;refine ma h1 rfl rfl fun _ h2=>?_;refine cm ?_;refine mv h2 rfl rfl fun _ h3=>?_;refine wR h3 (wn rfl) ⟨rfl,rfl⟩ rfl Tryz.underlying9 Tryz.underlying126 Tryz.underlying5 (h3.ev rfl) S1 fun b12 cb12 _ X4 gb12 zb12 h4 S4=>?_;refine ma h4 rfl rfl fun _ h5=>?_;replace S4:St [] w X4 [.byt b12 l,.box b2 #[.slice none 0 0,.slice none 0 0] 25]:=S4;refine ae (aa (ab (ab ?_)));apply bA h5 [false,false,false,false,false,false,false,false,false,false,false,false,false,false,false,false,false,false,false] _ (by kernel_rfl)
 case h=>
  refine qv h5 (fun X hX=>ak (h5.ev rfl)) fun _ h6=>?_;refine qv h6 (fun X hX=>bf Tryz.underlying126 (h6.ev rfl)) fun _ h7=>?_;refine qv h7 (fun X hX=>bq (h7.ev rfl) (h7.ev rfl)) fun _ h8=>?_;refine qv h8 (fun X hX=>ak (h8.ev rfl)) fun _ h9=>?_;apply lD h9 16 rfl 15 31
  case ht=>
   intro gc16;refine qo h9 rfl rfl rfl gc16 rfl rfl fun _ h10=>?_;refine qo h10 rfl rfl rfl gc16 rfl rfl fun _ h11=>?_;refine qo h11 rfl rfl rfl gc16 rfl rfl fun _ h12=>?_;refine qo h12 rfl rfl rfl gc16 rfl rfl fun _ h13=>?_;refine qo h13 rfl rfl rfl gc16 rfl rfl fun _ h14=>?_;refine qo h14 rfl rfl rfl gc16 rfl rfl fun _ h15=>?_;refine qo h15 rfl rfl rfl gc16 rfl rfl fun _ h16=>?_;refine qo h16 rfl rfl rfl gc16 rfl rfl fun _ h17=>?_;refine qo h17 rfl rfl rfl gc16 rfl rfl fun _ h18=>?_;refine qo h18 rfl rfl rfl gc16 rfl rfl fun _ h19=>?_;refine qo h19 rfl rfl rfl gc16 rfl rfl fun _ h20=>?_;refine qo h20 rfl rfl rfl gc16 rfl rfl fun _ h21=>?_;refine qo h21 rfl rfl rfl gc16 rfl rfl fun _ h22=>?_;refine qo h22 rfl rfl rfl gc16 rfl rfl fun _ h23=>?_;refine qo h23 rfl rfl rfl gc16 rfl rfl fun _ h24=>?_;exact aI ⟨_,h24.mid (m:=[(_,_),(_,_),(_,_),(_,_),(_,_),(_,_),(_,_),(_,_),(_,_),(_,_),(_,_),(_,_),(_,_),(_,_)]) rfl⟩
  case hf=>
   intro gc16
   have h2:2≤l.length:=by have:=of_decide_eq_false gc16;omega
   refine ax h9 (ag h9 _ rfl rfl rfl gc16) rfl rfl (fun X hX=>(ak (h9.ev rfl))) fun _ h25=>?_;refine ax h25 (ag h25 _ rfl rfl rfl gc16) rfl rfl (fun X hX=>(bf Tryz.underlying126 (h25.ev rfl))) fun _ h26=>?_;refine ax h26 (ag h26 _ rfl rfl rfl gc16) rfl rfl (fun X hX=>(ak (h26.ev rfl))) fun _ h27=>?_;refine ax h27 (ag h27 _ rfl rfl rfl gc16) rfl rfl (fun X hX=>(aC (i:=0) (sz:=1) Tryz.underlying126 (by kernel_rfl) (h27.ev rfl) (h27.ev rfl) (by omega) (by omega) rfl)) fun _ h28=>?_;refine ax (v:=bK (l.getD 0 0)) h28 (ag h28 _ rfl rfl rfl gc16) rfl rfl (fun X hX=>(aw (by kernel_rfl) (h28.ev rfl) ((jC (i:=0) (o:=0) ((S4.grow hX).at_ (i:=0) rfl) (by omega)) 0 _ rfl))) fun _ h29=>?_;refine ax h29 (ag h29 _ rfl rfl rfl gc16) rfl rfl (fun X hX=>(cn (by kernel_rfl) Tryz.underlying3 (h29.ev rfl) (eb (by omega)))) fun _ h30=>?_;refine ax h30 (ag h30 _ rfl rfl rfl gc16) rfl rfl (fun X hX=>(iL (h30.ev rfl) (h30.ev rfl) (by omega))) fun _ h31=>?_;refine ax h31 (ag h31 _ rfl rfl rfl gc16) rfl rfl (fun X hX=>(aV (h31.ev rfl) (h31.ev rfl) (by omega))) fun _ h32=>?_;refine ax h32 (ag h32 _ rfl rfl rfl gc16) rfl rfl (fun X hX=>(ak (h32.ev rfl))) fun _ h33=>?_;refine ax h33 (ag h33 _ rfl rfl rfl gc16) rfl rfl (fun X hX=>(aC (i:=1) (sz:=1) Tryz.underlying126 (by kernel_rfl) (h33.ev rfl) (h33.ev rfl) (by omega) (by omega) rfl)) fun _ h34=>?_;refine ax (v:=bK (l.getD 1 0)) h34 (ag h34 _ rfl rfl rfl gc16) rfl rfl (fun X hX=>(aw (by kernel_rfl) (h34.ev rfl) ((jC (i:=1) (o:=0) ((S4.grow hX).at_ (i:=0) rfl) (by omega)) 0 _ rfl))) fun _ h35=>?_;refine ax h35 (ag h35 _ rfl rfl rfl gc16) rfl rfl (fun X hX=>(cn (by kernel_rfl) Tryz.underlying3 (h35.ev rfl) (eb (by omega)))) fun _ h36=>?_;refine ax h36 (ag h36 _ rfl rfl rfl gc16) rfl rfl (fun X hX=>(iL (h36.ev rfl) (h36.ev rfl) (by omega))) fun _ h37=>?_
   refine ax h37 (ag h37 _ rfl rfl rfl gc16) rfl rfl (fun X hX=>(aV (h37.ev rfl) (h37.ev rfl) (by omega))) fun _ h38=>?_;refine ax h38 (ag h38 _ rfl rfl rfl gc16) rfl rfl (fun X hX=>(a8 (h38.ev rfl) (h38.ev rfl))) fun _ h39=>?_;exact aI (h39.mid (m:=[(_,_),(_,_),(_,_),(_,_),(_,_),(_,_),(_,_),(_,_),(_,_),(_,_),(_,_),(_,_),(_,_),(_,_)]) rfl)
  case h=>
   intro v40 _ hg31 h40;refine aI ?_;refine bF fun _ hX41 hΦ41=>?_;have S41:=S4.grow hX41;refine sv h40 (ij (h40.ev rfl) (h40.ev rfl) (h40.ev rfl) hg31) fun _ h42=>?_;refine ae (aa ?_);refine aB (h42.ev rfl) (fun hc0=>?_) (fun hc0=>?_)
   ·
    have hE:fQ l=10:=by
     unfold fQ
     split
     · rfl
     · rename_i h2
       rw[if_pos];intro h3;rw[Bool.or_eq_true,decide_eq_true_eq,bne_iff_ne] at hc0
       have e1:bu l=(l.getD 0 0).toNat:=by unfold bu;rw[ga (by omega)];rfl
       have e2:dN l=(l.getD 1 0).toNat:=by unfold dN;rw[ga (by omega)];rfl
       rw[e1,e2] at h3;omega
    have hR:di l=gB:=by unfold di;rw[if_neg (by rw[hE];decide)]
    refine ab (ah ?_);refine sv h42 (br (zs:=[.slice none 0 0,.slice none 0 0]) (pl:=[(0,1),(1,1)]) (by kernel_rfl) (by kernel_rfl) (h42.evs2 rfl) rfl rfl) fun _ h43=>?_;refine aG h43 (wn rfl) ⟨rfl,rfl⟩ (h43.ev rfl) (h43.ev rfl) rfl (by kernel_rfl) S41 (i:=1) rfl rfl rfl fun _ S44=>?_;refine ma h43 rfl rfl fun _ h45=>?_;refine ae (aa (wp_ret (ai ?_)));refine si h45 ?_;refine sa h45 (fun _ h46=>?_);refine ek h46 rfl rfl rfl S44 (i:=1) rfl (by kernel_rfl) (by kernel_rfl) ?_;refine⟨(none,0,none,0),by rw[hR,hE];rfl,?_⟩;rw[hR];exact((S44.sub (List.nil_sublist _)).nilRow 124 3).nilRow 116 4
   ·
    have h2:2≤l.length:=by
     have:=(Bool.or_eq_false_iff.1 hc0).1;have:=of_decide_eq_false this;omega
    have e1:bu l=(l.getD 0 0).toNat:=by unfold bu;rw[ga (by omega)];rfl
    have e2:dN l=(l.getD 1 0).toNat:=by unfold dN;rw[ga (by omega)];rfl
    have h3:l.length=2+11*bu l+7*dN l:=by
     have:=(Bool.or_eq_false_iff.1 hc0).2;rw[bne_eq_false_iff_eq] at this;rw[e1,e2];omega
    have hNb:bu l<256:=by omega
    have hMb:dN l<256:=by omega
    refine wp_skip (aa (ab (ah ?_)));refine na (.agg #[.slice none 0 0,.slice none 0 0]) h42 rfl S41 fun b5 _ _ gb5 h47 S47=>?_;refine cm ?_;refine na (.bool false) h47 rfl S47 fun b6 _ _ gb6 h48 S48=>?_;refine aG h48 (wn rfl) ⟨rfl,rfl⟩ (h48.ev rfl) (h48.ev rfl) rfl (by kernel_rfl) S48 (i:=0) rfl rfl rfl fun _ S49=>?_;refine cm ?_;refine mv h48 rfl rfl fun _ h50=>?_;refine sv h50 (aC (i:=0) (sz:=1) Tryz.underlying126 (by kernel_rfl) (h50.ev rfl) (h50.ev rfl) (by omega) (by omega) rfl) fun _ h51=>?_;refine sv (v:=bK (l.getD 0 0)) h51 (aw (by kernel_rfl) (h51.ev rfl) ((jC (i:=0) (o:=0) (S49.at_ (i:=2) rfl) (by omega)) 0 _ rfl)) fun _ h52=>?_;refine sv h52 (cn (by kernel_rfl) Tryz.underlying3 (h52.ev rfl) (eb (by omega))) fun _ h53=>?_;refine sv h53 (iL (h53.ev rfl) (h53.ev rfl) (by omega)) fun _ h54=>?_;refine sv h54 (bb (v':=.int .i64 ((2+bu l*11:Nat):Int)) (by rw[e1];rfl) (aV (h54.ev rfl) (h54.ev rfl) (by omega))) fun _ h55=>?_;refine ma h55 rfl rfl fun _ h56=>?_;refine ae (aa (ab (ab (ah ?_))));refine mv h56 rfl rfl fun _ h57=>?_;refine mv h57 rfl rfl fun _ h58=>?_;refine sv h58 (fy (l:=2) (h:=2+bu l*11) (sz:=1) Tryz.underlying126 (by kernel_rfl) (h58.ev rfl) (h58.ev rfl) (h58.ev rfl) (by omega) (by omega)) fun _ h59=>?_;rw[show 2+bu l*11-2=bu l*11 by omega] at h59;refine dp h59 (wn rfl) (aq (fun _ _=>by kernel_rfl) (h59.evs rfl) rfl) rfl rfl S49 (nw _ _ _ 11 (by decide) _) fun p43 _ _ h60 S60=>?_;replace S60:=St.nilRow S60 116 4;refine ae (aa (wp_block ?_));refine n5 h60 S60 127 #[.pointer (some ⟨p43.1,0,none⟩),.pointer (some ⟨p43.2,0,none⟩)] rfl (enters_of Tryz.func127 (by kernel_rfl) rfl) (qc b12 (eV 0 cb12 2 1) 11) (List.range (bu l)) (nu 5 b12 (eV 0 cb12 2 1) (bu l) 11 (cb12-2) p43.1 p43.2 (by decide) (by decide) (by omega) (by omega)) (fun pre (q:Nat × Option Addr × Nat)=>pre=List.range q.1) (fun (q:Nat × Option Addr × Nat)=>[.row (.slice q.2.1 q.1 q.2.2) q.1 116 4 ((ia l q.1).flatMap cA),.box p43.2 #[.int .i64 (11:Nat)] 3,.box p43.1 #[.slice (some ⟨b12,eV 0 cb12 2 1,none⟩) (bu l*11) (cb12-2)] 126,.box b6 #[.bool (fL l q.1)] 4,.box b5 #[.slice q.2.1 q.1 q.2.2,.slice none 0 0] 25,.byt b12 l,.box b2 #[.slice none 0 0,.slice none 0 0] 25]) rfl (fun _=>⟨trivial,trivial,trivial,trivial,trivial,trivial,trivial,trivial⟩) (fun i A S=>⟨S.at_ (i:=2) rfl,S.at_ (i:=1) rfl⟩) ((0,none,0)) (rfl) (S60) ?_ ?_
    ·
     intro lr pre x rest W _ hx h61;refine oN (by kernel_rfl) (gd nO) ?_;refine ma h61 rfl rfl fun _ h62=>?_;refine ae (aa ?_);refine⟨rfl,fun q _ hF0 S63=>?_⟩;subst hF0;obtain⟨rfl,hlt⟩:=mf hx
     have hj1:eV 0 cb12 2 1=2:=by unfold eV;rw[if_neg (by omega)]
     have hv:qc b12 (eV 0 cb12 2 1) 11 q.1=.slice (some ⟨b12,2+q.1*11,none⟩) 11 11:=by unfold qc;rw[hj1]
     rw[hv] at h62;refine wpIn_block ?_;refine wpIn_seq ?_;refine oN (by kernel_rfl) (gd (fv hZ)) ?_;refine vl h62 S63 3 rfl rfl rfl rfl fun _ h64=>?_;refine mv h64 rfl rfl fun _ h65=>?_;apply cq (x:=decide (((l.getD (2+q.1*11+10) 0).toNat:Int)≤1)) h65 S63 46 rfl 5 51
     case ht=>
      intro gc46;refine sy h65 rfl rfl rfl gc46 (ak (h65.ev rfl)) rfl rfl fun _ h66=>?_;refine sy h66 rfl rfl rfl gc46 (aC (i:=10) (sz:=1) Tryz.underlying126 (by kernel_rfl) (h66.ev rfl) (h66.ev rfl) (by omega) (by omega) rfl) rfl rfl fun _ h67=>?_;refine aU (v:=bK (l.getD (2+q.1*11+10) 0)) h67 (ag h67 _ rfl rfl rfl gc46) (aw (by kernel_rfl) (h67.ev rfl) ((jC (i:=10) (o:=2+q.1*11) (S63.at_ (i:=5) rfl) (by omega)) 0 _ rfl)) rfl rfl fun _ h68=>?_;refine sy h68 rfl rfl rfl gc46 (gq (h68.ev rfl) (h68.ev rfl)) rfl rfl fun _ h69=>?_;refine sv h69 (aA (h69.ev rfl) gc46 (h69.ev rfl)) fun _ h70=>?_;exact ae ⟨h70.mid (m:=[(_,_),(_,_),(_,_),(_,_)]) rfl,S63⟩
     case hf=>
      intro gc46;refine no h65 rfl rfl rfl gc46 rfl rfl fun _ h71=>?_;refine no h71 rfl rfl rfl gc46 rfl rfl fun _ h72=>?_;refine no h72 rfl rfl rfl gc46 rfl rfl fun _ h73=>?_;refine no h73 rfl rfl rfl gc46 rfl rfl fun _ h74=>?_;refine sv h74 (aD (h74.ev rfl) gc46 (h74.ev rfl)) fun _ h75=>?_;exact ae ⟨h75.mid (m:=[(_,_),(_,_),(_,_),(_,_)]) rfl,S63⟩
     case h=>
      rintro a76 X76 ⟨h76,S76⟩
      refine aG h76 (wn rfl) ⟨rfl,rfl⟩ (h76.ev rfl) (h76.ev rfl) rfl (by kernel_rfl) S76 (i:=3) rfl rfl rfl fun _ S77=>?_;refine ae (aa ?_);refine tI (by kernel_rfl) (by kernel_rfl) (fv hZ) ?_;apply pz h76 [false,false,false,false,false,false,false,false,false,false,false,false,false,false,false,false,false,false,true] _
      case h=>
       refine qv h76 (fun X hX=>aj (off:=0) (j:=0) (by kernel_rfl) (h76.ev rfl) rfl) fun _ h78=>?_;refine qv h78 (fun X hX=>aw (by kernel_rfl) (h78.ev rfl) ((S77.grow hX).cell (i:=4) rfl rfl)) fun _ h79=>?_;refine qv h79 (fun X hX=>ak (h79.ev rfl)) fun _ h80=>?_;refine df h80 (wn rfl) rfl rfl (fun X=>(aq (fun _ _=>by kernel_rfl) (h80.evs rfl) rfl)) (fun X hX=>ig b12 (2+q.1*11) 11 11 l _ ((S77.grow hX).at_ (i:=5) rfl) (by omega) (by omega)) fun _ h81=>?_;refine qv h81 (fun X hX=>cn (by kernel_rfl) Tryz.underlying3 (h81.ev rfl) (eb (by have:=ku l (2+q.1*11);omega))) fun _ h82=>?_;refine qv h82 (fun X hX=>ak (h82.ev rfl)) fun _ h83=>?_;refine qv h83 (fun X hX=>gH (l:=2) (h:=11) (sz:=1) Tryz.underlying126 (by kernel_rfl) (h83.ev rfl) (h83.ev rfl) rfl (by omega) (by omega) (by omega) rfl) fun _ h84=>?_;refine df h84 (wn rfl) rfl rfl (fun X=>(aq (fun _ _=>by kernel_rfl) (h84.evs rfl) rfl)) (fun X hX=>jw b12 (2+q.1*11+2*1) (11-2) (11-2) l _ ((S77.grow hX).at_ (i:=5) rfl) (by omega) (by omega) (by omega)) fun _ h85=>?_;refine qv h85 (fun X hX=>cn (by kernel_rfl) Tryz.underlying3 (h85.ev rfl) (eb (by have:=r6 l (2+q.1*11+2*1);omega))) fun _ h86=>?_;refine qv h86 (fun X hX=>ak (h86.ev rfl)) fun _ h87=>?_;refine qv h87 (fun X hX=>gH (l:=6) (h:=11) (sz:=1) Tryz.underlying126 (by kernel_rfl) (h87.ev rfl) (h87.ev rfl) rfl (by omega) (by omega) (by omega) rfl) fun _ h88=>?_;refine df h88 (wn rfl) rfl rfl (fun X=>(aq (fun _ _=>by kernel_rfl) (h88.evs rfl) rfl)) (fun X hX=>jw b12 (2+q.1*11+6*1) (11-6) (11-6) l _ ((S77.grow hX).at_ (i:=5) rfl) (by omega) (by omega) (by omega)) fun _ h89=>?_;refine qv h89 (fun X hX=>cn (by kernel_rfl) Tryz.underlying3 (h89.ev rfl) (eb (by have:=r6 l (2+q.1*11+6*1);omega))) fun _ h90=>?_
       refine qv h90 (fun X hX=>ak (h90.ev rfl)) fun _ h91=>?_;refine qv h91 (fun X hX=>aC (i:=10) (sz:=1) Tryz.underlying126 (by kernel_rfl) (h91.ev rfl) (h91.ev rfl) (by omega) (by omega) rfl) fun _ h92=>?_;refine qv (v:=bK (l.getD (2+q.1*11+10) 0)) h92 (fun X hX=>aw (by kernel_rfl) (h92.ev rfl) ((jC (i:=10) (o:=2+q.1*11) ((S77.grow hX).at_ (i:=5) rfl) (by omega)) 0 _ rfl)) fun _ h93=>?_;refine qv h93 (fun X hX=>aX (h93.ev rfl) (h93.ev rfl)) fun _ h94=>?_;refine qv h94 (fun X hX=>br (zs:=[.int .i64 0,.int .i64 0,.int .i64 0,.bool false]) (pl:=[(0,1),(1,1),(2,1),(3,1)]) (by kernel_rfl) (by kernel_rfl) (h94.evs2 rfl) rfl rfl) fun _ h95=>?_;refine aI ?_;apply iV (k:=18) (deps:=[]) (R:=NewB _ (fun b=>.slice (some ⟨b,0,none⟩) 1 1) _ _) h95 rfl rfl rfl NewB.stable (fun X hX hΦ=>kF (fD (zc:=[.int .i64 0,.int .i64 0,.int .i64 0,.bool false]) (sz:=4) rfl Tryz.underlying22 (by kernel_rfl) (by kernel_rfl) rfl rfl rfl (h95.evs2 rfl) rfl rfl rfl) hX.size);intro v70 _ h96;refine bF fun _ hX97 hΦ97=>?_;have S97:=S77.grow hX97;have qv70:=bW hΦ97 (k:=18) rfl;obtain⟨b70,rfl,gb70,qv70⟩:=qv70;have S98:=S77.add hX97 (e:=.box _ _ _) qv70 (fun b hb=>by cases hb;exact⟨gb70,Box.lt qv70⟩);refine cv (z:=.agg #[.int .i64 0,.int .i64 0,.int .i64 0,.bool false]) (sz:=4) (bytes:=32) h96 (wn rfl) ⟨rfl,rfl⟩ rfl Tryz.underlying22 (by kernel_rfl) rfl rfl (h96.ev rfl) (h96.ev rfl) S98 (i:=1) rfl (S98.boxRd (i:=0) rfl) rfl (List.all_eq_true.1 rfl) ⟨(by omega),by decide⟩ fun A71 c71 _ _ h99 S99=>?_;refine vf h99 0 0 rfl rfl rfl fun _ h100=>?_;refine cX h100 (wn rfl) ⟨rfl,rfl⟩ (h100.ev rfl) (h100.ev rfl) rfl (by kernel_rfl) S99 (i:=5) rfl rfl rfl fun _ S101=>?_;refine ae (aO ?_);exact⟨rfl,(q.1+1,A71,c71),(List.range_succ).symm,(by show St _ _ _ [.row _ _ _ _ ((ia l (q.1+1)).flatMap cA),_,_,.box b6 #[.bool (fL l (q.1+1))] _,_,_,_];rw[wt (by omega),xf (by omega)];exact(S101.sub (.cons _ (.cons_cons _ (.cons_cons _ (.cons_cons _ (.cons_cons _ (.cons_cons _ (.cons_cons _ (.cons_cons _ .slnil))))))))))⟩
      case hB=>kernel_rfl
      case hst=>rfl
    ·
     intro D0 _ X102 q hF0 h102 S102;obtain⟨n1,A1,c1⟩:=q
     obtain rfl:bu l=n1:=by have:=congrArg List.length hF0;simpa using this
     replace S102:St [] w X102 [kV D0,.row (.slice A1 (bu l) c1) (bu l) 116 4 ((ia l (bu l)).flatMap cA),.box p43.2 #[.int .i64 (11:Nat)] 3,.box p43.1 #[.slice (some ⟨b12,eV 0 cb12 2 1,none⟩) (bu l*11) (cb12-2)] 126,.box b6 #[.bool (fL l (bu l))] 4,.box b5 #[.slice A1 (bu l) c1,.slice none 0 0] 25,.byt b12 l,.box b2 #[.slice none 0 0,.slice none 0 0] 25]:=S102;refine aO (aa (ab (ab (ah ?_))));refine mv h102 rfl rfl fun _ h103=>?_;refine mv h103 rfl rfl fun _ h104=>?_;refine sv h104 (fy (l:=2+bu l*11) (h:=(bs l).size) (sz:=1) Tryz.underlying126 (by kernel_rfl) (h104.ev rfl) (h104.ev rfl) rfl (by omega) (by omega)) fun _ h105=>?_;rw[show(bs l).size-(2+bu l*11)=dN l*7 by omega] at h105;refine dp h105 (wn rfl) (aq (fun _ _=>by kernel_rfl) (h105.evs rfl) rfl) rfl rfl S102 (nw _ _ _ 7 (by decide) _) fun p76 _ _ h106 S106=>?_;replace S106:=St.nilRow S106 124 3;refine ae (aa (wp_block ?_));refine n5 h106 S106 127 #[.pointer (some ⟨p76.1,0,none⟩),.pointer (some ⟨p76.2,0,none⟩)] rfl (enters_of Tryz.func127 (by kernel_rfl) rfl) (qc b12 (eV 0 cb12 (2+bu l*11) 1) 7) (List.range (dN l)) (nu 5 b12 (eV 0 cb12 (2+bu l*11) 1) (dN l) 7 (cb12-(2+bu l*11)) p76.1 p76.2 (by decide) (by decide) (by omega) (by omega)) (fun pre (q:Nat × Option Addr × Nat)=>pre=List.range q.1) (fun (q:Nat × Option Addr × Nat)=>[.row (.slice q.2.1 q.1 q.2.2) q.1 124 3 ((i7 l q.1).flatMap da),.box p76.2 #[.int .i64 (7:Nat)] 3,.box p76.1 #[.slice (some ⟨b12,eV 0 cb12 (2+bu l*11) 1,none⟩) (dN l*7) (cb12-(2+bu l*11))] 126,kV D0,.row (.slice A1 (bu l) c1) (bu l) 116 4 ((ia l (bu l)).flatMap cA),.box p43.2 #[.int .i64 (11:Nat)] 3,.box p43.1 #[.slice (some ⟨b12,eV 0 cb12 2 1,none⟩) (bu l*11) (cb12-2)] 126,.box b6 #[.bool (fL l (bu l)&&gL l q.1)] 4,.box b5 #[.slice A1 (bu l) c1,.slice q.2.1 q.1 q.2.2] 25,.byt b12 l,.box b2 #[.slice none 0 0,.slice none 0 0] 25]) rfl (fun _=>⟨trivial,trivial,trivial,List.mem_of_getElem? (i:=3) rfl,trivial,trivial,trivial,trivial,trivial,trivial,trivial,trivial⟩) (fun i A S=>⟨S.at_ (i:=2) rfl,S.at_ (i:=1) rfl⟩) ((0,none,0)) (rfl) ((by show St [] w _ [_,_,_,_,_,_,_,.box b6 #[.bool (fL l (bu l)&&gL l 0)] _,_,_,_];rw[show gL l 0=true from rfl,Bool.and_true];exact S106)) ?_ ?_
     ·
      intro lr pre x rest W _ hx h107;refine oN (by kernel_rfl) (gd nO) ?_;refine ma h107 rfl rfl fun _ h108=>?_;refine ae (aa ?_);refine⟨rfl,fun q _ hF1 S109=>?_⟩;subst hF1;obtain⟨rfl,hlt⟩:=mf hx
      have hj2:eV 0 cb12 (2+bu l*11) 1=2+bu l*11:=by unfold eV;rw[if_neg (by omega)];omega
      have hv:qc b12 (eV 0 cb12 (2+bu l*11) 1) 7 q.1=.slice (some ⟨b12,2+bu l*11+q.1*7,none⟩) 7 7:=by unfold qc;rw[hj2]
      rw[hv] at h108;refine wpIn_block ?_;refine wpIn_seq ?_;refine oN (by kernel_rfl) (gd (fv hZ)) ?_;refine vl h108 S109 7 rfl rfl rfl rfl fun _ h110=>?_;refine mv h110 rfl rfl fun _ h111=>?_;apply cq (x:=decide (((l.getD (2+bu l*11+q.1*7+2) 0).toNat:Int)≤1)) h111 S109 79 rfl 5 84
      case ht=>
       intro gc79;refine sy h111 rfl rfl rfl gc79 (ak (h111.ev rfl)) rfl rfl fun _ h112=>?_;refine sy h112 rfl rfl rfl gc79 (aC (i:=2) (sz:=1) Tryz.underlying126 (by kernel_rfl) (h112.ev rfl) (h112.ev rfl) (by omega) (by omega) rfl) rfl rfl fun _ h113=>?_;refine aU (v:=bK (l.getD (2+bu l*11+q.1*7+2) 0)) h113 (ag h113 _ rfl rfl rfl gc79) (aw (by kernel_rfl) (h113.ev rfl) ((jC (i:=2) (o:=2+bu l*11+q.1*7) (S109.at_ (i:=9) rfl) (by omega)) 0 _ rfl)) rfl rfl fun _ h114=>?_;refine sy h114 rfl rfl rfl gc79 (gq (h114.ev rfl) (h114.ev rfl)) rfl rfl fun _ h115=>?_;refine sv h115 (aA (h115.ev rfl) gc79 (h115.ev rfl)) fun _ h116=>?_;exact ae ⟨h116.mid (m:=[(_,_),(_,_),(_,_),(_,_)]) rfl,S109⟩
      case hf=>
       intro gc79;refine no h111 rfl rfl rfl gc79 rfl rfl fun _ h117=>?_;refine no h117 rfl rfl rfl gc79 rfl rfl fun _ h118=>?_;refine no h118 rfl rfl rfl gc79 rfl rfl fun _ h119=>?_;refine no h119 rfl rfl rfl gc79 rfl rfl fun _ h120=>?_;refine sv h120 (aD (h120.ev rfl) gc79 (h120.ev rfl)) fun _ h121=>?_;exact ae ⟨h121.mid (m:=[(_,_),(_,_),(_,_),(_,_)]) rfl,S109⟩
      case h=>
       rintro a122 X122 ⟨h122,S122⟩
       refine aG h122 (wn rfl) ⟨rfl,rfl⟩ (h122.ev rfl) (h122.ev rfl) rfl (by kernel_rfl) S122 (i:=7) rfl rfl rfl fun _ S123=>?_;refine ae (aa ?_);refine tI (by kernel_rfl) (by kernel_rfl) (fv hZ) ?_;apply pz h122 [false,false,false,false,false,false,false,false,false,false,false,false,false,false,true] _
       case h=>
        refine qv h122 (fun X hX=>aj (off:=1) (j:=1) (by kernel_rfl) (h122.ev rfl) rfl) fun _ h124=>?_;refine qv h124 (fun X hX=>aw (by kernel_rfl) (h124.ev rfl) ((S123.grow hX).cell (i:=8) rfl rfl)) fun _ h125=>?_;refine qv h125 (fun X hX=>ak (h125.ev rfl)) fun _ h126=>?_;refine df h126 (wn rfl) rfl rfl (fun X=>(aq (fun _ _=>by kernel_rfl) (h126.evs rfl) rfl)) (fun X hX=>ig b12 (2+bu l*11+q.1*7) 7 7 l _ ((S123.grow hX).at_ (i:=9) rfl) (by omega) (by omega)) fun _ h127=>?_;refine qv h127 (fun X hX=>cn (by kernel_rfl) Tryz.underlying3 (h127.ev rfl) (eb (by have:=ku l (2+bu l*11+q.1*7);omega))) fun _ h128=>?_;refine qv h128 (fun X hX=>ak (h128.ev rfl)) fun _ h129=>?_;refine qv h129 (fun X hX=>aC (i:=2) (sz:=1) Tryz.underlying126 (by kernel_rfl) (h129.ev rfl) (h129.ev rfl) (by omega) (by omega) rfl) fun _ h130=>?_;refine qv (v:=bK (l.getD (2+bu l*11+q.1*7+2) 0)) h130 (fun X hX=>aw (by kernel_rfl) (h130.ev rfl) ((jC (i:=2) (o:=2+bu l*11+q.1*7) ((S123.grow hX).at_ (i:=9) rfl) (by omega)) 0 _ rfl)) fun _ h131=>?_;refine qv h131 (fun X hX=>aX (h131.ev rfl) (h131.ev rfl)) fun _ h132=>?_;refine qv h132 (fun X hX=>ak (h132.ev rfl)) fun _ h133=>?_;refine qv h133 (fun X hX=>gH (l:=3) (h:=7) (sz:=1) Tryz.underlying126 (by kernel_rfl) (h133.ev rfl) (h133.ev rfl) rfl (by omega) (by omega) (by omega) rfl) fun _ h134=>?_;refine df h134 (wn rfl) rfl rfl (fun X=>(aq (fun _ _=>by kernel_rfl) (h134.evs rfl) rfl)) (fun X hX=>jw b12 (2+bu l*11+q.1*7+3*1) (7-3) (7-3) l _ ((S123.grow hX).at_ (i:=9) rfl) (by omega) (by omega) (by omega)) fun _ h135=>?_;refine qv h135 (fun X hX=>cn (by kernel_rfl) Tryz.underlying3 (h135.ev rfl) (eb (by have:=r6 l (2+bu l*11+q.1*7+3*1);omega))) fun _ h136=>?_;refine qv h136 (fun X hX=>br (zs:=[.int .i64 0,.bool false,.int .i64 0]) (pl:=[(0,1),(1,1),(2,1)]) (by kernel_rfl) (by kernel_rfl) (h136.evs2 rfl) rfl rfl) fun _ h137=>?_
        refine aI ?_;apply iV (k:=14) (deps:=[]) (R:=NewB _ (fun b=>.slice (some ⟨b,0,none⟩) 1 1) _ _) h137 rfl rfl rfl NewB.stable (fun X hX hΦ=>kF (fD (zc:=[.int .i64 0,.bool false,.int .i64 0]) (sz:=3) rfl Tryz.underlying23 (by kernel_rfl) (by kernel_rfl) rfl rfl rfl (h137.evs2 rfl) rfl rfl rfl) hX.size);intro v99 _ h138;refine bF fun _ hX139 hΦ139=>?_;have S139:=S123.grow hX139;have qv99:=bW hΦ139 (k:=14) rfl;obtain⟨b99,rfl,gb99,qv99⟩:=qv99;have S140:=S123.add hX139 (e:=.box _ _ _) qv99 (fun b hb=>by cases hb;exact⟨gb99,Box.lt qv99⟩);refine cv (z:=.agg #[.int .i64 0,.bool false,.int .i64 0]) (sz:=3) (bytes:=24) h138 (wn rfl) ⟨rfl,rfl⟩ rfl Tryz.underlying23 (by kernel_rfl) rfl rfl (h138.ev rfl) (h138.ev rfl) S140 (i:=1) rfl (S140.boxRd (i:=0) rfl) rfl (List.all_eq_true.1 rfl) ⟨(by omega),by decide⟩ fun A100 c100 _ _ h141 S141=>?_;refine vf h141 1 1 rfl rfl rfl fun _ h142=>?_;refine cX h142 (wn rfl) ⟨rfl,rfl⟩ (h142.ev rfl) (h142.ev rfl) rfl (by kernel_rfl) S141 (i:=9) rfl rfl rfl fun _ S143=>?_
        skip
        refine ae (aO ?_);exact⟨rfl,(q.1+1,A100,c100),(List.range_succ).symm,(by show St _ _ _ [.row _ _ _ _ ((i7 l (q.1+1)).flatMap da),_,_,_,_,_,_,.box b6 #[.bool (fL l (bu l)&&gL l (q.1+1))] _,_,_,_];rw[wQ (by omega),xU (by omega),←Bool.and_assoc];exact(S143.sub (.cons _ (.cons_cons _ (.cons_cons _ (.cons_cons _ (.cons_cons _ (.cons_cons _ (.cons_cons _ (.cons_cons _ (.cons_cons _ (.cons_cons _ (.cons_cons _ (.cons_cons _ .slnil))))))))))))))⟩
       case hB=>kernel_rfl
       case hst=>rfl
     ·
      intro D1 _ X144 q hF1 h144 S144;obtain⟨n2,A2,c2⟩:=q
      obtain rfl:dN l=n2:=by have:=congrArg List.length hF1;simpa using this
      have eT:(dX l).ts.length=bu l:=by show(ia l (bu l)).length=_;unfold ia;simp
      have eD:(dX l).ds.length=dN l:=by show(i7 l (dN l)).length=_;unfold i7;simp
      replace S144:St [] w X144 [kV D1,.row (.slice A2 (dX l).ds.length c2) (dX l).ds.length 124 3 ((dX l).ds.flatMap da),.box p76.2 #[.int .i64 (7:Nat)] 3,.box p76.1 #[.slice (some ⟨b12,eV 0 cb12 (2+bu l*11) 1,none⟩) (dN l*7) (cb12-(2+bu l*11))] 126,kV D0,.row (.slice A1 (dX l).ts.length c1) (dX l).ts.length 116 4 ((dX l).ts.flatMap cA),.box p43.2 #[.int .i64 (11:Nat)] 3,.box p43.1 #[.slice (some ⟨b12,eV 0 cb12 2 1,none⟩) (bu l*11) (cb12-2)] 126,.box b6 #[.bool (fL l (bu l)&&gL l (dN l))] 4,.box b5 #[.slice A1 (dX l).ts.length c1,.slice A2 (dX l).ds.length c2] 25,.byt b12 l,.box b2 #[.slice none 0 0,.slice none 0 0] 25]:=by rw[eT,eD];exact S144
      refine aO (aa (ab (ab ?_)));apply bA h144 [false,false,false] _ (by kernel_rfl)
      case h=>
       refine qv h144 (fun X hX=>aw (by kernel_rfl) (h144.ev rfl) ((S144.grow hX).cell (i:=8) rfl rfl)) fun _ h145=>?_;refine dn h145 (wn rfl) rfl rfl (fun X=>(aq (fun _ _=>by kernel_rfl) (h145.evs rfl) rfl)) (fun X hX=>a6 _ _ _) fun _ h146=>?_;refine qv (v:=cR (dX l) A1 c1 A2 c2) h146 (fun X hX=>ay (by kernel_rfl) (by kernel_rfl) (h146.ev rfl) ((S144.grow hX).cellsAll (i:=9) rfl)) fun _ h147=>?_;refine aI ?_;refine bF fun _ hX148 hΦ148=>?_;have S148:=S144.grow hX148;refine aS h147 (wn rfl) (aq (fun _ _=>by kernel_rfl) (h147.evs rfl) rfl) rfl rfl S148 (dt (dX l) A1 c1 A2 c2 _ (S148.rdOf (i:=5) rfl) (S148.rdOf (i:=1) rfl)) fun _ _ h149 S149=>?_;refine dr h149 (wn rfl) (f:=fun b=>.slice (some ⟨b,0,none⟩) 2 2) (cj Tryz.underlying214 (by kernel_rfl) (by kernel_rfl) (h149.evs2 rfl) rfl rfl rfl (by decide) (by decide)) rfl rfl S149 fun b106 _ _ gb106 h150 S150=>?_;refine bD h150 (wn rfl) (aq (fun _ _=>by kernel_rfl) (h150.evs rfl) rfl) rfl rfl (dC (S150.at_ (i:=0) rfl)) fun _ h151=>?_;refine ma h151 rfl rfl fun _ h152=>?_;refine cm ?_;refine mv h152 rfl rfl fun _ h153=>?_;refine sv h153 (a8 (h153.ev rfl) (h153.ev rfl)) fun _ h154=>?_;refine ae (aa ?_);refine aB (h154.ev rfl) (fun hc1=>?_) (fun hc1=>?_)
       ·
        have hE:fQ l=aP [bO (fL l (bu l)&&gL l (dN l)) 3,dR (dX l)]:=by unfold fQ;rw[if_neg (by omega),if_neg (by omega)]
        have hR:di l=gB:=by unfold di;rw[if_neg (by rw[hE];simpa using hc1)]
        refine ab (ah ?_);refine sv h154 (br (zs:=[.slice none 0 0,.slice none 0 0]) (pl:=[(0,1),(1,1)]) (by kernel_rfl) (by kernel_rfl) (h154.evs2 rfl) rfl rfl) fun _ h155=>?_;refine mv h155 rfl rfl fun _ h156=>?_;refine aG h156 (wn rfl) ⟨rfl,rfl⟩ (h156.ev rfl) (h156.ev rfl) rfl (by kernel_rfl) S150 (i:=12) rfl rfl rfl fun _ S157=>?_;refine ma h156 rfl rfl fun _ h158=>?_;refine ae (aa (wp_ret (ai ?_)));refine si h158 ?_;refine lH S157 (i:=1) rfl (fun _ S159=>?_);refine lH S159 (i:=5) rfl (fun _ S160=>?_);refine sa h158 (fun _ h161=>?_);refine ek h161 rfl rfl rfl S160 (i:=12) rfl (by kernel_rfl) (by kernel_rfl) ?_;refine⟨(none,0,none,0),by rw[hR,hE];rfl,?_⟩;rw[hR];exact((S160.sub (List.nil_sublist _)).nilRow 124 3).nilRow 116 4
       ·
        have hE:fQ l=aP [bO (fL l (bu l)&&gL l (dN l)) 3,dR (dX l)]:=by unfold fQ;rw[if_neg (by omega),if_neg (by omega)]
        have hz:fQ l=0:=by rw[hE];simpa using hc1
        have hR:di l=dX l:=by unfold di;rw[if_pos hz]
        refine wp_skip (aa (ab (ah ?_)));refine sv h154 (ay (by kernel_rfl) (by kernel_rfl) (h154.ev rfl) (S150.cellsAll (i:=10) rfl)) fun _ h162=>?_;refine aG h162 (wn rfl) ⟨rfl,rfl⟩ (h162.ev rfl) (h162.ev rfl) rfl (by kernel_rfl) S150 (i:=12) rfl rfl rfl fun _ S163=>?_;refine ma h162 rfl rfl fun _ h164=>?_;refine ae (aa (wp_ret ?_));refine si h164 ?_;refine lH S163 (i:=1) rfl (fun _ S165=>?_);refine lH S165 (i:=5) rfl (fun _ S166=>?_);refine sa h164 (fun _ h167=>?_);refine ek h167 rfl rfl rfl S166 (i:=12) rfl (by kernel_rfl) (by kernel_rfl) ?_;refine⟨(A1,c1,A2,c2),by rw[hR,hz];rfl,?_⟩;rw[hR];exact St.swap (S166.sub (.cons _ (.cons _ (.cons_cons _ (.cons _ (.cons _ (.cons _ (.cons_cons _ (.cons _ (.cons _ (.cons _ (.cons _ (.cons _ (.cons _ .slnil))))))))))))))
      case hB=>kernel_rfl
      case hst=>rfl
 case hB=>kernel_rfl
 case hst=>rfl
set_option maxRecDepth 4000
open Go.RowKit Go.Sort
def iu {α:Type} (κ:α→Int) (l:List α) (n:Int):Nat:=(l.takeWhile fun x=>decide (κ x<n)).length
theorem rV {α:Type} (p:α→Bool):∀(l:List α) (i:Nat) (hi:i≤l.length),(∀k (hk:k<l.length),k<i→p l[k]=true)→(∀hk:i<l.length,p l[i]=false)→(l.takeWhile p).length=i
 | [],i,hi,_,_=>by simp at hi ⊢;omega
 | x::l,0,hi,_,h2=>by
  have:=h2 (by simp);rw[List.takeWhile_cons,if_neg (by simpa using this)];rfl
 | x::l,i+1,hi,h1,h2=>by
  have h0:=h1 0 (by simp) (by omega);rw[List.takeWhile_cons,if_pos (by simpa using h0),List.length_cons,rV p l i (by simpa using hi) (fun k hk hki=>by have:=h1 (k+1) (by simpa using hk) (by omega);simpa using this) (fun hk=>by have:=h2 (by simpa using hk);simpa using this)]
def jB {α:Type} (κ:α→Int) (l:List α) (n:Int):Bool:=(ct κ l n).isSome
theorem tD {α:Type} {κ:α→Int} {l:List α} (hs:cu κ l) {n:Int} {i:Nat} (hi:i≤l.length) (h1:∀k (hk:k<l.length),k<i→κ l[k]<n) (h2:∀hk:i<l.length,n≤κ l[i]) :
 iu κ l n=i∧ct κ l n=if h:i<l.length then (if κ l[i]=n then some l[i] else none) else none:=by
 refine⟨rV _ l i hi (fun k hk hki=>decide_eq_true (h1 k hk hki)) (fun hk=>decide_eq_false (by have:=h2 hk;omega)),?_⟩;unfold cu at hs;rw[List.pairwise_iff_getElem] at hs
 split
 · rename_i hlt
   split
   · rename_i he
     have:=fM (κ:=κ) (l:=l) (by unfold cu;rw[List.pairwise_iff_getElem];exact hs) (List.getElem_mem hlt);rw[he] at this;exact this
   · rename_i hne
     refine dB l n fun x hx hxn=>?_;obtain⟨k,hk,rfl⟩:=List.getElem_of_mem hx;have h4:=h2 hlt;rcases Nat.lt_trichotomy k i with h3 | h3 | h3
     · have:=h1 k hk h3;omega
     · subst h3;omega
     · have:=hs i k hlt hk h3;omega
 · rename_i hge
   refine dB l n fun x hx hxn=>?_;obtain⟨k,hk,rfl⟩:=List.getElem_of_mem hx;have:=h1 k hk (by omega);omega
theorem rq (x y:Int) (w:World):Calls Tryz.prog 195 #[.int .i64 x,.int .i64 y] w fun e w'=>e=.returned (.int .i64 (Lib.compareInt x y))∧w=w':=
 (Tryz.cmp_Compare_int x y w).mono fun e w' ⟨h1,h2⟩=>⟨h1,h2.symm⟩
theorem qS (x:Rcd) (n:Int) (w:World):Calls Tryz.prog 194 #[fS x,.int .i64 n] w fun e w'=>e=.returned (.int .i64 (Lib.compareInt x.l n))∧Below w.heap.size w w':=by
 refine aF (N:=9) Tryz.func194 rfl rfl rfl (fun _ Y=>?_);have Z:=St.init w;refine ab (ah ?_);refine nb Y rfl rfl Z fun b2 _ _ gb2 Y Z=>?_;refine ma Y rfl rfl fun _ Y=>?_;refine cm ?_;refine vf Y 0 0 rfl rfl rfl fun _ Y=>?_;refine vl Y Z 0 rfl rfl rfl rfl fun _ Y=>?_;refine mv Y rfl rfl fun _ Y=>?_;refine bD Y (wn rfl) (aq (fun _ _=>by kernel_rfl) (Y.evs rfl) rfl) rfl rfl (rq _ _ _) fun _ Y=>?_;refine ma Y rfl rfl fun _ Y=>?_;refine ae (aa (wp_ret ?_));refine bm Y rfl rfl ?_;exact⟨rfl,Z.below⟩
theorem cmpI_neg {x y:Int}:Lib.compareInt x y<0↔x<y:=by unfold Lib.compareInt;split<;>(try split)<;>omega
theorem cmpI_zero {x y:Int}:Lib.compareInt x y=0↔x=y:=by unfold Lib.compareInt;split<;>(try split)<;>omega
theorem yU {α:Type} (x n:Int) (y:α):(Lib.compareInt x n==0)=(if x=n then some y else none).isSome:=by
 by_cases he:x=n
 · rw[if_pos he,cmpI_zero.2 he];rfl
 · rw[if_neg he,beq_eq_false_iff_ne.2 (mt cmpI_zero.1 he)];rfl
theorem zD (l:List Rcd) (hs:cu Rcd.l l) (A:Option Addr) (c:Nat) (n:Int) (w:World) (hr:Rd w w.heap.size A (l.flatMap cg)) (hlen:l.length≤1000) :
 Calls Tryz.prog 193 #[.slice A l.length c,.int .i64 n,.func (.func 194) #[] #[]] w fun e w'=>e=.returned (.tuple #[.int .i64 (iu Rcd.l l n),.bool (jB Rcd.l l n)])∧Below w.heap.size w w':=by
 have hp:=List.pairwise_iff_getElem.1 hs;refine aF (N:=49) Tryz.func193 rfl rfl rfl (fun _ h0=>?_);have S0:=St.init w;refine ab (ah ?_);refine ma h0 rfl rfl fun _ h1=>?_;refine ma h1 rfl rfl fun _ h2=>?_;refine cm ?_;refine mv h2 rfl rfl fun _ h3=>?_;refine sv h3 (bf Tryz.underlying180 (h3.ev rfl)) fun _ h4=>?_;refine ma h4 rfl rfl fun _ h5=>?_;refine cm ?_;refine mv h5 rfl rfl fun _ h6=>?_;refine ma h6 rfl rfl fun _ h7=>?_;refine ma h7 rfl rfl fun _ h8=>?_;refine ae (aa (ab (wp_block ?_)));refine bz h8 S0 [8,7,6,0,1,2] (fun (q:Nat × Nat)=>[(9,.int .i64 (q.1:Nat)),(10,.int .i64 (q.2:Nat))]) (fun (q:Nat × Nat)=>q.1≤q.2∧q.2≤l.length∧(∀k (hk:k<l.length),k<q.1→l[k].l<n)∧(∀k (hk:k<l.length),q.2≤k→n≤l[k].l)) (fun (q:Nat × Nat) L=>L) (fun (q:Nat × Nat)=>q.2-q.1) ((0,l.length)) (⟨Nat.zero_le _,Nat.le_refl _,fun k _ h=>absurd h (Nat.not_lt_zero _),fun k hk h=>by omega⟩) ⟨rfl,rfl,rfl,rfl,rfl,rfl,rfl,rfl,trivial⟩ (S0) ?_;intro q _ _ hF0 h9 S9;refine ab (ab (ah ?_));refine mv h9 rfl rfl fun _ h10=>?_;refine mv h10 rfl rfl fun _ h11=>?_;refine sv h11 (bq (h11.ev rfl) (h11.ev rfl)) fun _ h12=>?_;refine ae (aa ?_);refine aB (h12.ev rfl) (fun hc0=>?_) (fun hc0=>?_)
 ·
  have hlt:q.1<q.2:=by have:=of_decide_eq_true hc0;omega
  have hq2:=hF0.2.1;obtain⟨b,o,rfl,hB,_⟩:=hr.opened (aR aJ (by decide) (by omega))
  have hm:(q.1+q.2) / 2<l.length:=by omega
  refine wp_skip (aa (wp_block (ab (ah ?_))));refine mv h12 rfl rfl fun _ h13=>?_;refine mv h13 rfl rfl fun _ h14=>?_;refine sv h14 (aV (h14.ev rfl) (h14.ev rfl) (by omega)) fun _ h15=>?_;refine sv h15 (cn (by kernel_rfl) Tryz.underlying215 (h15.ev rfl) (wrap_u64 (by omega))) fun _ h16=>?_;refine sv h16 (mn (n:=1) (h16.ev rfl) (h16.ev rfl) rfl (by omega)) fun _ h17=>?_;refine sv h17 (bb (v':=.int .i64 (((q.1+q.2) / 2:Nat):Int)) (congrArg _ (by omega)) (cn (by kernel_rfl) Tryz.underlying3 (h17.ev rfl) (eb (by omega)))) fun _ h18=>?_;refine ma h18 rfl rfl fun _ h19=>?_;refine cm ?_;refine mv h19 rfl rfl fun _ h20=>?_;refine mv h20 rfl rfl fun _ h21=>?_;refine mv h21 rfl rfl fun _ h22=>?_;refine sv h22 (aC (i:=(q.1+q.2) / 2) (sz:=14) Tryz.underlying180 (by kernel_rfl) (h22.ev rfl) (h22.ev rfl) (by omega) (by omega) rfl) fun _ h23=>?_;refine sv (v:=fS l[(q.1+q.2) / 2]) h23 (ay (by kernel_rfl) (by kernel_rfl) (h23.ev rfl) (a7 aJ (S9.rd0 hr) hm)) fun _ h24=>?_;refine mv h24 rfl rfl fun _ h25=>?_;refine aS h25 (wn rfl) (dx (fun _ _=>by kernel_rfl) (h25.ev rfl) (h25.evs rfl) rfl) rfl rfl S9 (qS _ _ _) fun _ _ h26 S26=>?_;refine sv h26 (bq (h26.ev rfl) (h26.ev rfl)) fun _ h27=>?_;refine ae (aa ?_);refine aB (h27.ev rfl) (fun hc1=>?_) (fun hc1=>?_)
  ·
   have hx:l[(q.1+q.2) / 2].l<n:=cmpI_neg.1 (of_decide_eq_true hc1)
   have hlo:∀k (hk:k<l.length),k≤(q.1+q.2) / 2→l[k].l<n:=fun k hk hki=>by
    rcases Nat.lt_or_eq_of_le hki with h | h
    · have:=hp k _ hk hm h;omega
    · subst h;exact hx
   refine ah ?_;refine mv h27 rfl rfl fun _ h28=>?_;refine sv h28 (aV (h28.ev rfl) (h28.ev rfl) (by omega)) fun _ h29=>?_;refine ma h29 rfl rfl fun _ h30=>?_;refine ae (aO (aa ?_));exact⟨((q.1+q.2) / 2+1,q.2),(by show q.2-((q.1+q.2) / 2+1)<q.2-q.1;omega),⟨by show(q.1+q.2) / 2+1≤q.2;omega,hF0.2.1,fun k hk hki=>hlo k hk (by have:k<(q.1+q.2) / 2+1:=hki;omega),hF0.2.2.2⟩,h30.re ⟨rfl,rfl,rfl,rfl,rfl,rfl,rfl,rfl,trivial⟩,S26⟩
  ·
   have hx:n≤l[(q.1+q.2) / 2].l:=by
    have:=mt cmpI_neg.2 (of_decide_eq_false hc1);omega
   have hhi:∀k (hk:k<l.length),(q.1+q.2) / 2≤k→n≤l[k].l:=fun k hk hki=>by
    rcases Nat.lt_or_eq_of_le hki with h | h
    · have:=hp _ k hm hk h;omega
    · subst h;exact hx
   refine ah ?_;refine mv h27 rfl rfl fun _ h31=>?_;refine ma h31 rfl rfl fun _ h32=>?_;refine ae (aO (aa ?_));exact⟨(q.1,(q.1+q.2) / 2),(by show(q.1+q.2) / 2-q.1<q.2-q.1;omega),⟨by show q.1≤(q.1+q.2) / 2;omega,by show(q.1+q.2) / 2≤l.length;omega,hF0.2.2.1,fun k hk hki=>hhi k hk hki⟩,h32.re ⟨rfl,rfl,rfl,rfl,rfl,rfl,rfl,rfl,trivial⟩,S26⟩
 ·
  have hge:q.1=q.2:=by have:=of_decide_eq_false hc0;have:=hF0.1;omega
  obtain⟨hb1,hb2⟩:=tD hs (n:=n) (i:=q.1) (by have:=hF0.2.1;omega) hF0.2.2.1 (fun hk=>hF0.2.2.2 q.1 hk (by omega));refine wp_exit ?_;refine av ?_;refine av ?_;refine bn ?_;refine aa (ab (ah ?_));refine mv h12 rfl rfl fun _ h33=>?_;refine mv h33 rfl rfl fun _ h34=>?_;refine mv h34 rfl rfl fun _ h35=>?_;refine sv h35 (bq (h35.ev rfl) (h35.ev rfl)) fun _ h36=>?_;refine mv h36 rfl rfl fun _ h37=>?_;apply cq (x:=jB Rcd.l l n) h37 S9 39 rfl 9 48
  case ht=>
   intro gc39
   have hlt1:q.1<l.length:=by have:=of_decide_eq_true gc39;omega
   obtain⟨b,o,rfl,hB,_⟩:=hr.opened (aR aJ (by decide) (by omega));refine sy h37 rfl rfl rfl gc39 (ak (h37.ev rfl)) rfl rfl fun _ h38=>?_;refine sy h38 rfl rfl rfl gc39 (ak (h38.ev rfl)) rfl rfl fun _ h39=>?_;refine sy h39 rfl rfl rfl gc39 (ak (h39.ev rfl)) rfl rfl fun _ h40=>?_;refine sy h40 rfl rfl rfl gc39 (aC (i:=q.1) (sz:=14) Tryz.underlying180 (by kernel_rfl) (h40.ev rfl) (h40.ev rfl) (by omega) (by omega) rfl) rfl rfl fun _ h41=>?_;refine aU (v:=fS l[q.1]) h41 (ag h41 _ rfl rfl rfl gc39) (ay (by kernel_rfl) (by kernel_rfl) (h41.ev rfl) (a7 aJ (S9.rd0 hr) hlt1)) rfl rfl fun _ h42=>?_;refine sy h42 rfl rfl rfl gc39 (ak (h42.ev rfl)) rfl rfl fun _ h43=>?_;refine aS h43 (ag h43 _ rfl rfl rfl gc39) (dx (fun _ _=>by kernel_rfl) (h43.ev rfl) (h43.evs rfl) rfl) rfl rfl S9 (qS _ _ _) fun _ _ h44 S44=>?_;refine sy h44 rfl rfl rfl gc39 (bb (v':=.bool (jB Rcd.l l n)) (congrArg Value.bool (by unfold jB;rw[hb2,dif_pos hlt1];exact yU _ _ _)) (aX (h44.ev rfl) (h44.ev rfl))) rfl rfl fun _ h45=>?_;refine sv h45 (aA (h45.ev rfl) gc39 (h45.ev rfl)) fun _ h46=>?_;exact ae ⟨h46.mid (m:=[(_,_),(_,_),(_,_),(_,_),(_,_),(_,_),(_,_),(_,_)]) rfl,S44⟩
  case hf=>
   intro gc39;refine no h37 rfl rfl rfl gc39 rfl rfl fun _ h47=>?_;refine no h47 rfl rfl rfl gc39 rfl rfl fun _ h48=>?_;refine no h48 rfl rfl rfl gc39 rfl rfl fun _ h49=>?_;refine no h49 rfl rfl rfl gc39 rfl rfl fun _ h50=>?_;refine no h50 rfl rfl rfl gc39 rfl rfl fun _ h51=>?_;refine no h51 rfl rfl rfl gc39 rfl rfl fun _ h52=>?_;refine no h52 rfl rfl rfl gc39 rfl rfl fun _ h53=>?_;refine no h53 rfl rfl rfl gc39 rfl rfl fun _ h54=>?_;refine sv h54 (aD (h54.ev rfl) gc39 (h54.ev rfl)) fun _ h55=>?_;exact ae ⟨h55.mid (m:=[(_,_),(_,_),(_,_),(_,_),(_,_),(_,_),(_,_),(_,_)]) rfl,S9⟩
  case h=>
   rintro a56 X56 ⟨h56,S56⟩
   refine ma h56 rfl rfl fun _ h57=>?_;refine ma h57 rfl rfl fun _ h58=>?_;refine ae (aa (wp_ret ?_));refine eh h58 rfl rfl rfl ?_;refine⟨?_,S56.below⟩
   have e:(decide ((q.1:Int)<(l.length:Int))&&jB Rcd.l l n)=jB Rcd.l l n:=by
    unfold jB;rw[hb2];by_cases h:q.1<l.length
    · rw[decide_eq_true (by omega)];rfl
    · rw[dif_neg h];simp
   rw[e,hb1]
theorem iS {α:Type} {κ:α→Int} {l:List α} (hs:cu κ l) {n:Int} (h:jB κ l n=true):∃hk:iu κ l n<l.length,κ l[iu κ l n]=n∧ct κ l n=some l[iu κ l n]:=by
 unfold jB at h;obtain⟨x,hx⟩:=Option.isSome_iff_exists.1 h;obtain⟨hm,hn⟩:=eW hx;obtain⟨k,hk,rfl⟩:=List.getElem_of_mem hm;have hs2:=hs;unfold cu at hs2;rw[List.pairwise_iff_getElem] at hs2;have e:iu κ l n=k:=rV _ l k (by omega) (fun j hj hjk=>decide_eq_true (by have:=hs2 j k hj hk hjk;omega)) (fun _=>decide_eq_false (by omega));simp only[e];exact⟨hk,hn,hx⟩
def By (A:Option Addr) (k:Nat):Value:=match A with
 | some a=>.pointer (some ⟨a.block,a.off+k*14+1,none⟩)
 | none=>.pointer none
theorem xo (l:List Rcd) (hs:cu Rcd.l l) (A:Option Addr) (c:Nat) (n:Int) (w:World) (hr:Rd w w.heap.size A (l.flatMap cg)) (hlen:l.length≤1000) :
 Calls Tryz.prog 129 #[.slice A l.length c,.int .i64 n] w fun e w'=>e=.returned (if jB Rcd.l l n=true then By A (iu Rcd.l l n) else .pointer none)∧Below w.heap.size w w':=by
 refine aF (N:=19) Tryz.func129 rfl rfl rfl (fun _ Y=>?_);have Z:=St.init w;refine ab (ah ?_);refine ma Y rfl rfl fun _ Y=>?_;refine cm ?_;refine mv Y rfl rfl fun _ Y=>?_;refine mv Y rfl rfl fun _ Y=>?_;refine aS Y (wn rfl) (aq (fun _ _=>by kernel_rfl) (Y.evs rfl) rfl) rfl rfl Z (zD l hs A c n _ (Z.rd0 hr) hlen) fun _ _ Y Z=>?_;refine mv Y rfl rfl fun _ Y=>?_;refine vx Y rfl rfl rfl fun _ Y=>?_;refine vx Y rfl rfl rfl fun _ Y=>?_;refine ma Y rfl rfl fun _ Y=>?_;refine ma Y rfl rfl fun _ Y=>?_;refine ae (aa (ab (ab (ah ?_))));refine mv Y rfl rfl fun _ Y=>?_;refine sv Y (bL (Y.ev rfl)) fun _ Y=>?_;refine ae (aa ?_);refine aB (Y.ev rfl) (fun hc0=>?_) (fun hc0=>?_)
 ·
  have hb:jB Rcd.l l n=false:=by simpa using hc0
  refine ab (ah ?_);refine ma Y rfl rfl fun _ Y=>?_;refine ae (aa (wp_ret (ai ?_)));refine bm Y rfl rfl ?_;exact⟨by rw[hb];rfl,Z.below⟩
 ·
  have hb:jB Rcd.l l n=true:=by simpa using hc0
  obtain⟨hk,_,_⟩:=iS hs hb;obtain⟨b,o,rfl,hB,_⟩:=hr.opened (aR aJ (by decide) (by omega));refine wp_skip (aa (ab (ah ?_)));refine mv Y rfl rfl fun _ Y=>?_;refine mv Y rfl rfl fun _ Y=>?_;refine sv Y (aC (i:=iu Rcd.l l n) (sz:=14) Tryz.underlying180 (by kernel_rfl) (Y.ev rfl) (Y.ev rfl) (by omega) (by omega) rfl) fun _ Y=>?_;refine sv Y (aj (off:=1) (by kernel_rfl) (Y.ev rfl) rfl) fun _ Y=>?_;refine ma Y rfl rfl fun _ Y=>?_;refine ae (aa (wp_ret ?_));refine bm Y rfl rfl ?_;exact⟨by rw[hb];rfl,Z.below⟩
def km (A:Option Addr) (l:List Rcd) (n:Int):Option Addr:=if jB Rcd.l l n=true then A.map (fun a=>⟨a.block,a.off+iu Rcd.l l n*14+1,none⟩) else none
theorem kB (l:List Rcd) (hs:cu Rcd.l l) (A:Option Addr) (c:Nat) (n:Int) (w:World) (hr:Rd w w.heap.size A (l.flatMap cg)) (hlen:l.length≤1000) :
 Calls Tryz.prog 129 #[.slice A l.length c,.int .i64 n] w fun e w'=>e=.returned (.pointer (km A l n))∧Below w.heap.size w w':=
 (xo l hs A c n w hr hlen).mono fun e w' ⟨h1,h2⟩=>⟨by rw[h1];unfold km By;split<;>cases A<;>rfl,h2⟩
theorem dJ {X:World} {B b o k:Nat} {l:List Rcd} (h:Rd X B (some ⟨b,o,none⟩) (l.flatMap cg)) (hk:k<l.length):∀(j:Nat) (u:Value),(qg l[k].e)[j]? = some u→X.cell? ⟨b,o+k*14+1+j,none⟩=some u:=fun j u hu=>by
 have:=a7 aJ h hk (1+j) u (by rw[Nat.add_comm];exact hu)
 rwa [←Nat.add_assoc] at this
theorem AU {X:World} {B b o k:Nat} {l:List Rcd} (h:Rd X B (some ⟨b,o,none⟩) (l.flatMap cg)) (hk:k<l.length):∀(j:Nat) (u:Value),[Value.int .i64 l[k].e.o.k,.int .i64 l[k].e.o.a,.int .i64 l[k].e.o.e,.int .i64 l[k].e.o.c,.string l[k].e.o.o,.string l[k].e.o.n][j]? = some u→X.cell? ⟨b,o+k*14+1+6+j,none⟩=some u:=fun j u hu=>by
 have:=dJ h hk (6+j) u (by
  rw[Nat.add_comm]
  match j,hu with
  | 0,hu=>exact hu
  | 1,hu=>exact hu
  | 2,hu=>exact hu
  | 3,hu=>exact hu
  | 4,hu=>exact hu
  | 5,hu=>exact hu
  | j+6,hu=>simp at hu)
 rwa [←Nat.add_assoc] at this
theorem nB {l:List Rcd} (hs:cu Rcd.l l) {A:Addr} {n:Int} (h:(km (some A) l n).isNone=false):∃hk:iu Rcd.l l n<l.length,l[iu Rcd.l l n].l=n∧eE l n=some l[iu Rcd.l l n]∧km (some A) l n=some ⟨A.block,A.off+iu Rcd.l l n*14+1,none⟩:=by
 unfold km at h ⊢
 split at h
 · rename_i hb
   obtain⟨hk,h1,h2⟩:=iS hs hb;exact⟨hk,h1,h2,by rw[if_pos hb];rfl⟩
 · cases h
theorem oh {l:List Rcd} {A:Addr} {n:Int} (h:(km (some A) l n).isNone=true):eE l n=none:=by
 unfold km at h
 split at h
 · cases h
 · rename_i hb
   unfold jB at hb
   rwa [Bool.not_eq_true,Option.isSome_eq_false_iff,Option.isNone_iff_eq_none] at hb
end Go.Proofs.YtcfdpfmchchkaaaGreatDoor
