/-
  Chapter 22: the iterator of slices.Chunk at rows of bytes whose length is a multiple of a part's.
  Chapter 22: the table with bytes.
  Chapter 22: records and pages looked up by halving.
-/
import Derived.Test.YtcfdpfmchchkaaaGreatDoorRcB
namespace Go.Proofs.YtcfdpfmchchkaaaGreatDoor
set_option maxRecDepth 100000
set_option maxHeartbeats 1000000
set_option linter.unusedVariables false
set_option linter.unusedSimpArgs false
open Go.RowKit Go.Sort Go.Shelf
attribute [local go_sem] Oper.semAt_some zD sQ
def sc (B o m:Nat) (j:Nat):Value:=.slice (some ⟨B,o+j*m,none⟩) m m
theorem pf (n B o k m c b1 b2:Nat) (hm:1≤m) (hm2:m≤1000) (hk:k≤1000) (hc:k*m≤c) :
 sN n Tryz.prog 127 #[.pointer (some ⟨b1,0,none⟩),.pointer (some ⟨b2,0,none⟩)] (fun j:Nat=>#[sc B o m j]) (fun W=>Box W b1 #[.slice (some ⟨B,o,none⟩) (k*m) c] 126∧Box W b2 #[.int .i64 m] 3) (List.range k):=by
 intro l J W hJK hJb hY h0;refine callsIn_of_wp Tryz.func127 rfl trivial ?_ rfl;simp only[Tryz.ntmps127,List.size_toArray,List.length_cons,List.length_nil,Nat.reduceAdd,Nat.reduceSub,Array.replicate_succ,Array.replicate_zero,List.push_toArray,List.append_toArray,List.nil_append,List.cons_append];obtain⟨Ln,hLn⟩:∃Ln,Ln=k*m:=⟨_,rfl⟩;rw[←hLn] at hc hJK
 have hLb:Ln≤1000000:=by
  have:=Nat.mul_le_mul hk hm2;omega
 gi_wp2
 gi_loopw [4] (fun ix wr=>∃j:Nat,j≤k∧ix=.int .i64 ((j*m:Nat):Int)∧J ((List.range k).take j) wr) (fun ix _=>Ln-(intOf ix).toNat)
 case atStart=>exact⟨0,by omega,by simp,h0⟩
 case round=>
  obtain⟨j,hj,rfl,hJ⟩:=hrel;clear h0;obtain⟨x1,x2⟩:=hJK _ _ hJ;have y1:wr.cell? ⟨b1,0,none⟩=some (.slice (some ⟨B,o,none⟩) Ln c):=x1.cells 0;have y2:wr.cell? ⟨b2,0,none⟩=some (.int .i64 m):=x2.cells 0;by_cases hlt:j<k
  · have hIm:j*m+m≤Ln:=by
     have:=Nat.mul_le_mul_right m (show j+1≤k from hlt);rw[hLn];rw[Nat.add_mul] at this;omega
    have hsnoc:(List.range k).take (j+1)=(List.range k).take j ++ [j]:=by
     rw[List.take_succ_eq_append_getElem (by rw[List.length_range];exact hlt),List.getElem_range]
    have hsplit:List.range k=(List.range k).take j ++ j::(List.range k).drop (j+1):=by
     have:=List.drop_eq_getElem_cons (l:=List.range k) (i:=j) (by rw[List.length_range];exact hlt);rw[List.getElem_range] at this;rw[←this,List.take_append_drop]
    have HY:=Lib.hid (fun X (hX:Below wr.heap.size wr X)=>hY _ _ _ X hsplit (hJb _ _ _ hJ hX));have HS:=Lib.hid hsnoc;have HNX:=Lib.hid (show((j*m:Nat):Int)+m=(((j+1)*m:Nat):Int) by rw[Nat.add_mul];push_cast;omega);unfold sc at HY;obtain⟨I,hI⟩:∃I,I=j*m:=⟨_,rfl⟩;rw[←hI] at HY hIm HNX ⊢;have l1:=x1.lt;have l2:=x2.lt;clear hsplit hsnoc hY x1 x2 hLn hI
    gi_wp2
    (refine kr [false,false,false,false,false,false] [] aa aa aa ?_;simp only[pick,List.length_cons,List.length_nil,List.drop_succ_cons,List.drop_zero,Nat.zero_add,Nat.reduceAdd];apply Exists.intro;refine⟨fun X hX=>?_,?_⟩;(focus (obtain⟨hcX,hfX⟩:=cL hX;have hgX:=zH hX;have hsX:=hX.size;(try simp only[World.size_alloc] at hsX);(repeat (go_big_quiet_step ((first | fail))));exact wpQuiet_nil rfl));simp only[nv,told,dB,List.contains_cons,List.contains_nil,List.mem_cons,List.not_mem_nil,forall_eq_or_imp,false_implies,implies_true,and_true,Nat.reduceBEq,BEq.rfl,beq_self_eq_true,Bool.or_false,Bool.false_or,Bool.true_or,Bool.or_true,Bool.false_eq_true,if_true,if_false,true_implies,aC,List.getElem?_toArray,List.getElem?_cons_succ,List.getElem?_cons_zero,Option.some.injEq,forall_eq',Option.bind_some,Act.put,List.setIfInBounds_toArray,List.set_cons_succ,List.set_cons_zero])
    intro X hX;have z1:X.cell? ⟨b1,0,none⟩=some (.slice (some ⟨B,o,none⟩) Ln c):=(hX.cell (p:=⟨b1,0,none⟩) l1).trans y1;have z2:X.cell? ⟨b2,0,none⟩=some (.int .i64 m):=(hX.cell (p:=⟨b2,0,none⟩) l2).trans y2;obtain⟨fn,tmps,assign,body,hy,hR'⟩:=HY.out X hX
    have hmin:min (m:Int) ((Ln-I:Nat):Int)=m:=by omega
    have hmn:((I:Int)+(m:Int)).toNat-I=m:=by omega
    go_wp2
    simp only[hmin]
    gi_wp2
    refine hR'.mono ?_
    rintro e W3 ⟨rfl,hJ3⟩
    have z3:W3.cell? ⟨b2,0,none⟩=some (.int .i64 m):=(hJK _ _ hJ3).2.cells 0
    gi_wp2
    go_roundw
    case rel=>exact⟨j+1,by omega,by rw[←HNX.out],by rw[HS.out];exact hJ3⟩
    case measure=>simp[intOf];omega
  · obtain rfl:j=k:=by omega
    rw[List.take_of_length_le (by rw[List.length_range];omega)] at hJ;rw[←hLn];clear hLn
    gi_wp2
    go_end0
    exact⟨⟨_,rfl⟩,hJ⟩
open Go.RowKit Go.Sort Go.Shelf
theorem ow (A:Option Addr) (n c m:Nat) (hm:1≤m) (w:World) :
 Calls Tryz.prog 70 #[.slice A n c,.int .i64 (m:Nat)] w fun e w'=>∃i:Nat × Nat,e=.returned (.func (.func 127) #[] #[.pointer (some ⟨i.1,0,none⟩),.pointer (some ⟨i.2,0,none⟩)])∧St [] w w' [.box i.2 #[.int .i64 (m:Nat)] 3,.box i.1 #[.slice A n c] 126]:=by
 refine al (N:=9) Tryz.func70 rfl rfl rfl (fun _ Y=>?_);have Z:=St.init w;refine ah (ao ?_);refine nb Y rfl rfl Z fun b2 _ _ Za Y Z=>?_;refine nb Y rfl rfl Z fun b3 _ _ Zb Y Z=>?_;refine GO 10 ?_;intro _ Y;refine iY (Y.ev rfl) ((by simp;omega)) ?_;refine wp_skip (ag (ah (ao ?_)));refine sv Y (eL (Y.evs rfl) (Y.evs rfl)) fun _ Y=>?_;refine GO 4 ?_;intro _ Y;refine aD Y rfl rfl ?_;exact⟨(b2,b3),rfl,Z⟩
theorem fU {l:List UInt8} {o:Nat} (h:o+1≤l.length):fe l o 1=((l.getD o 0).toNat:Int):=by
 unfold fe
 have h1:(l.drop o).take 1=[l[o]'ab]:=by rw[List.drop_eq_getElem_cons ab,List.take_succ_cons,List.take_zero]
 rw[h1,List.getD_eq_getElem?_getD,List.getElem?_eq_getElem ab];simp[num]
theorem BJ {α:Type} {l:List α} (h:l.length=2):∃x y,l=[x,y]:=by
 match l,h with
 | [x,y],_=>exact⟨x,y,rfl⟩
theorem p5 {l:List UInt8} {o:Nat} (h:o+4≤l.length):ua l o=fe l o 4:=by
 unfold ua;rw[l0 ab,l0 ab];unfold fe;have h1:(l.drop o).take 4=(l.drop o).take 2 ++ (l.drop (o+2)).take 2:=(wF l o 2 2).symm
 have h2:((l.drop o).take 2).length=2:=by rw[List.length_take,List.length_drop];omega
 rw[h1];obtain⟨x,y,hxy⟩:∃x y,(l.drop o).take 2=[x,y]:=BJ h2;rw[hxy];simp[num];omega
theorem mi {n p x:Nat} {rest:List Nat} (h:List.range n=List.range p ++ x::rest):x=p∧p<n:=by
 have hl:=congrArg List.length h;rw[List.length_range,List.length_append,List.length_cons,List.length_range] at hl
 have hp:p<n:=by omega
 have h1:(List.range n)[p]? = some p:=by rw[List.getElem?_range hp]
 rw[h,List.getElem?_append_right (by rw[List.length_range];exact Nat.le_refl _),List.length_range,Nat.sub_self] at h1;exact⟨by simpa using h1,hp⟩
theorem oy (s:List UInt8) (k:Nat):gG s (k+1)=gG s k ++ [uR s (2+11*k)]:=by
 unfold gG;rw[List.range_succ,List.map_append];rfl
theorem pw (s:List UInt8) (k:Nat):jd s (k+1)=jd s k ++ [ux s (2+11*aV s+7*k)]:=by
 unfold jd;rw[List.range_succ,List.map_append];rfl
theorem pc (s:List UInt8) (k:Nat):fB s (k+1)=(fB s k&&decide (fe s (2+11*k+10) 1≤1)):=by
 unfold fB;rw[List.range_succ,List.all_append];simp
theorem oY (s:List UInt8) (k:Nat):gk s (k+1)=(gk s k&&decide (fe s (2+11*aV s+7*k+2) 1≤1)):=by
 unfold gk;rw[List.range_succ,List.all_append];simp
theorem zF {l:List UInt8} {a:Nat} (h:a+11≤l.length):cd (uR l a)=[.int .i64 (g16 l a),.int .i64 (ua l (a+2)),.int .i64 (ua l (a+6)),.bool (((l.getD (a+10) 0).toNat:Int)==1)]:=by
 unfold cd uR;simp only[];rw[l0 ab,p5 ab,p5 ab,fU (o:=a+10) ab]
theorem AF {l:List UInt8} {a:Nat} (h:a+7≤l.length):cK (ux l a)=[.int .i64 (g16 l a),.bool (((l.getD (a+2) 0).toNat:Int)==1),.int .i64 (ua l (a+3))]:=by
 unfold cK ux;simp only[];rw[l0 ab,p5 ab,fU (o:=a+2) ab]
theorem xI {l:List UInt8} {k:Nat} (h:2+k*11+11≤l.length):(gG l (k+1)).flatMap cd=(gG l k).flatMap cd ++ [.int .i64 (g16 l (2+k*11)),.int .i64 (ua l (2+k*11+2)),.int .i64 (ua l (2+k*11+6)),.bool (((l.getD (2+k*11+10) 0).toNat:Int)==1)]:=by
 rw[oy,List.flatMap_append,show 2+11*k=2+k*11 by omega,←zF h];simp
theorem xH {l:List UInt8} {k:Nat} (h:2+aV l*11+k*7+7≤l.length):(jd l (k+1)).flatMap cK=(jd l k).flatMap cK ++ [.int .i64 (g16 l (2+aV l*11+k*7)),.bool (((l.getD (2+aV l*11+k*7+2) 0).toNat:Int)==1),.int .i64 (ua l (2+aV l*11+k*7+3))]:=by
 rw[pw,List.flatMap_append,show 2+11*aV l+7*k=2+aV l*11+k*7 by omega,←AF h];simp
theorem zz {l:List UInt8} {k:Nat} (h:2+k*11+11≤l.length):fB l (k+1)=(fB l k&&decide (((l.getD (2+k*11+10) 0).toNat:Int)≤1)):=by
 rw[pc,show 2+11*k+10=2+k*11+10 by omega,fU ab]
theorem x9 {l:List UInt8} {k:Nat} (h:2+aV l*11+k*7+7≤l.length):gk l (k+1)=(gk l k&&decide (((l.getD (2+aV l*11+k*7+2) 0).toNat:Int)≤1)):=by
 rw[oY,show 2+11*aV l+7*k+2=2+aV l*11+k*7+2 by omega,fU ab]
theorem lM (l:List UInt8) (w:World) (hl:l.length≤100000) :
 Calls Tryz.prog 18 #[.string (bs l)] w fun e w'=>∃i:Option Addr × Nat × Option Addr × Nat,e=.returned (.tuple #[cv (cM l) i.1 i.2.1 i.2.2.1 i.2.2.2,.int .i64 (fE l)]) ∧
  St [] w w' [.row (.slice i.1 (cM l).ts.length i.2.1) (cM l).ts.length 116 4 ((cM l).ts.flatMap cd),.row (.slice i.2.2.1 (cM l).ds.length i.2.2.2) (cM l).ds.length 124 3 ((cM l).ds.flatMap cK)]:=by
 have hsz:(bs l).size=l.length:=rfl;have hb0:=(l.getD 0 0).toNat_lt;have hb1:=(l.getD 1 0).toNat_lt;refine vB (N:=113) Tryz.func18 rfl rfl rfl (fun _ Y=>?_);have Z:=St.init w;refine ah (ao ?_);refine na (.agg #[.slice none 0 0,.slice none 0 0]) Y rfl Z fun b2 _ _ Qh Y Z=>?_;refine GO 5 ?_;intro _ h2;refine GO 1 ?_;intro _ Y;refine rq Y (wn rfl) ⟨rfl,rfl⟩ rfl Tryz.underlying9 Tryz.underlying126 Tryz.underlying5 (Y.ev rfl) Z fun b12 cb12 _ X4 Qd zb12 Y Z=>?_;refine GO 1 ?_;intro _ Y;replace Z:St [] w X4 [.byt b12 l,.box b2 #[.slice none 0 0,.slice none 0 0] 25]:=Z;refine ae (ag (ah (ah ?_)));apply aH Y (eZ 19) _ aa
 case h=>
  refine GO 4 ?_;intro _ Y;apply pE Y 16 rfl 15 31
  case ht=>
   intro Zb;refine GO 15 ?_;intro _ Y;exact av ⟨_,Y.midE 14⟩
  case hf=>
   intro Zb
   have h2:2≤l.length:=by have:=of_decide_eq_false Zb;omega
   refine GO 3 ?_;intro _ Y;refine qy Y (fun X hX=>(au (i:=0) (sz:=1) Tryz.underlying126 aa (Y.ev rfl) (Y.ev rfl) ab ab rfl)) fun _ Y=>?_;refine iP (v:=bb (l.getD 0 0)) Y (aj Y _ rfl rfl rfl Zb) rfl rfl (fun X hX=>(lx (Y.ev rfl) ((jQ (i:=0) (o:=0) ((Z.grow hX).at_ (i:=0) rfl) ab) 0 _ rfl))) fun _ Y=>?_;refine qy Y (fun X hX=>(bN aa Tryz.underlying3 (Y.ev rfl) (cA ab))) fun _ Y=>?_;refine qy Y (fun X hX=>(eW (Y.ev rfl) (Y.ev rfl) ab)) fun _ Y=>?_;refine GO 2 ?_;intro _ Y;refine qy Y (fun X hX=>(au (i:=1) (sz:=1) Tryz.underlying126 aa (Y.ev rfl) (Y.ev rfl) ab ab rfl)) fun _ Y=>?_;refine iP (v:=bb (l.getD 1 0)) Y (aj Y _ rfl rfl rfl Zb) rfl rfl (fun X hX=>(lx (Y.ev rfl) ((jQ (i:=1) (o:=0) ((Z.grow hX).at_ (i:=0) rfl) ab) 0 _ rfl))) fun _ Y=>?_;refine qy Y (fun X hX=>(bN aa Tryz.underlying3 (Y.ev rfl) (cA ab))) fun _ Y=>?_;refine qy Y (fun X hX=>(eW (Y.ev rfl) (Y.ev rfl) ab)) fun _ Y=>?_;refine GO 2 ?_;intro _ Y;exact av (Y.midE 14)
  case h=>
   intro v40 _ hg31 Y;refine av ?_;refine aP fun _ Zq Qe=>?_;have Z:=Z.grow Zq;refine sv Y (jw (Y.ev rfl) (Y.ev rfl) (Y.ev rfl) hg31) fun _ Zn=>?_;refine ae (ag ?_);refine ak (Zn.ev rfl) (fun Zo=>?_) (fun Zo=>?_)
   ·
    have hE:fE l=10:=by
     unfold fE
     split
     · rfl
     · rename_i h2
       rw[if_pos];intro Y;rw[Bool.or_eq_true,decide_eq_true_eq,bne_iff_ne] at Zo
       have e1:aV l=(l.getD 0 0).toNat:=by unfold aV;rw[fU ab];rfl
       have e2:dm l=(l.getD 1 0).toNat:=by unfold dm;rw[fU ab];rfl
       rw[e1,e2] at Y;omega
    have hR:cM l=gA:=by unfold cM;rw[if_neg (by rw[hE];decide)]
    refine ah (ao ?_);refine sv Zn (ay (zs:=[.slice none 0 0,.slice none 0 0]) (pl:=[(0,1),(1,1)]) aa aa (Zn.evs2 rfl) rfl rfl) fun _ Y=>?_;refine sw Y Z 1 fun _ Z=>?_;refine GO 5 ?_;intro _ Y;refine tz Y ?_;refine s6 Y (fun _ Y=>?_);refine bo Y rfl rfl rfl Z (i:=1) rfl aa aa ?_;refine⟨(none,0,none,0),by rw[hR,hE];rfl,?_⟩;rw[hR];exact((Z.sub (List.nil_sublist _)).nilRow 124 3).nilRow 116 4
   ·
    have h2:2≤l.length:=by
     have:=(Bool.or_eq_false_iff.1 Zo).1;have:=of_decide_eq_false this;omega
    have e1:aV l=(l.getD 0 0).toNat:=by unfold aV;rw[fU ab];rfl
    have e2:dm l=(l.getD 1 0).toNat:=by unfold dm;rw[fU ab];rfl
    have Y:l.length=2+11*aV l+7*dm l:=by
     have:=(Bool.or_eq_false_iff.1 Zo).2;rw[bne_eq_false_iff_eq] at this;rw[e1,e2];omega
    have hNb:aV l<256:=by omega
    have hMb:dm l<256:=by omega
    refine wp_skip (ag (ah (ao ?_)));refine na (.agg #[.slice none 0 0,.slice none 0 0]) Zn rfl Z fun b5 _ _ Qi Y Z=>?_;refine pk ?_;refine na (.bool false) Y rfl Z fun b6 _ _ Qj Y Z=>?_;refine sw Y Z 0 fun _ Z=>?_;refine GO 5 ?_;intro _ Y;refine sv Y (au (i:=0) (sz:=1) Tryz.underlying126 aa (Y.ev rfl) (Y.ev rfl) ab ab rfl) fun _ Y=>?_;refine sv (v:=bb (l.getD 0 0)) Y (lx (Y.ev rfl) ((jQ (i:=0) (o:=0) (Z.at_ (i:=2) rfl) ab) 0 _ rfl)) fun _ Y=>?_;refine sv Y (bN aa Tryz.underlying3 (Y.ev rfl) (cA ab)) fun _ Y=>?_;refine sv Y (eW (Y.ev rfl) (Y.ev rfl) ab) fun _ Y=>?_;refine sv Y (aw (v':=.int .i64 ((2+aV l*11:Nat):Int)) (by rw[e1];rfl) (bU (Y.ev rfl) (Y.ev rfl) ab)) fun _ Y=>?_;refine GO 8 ?_;intro _ Y;refine sv Y (lp (l:=2) (h:=2+aV l*11) (sz:=1) Tryz.underlying126 aa (Y.ev rfl) (Y.ev rfl) (Y.ev rfl) ab ab) fun _ Y=>?_;rw[show 2+aV l*11-2=aV l*11 by omega] at Y;refine cO Y (wn rfl) (ax a8 (Y.evs rfl) rfl) rfl rfl Z (ow _ _ _ 11 aq _) fun p43 _ _ Y Z=>?_;replace Z:=St.nilRow Z 116 4;refine ae (ag (wp_block ?_));refine om Y Z 127 #[.pointer (some ⟨p43.1,0,none⟩),.pointer (some ⟨p43.2,0,none⟩)] rfl (enters_of Tryz.func127 aa rfl) (sc b12 (fD 0 cb12 2 1) 11) (List.range (aV l)) (pf 5 b12 (fD 0 cb12 2 1) (aV l) 11 (cb12-2) p43.1 p43.2 aq aq ab ab) (fun pre (q:Nat × Option Addr × Nat)=>pre=List.range q.1) (fun (q:Nat × Option Addr × Nat)=>[.row (.slice q.2.1 q.1 q.2.2) q.1 116 4 ((gG l q.1).flatMap cd),.box p43.2 #[.int .i64 (11:Nat)] 3,.box p43.1 #[.slice (some ⟨b12,fD 0 cb12 2 1,none⟩) (aV l*11) (cb12-2)] 126,.box b6 #[.bool (fB l q.1)] 4,.box b5 #[.slice q.2.1 q.1 q.2.2,.slice none 0 0] 25,.byt b12 l,.box b2 #[.slice none 0 0,.slice none 0 0] 25]) rfl (fun _=>⟨trivial,trivial,trivial,trivial,trivial,trivial,trivial,trivial⟩) (fun i A S=>⟨S.at_ (i:=2) rfl,S.at_ (i:=1) rfl⟩) ((0,none,0)) (rfl) (Z) ?_ ?_
    ·
     intro lr pre x rest W _ hx Y;refine qd aa (fS oS) ?_;refine GO 3 ?_;intro _ Y;refine⟨rfl,fun q _ Zr Zp=>?_⟩;subst Zr;obtain⟨rfl,hlt⟩:=mi hx
     have hj1:fD 0 cb12 2 1=2:=by unfold fD;rw[if_neg ab]
     have hv:sc b12 (fD 0 cb12 2 1) 11 q.1=.slice (some ⟨b12,2+q.1*11,none⟩) 11 11:=by unfold sc;rw[hj1]
     rw[hv] at Y;refine wpIn_block ?_;refine wpIn_seq ?_;refine qd aa (fS (fg gS)) ?_;refine GO 2 ?_;intro _ Y;apply aZ (x:=decide (((l.getD (2+q.1*11+10) 0).toNat:Int)≤1)) Y Zp 46 rfl 5 51
     case ht=>
      intro Zh;refine GO 1 ?_;intro _ Y;refine sy Y (au (i:=10) (sz:=1) Tryz.underlying126 aa (Y.ev rfl) (Y.ev rfl) ab ab rfl) fun _ Y=>?_;refine aI (v:=bb (l.getD (2+q.1*11+10) 0)) Y (aj Y _ rfl rfl rfl Zh) (lx (Y.ev rfl) ((jQ (i:=10) (o:=2+q.1*11) (Zp.at_ (i:=5) rfl) ab) 0 _ rfl)) rfl rfl fun _ Y=>?_;refine GO 2 ?_;intro _ Y;exact ae ⟨Y.midE 4,Zp⟩
     case hf=>
      intro Zh;refine GO 5 ?_;intro _ Y;exact ae ⟨Y.midE 4,Zp⟩
     case h=>
      rintro a76 Qk ⟨Qa,Qf⟩
      refine sw Qa Qf 3 fun _ Zg=>?_;refine ae (ag ?_);refine uT aa aa (fg gS) ?_;apply p4 Qa [false,false,false,false,false,false,false,false,false,false,false,false,false,false,false,false,false,false,true] _
      case h=>
       refine GO 3 ?_;intro _ Y;refine lT Y rfl (fun X hX=>gI b12 (2+q.1*11) 11 11 l _ ((Zg.grow hX).at_ (i:=5) rfl) ab ab) fun _ Y=>?_;refine qv Y (fun X hX=>bN aa Tryz.underlying3 (Y.ev rfl) (cA (by have:=ky l (2+q.1*11);omega))) fun _ Y=>?_;refine GO 1 ?_;intro _ Y;refine qv Y (fun X hX=>gx (l:=2) (h:=11) (sz:=1) Tryz.underlying126 aa (Y.ev rfl) (Y.ev rfl) rfl ab ab ab rfl) fun _ Y=>?_;refine lT Y rfl (fun X hX=>jy b12 (2+q.1*11+2*1) (11-2) (11-2) l _ ((Zg.grow hX).at_ (i:=5) rfl) ab ab ab) fun _ Y=>?_;refine qv Y (fun X hX=>bN aa Tryz.underlying3 (Y.ev rfl) (cA (by have:=tL l (2+q.1*11+2*1);omega))) fun _ Y=>?_;refine GO 1 ?_;intro _ Y;refine qv Y (fun X hX=>gx (l:=6) (h:=11) (sz:=1) Tryz.underlying126 aa (Y.ev rfl) (Y.ev rfl) rfl ab ab ab rfl) fun _ Y=>?_;refine lT Y rfl (fun X hX=>jy b12 (2+q.1*11+6*1) (11-6) (11-6) l _ ((Zg.grow hX).at_ (i:=5) rfl) ab ab ab) fun _ Y=>?_;refine qv Y (fun X hX=>bN aa Tryz.underlying3 (Y.ev rfl) (cA (by have:=tL l (2+q.1*11+6*1);omega))) fun _ Y=>?_;refine GO 1 ?_;intro _ Y;refine qv Y (fun X hX=>au (i:=10) (sz:=1) Tryz.underlying126 aa (Y.ev rfl) (Y.ev rfl) ab ab rfl) fun _ Y=>?_;refine qv (v:=bb (l.getD (2+q.1*11+10) 0)) Y (fun X hX=>lx (Y.ev rfl) ((jQ (i:=10) (o:=2+q.1*11) ((Zg.grow hX).at_ (i:=5) rfl) ab) 0 _ rfl)) fun _ Y=>?_;refine GO 1 ?_;intro _ Y;refine qv Y (fun X hX=>ay (zs:=[.int .i64 0,.int .i64 0,.int .i64 0,.bool false]) (pl:=[(0,1),(1,1),(2,1),(3,1)]) aa aa (Y.evs2 rfl) rfl rfl) fun _ Y=>?_;refine av ?_;apply gP (k:=18) (deps:=[]) (R:=NewB _ (fun b=>.slice (some ⟨b,0,none⟩) 1 1) _ _) Y rfl rfl rfl NewB.stable (fun X hX hΦ=>jz (eC (zc:=[.int .i64 0,.int .i64 0,.int .i64 0,.bool false]) (sz:=4) rfl Tryz.underlying22 aa aa rfl rfl rfl (Y.evs2 rfl) rfl rfl rfl) hX.size)
       intro v70 _ Y;refine aP fun _ Zi Zs=>?_;have Z:=Zg.grow Zi;have Zc:=ba Zs (k:=18) rfl;obtain⟨b70,rfl,Zt,Zc⟩:=Zc;have Z:=Zg.add Zi (e:=.box _ _ _) Zc (fun b hb=>by cases hb;exact⟨Zt,Box.lt Zc⟩);refine bG (z:=.agg #[.int .i64 0,.int .i64 0,.int .i64 0,.bool false]) (sz:=4) (bytes:=32) Y (wn rfl) ⟨rfl,rfl⟩ rfl Tryz.underlying22 aa rfl rfl (Y.ev rfl) (Y.ev rfl) Z (i:=1) rfl (Z.boxRd (i:=0) rfl) rfl (List.all_eq_true.1 rfl) ⟨ab,by decide⟩ fun A71 c71 _ _ Y Z=>?_;refine GO 1 ?_;intro _ Y;refine aN Y (wn rfl) ⟨rfl,rfl⟩ (Y.ev rfl) (Y.ev rfl) rfl aa Z (i:=5) rfl rfl rfl fun _ Z=>?_;refine ae (dL ?_);exact⟨rfl,(q.1+1,A71,c71),(List.range_succ).symm,(by show St _ _ _ [.row _ _ _ _ ((gG l (q.1+1)).flatMap cd),_,_,.box b6 #[.bool (fB l (q.1+1))] _,_,_,_];rw[xI ab,zz ab];exact(Z.sub (.cons _ (.cons_cons _ (.cons_cons _ (.cons_cons _ (.cons_cons _ (.cons_cons _ (.cons_cons _ (.cons_cons _ .slnil))))))))))⟩
      case hB=>kernel_rfl
      case hst=>rfl
    ·
     intro D0 _ Zu q Zr Y Z;obtain⟨n1,A1,c1⟩:=q
     obtain rfl:aV l=n1:=by have:=congrArg List.length Zr;simpa using this
     replace Z:St [] w Zu [lD D0,.row (.slice A1 (aV l) c1) (aV l) 116 4 ((gG l (aV l)).flatMap cd),.box p43.2 #[.int .i64 (11:Nat)] 3,.box p43.1 #[.slice (some ⟨b12,fD 0 cb12 2 1,none⟩) (aV l*11) (cb12-2)] 126,.box b6 #[.bool (fB l (aV l))] 4,.box b5 #[.slice A1 (aV l) c1,.slice none 0 0] 25,.byt b12 l,.box b2 #[.slice none 0 0,.slice none 0 0] 25]:=Z;refine GO 7 ?_;intro _ Y;refine sv Y (lp (l:=2+aV l*11) (h:=(bs l).size) (sz:=1) Tryz.underlying126 aa (Y.ev rfl) (Y.ev rfl) rfl ab ab) fun _ Y=>?_;rw[show(bs l).size-(2+aV l*11)=dm l*7 by omega] at Y;refine cO Y (wn rfl) (ax a8 (Y.evs rfl) rfl) rfl rfl Z (ow _ _ _ 7 aq _) fun p76 _ _ Y Z=>?_;replace Z:=St.nilRow Z 124 3;refine ae (ag (wp_block ?_));refine om Y Z 127 #[.pointer (some ⟨p76.1,0,none⟩),.pointer (some ⟨p76.2,0,none⟩)] rfl (enters_of Tryz.func127 aa rfl) (sc b12 (fD 0 cb12 (2+aV l*11) 1) 7) (List.range (dm l)) (pf 5 b12 (fD 0 cb12 (2+aV l*11) 1) (dm l) 7 (cb12-(2+aV l*11)) p76.1 p76.2 aq aq ab ab) (fun pre (q:Nat × Option Addr × Nat)=>pre=List.range q.1) (fun (q:Nat × Option Addr × Nat)=>[.row (.slice q.2.1 q.1 q.2.2) q.1 124 3 ((jd l q.1).flatMap cK),.box p76.2 #[.int .i64 (7:Nat)] 3,.box p76.1 #[.slice (some ⟨b12,fD 0 cb12 (2+aV l*11) 1,none⟩) (dm l*7) (cb12-(2+aV l*11))] 126,lD D0,.row (.slice A1 (aV l) c1) (aV l) 116 4 ((gG l (aV l)).flatMap cd),.box p43.2 #[.int .i64 (11:Nat)] 3,.box p43.1 #[.slice (some ⟨b12,fD 0 cb12 2 1,none⟩) (aV l*11) (cb12-2)] 126,.box b6 #[.bool (fB l (aV l)&&gk l q.1)] 4,.box b5 #[.slice A1 (aV l) c1,.slice q.2.1 q.1 q.2.2] 25,.byt b12 l,.box b2 #[.slice none 0 0,.slice none 0 0] 25]) rfl (fun _=>⟨trivial,trivial,trivial,List.mem_of_getElem? (i:=3) rfl,trivial,trivial,trivial,trivial,trivial,trivial,trivial,trivial⟩) (fun i A S=>⟨S.at_ (i:=2) rfl,S.at_ (i:=1) rfl⟩) ((0,none,0)) (rfl) ((by show St [] w _ [_,_,_,_,_,_,_,.box b6 #[.bool (fB l (aV l)&&gk l 0)] _,_,_,_];rw[show gk l 0=true from rfl,Bool.and_true];exact Z)) ?_ ?_
     ·
      intro lr pre x rest W _ hx Y;refine qd aa (fS oS) ?_;refine GO 3 ?_;intro _ Y;refine⟨rfl,fun q _ Zv Zd=>?_⟩;subst Zv;obtain⟨rfl,hlt⟩:=mi hx
      have hj2:fD 0 cb12 (2+aV l*11) 1=2+aV l*11:=by unfold fD;rw[if_neg ab];omega
      have hv:sc b12 (fD 0 cb12 (2+aV l*11) 1) 7 q.1=.slice (some ⟨b12,2+aV l*11+q.1*7,none⟩) 7 7:=by unfold sc;rw[hj2]
      rw[hv] at Y;refine wpIn_block ?_;refine wpIn_seq ?_;refine qd aa (fS (fg gS)) ?_;refine GO 2 ?_;intro _ Y;apply aZ (x:=decide (((l.getD (2+aV l*11+q.1*7+2) 0).toNat:Int)≤1)) Y Zd 79 rfl 5 84
      case ht=>
       intro Zj;refine GO 1 ?_;intro _ Y;refine sy Y (au (i:=2) (sz:=1) Tryz.underlying126 aa (Y.ev rfl) (Y.ev rfl) ab ab rfl) fun _ Y=>?_;refine aI (v:=bb (l.getD (2+aV l*11+q.1*7+2) 0)) Y (aj Y _ rfl rfl rfl Zj) (lx (Y.ev rfl) ((jQ (i:=2) (o:=2+aV l*11+q.1*7) (Zd.at_ (i:=9) rfl) ab) 0 _ rfl)) rfl rfl fun _ Y=>?_;refine GO 2 ?_;intro _ Y;exact ae ⟨Y.midE 4,Zd⟩
      case hf=>
       intro Zj;refine GO 5 ?_;intro _ Y;exact ae ⟨Y.midE 4,Zd⟩
      case h=>
       rintro a122 Qg ⟨Zk,Zw⟩
       refine sw Zk Zw 7 fun _ Za=>?_;refine ae (ag ?_);refine uT aa aa (fg gS) ?_;apply p4 Zk [false,false,false,false,false,false,false,false,false,false,false,false,false,false,true] _
       case h=>
        refine GO 1 ?_;intro _ Y;refine qv Y (fun X hX=>lx (Y.ev rfl) ((Za.grow hX).cell (i:=8) rfl rfl)) fun _ Y=>?_;refine GO 1 ?_;intro _ Y;refine lT Y rfl (fun X hX=>gI b12 (2+aV l*11+q.1*7) 7 7 l _ ((Za.grow hX).at_ (i:=9) rfl) ab ab) fun _ Y=>?_;refine qv Y (fun X hX=>bN aa Tryz.underlying3 (Y.ev rfl) (cA (by have:=ky l (2+aV l*11+q.1*7);omega))) fun _ Y=>?_;refine GO 1 ?_;intro _ Y;refine qv Y (fun X hX=>au (i:=2) (sz:=1) Tryz.underlying126 aa (Y.ev rfl) (Y.ev rfl) ab ab rfl) fun _ Y=>?_;refine qv (v:=bb (l.getD (2+aV l*11+q.1*7+2) 0)) Y (fun X hX=>lx (Y.ev rfl) ((jQ (i:=2) (o:=2+aV l*11+q.1*7) ((Za.grow hX).at_ (i:=9) rfl) ab) 0 _ rfl)) fun _ Y=>?_;refine GO 2 ?_;intro _ Y;refine qv Y (fun X hX=>gx (l:=3) (h:=7) (sz:=1) Tryz.underlying126 aa (Y.ev rfl) (Y.ev rfl) rfl ab ab ab rfl) fun _ Y=>?_;refine lT Y rfl (fun X hX=>jy b12 (2+aV l*11+q.1*7+3*1) (7-3) (7-3) l _ ((Za.grow hX).at_ (i:=9) rfl) ab ab ab) fun _ Y=>?_;refine qv Y (fun X hX=>bN aa Tryz.underlying3 (Y.ev rfl) (cA (by have:=tL l (2+aV l*11+q.1*7+3*1);omega))) fun _ Y=>?_;refine qv Y (fun X hX=>ay (zs:=[.int .i64 0,.bool false,.int .i64 0]) (pl:=[(0,1),(1,1),(2,1)]) aa aa (Y.evs2 rfl) rfl rfl) fun _ Y=>?_;refine av ?_;apply gP (k:=14) (deps:=[]) (R:=NewB _ (fun b=>.slice (some ⟨b,0,none⟩) 1 1) _ _) Y rfl rfl rfl NewB.stable (fun X hX hΦ=>jz (eC (zc:=[.int .i64 0,.bool false,.int .i64 0]) (sz:=3) rfl Tryz.underlying23 aa aa rfl rfl rfl (Y.evs2 rfl) rfl rfl rfl) hX.size);intro v99 _ Y;refine aP fun _ Zf Zl=>?_;have Z:=Za.grow Zf;have Ze:=ba Zl (k:=14) rfl;obtain⟨b99,rfl,Zx,Ze⟩:=Ze;have Z:=Za.add Zf (e:=.box _ _ _) Ze (fun b hb=>by cases hb;exact⟨Zx,Box.lt Ze⟩)
        refine bG (z:=.agg #[.int .i64 0,.bool false,.int .i64 0]) (sz:=3) (bytes:=24) Y (wn rfl) ⟨rfl,rfl⟩ rfl Tryz.underlying23 aa rfl rfl (Y.ev rfl) (Y.ev rfl) Z (i:=1) rfl (Z.boxRd (i:=0) rfl) rfl (List.all_eq_true.1 rfl) ⟨ab,by decide⟩ fun A100 c100 _ _ Y Z=>?_;refine GO 1 ?_;intro _ Y;refine aN Y (wn rfl) ⟨rfl,rfl⟩ (Y.ev rfl) (Y.ev rfl) rfl aa Z (i:=9) rfl rfl rfl fun _ Z=>?_
        skip
        refine ae (dL ?_);exact⟨rfl,(q.1+1,A100,c100),(List.range_succ).symm,(by show St _ _ _ [.row _ _ _ _ ((jd l (q.1+1)).flatMap cK),_,_,_,_,_,_,.box b6 #[.bool (fB l (aV l)&&gk l (q.1+1))] _,_,_,_];rw[xH ab,x9 ab,←Bool.and_assoc];exact(Z.sub (.cons _ (.cons_cons _ (.cons_cons _ (.cons_cons _ (.cons_cons _ (.cons_cons _ (.cons_cons _ (.cons_cons _ (.cons_cons _ (.cons_cons _ (.cons_cons _ (.cons_cons _ .slnil))))))))))))))⟩
       case hB=>kernel_rfl
       case hst=>rfl
     ·
      intro D1 _ Zy q Zv Y Z;obtain⟨n2,A2,c2⟩:=q
      obtain rfl:dm l=n2:=by have:=congrArg List.length Zv;simpa using this
      have eT:(dz l).ts.length=aV l:=by show(gG l (aV l)).length=_;unfold gG;simp
      have eD:(dz l).ds.length=dm l:=by show(jd l (dm l)).length=_;unfold jd;simp
      replace Z:St [] w Zy [lD D1,.row (.slice A2 (dz l).ds.length c2) (dz l).ds.length 124 3 ((dz l).ds.flatMap cK),.box p76.2 #[.int .i64 (7:Nat)] 3,.box p76.1 #[.slice (some ⟨b12,fD 0 cb12 (2+aV l*11) 1,none⟩) (dm l*7) (cb12-(2+aV l*11))] 126,lD D0,.row (.slice A1 (dz l).ts.length c1) (dz l).ts.length 116 4 ((dz l).ts.flatMap cd),.box p43.2 #[.int .i64 (11:Nat)] 3,.box p43.1 #[.slice (some ⟨b12,fD 0 cb12 2 1,none⟩) (aV l*11) (cb12-2)] 126,.box b6 #[.bool (fB l (aV l)&&gk l (dm l))] 4,.box b5 #[.slice A1 (dz l).ts.length c1,.slice A2 (dz l).ds.length c2] 25,.byt b12 l,.box b2 #[.slice none 0 0,.slice none 0 0] 25]:=by rw[eT,eD];exact Z
      refine dL (ag (ah (ah ?_)));apply aH Y [false,false,false] _ aa
      case h=>
       refine qv Y (fun X hX=>lx (Y.ev rfl) ((Z.grow hX).cell (i:=8) rfl rfl)) fun _ Y=>?_;refine gd Y rfl (fun X hX=>aJ _ _ _) fun _ Y=>?_;refine qv (v:=cv (dz l) A1 c1 A2 c2) Y (fun X hX=>ai aa aa (Y.ev rfl) ((Z.grow hX).cellsAll (i:=9) rfl)) fun _ Y=>?_;refine av ?_;refine aP fun _ Zm Qb=>?_;have Z:=Z.grow Zm;refine cE Y rfl Z (cQ (dz l) A1 c1 A2 c2 _ (Z.rdOf (i:=5) rfl) (Z.rdOf (i:=1) rfl)) fun _ _ Y Z=>?_;refine bw Y (wn rfl) (f:=fun b=>.slice (some ⟨b,0,none⟩) 2 2) (aX Tryz.underlying214 aa aa (Y.evs2 rfl) rfl rfl rfl aq aq) rfl rfl Z fun b106 _ _ Qc Y Z=>?_;refine cC Y rfl (cZ (Z.at_ (i:=0) rfl)) fun _ Y=>?_;refine GO 9 ?_;intro _ Y;refine ak (Y.ev rfl) (fun Zz=>?_) (fun Zz=>?_)
       ·
        have hE:fE l=ar [bn (fB l (aV l)&&gk l (dm l)) 3,dy (dz l)]:=by unfold fE;rw[if_neg ab,if_neg ab]
        have hR:cM l=gA:=by unfold cM;rw[if_neg (by rw[hE];simpa using Zz)]
        refine ah (ao ?_);refine sv Y (ay (zs:=[.slice none 0 0,.slice none 0 0]) (pl:=[(0,1),(1,1)]) aa aa (Y.evs2 rfl) rfl rfl) fun _ Y=>?_;refine GO 1 ?_;intro _ Y;refine sw Y Z 12 fun _ Z=>?_;refine GO 5 ?_;intro _ Y;refine tz Y ?_;refine l5 Z (i:=1) rfl (fun _ Z=>?_);refine l5 Z (i:=5) rfl (fun _ Z=>?_);refine s6 Y (fun _ Y=>?_);refine bo Y rfl rfl rfl Z (i:=12) rfl aa aa ?_;refine⟨(none,0,none,0),by rw[hR,hE];rfl,?_⟩;rw[hR];exact((Z.sub (List.nil_sublist _)).nilRow 124 3).nilRow 116 4
       ·
        have hE:fE l=ar [bn (fB l (aV l)&&gk l (dm l)) 3,dy (dz l)]:=by unfold fE;rw[if_neg ab,if_neg ab]
        have hz:fE l=0:=by rw[hE];simpa using Zz
        have hR:cM l=dz l:=by unfold cM;rw[if_pos hz]
        refine wp_skip (ag (ah (ao ?_)));refine sv Y (ai aa aa (Y.ev rfl) (Z.cellsAll (i:=10) rfl)) fun _ Y=>?_;refine sw Y Z 12 fun _ Z=>?_;refine GO 4 ?_;intro _ Y;refine tz Y ?_;refine l5 Z (i:=1) rfl (fun _ Z=>?_);refine l5 Z (i:=5) rfl (fun _ Z=>?_);refine s6 Y (fun _ Y=>?_);refine bo Y rfl rfl rfl Z (i:=12) rfl aa aa ?_;refine⟨(A1,c1,A2,c2),by rw[hR,hz];rfl,?_⟩;rw[hR];exact St.swap (Z.sub (.cons _ (.cons _ (.cons_cons _ (.cons _ (.cons _ (.cons _ (.cons_cons _ (.cons _ (.cons _ (.cons _ (.cons _ (.cons _ (.cons _ .slnil))))))))))))))
      case hB=>kernel_rfl
      case hst=>rfl
 case hB=>kernel_rfl
 case hst=>rfl
open Go.RowKit Go.Sort
def il {α:Type} (κ:α→Int) (l:List α) (n:Int):Nat:=(l.takeWhile fun x=>decide (κ x<n)).length
theorem tM {α:Type} (p:α→Bool):∀(l:List α) (i:Nat) (hi:i≤l.length),(∀k (hk:k<l.length),k<i→p l[k]=true)→(∀hk:i<l.length,p l[i]=false)→(l.takeWhile p).length=i
 | [],i,hi,_,_=>by simp at hi ⊢;omega
 | x::l,0,hi,_,h2=>by
  have:=h2 a7;rw[List.takeWhile_cons,if_neg (by simpa using this)];rfl
 | x::l,i+1,hi,h1,h2=>by
  have h0:=h1 0 a7 ab;rw[List.takeWhile_cons,if_pos (by simpa using h0),List.length_cons,tM p l i (by simpa using hi) (fun k hk hki=>by have:=h1 (k+1) (by simpa using hk) ab;simpa using this) (fun hk=>by have:=h2 (by simpa using hk);simpa using this)]
def km {α:Type} (κ:α→Int) (l:List α) (n:Int):Bool:=(bP κ l n).isSome
theorem uF {α:Type} {κ:α→Int} {l:List α} (hs:bS κ l) {n:Int} {i:Nat} (hi:i≤l.length) (h1:∀k (hk:k<l.length),k<i→κ l[k]<n) (h2:∀hk:i<l.length,n≤κ l[i]) :
 il κ l n=i∧bP κ l n=if h:i<l.length then (if κ l[i]=n then some l[i] else none) else none:=by
 refine⟨tM _ l i hi (fun k hk hki=>decide_eq_true (h1 k hk hki)) (fun hk=>decide_eq_false (by have:=h2 hk;omega)),?_⟩;unfold bS at hs;rw[List.pairwise_iff_getElem] at hs
 split
 · rename_i hlt
   split
   · rename_i he
     have:=fu (κ:=κ) (l:=l) (by unfold bS;rw[List.pairwise_iff_getElem];exact hs) (List.getElem_mem hlt);rw[he] at this;exact this
   · rename_i hne
     refine cU l n fun x hx hxn=>?_;obtain⟨k,hk,rfl⟩:=List.getElem_of_mem hx;have h4:=h2 hlt;rcases Nat.lt_trichotomy k i with h3 | h3 | h3
     · have:=h1 k hk h3;omega
     · subst h3;omega
     · have:=hs i k hlt hk h3;omega
 · rename_i hge
   refine cU l n fun x hx hxn=>?_;obtain⟨k,hk,rfl⟩:=List.getElem_of_mem hx;have:=h1 k hk ab;omega
theorem rR (x y:Int) (w:World):Calls Tryz.prog 195 #[.int .i64 x,.int .i64 y] w fun e w'=>e=.returned (.int .i64 (Lib.compareInt x y))∧w=w':=
 (Tryz.cmp_Compare_int x y w).mono fun e w' ⟨h1,h2⟩=>⟨h1,h2.symm⟩
theorem rF (x:Rcd) (n:Int) (w:World):Calls Tryz.prog 194 #[ff x,.int .i64 n] w fun e w'=>e=.returned (.int .i64 (Lib.compareInt x.l n))∧Below w.heap.size w w':=by
 refine al (N:=9) Tryz.func194 rfl rfl rfl (fun _ Y=>?_);have Z:=St.init w;refine ah (ao ?_);refine nb Y rfl rfl Z fun b2 _ _ Za Y Z=>?_;refine GO 8 ?_;intro _ Y;refine cC Y rfl (rR _ _ _) fun _ Y=>?_;refine GO 4 ?_;intro _ Y;refine aD Y rfl rfl ?_;exact⟨rfl,Z.below⟩
theorem cmpI_neg {x y:Int}:Lib.compareInt x y<0↔x<y:=by unfold Lib.compareInt;split<;>(try split)<;>omega
theorem cmpI_zero {x y:Int}:Lib.compareInt x y=0↔x=y:=by unfold Lib.compareInt;split<;>(try split)<;>omega
theorem A6 {α:Type} (x n:Int) (y:α):(Lib.compareInt x n==0)=(if x=n then some y else none).isSome:=by
 by_cases he:x=n
 · rw[if_pos he,cmpI_zero.2 he];rfl
 · rw[if_neg he,beq_eq_false_iff_ne.2 (mt cmpI_zero.1 he)];rfl
theorem Aj (l:List Rcd) (hs:bS Rcd.l l) (A:Option Addr) (c:Nat) (n:Int) (w:World) (hr:Rd w w.heap.size A (l.flatMap bA)) (hlen:l.length≤1000) :
 Calls Tryz.prog 193 #[.slice A l.length c,.int .i64 n,.func (.func 194) #[] #[]] w fun e w'=>e=.returned (.tuple #[.int .i64 (il Rcd.l l n),.bool (km Rcd.l l n)])∧Below w.heap.size w w':=by
 have hp:=List.pairwise_iff_getElem.1 hs;refine al (N:=49) Tryz.func193 rfl rfl rfl (fun _ Y=>?_);have Z:=St.init w;refine GO 22 ?_;intro _ Y;refine aY Y Z [8,7,6,0,1,2] (fun (q:Nat × Nat)=>[(9,.int .i64 (q.1:Nat)),(10,.int .i64 (q.2:Nat))]) (fun (q:Nat × Nat)=>q.1≤q.2∧q.2≤l.length∧(∀k (hk:k<l.length),k<q.1→l[k].l<n)∧(∀k (hk:k<l.length),q.2≤k→n≤l[k].l)) (fun (q:Nat × Nat) L=>L) (fun (q:Nat × Nat)=>q.2-q.1) ((0,l.length)) (⟨Nat.zero_le _,Nat.le_refl _,fun k _ h=>absurd h (Nat.not_lt_zero _),fun k hk h=>by omega⟩) bz (Z) ?_;intro q _ _ Zb Y Z;refine GO 8 ?_;intro _ Y;refine ak (Y.ev rfl) (fun Zc=>?_) (fun Zc=>?_)
 ·
  have hlt:q.1<q.2:=by have:=of_decide_eq_true Zc;omega
  have hq2:=Zb.2.1;obtain⟨b,o,rfl,hB,_⟩:=hr.opened (aK aB aq ab)
  have hm:(q.1+q.2) / 2<l.length:=by omega
  refine GO 8 ?_;intro _ Y;refine sv Y (bN aa Tryz.underlying215 (Y.ev rfl) (wrap_u64 ab)) fun _ Y=>?_;refine sv Y (mX (n:=1) (Y.ev rfl) (Y.ev rfl) rfl ab) fun _ Y=>?_;refine sv Y (aw (v':=.int .i64 (((q.1+q.2) / 2:Nat):Int)) (congrArg _ ab) (bN aa Tryz.underlying3 (Y.ev rfl) (cA ab))) fun _ Y=>?_;refine GO 8 ?_;intro _ Y;refine sv Y (au (i:=(q.1+q.2) / 2) (sz:=14) Tryz.underlying180 aa (Y.ev rfl) (Y.ev rfl) ab ab rfl) fun _ Y=>?_;refine sv (v:=ff l[(q.1+q.2) / 2]) Y (ai aa aa (Y.ev rfl) (aW aB (Z.rd0 hr) hm)) fun _ Y=>?_;refine GO 1 ?_;intro _ Y;refine dg Y (wn rfl) (cz a8 (Y.ev rfl) (Y.evs rfl) rfl) rfl rfl Z (rF _ _ _) fun _ _ Y Z=>?_;refine GO 3 ?_;intro _ Y;refine ak (Y.ev rfl) (fun Zd=>?_) (fun Zd=>?_)
  ·
   have hx:l[(q.1+q.2) / 2].l<n:=cmpI_neg.1 (of_decide_eq_true Zd)
   have hlo:∀k (hk:k<l.length),k≤(q.1+q.2) / 2→l[k].l<n:=fun k hk hki=>by
    rcases Nat.lt_or_eq_of_le hki with h | h
    · have:=hp k _ hk hm h;omega
    · subst h;exact hx
   refine GO 7 ?_;intro _ Y;exact⟨((q.1+q.2) / 2+1,q.2),(by show q.2-((q.1+q.2) / 2+1)<q.2-q.1;omega),⟨by show(q.1+q.2) / 2+1≤q.2;omega,Zb.2.1,fun k hk hki=>hlo k hk (by have:k<(q.1+q.2) / 2+1:=hki;omega),Zb.2.2.2⟩,Y.re bz,Z⟩
  ·
   have hx:n≤l[(q.1+q.2) / 2].l:=by
    have:=mt cmpI_neg.2 (of_decide_eq_false Zd);omega
   have hhi:∀k (hk:k<l.length),(q.1+q.2) / 2≤k→n≤l[k].l:=fun k hk hki=>by
    rcases Nat.lt_or_eq_of_le hki with h | h
    · have:=hp _ k hm hk h;omega
    · subst h;exact hx
   refine GO 6 ?_;intro _ Y;exact⟨(q.1,(q.1+q.2) / 2),(by show(q.1+q.2) / 2-q.1<q.2-q.1;omega),⟨by show q.1≤(q.1+q.2) / 2;omega,by show(q.1+q.2) / 2≤l.length;omega,Zb.2.2.1,fun k hk hki=>hhi k hk hki⟩,Y.re bz,Z⟩
 ·
  have hge:q.1=q.2:=by have:=of_decide_eq_false Zc;have:=Zb.1;omega
  obtain⟨hb1,hb2⟩:=uF hs (n:=n) (i:=q.1) (by have:=Zb.2.1;omega) Zb.2.2.1 (fun hk=>Zb.2.2.2 q.1 hk ab);refine GO 12 ?_;intro _ Y;apply aZ (x:=km Rcd.l l n) Y Z 39 rfl 9 48
  case ht=>
   intro Za
   have hlt1:q.1<l.length:=by have:=of_decide_eq_true Za;omega
   obtain⟨b,o,rfl,hB,_⟩:=hr.opened (aK aB aq ab);refine GO 3 ?_;intro _ Y;refine sy Y (au (i:=q.1) (sz:=14) Tryz.underlying180 aa (Y.ev rfl) (Y.ev rfl) ab ab rfl) fun _ Y=>?_;refine aI (v:=ff l[q.1]) Y (aj Y _ rfl rfl rfl Za) (ai aa aa (Y.ev rfl) (aW aB (Z.rd0 hr) hlt1)) rfl rfl fun _ Y=>?_;refine GO 1 ?_;intro _ Y;refine dg Y (aj Y _ rfl rfl rfl Za) (cz a8 (Y.ev rfl) (Y.evs rfl) rfl) rfl rfl Z (rF _ _ _) fun _ _ Y Z=>?_;refine sy Y (aw (v':=.bool (km Rcd.l l n)) (congrArg Value.bool (by unfold km;rw[hb2,dif_pos hlt1];exact A6 _ _ _)) (dE (Y.ev rfl) (Y.ev rfl))) fun _ Y=>?_;refine GO 1 ?_;intro _ Y;exact ae ⟨Y.midE 8,Z⟩
  case hf=>
   intro Za;refine GO 9 ?_;intro _ Y;exact ae ⟨Y.midE 8,Z⟩
  case h=>
   rintro a56 Zf ⟨Zg,Ze⟩
   refine GO 5 ?_;intro _ Y;refine bC Y rfl rfl rfl ?_;refine⟨?_,Ze.below⟩
   have e:(decide ((q.1:Int)<(l.length:Int))&&km Rcd.l l n)=km Rcd.l l n:=by
    unfold km;rw[hb2];by_cases h:q.1<l.length
    · rw[decide_eq_true ab];rfl
    · rw[dif_neg h];simp
   rw[e,hb1]
theorem i7 {α:Type} {κ:α→Int} {l:List α} (hs:bS κ l) {n:Int} (h:km κ l n=true):∃hk:il κ l n<l.length,κ l[il κ l n]=n∧bP κ l n=some l[il κ l n]:=by
 unfold km at h;obtain⟨x,hx⟩:=Option.isSome_iff_exists.1 h;obtain⟨hm,hn⟩:=ey hx;obtain⟨k,hk,rfl⟩:=List.getElem_of_mem hm;have hs2:=hs;unfold bS at hs2;rw[List.pairwise_iff_getElem] at hs2;have e:il κ l n=k:=tM _ l k ab (fun j hj hjk=>decide_eq_true (by have:=hs2 j k hj hk hjk;omega)) (fun _=>decide_eq_false ab);simp only[e];exact⟨hk,hn,hx⟩
def CD (A:Option Addr) (k:Nat):Value:=match A with
 | some a=>.pointer (some ⟨a.block,a.off+k*14+1,none⟩)
 | none=>.pointer none
theorem yE (l:List Rcd) (hs:bS Rcd.l l) (A:Option Addr) (c:Nat) (n:Int) (w:World) (hr:Rd w w.heap.size A (l.flatMap bA)) (hlen:l.length≤1000) :
 Calls Tryz.prog 129 #[.slice A l.length c,.int .i64 n] w fun e w'=>e=.returned (if km Rcd.l l n=true then CD A (il Rcd.l l n) else .pointer none)∧Below w.heap.size w w':=by
 refine al (N:=19) Tryz.func129 rfl rfl rfl (fun _ Y=>?_);have Z:=St.init w;refine GO 9 ?_;intro _ Y;refine cE Y rfl Z (Aj l hs A c n _ (Z.rd0 hr) hlen) fun _ _ Y Z=>?_;refine GO 14 ?_;intro _ Y;refine ak (Y.ev rfl) (fun Za=>?_) (fun Za=>?_)
 ·
  have hb:km Rcd.l l n=false:=by simpa using Za
  refine GO 7 ?_;intro _ Y;refine aD Y rfl rfl ?_;exact⟨by rw[hb];rfl,Z.below⟩
 ·
  have hb:km Rcd.l l n=true:=by simpa using Za
  obtain⟨hk,_,_⟩:=i7 hs hb;obtain⟨b,o,rfl,hB,_⟩:=hr.opened (aK aB aq ab);refine GO 6 ?_;intro _ Y;refine sv Y (au (i:=il Rcd.l l n) (sz:=14) Tryz.underlying180 aa (Y.ev rfl) (Y.ev rfl) ab ab rfl) fun _ Y=>?_;refine sv Y (fy 1 (Y.ev rfl)) fun _ Y=>?_;refine GO 4 ?_;intro _ Y;refine aD Y rfl rfl ?_;exact⟨by rw[hb];rfl,Z.below⟩
def ll (A:Option Addr) (l:List Rcd) (n:Int):Option Addr:=if km Rcd.l l n=true then A.map (fun a=>⟨a.block,a.off+il Rcd.l l n*14+1,none⟩) else none
theorem kV (l:List Rcd) (hs:bS Rcd.l l) (A:Option Addr) (c:Nat) (n:Int) (w:World) (hr:Rd w w.heap.size A (l.flatMap bA)) (hlen:l.length≤1000) :
 Calls Tryz.prog 129 #[.slice A l.length c,.int .i64 n] w fun e w'=>e=.returned (.pointer (ll A l n))∧Below w.heap.size w w':=
 (yE l hs A c n w hr hlen).mono fun e w' ⟨h1,h2⟩=>⟨by rw[h1];unfold ll CD;split<;>cases A<;>rfl,h2⟩
theorem el {X:World} {B b o k:Nat} {l:List Rcd} (h:Rd X B (some ⟨b,o,none⟩) (l.flatMap bA)) (hk:k<l.length):∀(j:Nat) (u:Value),(qL l[k].e)[j]? = some u→X.cell? ⟨b,o+k*14+1+j,none⟩=some u:=fun j u hu=>by
 have:=aW aB h hk (1+j) u (by rw[Nat.add_comm];exact hu)
 rwa [←Nat.add_assoc] at this
theorem Cw {X:World} {B b o k:Nat} {l:List Rcd} (h:Rd X B (some ⟨b,o,none⟩) (l.flatMap bA)) (hk:k<l.length):∀(j:Nat) (u:Value),[Value.int .i64 l[k].e.o.k,.int .i64 l[k].e.o.a,.int .i64 l[k].e.o.e,.int .i64 l[k].e.o.c,.string l[k].e.o.o,.string l[k].e.o.n][j]? = some u→X.cell? ⟨b,o+k*14+1+6+j,none⟩=some u:=fun j u hu=>by
 have:=el h hk (6+j) u (by
  rw[Nat.add_comm]
  match j,hu with
  | 0,hu=>exact hu
  | 1,hu=>exact hu
  | 2,hu=>exact hu
  | 3,hu=>exact hu
  | 4,hu=>exact hu
  | 5,hu=>exact hu
  | j+6,hu=>simp at hu)
 rwa [←Nat.add_assoc] at this
theorem o8 {l:List Rcd} (hs:bS Rcd.l l) {A:Addr} {n:Int} (h:(ll (some A) l n).isNone=false):∃hk:il Rcd.l l n<l.length,l[il Rcd.l l n].l=n∧dX l n=some l[il Rcd.l l n]∧ll (some A) l n=some ⟨A.block,A.off+il Rcd.l l n*14+1,none⟩:=by
 unfold ll at h ⊢
 split at h
 · rename_i hb
   obtain⟨hk,h1,h2⟩:=i7 hs hb;exact⟨hk,h1,h2,by rw[if_pos hb];rfl⟩
 · cases h
theorem oB {l:List Rcd} {A:Addr} {n:Int} (h:(ll (some A) l n).isNone=true):dX l n=none:=by
 unfold ll at h
 split at h
 · cases h
 · rename_i hb
   unfold km at hb
   rwa [Bool.not_eq_true,Option.isSome_eq_false_iff,Option.isNone_iff_eq_none] at hb
end Go.Proofs.YtcfdpfmchchkaaaGreatDoor
