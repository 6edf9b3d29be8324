/- Chapter 22 -/
import Derived.Test.YtcfdpfmchchkaaaGreatDoorRcB
namespace Go.Proofs.YtcfdpfmchchkaaaGreatDoor
set_option maxRecDepth 100000
set_option maxHeartbeats 1000000
set_option linter.unusedVariables false
set_option linter.unusedSimpArgs false
open Go.RowKit Go.Sort Go.Shelf
attribute [local go_sem] Oper.semAt_some Ew xe
def uq (B o m:Nat) (j:Nat):Value:=.slice (some ⟨B,o+j*m,none⟩) m m
theorem rK (n B o k m c b1 b2:Nat) (hm:1≤m) (hm2:m≤1000) (hk:k≤1000) (hc:k*m≤c) :
 wB n Tryz.prog 127 #[.pointer (some ⟨b1,0,none⟩),.pointer (some ⟨b2,0,none⟩)] (fun j:Nat=>#[uq B o m j]) (fun W=>Box W b1 #[.slice (some ⟨B,o,none⟩) (k*m) c] 126∧Box W b2 #[.int .i64 m] 3) (List.range k):=by
 intro l J W hJK hJb hY h0;refine callsIn_of_wp Tryz.func127 rfl trivial ?_ rfl;simp only[Tryz.ntmps127,List.size_toArray,List.length_cons,List.length_nil,Nat.reduceAdd,Nat.reduceSub,Array.replicate_succ,Array.replicate_zero,List.push_toArray,List.append_toArray,List.nil_append,List.cons_append];obtain⟨Ln,hLn⟩:∃Ln,Ln=k*m:=⟨_,rfl⟩;rw[←hLn] at hc hJK
 have hLb:Ln≤1000000:=by
  have:=Nat.mul_le_mul hk hm2;omega
 gi_wp2
 gi_loopw [4] (fun ix wr=>∃j:Nat,j≤k∧ix=.int .i64 ((j*m:Nat):Int)∧J ((List.range k).take j) wr) (fun ix _=>Ln-(intOf ix).toNat)
 case atStart=>exact⟨0,by omega,by simp,h0⟩
 case round=>
  obtain⟨j,hj,rfl,hJ⟩:=hrel;clear h0;obtain⟨x1,x2⟩:=hJK _ _ hJ;have y1:wr.cell? ⟨b1,0,none⟩=some (.slice (some ⟨B,o,none⟩) Ln c):=x1.cells 0;have y2:wr.cell? ⟨b2,0,none⟩=some (.int .i64 m):=x2.cells 0;by_cases hlt:j<k
  · have hIm:j*m+m≤Ln:=by
     have:=Nat.mul_le_mul_right m (show j+1≤k from hlt);rw[hLn];rw[Nat.add_mul] at this;omega
    have hsnoc:(List.range k).take (j+1)=(List.range k).take j ++ [j]:=by
     rw[List.take_succ_eq_append_getElem (by rw[List.length_range];exact hlt),List.getElem_range]
    have hsplit:List.range k=(List.range k).take j ++ j::(List.range k).drop (j+1):=by
     have:=List.drop_eq_getElem_cons (l:=List.range k) (i:=j) (by rw[List.length_range];exact hlt);rw[List.getElem_range] at this;rw[←this,List.take_append_drop]
    have HY:=Lib.hid (fun X (hX:Below wr.heap.size wr X)=>hY _ _ _ X hsplit (hJb _ _ _ hJ hX));have HS:=Lib.hid hsnoc;have HNX:=Lib.hid (show((j*m:Nat):Int)+m=(((j+1)*m:Nat):Int) by rw[Nat.add_mul];push_cast;omega);unfold uq at HY;obtain⟨I,hI⟩:∃I,I=j*m:=⟨_,rfl⟩;rw[←hI] at HY hIm HNX ⊢;have l1:=x1.lt;have l2:=x2.lt;clear hsplit hsnoc hY x1 x2 hLn hI
    gi_wp2
    (refine lM [false,false,false,false,false,false] [] aa aa aa ?_;simp only[pick,List.length_cons,List.length_nil,List.drop_succ_cons,List.drop_zero,Nat.zero_add,Nat.reduceAdd];apply Exists.intro;refine⟨fun X hX=>?_,?_⟩;(focus (obtain⟨hcX,hfX⟩:=cE hX;have hgX:=DI hX;have hsX:=hX.size;(try simp only[World.size_alloc] at hsX);(repeat (go_big_quiet_step ((first | fail))));exact wpQuiet_nil rfl));simp only[p8,told,eG,List.contains_cons,List.contains_nil,List.mem_cons,List.not_mem_nil,forall_eq_or_imp,false_implies,implies_true,and_true,Nat.reduceBEq,BEq.rfl,beq_self_eq_true,Bool.or_false,Bool.false_or,Bool.true_or,Bool.or_true,Bool.false_eq_true,if_true,if_false,true_implies,aU,List.getElem?_toArray,List.getElem?_cons_succ,List.getElem?_cons_zero,Option.some.injEq,forall_eq',Option.bind_some,Act.put,List.setIfInBounds_toArray,List.set_cons_succ,List.set_cons_zero])
    intro X hX;have z1:X.cell? ⟨b1,0,none⟩=some (.slice (some ⟨B,o,none⟩) Ln c):=(hX.cell (p:=⟨b1,0,none⟩) l1).trans y1;have z2:X.cell? ⟨b2,0,none⟩=some (.int .i64 m):=(hX.cell (p:=⟨b2,0,none⟩) l2).trans y2;obtain⟨fn,tmps,assign,body,hy,hR'⟩:=HY.out X hX
    have hmin:min (m:Int) ((Ln-I:Nat):Int)=m:=by omega
    have hmn:((I:Int)+(m:Int)).toNat-I=m:=by omega
    go_wp2
    simp only[hmin]
    gi_wp2
    refine hR'.mono ?_
    rintro e W3 ⟨rfl,hJ3⟩
    have z3:W3.cell? ⟨b2,0,none⟩=some (.int .i64 m):=(hJK _ _ hJ3).2.cells 0
    gi_wp2
    go_roundw
    case rel=>exact⟨j+1,by omega,by rw[←HNX.out],by rw[HS.out];exact hJ3⟩
    case measure=>simp[intOf];omega
  · obtain rfl:j=k:=by omega
    rw[List.take_of_length_le (by rw[List.length_range];omega)] at hJ;rw[←hLn];clear hLn
    gi_wp2
    go_end0
    exact⟨⟨_,rfl⟩,hJ⟩
open Go.RowKit Go.Sort Go.Shelf
theorem rL (A:Option Addr) (n c m:Nat) (hm:1≤m) (w:World) :
 Calls Tryz.prog 70 #[.slice A n c,ae (m:Nat)] w fun e a=>∃i:Nat × Nat,e=.returned (.func (.func 127) #[] #[.pointer (some ⟨i.1,0,none⟩),.pointer (some ⟨i.2,0,none⟩)])∧St [] w a [.box i.2 #[ae (m:Nat)] 3,.box i.1 #[.slice A n c] 126]:=by
 refine aq (N:=9) Tryz.func70 rfl rfl rfl (fun _ Y=>?_);have Z:=St.init w;refine ai (an ?_);refine nb Y rfl rfl Z fun b _ _ g Y Z=>nb Y rfl rfl Z fun d _ _ f Y Z=>GO 10 ?_;intro _ Y;refine jm (Y.ev rfl) ((by simp;omega)) ?_;refine wp_skip (aj (ai (an ?_)));refine sv Y (fo (Y.evs rfl) (Y.evs rfl)) fun _ Y=>?_;refine GO 4 ?_;intro _ Y;refine aI Y rfl rfl ?_;exact⟨(b,d),rfl,Z⟩
theorem hZ {l:List UInt8} {o:Nat} (h:o+1≤l.length):fw l o 1=((l.getD o 0).toNat:Int):=by
 unfold fw
 have a:(l.drop o).take 1=[l[o]'ab]:=by rw[List.drop_eq_getElem_cons ab,List.take_succ_cons,List.take_zero]
 rw[a,List.getD_eq_getElem?_getD,List.getElem?_eq_getElem ab];simp[num]
theorem Ga {α:Type} {l:List α} (h:l.length=2):∃x y,l=[x,y]:=by
 match l,h with
 | [x,y],_=>exact⟨x,y,rfl⟩
theorem tv {l:List UInt8} {o:Nat} (h:o+4≤l.length):xX l o=fw l o 4:=by
 unfold xX;rw[oK ab,oK ab];unfold fw;have c:(l.drop o).take 4=(l.drop o).take 2 ++ (l.drop (o+2)).take 2:=(Ay l o 2 2).symm
 have b:((l.drop o).take 2).length=2:=by rw[List.length_take,List.length_drop];omega
 rw[c];obtain⟨x,y,a⟩:∃x y,(l.drop o).take 2=[x,y]:=Ga b;rw[a];simp[num];omega
theorem qJ {n p x:Nat} {rest:List Nat} (h:List.range n=List.range p ++ x::rest):x=p∧p<n:=by
 have c:=congrArg List.length h;rw[List.length_range,List.length_append,List.length_cons,List.length_range] at c
 have b:p<n:=by omega
 have a:(List.range n)[p]? = some p:=by rw[List.getElem?_range b]
 rw[h,List.getElem?_append_right (by rw[List.length_range];exact Nat.le_refl _),List.length_range,Nat.sub_self] at a;exact⟨ar a,b⟩
theorem se (s:List UInt8) (k:Nat):iO s (k+1)=iO s k ++ [oX s (2+11*k)]:=by
 unfold iO;rw[List.range_succ,List.map_append];rfl
theorem sM (s:List UInt8) (k:Nat):kd s (k+1)=kd s k ++ [qs s (2+11*bh s+7*k)]:=by
 unfold kd;rw[List.range_succ,List.map_append];rfl
theorem sH (s:List UInt8) (k:Nat):gx s (k+1)=(gx s k&&decide (fw s (2+11*k+10) 1≤1)):=by
 unfold gx;rw[List.range_succ,List.all_append];simp
theorem rN (s:List UInt8) (k:Nat):im s (k+1)=(im s k&&decide (fw s (2+11*bh s+7*k+2) 1≤1)):=by
 unfold im;rw[List.range_succ,List.all_append];simp
theorem E9 {l:List UInt8} {a:Nat} (h:a+11≤l.length):cc (oX l a)=[ae (g16 l a),ae (xX l (a+2)),ae (xX l (a+6)),.bool (((l.getD (a+10) 0).toNat:Int)==1)]:=by
 unfold cc oX;simp only[];rw[oK ab,tv ab,tv ab,hZ (o:=a+10) ab]
theorem E7 {l:List UInt8} {a:Nat} (h:a+7≤l.length):cw (qs l a)=[ae (g16 l a),.bool (((l.getD (a+2) 0).toNat:Int)==1),ae (xX l (a+3))]:=by
 unfold cw qs;simp only[];rw[oK ab,tv ab,hZ (o:=a+2) ab]
theorem B8 {l:List UInt8} {k:Nat} (h:2+k*11+11≤l.length):(iO l (k+1)).flatMap cc=(iO l k).flatMap cc ++ [ae (g16 l (2+k*11)),ae (xX l (2+k*11+2)),ae (xX l (2+k*11+6)),.bool (((l.getD (2+k*11+10) 0).toNat:Int)==1)]:=by
 rw[se,List.flatMap_append,show 2+11*k=2+k*11 by omega,←E9 h];simp
theorem Bi {l:List UInt8} {k:Nat} (h:2+bh l*11+k*7+7≤l.length):(kd l (k+1)).flatMap cw=(kd l k).flatMap cw ++ [ae (g16 l (2+bh l*11+k*7)),.bool (((l.getD (2+bh l*11+k*7+2) 0).toNat:Int)==1),ae (xX l (2+bh l*11+k*7+3))]:=by
 rw[sM,List.flatMap_append,show 2+11*bh l+7*k=2+bh l*11+k*7 by omega,←E7 h];simp
theorem Dl {l:List UInt8} {k:Nat} (h:2+k*11+11≤l.length):gx l (k+1)=(gx l k&&decide (((l.getD (2+k*11+10) 0).toNat:Int)≤1)):=by
 rw[sH,show 2+11*k+10=2+k*11+10 by omega,hZ ab]
theorem CF {l:List UInt8} {k:Nat} (h:2+bh l*11+k*7+7≤l.length):im l (k+1)=(im l k&&decide (((l.getD (2+bh l*11+k*7+2) 0).toNat:Int)≤1)):=by
 rw[rN,show 2+11*bh l+7*k+2=2+bh l*11+k*7+2 by omega,hZ ab]
theorem nL (l:List UInt8) (w:World) (hl:l.length≤100000) :
 Calls Tryz.prog 18 #[.string (bs l)] w fun e w'=>∃i:Option Addr × Nat × Option Addr × Nat,e=.returned (.tuple #[bW (dg l) i.1 i.2.1 i.2.2.1 i.2.2.2,ae (gE l)]) ∧
  St [] w w' [.row (.slice i.1 (dg l).ts.length i.2.1) (dg l).ts.length 116 4 ((dg l).ts.flatMap cc),.row (.slice i.2.2.1 (dg l).ds.length i.2.2.2) (dg l).ds.length 124 3 ((dg l).ds.flatMap cw)]:=by
 have Vc:(bs l).size=l.length:=rfl;have Vi:=(l.getD 0 0).toNat_lt;have hb1:=(l.getD 1 0).toNat_lt;refine AQ (N:=113) Tryz.func18 rfl rfl rfl (fun _ Y=>?_);have Z:=St.init w;refine ai (an ?_);refine na (.agg fX) Y rfl Z fun B _ _ Qh Y Z=>GO 5 ?_;intro _ h2;refine GO 1 ?_;intro _ Y;refine uS Y (wn rfl) ⟨rfl,rfl⟩ rfl dh bX oy (Y.ev rfl) Z fun c a _ X4 Qd Jx Y Z=>GO 1 ?_;intro _ Y;replace Z:St [] w X4 [.byt c l,.box B #[.slice none 0 0,.slice none 0 0] 25]:=Z;refine ah (aj (ai (ai ?_)));apply aK Y (fA 19) _ aa
 case h=>
  refine GO 4 ?_;intro _ Y;apply tG Y 16 rfl 15 31
  case ht=>
   intro G;refine GO 15 ?_;intro _ Y;exact ax ⟨_,Y.midE 14⟩
  case hf=>
   intro G
   have h2:2≤l.length:=by have:=of_decide_eq_false G;omega
   refine GO 3 ?_;intro _ Y;refine qy Y (fun X d=>(av (i:=0) (sz:=1) bX aa (Y.ev rfl) (Y.ev rfl) ab ab rfl)) fun _ Y=>?_;refine j9 (v:=bB (l.getD 0 0)) Y (ao Y _ rfl rfl rfl G) rfl rfl (fun X d=>(lx (Y.ev rfl) ((mx (i:=0) (o:=0) ((Z.grow d).at_ (i:=0) rfl) ab) 0 _ rfl))) fun _ Y=>?_;refine qy Y (fun X d=>(cA aa ew (Y.ev rfl) (de ab))) fun _ Y=>?_;refine qy Y (fun X d=>(gg (Y.ev rfl) (Y.ev rfl) ab)) fun _ Y=>?_;refine GO 2 ?_;intro _ Y;refine qy Y (fun X d=>(av (i:=1) (sz:=1) bX aa (Y.ev rfl) (Y.ev rfl) ab ab rfl)) fun _ Y=>?_;refine j9 (v:=bB (l.getD 1 0)) Y (ao Y _ rfl rfl rfl G) rfl rfl (fun X d=>(lx (Y.ev rfl) ((mx (i:=1) (o:=0) ((Z.grow d).at_ (i:=0) rfl) ab) 0 _ rfl))) fun _ Y=>?_;refine qy Y (fun X d=>(cA aa ew (Y.ev rfl) (de ab))) fun _ Y=>?_;refine qy Y (fun X d=>(gg (Y.ev rfl) (Y.ev rfl) ab)) fun _ Y=>?_;refine GO 2 ?_;intro _ Y;exact ax (Y.midE 14)
  case h=>
   intro Vb _ u Y;refine ax ?_;refine aV fun _ Zq Qe=>?_;have Z:=Z.grow Zq;refine sv Y (lv (Y.ev rfl) (Y.ev rfl) (Y.ev rfl) u) fun _ M=>?_;refine ah (aj ?_);refine ak (M.ev rfl) (fun H=>?_) (fun H=>?_)
   ·
    have p:gE l=10:=by
     unfold gE
     split
     · rfl
     · rename_i h2
       rw[if_pos];intro Y;rw[Bool.or_eq_true,decide_eq_true_eq,bne_iff_ne] at H
       have J:bh l=(l.getD 0 0).toNat:=by unfold bh;rw[hZ ab];rfl
       have e2:dP l=(l.getD 1 0).toNat:=by unfold dP;rw[hZ ab];rfl
       rw[J,e2] at Y;omega
    have n:dg l=iu:=by unfold dg;rw[if_neg (by rw[p];decide)]
    refine ai (an ?_);refine sv M (ay (zs:=l5) (pl:=kT) aa aa (M.evs2 rfl) rfl rfl) fun _ Y=>?_;refine sw Y Z 1 fun _ Z=>?_;refine GO 5 ?_;intro _ Y;refine xG Y ?_;refine wC Y (fun _ Y=>?_);refine br Y rfl rfl rfl Z (i:=1) rfl aa aa ?_;refine⟨(none,0,none,0),by rw[n,p];rfl,?_⟩;rw[n];exact((Z.sub (List.nil_sublist _)).nilRow 124 3).nilRow 116 4
   ·
    have h2:2≤l.length:=by
     have:=(Bool.or_eq_false_iff.1 H).1;have:=of_decide_eq_false this;omega
    have J:bh l=(l.getD 0 0).toNat:=by unfold bh;rw[hZ ab];rfl
    have e2:dP l=(l.getD 1 0).toNat:=by unfold dP;rw[hZ ab];rfl
    have Y:l.length=2+11*bh l+7*dP l:=by
     have:=(Bool.or_eq_false_iff.1 H).2;rw[bne_eq_false_iff_eq] at this;rw[J,e2];omega
    have Vg:bh l<256:=by omega
    have Va:dP l<256:=by omega
    refine wp_skip (aj (ai (an ?_)));refine na (.agg fX) M rfl Z fun E _ _ Qi Y Z=>mM ?_;refine na (.bool false) Y rfl Z fun r _ _ Qj Y Z=>sw Y Z 0 fun _ Z=>?_;refine GO 5 ?_;intro _ Y;refine sv Y (av (i:=0) (sz:=1) bX aa (Y.ev rfl) (Y.ev rfl) ab ab rfl) fun _ Y=>?_;refine sv (v:=bB (l.getD 0 0)) Y (lx (Y.ev rfl) ((mx (i:=0) (o:=0) (Z.at_ (i:=2) rfl) ab) 0 _ rfl)) fun _ Y=>?_;refine sv Y (cA aa ew (Y.ev rfl) (de ab)) fun _ Y=>?_;refine sv Y (gg (Y.ev rfl) (Y.ev rfl) ab) fun _ Y=>?_;refine sv Y (aA (v':=ae ((2+bh l*11:Nat):Int)) (by rw[J];rfl) (cy (Y.ev rfl) (Y.ev rfl) ab)) fun _ Y=>?_;refine GO 8 ?_;intro _ Y;refine sv Y (ny (l:=2) (h:=2+bh l*11) (sz:=1) bX aa (Y.ev rfl) (Y.ev rfl) (Y.ev rfl) ab ab) fun _ Y=>?_;rw[show 2+bh l*11-2=bh l*11 by omega] at Y;refine df Y (wn rfl) (az bc (Y.evs rfl) rfl) rfl rfl Z (rL _ _ _ 11 au _) fun g _ _ Y Z=>?_;replace Z:=St.nilRow Z 116 4;refine ah (aj (wp_block ?_));refine ss Y Z 127 #[.pointer (some ⟨g.1,0,none⟩),.pointer (some ⟨g.2,0,none⟩)] rfl (enters_of Tryz.func127 aa rfl) (uq c (gX 0 a 2 1) 11) (List.range (bh l)) (rK 5 c (gX 0 a 2 1) (bh l) 11 (a-2) g.1 g.2 au au ab ab) (fun pre (q:Nat × Option Addr × Nat)=>pre=List.range q.1) (fun (q:Nat × Option Addr × Nat)=>[.row (.slice q.2.1 q.1 q.2.2) q.1 116 4 ((iO l q.1).flatMap cc),.box g.2 #[ae (11:Nat)] 3,.box g.1 #[.slice (some ⟨c,gX 0 a 2 1,none⟩) (bh l*11) (a-2)] 126,.box r #[.bool (gx l q.1)] 4,.box E #[.slice q.2.1 q.1 q.2.2,.slice none 0 0] 25,.byt c l,.box B #[.slice none 0 0,.slice none 0 0] 25]) rfl (fun _=>⟨trivial,trivial,trivial,trivial,trivial,trivial,trivial,trivial⟩) (fun i A S=>⟨S.at_ (i:=2) rfl,S.at_ (i:=1) rfl⟩) ((0,none,0)) (rfl) (Z) ?_ ?_
    ·
     intro lr pre x rest W _ hx Y;refine tP aa (ie rH) ?_;refine GO 3 ?_;intro _ Y;refine⟨rfl,fun q _ Zr F=>?_⟩;subst Zr;obtain⟨rfl,V⟩:=qJ hx
     have Jv:gX 0 a 2 1=2:=by unfold gX;rw[if_neg ab]
     have P:uq c (gX 0 a 2 1) 11 q.1=.slice (some ⟨c,2+q.1*11,none⟩) 11 11:=by unfold uq;rw[Jv]
     rw[P] at Y;refine wpIn_block ?_;refine wpIn_seq ?_;refine tP aa (ie (gC ji)) ?_;refine GO 2 ?_;intro _ Y;apply bo (x:=decide (((l.getD (2+q.1*11+10) 0).toNat:Int)≤1)) Y F 46 rfl 5 51
     case ht=>
      intro Zh;refine GO 1 ?_;intro _ Y;refine sy Y (av (i:=10) (sz:=1) bX aa (Y.ev rfl) (Y.ev rfl) ab ab rfl) fun _ Y=>?_;refine aT (v:=bB (l.getD (2+q.1*11+10) 0)) Y (ao Y _ rfl rfl rfl Zh) (lx (Y.ev rfl) ((mx (i:=10) (o:=2+q.1*11) (F.at_ (i:=5) rfl) ab) 0 _ rfl)) rfl rfl fun _ Y=>?_;refine GO 2 ?_;intro _ Y;exact ah ⟨Y.midE 4,F⟩
     case hf=>
      intro Zh;refine GO 5 ?_;intro _ Y;exact ah ⟨Y.midE 4,F⟩
     case h=>
      rintro Vd Qk ⟨Qa,Qf⟩
      refine sw Qa Qf 3 fun _ s=>?_;refine ah (aj ?_);refine yK aa aa (gC ji) ?_;apply sP Qa [false,false,false,false,false,false,false,false,false,false,false,false,false,false,false,false,false,false,true] _
      case h=>
       refine GO 3 ?_;intro _ Y;refine jM Y rfl (fun X d=>jz c (2+q.1*11) 11 11 l _ ((s.grow d).at_ (i:=5) rfl) ab ab) fun _ Y=>?_;refine qv Y (fun X d=>cA aa ew (Y.ev rfl) (de (by have:=nk l (2+q.1*11);omega))) fun _ Y=>?_;refine GO 1 ?_;intro _ Y;refine qv Y (fun X d=>ga (l:=2) (h:=11) (sz:=1) bX aa (Y.ev rfl) (Y.ev rfl) rfl ab ab ab rfl) fun _ Y=>?_;refine jM Y rfl (fun X d=>ll c (2+q.1*11+2*1) (11-2) (11-2) l _ ((s.grow d).at_ (i:=5) rfl) ab ab ab) fun _ Y=>?_;refine qv Y (fun X d=>cA aa ew (Y.ev rfl) (de (by have:=xC l (2+q.1*11+2*1);omega))) fun _ Y=>?_;refine GO 1 ?_;intro _ Y;refine qv Y (fun X d=>ga (l:=6) (h:=11) (sz:=1) bX aa (Y.ev rfl) (Y.ev rfl) rfl ab ab ab rfl) fun _ Y=>?_;refine jM Y rfl (fun X d=>ll c (2+q.1*11+6*1) (11-6) (11-6) l _ ((s.grow d).at_ (i:=5) rfl) ab ab ab) fun _ Y=>?_;refine qv Y (fun X d=>cA aa ew (Y.ev rfl) (de (by have:=xC l (2+q.1*11+6*1);omega))) fun _ Y=>?_;refine GO 1 ?_;intro _ Y;refine qv Y (fun X d=>av (i:=10) (sz:=1) bX aa (Y.ev rfl) (Y.ev rfl) ab ab rfl) fun _ Y=>?_;refine qv (v:=bB (l.getD (2+q.1*11+10) 0)) Y (fun X d=>lx (Y.ev rfl) ((mx (i:=10) (o:=2+q.1*11) ((s.grow d).at_ (i:=5) rfl) ab) 0 _ rfl)) fun _ Y=>?_;refine GO 1 ?_;intro _ Y;refine qv Y (fun X d=>ay (zs:=nV) (pl:=yt) aa aa (Y.evs2 rfl) rfl rfl) fun _ Y=>?_;refine ax ?_;apply eF (k:=18) (deps:=[]) (R:=NewB _ (fun b=>.slice (some ⟨b,0,none⟩) 1 1) _ _) Y rfl rfl rfl NewB.stable (fun X d hΦ=>gK (dw (zc:=nV) (sz:=4) rfl ed aa aa rfl rfl rfl (Y.evs2 rfl) rfl rfl rfl) d.size);intro Vf _ Y;refine aV fun _ Zi Zs=>?_;have Z:=s.grow Zi;have I:=aF Zs (k:=18) rfl
       obtain⟨Ve,rfl,Zt,I⟩:=I;have Z:=s.add Zi (e:=.box _ _ _) I (fun b hb=>by cases hb;exact⟨Zt,Box.lt I⟩);refine bP (z:=.agg lG) (sz:=4) (bytes:=32) Y (wn rfl) ⟨rfl,rfl⟩ rfl ed aa rfl rfl (Y.ev rfl) (Y.ev rfl) Z (i:=1) rfl (Z.boxRd (i:=0) rfl) rfl (List.all_eq_true.1 rfl) ⟨ab,by decide⟩ fun U T _ _ Y Z=>?_;refine GO 1 ?_;intro _ Y;refine aM Y (wn rfl) ⟨rfl,rfl⟩ (Y.ev rfl) (Y.ev rfl) rfl aa Z (i:=5) rfl rfl rfl fun _ Z=>?_;refine ah (ez ?_);exact⟨rfl,(q.1+1,U,T),(List.range_succ).symm,(by show St _ _ _ [.row _ _ _ _ ((iO l (q.1+1)).flatMap cc),_,_,.box r #[.bool (gx l (q.1+1))] _,_,_,_];rw[B8 ab,Dl ab];exact(Z.sub (aL 254)))⟩
      case hB=>kernel_rfl
      case hst=>rfl
    ·
     intro D0 _ Zu q Zr Y Z;obtain⟨n1,m,c1⟩:=q
     obtain rfl:bh l=n1:=by have:=congrArg List.length Zr;simpa using this
     replace Z:St [] w Zu [nQ D0,.row (.slice m (bh l) c1) (bh l) 116 4 ((iO l (bh l)).flatMap cc),.box g.2 #[ae (11:Nat)] 3,.box g.1 #[.slice (some ⟨c,gX 0 a 2 1,none⟩) (bh l*11) (a-2)] 126,.box r #[.bool (gx l (bh l))] 4,.box E #[.slice m (bh l) c1,.slice none 0 0] 25,.byt c l,.box B #[.slice none 0 0,.slice none 0 0] 25]:=Z;refine GO 7 ?_;intro _ Y;refine sv Y (ny (l:=2+bh l*11) (h:=(bs l).size) (sz:=1) bX aa (Y.ev rfl) (Y.ev rfl) rfl ab ab) fun _ Y=>?_;rw[show(bs l).size-(2+bh l*11)=dP l*7 by omega] at Y;refine df Y (wn rfl) (az bc (Y.evs rfl) rfl) rfl rfl Z (rL _ _ _ 7 au _) fun j _ _ Y Z=>?_;replace Z:=St.nilRow Z 124 3;refine ah (aj (wp_block ?_));refine ss Y Z 127 #[.pointer (some ⟨j.1,0,none⟩),.pointer (some ⟨j.2,0,none⟩)] rfl (enters_of Tryz.func127 aa rfl) (uq c (gX 0 a (2+bh l*11) 1) 7) (List.range (dP l)) (rK 5 c (gX 0 a (2+bh l*11) 1) (dP l) 7 (a-(2+bh l*11)) j.1 j.2 au au ab ab) (fun pre (q:Nat × Option Addr × Nat)=>pre=List.range q.1) (fun (q:Nat × Option Addr × Nat)=>[.row (.slice q.2.1 q.1 q.2.2) q.1 124 3 ((kd l q.1).flatMap cw),.box j.2 #[ae (7:Nat)] 3,.box j.1 #[.slice (some ⟨c,gX 0 a (2+bh l*11) 1,none⟩) (dP l*7) (a-(2+bh l*11))] 126,nQ D0,.row (.slice m (bh l) c1) (bh l) 116 4 ((iO l (bh l)).flatMap cc),.box g.2 #[ae (11:Nat)] 3,.box g.1 #[.slice (some ⟨c,gX 0 a 2 1,none⟩) (bh l*11) (a-2)] 126,.box r #[.bool (gx l (bh l)&&im l q.1)] 4,.box E #[.slice m (bh l) c1,.slice q.2.1 q.1 q.2.2] 25,.byt c l,.box B #[.slice none 0 0,.slice none 0 0] 25]) rfl (fun _=>⟨trivial,trivial,trivial,List.mem_of_getElem? (i:=3) rfl,trivial,trivial,trivial,trivial,trivial,trivial,trivial,trivial⟩) (fun i A S=>⟨S.at_ (i:=2) rfl,S.at_ (i:=1) rfl⟩) ((0,none,0)) (rfl) ((by show St [] w _ [_,_,_,_,_,_,_,.box r #[.bool (gx l (bh l)&&im l 0)] _,_,_,_];rw[show im l 0=true from rfl,Bool.and_true];exact Z)) ?_ ?_
     ·
      intro lr pre x rest W _ hx Y;refine tP aa (ie rH) ?_;refine GO 3 ?_;intro _ Y;refine⟨rfl,fun q _ O K=>?_⟩;subst O;obtain⟨rfl,V⟩:=qJ hx
      have Q:gX 0 a (2+bh l*11) 1=2+bh l*11:=by unfold gX;rw[if_neg ab];omega
      have P:uq c (gX 0 a (2+bh l*11) 1) 7 q.1=.slice (some ⟨c,2+bh l*11+q.1*7,none⟩) 7 7:=by unfold uq;rw[Q]
      rw[P] at Y;refine wpIn_block ?_;refine wpIn_seq ?_;refine tP aa (ie (gC ji)) ?_;refine GO 2 ?_;intro _ Y;apply bo (x:=decide (((l.getD (2+bh l*11+q.1*7+2) 0).toNat:Int)≤1)) Y K 79 rfl 5 84
      case ht=>
       intro Zj;refine GO 1 ?_;intro _ Y;refine sy Y (av (i:=2) (sz:=1) bX aa (Y.ev rfl) (Y.ev rfl) ab ab rfl) fun _ Y=>?_;refine aT (v:=bB (l.getD (2+bh l*11+q.1*7+2) 0)) Y (ao Y _ rfl rfl rfl Zj) (lx (Y.ev rfl) ((mx (i:=2) (o:=2+bh l*11+q.1*7) (K.at_ (i:=9) rfl) ab) 0 _ rfl)) rfl rfl fun _ Y=>?_;refine GO 2 ?_;intro _ Y;exact ah ⟨Y.midE 4,K⟩
      case hf=>
       intro Zj;refine GO 5 ?_;intro _ Y;exact ah ⟨Y.midE 4,K⟩
      case h=>
       rintro Jy Qg ⟨Zk,Zw⟩
       refine sw Zk Zw 7 fun _ t=>?_;refine ah (aj ?_);refine yK aa aa (gC ji) ?_;apply sP Zk [false,false,false,false,false,false,false,false,false,false,false,false,false,false,true] _
       case h=>
        refine GO 1 ?_;intro _ Y;refine qv Y (fun X d=>lx (Y.ev rfl) ((t.grow d).cell (i:=8) rfl rfl)) fun _ Y=>?_;refine GO 1 ?_;intro _ Y;refine jM Y rfl (fun X d=>jz c (2+bh l*11+q.1*7) 7 7 l _ ((t.grow d).at_ (i:=9) rfl) ab ab) fun _ Y=>?_;refine qv Y (fun X d=>cA aa ew (Y.ev rfl) (de (by have:=nk l (2+bh l*11+q.1*7);omega))) fun _ Y=>?_;refine GO 1 ?_;intro _ Y;refine qv Y (fun X d=>av (i:=2) (sz:=1) bX aa (Y.ev rfl) (Y.ev rfl) ab ab rfl) fun _ Y=>?_;refine qv (v:=bB (l.getD (2+bh l*11+q.1*7+2) 0)) Y (fun X d=>lx (Y.ev rfl) ((mx (i:=2) (o:=2+bh l*11+q.1*7) ((t.grow d).at_ (i:=9) rfl) ab) 0 _ rfl)) fun _ Y=>?_;refine GO 2 ?_;intro _ Y;refine qv Y (fun X d=>ga (l:=3) (h:=7) (sz:=1) bX aa (Y.ev rfl) (Y.ev rfl) rfl ab ab ab rfl) fun _ Y=>?_;refine jM Y rfl (fun X d=>ll c (2+bh l*11+q.1*7+3*1) (7-3) (7-3) l _ ((t.grow d).at_ (i:=9) rfl) ab ab ab) fun _ Y=>?_;refine qv Y (fun X d=>cA aa ew (Y.ev rfl) (de (by have:=xC l (2+bh l*11+q.1*7+3*1);omega))) fun _ Y=>?_;refine qv Y (fun X d=>ay (zs:=pZ) (pl:=fE) aa aa (Y.evs2 rfl) rfl rfl) fun _ Y=>?_;refine ax ?_;apply eF (k:=14) (deps:=[]) (R:=NewB _ (fun b=>.slice (some ⟨b,0,none⟩) 1 1) _ _) Y rfl rfl rfl NewB.stable (fun X d hΦ=>gK (dw (zc:=pZ) (sz:=3) rfl eP aa aa rfl rfl rfl (Y.evs2 rfl) rfl rfl rfl) d.size);intro Jz _ Y;refine aV fun _ Zf Zl=>?_;have Z:=t.grow Zf;have L:=aF Zl (k:=14) rfl;obtain⟨Vh,rfl,Zx,L⟩:=L;have Z:=t.add Zf (e:=.box _ _ _) L (fun b hb=>by cases hb;exact⟨Zx,Box.lt L⟩);refine bP (z:=.agg ln) (sz:=3) (bytes:=24) Y (wn rfl) ⟨rfl,rfl⟩ rfl eP aa rfl rfl (Y.ev rfl) (Y.ev rfl) Z (i:=1) rfl (Z.boxRd (i:=0) rfl) rfl (List.all_eq_true.1 rfl) ⟨ab,by decide⟩ fun C y _ _ Y Z=>?_
        refine GO 1 ?_;intro _ Y;refine aM Y (wn rfl) ⟨rfl,rfl⟩ (Y.ev rfl) (Y.ev rfl) rfl aa Z (i:=9) rfl rfl rfl fun _ Z=>?_
        skip
        refine ah (ez ?_);exact⟨rfl,(q.1+1,C,y),(List.range_succ).symm,(by show St _ _ _ [.row _ _ _ _ ((kd l (q.1+1)).flatMap cw),_,_,_,_,_,_,.box r #[.bool (gx l (bh l)&&im l (q.1+1))] _,_,_,_];rw[Bi ab,CF ab,←Bool.and_assoc];exact(Z.sub (aL 4094)))⟩
       case hB=>kernel_rfl
       case hst=>rfl
     ·
      intro D1 _ Zy q O Y Z;obtain⟨n2,D,c2⟩:=q
      obtain rfl:dP l=n2:=by have:=congrArg List.length O;simpa using this
      have eT:(dT l).ts.length=bh l:=by show(iO l (bh l)).length=_;unfold iO;simp
      have eD:(dT l).ds.length=dP l:=by show(kd l (dP l)).length=_;unfold kd;simp
      replace Z:St [] w Zy [nQ D1,.row (.slice D (dT l).ds.length c2) (dT l).ds.length 124 3 ((dT l).ds.flatMap cw),.box j.2 #[ae (7:Nat)] 3,.box j.1 #[.slice (some ⟨c,gX 0 a (2+bh l*11) 1,none⟩) (dP l*7) (a-(2+bh l*11))] 126,nQ D0,.row (.slice m (dT l).ts.length c1) (dT l).ts.length 116 4 ((dT l).ts.flatMap cc),.box g.2 #[ae (11:Nat)] 3,.box g.1 #[.slice (some ⟨c,gX 0 a 2 1,none⟩) (bh l*11) (a-2)] 126,.box r #[.bool (gx l (bh l)&&im l (dP l))] 4,.box E #[.slice m (dT l).ts.length c1,.slice D (dT l).ds.length c2] 25,.byt c l,.box B #[.slice none 0 0,.slice none 0 0] 25]:=by rw[eT,eD];exact Z
      refine ez (aj (ai (ai ?_)));apply aK Y [false,false,false] _ aa
      case h=>
       refine qv Y (fun X d=>lx (Y.ev rfl) ((Z.grow d).cell (i:=8) rfl rfl)) fun _ Y=>?_;refine gp Y rfl (fun X d=>aW _ _ _) fun _ Y=>?_;refine qv (v:=bW (dT l) m c1 D c2) Y (fun X d=>ag aa aa (Y.ev rfl) ((Z.grow d).cellsAll (i:=9) rfl)) fun _ Y=>?_;refine ax ?_;refine aV fun _ Zm Qb=>?_;have Z:=Z.grow Zm;refine cN Y rfl Z (da (dT l) m c1 D c2 _ (Z.rdOf (i:=5) rfl) (Z.rdOf (i:=1) rfl)) fun _ _ Y Z=>?_;refine bV Y (wn rfl) (f:=fun b=>.slice (some ⟨b,0,none⟩) 2 2) (bb cT aa aa (Y.evs2 rfl) rfl rfl rfl au au) rfl rfl Z fun Jw _ _ Qc Y Z=>cU Y rfl (dq (Z.at_ (i:=0) rfl)) fun _ Y=>?_;refine GO 9 ?_;intro _ Y;refine ak (Y.ev rfl) (fun Zz=>?_) (fun Zz=>?_)
       ·
        have p:gE l=aw [bF (gx l (bh l)&&im l (dP l)) 3,dz (dT l)]:=by unfold gE;rw[if_neg ab,if_neg ab]
        have n:dg l=iu:=by unfold dg;rw[if_neg (by rw[p];simpa using Zz)]
        refine ai (an ?_);refine sv Y (ay (zs:=l5) (pl:=kT) aa aa (Y.evs2 rfl) rfl rfl) fun _ Y=>?_;refine GO 1 ?_;intro _ Y;refine sw Y Z 12 fun _ Z=>?_;refine GO 5 ?_;intro _ Y;refine xG Y ?_;refine oH Z (i:=1) rfl (fun _ Z=>?_);refine oH Z (i:=5) rfl (fun _ Z=>?_);refine wC Y (fun _ Y=>?_);refine br Y rfl rfl rfl Z (i:=12) rfl aa aa ?_;refine⟨(none,0,none,0),by rw[n,p];rfl,?_⟩;rw[n];exact((Z.sub (List.nil_sublist _)).nilRow 124 3).nilRow 116 4
       ·
        have p:gE l=aw [bF (gx l (bh l)&&im l (dP l)) 3,dz (dT l)]:=by unfold gE;rw[if_neg ab,if_neg ab]
        have hz:gE l=0:=by rw[p];simpa using Zz
        have n:dg l=dT l:=by unfold dg;rw[if_pos hz]
        refine wp_skip (aj (ai (an ?_)));refine sv Y (ag aa aa (Y.ev rfl) (Z.cellsAll (i:=10) rfl)) fun _ Y=>?_;refine sw Y Z 12 fun _ Z=>?_;refine GO 4 ?_;intro _ Y;refine xG Y ?_;refine oH Z (i:=1) rfl (fun _ Z=>?_);refine oH Z (i:=5) rfl (fun _ Z=>?_);refine wC Y (fun _ Y=>?_);refine br Y rfl rfl rfl Z (i:=12) rfl aa aa ?_;refine⟨(m,c1,D,c2),by rw[n,hz];rfl,?_⟩;rw[n];exact St.swap (Z.sub (aL 68))
      case hB=>kernel_rfl
      case hst=>rfl
 case hB=>kernel_rfl
 case hst=>rfl
open Go.RowKit Go.Sort
def jN {α:Type} (κ:α→Int) (l:List α) (n:Int):Nat:=(l.takeWhile fun x=>decide (κ x<n)).length
theorem wL {α:Type} (p:α→Bool):∀(l:List α) (i:Nat) (a:i≤l.length),(∀k (b:k<l.length),k<i→p l[k]=true)→(∀b:i<l.length,p l[i]=false)→(l.takeWhile p).length=i
 | [],i,a,_,_=>by simp at a ⊢;omega
 | x::l,0,a,_,h2=>by
  have:=h2 bm;rw[List.takeWhile_cons,if_neg (ar this)];rfl
 | x::l,i+1,a,h1,h2=>by
  have d:=h1 0 bm ab;rw[List.takeWhile_cons,if_pos (ar d),List.length_cons,wL p l i (ar a) (fun k b c=>by have:=h1 (k+1) (ar b) ab;simpa using this) (fun b=>by have:=h2 (ar b);simpa using this)]
def lI {α:Type} (κ:α→Int) (l:List α) (n:Int):Bool:=(cF κ l n).isSome
theorem yE {α:Type} {κ:α→Int} {l:List α} (c:cC κ l) {n:Int} {i:Nat} (j:i≤l.length) (f:∀k (a:k<l.length),k<i→κ l[k]<n) (g:∀a:i<l.length,n≤κ l[i]) :
 jN κ l n=i∧cF κ l n=if h:i<l.length then (if κ l[i]=n then some l[i] else none) else none:=by
 refine⟨wL _ l i j (fun k a d=>decide_eq_true (f k a d)) (fun a=>decide_eq_false (by have:=g a;omega)),?_⟩;unfold cC at c;rw[List.pairwise_iff_getElem] at c
 split
 · rename_i b
   split
   · rename_i m
     have:=gM (κ:=κ) (l:=l) (by unfold cC;rw[List.pairwise_iff_getElem];exact c) (List.getElem_mem b);rw[m] at this;exact this
   · rename_i p
     refine dI l n fun x hx e=>?_;obtain⟨k,a,rfl⟩:=List.getElem_of_mem hx;have q:=g b;rcases Nat.lt_trichotomy k i with h3 | h3 | h3
     · have:=f k a h3;omega
     · subst h3;omega
     · have:=c i k b a h3;omega
 · rename_i o
   refine dI l n fun x hx e=>?_;obtain⟨k,a,rfl⟩:=List.getElem_of_mem hx;have:=f k a ab;omega
theorem tV (x y:Int) (w:World):fZ 195 #[ae x,ae y] w (ae (Lib.compareInt x y)):=
 (Tryz.cmp_Compare_int x y w).mono fun e c ⟨b,a⟩=>⟨b,a.symm⟩
theorem ux (x:Rcd) (n:Int) (w:World):bz 194 #[gV x,ae n] w (ae (Lib.compareInt x.l n)):=by
 refine aq (N:=9) Tryz.func194 rfl rfl rfl (fun _ Y=>?_);have Z:=St.init w;refine ai (an ?_);refine nb Y rfl rfl Z fun b _ _ a Y Z=>GO 8 ?_;intro _ Y;refine cU Y rfl (tV _ _ _) fun _ Y=>?_;refine GO 4 ?_;intro _ Y;refine aI Y rfl rfl ?_;exact⟨rfl,Z.below⟩
theorem cmpI_neg {x y:Int}:Lib.compareInt x y<0↔x<y:=by unfold Lib.compareInt;split<;>(try split)<;>omega
theorem cmpI_zero {x y:Int}:Lib.compareInt x y=0↔x=y:=by unfold Lib.compareInt;split<;>(try split)<;>omega
theorem D8 {α:Type} (x n:Int) (y:α):(Lib.compareInt x n==0)=(if x=n then some y else none).isSome:=by
 by_cases a:x=n
 · rw[if_pos a,cmpI_zero.2 a];rfl
 · rw[if_neg a,beq_eq_false_iff_ne.2 (mt cmpI_zero.1 a)];rfl
theorem Ee (l:List Rcd) (u:cC Rcd.l l) (A:Option Addr) (c:Nat) (n:Int) (w:World) (hr:Rd w w.heap.size A (l.flatMap cm)) (y:l.length≤1000) :
 bz 193 #[.slice A l.length c,ae n,.func (.func 194) #[] #[]] w (.tuple #[ae (jN Rcd.l l n),.bool (lI Rcd.l l n)]):=by
 have z:=List.pairwise_iff_getElem.1 u;refine aq (N:=49) Tryz.func193 rfl rfl rfl (fun _ Y=>?_);have Z:=St.init w;refine GO 22 ?_;intro _ Y;refine aY Y Z [8,7,6,0,1,2] (fun (q:Nat × Nat)=>[(9,ae (q.1:Nat)),(10,ae (q.2:Nat))]) (fun (q:Nat × Nat)=>q.1≤q.2∧q.2≤l.length∧(∀k (d:k<l.length),k<q.1→l[k].l<n)∧(∀k (d:k<l.length),q.2≤k→n≤l[k].l)) (fun (q:Nat × Nat) L=>L) (fun (q:Nat × Nat)=>q.2-q.1) ((0,l.length)) (⟨Nat.zero_le _,Nat.le_refl _,fun k _ h=>absurd h (Nat.not_lt_zero _),fun k d h=>by omega⟩) bN (Z) ?_;intro q _ _ f Y Z;refine GO 8 ?_;intro _ Y;refine ak (Y.ev rfl) (fun p=>?_) (fun p=>?_)
 ·
  have E:q.1<q.2:=by have:=of_decide_eq_true p;omega
  have B:=f.2.1;obtain⟨b,o,rfl,hB,_⟩:=hr.opened (aQ aO au ab)
  have hm:(q.1+q.2) / 2<l.length:=by omega
  refine GO 8 ?_;intro _ Y;refine sv Y (cA aa Tryz.underlying215 (Y.ev rfl) (wrap_u64 ab)) fun _ Y=>?_;refine sv Y (qp (n:=1) (Y.ev rfl) (Y.ev rfl) rfl ab) fun _ Y=>?_;refine sv Y (aA (v':=ae (((q.1+q.2) / 2:Nat):Int)) (congrArg _ ab) (cA aa ew (Y.ev rfl) (de ab))) fun _ Y=>?_;refine GO 8 ?_;intro _ Y;refine sv Y (av (i:=(q.1+q.2) / 2) (sz:=14) gk aa (Y.ev rfl) (Y.ev rfl) ab ab rfl) fun _ Y=>?_;refine sv (v:=gV l[(q.1+q.2) / 2]) Y (ag aa aa (Y.ev rfl) (aZ aO (Z.rd0 hr) hm)) fun _ Y=>?_;refine GO 1 ?_;intro _ Y;refine dk Y (wn rfl) (cQ bc (Y.ev rfl) (Y.evs rfl) rfl) rfl rfl Z (ux _ _ _) fun _ _ Y Z=>GO 3 ?_;intro _ Y;refine ak (Y.ev rfl) (fun s=>?_) (fun s=>?_)
  ·
   have hx:l[(q.1+q.2) / 2].l<n:=cmpI_neg.1 (of_decide_eq_true s)
   have t:∀k (d:k<l.length),k≤(q.1+q.2) / 2→l[k].l<n:=fun k d a=>by
    rcases Nat.lt_or_eq_of_le a with h | h
    · have:=z k _ d hm h;omega
    · subst h;exact hx
   refine GO 7 ?_;intro _ Y;exact⟨((q.1+q.2) / 2+1,q.2),(by show q.2-((q.1+q.2) / 2+1)<q.2-q.1;omega),⟨by show(q.1+q.2) / 2+1≤q.2;omega,f.2.1,fun k d a=>t k d (by have:k<(q.1+q.2) / 2+1:=a;omega),f.2.2.2⟩,Y.re bN,Z⟩
  ·
   have hx:n≤l[(q.1+q.2) / 2].l:=by
    have:=mt cmpI_neg.2 (of_decide_eq_false s);omega
   have r:∀k (d:k<l.length),(q.1+q.2) / 2≤k→n≤l[k].l:=fun k d a=>by
    rcases Nat.lt_or_eq_of_le a with h | h
    · have:=z _ k hm d h;omega
    · subst h;exact hx
   refine GO 6 ?_;intro _ Y;exact⟨(q.1,(q.1+q.2) / 2),(by show(q.1+q.2) / 2-q.1<q.2-q.1;omega),⟨by show q.1≤(q.1+q.2) / 2;omega,by show(q.1+q.2) / 2≤l.length;omega,f.2.2.1,fun k d a=>r k d a⟩,Y.re bN,Z⟩
 ·
  have D:q.1=q.2:=by have:=of_decide_eq_false p;have:=f.1;omega
  obtain⟨hb1,j⟩:=yE u (n:=n) (i:=q.1) (by have:=f.2.1;omega) f.2.2.1 (fun d=>f.2.2.2 q.1 d ab);refine GO 12 ?_;intro _ Y;apply bo (x:=lI Rcd.l l n) Y Z 39 rfl 9 48
  case ht=>
   intro m
   have g:q.1<l.length:=by have:=of_decide_eq_true m;omega
   obtain⟨b,o,rfl,hB,_⟩:=hr.opened (aQ aO au ab);refine GO 3 ?_;intro _ Y;refine sy Y (av (i:=q.1) (sz:=14) gk aa (Y.ev rfl) (Y.ev rfl) ab ab rfl) fun _ Y=>?_;refine aT (v:=gV l[q.1]) Y (ao Y _ rfl rfl rfl m) (ag aa aa (Y.ev rfl) (aZ aO (Z.rd0 hr) g)) rfl rfl fun _ Y=>GO 1 ?_;intro _ Y;refine dk Y (ao Y _ rfl rfl rfl m) (cQ bc (Y.ev rfl) (Y.evs rfl) rfl) rfl rfl Z (ux _ _ _) fun _ _ Y Z=>sy Y (aA (v':=.bool (lI Rcd.l l n)) (congrArg Value.bool (by unfold lI;rw[j,dif_pos g];exact D8 _ _ _)) (eI (Y.ev rfl) (Y.ev rfl))) fun _ Y=>?_;refine GO 1 ?_;intro _ Y;exact ah ⟨Y.midE 8,Z⟩
  case hf=>
   intro m;refine GO 9 ?_;intro _ Y;exact ah ⟨Y.midE 8,Z⟩
  case h=>
   rintro C G ⟨H,F⟩
   refine GO 5 ?_;intro _ Y;refine cd Y rfl rfl rfl ?_;refine⟨?_,F.below⟩
   have e:(decide ((q.1:Int)<(l.length:Int))&&lI Rcd.l l n)=lI Rcd.l l n:=by
    unfold lI;rw[j];by_cases h:q.1<l.length
    · rw[decide_eq_true ab];rfl
    · rw[dif_neg h];simp
   rw[e,hb1]
theorem kE {α:Type} {κ:α→Int} {l:List α} (d:cC κ l) {n:Int} (h:lI κ l n=true):∃b:jN κ l n<l.length,κ l[jN κ l n]=n∧cF κ l n=some l[jN κ l n]:=by
 unfold lI at h;obtain⟨x,hx⟩:=Option.isSome_iff_exists.1 h;obtain⟨hm,g⟩:=fL hx;obtain⟨k,b,rfl⟩:=List.getElem_of_mem hm;have a:=d;unfold cC at a;rw[List.pairwise_iff_getElem] at a;have e:jN κ l n=k:=wL _ l k ab (fun j f c=>decide_eq_true (by have:=a j k f b c;omega)) (fun _=>decide_eq_false ab);simp only[e];exact⟨b,g,hx⟩
def GU (A:Option Addr) (k:Nat):Value:=match A with
 | some a=>.pointer (some ⟨a.block,a.off+k*14+1,none⟩)
 | none=>.pointer none
theorem CW (l:List Rcd) (f:cC Rcd.l l) (A:Option Addr) (c:Nat) (n:Int) (w:World) (hr:Rd w w.heap.size A (l.flatMap cm)) (a:l.length≤1000) :
 bz 129 #[.slice A l.length c,ae n] w (if lI Rcd.l l n=true then GU A (jN Rcd.l l n) else .pointer none):=by
 refine aq (N:=19) Tryz.func129 rfl rfl rfl (fun _ Y=>?_);have Z:=St.init w;refine GO 9 ?_;intro _ Y;refine cN Y rfl Z (Ee l f A c n _ (Z.rd0 hr) a) fun _ _ Y Z=>?_;refine GO 14 ?_;intro _ Y;refine ak (Y.ev rfl) (fun e=>?_) (fun e=>?_)
 ·
  have d:lI Rcd.l l n=false:=ar e;refine GO 7 ?_;intro _ Y;refine aI Y rfl rfl ?_;exact⟨by rw[d];rfl,Z.below⟩
 ·
  have d:lI Rcd.l l n=true:=ar e;obtain⟨g,_,_⟩:=kE f d;obtain⟨b,o,rfl,hB,_⟩:=hr.opened (aQ aO au ab);refine GO 6 ?_;intro _ Y;refine sv Y (av (i:=jN Rcd.l l n) (sz:=14) gk aa (Y.ev rfl) (Y.ev rfl) ab ab rfl) fun _ Y=>?_;refine sv Y (fy 1 (Y.ev rfl)) fun _ Y=>?_;refine GO 4 ?_;intro _ Y;refine aI Y rfl rfl ?_;exact⟨by rw[d];rfl,Z.below⟩
def nw (A:Option Addr) (l:List Rcd) (n:Int):Option Addr:=if lI Rcd.l l n=true then A.map (fun a=>⟨a.block,a.off+jN Rcd.l l n*14+1,none⟩) else none
theorem kq (l:List Rcd) (b:cC Rcd.l l) (A:Option Addr) (c:Nat) (n:Int) (w:World) (hr:Rd w w.heap.size A (l.flatMap cm)) (a:l.length≤1000) :
 bz 129 #[.slice A l.length c,ae n] w (.pointer (nw A l n)):=
 (CW l b A c n w hr a).mono fun e g ⟨f,d⟩=>⟨by rw[f];unfold nw GU;split<;>cases A<;>rfl,d⟩
theorem ff {X:World} {B b o k:Nat} {l:List Rcd} (h:Rd X B (some ⟨b,o,none⟩) (l.flatMap cm)) (a:k<l.length):∀(j:Nat) (u:Value),(xQ l[k].e)[j]? = some u→X.cell? ⟨b,o+k*14+1+j,none⟩=some u:=fun j u c=>by
 have:=aZ aO h a (1+j) u (by rw[Nat.add_comm];exact c)
 rwa [←Nat.add_assoc] at this
theorem GK {X:World} {B b o k:Nat} {l:List Rcd} (h:Rd X B (some ⟨b,o,none⟩) (l.flatMap cm)) (f:k<l.length):∀(j:Nat) (u:Value),[Value.int .i64 l[k].e.o.k,ae l[k].e.o.a,ae l[k].e.o.e,ae l[k].e.o.c,.string l[k].e.o.o,.string l[k].e.o.n][j]? = some u→X.cell? ⟨b,o+k*14+1+6+j,none⟩=some u:=fun j u d=>by
 have:=ff h f (6+j) u (by
  rw[Nat.add_comm]
  match j,d with
  | 0,d=>exact d
  | 1,d=>exact d
  | 2,d=>exact d
  | 3,d=>exact d
  | 4,d=>exact d
  | 5,d=>exact d
  | j+6,d=>simp at d)
 rwa [←Nat.add_assoc] at this
theorem rV {l:List Rcd} (c:cC Rcd.l l) {A:Addr} {n:Int} (h:(nw (some A) l n).isNone=false):∃a:jN Rcd.l l n<l.length,l[jN Rcd.l l n].l=n∧dx l n=some l[jN Rcd.l l n]∧nw (some A) l n=some ⟨A.block,A.off+jN Rcd.l l n*14+1,none⟩:=by
 unfold nw at h ⊢
 split at h
 · rename_i b
   obtain⟨a,e,d⟩:=kE c b;exact⟨a,e,d,by rw[if_pos b];rfl⟩
 · cases h
theorem rR {l:List Rcd} {A:Addr} {n:Int} (h:(nw (some A) l n).isNone=true):dx l n=none:=by
 unfold nw at h
 split at h
 · cases h
 · rename_i a
   unfold lI at a
   rwa [Bool.not_eq_true,Option.isSome_eq_false_iff,Option.isNone_iff_eq_none] at a
end Go.Proofs.YtcfdpfmchchkaaaGreatDoor
