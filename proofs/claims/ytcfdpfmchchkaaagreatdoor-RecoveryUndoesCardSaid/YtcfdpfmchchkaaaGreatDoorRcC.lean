/- Chapter 22 -/
import Derived.Test.YtcfdpfmchchkaaaGreatDoorRcB
namespace Go.Proofs.YtcfdpfmchchkaaaGreatDoor
set_option maxRecDepth 100000
set_option maxHeartbeats 1000000
set_option linter.unusedVariables false
set_option linter.unusedSimpArgs false
open Go.RowKit Go.Sort Go.Shelf
attribute [local go_sem] Oper.semAt_some Fs xE
def vq (B o m:Nat) (j:Nat):Value:=.slice (some ⟨B,o+j*m,none⟩) m m
theorem sS (n B o k m c b1 b2:Nat) (hm:1≤m) (hm2:m≤1000) (hk:k≤1000) (hc:k*m≤c) :
 xF n Tryz.prog 127 #[.pointer (some ⟨b1,0,none⟩),.pointer (some ⟨b2,0,none⟩)] (fun j:Nat=>#[vq B o m j]) (fun W=>Box W b1 #[.slice (some ⟨B,o,none⟩) (k*m) c] 126∧Box W b2 #[.int .i64 m] 3) (List.range k):=by
 intro l J W hJK hJb hY h0;refine callsIn_of_wp Tryz.func127 rfl trivial ?_ rfl;simp only[Tryz.ntmps127,List.size_toArray,List.length_cons,List.length_nil,Nat.reduceAdd,Nat.reduceSub,Array.replicate_succ,Array.replicate_zero,List.push_toArray,List.append_toArray,List.nil_append,List.cons_append];obtain⟨Ln,hLn⟩:∃Ln,Ln=k*m:=⟨_,rfl⟩;rw[←hLn] at hc hJK
 have hLb:Ln≤1000000:=by
  have:=Nat.mul_le_mul hk hm2;omega
 gi_wp2
 gi_loopw [4] (fun ix wr=>∃j:Nat,j≤k∧ix=.int .i64 ((j*m:Nat):Int)∧J ((List.range k).take j) wr) (fun ix _=>Ln-(intOf ix).toNat)
 case atStart=>exact⟨0,by omega,by simp,h0⟩
 case round=>
  obtain⟨j,hj,rfl,hJ⟩:=hrel;clear h0;obtain⟨x1,x2⟩:=hJK _ _ hJ;have y1:wr.cell? ⟨b1,0,none⟩=some (.slice (some ⟨B,o,none⟩) Ln c):=x1.cells 0;have y2:wr.cell? ⟨b2,0,none⟩=some (.int .i64 m):=x2.cells 0;by_cases hlt:j<k
  · have hIm:j*m+m≤Ln:=by
     have:=Nat.mul_le_mul_right m (show j+1≤k from hlt);rw[hLn];rw[Nat.add_mul] at this;omega
    have hsnoc:(List.range k).take (j+1)=(List.range k).take j ++ [j]:=by
     rw[List.take_succ_eq_append_getElem (by rw[List.length_range];exact hlt),List.getElem_range]
    have hsplit:List.range k=(List.range k).take j ++ j::(List.range k).drop (j+1):=by
     have:=List.drop_eq_getElem_cons (l:=List.range k) (i:=j) (by rw[List.length_range];exact hlt);rw[List.getElem_range] at this;rw[←this,List.take_append_drop]
    have HY:=Lib.hid (fun X (hX:Below wr.heap.size wr X)=>hY _ _ _ X hsplit (hJb _ _ _ hJ hX));have HS:=Lib.hid hsnoc;have HNX:=Lib.hid (show((j*m:Nat):Int)+m=(((j+1)*m:Nat):Int) by rw[Nat.add_mul];push_cast;omega);unfold vq at HY;obtain⟨I,hI⟩:∃I,I=j*m:=⟨_,rfl⟩;rw[←hI] at HY hIm HNX ⊢;have l1:=x1.lt;have l2:=x2.lt;clear hsplit hsnoc hY x1 x2 hLn hI
    gi_wp2
    (refine nm [false,false,false,false,false,false] [] aa aa aa ?_;simp only[pick,List.length_cons,List.length_nil,List.drop_succ_cons,List.drop_zero,Nat.zero_add,Nat.reduceAdd];apply Exists.intro;refine⟨fun X hX=>?_,?_⟩;(focus (obtain⟨hcX,hfX⟩:=bH hX;have hgX:=FM hX;have hsX:=hX.size;(try simp only[World.size_alloc] at hsX);(repeat (go_big_quiet_step ((first | fail))));exact wpQuiet_nil rfl));simp only[qj,told,eN,List.contains_cons,List.contains_nil,List.mem_cons,List.not_mem_nil,forall_eq_or_imp,false_implies,implies_true,and_true,Nat.reduceBEq,BEq.rfl,beq_self_eq_true,Bool.or_false,Bool.false_or,Bool.true_or,Bool.or_true,Bool.false_eq_true,if_true,if_false,true_implies,ay,List.getElem?_toArray,List.getElem?_cons_succ,List.getElem?_cons_zero,Option.some.injEq,forall_eq',Option.bind_some,Act.put,List.setIfInBounds_toArray,List.set_cons_succ,List.set_cons_zero])
    intro X hX;have z1:X.cell? ⟨b1,0,none⟩=some (.slice (some ⟨B,o,none⟩) Ln c):=(hX.cell (p:=⟨b1,0,none⟩) l1).trans y1;have z2:X.cell? ⟨b2,0,none⟩=some (.int .i64 m):=(hX.cell (p:=⟨b2,0,none⟩) l2).trans y2;obtain⟨fn,tmps,assign,body,hy,hR'⟩:=HY.out X hX
    have hmin:min (m:Int) ((Ln-I:Nat):Int)=m:=by omega
    have hmn:((I:Int)+(m:Int)).toNat-I=m:=by omega
    go_wp2
    simp only[hmin]
    gi_wp2
    refine hR'.mono ?_
    rintro e W3 ⟨rfl,hJ3⟩
    have z3:W3.cell? ⟨b2,0,none⟩=some (.int .i64 m):=(hJK _ _ hJ3).2.cells 0
    gi_wp2
    go_roundw
    case rel=>exact⟨j+1,by omega,by rw[←HNX.out],by rw[HS.out];exact hJ3⟩
    case measure=>simp[intOf];omega
  · obtain rfl:j=k:=by omega
    rw[List.take_of_length_le (by rw[List.length_range];omega)] at hJ;rw[←hLn];clear hLn
    gi_wp2
    go_end0
    exact⟨⟨_,rfl⟩,hJ⟩
open Go.RowKit Go.Sort Go.Shelf
theorem sD (A:Option Addr) (n c m:Nat) (hm:1≤m) (w:World) :
 Calls Tryz.prog 70 #[.slice A n c,ae (m:Nat)] w fun e b=>∃i:Nat × Nat,e=.returned (.func (.func 127) #[] #[.pointer (some ⟨i.1,0,none⟩),.pointer (some ⟨i.2,0,none⟩)])∧St [] w b [.box i.2 #[ae (m:Nat)] 3,.box i.1 #[.slice A n c] 126]:=by
 refine an (N:=9) Tryz.func70 rfl rfl rfl (fun _ Y=>?_);have Z:=St.init w;refine aj (aq ?_);refine nb Y rfl rfl Z fun a _ _ f Y Z=>nb Y rfl rfl Z fun d _ _ g Y Z=>GO 10 ?_;intro _ Y;refine mU (Y.ev rfl) ((by simp;omega)) ?_;refine wp_skip (ai (aj (aq ?_)));refine sv Y (fm (Y.evs rfl) (Y.evs rfl)) fun _ Y=>?_;refine GO 4 ?_;intro _ Y;refine aC Y rfl rfl ?_;exact⟨(a,d),rfl,Z⟩
theorem iU {l:List UInt8} {o:Nat} (h:o+1≤l.length):gY l o 1=((l.getD o 0).toNat:Int):=by
 unfold gY
 have a:(l.drop o).take 1=[l[o]'ab]:=by rw[List.drop_eq_getElem_cons ab,List.take_succ_cons,List.take_zero]
 rw[a,List.getD_eq_getElem?_getD,List.getElem?_eq_getElem ab];simp[num]
theorem Hc {α:Type} {l:List α} (h:l.length=2):∃x y,l=[x,y]:=by
 match l,h with
 | [x,y],_=>exact⟨x,y,rfl⟩
theorem ui {l:List UInt8} {o:Nat} (h:o+4≤l.length):y9 l o=gY l o 4:=by
 unfold y9;rw[pR ab,pR ab];unfold gY;have b:(l.drop o).take 4=(l.drop o).take 2 ++ (l.drop (o+2)).take 2:=(zS l o 2 2).symm
 have c:((l.drop o).take 2).length=2:=by rw[List.length_take,List.length_drop];omega
 rw[b];obtain⟨x,y,a⟩:∃x y,(l.drop o).take 2=[x,y]:=Hc c;rw[a];simp[num];omega
theorem rA {n p x:Nat} {rest:List Nat} (h:List.range n=List.range p ++ x::rest):x=p∧p<n:=by
 have c:=congrArg List.length h;rw[List.length_range,List.length_append,List.length_cons,List.length_range] at c
 have b:p<n:=by omega
 have a:(List.range n)[p]? = some p:=by rw[List.getElem?_range b]
 rw[h,List.getElem?_append_right (by rw[List.length_range];exact Nat.le_refl _),List.length_range,Nat.sub_self] at a;exact⟨al a,b⟩
theorem tJ (s:List UInt8) (k:Nat):jW s (k+1)=jW s k ++ [zy s (2+11*k)]:=by
 unfold jW;rw[List.range_succ,List.map_append];rfl
theorem tr (s:List UInt8) (k:Nat):lz s (k+1)=lz s k ++ [yP s (2+11*bn s+7*k)]:=by
 unfold lz;rw[List.range_succ,List.map_append];rfl
theorem tA (s:List UInt8) (k:Nat):iB s (k+1)=(iB s k&&decide (gY s (2+11*k+10) 1≤1)):=by
 unfold iB;rw[List.range_succ,List.all_append];simp
theorem sJ (s:List UInt8) (k:Nat):jC s (k+1)=(jC s k&&decide (gY s (2+11*bn s+7*k+2) 1≤1)):=by
 unfold jC;rw[List.range_succ,List.all_append];simp
theorem E2 {l:List UInt8} {a:Nat} (h:a+11≤l.length):bW (zy l a)=[ae (g16 l a),ae (y9 l (a+2)),ae (y9 l (a+6)),.bool (((l.getD (a+10) 0).toNat:Int)==1)]:=by
 unfold bW zy;simp only[];rw[pR ab,ui ab,ui ab,iU (o:=a+10) ab]
theorem FL {l:List UInt8} {a:Nat} (h:a+7≤l.length):cN (yP l a)=[ae (g16 l a),.bool (((l.getD (a+2) 0).toNat:Int)==1),ae (y9 l (a+3))]:=by
 unfold cN yP;simp only[];rw[pR ab,ui ab,iU (o:=a+2) ab]
theorem Cp {l:List UInt8} {k:Nat} (h:2+k*11+11≤l.length):(jW l (k+1)).flatMap bW=(jW l k).flatMap bW ++ [ae (g16 l (2+k*11)),ae (y9 l (2+k*11+2)),ae (y9 l (2+k*11+6)),.bool (((l.getD (2+k*11+10) 0).toNat:Int)==1)]:=by
 rw[tJ,List.flatMap_append,show 2+11*k=2+k*11 by omega,←E2 h];simp
theorem Bu {l:List UInt8} {k:Nat} (h:2+bn l*11+k*7+7≤l.length):(lz l (k+1)).flatMap cN=(lz l k).flatMap cN ++ [ae (g16 l (2+bn l*11+k*7)),.bool (((l.getD (2+bn l*11+k*7+2) 0).toNat:Int)==1),ae (y9 l (2+bn l*11+k*7+3))]:=by
 rw[tr,List.flatMap_append,show 2+11*bn l+7*k=2+bn l*11+k*7 by omega,←FL h];simp
theorem Cv {l:List UInt8} {k:Nat} (h:2+k*11+11≤l.length):iB l (k+1)=(iB l k&&decide (((l.getD (2+k*11+10) 0).toNat:Int)≤1)):=by
 rw[tA,show 2+11*k+10=2+k*11+10 by omega,iU ab]
theorem CO {l:List UInt8} {k:Nat} (h:2+bn l*11+k*7+7≤l.length):jC l (k+1)=(jC l k&&decide (((l.getD (2+bn l*11+k*7+2) 0).toNat:Int)≤1)):=by
 rw[sJ,show 2+11*bn l+7*k+2=2+bn l*11+k*7+2 by omega,iU ab]
theorem oV (l:List UInt8) (w:World) (hl:l.length≤100000) :
 Calls Tryz.prog 18 #[.string (bs l)] w fun e w'=>∃i:Option Addr × Nat × Option Addr × Nat,e=.returned (.tuple #[cc (dK l) i.1 i.2.1 i.2.2.1 i.2.2.2,ae (iM l)]) ∧
  St [] w w' [.row (.slice i.1 (dK l).ts.length i.2.1) (dK l).ts.length 116 4 ((dK l).ts.flatMap bW),.row (.slice i.2.2.1 (dK l).ds.length i.2.2.2) (dK l).ds.length 124 3 ((dK l).ds.flatMap cN)]:=by
 have Vh:(bs l).size=l.length:=rfl;have Vj:=(l.getD 0 0).toNat_lt;have hb1:=(l.getD 1 0).toNat_lt;refine AG (N:=113) Tryz.func18 rfl rfl rfl (fun _ Y=>?_);have Z:=St.init w;refine aj (aq ?_);refine na (.agg gV) Y rfl Z fun u _ _ Qh Y Z=>GO 5 ?_;intro _ h2;refine GO 1 ?_;intro _ Y;refine wE Y (wn rfl) ⟨rfl,rfl⟩ rfl dr bY px (Y.ev rfl) Z fun c a _ X4 Qd Jx Y Z=>GO 1 ?_;intro _ Y;replace Z:St [] w X4 [.byt c l,.box u #[.slice none 0 0,.slice none 0 0] 25]:=Z;refine ag (ai (aj (aj ?_)));apply aK Y (fK 19) _ aa
 case h=>
  refine GO 4 ?_;intro _ Y;apply mr Y 16 rfl 15 31
  case ht=>
   intro I;refine GO 15 ?_;intro _ Y;exact ax ⟨_,Y.midE 14⟩
  case hf=>
   intro I
   have h2:2≤l.length:=by have:=of_decide_eq_false I;omega
   refine GO 3 ?_;intro _ Y;refine qy Y (fun X d=>(ar (i:=0) (sz:=1) bY aa (Y.ev rfl) (Y.ev rfl) ab ab rfl)) fun _ Y=>?_;refine jk (v:=bA (l.getD 0 0)) Y (ao Y _ rfl rfl rfl I) rfl rfl (fun X d=>(lx (Y.ev rfl) ((mH (i:=0) (o:=0) ((Z.grow d).at_ (i:=0) rfl) ab) 0 _ rfl))) fun _ Y=>?_;refine qy Y (fun X d=>(cD aa eO (Y.ev rfl) (dz ab))) fun _ Y=>?_;refine qy Y (fun X d=>(gT (Y.ev rfl) (Y.ev rfl) ab)) fun _ Y=>?_;refine GO 2 ?_;intro _ Y;refine qy Y (fun X d=>(ar (i:=1) (sz:=1) bY aa (Y.ev rfl) (Y.ev rfl) ab ab rfl)) fun _ Y=>?_;refine jk (v:=bA (l.getD 1 0)) Y (ao Y _ rfl rfl rfl I) rfl rfl (fun X d=>(lx (Y.ev rfl) ((mH (i:=1) (o:=0) ((Z.grow d).at_ (i:=0) rfl) ab) 0 _ rfl))) fun _ Y=>?_;refine qy Y (fun X d=>(cD aa eO (Y.ev rfl) (dz ab))) fun _ Y=>?_;refine qy Y (fun X d=>(gT (Y.ev rfl) (Y.ev rfl) ab)) fun _ Y=>?_;refine GO 2 ?_;intro _ Y;exact ax (Y.midE 14)
  case h=>
   intro Ve _ D Y;refine ax ?_;refine aT fun _ Zq Qe=>?_;have Z:=Z.grow Zq;refine sv Y (iq (Y.ev rfl) (Y.ev rfl) (Y.ev rfl) D) fun _ M=>?_;refine ag (ai ?_);refine ak (M.ev rfl) (fun L=>?_) (fun L=>?_)
   ·
    have p:iM l=10:=by
     unfold iM
     split
     · rfl
     · rename_i h2
       rw[if_pos];intro Y;rw[Bool.or_eq_true,decide_eq_true_eq,bne_iff_ne] at L
       have F:bn l=(l.getD 0 0).toNat:=by unfold bn;rw[iU ab];rfl
       have e2:eA l=(l.getD 1 0).toNat:=by unfold eA;rw[iU ab];rfl
       rw[F,e2] at Y;omega
    have n:dK l=jI:=by unfold dK;rw[if_neg (by rw[p];decide)]
    refine aj (aq ?_);refine sv M (az (zs:=mD) (pl:=lM) aa aa (M.evs2 rfl) rfl rfl) fun _ Y=>?_;refine sw Y Z 1 fun _ Z=>?_;refine GO 5 ?_;intro _ Y;refine xZ Y ?_;refine xK Y (fun _ Y=>?_);refine bZ Y rfl rfl rfl Z (i:=1) rfl aa aa ?_;refine⟨(none,0,none,0),by rw[n,p];rfl,?_⟩;rw[n];exact((Z.sub (List.nil_sublist _)).nilRow 124 3).nilRow 116 4
   ·
    have h2:2≤l.length:=by
     have:=(Bool.or_eq_false_iff.1 L).1;have:=of_decide_eq_false this;omega
    have F:bn l=(l.getD 0 0).toNat:=by unfold bn;rw[iU ab];rfl
    have e2:eA l=(l.getD 1 0).toNat:=by unfold eA;rw[iU ab];rfl
    have Y:l.length=2+11*bn l+7*eA l:=by
     have:=(Bool.or_eq_false_iff.1 L).2;rw[bne_eq_false_iff_eq] at this;rw[F,e2];omega
    have Vc:bn l<256:=by omega
    have Vb:eA l<256:=by omega
    refine wp_skip (ai (aj (aq ?_)));refine na (.agg gV) M rfl Z fun E _ _ Qi Y Z=>rV ?_;refine na (.bool false) Y rfl Z fun r _ _ Qj Y Z=>sw Y Z 0 fun _ Z=>?_;refine GO 5 ?_;intro _ Y;refine sv Y (ar (i:=0) (sz:=1) bY aa (Y.ev rfl) (Y.ev rfl) ab ab rfl) fun _ Y=>?_;refine sv (v:=bA (l.getD 0 0)) Y (lx (Y.ev rfl) ((mH (i:=0) (o:=0) (Z.at_ (i:=2) rfl) ab) 0 _ rfl)) fun _ Y=>?_;refine sv Y (cD aa eO (Y.ev rfl) (dz ab)) fun _ Y=>?_;refine sv Y (gT (Y.ev rfl) (Y.ev rfl) ab) fun _ Y=>?_;refine sv Y (aA (v':=ae ((2+bn l*11:Nat):Int)) (by rw[F];rfl) (cM (Y.ev rfl) (Y.ev rfl) ab)) fun _ Y=>?_;refine GO 8 ?_;intro _ Y;refine sv Y (nU (l:=2) (h:=2+bn l*11) (sz:=1) bY aa (Y.ev rfl) (Y.ev rfl) (Y.ev rfl) ab ab) fun _ Y=>?_;rw[show 2+bn l*11-2=bn l*11 by omega] at Y;refine cT Y (wn rfl) (aw a6 (Y.evs rfl) rfl) rfl rfl Z (sD _ _ _ 11 au _) fun g _ _ Y Z=>?_;replace Z:=St.nilRow Z 116 4;refine ag (ai (wp_block ?_));refine tv Y Z 127 #[.pointer (some ⟨g.1,0,none⟩),.pointer (some ⟨g.2,0,none⟩)] rfl (enters_of Tryz.func127 aa rfl) (vq c (iN 0 a 2 1) 11) (List.range (bn l)) (sS 5 c (iN 0 a 2 1) (bn l) 11 (a-2) g.1 g.2 au au ab ab) (fun pre (q:Nat × Option Addr × Nat)=>pre=List.range q.1) (fun (q:Nat × Option Addr × Nat)=>[.row (.slice q.2.1 q.1 q.2.2) q.1 116 4 ((jW l q.1).flatMap bW),.box g.2 #[ae (11:Nat)] 3,.box g.1 #[.slice (some ⟨c,iN 0 a 2 1,none⟩) (bn l*11) (a-2)] 126,.box r #[.bool (iB l q.1)] 4,.box E #[.slice q.2.1 q.1 q.2.2,.slice none 0 0] 25,.byt c l,.box u #[.slice none 0 0,.slice none 0 0] 25]) rfl (fun _=>⟨trivial,trivial,trivial,trivial,trivial,trivial,trivial,trivial⟩) (fun i A S=>⟨S.at_ (i:=2) rfl,S.at_ (i:=1) rfl⟩) ((0,none,0)) (rfl) (Z) ?_ ?_
    ·
     intro lr pre x rest W _ hx Y;refine vh aa (i7 sG) ?_;refine GO 3 ?_;intro _ Y;refine⟨rfl,fun q _ V G=>?_⟩;subst V;obtain⟨rfl,O⟩:=rA hx
     have Q:iN 0 a 2 1=2:=by unfold iN;rw[if_neg ab]
     have T:vq c (iN 0 a 2 1) 11 q.1=.slice (some ⟨c,2+q.1*11,none⟩) 11 11:=by unfold vq;rw[Q]
     rw[T] at Y;refine wpIn_block ?_;refine wpIn_seq ?_;refine vh aa (i7 (ic kl)) ?_;refine GO 2 ?_;intro _ Y;apply a8 (x:=decide (((l.getD (2+q.1*11+10) 0).toNat:Int)≤1)) Y G 46 rfl 5 51
     case ht=>
      intro Zh;refine GO 1 ?_;intro _ Y;refine sy Y (ar (i:=10) (sz:=1) bY aa (Y.ev rfl) (Y.ev rfl) ab ab rfl) fun _ Y=>?_;refine aU (v:=bA (l.getD (2+q.1*11+10) 0)) Y (ao Y _ rfl rfl rfl Zh) (lx (Y.ev rfl) ((mH (i:=10) (o:=2+q.1*11) (G.at_ (i:=5) rfl) ab) 0 _ rfl)) rfl rfl fun _ Y=>?_;refine GO 2 ?_;intro _ Y;exact ag ⟨Y.midE 4,G⟩
     case hf=>
      intro Zh;refine GO 5 ?_;intro _ Y;exact ag ⟨Y.midE 4,G⟩
     case h=>
      rintro Vf Qk ⟨Qa,Qf⟩
      refine sw Qa Qf 3 fun _ t=>?_;refine ag (ai ?_);refine yM aa aa (ic kl) ?_;apply tQ Qa [false,false,false,false,false,false,false,false,false,false,false,false,false,false,false,false,false,false,true] _
      case h=>
       refine GO 3 ?_;intro _ Y;refine nH Y rfl (fun X d=>jX c (2+q.1*11) 11 11 l _ ((t.grow d).at_ (i:=5) rfl) ab ab) fun _ Y=>?_;refine qv Y (fun X d=>cD aa eO (Y.ev rfl) (dz (by have:=n3 l (2+q.1*11);omega))) fun _ Y=>?_;refine GO 1 ?_;intro _ Y;refine qv Y (fun X d=>jN (l:=2) (h:=11) (sz:=1) bY aa (Y.ev rfl) (Y.ev rfl) rfl ab ab ab rfl) fun _ Y=>?_;refine nH Y rfl (fun X d=>lU c (2+q.1*11+2*1) (11-2) (11-2) l _ ((t.grow d).at_ (i:=5) rfl) ab ab ab) fun _ Y=>?_;refine qv Y (fun X d=>cD aa eO (Y.ev rfl) (dz (by have:=xH l (2+q.1*11+2*1);omega))) fun _ Y=>?_;refine GO 1 ?_;intro _ Y;refine qv Y (fun X d=>jN (l:=6) (h:=11) (sz:=1) bY aa (Y.ev rfl) (Y.ev rfl) rfl ab ab ab rfl) fun _ Y=>?_;refine nH Y rfl (fun X d=>lU c (2+q.1*11+6*1) (11-6) (11-6) l _ ((t.grow d).at_ (i:=5) rfl) ab ab ab) fun _ Y=>?_;refine qv Y (fun X d=>cD aa eO (Y.ev rfl) (dz (by have:=xH l (2+q.1*11+6*1);omega))) fun _ Y=>?_;refine GO 1 ?_;intro _ Y;refine qv Y (fun X d=>ar (i:=10) (sz:=1) bY aa (Y.ev rfl) (Y.ev rfl) ab ab rfl) fun _ Y=>?_;refine qv (v:=bA (l.getD (2+q.1*11+10) 0)) Y (fun X d=>lx (Y.ev rfl) ((mH (i:=10) (o:=2+q.1*11) ((t.grow d).at_ (i:=5) rfl) ab) 0 _ rfl)) fun _ Y=>?_;refine GO 1 ?_;intro _ Y;refine qv Y (fun X d=>az (zs:=oJ) (pl:=yH) aa aa (Y.evs2 rfl) rfl rfl) fun _ Y=>?_;refine ax ?_;apply eU (k:=18) (deps:=[]) (R:=NewB _ (fun b=>.slice (some ⟨b,0,none⟩) 1 1) _ _) Y rfl rfl rfl NewB.stable (fun X d hΦ=>jm (ec (zc:=oJ) (sz:=4) rfl dT aa aa rfl rfl rfl (Y.evs2 rfl) rfl rfl rfl) d.size);intro Vg _ Y;refine aT fun _ Zi Zs=>?_;have Z:=t.grow Zi;have H:=aD Zs (k:=18) rfl
       obtain⟨Vi,rfl,Zt,H⟩:=H;have Z:=t.add Zi (e:=.box _ _ _) H (fun b hb=>by cases hb;exact⟨Zt,Box.lt H⟩);refine bS (z:=.agg lZ) (sz:=4) (bytes:=32) Y (wn rfl) ⟨rfl,rfl⟩ rfl dT aa rfl rfl (Y.ev rfl) (Y.ev rfl) Z (i:=1) rfl (Z.boxRd (i:=0) rfl) rfl (List.all_eq_true.1 rfl) ⟨ab,by decide⟩ fun P Jw _ _ Y Z=>?_;refine GO 1 ?_;intro _ Y;refine aS Y (wn rfl) ⟨rfl,rfl⟩ (Y.ev rfl) (Y.ev rfl) rfl aa Z (i:=5) rfl rfl rfl fun _ Z=>?_;refine ag (eC ?_);exact⟨rfl,(q.1+1,P,Jw),(List.range_succ).symm,(by show St _ _ _ [.row _ _ _ _ ((jW l (q.1+1)).flatMap bW),_,_,.box r #[.bool (iB l (q.1+1))] _,_,_,_];rw[Cp ab,Cv ab];exact(Z.sub (aB 254)))⟩
      case hB=>kernel_rfl
      case hst=>rfl
    ·
     intro D0 _ Zu q V Y Z;obtain⟨n1,m,c1⟩:=q
     obtain rfl:bn l=n1:=by have:=congrArg List.length V;simpa using this
     replace Z:St [] w Zu [pj D0,.row (.slice m (bn l) c1) (bn l) 116 4 ((jW l (bn l)).flatMap bW),.box g.2 #[ae (11:Nat)] 3,.box g.1 #[.slice (some ⟨c,iN 0 a 2 1,none⟩) (bn l*11) (a-2)] 126,.box r #[.bool (iB l (bn l))] 4,.box E #[.slice m (bn l) c1,.slice none 0 0] 25,.byt c l,.box u #[.slice none 0 0,.slice none 0 0] 25]:=Z;refine GO 7 ?_;intro _ Y;refine sv Y (nU (l:=2+bn l*11) (h:=(bs l).size) (sz:=1) bY aa (Y.ev rfl) (Y.ev rfl) rfl ab ab) fun _ Y=>?_;rw[show(bs l).size-(2+bn l*11)=eA l*7 by omega] at Y;refine cT Y (wn rfl) (aw a6 (Y.evs rfl) rfl) rfl rfl Z (sD _ _ _ 7 au _) fun j _ _ Y Z=>?_;replace Z:=St.nilRow Z 124 3;refine ag (ai (wp_block ?_));refine tv Y Z 127 #[.pointer (some ⟨j.1,0,none⟩),.pointer (some ⟨j.2,0,none⟩)] rfl (enters_of Tryz.func127 aa rfl) (vq c (iN 0 a (2+bn l*11) 1) 7) (List.range (eA l)) (sS 5 c (iN 0 a (2+bn l*11) 1) (eA l) 7 (a-(2+bn l*11)) j.1 j.2 au au ab ab) (fun pre (q:Nat × Option Addr × Nat)=>pre=List.range q.1) (fun (q:Nat × Option Addr × Nat)=>[.row (.slice q.2.1 q.1 q.2.2) q.1 124 3 ((lz l q.1).flatMap cN),.box j.2 #[ae (7:Nat)] 3,.box j.1 #[.slice (some ⟨c,iN 0 a (2+bn l*11) 1,none⟩) (eA l*7) (a-(2+bn l*11))] 126,pj D0,.row (.slice m (bn l) c1) (bn l) 116 4 ((jW l (bn l)).flatMap bW),.box g.2 #[ae (11:Nat)] 3,.box g.1 #[.slice (some ⟨c,iN 0 a 2 1,none⟩) (bn l*11) (a-2)] 126,.box r #[.bool (iB l (bn l)&&jC l q.1)] 4,.box E #[.slice m (bn l) c1,.slice q.2.1 q.1 q.2.2] 25,.byt c l,.box u #[.slice none 0 0,.slice none 0 0] 25]) rfl (fun _=>⟨trivial,trivial,trivial,List.mem_of_getElem? (i:=3) rfl,trivial,trivial,trivial,trivial,trivial,trivial,trivial,trivial⟩) (fun i A S=>⟨S.at_ (i:=2) rfl,S.at_ (i:=1) rfl⟩) ((0,none,0)) (rfl) ((by show St [] w _ [_,_,_,_,_,_,_,.box r #[.bool (iB l (bn l)&&jC l 0)] _,_,_,_];rw[show jC l 0=true from rfl,Bool.and_true];exact Z)) ?_ ?_
     ·
      intro lr pre x rest W _ hx Y;refine vh aa (i7 sG) ?_;refine GO 3 ?_;intro _ Y;refine⟨rfl,fun q _ Zv J=>?_⟩;subst Zv;obtain⟨rfl,O⟩:=rA hx
      have Jv:iN 0 a (2+bn l*11) 1=2+bn l*11:=by unfold iN;rw[if_neg ab];omega
      have T:vq c (iN 0 a (2+bn l*11) 1) 7 q.1=.slice (some ⟨c,2+bn l*11+q.1*7,none⟩) 7 7:=by unfold vq;rw[Jv]
      rw[T] at Y;refine wpIn_block ?_;refine wpIn_seq ?_;refine vh aa (i7 (ic kl)) ?_;refine GO 2 ?_;intro _ Y;apply a8 (x:=decide (((l.getD (2+bn l*11+q.1*7+2) 0).toNat:Int)≤1)) Y J 79 rfl 5 84
      case ht=>
       intro Zj;refine GO 1 ?_;intro _ Y;refine sy Y (ar (i:=2) (sz:=1) bY aa (Y.ev rfl) (Y.ev rfl) ab ab rfl) fun _ Y=>?_;refine aU (v:=bA (l.getD (2+bn l*11+q.1*7+2) 0)) Y (ao Y _ rfl rfl rfl Zj) (lx (Y.ev rfl) ((mH (i:=2) (o:=2+bn l*11+q.1*7) (J.at_ (i:=9) rfl) ab) 0 _ rfl)) rfl rfl fun _ Y=>?_;refine GO 2 ?_;intro _ Y;exact ag ⟨Y.midE 4,J⟩
      case hf=>
       intro Zj;refine GO 5 ?_;intro _ Y;exact ag ⟨Y.midE 4,J⟩
      case h=>
       rintro Jy Qg ⟨Zk,Zw⟩
       refine sw Zk Zw 7 fun _ s=>?_;refine ag (ai ?_);refine yM aa aa (ic kl) ?_;apply tQ Zk [false,false,false,false,false,false,false,false,false,false,false,false,false,false,true] _
       case h=>
        refine GO 1 ?_;intro _ Y;refine qv Y (fun X d=>lx (Y.ev rfl) ((s.grow d).cell (i:=8) rfl rfl)) fun _ Y=>?_;refine GO 1 ?_;intro _ Y;refine nH Y rfl (fun X d=>jX c (2+bn l*11+q.1*7) 7 7 l _ ((s.grow d).at_ (i:=9) rfl) ab ab) fun _ Y=>?_;refine qv Y (fun X d=>cD aa eO (Y.ev rfl) (dz (by have:=n3 l (2+bn l*11+q.1*7);omega))) fun _ Y=>?_;refine GO 1 ?_;intro _ Y;refine qv Y (fun X d=>ar (i:=2) (sz:=1) bY aa (Y.ev rfl) (Y.ev rfl) ab ab rfl) fun _ Y=>?_;refine qv (v:=bA (l.getD (2+bn l*11+q.1*7+2) 0)) Y (fun X d=>lx (Y.ev rfl) ((mH (i:=2) (o:=2+bn l*11+q.1*7) ((s.grow d).at_ (i:=9) rfl) ab) 0 _ rfl)) fun _ Y=>?_;refine GO 2 ?_;intro _ Y;refine qv Y (fun X d=>jN (l:=3) (h:=7) (sz:=1) bY aa (Y.ev rfl) (Y.ev rfl) rfl ab ab ab rfl) fun _ Y=>?_;refine nH Y rfl (fun X d=>lU c (2+bn l*11+q.1*7+3*1) (7-3) (7-3) l _ ((s.grow d).at_ (i:=9) rfl) ab ab ab) fun _ Y=>?_;refine qv Y (fun X d=>cD aa eO (Y.ev rfl) (dz (by have:=xH l (2+bn l*11+q.1*7+3*1);omega))) fun _ Y=>?_;refine qv Y (fun X d=>az (zs:=ri) (pl:=fY) aa aa (Y.evs2 rfl) rfl rfl) fun _ Y=>?_;refine ax ?_;apply eU (k:=14) (deps:=[]) (R:=NewB _ (fun b=>.slice (some ⟨b,0,none⟩) 1 1) _ _) Y rfl rfl rfl NewB.stable (fun X d hΦ=>jm (ec (zc:=ri) (sz:=3) rfl iy aa aa rfl rfl rfl (Y.evs2 rfl) rfl rfl rfl) d.size);intro Va _ Y;refine aT fun _ Zf Zl=>?_;have Z:=s.grow Zf;have K:=aD Zl (k:=14) rfl;obtain⟨Vd,rfl,Zx,K⟩:=K;have Z:=s.add Zf (e:=.box _ _ _) K (fun b hb=>by cases hb;exact⟨Zx,Box.lt K⟩);refine bS (z:=.agg oz) (sz:=3) (bytes:=24) Y (wn rfl) ⟨rfl,rfl⟩ rfl iy aa rfl rfl (Y.ev rfl) (Y.ev rfl) Z (i:=1) rfl (Z.boxRd (i:=0) rfl) rfl (List.all_eq_true.1 rfl) ⟨ab,by decide⟩ fun C y _ _ Y Z=>?_
        refine GO 1 ?_;intro _ Y;refine aS Y (wn rfl) ⟨rfl,rfl⟩ (Y.ev rfl) (Y.ev rfl) rfl aa Z (i:=9) rfl rfl rfl fun _ Z=>?_
        skip
        refine ag (eC ?_);exact⟨rfl,(q.1+1,C,y),(List.range_succ).symm,(by show St _ _ _ [.row _ _ _ _ ((lz l (q.1+1)).flatMap cN),_,_,_,_,_,_,.box r #[.bool (iB l (bn l)&&jC l (q.1+1))] _,_,_,_];rw[Bu ab,CO ab,←Bool.and_assoc];exact(Z.sub (aB 4094)))⟩
       case hB=>kernel_rfl
       case hst=>rfl
     ·
      intro D1 _ Zy q Zv Y Z;obtain⟨n2,B,c2⟩:=q
      obtain rfl:eA l=n2:=by have:=congrArg List.length Zv;simpa using this
      have eT:(eS l).ts.length=bn l:=by show(jW l (bn l)).length=_;unfold jW;simp
      have eD:(eS l).ds.length=eA l:=by show(lz l (eA l)).length=_;unfold lz;simp
      replace Z:St [] w Zy [pj D1,.row (.slice B (eS l).ds.length c2) (eS l).ds.length 124 3 ((eS l).ds.flatMap cN),.box j.2 #[ae (7:Nat)] 3,.box j.1 #[.slice (some ⟨c,iN 0 a (2+bn l*11) 1,none⟩) (eA l*7) (a-(2+bn l*11))] 126,pj D0,.row (.slice m (eS l).ts.length c1) (eS l).ts.length 116 4 ((eS l).ts.flatMap bW),.box g.2 #[ae (11:Nat)] 3,.box g.1 #[.slice (some ⟨c,iN 0 a 2 1,none⟩) (bn l*11) (a-2)] 126,.box r #[.bool (iB l (bn l)&&jC l (eA l))] 4,.box E #[.slice m (eS l).ts.length c1,.slice B (eS l).ds.length c2] 25,.byt c l,.box u #[.slice none 0 0,.slice none 0 0] 25]:=by rw[eT,eD];exact Z
      refine eC (ai (aj (aj ?_)));apply aK Y [false,false,false] _ aa
      case h=>
       refine qv Y (fun X d=>lx (Y.ev rfl) ((Z.grow d).cell (i:=8) rfl rfl)) fun _ Y=>?_;refine iW Y rfl (fun X d=>aX _ _ _) fun _ Y=>?_;refine qv (v:=cc (eS l) m c1 B c2) Y (fun X d=>ah aa aa (Y.ev rfl) ((Z.grow d).cellsAll (i:=9) rfl)) fun _ Y=>?_;refine ax ?_;refine aT fun _ Zm Qb=>?_;have Z:=Z.grow Zm;refine cQ Y rfl Z (dp (eS l) m c1 B c2 _ (Z.rdOf (i:=5) rfl) (Z.rdOf (i:=1) rfl)) fun _ _ Y Z=>?_;refine bV Y (wn rfl) (f:=fun b=>.slice (some ⟨b,0,none⟩) 2 2) (ba dt aa aa (Y.evs2 rfl) rfl rfl rfl au au) rfl rfl Z fun Jz _ _ Qc Y Z=>dn Y rfl (ei (Z.at_ (i:=0) rfl)) fun _ Y=>?_;refine GO 9 ?_;intro _ Y;refine ak (Y.ev rfl) (fun U=>?_) (fun U=>?_)
       ·
        have p:iM l=av [bQ (iB l (bn l)&&jC l (eA l)) 3,cZ (eS l)]:=by unfold iM;rw[if_neg ab,if_neg ab]
        have n:dK l=jI:=by unfold dK;rw[if_neg (by rw[p];simpa using U)]
        refine aj (aq ?_);refine sv Y (az (zs:=mD) (pl:=lM) aa aa (Y.evs2 rfl) rfl rfl) fun _ Y=>?_;refine GO 1 ?_;intro _ Y;refine sw Y Z 12 fun _ Z=>?_;refine GO 5 ?_;intro _ Y;refine xZ Y ?_;refine pS Z (i:=1) rfl (fun _ Z=>?_);refine pS Z (i:=5) rfl (fun _ Z=>?_);refine xK Y (fun _ Y=>?_);refine bZ Y rfl rfl rfl Z (i:=12) rfl aa aa ?_;refine⟨(none,0,none,0),by rw[n,p];rfl,?_⟩;rw[n];exact((Z.sub (List.nil_sublist _)).nilRow 124 3).nilRow 116 4
       ·
        have p:iM l=av [bQ (iB l (bn l)&&jC l (eA l)) 3,cZ (eS l)]:=by unfold iM;rw[if_neg ab,if_neg ab]
        have hz:iM l=0:=by rw[p];simpa using U
        have n:dK l=eS l:=by unfold dK;rw[if_pos hz]
        refine wp_skip (ai (aj (aq ?_)));refine sv Y (ah aa aa (Y.ev rfl) (Z.cellsAll (i:=10) rfl)) fun _ Y=>?_;refine sw Y Z 12 fun _ Z=>?_;refine GO 4 ?_;intro _ Y;refine xZ Y ?_;refine pS Z (i:=1) rfl (fun _ Z=>?_);refine pS Z (i:=5) rfl (fun _ Z=>?_);refine xK Y (fun _ Y=>?_);refine bZ Y rfl rfl rfl Z (i:=12) rfl aa aa ?_;refine⟨(m,c1,B,c2),by rw[n,hz];rfl,?_⟩;rw[n];exact St.swap (Z.sub (aB 68))
      case hB=>kernel_rfl
      case hst=>rfl
 case hB=>kernel_rfl
 case hst=>rfl
open Go.RowKit Go.Sort
def jU {α:Type} (κ:α→Int) (l:List α) (n:Int):Nat:=(l.takeWhile fun x=>decide (κ x<n)).length
theorem yb {α:Type} (p:α→Bool):∀(l:List α) (i:Nat) (a:i≤l.length),(∀k (b:k<l.length),k<i→p l[k]=true)→(∀b:i<l.length,p l[i]=false)→(l.takeWhile p).length=i
 | [],i,a,_,_=>by simp at a ⊢;omega
 | x::l,0,a,_,h2=>by
  have:=h2 bw;rw[List.takeWhile_cons,if_neg (al this)];rfl
 | x::l,i+1,a,h1,h2=>by
  have c:=h1 0 bw ab;rw[List.takeWhile_cons,if_pos (al c),List.length_cons,yb p l i (al a) (fun k b d=>by have:=h1 (k+1) (al b) ab;simpa using this) (fun b=>by have:=h2 (al b);simpa using this)]
def nC {α:Type} (κ:α→Int) (l:List α) (n:Int):Bool:=(cF κ l n).isSome
theorem zq {α:Type} {κ:α→Int} {l:List α} (c:cH κ l) {n:Int} {i:Nat} (o:i≤l.length) (d:∀k (a:k<l.length),k<i→κ l[k]<n) (g:∀a:i<l.length,n≤κ l[i]) :
 jU κ l n=i∧cF κ l n=if h:i<l.length then (if κ l[i]=n then some l[i] else none) else none:=by
 refine⟨yb _ l i o (fun k a e=>decide_eq_true (d k a e)) (fun a=>decide_eq_false (by have:=g a;omega)),?_⟩;unfold cH at c;rw[List.pairwise_iff_getElem] at c
 split
 · rename_i b
   split
   · rename_i m
     have:=iD (κ:=κ) (l:=l) (by unfold cH;rw[List.pairwise_iff_getElem];exact c) (List.getElem_mem b);rw[m] at this;exact this
   · rename_i hne
     refine ef l n fun x hx f=>?_;obtain⟨k,a,rfl⟩:=List.getElem_of_mem hx;have p:=g b;rcases Nat.lt_trichotomy k i with h3 | h3 | h3
     · have:=d k a h3;omega
     · subst h3;omega
     · have:=c i k b a h3;omega
 · rename_i j
   refine ef l n fun x hx f=>?_;obtain⟨k,a,rfl⟩:=List.getElem_of_mem hx;have:=d k a ab;omega
theorem vt (x y:Int) (w:World):gQ 195 #[ae x,ae y] w (ae (Lib.compareInt x y)):=
 (Tryz.cmp_Compare_int x y w).mono fun e c ⟨a,b⟩=>⟨a,b.symm⟩
theorem vN (x:Rcd) (n:Int) (w:World):bu 194 #[iR x,ae n] w (ae (Lib.compareInt x.l n)):=by
 refine an (N:=9) Tryz.func194 rfl rfl rfl (fun _ Y=>?_);have Z:=St.init w;refine aj (aq ?_);refine nb Y rfl rfl Z fun b _ _ a Y Z=>GO 8 ?_;intro _ Y;refine dn Y rfl (vt _ _ _) fun _ Y=>?_;refine GO 4 ?_;intro _ Y;refine aC Y rfl rfl ?_;exact⟨rfl,Z.below⟩
theorem cmpI_neg {x y:Int}:Lib.compareInt x y<0↔x<y:=by unfold Lib.compareInt;split<;>(try split)<;>omega
theorem cmpI_zero {x y:Int}:Lib.compareInt x y=0↔x=y:=by unfold Lib.compareInt;split<;>(try split)<;>omega
theorem Fy {α:Type} (x n:Int) (y:α):(Lib.compareInt x n==0)=(if x=n then some y else none).isSome:=by
 by_cases a:x=n
 · rw[if_pos a,cmpI_zero.2 a];rfl
 · rw[if_neg a,beq_eq_false_iff_ne.2 (mt cmpI_zero.1 a)];rfl
theorem FU (l:List Rcd) (y:cH Rcd.l l) (A:Option Addr) (c:Nat) (n:Int) (w:World) (hr:Rd w w.heap.size A (l.flatMap cB)) (u:l.length≤1000) :
 bu 193 #[.slice A l.length c,ae n,.func (.func 194) #[] #[]] w (.tuple #[ae (jU Rcd.l l n),.bool (nC Rcd.l l n)]):=by
 have z:=List.pairwise_iff_getElem.1 y;refine an (N:=49) Tryz.func193 rfl rfl rfl (fun _ Y=>?_);have Z:=St.init w;refine GO 22 ?_;intro _ Y;refine aV Y Z [8,7,6,0,1,2] (fun (q:Nat × Nat)=>[(9,ae (q.1:Nat)),(10,ae (q.2:Nat))]) (fun (q:Nat × Nat)=>q.1≤q.2∧q.2≤l.length∧(∀k (d:k<l.length),k<q.1→l[k].l<n)∧(∀k (d:k<l.length),q.2≤k→n≤l[k].l)) (fun (q:Nat × Nat) L=>L) (fun (q:Nat × Nat)=>q.2-q.1) ((0,l.length)) (⟨Nat.zero_le _,Nat.le_refl _,fun k _ h=>absurd h (Nat.not_lt_zero _),fun k d h=>by omega⟩) bC (Z) ?_;intro q _ _ f Y Z;refine GO 8 ?_;intro _ Y;refine ak (Y.ev rfl) (fun p=>?_) (fun p=>?_)
 ·
  have C:q.1<q.2:=by have:=of_decide_eq_true p;omega
  have E:=f.2.1;obtain⟨b,o,rfl,hB,_⟩:=hr.opened (aF aI au ab)
  have hm:(q.1+q.2) / 2<l.length:=by omega
  refine GO 8 ?_;intro _ Y;refine sv Y (cD aa Tryz.underlying215 (Y.ev rfl) (wrap_u64 ab)) fun _ Y=>?_;refine sv Y (qh (n:=1) (Y.ev rfl) (Y.ev rfl) rfl ab) fun _ Y=>?_;refine sv Y (aA (v':=ae (((q.1+q.2) / 2:Nat):Int)) (congrArg _ ab) (cD aa eO (Y.ev rfl) (dz ab))) fun _ Y=>?_;refine GO 8 ?_;intro _ Y;refine sv Y (ar (i:=(q.1+q.2) / 2) (sz:=14) gO aa (Y.ev rfl) (Y.ev rfl) ab ab rfl) fun _ Y=>?_;refine sv (v:=iR l[(q.1+q.2) / 2]) Y (ah aa aa (Y.ev rfl) (aL aI (Z.rd0 hr) hm)) fun _ Y=>?_;refine GO 1 ?_;intro _ Y;refine dO Y (wn rfl) (cG a6 (Y.ev rfl) (Y.evs rfl) rfl) rfl rfl Z (vN _ _ _) fun _ _ Y Z=>GO 3 ?_;intro _ Y;refine ak (Y.ev rfl) (fun s=>?_) (fun s=>?_)
  ·
   have hx:l[(q.1+q.2) / 2].l<n:=cmpI_neg.1 (of_decide_eq_true s)
   have t:∀k (d:k<l.length),k≤(q.1+q.2) / 2→l[k].l<n:=fun k d a=>by
    rcases Nat.lt_or_eq_of_le a with h | h
    · have:=z k _ d hm h;omega
    · subst h;exact hx
   refine GO 7 ?_;intro _ Y;exact⟨((q.1+q.2) / 2+1,q.2),(by show q.2-((q.1+q.2) / 2+1)<q.2-q.1;omega),⟨by show(q.1+q.2) / 2+1≤q.2;omega,f.2.1,fun k d a=>t k d (by have:k<(q.1+q.2) / 2+1:=a;omega),f.2.2.2⟩,Y.re bC,Z⟩
  ·
   have hx:n≤l[(q.1+q.2) / 2].l:=by
    have:=mt cmpI_neg.2 (of_decide_eq_false s);omega
   have r:∀k (d:k<l.length),(q.1+q.2) / 2≤k→n≤l[k].l:=fun k d a=>by
    rcases Nat.lt_or_eq_of_le a with h | h
    · have:=z _ k hm d h;omega
    · subst h;exact hx
   refine GO 6 ?_;intro _ Y;exact⟨(q.1,(q.1+q.2) / 2),(by show(q.1+q.2) / 2-q.1<q.2-q.1;omega),⟨by show q.1≤(q.1+q.2) / 2;omega,by show(q.1+q.2) / 2≤l.length;omega,f.2.2.1,fun k d a=>r k d a⟩,Y.re bC,Z⟩
 ·
  have B:q.1=q.2:=by have:=of_decide_eq_false p;have:=f.1;omega
  obtain⟨hb1,j⟩:=zq y (n:=n) (i:=q.1) (by have:=f.2.1;omega) f.2.2.1 (fun d=>f.2.2.2 q.1 d ab);refine GO 12 ?_;intro _ Y;apply a8 (x:=nC Rcd.l l n) Y Z 39 rfl 9 48
  case ht=>
   intro m
   have g:q.1<l.length:=by have:=of_decide_eq_true m;omega
   obtain⟨b,o,rfl,hB,_⟩:=hr.opened (aF aI au ab);refine GO 3 ?_;intro _ Y;refine sy Y (ar (i:=q.1) (sz:=14) gO aa (Y.ev rfl) (Y.ev rfl) ab ab rfl) fun _ Y=>?_;refine aU (v:=iR l[q.1]) Y (ao Y _ rfl rfl rfl m) (ah aa aa (Y.ev rfl) (aL aI (Z.rd0 hr) g)) rfl rfl fun _ Y=>GO 1 ?_;intro _ Y;refine dO Y (ao Y _ rfl rfl rfl m) (cG a6 (Y.ev rfl) (Y.evs rfl) rfl) rfl rfl Z (vN _ _ _) fun _ _ Y Z=>sy Y (aA (v':=.bool (nC Rcd.l l n)) (congrArg Value.bool (by unfold nC;rw[j,dif_pos g];exact Fy _ _ _)) (eV (Y.ev rfl) (Y.ev rfl))) fun _ Y=>?_;refine GO 1 ?_;intro _ Y;exact ag ⟨Y.midE 8,Z⟩
  case hf=>
   intro m;refine GO 9 ?_;intro _ Y;exact ag ⟨Y.midE 8,Z⟩
  case h=>
   rintro D H ⟨G,F⟩
   refine GO 5 ?_;intro _ Y;refine bU Y rfl rfl rfl ?_;refine⟨?_,F.below⟩
   have e:(decide ((q.1:Int)<(l.length:Int))&&nC Rcd.l l n)=nC Rcd.l l n:=by
    unfold nC;rw[j];by_cases h:q.1<l.length
    · rw[decide_eq_true ab];rfl
    · rw[dif_neg h];simp
   rw[e,hb1]
theorem lk {α:Type} {κ:α→Int} {l:List α} (f:cH κ l) {n:Int} (h:nC κ l n=true):∃b:jU κ l n<l.length,κ l[jU κ l n]=n∧cF κ l n=some l[jU κ l n]:=by
 unfold nC at h;obtain⟨x,hx⟩:=Option.isSome_iff_exists.1 h;obtain⟨hm,g⟩:=gr hx;obtain⟨k,b,rfl⟩:=List.getElem_of_mem hm;have a:=f;unfold cH at a;rw[List.pairwise_iff_getElem] at a;have e:jU κ l n=k:=yb _ l k ab (fun j d c=>decide_eq_true (by have:=a j k d b c;omega)) (fun _=>decide_eq_false ab);simp only[e];exact⟨b,g,hx⟩
def Ik (A:Option Addr) (k:Nat):Value:=match A with
 | some a=>.pointer (some ⟨a.block,a.off+k*14+1,none⟩)
 | none=>.pointer none
theorem Cg (l:List Rcd) (f:cH Rcd.l l) (A:Option Addr) (c:Nat) (n:Int) (w:World) (hr:Rd w w.heap.size A (l.flatMap cB)) (a:l.length≤1000) :
 bu 129 #[.slice A l.length c,ae n] w (if nC Rcd.l l n=true then Ik A (jU Rcd.l l n) else .pointer none):=by
 refine an (N:=19) Tryz.func129 rfl rfl rfl (fun _ Y=>?_);have Z:=St.init w;refine GO 9 ?_;intro _ Y;refine cQ Y rfl Z (FU l f A c n _ (Z.rd0 hr) a) fun _ _ Y Z=>?_;refine GO 14 ?_;intro _ Y;refine ak (Y.ev rfl) (fun e=>?_) (fun e=>?_)
 ·
  have d:nC Rcd.l l n=false:=al e;refine GO 7 ?_;intro _ Y;refine aC Y rfl rfl ?_;exact⟨by rw[d];rfl,Z.below⟩
 ·
  have d:nC Rcd.l l n=true:=al e;obtain⟨g,_,_⟩:=lk f d;obtain⟨b,o,rfl,hB,_⟩:=hr.opened (aF aI au ab);refine GO 6 ?_;intro _ Y;refine sv Y (ar (i:=jU Rcd.l l n) (sz:=14) gO aa (Y.ev rfl) (Y.ev rfl) ab ab rfl) fun _ Y=>?_;refine sv Y (fy 1 (Y.ev rfl)) fun _ Y=>?_;refine GO 4 ?_;intro _ Y;refine aC Y rfl rfl ?_;exact⟨by rw[d];rfl,Z.below⟩
def mj (A:Option Addr) (l:List Rcd) (n:Int):Option Addr:=if nC Rcd.l l n=true then A.map (fun a=>⟨a.block,a.off+jU Rcd.l l n*14+1,none⟩) else none
theorem lu (l:List Rcd) (d:cH Rcd.l l) (A:Option Addr) (c:Nat) (n:Int) (w:World) (hr:Rd w w.heap.size A (l.flatMap cB)) (a:l.length≤1000) :
 bu 129 #[.slice A l.length c,ae n] w (.pointer (mj A l n)):=
 (Cg l d A c n w hr a).mono fun e g ⟨b,f⟩=>⟨by rw[b];unfold mj Ik;split<;>cases A<;>rfl,f⟩
theorem dQ {X:World} {B b o k:Nat} {l:List Rcd} (h:Rd X B (some ⟨b,o,none⟩) (l.flatMap cB)) (a:k<l.length):∀(j:Nat) (u:Value),(C8 l[k].e)[j]? = some u→X.cell? ⟨b,o+k*14+1+j,none⟩=some u:=fun j u c=>by
 have:=aL aI h a (1+j) u (by rw[Nat.add_comm];exact c)
 rwa [←Nat.add_assoc] at this
theorem Ih {X:World} {B b o k:Nat} {l:List Rcd} (h:Rd X B (some ⟨b,o,none⟩) (l.flatMap cB)) (f:k<l.length):∀(j:Nat) (u:Value),[Value.int .i64 l[k].e.o.k,ae l[k].e.o.a,ae l[k].e.o.e,ae l[k].e.o.c,.string l[k].e.o.o,.string l[k].e.o.n][j]? = some u→X.cell? ⟨b,o+k*14+1+6+j,none⟩=some u:=fun j u d=>by
 have:=dQ h f (6+j) u (by
  rw[Nat.add_comm]
  match j,d with
  | 0,d=>exact d
  | 1,d=>exact d
  | 2,d=>exact d
  | 3,d=>exact d
  | 4,d=>exact d
  | 5,d=>exact d
  | j+6,d=>simp at d)
 rwa [←Nat.add_assoc] at this
theorem tw {l:List Rcd} (d:cH Rcd.l l) {A:Addr} {n:Int} (h:(mj (some A) l n).isNone=false):∃b:jU Rcd.l l n<l.length,l[jU Rcd.l l n].l=n∧cz l n=some l[jU Rcd.l l n]∧mj (some A) l n=some ⟨A.block,A.off+jU Rcd.l l n*14+1,none⟩:=by
 unfold mj at h ⊢
 split at h
 · rename_i a
   obtain⟨b,c,e⟩:=lk d a;exact⟨b,c,e,by rw[if_pos a];rfl⟩
 · cases h
theorem tI {l:List Rcd} {A:Addr} {n:Int} (h:(mj (some A) l n).isNone=true):cz l n=none:=by
 unfold mj at h
 split at h
 · cases h
 · rename_i a
   unfold nC at a
   rwa [Bool.not_eq_true,Option.isSome_eq_false_iff,Option.isNone_iff_eq_none] at a
end Go.Proofs.YtcfdpfmchchkaaaGreatDoor
