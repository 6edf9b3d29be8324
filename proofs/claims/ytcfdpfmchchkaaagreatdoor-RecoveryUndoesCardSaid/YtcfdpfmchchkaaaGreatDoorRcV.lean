/- Chapter 22 -/
import Derived.Test.YtcfdpfmchchkaaaGreatDoorRcQ0
import Derived.Test.YtcfdpfmchchkaaaGreatDoorRgE
import Derived.Test.YtcfdpfmchchkaaaGreatDoorOpJ
namespace Go.Proofs.YtcfdpfmchchkaaaGreatDoor
set_option maxHeartbeats 1000000
set_option maxRecDepth 4000
set_option linter.unusedVariables false
set_option linter.unusedSimpArgs false
open Go.RowKit Go.Sort Go.Shelf
theorem Am (s:ByteArray):FewE (ft s):=by
 unfold ft
 split
 · rename_i h
   have c:s.size≤3000:=by
    unfold cX at h;by_cases q:3000<s.size
    · rw[if_pos q] at h;cases h
    · omega
   have ht:(gW s).size≤3100:=by unfold gW;rw[ByteArray.size_extract];omega
   obtain⟨a,b⟩:=vK (gW s) ht;exact⟨a,b,by show(s.extract 16 _).size≤100000;rw[ByteArray.size_extract];omega⟩
 · exact⟨Nat.zero_le _,Nat.zero_le _,Nat.zero_le _⟩
def dM (rs:List RecP):List Rcd:=rs.map fun x=>⟨x.l,ft x.b⟩
theorem mN {rs:List RecP}:∀x∈dM rs,FewE x.e:=fun x hx=>by
 obtain⟨y,_,rfl⟩:=List.mem_map.1 hx;exact Am y.b
theorem ra (rs:List RecP):(dM rs).length=rs.length:=List.length_map ..
theorem A4 {rs:List RecP} {j:Nat} (a:j<rs.length):dM (rs.take (j+1))=dM (rs.take j) ++ [⟨rs[j].l,ft rs[j].b⟩]:=by
 unfold dM;rw[List.take_add_one,List.getElem?_eq_getElem a,List.map_append];rfl
theorem sX {rs:List RecP} {j:Nat} (a:j<rs.length):(dM (rs.take (j+1))).flatMap cB=(dM (rs.take j)).flatMap cB ++ cB ⟨rs[j].l,ft rs[j].b⟩:=by
 rw[A4 a,List.flatMap_append];simp
def nS (rs:List RecP):Int × Int:=df (fun _ x=>cX x.b) 0 rs
def cC (r:RngP):List Rcd × Int × Int:=
 if (cn r).2≠0 then ([],0,(cn r).2) else if (nS r.rs).2≠0 then ([],(nS r.rs).1,(nS r.rs).2)
 else if (fh (dM r.rs)).2≠0 then ([],(fh (dM r.rs)).1,(fh (dM r.rs)).2) else (dM r.rs,r.rs.length,0)
theorem wZ {rs:List RecP} {j:Nat} (e:j<rs.length) (h:∀k (c:k<rs.length),k<j→cX rs[k].b=0) (d:cX rs[j].b≠0):nS rs=((j:Int),cX rs[j].b):=by
 have:=dU (fun _ x=>cX x.b) rs 0 j e (fun k c a=>h k c a) d;rw[Nat.zero_add] at this;exact this
theorem sg (r:RngP) (A:Option Addr) (c:Nat) (w:World) (hr:Rd w w.heap.size A (aW r.rs)) (n:r.rs.length≤1000) (hx:∀x∈r.rs,I6 x.l) (O:∀x∈r.rs,x.b.size≤maxLen) (hF:FolT w) :
 Calls Tryz.prog 43 #[bm r A c] w fun e Q=>∃i:Option Addr × Nat,e=.returned (.tuple #[.slice i.1 (cC r).1.length i.2,ae (cC r).2.1,ae (cC r).2.2]) ∧
  St [] w Q [.row (.slice i.1 (cC r).1.length i.2) (cC r).1.length 145 14 ((cC r).1.flatMap cB)]:=by
 have a:cC r=if (cn r).2≠0 then ([],0,(cn r).2) else if (nS r.rs).2≠0 then ([],(nS r.rs).1,(nS r.rs).2) else if (fh (dM r.rs)).2≠0 then ([],(fh (dM r.rs)).1,(fh (dM r.rs)).2) else (dM r.rs,r.rs.length,0):=rfl;generalize cC r=G at a;have f:=ra r.rs;refine an (N:=60) Tryz.func43 rfl rfl rfl (fun _ Y=>?_);have Z:=St.init w;refine aj (aq ?_);refine nb Y rfl rfl Z fun b1 _ _ T Y Z=>GO 8 ?_;intro _ Y;refine sv (v:=bm r A c) Y (ah aa aa (Y.ev rfl) (Z.cellsAll (i:=0) rfl)) fun _ Y=>?_;refine cQ Y rfl Z (lK r A c _ (Z.rd0 hr) n hx) fun _ _ Y Z=>?_;refine GO 2 ?_;intro _ I;refine GO 1 ?_;intro _ M;refine GO 10 ?_;intro _ Y;refine ak (Y.ev rfl) (fun B=>?_) (fun B=>?_)
 ·
  rw[if_pos (al B)] at a;refine GO 10 ?_;intro _ Y;refine mh Y rfl rfl rfl rfl ?_;refine⟨(none,0),by rw[a];rfl,?_⟩;rw[a];exact(Z.sub (List.nil_sublist _)).nilRow 145 14
 ·
  rw[if_neg (al B)] at a;refine GO 5 ?_;intro _ Y;replace Z:=St.nilRow Z 145 14;refine ag (ai (aj (aj (aq ?_))));refine vf Y 7 7 fun _ Y=>?_;refine GO 6 ?_;intro _ Y;refine aV Y Z [24,23] (fun (q:Nat × Option Addr × Nat)=>[(25,ae (q.1:Nat)),(7,.slice q.2.1 q.1 q.2.2)]) (fun (q:Nat × Option Addr × Nat)=>q.1≤r.rs.length∧∀k (g:k<r.rs.length),k<q.1→cX r.rs[k].b=0) (fun q L=>L.set 0 (.row (.slice q.2.1 q.1 q.2.2) q.1 145 14 ((dM (r.rs.take q.1)).flatMap cB))) (fun (q:Nat × Option Addr × Nat)=>r.rs.length-q.1) ((0,none,0)) (⟨Nat.zero_le _,fun k _ h=>absurd h (Nat.not_lt_zero _)⟩) bC (Z) ?_;intro q _ P o Y Z;refine GO 6 ?_;intro _ Y;refine ak (Y.ev rfl) (fun p=>?_) (fun p=>?_)
  ·
   have d:q.1<r.rs.length:=by have:=of_decide_eq_true p;omega
   have D:=O _ (List.getElem_mem d);obtain⟨X,R,rfl,hB,_⟩:=hr.opened (by rw[bF];omega);refine GO 7 ?_;intro _ Y;refine sv Y (ar (i:=q.1) (sz:=3) dv aa (Y.ev rfl) (Y.ev rfl) ab ab rfl) fun _ Y=>?_;refine sv (v:=l8 r.rs[q.1]) Y (ah aa aa (Y.ev rfl) (recAt (Z.rd0 hr) d)) fun _ Y=>?_;refine na (.agg kr) Y rfl Z fun S _ _ V Y Z=>?_;refine GO 1 ?_;intro _ Y;refine sw Y Z 0 fun _ Z=>?_;refine GO 6 ?_;intro _ Y;refine cQ Y rfl Z (wG r.rs[q.1].b _ D) fun _ _ Y Z=>?_;refine GO 1 ?_;intro _ Y;refine sv (v:=cy (ft r.rs[q.1].b)) Y (bN (Y.ev rfl) rfl) fun _ Y=>?_;refine GO 1 ?_;intro _ Y;refine na (.agg sc) Y rfl Z fun J _ _ U Y Z=>?_;refine sw Y Z 0 fun _ Z=>?_;refine GO 10 ?_;intro _ Y;refine ak (Y.ev rfl) (fun F=>?_) (fun F=>?_)
   ·
    have hne:cX r.rs[q.1].b≠0:=al F;rw[wZ d o.2 hne,if_pos hne] at a;refine GO 16 ?_;intro _ Y;refine mh Y rfl rfl rfl rfl ?_;refine⟨(none,0),by rw[a];rfl,?_⟩;rw[a];exact(Z.sub (List.nil_sublist _)).nilRow 145 14
   ·
    have s:cX r.rs[q.1].b=0:=al F;refine GO 6 ?_;intro _ Y;refine sv (v:=cy (ft r.rs[q.1].b)) Y (ah aa aa (Y.ev rfl) (Z.cellsAll (i:=0) rfl)) fun _ Y=>?_;refine sv (v:=iR ⟨r.rs[q.1].l,ft r.rs[q.1].b⟩) Y (az (zs:=mE) (pl:=tC) aa aa (Y.evs2 rfl) rfl rfl) fun _ Y=>?_;refine dc (zc:=mE) (sz:=14) Y (wn rfl) ⟨rfl,rfl⟩ rfl cO aa aa rfl rfl rfl (Y.evs2 rfl) rfl rfl rfl Z fun K _ _ W Y Z=>bS (z:=.agg mi) (sz:=14) (bytes:=136) Y (wn rfl) ⟨rfl,rfl⟩ rfl cO aa rfl rfl (Y.ev rfl) (Y.ev rfl) Z (i:=3) rfl (Z.boxRd (i:=0) rfl) rfl (List.all_eq_true.1 rfl) ⟨ab,by decide⟩ fun E H _ _ Y Z=>?_;refine GO 9 ?_;intro _ Y;exact⟨(q.1+1,E,H),(by show r.rs.length-(q.1+1)<r.rs.length-q.1;omega),⟨d,fun k g u=>by rcases Nat.lt_or_eq_of_le (show k≤q.1 by have:k<q.1+1:=u;omega) with h | h;exact o.2 k g h;subst h;exact s⟩,Y.re bC,(by show St [] w _ [.row _ _ _ _ ((dM (r.rs.take (q.1+1))).flatMap cB),_];rw[sX d];exact(Z.sub (aB 24)))⟩
  ·
   obtain⟨n1,j,c1⟩:=q
   obtain rfl:n1=r.rs.length:=by have I:=of_decide_eq_false p;have M:n1≤r.rs.length:=o.1;change ¬((n1:Int)<_) at I;omega
   have C:(nS r.rs).2=0:=(cK _ _).2 fun k g=>o.2 k g g;rw[if_neg (fun h=>h C)] at a;have m:=lp (Z.at_ (i:=0) rfl);rw[List.take_length] at Z
   replace Z:St [] w P [.row (.slice j (dM r.rs).length c1) (dM r.rs).length 145 14 ((dM r.rs).flatMap cB)]:=by rw[f];exact(Z.sub (aB 1))
   replace Y:=Has.also Y (t:=7) (v:=.slice j (dM r.rs).length c1) (by rw[f];rfl);refine GO 9 ?_;intro _ Y;refine cQ Y rfl Z (jz (dM r.rs) j c1 _ (Z.rdOf (i:=0) rfl) ab (by rw[f];exact m) (hF.below Z.below) mN) fun _ _ Y Z=>?_;refine GO 13 ?_;intro _ Y;refine ak (Y.ev rfl) (fun y=>?_) (fun y=>?_)
   ·
    rw[if_pos (al y)] at a;refine GO 11 ?_;intro _ Y;refine mh Y rfl rfl rfl rfl ?_;refine⟨(none,0),by rw[a];rfl,?_⟩;rw[a];exact(Z.sub (List.nil_sublist _)).nilRow 145 14
   ·
    rw[if_neg (al y)] at a;refine GO 13 ?_;intro _ Y;refine mh Y rfl rfl rfl rfl ?_;refine⟨(j,c1),by rw[a];show _=Ending.returned (Value.tuple #[Value.slice j (dM r.rs).length c1,Value.int .i64 (r.rs.length:Nat),_]);first | (rw[f];done) | (rw[f];rfl),?_⟩;rw[a];exact Z
open Go.RowKit Go.Sort Go.Shelf
theorem ua (r:RngP) (A:Option Addr) (c:Nat) (w:World) (hr:Rd w w.heap.size A (aW r.rs)) (p:r.rs.length≤1000) (hx:∀x∈r.rs,I6 x.l) (I:∀x∈r.rs,x.b.size≤maxLen) :
 Calls Tryz.prog 46 #[bm r A c] w fun e W=>∃i:Option Addr × Nat,e=.returned (.tuple #[.slice i.1 (cC r).1.length i.2,ae (cC r).2.1,ae (cC r).2.2]) ∧
  St [] w W [.row (.slice i.1 (cC r).1.length i.2) (cC r).1.length 145 14 ((cC r).1.flatMap cB)]:=by
 have a:cC r=if (cn r).2≠0 then ([],0,(cn r).2) else if (nS r.rs).2≠0 then ([],(nS r.rs).1,(nS r.rs).2) else if (fh (dM r.rs)).2≠0 then ([],(fh (dM r.rs)).1,(fh (dM r.rs)).2) else (dM r.rs,r.rs.length,0):=rfl;generalize cC r=G at a;have f:=ra r.rs;refine an (N:=61) Tryz.func46 rfl rfl rfl (fun _ Y=>?_);have Z:=St.init w;refine aj (aq ?_);refine nb Y rfl rfl Z fun b1 _ _ Zl Y Z=>GO 8 ?_;intro _ Y;refine sv (v:=bm r A c) Y (ah aa aa (Y.ev rfl) (Z.cellsAll (i:=0) rfl)) fun _ Y=>?_;refine cQ Y rfl Z (uw r A c _ (Z.rd0 hr) p hx) fun _ _ Y Z=>?_;refine GO 6 ?_;intro _ Q;refine GO 3 ?_;intro _ P;refine ak (P.ev rfl) (fun E=>?_) (fun E=>?_)
 ·
  rw[if_pos (al E)] at a;refine GO 10 ?_;intro _ Y;refine mh Y rfl rfl rfl rfl ?_;refine⟨(none,0),by rw[a];rfl,?_⟩;rw[a];exact(Z.sub (List.nil_sublist _)).nilRow 145 14
 ·
  rw[if_neg (al E)] at a;refine GO 5 ?_;intro _ Y;replace Z:=St.nilRow Z 145 14;refine GO 9 ?_;intro _ Y;refine aV Y Z [1] (fun (q:Nat × Option Addr × Nat)=>[(7,ae (q.1:Nat)),(6,.slice q.2.1 q.1 q.2.2)]) (fun (q:Nat × Option Addr × Nat)=>q.1≤r.rs.length∧∀k (j:k<r.rs.length),k<q.1→cX r.rs[k].b=0) (fun q L=>L.set 0 (.row (.slice q.2.1 q.1 q.2.2) q.1 145 14 ((dM (r.rs.take q.1)).flatMap cB))) (fun (q:Nat × Option Addr × Nat)=>r.rs.length-q.1) ((0,none,0)) (⟨Nat.zero_le _,fun k _ h=>absurd h (Nat.not_lt_zero _)⟩) bC (Z) ?_;intro q _ Zk u Y Z;refine GO 4 ?_;intro _ Y;refine vf Y 7 7 fun _ Y=>?_;refine GO 5 ?_;intro _ Y;refine ak (Y.ev rfl) (fun J=>?_) (fun J=>?_)
  ·
   have d:q.1<r.rs.length:=by have:=of_decide_eq_true J;omega
   have K:=I _ (List.getElem_mem d);obtain⟨b0,o0,rfl,hB,_⟩:=hr.opened (by rw[bF];omega);refine wp_skip (ai (aj (wp_block (aj (aq ?_)))));refine vf Y 7 7 fun _ Y=>?_;refine GO 2 ?_;intro _ Y;refine sv Y (ar (i:=q.1) (sz:=3) dv aa (Y.ev rfl) (Y.ev rfl) ab ab rfl) fun _ Y=>?_;refine sv Y (fy 2 (Y.ev rfl)) fun _ Y=>?_;refine sv Y (lx (Y.ev rfl) ((recAt (Z.rd0 hr) d) 2 _ rfl)) fun _ Y=>?_;refine cQ Y rfl Z (pX r.rs[q.1].b _ K) fun _ _ Y Z=>?_;refine GO 1 ?_;intro _ Y;refine sv (v:=cy (ft r.rs[q.1].b)) Y (bN (Y.ev rfl) rfl) fun _ Y=>?_;refine GO 1 ?_;intro _ Y;refine na (.agg sc) Y rfl Z fun b8 _ _ Zm Y Z=>?_;refine sw Y Z 0 fun _ o=>?_;refine GO 10 ?_;intro _ Y;refine ak (Y.ev rfl) (fun F=>?_) (fun F=>?_)
   ·
    have hne:cX r.rs[q.1].b≠0:=al F;rw[wZ d u.2 hne,if_pos hne] at a;refine GO 16 ?_;intro _ Y;refine mh Y rfl rfl rfl rfl ?_;refine⟨(none,0),by rw[a];rfl,?_⟩;rw[a];exact(o.sub (List.nil_sublist _)).nilRow 145 14
   ·
    have y:cX r.rs[q.1].b=0:=al F;refine wp_skip (ai ?_);apply aK Y [false,false,false,false,false,false,false,false,false,true] _ aa
    case h=>
     refine GO 1 ?_;intro _ Y;refine qv Y (fun X g=>fx 7 7 (Y.ev rfl)) fun _ Y=>?_;refine GO 2 ?_;intro _ Y;refine qv Y (fun X g=>ar (i:=q.1) (sz:=3) dv aa (Y.ev rfl) (Y.ev rfl) ab ab rfl) fun _ Y=>?_;refine qv Y (fun X g=>fy 0 (Y.ev rfl)) fun _ Y=>?_;refine qv Y (fun X g=>lx (Y.ev rfl) ((recAt ((o.grow g).rd0 hr) d) 0 _ rfl)) fun _ Y=>?_;refine qv (v:=cy (ft r.rs[q.1].b)) Y (fun X g=>ah aa aa (Y.ev rfl) ((o.grow g).cellsAll (i:=0) rfl)) fun _ Y=>?_;refine qv (v:=iR ⟨r.rs[q.1].l,ft r.rs[q.1].b⟩) Y (fun X g=>az (zs:=mE) (pl:=tC) aa aa (Y.evs2 rfl) rfl rfl) fun _ Y=>?_;refine ax ?_;apply eU (k:=9) (deps:=[]) (R:=NewB _ (fun b=>.slice (some ⟨b,0,none⟩) 1 1) _ _) Y rfl rfl rfl NewB.stable (fun X g hΦ=>jm (ec (zc:=mE) (sz:=14) rfl cO aa aa rfl rfl rfl (Y.evs2 rfl) rfl rfl rfl) g.size);intro U _ Y;refine aT fun _ O T=>?_;have Z:=o.grow O;have s:=aD T (k:=9) rfl;obtain⟨V,rfl,S,s⟩:=s;have Z:=o.add O (e:=.box _ _ _) s (fun b I=>by cases I;exact⟨S,Box.lt s⟩);refine bS (z:=.agg mi) (sz:=14) (bytes:=136) Y (wn rfl) ⟨rfl,rfl⟩ rfl cO aa rfl rfl (Y.ev rfl) (Y.ev rfl) Z (i:=2) rfl (Z.boxRd (i:=0) rfl) rfl (List.all_eq_true.1 rfl) ⟨ab,by decide⟩ fun B D _ _ Y Z=>?_;refine GO 10 ?_;intro _ Y;exact⟨(q.1+1,B,D),(by show r.rs.length-(q.1+1)<r.rs.length-q.1;omega),⟨d,fun k j C=>by rcases Nat.lt_or_eq_of_le (show k≤q.1 by have:k<q.1+1:=C;omega) with h | h;exact u.2 k j h;subst h;exact y⟩,Y.re bC,(by show St [] w _ [.row _ _ _ _ ((dM (r.rs.take (q.1+1))).flatMap cB),_];rw[sX d];exact(Z.sub (aB 12)))⟩
    case hB=>kernel_rfl
    case hst=>rfl
  ·
   obtain⟨n1,m,c1⟩:=q
   obtain rfl:n1=r.rs.length:=by have Q:=of_decide_eq_false J;have P:n1≤r.rs.length:=u.1;change ¬((n1:Int)<_) at Q;omega
   have H:(nS r.rs).2=0:=(cK _ _).2 fun k j=>u.2 k j j;rw[if_neg (fun h=>h H)] at a;have n:=lp (Z.at_ (i:=0) rfl);rw[List.take_length] at Z
   replace Z:St [] w Zk [.row (.slice m (dM r.rs).length c1) (dM r.rs).length 145 14 ((dM r.rs).flatMap cB)]:=by rw[f];exact(Z.sub (aB 1))
   replace Y:=Has.also Y (t:=6) (v:=.slice m (dM r.rs).length c1) (by rw[f];rfl);refine GO 9 ?_;intro _ Y;refine cQ Y rfl Z (nn (dM r.rs) m c1 _ (Z.rdOf (i:=0) rfl) ab (by rw[f];exact n) mN) fun _ _ Y Z=>?_;refine GO 13 ?_;intro _ Y;refine ak (Y.ev rfl) (fun M=>?_) (fun M=>?_)
   ·
    rw[if_pos (al M)] at a;refine GO 11 ?_;intro _ Y;refine mh Y rfl rfl rfl rfl ?_;refine⟨(none,0),by rw[a];rfl,?_⟩;rw[a];exact(Z.sub (List.nil_sublist _)).nilRow 145 14
   ·
    rw[if_neg (al M)] at a;refine GO 13 ?_;intro _ Y;refine mh Y rfl rfl rfl rfl ?_;refine⟨(m,c1),by rw[a];show _=Ending.returned (Value.tuple #[Value.slice m (dM r.rs).length c1,Value.int .i64 (r.rs.length:Nat),_]);first | (rw[f];done) | (rw[f];rfl),?_⟩;rw[a];exact Z
end Go.Proofs.YtcfdpfmchchkaaaGreatDoor
