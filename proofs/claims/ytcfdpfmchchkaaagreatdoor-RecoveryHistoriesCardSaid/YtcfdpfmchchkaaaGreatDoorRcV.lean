/-
  Chapter 22: the history of a log, of the program and of the reference.
  Chapter 22: the reference's history of a log; histories compared.
-/
import Derived.Test.YtcfdpfmchchkaaaGreatDoorRcQ0
import Derived.Test.YtcfdpfmchchkaaaGreatDoorRgE
import Derived.Test.YtcfdpfmchchkaaaGreatDoorOpJ
namespace Go.Proofs.YtcfdpfmchchkaaaGreatDoor
set_option maxHeartbeats 1000000
set_option maxRecDepth 4000
set_option linter.unusedVariables false
set_option linter.unusedSimpArgs false
open Go.RowKit Go.Sort Go.Shelf
theorem vo (s:ByteArray):FewE (dM s):=by
 unfold dM
 split
 · rename_i h
   have hs:s.size≤3000:=by
    unfold bZ at h;by_cases q:3000<s.size
    · rw[if_pos q] at h;cases h
    · omega
   have ht:(fh s).size≤3100:=by unfold fh;rw[ByteArray.size_extract];omega
   obtain⟨h1,h2⟩:=sb (fh s) ht;exact⟨h1,h2,by show(s.extract 16 _).size≤100000;rw[ByteArray.size_extract];omega⟩
 · exact⟨Nat.zero_le _,Nat.zero_le _,Nat.zero_le _⟩
def dx (rs:List RecP):List Rcd:=rs.map fun x=>⟨x.l,dM x.b⟩
theorem qJ {rs:List RecP}:∀x∈dx rs,FewE x.e:=fun x hx=>by
 obtain⟨y,_,rfl⟩:=List.mem_map.1 hx;exact vo y.b
theorem mn (rs:List RecP):(dx rs).length=rs.length:=List.length_map ..
theorem vU {rs:List RecP} {j:Nat} (hj:j<rs.length):dx (rs.take (j+1))=dx (rs.take j) ++ [⟨rs[j].l,dM rs[j].b⟩]:=by
 unfold dx;rw[List.take_add_one,List.getElem?_eq_getElem hj,List.map_append];rfl
theorem o6 {rs:List RecP} {j:Nat} (hj:j<rs.length):(dx (rs.take (j+1))).flatMap bA=(dx (rs.take j)).flatMap bA ++ bA ⟨rs[j].l,dM rs[j].b⟩:=by
 rw[vU hj,List.flatMap_append];simp
def lX (rs:List RecP):Int × Int:=cB (fun _ x=>bZ x.b) 0 rs
def gX (r:RngP):List Rcd × Int × Int:=
 if (de r).2≠0 then ([],0,(de r).2) else if (lX r.rs).2≠0 then ([],(lX r.rs).1,(lX r.rs).2)
 else if (dW (dx r.rs)).2≠0 then ([],(dW (dx r.rs)).1,(dW (dx r.rs)).2) else (dx r.rs,r.rs.length,0)
theorem rv {rs:List RecP} {j:Nat} (hj:j<rs.length) (h:∀k (hk:k<rs.length),k<j→bZ rs[k].b=0) (h0:bZ rs[j].b≠0):lX rs=((j:Int),bZ rs[j].b):=by
 have:=cP (fun _ x=>bZ x.b) rs 0 j hj (fun k hk hkj=>h k hk hkj) h0;rw[Nat.zero_add] at this;exact this
theorem nI (r:RngP) (A:Option Addr) (c:Nat) (w:World) (hr:Rd w w.heap.size A (cc r.rs)) (hlen:r.rs.length≤1000) (hx:∀x∈r.rs,I6 x.l) (hb:∀x∈r.rs,x.b.size≤maxLen) (hF:FolT w) :
 Calls Tryz.prog 43 #[cJ r A c] w fun e w'=>∃i:Option Addr × Nat,e=.returned (.tuple #[.slice i.1 (gX r).1.length i.2,.int .i64 (gX r).2.1,.int .i64 (gX r).2.2]) ∧
  St [] w w' [.row (.slice i.1 (gX r).1.length i.2) (gX r).1.length 145 14 ((gX r).1.flatMap bA)]:=by
 have hG:gX r=if (de r).2≠0 then ([],0,(de r).2) else if (lX r.rs).2≠0 then ([],(lX r.rs).1,(lX r.rs).2) else if (dW (dx r.rs)).2≠0 then ([],(dW (dx r.rs)).1,(dW (dx r.rs)).2) else (dx r.rs,r.rs.length,0):=rfl;generalize gX r=G at hG;have hLn:=mn r.rs;refine al (N:=60) Tryz.func43 rfl rfl rfl (fun _ Y=>?_);have Z:=St.init w;refine ah (ao ?_);refine nb Y rfl rfl Z fun b1 _ _ Zi Y Z=>?_;refine GO 8 ?_;intro _ Y;refine sv (v:=cJ r A c) Y (ai aa aa (Y.ev rfl) (Z.cellsAll (i:=0) rfl)) fun _ Y=>?_;refine cE Y rfl Z (nG r A c _ (Z.rd0 hr) hlen hx) fun _ _ Y Z=>?_;refine GO 2 ?_;intro _ h8;refine GO 1 ?_;intro _ h9;refine GO 10 ?_;intro _ Y;refine ak (Y.ev rfl) (fun Zb=>?_) (fun Zb=>?_)
 ·
  rw[if_pos (by simpa using Zb)] at hG;refine GO 10 ?_;intro _ Y;refine jU Y rfl rfl rfl rfl ?_;refine⟨(none,0),by rw[hG];rfl,?_⟩;rw[hG];exact(Z.sub (List.nil_sublist _)).nilRow 145 14
 ·
  rw[if_neg (by simpa using Zb)] at hG;refine GO 5 ?_;intro _ Y;replace Z:=St.nilRow Z 145 14;refine ae (ag (ah (ah (ao ?_))));refine vf Y 7 7 fun _ Y=>?_;refine GO 6 ?_;intro _ Y;refine aY Y Z [24,23] (fun (q:Nat × Option Addr × Nat)=>[(25,.int .i64 (q.1:Nat)),(7,.slice q.2.1 q.1 q.2.2)]) (fun (q:Nat × Option Addr × Nat)=>q.1≤r.rs.length∧∀k (hk:k<r.rs.length),k<q.1→bZ r.rs[k].b=0) (fun q L=>L.set 0 (.row (.slice q.2.1 q.1 q.2.2) q.1 145 14 ((dx (r.rs.take q.1)).flatMap bA))) (fun (q:Nat × Option Addr × Nat)=>r.rs.length-q.1) ((0,none,0)) (⟨Nat.zero_le _,fun k _ h=>absurd h (Nat.not_lt_zero _)⟩) bz (Z) ?_;intro q _ Zf Za Y Z;refine GO 6 ?_;intro _ Y;refine ak (Y.ev rfl) (fun Zc=>?_) (fun Zc=>?_)
  ·
   have hlt:q.1<r.rs.length:=by have:=of_decide_eq_true Zc;omega
   have hbj:=hb _ (List.getElem_mem hlt);obtain⟨b0,o0,rfl,hB,_⟩:=hr.opened (by rw[bB];omega);refine GO 7 ?_;intro _ Y;refine sv Y (au (i:=q.1) (sz:=3) Tryz.underlying71 aa (Y.ev rfl) (Y.ev rfl) ab ab rfl) fun _ Y=>?_;refine sv (v:=pJ r.rs[q.1]) Y (ai aa aa (Y.ev rfl) (recAt (Z.rd0 hr) hlt)) fun _ Y=>?_;refine na (.agg #[.int .i64 0,.int .i64 0,.string ⟨#[]⟩]) Y rfl Z fun b9 _ _ Zj Y Z=>?_;refine GO 1 ?_;intro _ Y;refine sw Y Z 0 fun _ Z=>?_;refine GO 6 ?_;intro _ Y;refine cE Y rfl Z (qT r.rs[q.1].b _ hbj) fun _ _ Y Z=>?_;refine GO 1 ?_;intro _ Y;refine sv (v:=cY (dM r.rs[q.1].b)) Y (bD (Y.ev rfl) rfl) fun _ Y=>?_;refine GO 1 ?_;intro _ Y;refine na (.agg #[.int .i64 0,.int .i64 0,.int .i64 0,.int .i64 0,.int .i64 0,.bool false,.int .i64 0,.int .i64 0,.int .i64 0,.int .i64 0,.string ⟨#[]⟩,.string ⟨#[]⟩,.string ⟨#[]⟩]) Y rfl Z fun b10 _ _ Zg Y Z=>?_;refine sw Y Z 0 fun _ Z=>?_;refine GO 10 ?_;intro _ Y;refine ak (Y.ev rfl) (fun Zd=>?_) (fun Zd=>?_)
   ·
    have hne:bZ r.rs[q.1].b≠0:=by simpa using Zd
    rw[rv hlt Za.2 hne,if_pos hne] at hG;refine GO 16 ?_;intro _ Y;refine jU Y rfl rfl rfl rfl ?_;refine⟨(none,0),by rw[hG];rfl,?_⟩;rw[hG];exact(Z.sub (List.nil_sublist _)).nilRow 145 14
   ·
    have hez:bZ r.rs[q.1].b=0:=by simpa using Zd
    refine GO 6 ?_;intro _ Y;refine sv (v:=cY (dM r.rs[q.1].b)) Y (ai aa aa (Y.ev rfl) (Z.cellsAll (i:=0) rfl)) fun _ Y=>?_;refine sv (v:=ff ⟨r.rs[q.1].l,dM r.rs[q.1].b⟩) Y (ay (zs:=[.int .i64 0,.int .i64 0,.int .i64 0,.int .i64 0,.int .i64 0,.int .i64 0,.bool false,.int .i64 0,.int .i64 0,.int .i64 0,.int .i64 0,.string ⟨#[]⟩,.string ⟨#[]⟩,.string ⟨#[]⟩]) (pl:=[(0,1),(1,13)]) aa aa (Y.evs2 rfl) rfl rfl) fun _ Y=>?_;refine dd (zc:=[.int .i64 0,.int .i64 0,.int .i64 0,.int .i64 0,.int .i64 0,.int .i64 0,.bool false,.int .i64 0,.int .i64 0,.int .i64 0,.int .i64 0,.string ⟨#[]⟩,.string ⟨#[]⟩,.string ⟨#[]⟩]) (sz:=14) Y (wn rfl) ⟨rfl,rfl⟩ rfl Tryz.underlying41 aa aa rfl rfl rfl (Y.evs2 rfl) rfl rfl rfl Z fun b45 _ _ Zh Y Z=>?_;refine bG (z:=.agg #[.int .i64 0,.int .i64 0,.int .i64 0,.int .i64 0,.int .i64 0,.int .i64 0,.bool false,.int .i64 0,.int .i64 0,.int .i64 0,.int .i64 0,.string ⟨#[]⟩,.string ⟨#[]⟩,.string ⟨#[]⟩]) (sz:=14) (bytes:=136) Y (wn rfl) ⟨rfl,rfl⟩ rfl Tryz.underlying41 aa rfl rfl (Y.ev rfl) (Y.ev rfl) Z (i:=3) rfl (Z.boxRd (i:=0) rfl) rfl (List.all_eq_true.1 rfl) ⟨ab,by decide⟩ fun A46 c46 _ _ Y Z=>?_;refine GO 9 ?_;intro _ Y;exact⟨(q.1+1,A46,c46),(by show r.rs.length-(q.1+1)<r.rs.length-q.1;omega),⟨hlt,fun k hk hkj=>by rcases Nat.lt_or_eq_of_le (show k≤q.1 by have:k<q.1+1:=hkj;omega) with h | h;exact Za.2 k hk h;subst h;exact hez⟩,Y.re bz,(by show St [] w _ [.row _ _ _ _ ((dx (r.rs.take (q.1+1))).flatMap bA),_];rw[o6 hlt];exact(Z.sub (.cons _ (.cons _ (.cons _ (.cons_cons _ (.cons_cons _ .slnil)))))))⟩
  ·
   obtain⟨n1,A1,c1⟩:=q
   obtain rfl:n1=r.rs.length:=by have h8:=of_decide_eq_false Zc;have h9:n1≤r.rs.length:=Za.1;change ¬((n1:Int)<_) at h8;omega
   have hz0:(lX r.rs).2=0:=(cu _ _).2 fun k hk=>Za.2 k hk hk;rw[if_neg (fun h=>h hz0)] at hG;have hcap:=gK (Z.at_ (i:=0) rfl);rw[List.take_length] at Z
   replace Z:St [] w Zf [.row (.slice A1 (dx r.rs).length c1) (dx r.rs).length 145 14 ((dx r.rs).flatMap bA)]:=by rw[hLn];exact(Z.sub (.cons_cons _ (.cons _ .slnil)))
   replace Y:=Has.also Y (t:=7) (v:=.slice A1 (dx r.rs).length c1) (by rw[hLn];rfl);refine GO 9 ?_;intro _ Y;refine cE Y rfl Z (eB (dx r.rs) A1 c1 _ (Z.rdOf (i:=0) rfl) ab (by rw[hLn];exact hcap) (hF.below Z.below) qJ) fun _ _ Y Z=>?_;refine GO 13 ?_;intro _ Y;refine ak (Y.ev rfl) (fun Ze=>?_) (fun Ze=>?_)
   ·
    rw[if_pos (by simpa using Ze)] at hG;refine GO 11 ?_;intro _ Y;refine jU Y rfl rfl rfl rfl ?_;refine⟨(none,0),by rw[hG];rfl,?_⟩;rw[hG];exact(Z.sub (List.nil_sublist _)).nilRow 145 14
   ·
    rw[if_neg (by simpa using Ze)] at hG;refine GO 13 ?_;intro _ Y;refine jU Y rfl rfl rfl rfl ?_;refine⟨(A1,c1),by rw[hG];show _=Ending.returned (Value.tuple #[Value.slice A1 (dx r.rs).length c1,Value.int .i64 (r.rs.length:Nat),_]);first | (rw[hLn];done) | (rw[hLn];rfl),?_⟩;rw[hG];exact Z
open Go.RowKit Go.Sort Go.Shelf
theorem qa (r:RngP) (A:Option Addr) (c:Nat) (w:World) (hr:Rd w w.heap.size A (cc r.rs)) (hlen:r.rs.length≤1000) (hx:∀x∈r.rs,I6 x.l) (hb:∀x∈r.rs,x.b.size≤maxLen) :
 Calls Tryz.prog 46 #[cJ r A c] w fun e w'=>∃i:Option Addr × Nat,e=.returned (.tuple #[.slice i.1 (gX r).1.length i.2,.int .i64 (gX r).2.1,.int .i64 (gX r).2.2]) ∧
  St [] w w' [.row (.slice i.1 (gX r).1.length i.2) (gX r).1.length 145 14 ((gX r).1.flatMap bA)]:=by
 have hG:gX r=if (de r).2≠0 then ([],0,(de r).2) else if (lX r.rs).2≠0 then ([],(lX r.rs).1,(lX r.rs).2) else if (dW (dx r.rs)).2≠0 then ([],(dW (dx r.rs)).1,(dW (dx r.rs)).2) else (dx r.rs,r.rs.length,0):=rfl;generalize gX r=G at hG;have hLn:=mn r.rs;refine al (N:=61) Tryz.func46 rfl rfl rfl (fun _ Y=>?_);have Z:=St.init w;refine ah (ao ?_);refine nb Y rfl rfl Z fun b1 _ _ Zl Y Z=>?_;refine GO 8 ?_;intro _ Y;refine sv (v:=cJ r A c) Y (ai aa aa (Y.ev rfl) (Z.cellsAll (i:=0) rfl)) fun _ Y=>?_;refine cE Y rfl Z (pL r A c _ (Z.rd0 hr) hlen hx) fun _ _ Y Z=>?_;refine GO 6 ?_;intro _ h8;refine GO 3 ?_;intro _ h9;refine ak (h9.ev rfl) (fun Ze=>?_) (fun Ze=>?_)
 ·
  rw[if_pos (by simpa using Ze)] at hG;refine GO 10 ?_;intro _ Y;refine jU Y rfl rfl rfl rfl ?_;refine⟨(none,0),by rw[hG];rfl,?_⟩;rw[hG];exact(Z.sub (List.nil_sublist _)).nilRow 145 14
 ·
  rw[if_neg (by simpa using Ze)] at hG;refine GO 5 ?_;intro _ Y;replace Z:=St.nilRow Z 145 14;refine GO 9 ?_;intro _ Y;refine aY Y Z [1] (fun (q:Nat × Option Addr × Nat)=>[(7,.int .i64 (q.1:Nat)),(6,.slice q.2.1 q.1 q.2.2)]) (fun (q:Nat × Option Addr × Nat)=>q.1≤r.rs.length∧∀k (hk:k<r.rs.length),k<q.1→bZ r.rs[k].b=0) (fun q L=>L.set 0 (.row (.slice q.2.1 q.1 q.2.2) q.1 145 14 ((dx (r.rs.take q.1)).flatMap bA))) (fun (q:Nat × Option Addr × Nat)=>r.rs.length-q.1) ((0,none,0)) (⟨Nat.zero_le _,fun k _ h=>absurd h (Nat.not_lt_zero _)⟩) bz (Z) ?_;intro q _ Zk Zd Y Z;refine GO 4 ?_;intro _ Y;refine vf Y 7 7 fun _ Y=>?_;refine GO 5 ?_;intro _ Y;refine ak (Y.ev rfl) (fun Zf=>?_) (fun Zf=>?_)
  ·
   have hlt:q.1<r.rs.length:=by have:=of_decide_eq_true Zf;omega
   have hbj:=hb _ (List.getElem_mem hlt);obtain⟨b0,o0,rfl,hB,_⟩:=hr.opened (by rw[bB];omega);refine wp_skip (ag (ah (wp_block (ah (ao ?_)))));refine vf Y 7 7 fun _ Y=>?_;refine GO 2 ?_;intro _ Y;refine sv Y (au (i:=q.1) (sz:=3) Tryz.underlying71 aa (Y.ev rfl) (Y.ev rfl) ab ab rfl) fun _ Y=>?_;refine sv Y (fy 2 (Y.ev rfl)) fun _ Y=>?_;refine sv Y (lx (Y.ev rfl) ((recAt (Z.rd0 hr) hlt) 2 _ rfl)) fun _ Y=>?_;refine cE Y rfl Z (mF r.rs[q.1].b _ hbj) fun _ _ Y Z=>?_;refine GO 1 ?_;intro _ Y;refine sv (v:=cY (dM r.rs[q.1].b)) Y (bD (Y.ev rfl) rfl) fun _ Y=>?_;refine GO 1 ?_;intro _ Y;refine na (.agg #[.int .i64 0,.int .i64 0,.int .i64 0,.int .i64 0,.int .i64 0,.bool false,.int .i64 0,.int .i64 0,.int .i64 0,.int .i64 0,.string ⟨#[]⟩,.string ⟨#[]⟩,.string ⟨#[]⟩]) Y rfl Z fun b8 _ _ Zm Y Z=>?_;refine sw Y Z 0 fun _ Zb=>?_;refine GO 10 ?_;intro _ Y;refine ak (Y.ev rfl) (fun Zg=>?_) (fun Zg=>?_)
   ·
    have hne:bZ r.rs[q.1].b≠0:=by simpa using Zg
    rw[rv hlt Zd.2 hne,if_pos hne] at hG;refine GO 16 ?_;intro _ Y;refine jU Y rfl rfl rfl rfl ?_;refine⟨(none,0),by rw[hG];rfl,?_⟩;rw[hG];exact(Zb.sub (List.nil_sublist _)).nilRow 145 14
   ·
    have hez:bZ r.rs[q.1].b=0:=by simpa using Zg
    refine wp_skip (ag ?_);apply aH Y [false,false,false,false,false,false,false,false,false,true] _ aa
    case h=>
     refine GO 1 ?_;intro _ Y;refine qv Y (fun X hX=>fx 7 7 (Y.ev rfl)) fun _ Y=>?_;refine GO 2 ?_;intro _ Y;refine qv Y (fun X hX=>au (i:=q.1) (sz:=3) Tryz.underlying71 aa (Y.ev rfl) (Y.ev rfl) ab ab rfl) fun _ Y=>?_;refine qv Y (fun X hX=>fy 0 (Y.ev rfl)) fun _ Y=>?_;refine qv Y (fun X hX=>lx (Y.ev rfl) ((recAt ((Zb.grow hX).rd0 hr) hlt) 0 _ rfl)) fun _ Y=>?_;refine qv (v:=cY (dM r.rs[q.1].b)) Y (fun X hX=>ai aa aa (Y.ev rfl) ((Zb.grow hX).cellsAll (i:=0) rfl)) fun _ Y=>?_;refine qv (v:=ff ⟨r.rs[q.1].l,dM r.rs[q.1].b⟩) Y (fun X hX=>ay (zs:=[.int .i64 0,.int .i64 0,.int .i64 0,.int .i64 0,.int .i64 0,.int .i64 0,.bool false,.int .i64 0,.int .i64 0,.int .i64 0,.int .i64 0,.string ⟨#[]⟩,.string ⟨#[]⟩,.string ⟨#[]⟩]) (pl:=[(0,1),(1,13)]) aa aa (Y.evs2 rfl) rfl rfl) fun _ Y=>?_;refine av ?_;apply gP (k:=9) (deps:=[]) (R:=NewB _ (fun b=>.slice (some ⟨b,0,none⟩) 1 1) _ _) Y rfl rfl rfl NewB.stable (fun X hX hΦ=>jz (eC (zc:=[.int .i64 0,.int .i64 0,.int .i64 0,.int .i64 0,.int .i64 0,.int .i64 0,.bool false,.int .i64 0,.int .i64 0,.int .i64 0,.int .i64 0,.string ⟨#[]⟩,.string ⟨#[]⟩,.string ⟨#[]⟩]) (sz:=14) rfl Tryz.underlying41 aa aa rfl rfl rfl (Y.evs2 rfl) rfl rfl rfl) hX.size);intro v47 _ Y;refine aP fun _ Zc Zh=>?_;have Z:=Zb.grow Zc;have Za:=ba Zh (k:=9) rfl;obtain⟨b47,rfl,Zi,Za⟩:=Za;have Z:=Zb.add Zc (e:=.box _ _ _) Za (fun b hb=>by cases hb;exact⟨Zi,Box.lt Za⟩);refine bG (z:=.agg #[.int .i64 0,.int .i64 0,.int .i64 0,.int .i64 0,.int .i64 0,.int .i64 0,.bool false,.int .i64 0,.int .i64 0,.int .i64 0,.int .i64 0,.string ⟨#[]⟩,.string ⟨#[]⟩,.string ⟨#[]⟩]) (sz:=14) (bytes:=136) Y (wn rfl) ⟨rfl,rfl⟩ rfl Tryz.underlying41 aa rfl rfl (Y.ev rfl) (Y.ev rfl) Z (i:=2) rfl (Z.boxRd (i:=0) rfl) rfl (List.all_eq_true.1 rfl) ⟨ab,by decide⟩ fun A48 c48 _ _ Y Z=>?_
     refine GO 10 ?_;intro _ Y;exact⟨(q.1+1,A48,c48),(by show r.rs.length-(q.1+1)<r.rs.length-q.1;omega),⟨hlt,fun k hk hkj=>by rcases Nat.lt_or_eq_of_le (show k≤q.1 by have:k<q.1+1:=hkj;omega) with h | h;exact Zd.2 k hk h;subst h;exact hez⟩,Y.re bz,(by show St [] w _ [.row _ _ _ _ ((dx (r.rs.take (q.1+1))).flatMap bA),_];rw[o6 hlt];exact(Z.sub (.cons _ (.cons _ (.cons_cons _ (.cons_cons _ .slnil))))))⟩
    case hB=>kernel_rfl
    case hst=>rfl
  ·
   obtain⟨n1,A1,c1⟩:=q
   obtain rfl:n1=r.rs.length:=by have h8:=of_decide_eq_false Zf;have h9:n1≤r.rs.length:=Zd.1;change ¬((n1:Int)<_) at h8;omega
   have hz0:(lX r.rs).2=0:=(cu _ _).2 fun k hk=>Zd.2 k hk hk;rw[if_neg (fun h=>h hz0)] at hG;have hcap:=gK (Z.at_ (i:=0) rfl);rw[List.take_length] at Z
   replace Z:St [] w Zk [.row (.slice A1 (dx r.rs).length c1) (dx r.rs).length 145 14 ((dx r.rs).flatMap bA)]:=by rw[hLn];exact(Z.sub (.cons_cons _ (.cons _ .slnil)))
   replace Y:=Has.also Y (t:=6) (v:=.slice A1 (dx r.rs).length c1) (by rw[hLn];rfl);refine GO 9 ?_;intro _ Y;refine cE Y rfl Z (fV (dx r.rs) A1 c1 _ (Z.rdOf (i:=0) rfl) ab (by rw[hLn];exact hcap) qJ) fun _ _ Y Z=>?_;refine GO 13 ?_;intro _ Y;refine ak (Y.ev rfl) (fun Zj=>?_) (fun Zj=>?_)
   ·
    rw[if_pos (by simpa using Zj)] at hG;refine GO 11 ?_;intro _ Y;refine jU Y rfl rfl rfl rfl ?_;refine⟨(none,0),by rw[hG];rfl,?_⟩;rw[hG];exact(Z.sub (List.nil_sublist _)).nilRow 145 14
   ·
    rw[if_neg (by simpa using Zj)] at hG;refine GO 13 ?_;intro _ Y;refine jU Y rfl rfl rfl rfl ?_;refine⟨(A1,c1),by rw[hG];show _=Ending.returned (Value.tuple #[Value.slice A1 (dx r.rs).length c1,Value.int .i64 (r.rs.length:Nat),_]);first | (rw[hLn];done) | (rw[hLn];rfl),?_⟩;rw[hG];exact Z
theorem Ae (x:Rcd):kO [.int .i64 x.l,.int .i64 x.e.k,.int .i64 x.e.t,.int .i64 x.e.p,.int .i64 x.e.x,.int .i64 x.e.g,.bool x.e.f,.int .i64 x.e.o.k,.int .i64 x.e.o.a,.int .i64 x.e.o.e,.int .i64 x.e.o.c,.string x.e.o.o,.string x.e.o.n,.string x.e.d] [.int .i64 x.l,.int .i64 x.e.k,.int .i64 x.e.t,.int .i64 x.e.p,.int .i64 x.e.x,.int .i64 x.e.g,.bool x.e.f,.int .i64 x.e.o.k,.int .i64 x.e.o.a,.int .i64 x.e.o.e,.int .i64 x.e.o.c,.string x.e.o.o,.string x.e.o.n,.string x.e.d]=true:=by simp[kO,sJ]
theorem tg (l:List Rcd) (A:Option Addr) (c:Nat) (A':Option Addr) (c':Nat) (w:World) (hr:Rd w w.heap.size A (l.flatMap bA)) (hr':Rd w w.heap.size A' (l.flatMap bA)) (hl:l.length≤100000) :
 Calls Tryz.prog 47 #[.slice A l.length c,.slice A' l.length c'] w fun e w'=>e=.returned (.bool true)∧Below w.heap.size w w':=by
 refine al (N:=26) Tryz.func47 rfl rfl rfl (fun _ Y=>?_);have Z:=St.init w;refine GO 15 ?_;intro _ Y;refine iY (Y.ev rfl) (a7) ?_;refine GO 9 ?_;intro _ Y;refine aY Y Z [0,1] (fun (j:Nat)=>[(5,.int .i64 (j:Nat))]) (fun (j:Nat)=>j≤l.length) (fun (j:Nat) L=>L) (fun (j:Nat)=>l.length-j) (0) (Nat.zero_le _) bz (Z) ?_;intro j _ _ Zd Y Z;refine GO 9 ?_;intro _ Y;refine ak (Y.ev rfl) (fun Zb=>?_) (fun Zb=>?_)
 ·
  have hlt:j<l.length:=by have:=of_decide_eq_true Zb;omega
  obtain⟨b,o,rfl,hB,_⟩:=hr.opened (aK aB aq ab);obtain⟨b',o',rfl,hB',_⟩:=hr'.opened (aK aB aq ab);refine wp_skip (ag (ah (wp_block (ah ?_))));apply aH Y (eZ 8) _ aa
  case h=>
   refine GO 2 ?_;intro _ Y;refine qv Y (fun X hX=>au (i:=j) (sz:=14) Tryz.underlying41 aa (Y.ev rfl) (Y.ev rfl) ab ab rfl) fun _ Y=>?_;refine qv (v:=ff l[j]) Y (fun X hX=>ai aa aa (Y.ev rfl) (aW aB ((Z.grow hX).rd0 hr) hlt)) fun _ Y=>?_;refine GO 2 ?_;intro _ Y;refine qv Y (fun X hX=>au (i:=j) (sz:=14) Tryz.underlying41 aa (Y.ev rfl) (Y.ev rfl) ab ab rfl) fun _ Y=>?_;refine qv (v:=ff l[j]) Y (fun X hX=>ai aa aa (Y.ev rfl) (aW aB ((Z.grow hX).rd0 hr') hlt)) fun _ Y=>?_;refine av ?_;refine aP fun _ Za Zc=>?_;have Z:=Z.grow Za;refine sv Y (l4 (ks:=[.i .i64,.i .i64,.i .i64,.i .i64,.i .i64,.i .i64,.b,.i .i64,.i .i64,.i .i64,.i .i64,.s,.s,.s]) aa Tryz.underlying145 aa (Y.ev rfl) (Y.ev rfl) rfl rfl) fun _ Y=>?_;refine ae (ag ?_);refine iY (Y.ev rfl) ((by rw[Ae];rfl)) ?_;refine GO 9 ?_;intro _ Y;exact⟨j+1,ab,hlt,Y.re bz,Z⟩
  case hB=>kernel_rfl
  case hst=>rfl
 ·
  refine GO 11 ?_;intro _ Y;refine aD Y rfl rfl ?_;exact⟨rfl,Z.below⟩
end Go.Proofs.YtcfdpfmchchkaaaGreatDoor
