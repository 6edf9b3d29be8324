/- Chapter 22 -/
import Derived.Test.YtcfdpfmchchkaaaGreatDoorRcQ0
import Derived.Test.YtcfdpfmchchkaaaGreatDoorRgE
import Derived.Test.YtcfdpfmchchkaaaGreatDoorOpJ
namespace Go.Proofs.YtcfdpfmchchkaaaGreatDoor
set_option maxHeartbeats 1000000
set_option maxRecDepth 4000
set_option linter.unusedVariables false
set_option linter.unusedSimpArgs false
open Go.RowKit Go.Sort Go.Shelf
theorem zZ (s:ByteArray):FewE (dW s):=by
 unfold dW
 split
 · rename_i h
   have c:s.size≤3000:=by
    unfold cx at h;by_cases q:3000<s.size
    · rw[if_pos q] at h;cases h
    · omega
   have ht:(fc s).size≤3100:=by unfold fc;rw[ByteArray.size_extract];omega
   obtain⟨b,a⟩:=uj (fc s) ht;exact⟨b,a,by show(s.extract 16 _).size≤100000;rw[ByteArray.size_extract];omega⟩
 · exact⟨Nat.zero_le _,Nat.zero_le _,Nat.zero_le _⟩
def dy (rs:List RecP):List Rcd:=rs.map fun x=>⟨x.l,dW x.b⟩
theorem pE {rs:List RecP}:∀x∈dy rs,FewE x.e:=fun x hx=>by
 obtain⟨y,_,rfl⟩:=List.mem_map.1 hx;exact zZ y.b
theorem ql (rs:List RecP):(dy rs).length=rs.length:=List.length_map ..
theorem zv {rs:List RecP} {j:Nat} (a:j<rs.length):dy (rs.take (j+1))=dy (rs.take j) ++ [⟨rs[j].l,dW rs[j].b⟩]:=by
 unfold dy;rw[List.take_add_one,List.getElem?_eq_getElem a,List.map_append];rfl
theorem rQ {rs:List RecP} {j:Nat} (a:j<rs.length):(dy (rs.take (j+1))).flatMap cm=(dy (rs.take j)).flatMap cm ++ cm ⟨rs[j].l,dW rs[j].b⟩:=by
 rw[zv a,List.flatMap_append];simp
def ni (rs:List RecP):Int × Int:=di (fun _ x=>cx x.b) 0 rs
def cO (r:RngP):List Rcd × Int × Int:=
 if (bJ r).2≠0 then ([],0,(bJ r).2) else if (ni r.rs).2≠0 then ([],(ni r.rs).1,(ni r.rs).2)
 else if (eA (dy r.rs)).2≠0 then ([],(eA (dy r.rs)).1,(eA (dy r.rs)).2) else (dy r.rs,r.rs.length,0)
theorem wa {rs:List RecP} {j:Nat} (d:j<rs.length) (h:∀k (c:k<rs.length),k<j→cx rs[k].b=0) (e:cx rs[j].b≠0):ni rs=((j:Int),cx rs[j].b):=by
 have:=dB (fun _ x=>cx x.b) rs 0 j d (fun k c a=>h k c a) e;rw[Nat.zero_add] at this;exact this
theorem q6 (r:RngP) (A:Option Addr) (c:Nat) (w:World) (hr:Rd w w.heap.size A (aJ r.rs)) (g:r.rs.length≤1000) (hx:∀x∈r.rs,I6 x.l) (Q:∀x∈r.rs,x.b.size≤maxLen) (hF:FolT w) :
 Calls Tryz.prog 43 #[a7 r A c] w fun e K=>∃i:Option Addr × Nat,e=.returned (.tuple #[.slice i.1 (cO r).1.length i.2,ae (cO r).2.1,ae (cO r).2.2]) ∧
  St [] w K [.row (.slice i.1 (cO r).1.length i.2) (cO r).1.length 145 14 ((cO r).1.flatMap cm)]:=by
 have a:cO r=if (bJ r).2≠0 then ([],0,(bJ r).2) else if (ni r.rs).2≠0 then ([],(ni r.rs).1,(ni r.rs).2) else if (eA (dy r.rs)).2≠0 then ([],(eA (dy r.rs)).1,(eA (dy r.rs)).2) else (dy r.rs,r.rs.length,0):=rfl;generalize cO r=G at a;have f:=ql r.rs;refine aq (N:=60) Tryz.func43 rfl rfl rfl (fun _ Y=>?_);have Z:=St.init w;refine ai (an ?_);refine nb Y rfl rfl Z fun b1 _ _ W Y Z=>GO 8 ?_;intro _ Y;refine sv (v:=a7 r A c) Y (ag aa aa (Y.ev rfl) (Z.cellsAll (i:=0) rfl)) fun _ Y=>?_;refine cN Y rfl Z (kN r A c _ (Z.rd0 hr) g hx) fun _ _ Y Z=>?_;refine GO 2 ?_;intro _ J;refine GO 1 ?_;intro _ R;refine GO 10 ?_;intro _ Y;refine ak (Y.ev rfl) (fun y=>?_) (fun y=>?_)
 ·
  rw[if_pos (ar y)] at a;refine GO 10 ?_;intro _ Y;refine lE Y rfl rfl rfl rfl ?_;refine⟨(none,0),by rw[a];rfl,?_⟩;rw[a];exact(Z.sub (List.nil_sublist _)).nilRow 145 14
 ·
  rw[if_neg (ar y)] at a;refine GO 5 ?_;intro _ Y;replace Z:=St.nilRow Z 145 14;refine ah (aj (ai (ai (an ?_))));refine vf Y 7 7 fun _ Y=>?_;refine GO 6 ?_;intro _ Y;refine aY Y Z [24,23] (fun (q:Nat × Option Addr × Nat)=>[(25,ae (q.1:Nat)),(7,.slice q.2.1 q.1 q.2.2)]) (fun (q:Nat × Option Addr × Nat)=>q.1≤r.rs.length∧∀k (n:k<r.rs.length),k<q.1→cx r.rs[k].b=0) (fun q L=>L.set 0 (.row (.slice q.2.1 q.1 q.2.2) q.1 145 14 ((dy (r.rs.take q.1)).flatMap cm))) (fun (q:Nat × Option Addr × Nat)=>r.rs.length-q.1) ((0,none,0)) (⟨Nat.zero_le _,fun k _ h=>absurd h (Nat.not_lt_zero _)⟩) bN (Z) ?_;intro q _ M p Y Z;refine GO 6 ?_;intro _ Y;refine ak (Y.ev rfl) (fun D=>?_) (fun D=>?_)
  ·
   have d:q.1<r.rs.length:=by have:=of_decide_eq_true D;omega
   have B:=Q _ (List.getElem_mem d);obtain⟨b0,T,rfl,hB,_⟩:=hr.opened (by rw[bw];omega);refine GO 7 ?_;intro _ Y;refine sv Y (av (i:=q.1) (sz:=3) cv aa (Y.ev rfl) (Y.ev rfl) ab ab rfl) fun _ Y=>?_;refine sv (v:=ik r.rs[q.1]) Y (ag aa aa (Y.ev rfl) (recAt (Z.rd0 hr) d)) fun _ Y=>?_;refine na (.agg ia) Y rfl Z fun X _ _ U Y Z=>?_;refine GO 1 ?_;intro _ Y;refine sw Y Z 0 fun _ Z=>?_;refine GO 6 ?_;intro _ Y;refine cN Y rfl Z (vk r.rs[q.1].b _ B) fun _ _ Y Z=>?_;refine GO 1 ?_;intro _ Y;refine sv (v:=cZ (dW r.rs[q.1].b)) Y (cb (Y.ev rfl) rfl) fun _ Y=>?_;refine GO 1 ?_;intro _ Y;refine na (.agg q8) Y rfl Z fun O _ _ V Y Z=>?_;refine sw Y Z 0 fun _ Z=>?_;refine GO 10 ?_;intro _ Y;refine ak (Y.ev rfl) (fun C=>?_) (fun C=>?_)
   ·
    have o:cx r.rs[q.1].b≠0:=ar C;rw[wa d p.2 o,if_pos o] at a;refine GO 16 ?_;intro _ Y;refine lE Y rfl rfl rfl rfl ?_;refine⟨(none,0),by rw[a];rfl,?_⟩;rw[a];exact(Z.sub (List.nil_sublist _)).nilRow 145 14
   ·
    have s:cx r.rs[q.1].b=0:=ar C;refine GO 6 ?_;intro _ Y;refine sv (v:=cZ (dW r.rs[q.1].b)) Y (ag aa aa (Y.ev rfl) (Z.cellsAll (i:=0) rfl)) fun _ Y=>?_;refine sv (v:=gV ⟨r.rs[q.1].l,dW r.rs[q.1].b⟩) Y (ay (zs:=kP) (pl:=sK) aa aa (Y.evs2 rfl) rfl rfl) fun _ Y=>?_;refine cX (zc:=kP) (sz:=14) Y (wn rfl) ⟨rfl,rfl⟩ rfl dd aa aa rfl rfl rfl (Y.evs2 rfl) rfl rfl rfl Z fun P _ _ S Y Z=>bP (z:=.agg qU) (sz:=14) (bytes:=136) Y (wn rfl) ⟨rfl,rfl⟩ rfl dd aa rfl rfl (Y.ev rfl) (Y.ev rfl) Z (i:=3) rfl (Z.boxRd (i:=0) rfl) rfl (List.all_eq_true.1 rfl) ⟨ab,by decide⟩ fun F H _ _ Y Z=>?_;refine GO 9 ?_;intro _ Y;exact⟨(q.1+1,F,H),(by show r.rs.length-(q.1+1)<r.rs.length-q.1;omega),⟨d,fun k n E=>by rcases Nat.lt_or_eq_of_le (show k≤q.1 by have:k<q.1+1:=E;omega) with h | h;exact p.2 k n h;subst h;exact s⟩,Y.re bN,(by show St [] w _ [.row _ _ _ _ ((dy (r.rs.take (q.1+1))).flatMap cm),_];rw[rQ d];exact(Z.sub (aL 24)))⟩
  ·
   obtain⟨n1,m,c1⟩:=q
   obtain rfl:n1=r.rs.length:=by have J:=of_decide_eq_false D;have R:n1≤r.rs.length:=p.1;change ¬((n1:Int)<_) at J;omega
   have I:(ni r.rs).2=0:=(cY _ _).2 fun k n=>p.2 k n n;rw[if_neg (fun h=>h I)] at a;have j:=jk (Z.at_ (i:=0) rfl);rw[List.take_length] at Z
   replace Z:St [] w M [.row (.slice m (dy r.rs).length c1) (dy r.rs).length 145 14 ((dy r.rs).flatMap cm)]:=by rw[f];exact(Z.sub (aL 1))
   replace Y:=Has.also Y (t:=7) (v:=.slice m (dy r.rs).length c1) (by rw[f];rfl);refine GO 9 ?_;intro _ Y;refine cN Y rfl Z (i7 (dy r.rs) m c1 _ (Z.rdOf (i:=0) rfl) ab (by rw[f];exact j) (hF.below Z.below) pE) fun _ _ Y Z=>?_;refine GO 13 ?_;intro _ Y;refine ak (Y.ev rfl) (fun u=>?_) (fun u=>?_)
   ·
    rw[if_pos (ar u)] at a;refine GO 11 ?_;intro _ Y;refine lE Y rfl rfl rfl rfl ?_;refine⟨(none,0),by rw[a];rfl,?_⟩;rw[a];exact(Z.sub (List.nil_sublist _)).nilRow 145 14
   ·
    rw[if_neg (ar u)] at a;refine GO 13 ?_;intro _ Y;refine lE Y rfl rfl rfl rfl ?_;refine⟨(m,c1),by rw[a];show _=Ending.returned (Value.tuple #[Value.slice m (dy r.rs).length c1,Value.int .i64 (r.rs.length:Nat),_]);first | (rw[f];done) | (rw[f];rfl),?_⟩;rw[a];exact Z
open Go.RowKit Go.Sort Go.Shelf
theorem mo (r:RngP) (A:Option Addr) (c:Nat) (w:World) (hr:Rd w w.heap.size A (aJ r.rs)) (j:r.rs.length≤1000) (hx:∀x∈r.rs,I6 x.l) (M:∀x∈r.rs,x.b.size≤maxLen) :
 Calls Tryz.prog 46 #[a7 r A c] w fun e U=>∃i:Option Addr × Nat,e=.returned (.tuple #[.slice i.1 (cO r).1.length i.2,ae (cO r).2.1,ae (cO r).2.2]) ∧
  St [] w U [.row (.slice i.1 (cO r).1.length i.2) (cO r).1.length 145 14 ((cO r).1.flatMap cm)]:=by
 have a:cO r=if (bJ r).2≠0 then ([],0,(bJ r).2) else if (ni r.rs).2≠0 then ([],(ni r.rs).1,(ni r.rs).2) else if (eA (dy r.rs)).2≠0 then ([],(eA (dy r.rs)).1,(eA (dy r.rs)).2) else (dy r.rs,r.rs.length,0):=rfl;generalize cO r=G at a;have f:=ql r.rs;refine aq (N:=61) Tryz.func46 rfl rfl rfl (fun _ Y=>?_);have Z:=St.init w;refine ai (an ?_);refine nb Y rfl rfl Z fun b1 _ _ Zl Y Z=>GO 8 ?_;intro _ Y;refine sv (v:=a7 r A c) Y (ag aa aa (Y.ev rfl) (Z.cellsAll (i:=0) rfl)) fun _ Y=>?_;refine cN Y rfl Z (s6 r A c _ (Z.rd0 hr) j hx) fun _ _ Y Z=>?_;refine GO 6 ?_;intro _ P;refine GO 3 ?_;intro _ S;refine ak (S.ev rfl) (fun C=>?_) (fun C=>?_)
 ·
  rw[if_pos (ar C)] at a;refine GO 10 ?_;intro _ Y;refine lE Y rfl rfl rfl rfl ?_;refine⟨(none,0),by rw[a];rfl,?_⟩;rw[a];exact(Z.sub (List.nil_sublist _)).nilRow 145 14
 ·
  rw[if_neg (ar C)] at a;refine GO 5 ?_;intro _ Y;replace Z:=St.nilRow Z 145 14;refine GO 9 ?_;intro _ Y;refine aY Y Z [1] (fun (q:Nat × Option Addr × Nat)=>[(7,ae (q.1:Nat)),(6,.slice q.2.1 q.1 q.2.2)]) (fun (q:Nat × Option Addr × Nat)=>q.1≤r.rs.length∧∀k (p:k<r.rs.length),k<q.1→cx r.rs[k].b=0) (fun q L=>L.set 0 (.row (.slice q.2.1 q.1 q.2.2) q.1 145 14 ((dy (r.rs.take q.1)).flatMap cm))) (fun (q:Nat × Option Addr × Nat)=>r.rs.length-q.1) ((0,none,0)) (⟨Nat.zero_le _,fun k _ h=>absurd h (Nat.not_lt_zero _)⟩) bN (Z) ?_;intro q _ Zk u Y Z;refine GO 4 ?_;intro _ Y;refine vf Y 7 7 fun _ Y=>?_;refine GO 5 ?_;intro _ Y;refine ak (Y.ev rfl) (fun F=>?_) (fun F=>?_)
  ·
   have d:q.1<r.rs.length:=by have:=of_decide_eq_true F;omega
   have E:=M _ (List.getElem_mem d);obtain⟨b0,o0,rfl,hB,_⟩:=hr.opened (by rw[bw];omega);refine wp_skip (aj (ai (wp_block (ai (an ?_)))));refine vf Y 7 7 fun _ Y=>?_;refine GO 2 ?_;intro _ Y;refine sv Y (av (i:=q.1) (sz:=3) cv aa (Y.ev rfl) (Y.ev rfl) ab ab rfl) fun _ Y=>?_;refine sv Y (fy 2 (Y.ev rfl)) fun _ Y=>?_;refine sv Y (lx (Y.ev rfl) ((recAt (Z.rd0 hr) d) 2 _ rfl)) fun _ Y=>?_;refine cN Y rfl Z (qm r.rs[q.1].b _ E) fun _ _ Y Z=>?_;refine GO 1 ?_;intro _ Y;refine sv (v:=cZ (dW r.rs[q.1].b)) Y (cb (Y.ev rfl) rfl) fun _ Y=>?_;refine GO 1 ?_;intro _ Y;refine na (.agg q8) Y rfl Z fun b8 _ _ Zm Y Z=>?_;refine sw Y Z 0 fun _ m=>?_;refine GO 10 ?_;intro _ Y;refine ak (Y.ev rfl) (fun H=>?_) (fun H=>?_)
   ·
    have s:cx r.rs[q.1].b≠0:=ar H;rw[wa d u.2 s,if_pos s] at a;refine GO 16 ?_;intro _ Y;refine lE Y rfl rfl rfl rfl ?_;refine⟨(none,0),by rw[a];rfl,?_⟩;rw[a];exact(m.sub (List.nil_sublist _)).nilRow 145 14
   ·
    have B:cx r.rs[q.1].b=0:=ar H;refine wp_skip (aj ?_);apply aK Y [false,false,false,false,false,false,false,false,false,true] _ aa
    case h=>
     refine GO 1 ?_;intro _ Y;refine qv Y (fun X g=>fx 7 7 (Y.ev rfl)) fun _ Y=>?_;refine GO 2 ?_;intro _ Y;refine qv Y (fun X g=>av (i:=q.1) (sz:=3) cv aa (Y.ev rfl) (Y.ev rfl) ab ab rfl) fun _ Y=>?_;refine qv Y (fun X g=>fy 0 (Y.ev rfl)) fun _ Y=>?_;refine qv Y (fun X g=>lx (Y.ev rfl) ((recAt ((m.grow g).rd0 hr) d) 0 _ rfl)) fun _ Y=>?_;refine qv (v:=cZ (dW r.rs[q.1].b)) Y (fun X g=>ag aa aa (Y.ev rfl) ((m.grow g).cellsAll (i:=0) rfl)) fun _ Y=>?_;refine qv (v:=gV ⟨r.rs[q.1].l,dW r.rs[q.1].b⟩) Y (fun X g=>ay (zs:=kP) (pl:=sK) aa aa (Y.evs2 rfl) rfl rfl) fun _ Y=>?_;refine ax ?_;apply eF (k:=9) (deps:=[]) (R:=NewB _ (fun b=>.slice (some ⟨b,0,none⟩) 1 1) _ _) Y rfl rfl rfl NewB.stable (fun X g hΦ=>gK (dw (zc:=kP) (sz:=14) rfl dd aa aa rfl rfl rfl (Y.evs2 rfl) rfl rfl rfl) g.size);intro Jv _ Y;refine aV fun _ Q T=>?_;have Z:=m.grow Q;have y:=aF T (k:=9) rfl;obtain⟨V,rfl,W,y⟩:=y;have Z:=m.add Q (e:=.box _ _ _) y (fun b M=>by cases M;exact⟨W,Box.lt y⟩);refine bP (z:=.agg qU) (sz:=14) (bytes:=136) Y (wn rfl) ⟨rfl,rfl⟩ rfl dd aa rfl rfl (Y.ev rfl) (Y.ev rfl) Z (i:=2) rfl (Z.boxRd (i:=0) rfl) rfl (List.all_eq_true.1 rfl) ⟨ab,by decide⟩ fun K J _ _ Y Z=>?_;refine GO 10 ?_;intro _ Y;exact⟨(q.1+1,K,J),(by show r.rs.length-(q.1+1)<r.rs.length-q.1;omega),⟨d,fun k p I=>by rcases Nat.lt_or_eq_of_le (show k≤q.1 by have:k<q.1+1:=I;omega) with h | h;exact u.2 k p h;subst h;exact B⟩,Y.re bN,(by show St [] w _ [.row _ _ _ _ ((dy (r.rs.take (q.1+1))).flatMap cm),_];rw[rQ d];exact(Z.sub (aL 12)))⟩
    case hB=>kernel_rfl
    case hst=>rfl
  ·
   obtain⟨n1,o,c1⟩:=q
   obtain rfl:n1=r.rs.length:=by have P:=of_decide_eq_false F;have S:n1≤r.rs.length:=u.1;change ¬((n1:Int)<_) at P;omega
   have O:(ni r.rs).2=0:=(cY _ _).2 fun k p=>u.2 k p p;rw[if_neg (fun h=>h O)] at a;have n:=jk (Z.at_ (i:=0) rfl);rw[List.take_length] at Z
   replace Z:St [] w Zk [.row (.slice o (dy r.rs).length c1) (dy r.rs).length 145 14 ((dy r.rs).flatMap cm)]:=by rw[f];exact(Z.sub (aL 1))
   replace Y:=Has.also Y (t:=6) (v:=.slice o (dy r.rs).length c1) (by rw[f];rfl);refine GO 9 ?_;intro _ Y;refine cN Y rfl Z (mG (dy r.rs) o c1 _ (Z.rdOf (i:=0) rfl) ab (by rw[f];exact n) pE) fun _ _ Y Z=>?_;refine GO 13 ?_;intro _ Y;refine ak (Y.ev rfl) (fun D=>?_) (fun D=>?_)
   ·
    rw[if_pos (ar D)] at a;refine GO 11 ?_;intro _ Y;refine lE Y rfl rfl rfl rfl ?_;refine⟨(none,0),by rw[a];rfl,?_⟩;rw[a];exact(Z.sub (List.nil_sublist _)).nilRow 145 14
   ·
    rw[if_neg (ar D)] at a;refine GO 13 ?_;intro _ Y;refine lE Y rfl rfl rfl rfl ?_;refine⟨(o,c1),by rw[a];show _=Ending.returned (Value.tuple #[Value.slice o (dy r.rs).length c1,Value.int .i64 (r.rs.length:Nat),_]);first | (rw[f];done) | (rw[f];rfl),?_⟩;rw[a];exact Z
end Go.Proofs.YtcfdpfmchchkaaaGreatDoor
