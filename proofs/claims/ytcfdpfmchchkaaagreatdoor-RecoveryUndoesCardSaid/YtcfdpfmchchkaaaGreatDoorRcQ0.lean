/- Chapter 22 -/
import Derived.Test.YtcfdpfmchchkaaaGreatDoorRcP0
import Derived.LaidMore
import Derived.MakeChecks
import Derived.FnData
namespace Go.Proofs.YtcfdpfmchchkaaaGreatDoor
set_option maxRecDepth 100000
set_option maxHeartbeats 1000000
set_option linter.unusedVariables false
set_option linter.unusedSimpArgs false
open Go.RowKit Go.Sort Go.Shelf
def wL (l:List Rcd) (s:Stp):List Value:=[ae (nK Rcd.l s.r.l l 0),ae (s.j:Nat),.bool s.z]
theorem qF {l:List Rcd} (s:Stp):(wL l s).length=3:=rfl
theorem D8 {l:List Rcd} (A:List Stp) (s:Stp):(A ++ [s]).flatMap (wL l)=A.flatMap (wL l) ++ [ae (nK Rcd.l s.r.l l 0),ae (s.j:Nat),.bool s.z]:=by
 rw[List.flatMap_append];rfl
theorem Df (n:Nat):(List.replicate n [Value.int .i64 0]).flatten=(List.replicate n (0:Int)).map (.int .i64):=by
 induction n with
 | zero=>rfl
 | succ n ih=>rw[List.replicate_succ,List.replicate_succ,List.flatten_cons,ih];rfl
theorem uy {U:List Int} {k:Nat} (b:k<U.length) (u:Int):(U.set k u).map (Value.int .i64)=(U.map (.int .i64)).take (0+k*1) ++ [ae u] ++ (U.map (.int .i64)).drop (0+k*1+[Value.int .i64 u].length):=by
 have a:0+k*1=k:=by omega
 have c:[Value.int .i64 u].length=1:=rfl;rw[a,c,List.set_eq_take_append_cons_drop,if_pos b,List.map_append,List.map_cons,List.map_take,List.map_drop,List.append_assoc];rfl
structure PlnS where
 U:List Int
 s:List Stp
 A:Option Addr
 c:Nat
def Ia (l:List Rcd) (n:Int):Bool:=match cz l n with | some r=>!cb r.e | none=>true
def Ip (l:List Rcd) (n i:Int):Bool:=match cz l n with | some r=>r.e.t != i | none=>true
theorem Bo {st:List Stp} {s:Stp} {p:List Stp × Int}:yx st (if p.2≠0 then ([],p.2) else (s::p.1,0))=yx (st ++ [s]) p:=by
 unfold yx;by_cases h:p.2≠0
 · rw[if_pos h,if_pos h,if_pos h]
 · rw[if_neg h,if_neg h,if_neg (fun h=>h rfl)];simp
theorem DS (l:List Rcd) (f:Nat) (us:List Los):plnG l f us=yx [] (plnG l f us):=by
 unfold yx;by_cases h:(plnG l f us).2≠0
 · rw[if_pos h,←DQ l f us h]
 · rw[if_neg h,List.nil_append,←Classical.not_not.1 h]
theorem H5 (a:Int):(a==0)=decide (a=0):=by by_cases h:a=0<;>simp[h]
theorem Cq {l:List Rcd} {i k:Nat} (a:VldH l i) (b:k<i):0≤bE (l[k]'(by have:=a.1;omega)).e:=by
 have:=kY (a.e0 b).2.2;unfold bE
 split<;>omega
theorem Al (l:List Rcd) (B:Option Addr) (d:Nat) (t:Tbl) (TA:Option Addr) (tc:Nat) (TB:Option Addr) (td:Nat) (w:World)
 (H:Rd w w.heap.size B (l.flatMap cB)) (hr:Rd w w.heap.size TA (t.ts.flatMap bW)) (hl:l.length≤1000) (hk:TblOk t) (hv:VldH l l.length) :
 Calls Tryz.prog 85 #[.slice B l.length d,cc t TA tc TB td] w fun e w'=>∃i:Option Addr × Nat,e=.returned (.tuple #[.slice i.1 (iQ l t).1.length i.2,ae (iQ l t).2]) ∧
  St [] w w' [.row (.slice i.1 (iQ l t).1.length i.2) (iQ l t).1.length 158 3 ((iQ l t).1.flatMap (wL l))]:=by
 have hn:=hk.n
 have Jz:∀u∈t.ts.map Trn.u,0≤u:=fun u hu=>by
  obtain⟨x,hx,rfl⟩:=List.mem_map.1 hu;obtain⟨k,Vb,rfl⟩:=List.getElem_of_mem hx;exact(hk.ts k Vb).u.1
 refine an (N:=129) Tryz.func85 rfl rfl rfl (fun _ Y=>?_);have Z:=St.init w;refine aj (aq ?_);refine nb Y rfl rfl Z fun b3 _ _ Zw h1 Z=>GO 1 ?_;intro _ P;refine GO 5 ?_;intro _ h3;refine GO 1 ?_;intro _ Y;replace Z:=St.nilRow Z 158 3;refine GO 7 ?_;intro _ Y;refine DY (n:=t.ts.length) (z:=ae 0) (zc:=[ae 0]) (sz:=1) (bytes:=8) Y (wn rfl) ⟨rfl,rfl⟩ rfl iG aa rfl rfl (Y.ev rfl) (Y.ev rfl) ⟨by omega,by omega,by omega⟩ Z fun D _ _ Zv Y Z=>GO 1 ?_;intro _ Y;rw[Df] at Z;refine GO 9 ?_;intro _ Y;refine aV Y Z [7,6,3,0] (fun (q:Nat × List Int)=>[(8,ae (q.1:Nat))]) (fun (q:Nat × List Int)=>q.1≤t.ts.length∧q.2.length=t.ts.length∧∀k (h1:k<q.2.length) (P:k<t.ts.length),k<q.1→q.2[k]=t.ts[k].u) (fun q L=>L.set 0 (.row (.slice (some ⟨D,0,none⟩) t.ts.length t.ts.length) t.ts.length 3 1 (q.2.map (.int .i64)))) (fun (q:Nat × List Int)=>t.ts.length-q.1) ((0,List.replicate t.ts.length 0)) (⟨Nat.zero_le _,List.length_replicate,fun k _ _ h=>absurd h (Nat.not_lt_zero _)⟩) bC (Z) ?_;intro q _ _ Zh Y Z;refine GO 9 ?_;intro _ Y;refine ak (Y.ev rfl) (fun Zj=>?_) (fun Zj=>?_)
 ·
  have j:q.1<t.ts.length:=by have:=of_decide_eq_true Zj;omega
  have y:q.2.length=t.ts.length:=Zh.2.1;obtain⟨b1,o1,rfl,_⟩:=hr.opened (aF bq au ab);refine GO 10 ?_;intro _ Y;refine sv Y (ar (i:=q.1) (sz:=4) dT aa (Y.ev rfl) (Y.ev rfl) ab ab rfl) fun _ Y=>?_;refine sv Y (fy 2 (Y.ev rfl)) fun _ Y=>?_;refine sv Y (lx (Y.ev rfl) ((aL bq (Z.rd0 hr) j) 2 _ rfl)) fun _ Y=>?_;refine sv Y (ar (i:=q.1) (sz:=1) iG aa (Y.ev rfl) (Y.ev rfl) ab ab rfl) fun _ Y=>?_;refine fB Y (wn rfl) ⟨rfl,rfl⟩ (Y.ev rfl) (Y.ev rfl) rfl aa Z (i:=0) rfl rfl (by show 0+q.1*1+1≤t.ts.length*1;omega) fun _ Z=>GO 9 ?_;intro _ Y;exact⟨(q.1+1,q.2.set q.1 t.ts[q.1].u),(by show t.ts.length-(q.1+1)<t.ts.length-q.1;omega),⟨j,by rw[List.length_set];exact y,fun k h1 P Vh=>by show(q.2.set q.1 t.ts[q.1].u)[k]=_;rw[List.getElem_set];by_cases e:q.1=k;(rw[if_pos e];subst e;rfl);(rw[if_neg e];exact Zh.2.2 k _ P (by have:k<q.1+1:=Vh;omega))⟩,Y.re bC,(by show St [] w _ [.row _ _ _ _ ((q.2.set q.1 t.ts[q.1].u).map _),_,_];rw[uy ab];exact(Z.sub (aB 7)))⟩
 ·
  have Vo:t.ts.length≤q.1:=by have:=of_decide_eq_false Zj;omega
  have Vg:q.2=t.ts.map Trn.u:=List.ext_getElem (by rw[List.length_map];exact Zh.2.1) fun k h1 P=>by
   rw[List.getElem_map];exact Zh.2.2 k h1 (by rw[List.length_map] at P;exact P) (by rw[List.length_map] at P;omega)
  rw[Vg] at Z;refine wp_exit ?_;refine ed ?_;refine ed ?_;refine pL ?_;refine ai (wp_block ?_);refine aV Y Z [7,3,0] (fun (p:PlnS)=>[(6,.slice p.A p.s.length p.c)]) (fun (p:PlnS)=>p.U.length=t.ts.length∧(∀u∈p.U,0≤u)∧p.s.length≤100∧iQ l t=yx p.s (plnG l (100-p.s.length) (lS t.ts p.U))) (fun p L=>[.row (.slice (some ⟨D,0,none⟩) t.ts.length t.ts.length) t.ts.length 3 1 (p.U.map (.int .i64)),.row (.slice p.A p.s.length p.c) p.s.length 158 3 (p.s.flatMap (wL l)),.box b3 #[.slice TA t.ts.length tc,.slice TB t.ds.length td] 25]) (fun (p:PlnS)=>100-p.s.length) (⟨t.ts.map Trn.u,[],none,0⟩) (⟨List.length_map _,Jz,Nat.zero_le _,by rw[Bp];exact DS _ _ _⟩) bC (Z) ?_;intro p _ _ Zs Y Z;refine GO 14 ?_;intro _ Y;refine aV Y Z [6,7,3,0] (fun (m:Nat)=>[(11,ae (m:Nat)),(9,ae (iP t.ts p.U m).1),(10,ae (iP t.ts p.U m).2)]) (fun (m:Nat)=>m≤t.ts.length) (fun (m:Nat) L=>L) (fun (m:Nat)=>t.ts.length-m) (0) (Nat.zero_le _) bC (Z) ?_;intro m _ _ Zx Y Z;refine GO 9 ?_;intro _ Y;refine ak (Y.ev rfl) (fun Zk=>?_) (fun Zk=>?_)
  ·
   have j:m<t.ts.length:=by have:=of_decide_eq_true Zk;omega
   have y:=Zs.1
   have W:m<p.U.length:=by omega
   have V:=BR (U:=p.U) j y.symm;obtain⟨b1,o1,rfl,_⟩:=hr.opened (aF bq au ab);refine GO 9 ?_;intro _ Y;refine sv Y (ar (i:=m) (sz:=4) dT aa (Y.ev rfl) (Y.ev rfl) ab ab rfl) fun _ Y=>?_;refine sv Y (fy 3 (Y.ev rfl)) fun _ Y=>?_;refine sv Y (lx (Y.ev rfl) ((aL bq (Z.rd0 hr) j) 3 _ rfl)) fun _ Y=>?_;refine GO 2 ?_;intro _ Y;apply a8 (x:=decide (p.U[m]>(iP t.ts p.U m).1)) Y Z 45 rfl 7 52
   case ht=>
    intro Zl;refine GO 2 ?_;intro _ Y;refine sy Y (ar (i:=m) (sz:=1) iG aa (Y.ev rfl) (Y.ev rfl) ab ab rfl) fun _ Y=>?_;refine sy Y (lx (Y.ev rfl) ((wC (Z.rdOf (i:=0) rfl) W) 0 _ rfl)) fun _ Y=>?_;refine GO 3 ?_;intro _ Y;exact ag ⟨Y.midE 6,Z⟩
   case hf=>
    intro Zl;refine GO 7 ?_;intro _ Y;exact ag ⟨Y.midE 6,Z⟩
   case h=>
    rintro Vn Zy ⟨Ze,Zm⟩
    refine ag (ai ?_);refine ak (Ze.ev rfl) (fun Zn=>?_) (fun Zn=>?_)
    ·
     have hb:iP t.ts p.U (m+1)=(p.U[m],(m:Int)):=by rw[V,if_pos Zn]
     refine GO 3 ?_;intro _ Y;refine sv Y (ar (i:=m) (sz:=1) iG aa (Y.ev rfl) (Y.ev rfl) ab ab rfl) fun _ Y=>?_;refine sv Y (lx (Y.ev rfl) ((wC (Zm.rdOf (i:=0) rfl) W) 0 _ rfl)) fun _ Y=>?_;refine GO 3 ?_;intro _ Y;replace Y:=Has.also Y (t:=9) (v:=ae (iP t.ts p.U (m+1)).1) (by rw[hb];rfl);replace Y:=Has.also Y (t:=10) (v:=ae (iP t.ts p.U (m+1)).2) (by rw[hb];rfl);refine GO 9 ?_;intro _ Y;exact⟨m+1,ab,j,Y.re bC,Zm⟩
    ·
     have hb:iP t.ts p.U (m+1)=iP t.ts p.U m:=by rw[V,if_neg (by rw[Zn];decide)]
     replace Ze:=Has.also Ze (t:=9) (v:=ae (iP t.ts p.U (m+1)).1) (by rw[hb];rfl);replace Ze:=Has.also Ze (t:=10) (v:=ae (iP t.ts p.U (m+1)).2) (by rw[hb];rfl);refine GO 9 ?_;intro _ Y;exact⟨m+1,ab,j,Y.re bC,Zm⟩
  ·
   obtain rfl:m=t.ts.length:=by have:=of_decide_eq_false Zk;omega
   obtain⟨y,Jx,Vp,f⟩:=Zs;have M:=CE (ts:=t.ts) Jx y.symm;refine GO 12 ?_;intro _ Y;refine ak (Y.ev rfl) (fun Zi=>?_) (fun Zi=>?_)
   ·
    have Vc:fz (lS t.ts p.U)=none∨∃b,fz (lS t.ts p.U)=some b∧b.u=0:=by
     rcases M with h | ⟨b,k,Jy,_,_,_,_,_,he⟩
     · exact h.2
     · rw[he] at Zi;have h3:(k:Int)<0:=of_decide_eq_true Zi;omega
    rw[dm Vc] at f;refine GO 12 ?_;intro _ Y;refine bU Y rfl rfl rfl ?_;refine⟨(p.A,p.c),by rw[f];show _=Ending.returned (Value.tuple #[Value.slice p.A (p.s ++ []).length p.c,_]);rw[List.append_nil];rfl,?_⟩;rw[f];show St [] w _ [.row (.slice p.A (p.s ++ []).length p.c) (p.s ++ []).length _ _ ((p.s ++ []).flatMap _)];rw[List.append_nil];exact(Z.sub (aB 2))
   ·
    obtain⟨b,k,Jy,Q,S,Vi,Vf,Vq,Ve⟩:=M.resolve_left (fun h=>by have:=of_decide_eq_false Zi;omega);rw[Ve] at Y;refine GO 6 ?_;intro _ Y;refine cQ Y rfl Z (zm l b.u B d _ (Z.rd0 H) ab) fun _ _ Y Z=>?_;refine GO 5 ?_;intro _ Y;apply aK Y (fK 25) _ aa
    case h=>
     refine GO 3 ?_;intro _ Y;apply fZ (x:=Ia l b.u) Y 66 rfl 8 74
     case hf=>
      intro Zc;obtain⟨x,g,C,R,a⟩:=iC (κ:=Rcd.l) (n:=b.u) (l:=l) (k:=0) (by have:=of_decide_eq_false Zc;omega);rw[Nat.zero_add] at C;obtain⟨b5,o5,rfl,_⟩:=H.opened (aF aI au ab);have a:cz l b.u=some l[x]:=a;refine GO 2 ?_;intro _ Y;refine qy Y (fun X o=>(ar (i:=x) (sz:=14) cO aa (Y.ev rfl) (Y.ev rfl) ab ab rfl)) fun _ Y=>?_;refine qy Y (fun X o=>(fy 1 (Y.ev rfl))) fun _ Y=>?_;refine jk (v:=cy l[x].e) Y (ao Y _ rfl rfl rfl Zc) rfl rfl (fun X o=>(ah aa aa (Y.ev rfl) (dQ ((Z.grow o).rd0 H) g))) fun _ Y=>?_;refine me Y (ao Y _ rfl rfl rfl Zc) rfl rfl (fun X=>(aw a6 (Y.evs rfl) rfl)) (fun X o=>np _ _) fun _ Y=>?_;refine qy Y (fun X o=>(aA (v':=.bool (Ia l b.u)) (by unfold Ia;rw[a]) (qJ (Y.ev rfl)))) fun _ Y=>?_;refine GO 1 ?_;intro _ Y;exact ax (Y.midE 7)
     case ht=>
      intro Zc;refine GO 8 ?_;intro _ Y;exact ax (Y.midE 7)
     case h=>
      intro _ Y;refine GO 1 ?_;intro _ Y;apply mr Y 75 rfl 13 88
      case ht=>
       intro Zf;refine GO 13 ?_;intro _ Y;exact ax ⟨_,Y.midE 12⟩
      case hf=>
       intro Zf;obtain⟨x,g,C,R,a⟩:=iC (κ:=Rcd.l) (n:=b.u) (l:=l) (k:=0) (by have:=of_decide_eq_false (Bool.or_eq_false_iff.1 Zf).1;omega);rw[Nat.zero_add] at C;obtain⟨b5,o5,rfl,_⟩:=H.opened (aF aI au ab);obtain⟨b1,o1,rfl,_⟩:=hr.opened (aF bq au ab);have a:cz l b.u=some l[x]:=a;refine GO 2 ?_;intro _ Y;refine qy Y (fun X o=>(ar (i:=x) (sz:=14) cO aa (Y.ev rfl) (Y.ev rfl) ab ab rfl)) fun _ Y=>?_;refine qy Y (fun X o=>(fy 1 (Y.ev rfl))) fun _ Y=>?_;refine qy Y (fun X o=>(fy 1 (Y.ev rfl))) fun _ Y=>?_;refine qy Y (fun X o=>(lx (Y.ev rfl) ((aL aI ((Z.grow o).rd0 H) g) 2 _ rfl))) fun _ Y=>?_;refine GO 3 ?_;intro _ Y;refine qy Y (fun X o=>(ar (i:=k) (sz:=4) dT aa (Y.ev rfl) (Y.ev rfl) ab ab rfl)) fun _ Y=>?_;refine qy Y (fun X o=>(fy 0 (Y.ev rfl))) fun _ Y=>?_;refine qy Y (fun X o=>(lx (Y.ev rfl) ((aL bq ((Z.grow o).rd0 hr) Jy) 0 _ rfl))) fun _ Y=>?_;refine qy Y (fun X o=>(aA (v':=.bool (Ip l b.u b.i)) (by unfold Ip;rw[a,Vf]) (kh (Y.ev rfl) (Y.ev rfl)))) fun _ Y=>?_;exact ax (Y.midE 12)
      case h=>
       intro Vm _ Jw Y;refine ax ?_;refine aT fun _ Zg Zt=>?_;have Z:=Z.grow Zg;refine sv Y (iq (Y.ev rfl) (Y.ev rfl) (Y.ev rfl) Jw) fun _ Y=>?_;refine ag (ai ?_);refine ak (Y.ev rfl) (fun O=>?_) (fun O=>?_)
       ·
        have Vd:cz l b.u=none∨∃r,cz l b.u=some r∧¬(cb r.e=true∧r.e.t=b.i):=by
         cases hf:cz l b.u with
         | none=>exact .inl rfl
         | some r=>
          refine .inr ⟨r,rfl,fun hh=>?_⟩;unfold Ia Ip at O;rw[hf] at O;simp only[] at O;rw[hh.1,show(r.e.t != b.i)=false by simp[hh.2]] at O;simp only[Bool.not_true,Bool.or_false] at O;rw[show cz l b.u=none from kZ (of_decide_eq_true O)] at hf
          cases hf
        rw[gj Q S Vd] at f;refine GO 11 ?_;intro _ Y;refine bU Y rfl rfl rfl ?_;refine⟨(none,0),by rw[f];rfl,?_⟩;rw[f];exact(Z.sub (List.nil_sublist _)).nilRow 158 3
       ·
        obtain⟨Va,u3⟩:=Bool.or_eq_false_iff.1 O;obtain⟨u1,u2⟩:=Bool.or_eq_false_iff.1 Va;obtain⟨x,g,C,R,a⟩:=iC (κ:=Rcd.l) (n:=b.u) (l:=l) (k:=0) (by have:=of_decide_eq_false u1;omega);have a:cz l b.u=some l[x]:=a;unfold Ia at u2;unfold Ip at u3;rw[a] at u2 u3;have Jv:cb l[x].e=true∧l[x].e.t=b.i:=⟨al u2,al u3⟩;have Vl:=C;rw[Nat.zero_add] at C;obtain⟨b5,o5,rfl,_⟩:=H.opened (aF aI au ab);have Vj:0≤bE l[x].e:=Cq hv g
        have I:k<p.U.length:=by omega
        refine GO 10 ?_;intro _ Y;refine ak (Y.ev rfl) (fun Zo=>?_) (fun Zo=>?_)
        ·
         have Y:100-p.s.length=0:=by have:=of_decide_eq_true Zo;omega
         rw[Y,ly Q S a Jv] at f;refine GO 11 ?_;intro _ Y;refine bU Y rfl rfl rfl ?_;refine⟨(none,0),by rw[f];rfl,?_⟩;rw[f];exact(Z.sub (List.nil_sublist _)).nilRow 158 3
        ·
         have Y:100-p.s.length=100-(p.s.length+1)+1:=by have:=of_decide_eq_false Zo;omega
         have T:iQ l t=yx (p.s ++ [⟨l[x],k,decide (bE l[x].e=0)⟩]) (plnG l (100-(p.s ++ [(⟨l[x],k,decide (bE l[x].e=0)⟩:Stp)]).length) (lS t.ts (p.U.set k (bE l[x].e)))):=by
          rw[f,Y,k7 Q S a Jv,Bo,List.length_append,List.length_singleton,Cs I,Vi]
         refine GO 8 ?_;intro _ Y;refine sv Y (ar (i:=x) (sz:=14) cO aa (Y.ev rfl) (Y.ev rfl) ab ab rfl) fun _ Y=>?_;refine sv Y (fy 1 (Y.ev rfl)) fun _ Y=>?_;refine sv Y (fy 2 (Y.ev rfl)) fun _ Y=>?_;refine sv Y (lx (Y.ev rfl) ((aL aI (Z.rd0 H) g) 3 _ rfl)) fun _ Y=>?_;refine sv Y (ar (i:=k) (sz:=1) iG aa (Y.ev rfl) (Y.ev rfl) ab ab rfl) fun _ Y=>?_;refine fB Y (wn rfl) ⟨rfl,rfl⟩ (Y.ev rfl) (Y.ev rfl) rfl aa Z (i:=0) rfl rfl (by show 0+k*1+1≤t.ts.length*1;omega) fun Zp K=>?_
         replace K:St [] w Zp [.row (.slice (some ⟨D,0,none⟩) t.ts.length t.ts.length) t.ts.length 3 1 ((p.U.set k l[x].e.p).map (.int .i64)),.row (.slice p.A p.s.length p.c) p.s.length 158 3 (p.s.flatMap (wL l)),.box b3 #[.slice TA t.ts.length tc,.slice TB t.ds.length td] 25]:=by
          rw[uy I];exact K
         refine GO 7 ?_;intro _ Y;refine sv Y (ar (i:=x) (sz:=14) cO aa (Y.ev rfl) (Y.ev rfl) ab ab rfl) fun _ Y=>?_;refine sv Y (fy 1 (Y.ev rfl)) fun _ Y=>?_;refine sv Y (fy 0 (Y.ev rfl)) fun _ Y=>?_;refine sv Y (lx (Y.ev rfl) ((aL aI (K.rd0 H) g) 1 _ rfl)) fun _ Y=>?_;refine GO 3 ?_;intro _ Zb;replace Zb:=(Zb.re bC:Has _ _ _ [(108,_),(107,_),(106,_),(105,_),(104,_),(103,_),(102,_),(101,_),(100,_),(99,_),(98,_),(97,_),(96,_),(95,_),(94,_),(93,_),(92,_),(91,_),(90,_),(89,_),(88,_),(75,_),(74,_),(66,_),(65,_),(64,_),(12,_),(63,_),(62,_),(61,_),(59,_),(58,_),(35,_),(34,_),(33,_),(32,_),(11,_),(9,_),(10,_),(6,_),(7,_),(3,_),(0,_)]);refine ng (F:=True) Zb K [] [12,10,6,7,3,0] (fun L=>L.set 0 (.row (.slice (some ⟨D,0,none⟩) t.ts.length t.ts.length) t.ts.length 3 1 ((p.U.set k (bE l[x].e)).map (.int .i64)))) ?_ (fun _ _ Y Z J=>?_)
         ·
          refine ak (Zb.ev rfl) (fun Zq=>?_) (fun Zq=>?_)
          ·
           refine GO 5 ?_;intro _ Y;refine sv Y (ar (i:=x) (sz:=14) cO aa (Y.ev rfl) (Y.ev rfl) ab ab rfl) fun _ Y=>?_;refine sv Y (fy 1 (Y.ev rfl)) fun _ Y=>?_;refine sv Y (fy 3 (Y.ev rfl)) fun _ Y=>?_;refine sv Y (lx (Y.ev rfl) ((aL aI (K.rd0 H) g) 4 _ rfl)) fun _ Y=>?_;refine sv Y (ar (i:=k) (sz:=1) iG aa (Y.ev rfl) (Y.ev rfl) ab ab rfl) fun _ Y=>?_;refine fB Y (wn rfl) ⟨rfl,rfl⟩ (Y.ev rfl) (Y.ev rfl) rfl aa K (i:=0) rfl rfl (by show 0+k*1+1≤t.ts.length*1;omega) fun Zr Z=>ag (ai ?_);have J:=trivial
           replace Z:St [] w Zr [.row (.slice (some ⟨D,0,none⟩) t.ts.length t.ts.length) t.ts.length 3 1 (((p.U.set k l[x].e.p).set k l[x].e.x).map (.int .i64)),.row (.slice p.A p.s.length p.c) p.s.length 158 3 (p.s.flatMap (wL l)),.box b3 #[.slice TA t.ts.length tc,.slice TB t.ds.length td] 25]:=by
            rw[uy (U:=p.U.set k l[x].e.p) (by rw[List.length_set];exact I)];exact Z
           rw[List.set_set,show l[x].e.x=bE l[x].e by unfold bE;rw[if_pos (al Zq)]] at Z;exact⟨Y.re bC,Z,J⟩
          ·
           refine wp_skip (ai ?_);have J:=trivial;rw[show l[x].e.p=bE l[x].e by unfold bE;rw[if_neg (al Zq)]] at K;exact⟨Zb.re bC,K,J⟩
         ·
          refine GO 7 ?_;intro _ Y;refine sv Y (ar (i:=k) (sz:=1) iG aa (Y.ev rfl) (Y.ev rfl) ab ab rfl) fun _ Y=>?_;refine sv Y (lx (Y.ev rfl) ((wC (Z.rdOf (i:=0) rfl) (show k<(p.U.set k (bE l[x].e)).length by rw[List.length_set];exact I)) 0 _ rfl)) fun _ Y=>?_;refine sv Y (aA (v':=.bool (decide (bE l[x].e=0))) (by rw[List.getElem_set_self,H5]) (eV (Y.ev rfl) (Y.ev rfl))) fun _ Y=>?_;refine sv Y (az (zs:=[ae 0,ae 0,.bool false]) (pl:=fY) aa aa (Y.evs2 rfl) rfl rfl) fun _ Y=>?_;refine dc (zc:=[ae 0,ae 0,.bool false]) (sz:=3) Y (wn rfl) ⟨rfl,rfl⟩ rfl u9 aa aa rfl rfl rfl (Y.evs2 rfl) rfl rfl rfl Z fun Vk _ _ Zu Y Z=>bS (z:=.agg #[ae 0,ae 0,.bool false]) (sz:=3) (bytes:=24) Y (wn rfl) ⟨rfl,rfl⟩ rfl u9 aa rfl rfl (Y.ev rfl) (Y.ev rfl) Z (i:=2) rfl (Z.boxRd (i:=0) rfl) rfl (List.all_eq_true.1 rfl) ⟨ab,by decide⟩ fun G E _ _ Y Z=>?_;refine GO 1 ?_;intro _ Y;replace Y:=Has.also Y (t:=6) (v:=.slice G (p.s ++ [(⟨l[x],k,decide (bE l[x].e=0)⟩:Stp)]).length E) (by rw[List.length_append,List.length_singleton];rfl);refine ag (eC (ai ?_));exact⟨⟨p.U.set k (bE l[x].e),p.s ++ [⟨l[x],k,decide (bE l[x].e=0)⟩],G,E⟩,(by show 100-(p.s ++ [_]).length<100-p.s.length;rw[List.length_append,List.length_singleton];omega),⟨by rw[List.length_set];exact y,fun u hu=>by rcases List.mem_or_eq_of_mem_set hu with h | h;exact Jx u h;rw[h];exact Vj,by rw[List.length_append,List.length_singleton];omega,T⟩,Y.re bC,(by show St [] w _ [.row _ _ _ _ ((p.U.set k (bE l[x].e)).map _),.row (.slice G (p.s ++ [_]).length E) (p.s ++ [_]).length _ _ ((p.s ++ [_]).flatMap (wL l)),_];rw[D8,List.length_append,List.length_singleton,R];exact(Z.sub (aB 14)))⟩
    case hB=>kernel_rfl
    case hst=>rfl
open Go.RowKit Go.Sort Go.Shelf
theorem w4 (l:List Rcd):∀(f:Nat) (us:List Los) (s:Stp),s∈(plnG l f us).1→s.r∈l:=by
 intro f
 induction f with
 | zero=>
  intro us s h
  cases hb:fz us with
  | none=>rw[dm (.inl hb)] at h;cases h
  | some b=>
   by_cases a:b.u=0
   · rw[dm (.inr ⟨b,hb,a⟩)] at h;cases h
   by_cases hr:∃r,cz l b.u=some r∧(cb r.e=true∧r.e.t=b.i)
   · obtain⟨r,hf,hr⟩:=hr
     rw[ly hb a hf hr] at h;cases h
   · rw[gj hb a (by
      cases hf:cz l b.u with
      | none=>exact .inl rfl
      | some r=>exact .inr ⟨r,rfl,fun c=>hr ⟨r,hf,c⟩⟩)] at h;cases h
 | succ f ih=>
  intro us s h
  cases hb:fz us with
  | none=>rw[dm (.inl hb)] at h;cases h
  | some b=>
   by_cases a:b.u=0
   · rw[dm (.inr ⟨b,hb,a⟩)] at h;cases h
   by_cases hr:∃r,cz l b.u=some r∧(cb r.e=true∧r.e.t=b.i)
   · obtain⟨r,hf,hr⟩:=hr
     rw[k7 hb a hf hr] at h
     split at h
     · cases h
     · rcases List.mem_cons.1 h with h | h
       · rw[h];exact List.mem_of_find?_eq_some hf
       · exact ih _ s h
   · rw[gj hb a (by
      cases hf:cz l b.u with
      | none=>exact .inl rfl
      | some r=>exact .inr ⟨r,rfl,fun c=>hr ⟨r,hf,c⟩⟩)] at h;cases h
theorem Hn {l:List Rcd} (b:VldH l l.length) {r:Rcd} (hr:r∈l):∃x,∃hx:x<l.length,nK Rcd.l r.l l 0=(x:Int)∧l[x]=r:=by
 obtain⟨m,hm,rfl⟩:=List.getElem_of_mem hr;exact⟨m,hm,tM hm (fun i c a=>by have:=b.lt a hm;omega) rfl,rfl⟩
theorem BY (l:List Rcd):∀(f:Nat) (us:List Los),(plnG l f us).1.length≤f:=by
 intro f
 induction f with
 | zero=>
  intro us
  cases hb:fz us with
  | none=>rw[dm (.inl hb)];exact Nat.le_refl _
  | some b=>
   by_cases a:b.u=0
   · rw[dm (.inr ⟨b,hb,a⟩)];exact Nat.le_refl _
   by_cases hr:∃r,cz l b.u=some r∧(cb r.e=true∧r.e.t=b.i)
   · obtain⟨r,hf,hr⟩:=hr
     rw[ly hb a hf hr];exact Nat.le_refl _
   · rw[gj hb a (by
      cases hf:cz l b.u with
      | none=>exact .inl rfl
      | some r=>exact .inr ⟨r,rfl,fun c=>hr ⟨r,hf,c⟩⟩)];exact Nat.le_refl _
 | succ f ih=>
  intro us
  cases hb:fz us with
  | none=>rw[dm (.inl hb)];exact Nat.zero_le _
  | some b=>
   by_cases a:b.u=0
   · rw[dm (.inr ⟨b,hb,a⟩)];exact Nat.zero_le _
   by_cases hr:∃r,cz l b.u=some r∧(cb r.e=true∧r.e.t=b.i)
   · obtain⟨r,hf,hr⟩:=hr
     rw[k7 hb a hf hr]
     split
     · exact Nat.zero_le _
     · exact Nat.succ_le_succ (ih _)
   · rw[gj hb a (by
      cases hf:cz l b.u with
      | none=>exact .inl rfl
      | some r=>exact .inr ⟨r,rfl,fun c=>hr ⟨r,hf,c⟩⟩)];exact Nat.zero_le _
def TelI {ι:Type} (φ:ι→Value) (R:ι→World→Prop) (v:Value) (X:World):Prop:=∃i,v=φ i∧R i X
theorem TelI.stable {ι:Type} {φ:ι→Value} {R:ι→World→Prop} (d:∀i X X',R i X→Below X.heap.size X X'→R i X') (v:Value) (X X':World) (h:TelI φ R v X) (a:Below X.heap.size X X'):TelI φ R v X':=by
 obtain⟨i,b,c⟩:=h;exact⟨i,b,d i X X' c a⟩
theorem ql {ι:Type} {φ:ι→Value} {R:ι→World→Prop} {X:World} {f:FuncId} {args:Array Value} {r:Result Next} (hx:r=.ok (.enter f args) X) (d:Calls Tryz.prog f args X fun e X'=>∃i,e=.returned (φ i)∧R i X'∧Below X.heap.size X X'):cj Tryz.prog (TelI φ R) X r:=by
 subst hx;exact⟨rfl,d.mono fun e X' ⟨i,b,c,a⟩=>⟨_,b,a,i,rfl,c⟩⟩
theorem uk {A:Option Addr} {xs:List Value} {X X':World} (h:Rd X X.heap.size A xs) (a:Below X.heap.size X X'):Rd X' X'.heap.size A xs:=h.below' a
def H7 (n:Nat) (i:Option Addr × Nat):Value:=.slice i.1 n i.2
def RdN (n:Nat) (xs:List Value) (i:Option Addr × Nat) (X:World):Prop:=n≤i.2∧Rd X X.heap.size i.1 xs
theorem RdN.grow {n:Nat} {xs:List Value} (i:Option Addr × Nat) (X X':World) (h:RdN n xs i X) (a:Below X.heap.size X X'):RdN n xs i X':=⟨h.1,uk h.2 a⟩
def RdT (t:Tbl) (i:Option Addr × Nat × Option Addr × Nat) (X:World):Prop:=Rd X X.heap.size i.1 (t.ts.flatMap bW)∧Rd X X.heap.size i.2.2.1 (t.ds.flatMap cN)
theorem RdT.grow {t:Tbl} (i:Option Addr × Nat × Option Addr × Nat) (X X':World) (h:RdT t i X) (a:Below X.heap.size X X'):RdT t i X':=⟨uk h.1 a,uk h.2 a⟩
def H4 (t:Tbl) (i:Option Addr × Nat × Option Addr × Nat):Value:=cc t i.1 i.2.1 i.2.2.1 i.2.2.2
def RdR (B:Nat) (l:List Rcd) (t:Tbl) (p:List Pgp) (i:Option Addr × Nat) (X:World):Prop:=X.ownsRow B 111 3 (.slice i.1 (kO l t p).1.length i.2) (kO l t p).1.length ((kO l t p).1.flatMap bX)
theorem RdR.grow {B:Nat} {l:List Rcd} {t:Tbl} {p:List Pgp} (i:Option Addr × Nat) (X X':World) (h:RdR B l t p i X) (a:Below X.heap.size X X'):RdR B l t p i X':=cV h a
def RdO (B:Nat) (l:List Rcd) (t:Tbl) (i:Option Addr × Nat) (X:World):Prop:=X.ownsRow B 3 1 (.slice i.1 (pB l t).length i.2) (pB l t).length ((pB l t).map (.int .i64))
theorem RdO.grow {B:Nat} {l:List Rcd} {t:Tbl} (i:Option Addr × Nat) (X X':World) (h:RdO B l t i X) (a:Below X.heap.size X X'):RdO B l t i X':=cV h a
open Go.RowKit Go.Sort Go.Shelf
theorem Ac (t:Tbl) (A:Option Addr) (c:Nat) (B:Option Addr) (d:Nat) (w:World) :
 bu 14 #[cc t A c B d] w (.bool (decide (t.ts.length≤62∧t.ds.length≤62))):=by
 refine an (N:=13) Tryz.func14 rfl rfl rfl (fun _ Y=>?_);have Z:=St.init w;refine aj (aq ?_);refine nb Y rfl rfl Z fun b1 _ _ g Y Z=>GO 10 ?_;intro _ Y;apply a8 (x:=decide ((t.ds.length:Int)≤62)) Y Z 7 rfl 5 12
 case ht=>
  intro a;refine GO 5 ?_;intro _ Y;exact ag ⟨Y.midE 4,Z⟩
 case hf=>
  intro a;refine GO 5 ?_;intro _ Y;exact ag ⟨Y.midE 4,Z⟩
 case h=>
  rintro f i ⟨j,b⟩
  refine GO 4 ?_;intro _ Y;refine aC Y rfl rfl ?_;refine⟨?_,b.below⟩
  have e:decide (t.ts.length≤62∧t.ds.length≤62)=(decide ((t.ts.length:Int)≤62)&&decide ((t.ds.length:Int)≤62)):=by
   rw[Bool.eq_iff_iff];simp;omega
  rw[e]
open Go.ChangeShapes Go.WideShapes Go.ChangeAt Go.RowKit
theorem Br {W:World} {i:Nat} {v:Value} {x:DataW Unit × List MemPlace} {xs:List Int} (h:DataW.trod (fun _=>()) Tryz.prog W 0 (fun _=>true) false i 53 [v]=some x)
 (hx:x.1=.slice (xs.map fun n=>.lit (.int .i64 n)) []):∃A c,v=.slice A xs.length c∧Rd W W.heap.size A (xs.map (.int .i64)):=by
 rcases Go.Deep.open_slice1 iG aa h with ⟨_,r⟩ | ⟨a,len,cap,m,n,V,D,Pl,g,hb,hl,hm,hmm,r,hV⟩
 · rw[r] at hx;cases hx
 · rw[r] at hx
   injection hx with hx _
   have k:len=xs.length:=by have:=congrArg List.length hx;simpa using this
   injection g with g _;subst k;refine⟨some a,cap,g,fun j u e=>?_⟩;rw[if_pos rfl] at hmm;rw[List.getElem?_map] at e
   have f:j<xs.length:=by
    cases hq:xs[j]? with
    | none=>rw[hq] at e;cases e
    | some z=>exact(List.getElem?_eq_some_iff.1 hq).1
   rw[List.getElem?_eq_getElem f] at e;injection e with e;obtain⟨p,ht⟩:=hV j ab;obtain⟨z,q,e2,_⟩:=DataW.trod_int eO ht
   have e3:D j=.lit (.int .i64 xs[j]):=by
    have:=congrArg (fun l=>l[j]?) hx;simp only[List.getElem?_map] at this;rw[List.getElem?_range f,List.getElem?_eq_getElem f] at this;injection this
   have d:D j=.lit (.int .i64 z):=(Prod.mk.inj e2).1;rw[e3] at d;injection d with d;injection d with _ d;injection q with q _;rw[q,←d,e] at p;obtain⟨b,o,t⟩:=a
   have s:t=none:=by
    have:=World.cell?_spot (hV 0 ab).1
    simpa [Addr.add] using this
   subst s
   have w:((⟨b,o,none⟩:Addr).add j)=⟨b,o+j,none⟩:=by unfold Addr.add;by_cases g:j=0<;>simp[g]
   rw[w] at p;exact⟨b,o,rfl,block_lt_of_cell p,p⟩
theorem DT {W:World} {b:Nat} {v:Value} {x:DataW Unit × List MemPlace} (h:DataW.trod (fun _=>()) Tryz.prog W 0 (fun _=>true) false b 53 [v]=some x) (hx:x.1=.nil):v=.slice none 0 0:=by
 rcases Go.Deep.open_slice1 iG aa h with ⟨c,_⟩ | ⟨a,len,cap,m,n,V,D,Pl,c,hb,hl,hm,hmm,h2,hV⟩
 · injection c
 · rw[h2] at hx;cases hx
theorem DI {W:World} (h:laidMetH Tryz.prog [("unicode/utf8.acceptRanges",Rows.laid_unicode_utf8_acceptRanges),("depository/recovery.follows",Rows.laid_depository_recovery_follows),("unicode/utf8.first",Rows.laid_unicode_utf8_first)] W):FolT W:=by
 rw[MakeChecks.laidMetH_plain _ _ _ aa] at h;obtain⟨ps,⟨Q,P,K,T,R,S,_,_,_,_,⟨g,t,cs,C,p,q,z,ht,O,J,_,_⟩,_⟩,_,_⟩:=h;obtain rfl:=Option.some.inj ((show Tryz.prog.globalNamed "depository/recovery.follows" = some 0 by kernel_rfl).symm.trans z);obtain rfl:=Option.some.inj ((show(Tryz.prog.globals[0]?).map (·.type)=some 255 by kernel_rfl).symm.trans ht);obtain⟨xs,m,_,ex,l,H,j⟩:=DataW.trod_array Tryz.underlying255 J
 have c1:Tryz.prog.cellsOf 53=1:=by kernel_rfl
 have M:Tryz.prog.cellsOf 255=6:=by kernel_rfl
 rw[M] at l;rw[c1] at j;unfold Rows.laid_depository_recovery_follows at ex
 match xs,H with
 | [x0,x1,x2,x3,x4,x5],_=>
  have f:=(DataW.agg.inj (Prod.mk.inj ex).1);simp only[List.map_cons,List.map_nil,List.cons.injEq,and_true] at f;obtain⟨k0,F,G,N,I,L⟩:=f
  have w:∀i,i<6→∃v,cs[i]? = some v∧∃x,[x0,x1,x2,x3,x4,x5][i]? = some x∧DataW.trod (fun _=>()) Tryz.prog W 0 (fun _=>true) false m 53 [v]=some x:=fun i s=>by
   have E:=j i s
   have D:i<cs.size:=by rw[←Array.length_toList,l];exact s
   refine⟨cs[i],Array.getElem?_eq_getElem D,_,List.getElem?_eq_getElem s,?_⟩
   have e:(cs.toList.drop (i*1)).take 1=[cs[i]]:=by
    rw[Nat.mul_one,List.drop_eq_getElem_cons (al D)];simp
   rw[e,List.getElem?_eq_getElem s] at E;exact E
  have cell:=fun i=>World.var?_cell z O i;refine⟨fun k B=>?_⟩;obtain⟨v,u,x,a,o⟩:=w k B;have b:W.cell? ⟨0,k,none⟩=some v:=(cell k).trans u
  have key:∀r:List Int,x.1=.slice (r.map fun n=>.lit (.int .i64 n)) []→∃A c,W.cell? ⟨0,k,none⟩=some (.slice A r.length c)∧Rd W W.heap.size A (r.map (.int .i64)):=fun r y=>by
   obtain⟨A,c,e,hr⟩:=Br o y;exact⟨A,c,by rw[b,e],hr⟩
  have d:x.1=.nil→∃A c,W.cell? ⟨0,k,none⟩=some (.slice A ([]:List Int).length c)∧Rd W W.heap.size A (([]:List Int).map (.int .i64)):=fun y=>⟨none,0,by rw[b,DT o y];rfl,Rd.nil _ _ _⟩
  match k,B with
  | 0,_=>obtain rfl:x0=x:=Option.some.inj a;exact key [0,1,2,3,4] k0.symm
  | 1,_=>obtain rfl:x1=x:=Option.some.inj a;exact key [1,4] F.symm
  | 2,_=>obtain rfl:x2=x:=Option.some.inj a;exact key [4] G.symm
  | 3,_=>obtain rfl:x3=x:=Option.some.inj a;exact key [1,4] N.symm
  | 4,_=>obtain rfl:x4=x:=Option.some.inj a;exact d I.symm
  | 5,_=>obtain rfl:x5=x:=Option.some.inj a;exact d L.symm
theorem H9 {n:Int} (h:(Lit.int .i64 n).wf=true):I6 n:=by
 have a:(decide (IntKind.i64.min≤n)&&decide (n≤IntKind.i64.max))=true:=h
 have b:IntKind.i64.min = -9223372036854775808:=by decide
 have e2:IntKind.i64.max=9223372036854775807:=by decide
 rw[b,e2,Bool.and_eq_true,decide_eq_true_eq,decide_eq_true_eq] at a;unfold I6;omega
open Go.ChangeShapes Go.WideShapes Go.ChangeAt Go.RowKit
theorem Ea {H:Type} {enc:TypeId × Value→H} {W:World} {a:Nat} {cs:List Value} {x:DataW H × List MemPlace} (l:cs.length=4)
 (h:DataW.trod enc Tryz.prog W 0 (fun _=>true) true a 116 cs=some x):∃y:Trn,cs=bW y∧True:=by
 obtain⟨xs,k,r,p,_,b,hf⟩:=DataW.trod_struct Tryz.underlying116 h
 match xs,b,cs,l with
 | [y0,y1,y2,y3],_,[c0,c1,c2,c3],_=>
  have m:Tryz.prog.cellsOf 3=1:=by kernel_rfl
  have j:Tryz.prog.cellsOf 4=1:=by kernel_rfl
  have c:=hf 0 _ rfl;have f:=hf 1 _ rfl;have d:=hf 2 _ rfl;have e:=hf 3 _ rfl;simp[m,j] at c f d e;obtain⟨o,e0,_,_⟩:=DataW.trod_int eO c;obtain⟨n,g,_,_⟩:=DataW.trod_int eO f;obtain⟨q,e2,_,_⟩:=DataW.trod_int eO d;obtain⟨i,e3,_⟩:=DataW.trod_bool tX e;simp only[List.cons.injEq,and_true] at e0 g e2 e3;exact⟨⟨o,n,q,i⟩,by rw[e0,g,e2,e3];rfl,trivial⟩
theorem BP {H:Type} {enc:TypeId × Value→H} {W:World} {a:Nat} {cs:List Value} {x:DataW H × List MemPlace} (i:cs.length=3)
 (h:DataW.trod enc Tryz.prog W 0 (fun _=>true) true a 124 cs=some x):∃y:Dty,cs=cN y∧True:=by
 obtain⟨xs,k,p,n,_,b,hf⟩:=DataW.trod_struct Tryz.underlying124 h
 match xs,b,cs,i with
 | [y0,y1,y2],_,[c0,c1,c2],_=>
  have j:Tryz.prog.cellsOf 3=1:=by kernel_rfl
  have g:Tryz.prog.cellsOf 4=1:=by kernel_rfl
  have c:=hf 0 _ rfl;have e:=hf 1 _ rfl;have d:=hf 2 _ rfl;simp[j,g] at c e d;obtain⟨m,e0,_,_⟩:=DataW.trod_int eO c;obtain⟨l,f,_⟩:=DataW.trod_bool tX e;obtain⟨o,e2,_,_⟩:=DataW.trod_int eO d;simp only[List.cons.injEq,and_true] at e0 f e2;exact⟨⟨m,l,o⟩,by rw[e0,f,e2];rfl,trivial⟩
structure TblA where
 t:Tbl
 A:Option Addr
 c:Nat
 B:Option Addr
 d:Nat
theorem Db {H:Type} {enc:TypeId × Value→H} {W:World} {r:Reach} {e:Nat} {v:Value} {d:DataW H} {p:List MemPlace}
 (s:Value.okWide Tryz.prog W r e 25 v) (h:DataW.Trod enc Tryz.prog W 0 (fun _=>true) true 25 v d p) :
 ∃(t:Tbl) (A:Option Addr) (c:Nat) (B:Option Addr) (d:Nat),v=cc t A c B d∧Rd W W.heap.size A (t.ts.flatMap bW)∧Rd W W.heap.size B (t.ds.flatMap cN):=by
 obtain⟨y,l,n,h3⟩:=wu (α:=TblA) (fun y=>[.slice y.A y.t.ts.length y.c,.slice y.B y.t.ds.length y.d]) 2 (fun y=>Rd W W.heap.size y.A (y.t.ts.flatMap bW)∧Rd W W.heap.size y.B (y.t.ds.flatMap cN)) Tryz.underlying25 aa (fun a cs x b h=>by
  obtain⟨xs,k,u,q,_,f,hf⟩:=DataW.trod_struct Tryz.underlying25 h
  match xs,f,cs,b with
  | [y0,y1],_,[c0,c1],_=>
   have c1:Tryz.prog.cellsOf 22=1:=by kernel_rfl
   have c2:Tryz.prog.cellsOf 23=1:=by kernel_rfl
   have g:=hf 0 _ rfl;have i:=hf 1 _ rfl;simp[c1,c2] at g i;obtain⟨A,c,ts,e0,_,m,_⟩:=nQ bW 4 bq (fun _=>True) dT aa (fun a cs x b h=>Ea b h) g;obtain⟨B,d,ds,j,_,o,_⟩:=nQ cN 3 dF (fun _=>True) iy aa (fun a cs x b h=>BP b h) i;simp only[List.cons.injEq,and_true] at e0 j
   exact⟨⟨⟨ts,ds⟩,A,c,B,d⟩,by rw[e0,j],m,o⟩) s h
 exact⟨y.t,y.A,y.c,y.B,y.d,l,n,h3⟩
theorem xz {H:Type} {enc:TypeId × Value→H} {W:World} {r:Reach} {a:Nat} {v:Value} {d:DataW H} {p:List MemPlace}
 (D:Value.okWide Tryz.prog W r a 48 v) (h:DataW.Trod enc Tryz.prog W 0 (fun _=>true) true 48 v d p) :
 ∃(A:Option Addr) (c:Nat) (l:List Pgp),v=.slice A l.length c∧l.length≤maxLen∧Rd W W.heap.size A (l.flatMap bX)∧∀x∈l,I6 x.g∧x.b.size≤maxLen:=
 zG bX 3 aY (fun x=>I6 x.g∧x.b.size≤maxLen) en aa (fun f cs x q h=>by
  obtain⟨xs,k,E,z,_,e,hf⟩:=DataW.trod_struct Tryz.underlying111 h
  match xs,e,cs,q with
  | [y0,y1,y2],_,[c0,c1,c2],_=>
   have s:Tryz.prog.cellsOf 3=1:=by kernel_rfl
   have u:Tryz.prog.cellsOf 4=1:=by kernel_rfl
   have w:Tryz.prog.cellsOf 9=1:=by kernel_rfl
   have i:=hf 0 _ rfl;have m:=hf 1 _ rfl;have j:=hf 2 _ rfl;simp[s,u,w] at i m j;obtain⟨t,e0,_,B⟩:=DataW.trod_int eO i;obtain⟨y,n,_⟩:=DataW.trod_bool tX m;obtain⟨C,e2,_,o⟩:=DataW.trod_string dr j;simp only[List.cons.injEq,and_true] at e0 n e2
   exact⟨⟨t,y,C⟩,by rw[e0,n,e2];rfl,H9 B,o⟩) D h
end Go.Proofs.YtcfdpfmchchkaaaGreatDoor
