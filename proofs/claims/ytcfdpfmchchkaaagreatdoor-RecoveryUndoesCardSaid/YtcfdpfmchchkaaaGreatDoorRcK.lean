/- Chapter 22 -/
import Derived.Test.YtcfdpfmchchkaaaGreatDoorRcJ
namespace Go.Proofs.YtcfdpfmchchkaaaGreatDoor
set_option maxHeartbeats 1000000
set_option maxRecDepth 4000
set_option linter.unusedVariables false
set_option linter.unusedSimpArgs false
open Go.RowKit Go.Sort Go.Shelf
structure UndS (σ:Type) where
 j:Nat
 ls:List (Nat × Lsr)
 s:σ
def Dw {σ:Type} (a:lD σ):Prop:=∀s x r,(a s x r).2.1.u=x.u∧(a s x r).2.1.i=x.i
def zR:Rcd:=⟨0,⟨0,0,0,0,0,false,GW,⟨#[]⟩⟩⟩
theorem mL {ls:List (Nat × Lsr)} (d:(ls.map Prod.fst).Nodup) {m:Nat × Lsr} (hm:m∈ls) (v:Int):lB ls m.1 2 v=gn ls m.1 ⟨m.2.i,m.2.l,v⟩:=by
 unfold lB gn;apply List.map_congr_left;intro x hx;by_cases e:x.1=m.1
 · rw[if_pos e,if_pos e]
   have:x=m:=by
    have key:∀(l:List (Nat × Lsr)),(l.map Prod.fst).Nodup→x∈l→m∈l→x=m:=by
     intro l
     induction l with
     | nil=>intro _ h;cases h
     | cons a l ih=>
      intro h c b;rw[List.map_cons,List.nodup_cons] at h;rcases List.mem_cons.1 c with c | h1'
      · rcases List.mem_cons.1 b with b | h2'
        · rw[c,b]
        · exact absurd (by rw[←c,e];exact List.mem_map_of_mem h2') h.1
      · rcases List.mem_cons.1 b with b | h2'
        · exact absurd (by rw[←b,←e];exact List.mem_map_of_mem h1') h.1
        · exact ih h.2 h1' h2'
    exact key ls d hx hm
   rw[this];rfl
 · rw[if_neg e,if_neg e]
theorem fM {ls:List (Nat × Lsr)} {m:Nat × Lsr} (hm:m∈ls) (x:Lsr):(m.1,x)∈gn ls m.1 x:=by
 unfold gn;exact List.mem_map.2 ⟨m,hm,by rw[if_pos rfl]⟩
theorem gi (ls:List (Nat × Lsr)) (b:Nat) (x y:Lsr):gn (gn ls b x) b y=gn ls b y:=by
 unfold gn;rw[List.map_map];apply List.map_congr_left;intro z _;show(if (if z.1=b then (z.1,x) else z).1=b then ((if z.1=b then (z.1,x) else z).1,y) else (if z.1=b then (z.1,x) else z))=if z.1=b then (z.1,y) else z;by_cases e:z.1=b
 · rw[if_pos e,if_pos (show(z.1,x).1=b from e),if_pos e]
 · rw[if_neg e,if_neg e]
theorem mJ {ls:List (Nat × Lsr)} {b:Nat} {x:Lsr} {p:Lsr→Prop} (h:∀y∈ls,p y.2) (hx:p x):∀y∈gn ls b x,p y.2:=fun y a=>by
 unfold gn at a;obtain⟨z,c,rfl⟩:=List.mem_map.1 a
 split
 · exact hx
 · exact h z c
theorem BA {l:List Rcd} {i:Nat} (a:VldH l i) {k:Nat} (b:k<i):0≤bE (l[k]'(by have:=a.1;omega)).e:=by
 have:=kY (a.e0 b).2.2;unfold bE
 split<;>omega
theorem CL {σ τ:Type} (π:τ→σ) (C:τ→Ent) (H:lD σ) (Vp:Dw H) (f:FuncId) (Vd:List Value) (l:List Rcd) (B:Option Addr) (d:Nat) (B0:Nat) (A:Option Addr) (c:Nat) (a:List (Nat × Lsr)) (s0:τ) (M0:List Nat) (w:World)
 (Kq:Nat→τ→Prop) (Vw:Kq 0 s0)
 (Vn:∀(vs:Array Value) (W:World),(callFunc f vs).run Tryz.prog W=.ok (.enter f vs) W) (E:B0≤w.heap.size) (hM:∀b∈M0,B0≤b) (O:Rd w B0 B (l.flatMap cB)) (hv:VldH l l.length) (hl:l.length≤1000) (hn:a.length≤1000) (Vs:∀x∈a,0≤x.2.u)
 (Vq:St M0 w w [dL a,C s0,.row (.slice A a.length c) a.length 233 1 (a.map eb)])
 (Vg:∀(j:Nat) (X:World) (ls:List (Nat × Lsr)) (s:τ) (m:Nat × Lsr) (r:Rcd),j<101→Kq j s→KeptL M0 w X→St (eh X [dL ls,C s]) X X [dL ls,C s]→m∈ls→r∈l→cb r.e=true→r.e.t=m.2.i→m.2.u=bE r.e →
  Calls Tryz.prog f ([eb m,ae r.l,cy r.e] ++ Vd).toArray X fun e X'=>∃p:List (Nat × Lsr) × τ,e=.returned (ae (H (π s) m.2 r).2.2)∧(((H (π s) m.2 r).2.2=0→p.1=gn ls m.1 (H (π s) m.2 r).2.1∧π p.2=(H (π s) m.2 r).1∧Kq (j+1) p.2)∧p.1.map Prod.fst=ls.map Prod.fst)∧St (eh X [dL ls,C s]) X X' [dL p.1,C p.2]) :
 Calls Tryz.prog 135 #[.slice B l.length d,.slice A a.length c,.func (.func f) #[] Vd.toArray] w fun e w'=>∃p:List (Nat × Lsr) × τ,e=.returned (ae (fJ l H 101 a (π s0)).2.2)∧(((fJ l H 101 a (π s0)).2.2=0→p.1=(fJ l H 101 a (π s0)).1∧π p.2=(fJ l H 101 a (π s0)).2.1)∧p.1.map Prod.fst=a.map Prod.fst)∧St M0 w w' [dL p.1,C p.2,.row (.slice A a.length c) a.length 233 1 (a.map eb)]:=by
 have R:cH Rcd.l l:=by have:=hv.srt;rwa [List.take_length] at this
 obtain⟨U,hU⟩:∃U,U=fJ l H 101 a (π s0):=⟨_,rfl⟩;rw[←hU];refine an (N:=84) Tryz.func135 rfl rfl rfl (fun _ Y=>?_);have Z:=Vq;refine GO 12 ?_;intro _ Y;refine aV Y Z [0,1,2] (fun (q:UndS τ)=>[(11,ae (q.j:Nat))]) (fun (q:UndS τ)=>q.j≤101∧U=fJ l H (101-q.j) q.ls (π q.s)∧q.ls.map Prod.fst=a.map Prod.fst∧(∀x∈q.ls,0≤x.2.u)∧Kq q.j q.s) (fun q L=>[dL q.ls,C q.s,.row (.slice A a.length c) a.length 233 1 (a.map eb)]) (fun (q:UndS τ)=>101-q.j) (⟨0,a,s0⟩) (⟨Nat.zero_le _,hU,rfl,Vs,Vw⟩) bC (Z) ?_;intro q _ _ Zf Y Z;refine GO 6 ?_;intro _ Y;refine ak (Y.ev rfl) (fun Zg=>?_) (fun Zg=>?_)
 ·
  have T:q.j<101:=by have:=of_decide_eq_true Zg;omega
  obtain⟨Wb,n,J,hu,Vj⟩:=Zf;obtain⟨g,hg⟩:∃g,101-q.j=g+1:=⟨100-q.j,by omega⟩;rw[hg,fJ] at n;have Vh:=yI J;refine GO 7 ?_;intro _ Y;refine sv Y (az (zs:=lJ) (pl:=fY) aa aa (Y.evs2 rfl) rfl rfl) fun _ Y=>?_;refine nb Y rfl rfl Z fun Vo _ _ Zk Y Z=>?_;refine bV Y (wn rfl) (f:=fun b=>.slice (some ⟨b,0,none⟩) 1 1) (ba jg aa aa (Y.evs2 rfl) rfl rfl rfl au au) rfl rfl Z fun Wc _ _ Zl S Z=>?_;refine rK (z:=.pointer none) (sz:=1) (bytes:=8) S (wn rfl) ⟨rfl,rfl⟩ rfl jg aa rfl rfl (S.ev rfl) (S.ev rfl) Z (i:=4) rfl (Z.boxRd (i:=0) rfl) rfl (List.all_eq_true.1 rfl) ⟨by omega,by decide⟩ fun Vr Vt _ X9 M Z Vx=>?_;obtain⟨z,zs,Vk,D⟩:=yR (b:=Vo) hu
  have Vi:(z::zs).map eb=a.map eb ++ [.pointer (some ⟨Vo,0,none⟩)]:=by rw[←Vk,List.map_append,Vh];rfl
  have Vl:(z::zs).length=a.length+1:=by have:=congrArg List.length Vi;rw[List.length_map,List.length_append,List.length_map] at this;exact this
  have Vy:∀x∈z::zs,Box X9 x.1 (gA x.2) 273:=fun x hx=>by
   rw[←Vk] at hx;rcases List.mem_append.1 hx with hx | hx
   · exact(Z.at_ (i:=2) rfl).1 x hx
   · rw[List.mem_singleton.1 hx];exact Z.at_ (i:=1) rfl
  refine cQ M rfl Z (Vl▸oW z zs Vr Vt _ (Vi▸Vx) Vy (by have:(z::zs).length=zs.length+1:=rfl;omega)) fun _ Zm Y Z=>?_;obtain⟨m,Vu⟩:∃m,m=zs.foldl lX z:=⟨_,rfl⟩;rw[←Vu] at Y D
  have Vc:Box Zm m.1 (gA m.2) 273:=by
   rcases D with ⟨_,M⟩ | ⟨m',hm',_,M⟩
   · rw[M];exact Z.at_ (i:=1) rfl
   · rw[M];exact(Z.at_ (i:=2) rfl).1 _ hm'
  refine GO 8 ?_;intro _ Y;refine sv Y (fy 2 (Y.ev rfl)) fun _ Y=>?_;refine sv Y (lx (Y.ev rfl) (Box.cells Vc 2)) fun _ Y=>?_;refine GO 3 ?_;intro _ Y;refine ak (Y.ev rfl) (fun Zh=>?_) (fun Zh=>?_)
  ·
   have Y:m.2.u=0:=al Zh
   have G:U=(q.ls,π q.s,0):=by
    rcases D with ⟨S,M⟩ | ⟨m',hm',S,M⟩
    · rw[n,S]
    · subst M
      rw[n,S];simp only;rw[if_pos Y]
   refine GO 12 ?_;intro _ Y;refine aC Y rfl rfl ?_;exact⟨(q.ls,q.s),by rw[G],⟨fun _=>by rw[G];exact⟨rfl,rfl⟩,J⟩,(Z.sub (aB 28))⟩
  ·
   have Y:m.2.u≠0:=al Zh
   obtain⟨F,Vv⟩:m∈q.ls∧Hs q.ls=some m:=by
    rcases D with ⟨S,M⟩ | ⟨m',hm',S,M⟩
    · exact absurd (by rw[M];rfl) Y
    · rw[M];exact⟨hm',S⟩
   rw[Vv] at n;simp only at n;rw[if_neg Y] at n;refine GO 7 ?_;intro _ Y;refine sv Y (fy 2 (Y.ev rfl)) fun _ Y=>?_;refine sv Y (lx (Y.ev rfl) (Box.cells Vc 2)) fun _ Y=>?_;refine cQ Y rfl Z (lu l R B d m.2.u _ ((Z.rdBase hM E O).mono (Nat.le_trans E Z.size)) hl) fun _ _ Y Z=>?_;refine GO 5 ?_;intro _ Y;apply aK Y (fK 19) _ aa
   case h=>
    refine GO 1 ?_;intro _ Y;refine qv Y (fun X K=>mZ ub aa (Y.ev rfl) (Y.ev rfl)) fun _ Y=>?_;refine GO 1 ?_;intro _ Y;apply fZ (x:=!cb ((cz l m.2.u).getD zR).e) Y 32 rfl 6 38
    case hf=>
     intro Zb;obtain⟨b',o',rfl,I,q1,q2,q3⟩:=gH R O Zb;generalize jU Rcd.l l m.2.u=k at I q1 q2 q3;refine qy Y (fun X K=>(aA (v':=.pointer (some ⟨b',o'+k*14+1,none⟩)) (congrArg Value.pointer q3) (bD (Y.ev rfl)))) fun _ Y=>?_;refine GO 1 ?_;intro _ Y;refine jk (v:=cy l[k].e) Y (ao Y _ rfl rfl rfl Zb) rfl rfl (fun X K=>(ah aa aa (Y.ev rfl) (dQ ((Z.grow K).rdBase hM E O) I))) fun _ Y=>me Y (ao Y _ rfl rfl rfl Zb) rfl rfl (fun X=>(aw a6 (Y.evs rfl) rfl)) (fun X K=>jR _ _) fun _ Y=>qy Y (fun X K=>(aA (v':=.bool (!cb ((cz l m.2.u).getD zR).e)) (by rw[q2];rfl) (qJ (Y.ev rfl)))) fun _ Y=>?_;refine GO 1 ?_;intro _ Y;exact ax (Y.midE 5)
    case ht=>
     intro Zb;refine GO 6 ?_;intro _ Y;exact ax (Y.midE 5)
    case h=>
     intro _ Y;refine GO 1 ?_;intro _ Y;apply mr Y 39 rfl 9 48
     case ht=>
      intro Zd;refine GO 9 ?_;intro _ Y;exact ax ⟨_,Y.midE 8⟩
     case hf=>
      intro Zd;obtain⟨b',o',rfl,I,q1,q2,q3⟩:=gH R O (Bool.or_eq_false_iff.1 Zd).1;generalize jU Rcd.l l m.2.u=k at I q1 q2 q3;refine qy Y (fun X K=>(aA (v':=.pointer (some ⟨b',o'+k*14+1,none⟩)) (congrArg Value.pointer q3) (bD (Y.ev rfl)))) fun _ Y=>?_;refine GO 1 ?_;intro _ Y;refine qy Y (fun X K=>(fy 1 (Y.ev rfl))) fun _ Y=>?_;refine qy Y (fun X K=>(lx (Y.ev rfl) ((dQ ((Z.grow K).rdBase hM E O) I) 1 _ rfl))) fun _ Y=>?_;refine GO 2 ?_;intro _ Y;refine qy Y (fun X K=>(fy 0 (Y.ev rfl))) fun _ Y=>?_;refine qy Y (fun X K=>(lx (Y.ev rfl) (Box.cells (((Z.grow K).at_ (i:=2) rfl).1 _ F) 0))) fun _ Y=>?_;refine qy Y (fun X K=>(aA (v':=.bool (((cz l m.2.u).getD zR).e.t != m.2.i)) (by rw[q2];rfl) (kh (Y.ev rfl) (Y.ev rfl)))) fun _ Y=>?_;exact ax (Y.midE 8)
     case h=>
      intro Wa _ Ve Y;refine ax ?_;refine aT fun _ Zi Zn=>?_;have Z:=Z.grow Zi;refine sv Y (iq (Y.ev rfl) (Y.ev rfl) (Y.ev rfl) Ve) fun _ Y=>?_;refine ag (ai ?_);refine ak (Y.ev rfl) (fun Ze=>?_) (fun Ze=>?_)
      ·
       have G:U=(q.ls,π q.s,6):=by
        rw[n]
        cases hf:cz l m.2.u with
        | none=>rfl
        | some r=>
         simp only;rw[if_neg]
         rintro ⟨u1,u2⟩
         rw[hf] at Ze
         cases hN:(mj B l m.2.u).isNone with
         | true=>rw[p8 R O hN] at hf;cases hf
         | false=>
          rw[hN,Option.getD_some,u1,u2] at Ze;simp at Ze
       refine GO 12 ?_;intro _ Y;refine aC Y rfl rfl ?_;exact⟨(q.ls,q.s),by rw[G],⟨fun h=>absurd h (by rw[G];exact(by decide:¬(6:Int)=0)),J⟩,(Z.sub (aB 28))⟩
      ·
       obtain⟨Q,Jv⟩:=Bool.or_eq_false_iff.1 Ze;obtain⟨Q,Jw⟩:=Bool.or_eq_false_iff.1 Q;obtain⟨b',o',rfl,I,q1,q2,q3⟩:=gH R O Q;rw[q3] at Y;generalize jU Rcd.l l m.2.u=k at I q1 q2 q3 Y;rw[q2,Option.getD_some] at Jw Jv;have ho:cb l[k].e=true:=al Jw;have Vb:l[k].e.t=m.2.i:=al Jv;rw[q2] at n;simp only at n;rw[if_pos ⟨ho,Vb⟩] at n;have Vf:=BA hv I;have Vm:=(Z.at_ (i:=2) rfl).2;refine GO 6 ?_;intro _ Y;refine sv Y (fy 2 (Y.ev rfl)) fun _ Y=>?_;refine sv Y (lx (Y.ev rfl) (Box.cells ((Z.at_ (i:=2) rfl).1 _ F) 2)) fun _ Y=>?_;refine GO 8 ?_;intro _ Y;refine sv Y (fy 2 (Y.ev rfl)) fun _ Y=>?_;refine sv Y (lx (Y.ev rfl) ((dQ (Z.rdBase hM E O) I) 2 _ rfl)) fun _ Y=>?_;refine GO 1 ?_;intro _ Y;refine sv Y (fy 2 (Y.ev rfl)) fun _ Y=>?_;refine jL (wn rfl) ⟨rfl,rfl⟩ (Y.ev rfl) (Y.ev rfl) aa Z (i:=2) rfl F au fun _ Z=>?_;rw[show lB q.ls m.1 (0+2) l[k].e.p=_ from mL Vm F l[k].e.p] at Z;refine GO 7 ?_;intro _ Y;refine sv Y (fy 0 (Y.ev rfl)) fun _ Y=>?_;refine sv Y (lx (Y.ev rfl) ((dQ (Z.rdBase hM E O) I) 0 _ rfl)) fun _ Y=>?_;refine GO 3 ?_;intro _ Y;refine ak (Y.ev rfl) (fun Zj=>?_) (fun Zj=>?_)
       ·
        have Jz:bE l[k].e=l[k].e.x:=by unfold bE;rw[if_pos (al Zj)]
        refine GO 4 ?_;intro _ Y;refine sv Y (fy 3 (Y.ev rfl)) fun _ Y=>?_;refine sv Y (lx (Y.ev rfl) ((dQ (Z.rdBase hM E O) I) 3 _ rfl)) fun _ Y=>?_;refine GO 1 ?_;intro _ Y;refine sv Y (fy 2 (Y.ev rfl)) fun _ Y=>?_;refine jL (wn rfl) ⟨rfl,rfl⟩ (Y.ev rfl) (Y.ev rfl) aa Z (i:=2) rfl (fM F _) au fun _ Z=>?_;rw[show lB (gn q.ls m.1 ⟨m.2.i,m.2.l,l[k].e.p⟩) m.1 (0+2) l[k].e.x=gn q.ls m.1 ⟨m.2.i,m.2.l,l[k].e.x⟩ from(mL (m:=(m.1,⟨m.2.i,m.2.l,l[k].e.p⟩)) (by rw[el];exact Vm) (fM F _) l[k].e.x).trans (gi _ _ _ _),←Jz] at Z;refine GO 6 ?_;intro _ Y;refine sv Y (aA (v':=ae l[k].l) (congrArg _ q1.symm) (bD (Y.ev rfl))) fun _ Y=>?_;refine GO 2 ?_;intro _ Y;refine sv (v:=cy l[k].e) Y (ah aa aa (Y.ev rfl) (dQ (Z.rdBase hM E O) I)) fun _ Y=>?_;refine gu (L1:=[dL _,C q.s]) (V:=fun _=>ae _) Y (wn rfl) (cG Vn (Y.ev rfl) (Y.evs rfl) rfl) rfl rfl (Z.sub (aB 28)) (Vg q.j _ _ q.s (m.1,⟨m.2.i,m.2.l,bE l[k].e⟩) l[k] T Vj Z.keptL (St.frontL (L2:=[_]) (Z.sub (aB 28))) (fM F _) (List.getElem_mem I) ho Vb rfl) fun o _ _ Y Za Z=>?_;refine GO 9 ?_;intro _ Y;refine ak (Y.ev rfl) (fun Zc=>?_) (fun Zc=>?_)
        ·
         have hne:(H (π q.s) ⟨m.2.i,m.2.l,bE l[k].e⟩ l[k]).2.2≠0:=al Zc;rw[if_pos hne] at n;refine GO 12 ?_;intro _ Y;refine aC Y rfl rfl ?_;exact⟨o,by rw[n],⟨fun h=>absurd h (by rw[n];exact hne),by rw[Za.2,el];exact J⟩,Z⟩
        ·
         have hne:(H (π q.s) ⟨m.2.i,m.2.l,bE l[k].e⟩ l[k]).2.2=0:=al Zc;rw[if_neg (fun h=>h hne)] at n;obtain⟨e1,e2,Va⟩:=Za.1 hne;rw[gi] at e1
         have Jy:o.1.map Prod.fst=a.map Prod.fst:=by rw[Za.2,el];exact J
         have Jx:∀x∈o.1,0≤x.2.u:=by
          rw[e1];exact mJ (p:=fun y=>0≤y.u) hu (by rw[(Vp _ _ _).1];exact Vf)
         have P:U=fJ l H (101-(q.j+1)) o.1 (π o.2):=by rw[n,e1,e2,show 101-(q.j+1)=g by omega];rfl
         refine GO 8 ?_;intro _ Y;exact⟨⟨q.j+1,o.1,o.2⟩,(by show 101-(q.j+1)<101-q.j;omega),⟨T,P,Jy,Jx,Va⟩,Y.re bC,Z⟩
       ·
        have Jz:bE l[k].e=l[k].e.p:=by unfold bE;rw[if_neg (al Zj)]
        rw[←Jz] at Z;refine GO 6 ?_;intro _ Y;refine sv Y (aA (v':=ae l[k].l) (congrArg _ q1.symm) (bD (Y.ev rfl))) fun _ Y=>?_;refine GO 2 ?_;intro _ Y;refine sv (v:=cy l[k].e) Y (ah aa aa (Y.ev rfl) (dQ (Z.rdBase hM E O) I)) fun _ Y=>?_;refine gu (L1:=[dL _,C q.s]) (V:=fun _=>ae _) Y (wn rfl) (cG Vn (Y.ev rfl) (Y.evs rfl) rfl) rfl rfl (Z.sub (aB 28)) (Vg q.j _ _ q.s (m.1,⟨m.2.i,m.2.l,bE l[k].e⟩) l[k] T Vj Z.keptL (St.frontL (L2:=[_]) (Z.sub (aB 28))) (fM F _) (List.getElem_mem I) ho Vb rfl) fun o _ _ Y Za Z=>?_;refine GO 9 ?_;intro _ Y;refine ak (Y.ev rfl) (fun Zc=>?_) (fun Zc=>?_)
        ·
         have hne:(H (π q.s) ⟨m.2.i,m.2.l,bE l[k].e⟩ l[k]).2.2≠0:=al Zc;rw[if_pos hne] at n;refine GO 12 ?_;intro _ Y;refine aC Y rfl rfl ?_;exact⟨o,by rw[n],⟨fun h=>absurd h (by rw[n];exact hne),by rw[Za.2,el];exact J⟩,Z⟩
        ·
         have hne:(H (π q.s) ⟨m.2.i,m.2.l,bE l[k].e⟩ l[k]).2.2=0:=al Zc;rw[if_neg (fun h=>h hne)] at n;obtain⟨e1,e2,Va⟩:=Za.1 hne;rw[gi] at e1
         have Jy:o.1.map Prod.fst=a.map Prod.fst:=by rw[Za.2,el];exact J
         have Jx:∀x∈o.1,0≤x.2.u:=by
          rw[e1];exact mJ (p:=fun y=>0≤y.u) hu (by rw[(Vp _ _ _).1];exact Vf)
         have P:U=fJ l H (101-(q.j+1)) o.1 (π o.2):=by rw[n,e1,e2,show 101-(q.j+1)=g by omega];rfl
         refine GO 8 ?_;intro _ Y;exact⟨⟨q.j+1,o.1,o.2⟩,(by show 101-(q.j+1)<101-q.j;omega),⟨T,P,Jy,Jx,Va⟩,Y.re bC,Z⟩
   case hB=>kernel_rfl
   case hst=>rfl
 ·
  have Vz:101≤q.j:=by have:=of_decide_eq_false Zg;omega
  have n:=Zf.2.1;rw[show 101-q.j=0 by omega,fJ] at n;refine GO 11 ?_;intro _ Y;refine aC Y rfl rfl ?_;exact⟨(q.ls,q.s),by rw[n],⟨fun h=>absurd h (by rw[n];exact(by decide:¬(26:Int)=0)),Zf.2.2.1⟩,Z⟩
open Go.RowKit
abbrev Pr:=(Nat × Lsr) × Los
def rS:List Pr→Option Pr
 | []=>none
 | x::l=>match rS l with
  | none=>some x
  | some y=>if y.1.2.u>x.1.2.u then some y else some x
structure PrOk (ps:List Pr):Prop where
 eq:∀p∈ps,p.1.2.i=p.2.i∧p.1.2.u=p.2.u
 n1:(ps.map fun p=>p.1.1).Nodup
 n2:(ps.map fun p=>p.2.j).Nodup
theorem mT:∀{ps:List Pr} {m:Pr},rS ps=some m→m∈ps
 | [],m,h=>by cases h
 | x::l,m,h=>by
  unfold rS at h
  split at h
  · cases h;exact List.mem_cons_self
  · rename_i y a
    split at h
    · cases h;exact List.mem_cons_of_mem _ (mT a)
    · cases h;exact List.mem_cons_self
theorem qS:∀{ps:List Pr},(∀p∈ps,p.1.2.u=p.2.u)→fz (ps.map Prod.snd)=(rS ps).map Prod.snd
 | [],h=>rfl
 | x::l,h=>by
  have b:=qS (ps:=l) fun p d=>h p (List.mem_cons_of_mem _ d);rw[List.map_cons,fz,b,rS]
  cases hb:rS l with
  | none=>rfl
  | some y=>
   have a:=h x List.mem_cons_self;have c:=h y (List.mem_cons_of_mem _ (mT hb));simp only[Option.map_some];rw[←a,←c]
   split<;>rfl
def ve:List (Nat × Lsr)→Option (Nat × Lsr)
 | []=>none
 | x::l=>match ve l with
  | none=>some x
  | some y=>if y.2.u>x.2.u then some y else some x
theorem qb:∀(ps:List Pr),ve (ps.map Prod.fst)=(rS ps).map Prod.fst
 | []=>rfl
 | x::l=>by
  rw[List.map_cons,ve,qb l,rS]
  cases rS l with
  | none=>rfl
  | some y=>
   simp only[Option.map_some]
   split<;>rfl
theorem xk:∀(zs:List (Nat × Lsr)) (z:Nat × Lsr),some (zs.foldl lX z)=ve (z::zs)
 | [],z=>rfl
 | x::r,z=>by
  rw[List.foldl_cons,xk r (lX z x),ve,ve,ve];unfold lX
  cases hb:ve r with
  | none=>simp only;split<;>rfl
  | some y=>
   simp only;by_cases b:y.2.u>x.2.u
   · rw[if_pos b]
     simp only;by_cases a:z.2.u<x.2.u
     · rw[if_pos a,if_pos b,if_pos ab]
     · rw[if_neg a]
   · rw[if_neg b]
     simp only;by_cases a:z.2.u<x.2.u
     · rw[if_pos a,if_neg b,if_pos ab]
     · rw[if_neg a,if_neg ab,if_neg ab]
theorem zg (ls:List (Nat × Lsr)):Hs ls=ve ls:=by
 cases ls with
 | nil=>rfl
 | cons z zs=>exact xk zs z
theorem fA {α β:Type} {f:α→β}:∀{l:List α},(l.map f).Nodup→∀{x y:α},x∈l→y∈l→f x=f y→x=y
 | [],_,x,y,hx,_,_=>by cases hx
 | a::l,h,x,y,hx,b,e=>by
  rw[List.map_cons,List.nodup_cons] at h;rcases List.mem_cons.1 hx with hx | hx'
  · rcases List.mem_cons.1 b with b | hy'
    · rw[hx,b]
    · refine absurd ?_ h.1
      rw[←hx,e];exact List.mem_map_of_mem hy'
  · rcases List.mem_cons.1 b with b | hy'
    · refine absurd ?_ h.1
      rw[←b,←e];exact List.mem_map_of_mem hx'
    · exact fA h.2 hx' hy' e
def pK (ps:List Pr) (m:Pr) (x:Lsr):List Pr:=ps.map fun p=>if p.1.1=m.1.1 then ((p.1.1,x),⟨p.2.j,p.2.i,x.u⟩) else p
theorem CF (ps:List Pr) (m:Pr) (x:Lsr):(pK ps m x).map Prod.fst=(ps.map Prod.fst).map fun y=>if y.1=m.1.1 then (y.1,x) else y:=by
 unfold pK;rw[List.map_map,List.map_map];apply List.map_congr_left;intro p _;show(if p.1.1=m.1.1 then (((p.1.1,x),(⟨p.2.j,p.2.i,x.u⟩:Los)):Pr) else p).1=if p.1.1=m.1.1 then (p.1.1,x) else p.1
 split<;>rfl
theorem Dd {ps:List Pr} (h:PrOk ps) {m:Pr} (hm:m∈ps) (x:Lsr):(pK ps m x).map Prod.snd=pG (ps.map Prod.snd) m.2.j x.u:=by
 unfold pK pG;rw[List.map_map,List.map_map];apply List.map_congr_left;intro p a;show(if p.1.1=m.1.1 then (((p.1.1,x),(⟨p.2.j,p.2.i,x.u⟩:Los)):Pr) else p).2=if p.2.j=m.2.j then ⟨p.2.j,p.2.i,x.u⟩ else p.2;by_cases e:p.1.1=m.1.1
 · have:=fA h.n1 a hm e
   subst this;rw[if_pos rfl,if_pos rfl]
 · rw[if_neg e,if_neg]
   intro q;exact e (by rw[fA h.n2 a hm q])
theorem Fc {ps:List Pr} (h:PrOk ps) {m:Pr} (hm:m∈ps) {x:Lsr} (hx:x.i=m.1.2.i):PrOk (pK ps m x):=by
 refine⟨fun p b=>?_,?_,?_⟩
 · unfold pK at b
   obtain⟨q,a,rfl⟩:=List.mem_map.1 b;by_cases e:q.1.1=m.1.1
   · rw[if_pos e]
     have:=fA h.n1 a hm e;subst this;exact⟨hx.trans (h.eq _ a).1,rfl⟩
   · rw[if_neg e];exact h.eq _ a
 · have e:(pK ps m x).map (fun p=>p.1.1)=ps.map fun p=>p.1.1:=by
    unfold pK;rw[List.map_map];apply List.map_congr_left;intro p _;show(if p.1.1=m.1.1 then (((p.1.1,x),(⟨p.2.j,p.2.i,x.u⟩:Los)):Pr) else p).1.1=p.1.1
    split<;>rfl
   rw[e];exact h.n1
 · have e:(pK ps m x).map (fun p=>p.2.j)=ps.map fun p=>p.2.j:=by
    unfold pK;rw[List.map_map];apply List.map_congr_left;intro p _;show(if p.1.1=m.1.1 then (((p.1.1,x),(⟨p.2.j,p.2.i,x.u⟩:Los)):Pr) else p).2.j=p.2.j
    split<;>rfl
   rw[e];exact h.n2
def jA {σ:Type} (a:lD σ):(Nat→Int)→σ→List Stp→σ × Int
 | _,s,[]=>(s,0)
 | g,s,st::r=>if (a s ⟨st.r.e.t,g st.j,bE st.r.e⟩ st.r).2.2≠0 then (s,(a s ⟨st.r.e.t,g st.j,bE st.r.e⟩ st.r).2.2)
  else jA a (fun k=>if k=st.j then (a s ⟨st.r.e.t,g st.j,bE st.r.e⟩ st.r).2.1.l else g k) (a s ⟨st.r.e.t,g st.j,bE st.r.e⟩ st.r).1 r
theorem zt {σ:Type} (l:List Rcd) (b:lD σ) (y:Dw b):∀(f:Nat) (ps:List Pr) (s:σ) (g:Nat→Int),PrOk ps→(∀p∈ps,g p.2.j=p.1.2.l) →
 ((plnG l f (ps.map Prod.snd)).2=0→(fJ l b (f+1) (ps.map Prod.fst) s).2=jA b g s (plnG l f (ps.map Prod.snd)).1) ∧
 ((∀s x r,(b s x r).2.2=0)→(fJ l b (f+1) (ps.map Prod.fst) s).2.2=(plnG l f (ps.map Prod.snd)).2):=by
 intro f
 induction f with
 | zero=>
  intro ps s g a v;rw[fJ,plnG,zg,qb,qS fun p n=>(a.eq p n).2]
  cases hb:rS ps with
  | none=>exact⟨fun _=>rfl,fun _=>rfl⟩
  | some m=>
   have hm:=mT hb;obtain⟨B,e2⟩:=a.eq m hm;simp only[Option.map_some];rw[←e2,←B];by_cases c:m.1.2.u=0
   · rw[if_pos c,if_pos c];exact⟨fun _=>rfl,fun _=>rfl⟩
   rw[if_neg c,if_neg c]
   cases hf:cz l m.1.2.u with
   | none=>exact⟨fun h=>by simp at h,fun _=>rfl⟩
   | some r=>
    simp only;by_cases hr:cb r.e=true∧r.e.t=m.1.2.i
    · rw[if_pos hr,if_pos hr]
      refine⟨fun h=>by simp at h,fun h=>?_⟩;rw[if_neg (by rw[h];simp),fJ]
    · rw[if_neg hr,if_neg hr]
      exact⟨fun h=>by simp at h,fun _=>rfl⟩
 | succ f ih=>
  intro ps s g a v;rw[fJ,plnG,zg,qb,qS fun p n=>(a.eq p n).2]
  cases hb:rS ps with
  | none=>exact⟨fun _=>rfl,fun _=>rfl⟩
  | some m=>
   have hm:=mT hb;obtain⟨B,e2⟩:=a.eq m hm;have w:=v m hm;simp only[Option.map_some];rw[←e2,←B];by_cases c:m.1.2.u=0
   · rw[if_pos c,if_pos c];exact⟨fun _=>rfl,fun _=>rfl⟩
   rw[if_neg c,if_neg c]
   cases hf:cz l m.1.2.u with
   | none=>exact⟨fun h=>by simp at h,fun _=>rfl⟩
   | some r=>
    simp only;by_cases hr:cb r.e=true∧r.e.t=m.1.2.i
    · rw[if_pos hr,if_pos hr]
      obtain⟨G,F⟩:=y s ⟨m.1.2.i,m.1.2.l,bE r.e⟩ r;have o:=Fc a hm (x:=(b s ⟨m.1.2.i,m.1.2.l,bE r.e⟩ r).2.1) F;have es:=Dd a hm (b s ⟨m.1.2.i,m.1.2.l,bE r.e⟩ r).2.1;have E:=CF ps m (b s ⟨m.1.2.i,m.1.2.l,bE r.e⟩ r).2.1;rw[show(b s ⟨m.1.2.i,m.1.2.l,bE r.e⟩ r).2.1.u=bE r.e from G] at es
      obtain⟨C,D⟩:=ih (pK ps m (b s ⟨m.1.2.i,m.1.2.l,bE r.e⟩ r).2.1) (b s ⟨m.1.2.i,m.1.2.l,bE r.e⟩ r).1 (fun k=>if k=m.2.j then (b s ⟨m.1.2.i,m.1.2.l,bE r.e⟩ r).2.1.l else g k) o (fun p n=>by
       unfold pK at n;obtain⟨q,A,rfl⟩:=List.mem_map.1 n;by_cases e:q.1.1=m.1.1
       · have:=fA a.n1 A hm e
         subst this;rw[if_pos rfl];show(if q.2.j=q.2.j then _ else _)=_;rw[if_pos rfl]
       · rw[if_neg e]
         show(if q.2.j=m.2.j then _ else _)=_;rw[if_neg (fun z=>e (by rw[fA a.n2 A hm z]))]
         exact v q A)
      rw[es,E] at C D;refine⟨fun h=>?_,fun h=>?_⟩
      · split at h
        · rename_i hne;exact absurd h hne
        rename_i d
        have d:=Classical.not_not.1 d;rw[if_neg (show ¬(plnG l f (pG (ps.map Prod.snd) m.2.j (bE r.e))).2≠0 by rw[d];simp)];simp only;rw[jA];simp only;rw[w,hr.2];by_cases ht:(b s ⟨m.1.2.i,m.1.2.l,bE r.e⟩ r).2.2≠0
        · rw[if_pos ht,if_pos ht]
        · rw[if_neg ht,if_neg ht]
          exact C d
      · rw[if_neg (by rw[h];simp),D h]
        split
        · rfl
        · rename_i d;exact Classical.not_not.1 d
    · rw[if_neg hr,if_neg hr]
      exact⟨fun h=>by simp at h,fun _=>rfl⟩
def rh:lD (List Int):=fun s x r=>(if r.e.k=0 then s ++ [r.l] else s,x,0)
theorem zf:Dw rh:=fun _ _ _=>⟨rfl,rfl⟩
theorem vJ:∀(st:List Stp) (g:Nat→Int) (s:List Int),jA rh g s st=(s ++ (st.filter fun s=>s.r.e.k==0).map fun s=>s.r.l,0)
 | [],g,s=>by simp[jA]
 | a::r,g,s=>by
  rw[jA];rw[if_neg (by show ¬((0:Int)≠0);simp),vJ r,List.filter_cons];unfold rh;by_cases h:a.r.e.k=0
  · rw[if_pos (al h)];simp[h]
  · rw[if_neg (al h)];simp[h]
theorem uI:∀(ts:List Trn) (j:Nat) (ls:List (Nat × Lsr)),ls.map Prod.snd=(ts.filter fun x=>!x.c).map (fun x=>(⟨x.i,x.l,x.u⟩:Lsr))→∃ps:List Pr,ps.map Prod.fst=ls∧ps.map Prod.snd=gE j ts∧(∀p∈ps,p.1.2.i=p.2.i∧p.1.2.u=p.2.u∧j≤p.2.j∧∃x,ts[p.2.j-j]? = some x∧x.l=p.1.2.l)∧(ps.map fun p=>p.2.j).Pairwise (·<·)
 | [],j,ls,h=>by
  cases ls with
  | nil=>exact⟨[],rfl,rfl,fun p a=>(by cases a),.nil⟩
  | cons _ _=>cases h
 | x::ts,j,ls,h=>by
  cases hc:x.c with
  | true=>
   rw[List.filter_cons,if_neg (by rw[hc];decide)] at h;obtain⟨ps,b,e,h3,g⟩:=uI ts (j+1) ls h;refine⟨ps,b,?_,fun p a=>?_,g⟩
   · rw[gE,hc];exact e
   · obtain⟨n,m,q,y,d,f⟩:=h3 p a
     refine⟨n,m,by omega,y,?_,f⟩;rw[show p.2.j-j=(p.2.j-(j+1))+1 by omega];exact d
  | false=>
   rw[List.filter_cons,if_pos (by rw[hc];decide),List.map_cons] at h
   cases ls with
   | nil=>cases h
   | cons z ls=>
    rw[List.map_cons] at h;injection h with hz h;obtain⟨ps,b,e,h3,g⟩:=uI ts (j+1) ls h;refine⟨(z,⟨j,x.i,x.u⟩)::ps,by rw[List.map_cons,b],?_,fun p a=>?_,?_⟩
    · rw[gE,hc,List.map_cons,e];rfl
    · rcases List.mem_cons.1 a with rfl | a
      · refine⟨by show z.2.i=x.i;rw[hz],by show z.2.u=x.u;rw[hz],Nat.le_refl _,x,?_,by show x.l=z.2.l;rw[hz]⟩
        show(x::ts)[j-j]? = _;rw[Nat.sub_self];rfl
      · obtain⟨n,m,q,y,d,f⟩:=h3 p a
        refine⟨n,m,by omega,y,?_,f⟩;rw[show p.2.j-j=(p.2.j-(j+1))+1 by omega];exact d
    · rw[List.map_cons]
      refine List.pairwise_cons.2 ⟨fun k o=>?_,g⟩;obtain⟨p,a,rfl⟩:=List.mem_map.1 o;have:=(h3 p a).2.2.1;show j<p.2.j;omega
open Go.RowKit
def lS (ts:List Trn) (U:List Int):List Los:=(gE 0 ts).map fun x=>⟨x.j,x.i,U.getD x.j 0⟩
def iP (ts:List Trn) (U:List Int):Nat→Int × Int
 | 0=>(0,-1)
 | i+1=>match ts[i]? with
  | none=>iP ts U i
  | some x=>if (!x.c&&decide (U.getD i 0>(iP ts U i).1))=true then (U.getD i 0,i) else iP ts U i
theorem BR {ts:List Trn} {U:List Int} {i:Nat} (a:i<ts.length) (b:ts.length=U.length):iP ts U (i+1)=if (!ts[i].c&&decide ((U[i]'ab)>(iP ts U i).1))=true then (U[i]'ab,(i:Int)) else iP ts U i:=by
 rw[iP,List.getElem?_eq_getElem a];simp only;rw[List.getD_eq_getElem?_getD,List.getElem?_eq_getElem ab]
 rfl
def uz (U:List Int) (m:Int × Int) (x:Los):Int × Int:=if U.getD x.j 0>m.1 then (U.getD x.j 0,x.j) else m
theorem vj:∀(A B:List Trn) (j:Nat),gE j (A ++ B)=gE j A ++ gE (j+A.length) B
 | [],B,j=>by simp[gE]
 | x::A,B,j=>by
  have e:j+(A.length+1)=j+1+A.length:=by omega
  rw[List.cons_append,gE,gE,vj A B (j+1),List.length_cons,e]
  split<;>rfl
theorem tG (ts:List Trn) (U:List Int):∀i,i≤ts.length→iP ts U i=(gE 0 (ts.take i)).foldl (uz U) (0,-1)
 | 0,_=>rfl
 | i+1,h=>by
  have b:i<ts.length:=by omega
  rw[iP,List.getElem?_eq_getElem b,tG ts U i ab,List.take_succ_eq_append_getElem b,vj,List.foldl_append];simp only;rw[List.length_take,Nat.min_eq_left ab,Nat.zero_add,gE]
  cases hc:ts[i].c with
  | true=>rfl
  | false=>
   show(if (!false&&decide (U.getD i 0>((gE 0 (ts.take i)).foldl (uz U) (0,-1)).1))=true then (U.getD i 0,(i:Int)) else _)=uz U _ ⟨i,ts[i].i,ts[i].u⟩;unfold uz;by_cases a:U.getD i 0>((gE 0 (ts.take i)).foldl (uz U) (0,-1)).1
   · unfold uz at a
     rw[if_pos a,if_pos (al a)]
   · unfold uz at a
     rw[if_neg a,if_neg (al a)]
theorem wq (U:List Int):∀(l:List Los) (m:Int × Int),l.foldl (uz U) m=(match fz (l.map fun x=>(⟨x.j,x.i,U.getD x.j 0⟩:Los)) with | none=>m | some b=>if b.u>m.1 then (b.u,(b.j:Int)) else m)
 | [],m=>rfl
 | x::l,m=>by
  rw[List.foldl_cons,wq U l,List.map_cons,fz]
  cases hb:fz (l.map fun x=>(⟨x.j,x.i,U.getD x.j 0⟩:Los)) with
  | none=>simp only;rfl
  | some b=>
   simp only;unfold uz;by_cases c:U.getD x.j 0>m.1
   · rw[if_pos c]
     simp only;by_cases a:b.u>U.getD x.j 0
     · rw[if_pos a,if_pos a]
       simp only;rw[if_pos ab]
     · rw[if_neg a,if_neg a]
       simp only;rw[if_pos c]
   · rw[if_neg c]
     by_cases a:b.u>U.getD x.j 0
     · rw[if_pos a]
     · rw[if_neg a]
       simp only;rw[if_neg c,if_neg ab]
theorem CE {ts:List Trn} {U:List Int} (o:∀u∈U,0≤u) (p:ts.length=U.length) :
 ((iP ts U ts.length).2<0∧(fz (lS ts U)=none∨∃b,fz (lS ts U)=some b∧b.u=0)) ∨
 (∃b k,∃e:k<ts.length,fz (lS ts U)=some b∧b.u≠0∧b.j=k∧b.i=ts[k].i∧b.u=U[k]'ab∧iP ts U ts.length=(b.u,(k:Int))):=by
 have hf:=tG ts U ts.length (Nat.le_refl _);rw[List.take_length,wq] at hf
 have d:∀(l:List Los) (b:Los),fz l=some b→b∈l:=by
  intro l
  induction l with
  | nil=>intro b a;cases a
  | cons x l ih=>
   intro b a;rw[fz] at a
   split at a
   · injection a with a;rw[←a];exact List.mem_cons_self
   · rename_i y m
     split at a
     · injection a with a;rw[←a];exact List.mem_cons_of_mem _ (ih y m)
     · injection a with a;rw[←a];exact List.mem_cons_self
 have f:∀(ts:List Trn) (j:Nat) (x:Los),x∈gE j ts→∃k,∃e:k<ts.length,x.j=j+k∧x.i=ts[k].i:=by
  intro ts
  induction ts with
  | nil=>intro j x hx;cases hx
  | cons y ts ih=>
   intro j x hx;rw[gE] at hx
   split at hx
   · obtain⟨k,e,c,e2⟩:=ih (j+1) x hx
     exact⟨k+1,by simp;omega,by omega,al e2⟩
   · rcases List.mem_cons.1 hx with rfl | hx
     · exact⟨0,by simp,rfl,rfl⟩
     · obtain⟨k,e,c,e2⟩:=ih (j+1) x hx
       exact⟨k+1,by simp;omega,by omega,al e2⟩
 change iP ts U ts.length=(match fz (lS ts U) with
  | none=>((0:Int),(-1:Int))
  | some b=>if b.u>(0:Int) then (b.u,(b.j:Int)) else ((0:Int),(-1:Int))) at hf
 cases a:fz (lS ts U) with
 | none=>left;rw[a] at hf;exact⟨by rw[hf];decide,.inl rfl⟩
 | some b=>
  rw[a] at hf;simp only at hf;have hm:=d _ _ a;unfold lS at hm;obtain⟨x,hx,rfl⟩:=List.mem_map.1 hm;obtain⟨k,e,c,e2⟩:=f ts 0 x hx;rw[Nat.zero_add] at c
  have h:U.getD x.j 0=U[k]'ab:=by rw[c,List.getD_eq_getElem?_getD,List.getElem?_eq_getElem ab];rfl
  have q:=o _ (List.getElem_mem (l:=U) (n:=k) ab);simp only at hf ⊢;by_cases g:U.getD x.j 0>0
  · right
    rw[if_pos g] at hf;exact⟨_,k,e,rfl,by show U.getD x.j 0≠0;omega,c,e2,h,by rw[hf,c]⟩
  · left
    rw[if_neg g] at hf;exact⟨by rw[hf];decide,.inr ⟨_,rfl,by show U.getD x.j 0=0;omega⟩⟩
theorem Cs {ts:List Trn} {U:List Int} {k:Nat} (a:k<U.length) (u:Int):lS ts (U.set k u)=pG (lS ts U) k u:=by
 unfold lS pG;rw[List.map_map];apply List.map_congr_left;intro x _;show(⟨x.j,x.i,(U.set k u).getD x.j 0⟩:Los)=if x.j=k then ⟨x.j,x.i,u⟩ else ⟨x.j,x.i,U.getD x.j 0⟩;by_cases h:x.j=k
 · rw[if_pos h,h,List.getD_eq_getElem?_getD,List.getElem?_set_self a];rfl
 · rw[if_neg h,List.getD_eq_getElem?_getD,List.getElem?_set_ne (fun q=>h q.symm),List.getD_eq_getElem?_getD]
theorem Bp (ts:List Trn):lS ts (ts.map Trn.u)=gE 0 ts:=by
 have key:∀(ts:List Trn) (j:Nat) (V:Nat→Int),(∀k (a:k<ts.length),V (j+k)=ts[k].u)→(gE j ts).map (fun x=>(⟨x.j,x.i,V x.j⟩:Los))=gE j ts:=by
  intro ts
  induction ts with
  | nil=>intro j V h;rfl
  | cons x ts ih=>
   intro j V h
   have b:=ih (j+1) V fun k a=>by
    have:=h (k+1) (by simp;omega);rw[show j+1+k=j+(k+1) by omega,this];rfl
   have c:=h 0 bw;rw[gE]
   split
   · exact b
   · rw[List.map_cons,b]
     congr 1
     rw[show V j=x.u from c]
 unfold lS
 exact key ts 0 (fun j=>(ts.map Trn.u).getD j 0) fun k a=>by
  rw[Nat.zero_add,List.getD_eq_getElem?_getD,List.getElem?_eq_getElem (al a)];simp
theorem k7 {l:List Rcd} {f:Nat} {us:List Los} {b:Los} {r:Rcd} (a:fz us=some b) (c:b.u≠0) (hf:cz l b.u=some r) (hr:cb r.e=true∧r.e.t=b.i) :
 plnG l (f+1) us=if (plnG l f (pG us b.j (bE r.e))).2≠0 then ([],(plnG l f (pG us b.j (bE r.e))).2) else (⟨r,b.j,decide (bE r.e=0)⟩::(plnG l f (pG us b.j (bE r.e))).1,0):=by
 rw[plnG,a];simp only;rw[if_neg c,hf];simp only;rw[if_pos hr]
theorem dm {l:List Rcd} {f:Nat} {us:List Los} (h:fz us=none∨∃b,fz us=some b∧b.u=0):plnG l f us=([],0):=by
 rw[plnG.eq_def];simp only;rcases h with h | ⟨b,h,h0⟩
 · rw[h]
 · rw[h];simp only;rw[if_pos h0]
theorem gj {l:List Rcd} {f:Nat} {us:List Los} {b:Los} (a:fz us=some b) (c:b.u≠0) (h:cz l b.u=none∨∃r,cz l b.u=some r∧¬(cb r.e=true∧r.e.t=b.i)):plnG l f us=([],6):=by
 rw[plnG.eq_def];simp only;rw[a];simp only;rw[if_neg c];rcases h with h | ⟨r,h,h2⟩
 · rw[h]
 · rw[h];simp only;rw[if_neg h2]
theorem ly {l:List Rcd} {us:List Los} {b:Los} {r:Rcd} (a:fz us=some b) (c:b.u≠0) (hf:cz l b.u=some r) (hr:cb r.e=true∧r.e.t=b.i):plnG l 0 us=([],26):=by
 rw[plnG,a];simp only;rw[if_neg c,hf];simp only;rw[if_pos hr]
def yx (A:List Stp) (p:List Stp × Int):List Stp × Int:=if p.2≠0 then ([],p.2) else (A ++ p.1,0)
open Go.RowKit Go.Sort Go.Shelf
theorem St.split2 {M:List Nat} {w X:World} {e d e2:Ent} {L:List Ent} (h:St M w X (e::L)) (k:d.ok X) (n:e2.ok X) (g:∀b,d.dom b→e.dom b) (i:∀b,e2.dom b→e.dom b) (m:∀b,d.dom b→¬e2.dom b):St M w X (d::e2::L):=by
 obtain⟨j,l⟩:=List.pairwise_cons.1 h.sep;refine⟨h.os,h.tape,h.output,h.size,h.block,fun f hf=>?_,fun f hf b c=>?_,List.pairwise_cons.2 ⟨fun f hf b c a=>?_,List.pairwise_cons.2 ⟨fun f hf b c a=>j f hf b (i b c) a,l⟩⟩⟩
 · rcases List.mem_cons.1 hf with rfl | hf
   · exact k
   · rcases List.mem_cons.1 hf with rfl | hf
     · exact n
     · exact h.ok f (List.mem_cons_of_mem _ hf)
 · rcases List.mem_cons.1 hf with rfl | hf
   · exact h.new e List.mem_cons_self b (g b c)
   · rcases List.mem_cons.1 hf with rfl | hf
     · exact h.new e List.mem_cons_self b (i b c)
     · exact h.new f (List.mem_cons_of_mem _ hf) b c
 · rcases List.mem_cons.1 hf with rfl | hf
   · exact m b c a
   · exact j f hf b (g b c) a
def r6 (b:Nat) (s:Option Addr × Nat × List Int):Ent:=
 .inv (fun k=>k=b∨(Value.slice s.1 s.2.2.length s.2.1).ownBlock=some k)
  (fun X=>Box X b #[.slice s.1 s.2.2.length s.2.1] 53∧X.ownsRow 0 3 1 (.slice s.1 s.2.2.length s.2.1) s.2.2.length (s.2.2.map (.int .i64))∧(Value.slice s.1 s.2.2.length s.2.1).ownBlock≠some b)
  (fun X X' h a=>⟨(a b (.inl rfl)).trans h.1,Ent.ok_of (e:=.row (.slice s.1 s.2.2.length s.2.1) s.2.2.length 3 1 (s.2.2.map (.int .i64))) h.2.1 (fun k c=>a k (.inr c)),h.2.2⟩)
theorem rD {M:List Nat} {w X:World} {b:Nat} {s:Option Addr × Nat × List Int} {L:List Ent} (h:St M w X (r6 b s::L)):St M w X (.box b #[.slice s.1 s.2.2.length s.2.1] 53::.row (.slice s.1 s.2.2.length s.2.1) s.2.2.length 3 1 (s.2.2.map (.int .i64))::L):=by
 have k:=h.at_ (i:=0) rfl;exact h.split2 k.1 k.2.1 (fun q a=>.inl a) (fun q a=>.inr a) (fun q a c=>k.2.2 (by rw[←(show q=b from a)];exact c))
theorem og {M:List Nat} {w X:World} {b:Nat} {s:Option Addr × Nat × List Int} {L:List Ent} (h:St M w X (.box b #[.slice s.1 s.2.2.length s.2.1] 53::.row (.slice s.1 s.2.2.length s.2.1) s.2.2.length 3 1 (s.2.2.map (.int .i64))::L)):St M w X (r6 b s::L):=
 h.fuse2 (e:=r6 b s) (fun q a=>a) ⟨h.at_ (i:=0) rfl,h.at_ (i:=1) rfl,fun q=>(List.pairwise_cons.1 h.sep).1 _ List.mem_cons_self b rfl q⟩
theorem tL {ls:List (Nat × Lsr)} (a:(ls.map Prod.fst).Nodup) {m:Nat × Lsr} (hm:m∈ls):gn ls m.1 m.2=ls:=by
 have:=mL a hm m.2.u
 have e:lB ls m.1 2 m.2.u=ls:=by
  unfold lB
  conv=>rhs;rw[←List.map_id ls]
  apply List.map_congr_left;intro x hx;show(if x.1=m.1 then (x.1,yw x.2 2 m.2.u) else x)=x;by_cases e:x.1=m.1
  · rw[if_pos e,fA (f:=Prod.fst) a hx hm e];rfl
  · rw[if_neg e]
 rw[←e,this];exact gi _ _ _ _
theorem Er (ls:List (Nat × Lsr)) (b:Nat) (s:Option Addr × Nat × List Int) (m:Nat × Lsr) (r:Rcd) (M:List Nat) (w:World) (hm:m∈ls) (u:s.2.2.length≤1000) (g:St M w w [r6 b s,dL ls]) :
 Calls Tryz.prog 136 #[eb m,ae r.l,cy r.e,.pointer (some ⟨b,0,none⟩)] w fun e q=>∃p:List (Nat × Lsr) × (Option Addr × Nat × List Int),e=.returned (ae 0)∧(p.1=gn ls m.1 m.2∧p.2.2.2=(rh s.2.2 m.2 r).1)∧St M w q [dL p.1,r6 b p.2]:=by
 have j:=(g.at_ (i:=1) rfl).2;have d:=tL j hm;refine an (N:=15) Tryz.func136 rfl rfl rfl (fun _ Y=>?_);have Z:=rD g;refine aj (aq ?_);refine nb Y rfl rfl Z fun x _ _ t Y Z=>GO 11 ?_;intro _ Y;refine ak (Y.ev rfl) (fun n=>?_) (fun n=>?_)
 ·
  refine GO 3 ?_;intro _ Y;refine bV Y (wn rfl) (f:=fun b=>.slice (some ⟨b,0,none⟩) 1 1) (ba iG aa aa (Y.evs2 rfl) rfl rfl rfl au au) rfl rfl Z fun o _ _ v Y Z=>bS (z:=ae 0) (sz:=1) (bytes:=8) Y (wn rfl) ⟨rfl,rfl⟩ rfl iG aa rfl rfl (Y.ev rfl) (Y.ev rfl) Z (i:=3) rfl (Z.boxRd (i:=0) rfl) rfl (List.all_eq_true.1 rfl) ⟨ab,by decide⟩ fun c a _ _ Y Z=>?_;refine aS Y (wn rfl) ⟨rfl,rfl⟩ (Y.ev rfl) (Y.ev rfl) rfl aa Z (i:=2) rfl rfl rfl fun _ Z=>GO 8 ?_;intro _ Y;refine aC Y rfl rfl ?_;have h:r.e.k=0:=al n;refine⟨(ls,c,a,s.2.2 ++ [r.l]),rfl,⟨d.symm,by show _=(if r.e.k=0 then s.2.2 ++ [r.l] else s.2.2);rw[if_pos h]⟩,?_⟩;refine St.perm (L:=[r6 b (c,a,s.2.2 ++ [r.l]),dL ls]) (og ?_) (List.Perm.swap _ _ _);show St M w _ [.box b #[.slice c (s.2.2 ++ [r.l]).length a] _,.row (.slice c (s.2.2 ++ [r.l]).length a) (s.2.2 ++ [r.l]).length _ 1 ((s.2.2 ++ [r.l]).map (.int .i64)),dL ls];rw[List.length_append,List.map_append];exact(Z.sub (aB 28))
 ·
  refine GO 8 ?_;intro _ Y;refine aC Y rfl rfl ?_;have h:r.e.k≠0:=al n;refine⟨(ls,s),rfl,⟨d.symm,by show _=(if r.e.k=0 then s.2.2 ++ [r.l] else s.2.2);rw[if_neg h]⟩,?_⟩;exact St.perm (L:=[r6 b s,dL ls]) (og (Z.sub (aB 14))) (List.Perm.swap _ _ _)
open Go.RowKit Go.Sort Go.Shelf
theorem oQ (t:Tbl) (A:Option Addr) (c:Nat) (B:Option Addr) (d:Nat) (w:World) (hr:Rd w w.heap.size A (t.ts.flatMap bW)) (f:t.ts.length≤1000) :
 Calls Tryz.prog 123 #[cc t A c B d] w fun e a=>∃i:{i:List (Nat × Lsr) × Option Addr × Nat // i.1.map Prod.snd=gN t.ts},e=.returned (.slice i.1.2.1 i.1.1.length i.1.2.2)∧St [] w a [.row (.slice i.1.2.1 i.1.1.length i.1.2.2) i.1.1.length 233 1 (i.1.1.map eb),dL i.1.1]:=
 (x6 t A c B d w hr f).mono fun e a ⟨i,b,g,h3⟩=>⟨⟨i,g⟩,b,h3⟩
theorem yZ (l:List Trn):(gN l).length≤l.length:=by
 unfold gN;rw[List.length_map];exact List.length_filter_le _ _
def vL (l:List Rcd) (t:Tbl):Int:=(iQ l t).2
def Eh (l:List Rcd) (t:Tbl):List Int:=if vL l t=0 then Hw l t else []
theorem DQ (l:List Rcd):∀(f:Nat) (us:List Los),(plnG l f us).2≠0→(plnG l f us).1=[]:=by
 intro f
 induction f with
 | zero=>
  intro us h;rw[plnG] at h ⊢
  cases fz us with
  | none=>rfl
  | some b=>
   simp only at h ⊢
   split
   · rfl
   · split
     · rfl
     · split<;>rfl
 | succ f ih=>
  intro us h;rw[plnG] at h ⊢
  cases hb:fz us with
  | none=>rfl
  | some b=>
   rw[hb] at h;simp only at h ⊢
   split
   · rfl
   · rename_i c
     rw[if_neg c] at h
     cases hf:cz l b.u with
     | none=>rfl
     | some r=>
      rw[hf] at h;simp only at h ⊢
      split
      · rename_i hr
        rw[if_pos hr] at h
        split
        · rfl
        · rename_i a
          rw[if_neg a] at h;exact absurd rfl h
      · rfl
theorem FI {l:List Rcd} {t:Tbl} {ls:List (Nat × Lsr)} (d:ls.map Prod.snd=gN t.ts) (a:(ls.map Prod.fst).Nodup) :
 (fJ l rh 101 ls []).2.2=vL l t∧(vL l t=0→(fJ l rh 101 ls []).2.1=Eh l t):=by
 obtain⟨ps,g,r,h3,o⟩:=uI t.ts 0 ls d;have c:PrOk ps:=⟨fun p b=>⟨(h3 p b).1,(h3 p b).2.1⟩,by rw[←g,List.map_map] at a;exact a,o.imp (fun h q=>by rw[q] at h;exact Nat.lt_irrefl _ h)⟩
 obtain⟨i,f⟩:=zt l rh zf 100 ps [] (fun k=>match t.ts[k]? with | some x=>x.l | none=>0) c (fun p b=>by
  obtain⟨_,_,_,x,hx,e⟩:=h3 p b;rw[Nat.sub_zero] at hx;show(match t.ts[p.2.j]? with | some x=>x.l | none=>0)=_
  rw[hx];exact e)
 rw[g,r] at i f;have e2:(fJ l rh 101 ls []).2.2=vL l t:=f fun _ _ _=>rfl;refine⟨e2,fun n=>?_⟩;have m:=i n;rw[vJ] at m;unfold Eh Hw iQ;rw[if_pos n,m];rfl
theorem St.pull {M:List Nat} {w X:World} {L:List Ent} {e:Ent} (h:St M w X L) (i:Nat) (b:L[i]? = some e):St M w X (e::L.eraseIdx i):=by
 obtain⟨a,rfl⟩:=List.getElem?_eq_some_iff.1 b;refine h.perm ?_
 have e:L=L.take i ++ L[i]::L.drop (i+1):=by rw[←List.drop_eq_getElem_cons a,List.take_append_drop]
 rw[List.eraseIdx_eq_take_drop_succ]
 conv=>rhs;rw[e]
 exact List.perm_middle.symm
theorem St.fresh {w X:World} {L L':List Ent} (h:St [] w X L) (f:L'.Sublist L):∀b∈eh X L',w.heap.size≤b:=fun b c=>by
 obtain⟨_,e,d,g⟩:=mem_domsL.1 c;rcases (h.new e (f.subset d) b g).1 with a | a
 · exact a
 · cases a
theorem F8 {ls:List (Nat × Lsr)} {ts:List Trn} (h:ls.map Prod.snd=gN ts) (a:∀x∈ts,0≤x.u):∀x∈ls,0≤x.2.u:=fun x hx=>by
 have:x.2∈gN ts:=by rw[←h];exact List.mem_map_of_mem hx
 unfold gN at this;obtain⟨y,b,e⟩:=List.mem_map.1 this;rw[←e];exact a y (List.mem_filter.1 b).1
theorem Co (s:List Int) (x:Lsr) (r:Rcd):(rh s x r).1.length≤s.length+1:=by
 unfold rh;simp only
 split
 · rw[List.length_append];exact Nat.le_refl _
 · omega
theorem lF (l:List Rcd) (B:Option Addr) (d:Nat) (t:Tbl) (g:Option Addr) (n:Nat) (q:Option Addr) (o:Nat) (w:World)
 (U:Rd w w.heap.size B (l.flatMap cB)) (y:Rd w w.heap.size g (t.ts.flatMap bW)) (W:VldH l l.length) (O:l.length≤1000) (Q:t.ts.length≤999) (C:∀x∈t.ts,0≤x.u) :
 Calls Tryz.prog 84 #[.slice B l.length d,cc t g n q o] w fun e R=>∃i:Option Addr × Nat,e=.returned (.tuple #[.slice i.1 (Eh l t).length i.2,ae (vL l t)])∧St [] w R [.row (.slice i.1 (Eh l t).length i.2) (Eh l t).length 3 1 ((Eh l t).map (.int .i64))]:=by
 refine an (N:=17) Tryz.func84 rfl rfl rfl (fun _ Y=>?_);have Z:=St.init w;refine aj (aq ?_);refine nb Y rfl rfl Z fun S _ _ Zc G Z=>GO 1 ?_;intro _ F;refine GO 5 ?_;intro _ h3;refine na (.slice none 0 0) h3 rfl Z fun k _ _ Zd J Z=>GO 6 ?_;intro _ Y;refine sv (v:=cc t g n q o) Y (ah aa aa (Y.ev rfl) (Z.cellsAll (i:=1) rfl)) fun _ Y=>?_;refine cT Y (wn rfl) (aw a6 (Y.evs rfl) rfl) rfl rfl Z (oQ t g n q o _ (Z.rd0 y) ab) fun a _ T Y Z=>?_;refine sv Y (fm (Y.evs rfl) (Y.evs rfl)) fun _ Y=>?_;have b:=a.2
 have H:a.1.1.length≤t.ts.length:=by have:=yZ t.ts;rw[←b,List.length_map] at this;exact this
 have D:=(Z.at_ (i:=1) rfl).2;obtain⟨u1,K⟩:=FI b D;replace Z:St [] w T (dL a.1.1::r6 k (none,0,[])::.row (.slice a.1.2.1 a.1.1.length a.1.2.2) a.1.1.length 233 1 (a.1.1.map eb)::[.box S (cc t g n q o).cells 25]):=St.pull (og (s:=(none,0,[])) (St.pull (Z.nilRow 3 1) 3 rfl)) 2 rfl;refine gu (L1:=[dL a.1.1,r6 k (none,0,[]),.row (.slice a.1.2.1 a.1.1.length a.1.2.2) a.1.1.length 233 1 (a.1.1.map eb)]) (V:=fun _=>ae _) Y (wn rfl) (aw a6 (Y.evs rfl) rfl) rfl rfl Z (CL (σ:=List Int) (τ:=Option Addr × Nat × List Int) (fun s=>s.2.2) (r6 k) rh zf 136 [.pointer (some ⟨k,0,none⟩)] l B d w.heap.size a.1.2.1 a.1.2.2 a.1.1 (none,0,[]) _ _ (fun j s=>s.2.2.length≤j) (Nat.le_refl 0) a6 Z.size (Z.fresh (aB 7)) (U.below Z.below) W O ab (F8 b C) (St.frontL (L2:=[_]) Z) (fun j X ls s m r hj hK M P hm hr ho ht hu=>(Er ls k s m r _ X hm ab (P.swap)).mono fun e X' ⟨p,G,⟨F,h3⟩,J⟩=>⟨p,G,⟨fun _=>⟨F,h3,by show p.2.2.2.length≤j+1;rw[h3];have:=Co s.2.2 m.2 r;omega⟩,by rw[F,el]⟩,J⟩)) fun f _ _ Y I Z=>?_;refine GO 1 ?_;intro _ Y;rw[u1] at I Y;obtain⟨c,z⟩:=I;refine GO 8 ?_;intro _ Y;refine ak (Y.ev rfl) (fun A=>?_) (fun A=>?_)
 ·
  have hne:vL l t≠0:=al A
  have h:Eh l t=[]:=by unfold Eh;rw[if_neg hne]
  refine GO 9 ?_;intro _ Y;refine bU Y rfl rfl rfl ?_;refine⟨(none,0),by rw[h];rfl,?_⟩;rw[h];exact(Z.sub (List.nil_sublist _)).nilRow 3 1
 ·
  have E:vL l t=0:=al A;have h:f.2.2.2=Eh l t:=(c E).2.trans (K E);refine wp_skip (ai (aj (aq ?_)));refine sv Y (lx (Y.ev rfl) (Box.cells (Z.at_ (i:=1) rfl).1 0)) fun _ Y=>?_;refine GO 5 ?_;intro _ Y;refine bU Y rfl rfl rfl ?_;refine⟨(f.2.1,f.2.2.1),by rw[←h,E];rfl,?_⟩;rw[←h];exact(rD (L:=[_,_,_]) (St.pull Z 1 rfl)).sub (aB 2)
def uC (l:List Rcd) (t:Tbl):Int:=av [(fh l).2,cZ t]
def pB (l:List Rcd) (t:Tbl):List Int:=if uC l t=0 then Eh l t else []
def zM (l:List Rcd) (t:Tbl):Int:=if uC l t=0 then vL l t else uC l t
theorem sn (l:List Rcd) (B:Option Addr) (d:Nat) (t:Tbl) (g:Option Addr) (m:Nat) (c:Option Addr) (o:Nat) (w:World)
 (E:Rd w w.heap.size B (l.flatMap cB)) (j:Rd w w.heap.size g (t.ts.flatMap bW)) (C:Rd w w.heap.size c (t.ds.flatMap cN)) (D:l.length≤1000) (J:l.length≤d) (hF:FolT w) (hx:∀x∈l,FewE x.e) :
 Calls Tryz.prog 31 #[.slice B l.length d,cc t g m c o] w fun e K=>∃i:Option Addr × Nat,e=.returned (.tuple #[.slice i.1 (pB l t).length i.2,ae (zM l t)])∧St [] w K [.row (.slice i.1 (pB l t).length i.2) (pB l t).length 3 1 ((pB l t).map (.int .i64))]:=by
 refine an (N:=21) Tryz.func31 rfl rfl rfl (fun _ Y=>?_);have Z:=St.init w;refine aj (aq ?_);refine nb Y rfl rfl Z fun P _ _ O Y Z=>GO 6 ?_;intro _ Y;apply aK Y [false,false,false] _ aa
 case h=>
  refine GO 1 ?_;intro _ Y;refine nH Y rfl (fun X r=>fR l B d _ ((Z.grow r).rd0 E) D J (hF.below (Z.grow r).below) hx) fun _ Y=>?_;refine qv (v:=cc t g m c o) Y (fun X r=>ah aa aa (Y.ev rfl) ((Z.grow r).cellsAll (i:=0) rfl)) fun _ Y=>?_;refine ax ?_;refine aT fun _ I M=>?_;have Z:=Z.grow I;refine cQ Y rfl Z (dp t g m c o _ (Z.rd0 j) (Z.rd0 C)) fun _ _ Y Z=>?_;refine bV Y (wn rfl) (f:=fun b=>.slice (some ⟨b,0,none⟩) 2 2) (ba dt aa aa (Y.evs2 rfl) rfl rfl rfl au au) rfl rfl Z fun G _ _ L Y Z=>dn Y rfl (ei (Z.at_ (i:=0) rfl)) fun _ Y=>?_;refine GO 9 ?_;intro _ Y;refine ak (Y.ev rfl) (fun A=>?_) (fun A=>?_)
  ·
   have hne:uC l t≠0:=by unfold uC;simpa using A
   have q:pB l t=[]:=by unfold pB;rw[if_neg hne]
   have e2:zM l t=uC l t:=by unfold zM;rw[if_neg hne]
   refine GO 9 ?_;intro _ Y;refine bU Y rfl rfl rfl ?_;refine⟨(none,0),by rw[q,e2];rfl,?_⟩;rw[q];exact(Z.sub (List.nil_sublist _)).nilRow 3 1
  ·
   have z:uC l t=0:=by unfold uC;simpa using A
   have q:pB l t=Eh l t:=by unfold pB;rw[if_pos z]
   have e2:zM l t=vL l t:=by unfold zM;rw[if_pos z]
   have a:=z;unfold uC at a;rw[aN] at a;have p:=tblE_zero.1 (a (cZ t) bw);have H:=p.n;have y:=(lf (a (fh l).2 bw)).2;refine GO 5 ?_;intro _ Y;refine sv (v:=cc t g m c o) Y (ah aa aa (Y.ev rfl) (Z.cellsAll (i:=1) rfl)) fun _ Y=>?_;refine cT Y (wn rfl) (aw a6 (Y.evs rfl) rfl) rfl rfl Z (lF l B d t g m c o _ (Z.rd0 E) (Z.rd0 j) y D ab (fun x hx=>by obtain⟨k,F,rfl⟩:=List.getElem_of_mem hx;exact(p.ts k F).u.1)) fun s _ _ Y Z=>?_;refine GO 7 ?_;intro _ Y;refine bU Y rfl rfl rfl ?_;refine⟨s,by rw[q,e2];rfl,?_⟩;rw[q];exact(Z.sub (aB 1))
 case hB=>kernel_rfl
 case hst=>rfl
end Go.Proofs.YtcfdpfmchchkaaaGreatDoor
