/- Chapter 22 -/
import Derived.Test.YtcfdpfmchchkaaaGreatDoorRcJ
namespace Go.Proofs.YtcfdpfmchchkaaaGreatDoor
set_option maxHeartbeats 1000000
set_option maxRecDepth 4000
set_option linter.unusedVariables false
set_option linter.unusedSimpArgs false
open Go.RowKit Go.Sort Go.Shelf
structure UndS (σ:Type) where
 j:Nat
 ls:List (Nat × Lsr)
 s:σ
def FP {σ:Type} (a:o6 σ):Prop:=∀s x r,(a s x r).2.1.u=x.u∧(a s x r).2.1.i=x.i
def F9:Rcd:=⟨0,⟨0,0,0,0,0,false,Fv,⟨#[]⟩⟩⟩
theorem sX {ls:List (Nat × Lsr)} (d:(ls.map Prod.fst).Nodup) {m:Nat × Lsr} (hm:m∈ls) (v:Int):pA ls m.1 2 v=jW ls m.1 ⟨m.2.i,m.2.l,v⟩:=by
 unfold pA jW;apply List.map_congr_left;intro x hx;by_cases e:x.1=m.1
 · rw[if_pos e,if_pos e]
   have:x=m:=by
    have key:∀(l:List (Nat × Lsr)),(l.map Prod.fst).Nodup→x∈l→m∈l→x=m:=by
     intro l
     induction l with
     | nil=>intro _ h;cases h
     | cons a l ih=>
      intro h c b;rw[List.map_cons,List.nodup_cons] at h;rcases List.mem_cons.1 c with c | h1'
      · rcases List.mem_cons.1 b with b | h2'
        · rw[c,b]
        · exact absurd (by rw[←c,e];exact List.mem_map_of_mem h2') h.1
      · rcases List.mem_cons.1 b with b | h2'
        · exact absurd (by rw[←b,←e];exact List.mem_map_of_mem h1') h.1
        · exact ih h.2 h1' h2'
    exact key ls d hx hm
   rw[this];rfl
 · rw[if_neg e,if_neg e]
theorem lR {ls:List (Nat × Lsr)} {m:Nat × Lsr} (hm:m∈ls) (x:Lsr):(m.1,x)∈jW ls m.1 x:=by
 unfold jW;exact List.mem_map.2 ⟨m,hm,by rw[if_pos rfl]⟩
theorem kD (ls:List (Nat × Lsr)) (b:Nat) (x y:Lsr):jW (jW ls b x) b y=jW ls b y:=by
 unfold jW;rw[List.map_map];apply List.map_congr_left;intro z _;show(if (if z.1=b then (z.1,x) else z).1=b then ((if z.1=b then (z.1,x) else z).1,y) else (if z.1=b then (z.1,x) else z))=if z.1=b then (z.1,y) else z;by_cases e:z.1=b
 · rw[if_pos e,if_pos (show(z.1,x).1=b from e),if_pos e]
 · rw[if_neg e,if_neg e]
theorem vu {ls:List (Nat × Lsr)} {b:Nat} {x:Lsr} {p:Lsr→Prop} (h:∀y∈ls,p y.2) (hx:p x):∀y∈jW ls b x,p y.2:=fun y a=>by
 unfold jW at a;obtain⟨z,c,rfl⟩:=List.mem_map.1 a
 split
 · exact hx
 · exact h z c
theorem F8 {l:List Rcd} {i:Nat} (a:VldH l i) {k:Nat} (b:k<i):0≤dZ (l[k]'(by have:=a.1;omega)).e:=by
 have:=wO (a.e0 b).2.2;unfold dZ
 split<;>omega
theorem Cw {σ τ:Type} (π:τ→σ) (D:τ→Ent) (I:o6 σ) (Vp:FP I) (f:FuncId) (Vm:List Value) (l:List Rcd) (B:Option Addr) (d:Nat) (B0:Nat) (A:Option Addr) (c:Nat) (a:List (Nat × Lsr)) (s0:τ) (M0:List Nat) (w:World)
 (Kq:Nat→τ→Prop) (Vt:Kq 0 s0)
 (Vi:∀(vs:Array Value) (W:World),(callFunc f vs).run Tryz.prog W=.ok (.enter f vs) W) (E:B0≤w.heap.size) (hM:∀b∈M0,B0≤b) (O:Rd w B0 B (l.flatMap cm)) (hv:VldH l l.length) (hl:l.length≤1000) (hn:a.length≤1000) (Vz:∀x∈a,0≤x.2.u)
 (Vr:St M0 w w [fQ a,D s0,.row (.slice A a.length c) a.length 233 1 (a.map fO)])
 (Ve:∀(j:Nat) (X:World) (ls:List (Nat × Lsr)) (s:τ) (m:Nat × Lsr) (r:Rcd),j<101→Kq j s→KeptL M0 w X→St (gq X [fQ ls,D s]) X X [fQ ls,D s]→m∈ls→r∈l→eh r.e=true→r.e.t=m.2.i→m.2.u=dZ r.e →
  Calls Tryz.prog f ([fO m,ae r.l,cZ r.e] ++ Vm).toArray X fun e X'=>∃p:List (Nat × Lsr) × τ,e=.returned (ae (I (π s) m.2 r).2.2)∧(((I (π s) m.2 r).2.2=0→p.1=jW ls m.1 (I (π s) m.2 r).2.1∧π p.2=(I (π s) m.2 r).1∧Kq (j+1) p.2)∧p.1.map Prod.fst=ls.map Prod.fst)∧St (gq X [fQ ls,D s]) X X' [fQ p.1,D p.2]) :
 Calls Tryz.prog 135 #[.slice B l.length d,.slice A a.length c,.func (.func f) #[] Vm.toArray] w fun e w'=>∃p:List (Nat × Lsr) × τ,e=.returned (ae (jq l I 101 a (π s0)).2.2)∧(((jq l I 101 a (π s0)).2.2=0→p.1=(jq l I 101 a (π s0)).1∧π p.2=(jq l I 101 a (π s0)).2.1)∧p.1.map Prod.fst=a.map Prod.fst)∧St M0 w w' [fQ p.1,D p.2,.row (.slice A a.length c) a.length 233 1 (a.map fO)]:=by
 have Q:cC Rcd.l l:=by have:=hv.srt;rwa [List.take_length] at this
 obtain⟨U,hU⟩:∃U,U=jq l I 101 a (π s0):=⟨_,rfl⟩;rw[←hU];refine aq (N:=84) Tryz.func135 rfl rfl rfl (fun _ Y=>?_);have Z:=Vr;refine GO 12 ?_;intro _ Y;refine aY Y Z [0,1,2] (fun (q:UndS τ)=>[(11,ae (q.j:Nat))]) (fun (q:UndS τ)=>q.j≤101∧U=jq l I (101-q.j) q.ls (π q.s)∧q.ls.map Prod.fst=a.map Prod.fst∧(∀x∈q.ls,0≤x.2.u)∧Kq q.j q.s) (fun q L=>[fQ q.ls,D q.s,.row (.slice A a.length c) a.length 233 1 (a.map fO)]) (fun (q:UndS τ)=>101-q.j) (⟨0,a,s0⟩) (⟨Nat.zero_le _,hU,rfl,Vz,Vt⟩) bN (Z) ?_;intro q _ _ Zf Y Z;refine GO 6 ?_;intro _ Y;refine ak (Y.ev rfl) (fun Zg=>?_) (fun Zg=>?_)
 ·
  have Jv:q.j<101:=by have:=of_decide_eq_true Zg;omega
  obtain⟨Wb,n,K,hu,Vf⟩:=Zf;obtain⟨g,hg⟩:∃g,101-q.j=g+1:=⟨100-q.j,by omega⟩;rw[hg,jq] at n;have Vd:=DP K;refine GO 7 ?_;intro _ Y;refine sv Y (ay (zs:=jV) (pl:=fE) aa aa (Y.evs2 rfl) rfl rfl) fun _ Y=>?_;refine nb Y rfl rfl Z fun Vn _ _ Zk Y Z=>?_;refine bV Y (wn rfl) (f:=fun b=>.slice (some ⟨b,0,none⟩) 1 1) (bb lh aa aa (Y.evs2 rfl) rfl rfl rfl au au) rfl rfl Z fun Wd _ _ Zl T Z=>?_;refine xo (z:=.pointer none) (sz:=1) (bytes:=8) T (wn rfl) ⟨rfl,rfl⟩ rfl lh aa rfl rfl (T.ev rfl) (T.ev rfl) Z (i:=4) rfl (Z.boxRd (i:=0) rfl) rfl (List.all_eq_true.1 rfl) ⟨by omega,by decide⟩ fun Vv Vs _ X9 P Z Vx=>?_;obtain⟨z,zs,Vo,F⟩:=Ex (b:=Vn) hu
  have Vh:(z::zs).map fO=a.map fO ++ [.pointer (some ⟨Vn,0,none⟩)]:=by rw[←Vo,List.map_append,Vd];rfl
  have Vk:(z::zs).length=a.length+1:=by have:=congrArg List.length Vh;rw[List.length_map,List.length_append,List.length_map] at this;exact this
  have Vy:∀x∈z::zs,Box X9 x.1 (gu x.2) 273:=fun x hx=>by
   rw[←Vo] at hx;rcases List.mem_append.1 hx with hx | hx
   · exact(Z.at_ (i:=2) rfl).1 x hx
   · rw[List.mem_singleton.1 hx];exact Z.at_ (i:=1) rfl
  refine cN P rfl Z (Vk▸tU z zs Vv Vs _ (Vh▸Vx) Vy (by have:(z::zs).length=zs.length+1:=rfl;omega)) fun _ Zm Y Z=>?_;obtain⟨m,Vu⟩:∃m,m=zs.foldl lC z:=⟨_,rfl⟩;rw[←Vu] at Y F
  have Vj:Box Zm m.1 (gu m.2) 273:=by
   rcases F with ⟨_,P⟩ | ⟨m',hm',_,P⟩
   · rw[P];exact Z.at_ (i:=1) rfl
   · rw[P];exact(Z.at_ (i:=2) rfl).1 _ hm'
  refine GO 8 ?_;intro _ Y;refine sv Y (fy 2 (Y.ev rfl)) fun _ Y=>?_;refine sv Y (lx (Y.ev rfl) (Box.cells Vj 2)) fun _ Y=>?_;refine GO 3 ?_;intro _ Y;refine ak (Y.ev rfl) (fun Zh=>?_) (fun Zh=>?_)
  ·
   have Y:m.2.u=0:=ar Zh
   have H:U=(q.ls,π q.s,0):=by
    rcases F with ⟨T,P⟩ | ⟨m',hm',T,P⟩
    · rw[n,T]
    · subst P
      rw[n,T];simp only;rw[if_pos Y]
   refine GO 12 ?_;intro _ Y;refine aI Y rfl rfl ?_;exact⟨(q.ls,q.s),by rw[H],⟨fun _=>by rw[H];exact⟨rfl,rfl⟩,K⟩,(Z.sub (aL 28))⟩
  ·
   have Y:m.2.u≠0:=ar Zh
   obtain⟨G,Vw⟩:m∈q.ls∧GV q.ls=some m:=by
    rcases F with ⟨T,P⟩ | ⟨m',hm',T,P⟩
    · exact absurd (by rw[P];rfl) Y
    · rw[P];exact⟨hm',T⟩
   rw[Vw] at n;simp only at n;rw[if_neg Y] at n;refine GO 7 ?_;intro _ Y;refine sv Y (fy 2 (Y.ev rfl)) fun _ Y=>?_;refine sv Y (lx (Y.ev rfl) (Box.cells Vj 2)) fun _ Y=>?_;refine cN Y rfl Z (kq l Q B d m.2.u _ ((Z.rdBase hM E O).mono (Nat.le_trans E Z.size)) hl) fun _ _ Y Z=>?_;refine GO 5 ?_;intro _ Y;apply aK Y (fA 19) _ aa
   case h=>
    refine GO 1 ?_;intro _ Y;refine qv Y (fun X M=>mi tk aa (Y.ev rfl) (Y.ev rfl)) fun _ Y=>?_;refine GO 1 ?_;intro _ Y;apply fF (x:=!eh ((dx l m.2.u).getD F9).e) Y 32 rfl 6 38
    case hf=>
     intro Zb;obtain⟨b',o',rfl,J,q1,q2,q3⟩:=iK Q O Zb;generalize jN Rcd.l l m.2.u=k at J q1 q2 q3;refine qy Y (fun X M=>(aA (v':=.pointer (some ⟨b',o'+k*14+1,none⟩)) (congrArg Value.pointer q3) (bQ (Y.ev rfl)))) fun _ Y=>?_;refine GO 1 ?_;intro _ Y;refine j9 (v:=cZ l[k].e) Y (ao Y _ rfl rfl rfl Zb) rfl rfl (fun X M=>(ag aa aa (Y.ev rfl) (ff ((Z.grow M).rdBase hM E O) J))) fun _ Y=>k9 Y (ao Y _ rfl rfl rfl Zb) rfl rfl (fun X=>(az bc (Y.evs rfl) rfl)) (fun X M=>ki _ _) fun _ Y=>qy Y (fun X M=>(aA (v':=.bool (!eh ((dx l m.2.u).getD F9).e)) (by rw[q2];rfl) (tK (Y.ev rfl)))) fun _ Y=>?_;refine GO 1 ?_;intro _ Y;exact ax (Y.midE 5)
    case ht=>
     intro Zb;refine GO 6 ?_;intro _ Y;exact ax (Y.midE 5)
    case h=>
     intro _ Y;refine GO 1 ?_;intro _ Y;apply tG Y 39 rfl 9 48
     case ht=>
      intro Zd;refine GO 9 ?_;intro _ Y;exact ax ⟨_,Y.midE 8⟩
     case hf=>
      intro Zd;obtain⟨b',o',rfl,J,q1,q2,q3⟩:=iK Q O (Bool.or_eq_false_iff.1 Zd).1;generalize jN Rcd.l l m.2.u=k at J q1 q2 q3;refine qy Y (fun X M=>(aA (v':=.pointer (some ⟨b',o'+k*14+1,none⟩)) (congrArg Value.pointer q3) (bQ (Y.ev rfl)))) fun _ Y=>?_;refine GO 1 ?_;intro _ Y;refine qy Y (fun X M=>(fy 1 (Y.ev rfl))) fun _ Y=>?_;refine qy Y (fun X M=>(lx (Y.ev rfl) ((ff ((Z.grow M).rdBase hM E O) J) 1 _ rfl))) fun _ Y=>?_;refine GO 2 ?_;intro _ Y;refine qy Y (fun X M=>(fy 0 (Y.ev rfl))) fun _ Y=>?_;refine qy Y (fun X M=>(lx (Y.ev rfl) (Box.cells (((Z.grow M).at_ (i:=2) rfl).1 _ G) 0))) fun _ Y=>?_;refine qy Y (fun X M=>(aA (v':=.bool (((dx l m.2.u).getD F9).e.t != m.2.i)) (by rw[q2];rfl) (kW (Y.ev rfl) (Y.ev rfl)))) fun _ Y=>?_;exact ax (Y.midE 8)
     case h=>
      intro Wc _ Vq Y;refine ax ?_;refine aV fun _ Zi Zn=>?_;have Z:=Z.grow Zi;refine sv Y (lv (Y.ev rfl) (Y.ev rfl) (Y.ev rfl) Vq) fun _ Y=>?_;refine ah (aj ?_);refine ak (Y.ev rfl) (fun Ze=>?_) (fun Ze=>?_)
      ·
       have H:U=(q.ls,π q.s,6):=by
        rw[n]
        cases hf:dx l m.2.u with
        | none=>rfl
        | some r=>
         simp only;rw[if_neg]
         rintro ⟨u1,u2⟩
         rw[hf] at Ze
         cases hN:(nw B l m.2.u).isNone with
         | true=>rw[qa Q O hN] at hf;cases hf
         | false=>
          rw[hN,Option.getD_some,u1,u2] at Ze;simp at Ze
       refine GO 12 ?_;intro _ Y;refine aI Y rfl rfl ?_;exact⟨(q.ls,q.s),by rw[H],⟨fun h=>absurd h (by rw[H];exact(by decide:¬(6:Int)=0)),K⟩,(Z.sub (aL 28))⟩
      ·
       obtain⟨S,Jw⟩:=Bool.or_eq_false_iff.1 Ze;obtain⟨S,Jx⟩:=Bool.or_eq_false_iff.1 S;obtain⟨b',o',rfl,J,q1,q2,q3⟩:=iK Q O S;rw[q3] at Y;generalize jN Rcd.l l m.2.u=k at J q1 q2 q3 Y;rw[q2,Option.getD_some] at Jx Jw;have ho:eh l[k].e=true:=ar Jx;have Vc:l[k].e.t=m.2.i:=ar Jw;rw[q2] at n;simp only at n;rw[if_pos ⟨ho,Vc⟩] at n;have Vl:=F8 hv J;have Vg:=(Z.at_ (i:=2) rfl).2;refine GO 6 ?_;intro _ Y;refine sv Y (fy 2 (Y.ev rfl)) fun _ Y=>?_;refine sv Y (lx (Y.ev rfl) (Box.cells ((Z.at_ (i:=2) rfl).1 _ G) 2)) fun _ Y=>?_;refine GO 8 ?_;intro _ Y;refine sv Y (fy 2 (Y.ev rfl)) fun _ Y=>?_;refine sv Y (lx (Y.ev rfl) ((ff (Z.rdBase hM E O) J) 2 _ rfl)) fun _ Y=>?_;refine GO 1 ?_;intro _ Y;refine sv Y (fy 2 (Y.ev rfl)) fun _ Y=>?_;refine sr (wn rfl) ⟨rfl,rfl⟩ (Y.ev rfl) (Y.ev rfl) aa Z (i:=2) rfl G au fun _ Z=>?_;rw[show pA q.ls m.1 (0+2) l[k].e.p=_ from sX Vg G l[k].e.p] at Z;refine GO 7 ?_;intro _ Y;refine sv Y (fy 0 (Y.ev rfl)) fun _ Y=>?_;refine sv Y (lx (Y.ev rfl) ((ff (Z.rdBase hM E O) J) 0 _ rfl)) fun _ Y=>?_;refine GO 3 ?_;intro _ Y;refine ak (Y.ev rfl) (fun Zj=>?_) (fun Zj=>?_)
       ·
        have Jz:dZ l[k].e=l[k].e.x:=by unfold dZ;rw[if_pos (ar Zj)]
        refine GO 4 ?_;intro _ Y;refine sv Y (fy 3 (Y.ev rfl)) fun _ Y=>?_;refine sv Y (lx (Y.ev rfl) ((ff (Z.rdBase hM E O) J) 3 _ rfl)) fun _ Y=>?_;refine GO 1 ?_;intro _ Y;refine sv Y (fy 2 (Y.ev rfl)) fun _ Y=>?_;refine sr (wn rfl) ⟨rfl,rfl⟩ (Y.ev rfl) (Y.ev rfl) aa Z (i:=2) rfl (lR G _) au fun _ Z=>?_;rw[show pA (jW q.ls m.1 ⟨m.2.i,m.2.l,l[k].e.p⟩) m.1 (0+2) l[k].e.x=jW q.ls m.1 ⟨m.2.i,m.2.l,l[k].e.x⟩ from(sX (m:=(m.1,⟨m.2.i,m.2.l,l[k].e.p⟩)) (by rw[iM];exact Vg) (lR G _) l[k].e.x).trans (kD _ _ _ _),←Jz] at Z;refine GO 6 ?_;intro _ Y;refine sv Y (aA (v':=ae l[k].l) (congrArg _ q1.symm) (bQ (Y.ev rfl))) fun _ Y=>?_;refine GO 2 ?_;intro _ Y;refine sv (v:=cZ l[k].e) Y (ag aa aa (Y.ev rfl) (ff (Z.rdBase hM E O) J)) fun _ Y=>?_;refine tN (L1:=[fQ _,D q.s]) (V:=fun _=>ae _) Y (wn rfl) (cQ Vi (Y.ev rfl) (Y.evs rfl) rfl) rfl rfl (Z.sub (aL 28)) (Ve q.j _ _ q.s (m.1,⟨m.2.i,m.2.l,dZ l[k].e⟩) l[k] Jv Vf Z.keptL (St.frontL (L2:=[_]) (Z.sub (aL 28))) (lR G _) (List.getElem_mem J) ho Vc rfl) fun o _ _ Y Za Z=>?_;refine GO 9 ?_;intro _ Y;refine ak (Y.ev rfl) (fun Zc=>?_) (fun Zc=>?_)
        ·
         have C:(I (π q.s) ⟨m.2.i,m.2.l,dZ l[k].e⟩ l[k]).2.2≠0:=ar Zc;rw[if_pos C] at n;refine GO 12 ?_;intro _ Y;refine aI Y rfl rfl ?_;exact⟨o,by rw[n],⟨fun h=>absurd h (by rw[n];exact C),by rw[Za.2,iM];exact K⟩,Z⟩
        ·
         have C:(I (π q.s) ⟨m.2.i,m.2.l,dZ l[k].e⟩ l[k]).2.2=0:=ar Zc;rw[if_neg (fun h=>h C)] at n;obtain⟨e1,e2,Vb⟩:=Za.1 C;rw[kD] at e1
         have Jy:o.1.map Prod.fst=a.map Prod.fst:=by rw[Za.2,iM];exact K
         have Va:∀x∈o.1,0≤x.2.u:=by
          rw[e1];exact vu (p:=fun y=>0≤y.u) hu (by rw[(Vp _ _ _).1];exact Vl)
         have R:U=jq l I (101-(q.j+1)) o.1 (π o.2):=by rw[n,e1,e2,show 101-(q.j+1)=g by omega];rfl
         refine GO 8 ?_;intro _ Y;exact⟨⟨q.j+1,o.1,o.2⟩,(by show 101-(q.j+1)<101-q.j;omega),⟨Jv,R,Jy,Va,Vb⟩,Y.re bN,Z⟩
       ·
        have Jz:dZ l[k].e=l[k].e.p:=by unfold dZ;rw[if_neg (ar Zj)]
        rw[←Jz] at Z;refine GO 6 ?_;intro _ Y;refine sv Y (aA (v':=ae l[k].l) (congrArg _ q1.symm) (bQ (Y.ev rfl))) fun _ Y=>?_;refine GO 2 ?_;intro _ Y;refine sv (v:=cZ l[k].e) Y (ag aa aa (Y.ev rfl) (ff (Z.rdBase hM E O) J)) fun _ Y=>?_;refine tN (L1:=[fQ _,D q.s]) (V:=fun _=>ae _) Y (wn rfl) (cQ Vi (Y.ev rfl) (Y.evs rfl) rfl) rfl rfl (Z.sub (aL 28)) (Ve q.j _ _ q.s (m.1,⟨m.2.i,m.2.l,dZ l[k].e⟩) l[k] Jv Vf Z.keptL (St.frontL (L2:=[_]) (Z.sub (aL 28))) (lR G _) (List.getElem_mem J) ho Vc rfl) fun o _ _ Y Za Z=>?_;refine GO 9 ?_;intro _ Y;refine ak (Y.ev rfl) (fun Zc=>?_) (fun Zc=>?_)
        ·
         have C:(I (π q.s) ⟨m.2.i,m.2.l,dZ l[k].e⟩ l[k]).2.2≠0:=ar Zc;rw[if_pos C] at n;refine GO 12 ?_;intro _ Y;refine aI Y rfl rfl ?_;exact⟨o,by rw[n],⟨fun h=>absurd h (by rw[n];exact C),by rw[Za.2,iM];exact K⟩,Z⟩
        ·
         have C:(I (π q.s) ⟨m.2.i,m.2.l,dZ l[k].e⟩ l[k]).2.2=0:=ar Zc;rw[if_neg (fun h=>h C)] at n;obtain⟨e1,e2,Vb⟩:=Za.1 C;rw[kD] at e1
         have Jy:o.1.map Prod.fst=a.map Prod.fst:=by rw[Za.2,iM];exact K
         have Va:∀x∈o.1,0≤x.2.u:=by
          rw[e1];exact vu (p:=fun y=>0≤y.u) hu (by rw[(Vp _ _ _).1];exact Vl)
         have R:U=jq l I (101-(q.j+1)) o.1 (π o.2):=by rw[n,e1,e2,show 101-(q.j+1)=g by omega];rfl
         refine GO 8 ?_;intro _ Y;exact⟨⟨q.j+1,o.1,o.2⟩,(by show 101-(q.j+1)<101-q.j;omega),⟨Jv,R,Jy,Va,Vb⟩,Y.re bN,Z⟩
   case hB=>kernel_rfl
   case hst=>rfl
 ·
  have Wa:101≤q.j:=by have:=of_decide_eq_false Zg;omega
  have n:=Zf.2.1;rw[show 101-q.j=0 by omega,jq] at n;refine GO 11 ?_;intro _ Y;refine aI Y rfl rfl ?_;exact⟨(q.ls,q.s),by rw[n],⟨fun h=>absurd h (by rw[n];exact(by decide:¬(26:Int)=0)),Zf.2.2.1⟩,Z⟩
open Go.RowKit
abbrev Pr:=(Nat × Lsr) × Los
def pG:List Pr→Option Pr
 | []=>none
 | x::l=>match pG l with
  | none=>some x
  | some y=>if y.1.2.u>x.1.2.u then some y else some x
structure PrOk (ps:List Pr):Prop where
 eq:∀p∈ps,p.1.2.i=p.2.i∧p.1.2.u=p.2.u
 n1:(ps.map fun p=>p.1.1).Nodup
 n2:(ps.map fun p=>p.2.j).Nodup
theorem mI:∀{ps:List Pr} {m:Pr},pG ps=some m→m∈ps
 | [],m,h=>by cases h
 | x::l,m,h=>by
  unfold pG at h
  split at h
  · cases h;exact List.mem_cons_self
  · rename_i y a
    split at h
    · cases h;exact List.mem_cons_of_mem _ (mI a)
    · cases h;exact List.mem_cons_self
theorem pI:∀{ps:List Pr},(∀p∈ps,p.1.2.u=p.2.u)→DD (ps.map Prod.snd)=(pG ps).map Prod.snd
 | [],h=>rfl
 | x::l,h=>by
  have c:=pI (ps:=l) fun p d=>h p (List.mem_cons_of_mem _ d);rw[List.map_cons,DD,c,pG]
  cases hb:pG l with
  | none=>rfl
  | some y=>
   have b:=h x List.mem_cons_self;have a:=h y (List.mem_cons_of_mem _ (mI hb));simp only[Option.map_some];rw[←b,←a]
   split<;>rfl
def tm:List (Nat × Lsr)→Option (Nat × Lsr)
 | []=>none
 | x::l=>match tm l with
  | none=>some x
  | some y=>if y.2.u>x.2.u then some y else some x
theorem pY:∀(ps:List Pr),tm (ps.map Prod.fst)=(pG ps).map Prod.fst
 | []=>rfl
 | x::l=>by
  rw[List.map_cons,tm,pY l,pG]
  cases pG l with
  | none=>rfl
  | some y=>
   simp only[Option.map_some]
   split<;>rfl
theorem uv:∀(zs:List (Nat × Lsr)) (z:Nat × Lsr),some (zs.foldl lC z)=tm (z::zs)
 | [],z=>rfl
 | x::r,z=>by
  rw[List.foldl_cons,uv r (lC z x),tm,tm,tm];unfold lC
  cases hb:tm r with
  | none=>simp only;split<;>rfl
  | some y=>
   simp only;by_cases b:y.2.u>x.2.u
   · rw[if_pos b]
     simp only;by_cases a:z.2.u<x.2.u
     · rw[if_pos a,if_pos b,if_pos ab]
     · rw[if_neg a]
   · rw[if_neg b]
     simp only;by_cases a:z.2.u<x.2.u
     · rw[if_pos a,if_neg b,if_pos ab]
     · rw[if_neg a,if_neg ab,if_neg ab]
theorem yp (ls:List (Nat × Lsr)):GV ls=tm ls:=by
 cases ls with
 | nil=>rfl
 | cons z zs=>exact uv zs z
theorem fJ {α β:Type} {f:α→β}:∀{l:List α},(l.map f).Nodup→∀{x y:α},x∈l→y∈l→f x=f y→x=y
 | [],_,x,y,hx,_,_=>by cases hx
 | a::l,h,x,y,hx,b,e=>by
  rw[List.map_cons,List.nodup_cons] at h;rcases List.mem_cons.1 hx with hx | hx'
  · rcases List.mem_cons.1 b with b | hy'
    · rw[hx,b]
    · refine absurd ?_ h.1
      rw[←hx,e];exact List.mem_map_of_mem hy'
  · rcases List.mem_cons.1 b with b | hy'
    · refine absurd ?_ h.1
      rw[←b,←e];exact List.mem_map_of_mem hx'
    · exact fJ h.2 hx' hy' e
def ow (ps:List Pr) (m:Pr) (x:Lsr):List Pr:=ps.map fun p=>if p.1.1=m.1.1 then ((p.1.1,x),⟨p.2.j,p.2.i,x.u⟩) else p
theorem A8 (ps:List Pr) (m:Pr) (x:Lsr):(ow ps m x).map Prod.fst=(ps.map Prod.fst).map fun y=>if y.1=m.1.1 then (y.1,x) else y:=by
 unfold ow;rw[List.map_map,List.map_map];apply List.map_congr_left;intro p _;show(if p.1.1=m.1.1 then (((p.1.1,x),(⟨p.2.j,p.2.i,x.u⟩:Los)):Pr) else p).1=if p.1.1=m.1.1 then (p.1.1,x) else p.1
 split<;>rfl
theorem Bu {ps:List Pr} (h:PrOk ps) {m:Pr} (hm:m∈ps) (x:Lsr):(ow ps m x).map Prod.snd=Ar (ps.map Prod.snd) m.2.j x.u:=by
 unfold ow Ar;rw[List.map_map,List.map_map];apply List.map_congr_left;intro p a;show(if p.1.1=m.1.1 then (((p.1.1,x),(⟨p.2.j,p.2.i,x.u⟩:Los)):Pr) else p).2=if p.2.j=m.2.j then ⟨p.2.j,p.2.i,x.u⟩ else p.2;by_cases e:p.1.1=m.1.1
 · have:=fJ h.n1 a hm e
   subst this;rw[if_pos rfl,if_pos rfl]
 · rw[if_neg e,if_neg]
   intro q;exact e (by rw[fJ h.n2 a hm q])
theorem DZ {ps:List Pr} (h:PrOk ps) {m:Pr} (hm:m∈ps) {x:Lsr} (hx:x.i=m.1.2.i):PrOk (ow ps m x):=by
 refine⟨fun p b=>?_,?_,?_⟩
 · unfold ow at b
   obtain⟨q,a,rfl⟩:=List.mem_map.1 b;by_cases e:q.1.1=m.1.1
   · rw[if_pos e]
     have:=fJ h.n1 a hm e;subst this;exact⟨hx.trans (h.eq _ a).1,rfl⟩
   · rw[if_neg e];exact h.eq _ a
 · have e:(ow ps m x).map (fun p=>p.1.1)=ps.map fun p=>p.1.1:=by
    unfold ow;rw[List.map_map];apply List.map_congr_left;intro p _;show(if p.1.1=m.1.1 then (((p.1.1,x),(⟨p.2.j,p.2.i,x.u⟩:Los)):Pr) else p).1.1=p.1.1
    split<;>rfl
   rw[e];exact h.n1
 · have e:(ow ps m x).map (fun p=>p.2.j)=ps.map fun p=>p.2.j:=by
    unfold ow;rw[List.map_map];apply List.map_congr_left;intro p _;show(if p.1.1=m.1.1 then (((p.1.1,x),(⟨p.2.j,p.2.i,x.u⟩:Los)):Pr) else p).2.j=p.2.j
    split<;>rfl
   rw[e];exact h.n2
def tz {σ:Type} (a:o6 σ):(Nat→Int)→σ→List Stp→σ × Int
 | _,s,[]=>(s,0)
 | g,s,st::r=>if (a s ⟨st.r.e.t,g st.j,dZ st.r.e⟩ st.r).2.2≠0 then (s,(a s ⟨st.r.e.t,g st.j,dZ st.r.e⟩ st.r).2.2)
  else tz a (fun k=>if k=st.j then (a s ⟨st.r.e.t,g st.j,dZ st.r.e⟩ st.r).2.1.l else g k) (a s ⟨st.r.e.t,g st.j,dZ st.r.e⟩ st.r).1 r
theorem EB {σ:Type} (l:List Rcd) (b:o6 σ) (A:FP b):∀(f:Nat) (ps:List Pr) (s:σ) (g:Nat→Int),PrOk ps→(∀p∈ps,g p.2.j=p.1.2.l) →
 ((qZ l f (ps.map Prod.snd)).2=0→(jq l b (f+1) (ps.map Prod.fst) s).2=tz b g s (qZ l f (ps.map Prod.snd)).1) ∧
 ((∀s x r,(b s x r).2.2=0)→(jq l b (f+1) (ps.map Prod.fst) s).2.2=(qZ l f (ps.map Prod.snd)).2):=by
 intro f
 induction f with
 | zero=>
  intro ps s g a v;rw[jq,qZ,yp,pY,pI fun p n=>(a.eq p n).2]
  cases hb:pG ps with
  | none=>exact⟨fun _=>rfl,fun _=>rfl⟩
  | some m=>
   have hm:=mI hb;obtain⟨C,e2⟩:=a.eq m hm;simp only[Option.map_some];rw[←e2,←C];by_cases c:m.1.2.u=0
   · rw[if_pos c,if_pos c];exact⟨fun _=>rfl,fun _=>rfl⟩
   rw[if_neg c,if_neg c]
   cases hf:dx l m.1.2.u with
   | none=>exact⟨fun h=>by simp at h,fun _=>rfl⟩
   | some r=>
    simp only;by_cases hr:eh r.e=true∧r.e.t=m.1.2.i
    · rw[if_pos hr,if_pos hr]
      refine⟨fun h=>by simp at h,fun h=>?_⟩;rw[if_neg (by rw[h];simp),jq]
    · rw[if_neg hr,if_neg hr]
      exact⟨fun h=>by simp at h,fun _=>rfl⟩
 | succ f ih=>
  intro ps s g a v;rw[jq,qZ,yp,pY,pI fun p n=>(a.eq p n).2]
  cases hb:pG ps with
  | none=>exact⟨fun _=>rfl,fun _=>rfl⟩
  | some m=>
   have hm:=mI hb;obtain⟨C,e2⟩:=a.eq m hm;have w:=v m hm;simp only[Option.map_some];rw[←e2,←C];by_cases c:m.1.2.u=0
   · rw[if_pos c,if_pos c];exact⟨fun _=>rfl,fun _=>rfl⟩
   rw[if_neg c,if_neg c]
   cases hf:dx l m.1.2.u with
   | none=>exact⟨fun h=>by simp at h,fun _=>rfl⟩
   | some r=>
    simp only;by_cases hr:eh r.e=true∧r.e.t=m.1.2.i
    · rw[if_pos hr,if_pos hr]
      obtain⟨H,F⟩:=A s ⟨m.1.2.i,m.1.2.l,dZ r.e⟩ r;have o:=DZ a hm (x:=(b s ⟨m.1.2.i,m.1.2.l,dZ r.e⟩ r).2.1) F;have es:=Bu a hm (b s ⟨m.1.2.i,m.1.2.l,dZ r.e⟩ r).2.1;have G:=A8 ps m (b s ⟨m.1.2.i,m.1.2.l,dZ r.e⟩ r).2.1;rw[show(b s ⟨m.1.2.i,m.1.2.l,dZ r.e⟩ r).2.1.u=dZ r.e from H] at es
      obtain⟨E,D⟩:=ih (ow ps m (b s ⟨m.1.2.i,m.1.2.l,dZ r.e⟩ r).2.1) (b s ⟨m.1.2.i,m.1.2.l,dZ r.e⟩ r).1 (fun k=>if k=m.2.j then (b s ⟨m.1.2.i,m.1.2.l,dZ r.e⟩ r).2.1.l else g k) o (fun p n=>by
       unfold ow at n;obtain⟨q,y,rfl⟩:=List.mem_map.1 n;by_cases e:q.1.1=m.1.1
       · have:=fJ a.n1 y hm e
         subst this;rw[if_pos rfl];show(if q.2.j=q.2.j then _ else _)=_;rw[if_pos rfl]
       · rw[if_neg e]
         show(if q.2.j=m.2.j then _ else _)=_;rw[if_neg (fun z=>e (by rw[fJ a.n2 y hm z]))]
         exact v q y)
      rw[es,G] at E D;refine⟨fun h=>?_,fun h=>?_⟩
      · split at h
        · rename_i B;exact absurd h B
        rename_i d
        have d:=Classical.not_not.1 d;rw[if_neg (show ¬(qZ l f (Ar (ps.map Prod.snd) m.2.j (dZ r.e))).2≠0 by rw[d];simp)];simp only;rw[tz];simp only;rw[w,hr.2];by_cases ht:(b s ⟨m.1.2.i,m.1.2.l,dZ r.e⟩ r).2.2≠0
        · rw[if_pos ht,if_pos ht]
        · rw[if_neg ht,if_neg ht]
          exact E d
      · rw[if_neg (by rw[h];simp),D h]
        split
        · rfl
        · rename_i d;exact Classical.not_not.1 d
    · rw[if_neg hr,if_neg hr]
      exact⟨fun h=>by simp at h,fun _=>rfl⟩
def qH:o6 (List Int):=fun s x r=>(if r.e.k=0 then s ++ [r.l] else s,x,0)
theorem xZ:FP qH:=fun _ _ _=>⟨rfl,rfl⟩
theorem uK:∀(st:List Stp) (g:Nat→Int) (s:List Int),tz qH g s st=(s ++ (st.filter fun s=>s.r.e.k==0).map fun s=>s.r.l,0)
 | [],g,s=>by simp[tz]
 | a::r,g,s=>by
  rw[tz];rw[if_neg (by show ¬((0:Int)≠0);simp),uK r,List.filter_cons];unfold qH;by_cases h:a.r.e.k=0
  · rw[if_pos (ar h)];simp[h]
  · rw[if_neg (ar h)];simp[h]
theorem wm:∀(ts:List Trn) (j:Nat) (ls:List (Nat × Lsr)),ls.map Prod.snd=(ts.filter fun x=>!x.c).map (fun x=>(⟨x.i,x.l,x.u⟩:Lsr))→∃ps:List Pr,ps.map Prod.fst=ls∧ps.map Prod.snd=zP j ts∧(∀p∈ps,p.1.2.i=p.2.i∧p.1.2.u=p.2.u∧j≤p.2.j∧∃x,ts[p.2.j-j]? = some x∧x.l=p.1.2.l)∧(ps.map fun p=>p.2.j).Pairwise (·<·)
 | [],j,ls,h=>by
  cases ls with
  | nil=>exact⟨[],rfl,rfl,fun p a=>(by cases a),.nil⟩
  | cons _ _=>cases h
 | x::ts,j,ls,h=>by
  cases hc:x.c with
  | true=>
   rw[List.filter_cons,if_neg (by rw[hc];decide)] at h;obtain⟨ps,f,e,h3,n⟩:=wm ts (j+1) ls h;refine⟨ps,f,?_,fun p a=>?_,n⟩
   · rw[zP,hc];exact e
   · obtain⟨m,d,o,y,g,b⟩:=h3 p a
     refine⟨m,d,by omega,y,?_,b⟩;rw[show p.2.j-j=(p.2.j-(j+1))+1 by omega];exact g
  | false=>
   rw[List.filter_cons,if_pos (by rw[hc];decide),List.map_cons] at h
   cases ls with
   | nil=>cases h
   | cons z ls=>
    rw[List.map_cons] at h;injection h with hz h;obtain⟨ps,f,e,h3,n⟩:=wm ts (j+1) ls h;refine⟨(z,⟨j,x.i,x.u⟩)::ps,by rw[List.map_cons,f],?_,fun p a=>?_,?_⟩
    · rw[zP,hc,List.map_cons,e];rfl
    · rcases List.mem_cons.1 a with rfl | a
      · refine⟨by show z.2.i=x.i;rw[hz],by show z.2.u=x.u;rw[hz],Nat.le_refl _,x,?_,by show x.l=z.2.l;rw[hz]⟩
        show(x::ts)[j-j]? = _;rw[Nat.sub_self];rfl
      · obtain⟨m,d,o,y,g,b⟩:=h3 p a
        refine⟨m,d,by omega,y,?_,b⟩;rw[show p.2.j-j=(p.2.j-(j+1))+1 by omega];exact g
    · rw[List.map_cons]
      refine List.pairwise_cons.2 ⟨fun k q=>?_,n⟩;obtain⟨p,a,rfl⟩:=List.mem_map.1 q;have:=(h3 p a).2.2.1;show j<p.2.j;omega
open Go.RowKit
open Go.RowKit Go.Sort Go.Shelf
theorem St.split2 {M:List Nat} {w X:World} {e d e2:Ent} {L:List Ent} (h:St M w X (e::L)) (l:d.ok X) (k:e2.ok X) (i:∀b,d.dom b→e.dom b) (j:∀b,e2.dom b→e.dom b) (n:∀b,d.dom b→¬e2.dom b):St M w X (d::e2::L):=by
 obtain⟨g,m⟩:=List.pairwise_cons.1 h.sep;refine⟨h.os,h.tape,h.output,h.size,h.block,fun f hf=>?_,fun f hf b c=>?_,List.pairwise_cons.2 ⟨fun f hf b c a=>?_,List.pairwise_cons.2 ⟨fun f hf b c a=>g f hf b (j b c) a,m⟩⟩⟩
 · rcases List.mem_cons.1 hf with rfl | hf
   · exact l
   · rcases List.mem_cons.1 hf with rfl | hf
     · exact k
     · exact h.ok f (List.mem_cons_of_mem _ hf)
 · rcases List.mem_cons.1 hf with rfl | hf
   · exact h.new e List.mem_cons_self b (i b c)
   · rcases List.mem_cons.1 hf with rfl | hf
     · exact h.new e List.mem_cons_self b (j b c)
     · exact h.new f (List.mem_cons_of_mem _ hf) b c
 · rcases List.mem_cons.1 hf with rfl | hf
   · exact n b c a
   · exact g f hf b (i b c) a
def qS (b:Nat) (s:Option Addr × Nat × List Int):Ent:=
 .inv (fun k=>k=b∨(Value.slice s.1 s.2.2.length s.2.1).ownBlock=some k)
  (fun X=>Box X b #[.slice s.1 s.2.2.length s.2.1] 53∧X.ownsRow 0 3 1 (.slice s.1 s.2.2.length s.2.1) s.2.2.length (s.2.2.map (.int .i64))∧(Value.slice s.1 s.2.2.length s.2.1).ownBlock≠some b)
  (fun X X' h a=>⟨(a b (.inl rfl)).trans h.1,Ent.ok_of (e:=.row (.slice s.1 s.2.2.length s.2.1) s.2.2.length 3 1 (s.2.2.map (.int .i64))) h.2.1 (fun k c=>a k (.inr c)),h.2.2⟩)
theorem pr {M:List Nat} {w X:World} {b:Nat} {s:Option Addr × Nat × List Int} {L:List Ent} (h:St M w X (qS b s::L)):St M w X (.box b #[.slice s.1 s.2.2.length s.2.1] 53::.row (.slice s.1 s.2.2.length s.2.1) s.2.2.length 3 1 (s.2.2.map (.int .i64))::L):=by
 have k:=h.at_ (i:=0) rfl;exact h.split2 k.1 k.2.1 (fun q a=>.inl a) (fun q a=>.inr a) (fun q a c=>k.2.2 (by rw[←(show q=b from a)];exact c))
theorem nA {M:List Nat} {w X:World} {b:Nat} {s:Option Addr × Nat × List Int} {L:List Ent} (h:St M w X (.box b #[.slice s.1 s.2.2.length s.2.1] 53::.row (.slice s.1 s.2.2.length s.2.1) s.2.2.length 3 1 (s.2.2.map (.int .i64))::L)):St M w X (qS b s::L):=
 h.fuse2 (e:=qS b s) (fun q a=>a) ⟨h.at_ (i:=0) rfl,h.at_ (i:=1) rfl,fun q=>(List.pairwise_cons.1 h.sep).1 _ List.mem_cons_self b rfl q⟩
theorem zg {ls:List (Nat × Lsr)} (a:(ls.map Prod.fst).Nodup) {m:Nat × Lsr} (hm:m∈ls):jW ls m.1 m.2=ls:=by
 have:=sX a hm m.2.u
 have e:pA ls m.1 2 m.2.u=ls:=by
  unfold pA
  conv=>rhs;rw[←List.map_id ls]
  apply List.map_congr_left;intro x hx;show(if x.1=m.1 then (x.1,wu x.2 2 m.2.u) else x)=x;by_cases e:x.1=m.1
  · rw[if_pos e,fJ (f:=Prod.fst) a hx hm e];rfl
  · rw[if_neg e]
 rw[←e,this];exact kD _ _ _ _
theorem B2 (ls:List (Nat × Lsr)) (b:Nat) (s:Option Addr × Nat × List Int) (m:Nat × Lsr) (r:Rcd) (M:List Nat) (w:World) (hm:m∈ls) (v:s.2.2.length≤1000) (g:St M w w [qS b s,fQ ls]) :
 Calls Tryz.prog 136 #[fO m,ae r.l,cZ r.e,.pointer (some ⟨b,0,none⟩)] w fun e o=>∃p:List (Nat × Lsr) × (Option Addr × Nat × List Int),e=.returned (ae 0)∧(p.1=jW ls m.1 m.2∧p.2.2.2=(qH s.2.2 m.2 r).1)∧St M w o [fQ p.1,qS b p.2]:=by
 have h:=(g.at_ (i:=1) rfl).2;have d:=zg h hm;refine aq (N:=15) Tryz.func136 rfl rfl rfl (fun _ Y=>?_);have Z:=pr g;refine ai (an ?_);refine nb Y rfl rfl Z fun x _ _ u Y Z=>GO 11 ?_;intro _ Y;refine ak (Y.ev rfl) (fun j=>?_) (fun j=>?_)
 ·
  refine GO 3 ?_;intro _ Y;refine bV Y (wn rfl) (f:=fun b=>.slice (some ⟨b,0,none⟩) 1 1) (bb n4 aa aa (Y.evs2 rfl) rfl rfl rfl au au) rfl rfl Z fun q _ _ t Y Z=>bP (z:=ae 0) (sz:=1) (bytes:=8) Y (wn rfl) ⟨rfl,rfl⟩ rfl n4 aa rfl rfl (Y.ev rfl) (Y.ev rfl) Z (i:=3) rfl (Z.boxRd (i:=0) rfl) rfl (List.all_eq_true.1 rfl) ⟨ab,by decide⟩ fun c a _ _ Y Z=>?_;refine aM Y (wn rfl) ⟨rfl,rfl⟩ (Y.ev rfl) (Y.ev rfl) rfl aa Z (i:=2) rfl rfl rfl fun _ Z=>GO 8 ?_;intro _ Y;refine aI Y rfl rfl ?_;have n:r.e.k=0:=ar j;refine⟨(ls,c,a,s.2.2 ++ [r.l]),rfl,⟨d.symm,by show _=(if r.e.k=0 then s.2.2 ++ [r.l] else s.2.2);rw[if_pos n]⟩,?_⟩;refine St.perm (L:=[qS b (c,a,s.2.2 ++ [r.l]),fQ ls]) (nA ?_) (List.Perm.swap _ _ _);show St M w _ [.box b #[.slice c (s.2.2 ++ [r.l]).length a] _,.row (.slice c (s.2.2 ++ [r.l]).length a) (s.2.2 ++ [r.l]).length _ 1 ((s.2.2 ++ [r.l]).map (.int .i64)),fQ ls];rw[List.length_append,List.map_append];exact(Z.sub (aL 28))
 ·
  refine GO 8 ?_;intro _ Y;refine aI Y rfl rfl ?_;have n:r.e.k≠0:=ar j;refine⟨(ls,s),rfl,⟨d.symm,by show _=(if r.e.k=0 then s.2.2 ++ [r.l] else s.2.2);rw[if_neg n]⟩,?_⟩;exact St.perm (L:=[qS b s,fQ ls]) (nA (Z.sub (aL 14))) (List.Perm.swap _ _ _)
open Go.RowKit Go.Sort Go.Shelf
theorem uw (t:Tbl) (A:Option Addr) (c:Nat) (B:Option Addr) (d:Nat) (w:World) (hr:Rd w w.heap.size A (t.ts.flatMap cc)) (g:t.ts.length≤1000) :
 Calls Tryz.prog 123 #[bW t A c B d] w fun e a=>∃i:{i:List (Nat × Lsr) × Option Addr × Nat // i.1.map Prod.snd=iW t.ts},e=.returned (.slice i.1.2.1 i.1.1.length i.1.2.2)∧St [] w a [.row (.slice i.1.2.1 i.1.1.length i.1.2.2) i.1.1.length 233 1 (i.1.1.map fO),fQ i.1.1]:=
 (xJ t A c B d w hr g).mono fun e a ⟨i,f,b,h3⟩=>⟨⟨i,b⟩,f,h3⟩
theorem DO (l:List Trn):(iW l).length≤l.length:=by
 unfold iW;rw[List.length_map];exact List.length_filter_le _ _
def CT (l:List Rcd) (t:Tbl):Int:=(Ai l t).2
def Di (l:List Rcd) (t:Tbl):List Int:=if CT l t=0 then Hc l t else []
theorem Ec {l:List Rcd} {t:Tbl} {ls:List (Nat × Lsr)} (d:ls.map Prod.snd=iW t.ts) (a:(ls.map Prod.fst).Nodup) :
 (jq l qH 101 ls []).2.2=CT l t∧(CT l t=0→(jq l qH 101 ls []).2.1=Di l t):=by
 obtain⟨ps,g,o,h3,r⟩:=wm t.ts 0 ls d;have c:PrOk ps:=⟨fun p b=>⟨(h3 p b).1,(h3 p b).2.1⟩,by rw[←g,List.map_map] at a;exact a,r.imp (fun h q=>by rw[q] at h;exact Nat.lt_irrefl _ h)⟩
 obtain⟨f,n⟩:=EB l qH xZ 100 ps [] (fun k=>match t.ts[k]? with | some x=>x.l | none=>0) c (fun p b=>by
  obtain⟨_,_,_,x,hx,e⟩:=h3 p b;rw[Nat.sub_zero] at hx;show(match t.ts[p.2.j]? with | some x=>x.l | none=>0)=_
  rw[hx];exact e)
 rw[g,o] at f n;have e2:(jq l qH 101 ls []).2.2=CT l t:=n fun _ _ _=>rfl;refine⟨e2,fun i=>?_⟩;have m:=f i;rw[uK] at m;unfold Di Hc Ai;rw[if_pos i,m];rfl
theorem St.pull {M:List Nat} {w X:World} {L:List Ent} {e:Ent} (h:St M w X L) (i:Nat) (b:L[i]? = some e):St M w X (e::L.eraseIdx i):=by
 obtain⟨a,rfl⟩:=List.getElem?_eq_some_iff.1 b;refine h.perm ?_
 have e:L=L.take i ++ L[i]::L.drop (i+1):=by rw[←List.drop_eq_getElem_cons a,List.take_append_drop]
 rw[List.eraseIdx_eq_take_drop_succ]
 conv=>rhs;rw[e]
 exact List.perm_middle.symm
theorem St.fresh {w X:World} {L c:List Ent} (h:St [] w X L) (d:c.Sublist L):∀b∈gq X c,w.heap.size≤b:=fun b i=>by
 obtain⟨_,e,g,f⟩:=mem_domsL.1 i;rcases (h.new e (d.subset g) b f).1 with a | a
 · exact a
 · cases a
theorem GX {ls:List (Nat × Lsr)} {ts:List Trn} (h:ls.map Prod.snd=iW ts) (a:∀x∈ts,0≤x.u):∀x∈ls,0≤x.2.u:=fun x hx=>by
 have:x.2∈iW ts:=by rw[←h];exact List.mem_map_of_mem hx
 unfold iW at this;obtain⟨y,b,e⟩:=List.mem_map.1 this;rw[←e];exact a y (List.mem_filter.1 b).1
theorem Cf (s:List Int) (x:Lsr) (r:Rcd):(qH s x r).1.length≤s.length+1:=by
 unfold qH;simp only
 split
 · rw[List.length_append];exact Nat.le_refl _
 · omega
theorem rh (l:List Rcd) (B:Option Addr) (d:Nat) (t:Tbl) (g:Option Addr) (q:Nat) (o:Option Addr) (n:Nat) (w:World)
 (W:Rd w w.heap.size B (l.flatMap cm)) (z:Rd w w.heap.size g (t.ts.flatMap cc)) (hv:VldH l l.length) (R:l.length≤1000) (T:t.ts.length≤999) (F:∀x∈t.ts,0≤x.u) :
 Calls Tryz.prog 84 #[.slice B l.length d,bW t g q o n] w fun e Q=>∃i:Option Addr × Nat,e=.returned (.tuple #[.slice i.1 (Di l t).length i.2,ae (CT l t)])∧St [] w Q [.row (.slice i.1 (Di l t).length i.2) (Di l t).length 3 1 ((Di l t).map (.int .i64))]:=by
 refine aq (N:=17) Tryz.func84 rfl rfl rfl (fun _ Y=>?_);have Z:=St.init w;refine ai (an ?_);refine nb Y rfl rfl Z fun S _ _ Zc I Z=>GO 1 ?_;intro _ A;refine GO 5 ?_;intro _ h3;refine na (.slice none 0 0) h3 rfl Z fun h _ _ Zd K Z=>GO 6 ?_;intro _ Y;refine sv (v:=bW t g q o n) Y (ag aa aa (Y.ev rfl) (Z.cellsAll (i:=1) rfl)) fun _ Y=>?_;refine df Y (wn rfl) (az bc (Y.evs rfl) rfl) rfl rfl Z (uw t g q o n _ (Z.rd0 z) ab) fun a _ M Y Z=>?_;refine sv Y (fo (Y.evs rfl) (Y.evs rfl)) fun _ Y=>?_;have f:=a.2
 have H:a.1.1.length≤t.ts.length:=by have:=DO t.ts;rw[←f,List.length_map] at this;exact this
 have D:=(Z.at_ (i:=1) rfl).2;obtain⟨u1,P⟩:=Ec f D;replace Z:St [] w M (fQ a.1.1::qS h (none,0,[])::.row (.slice a.1.2.1 a.1.1.length a.1.2.2) a.1.1.length 233 1 (a.1.1.map fO)::[.box S (bW t g q o n).cells 25]):=St.pull (nA (s:=(none,0,[])) (St.pull (Z.nilRow 3 1) 3 rfl)) 2 rfl;refine tN (L1:=[fQ a.1.1,qS h (none,0,[]),.row (.slice a.1.2.1 a.1.1.length a.1.2.2) a.1.1.length 233 1 (a.1.1.map fO)]) (V:=fun _=>ae _) Y (wn rfl) (az bc (Y.evs rfl) rfl) rfl rfl Z (Cw (σ:=List Int) (τ:=Option Addr × Nat × List Int) (fun s=>s.2.2) (qS h) qH xZ 136 [.pointer (some ⟨h,0,none⟩)] l B d w.heap.size a.1.2.1 a.1.2.2 a.1.1 (none,0,[]) _ _ (fun j s=>s.2.2.length≤j) (Nat.le_refl 0) bc Z.size (Z.fresh (aL 7)) (W.below Z.below) hv R ab (GX f F) (St.frontL (L2:=[_]) Z) (fun j X ls s m r hj hK O U hm hr ho ht hu=>(B2 ls h s m r _ X hm ab (U.swap)).mono fun e X' ⟨p,I,⟨A,h3⟩,K⟩=>⟨p,I,⟨fun _=>⟨A,h3,by show p.2.2.2.length≤j+1;rw[h3];have:=Cf s.2.2 m.2 r;omega⟩,by rw[A,iM]⟩,K⟩)) fun c _ _ Y J Z=>?_;refine GO 1 ?_;intro _ Y;rw[u1] at J Y;obtain⟨b,E⟩:=J;refine GO 8 ?_;intro _ Y;refine ak (Y.ev rfl) (fun y=>?_) (fun y=>?_)
 ·
  have G:CT l t≠0:=ar y
  have k:Di l t=[]:=by unfold Di;rw[if_neg G]
  refine GO 9 ?_;intro _ Y;refine cd Y rfl rfl rfl ?_;refine⟨(none,0),by rw[k];rfl,?_⟩;rw[k];exact(Z.sub (List.nil_sublist _)).nilRow 3 1
 ·
  have C:CT l t=0:=ar y;have k:c.2.2.2=Di l t:=(b C).2.trans (P C);refine wp_skip (aj (ai (an ?_)));refine sv Y (lx (Y.ev rfl) (Box.cells (Z.at_ (i:=1) rfl).1 0)) fun _ Y=>?_;refine GO 5 ?_;intro _ Y;refine cd Y rfl rfl rfl ?_;refine⟨(c.2.1,c.2.2.1),by rw[←k,C];rfl,?_⟩;rw[←k];exact(pr (L:=[_,_,_]) (St.pull Z 1 rfl)).sub (aL 2)
def tf (l:List Rcd) (t:Tbl):Int:=aw [(eA l).2,dz t]
def oz (l:List Rcd) (t:Tbl):List Int:=if tf l t=0 then Di l t else []
def zk (l:List Rcd) (t:Tbl):Int:=if tf l t=0 then CT l t else tf l t
theorem qQ (l:List Rcd) (B:Option Addr) (d:Nat) (t:Tbl) (g:Option Addr) (o:Nat) (c:Option Addr) (j:Nat) (w:World)
 (F:Rd w w.heap.size B (l.flatMap cm)) (m:Rd w w.heap.size g (t.ts.flatMap cc)) (A:Rd w w.heap.size c (t.ds.flatMap cw)) (E:l.length≤1000) (K:l.length≤d) (hF:FolT w) (hx:∀x∈l,FewE x.e) :
 Calls Tryz.prog 31 #[.slice B l.length d,bW t g o c j] w fun e I=>∃i:Option Addr × Nat,e=.returned (.tuple #[.slice i.1 (oz l t).length i.2,ae (zk l t)])∧St [] w I [.row (.slice i.1 (oz l t).length i.2) (oz l t).length 3 1 ((oz l t).map (.int .i64))]:=by
 refine aq (N:=21) Tryz.func31 rfl rfl rfl (fun _ Y=>?_);have Z:=St.init w;refine ai (an ?_);refine nb Y rfl rfl Z fun Q _ _ O Y Z=>GO 6 ?_;intro _ Y;apply aK Y [false,false,false] _ aa
 case h=>
  refine GO 1 ?_;intro _ Y;refine jM Y rfl (fun X s=>fb l B d _ ((Z.grow s).rd0 F) E K (hF.below (Z.grow s).below) hx) fun _ Y=>?_;refine qv (v:=bW t g o c j) Y (fun X s=>ag aa aa (Y.ev rfl) ((Z.grow s).cellsAll (i:=0) rfl)) fun _ Y=>?_;refine ax ?_;refine aV fun _ H M=>?_;have Z:=Z.grow H;refine cN Y rfl Z (da t g o c j _ (Z.rd0 m) (Z.rd0 A)) fun _ _ Y Z=>?_;refine bV Y (wn rfl) (f:=fun b=>.slice (some ⟨b,0,none⟩) 2 2) (bb cT aa aa (Y.evs2 rfl) rfl rfl rfl au au) rfl rfl Z fun J _ _ P Y Z=>cU Y rfl (dq (Z.at_ (i:=0) rfl)) fun _ Y=>?_;refine GO 9 ?_;intro _ Y;refine ak (Y.ev rfl) (fun C=>?_) (fun C=>?_)
  ·
   have q:tf l t≠0:=by unfold tf;simpa using C
   have r:oz l t=[]:=by unfold oz;rw[if_neg q]
   have e2:zk l t=tf l t:=by unfold zk;rw[if_neg q]
   refine GO 9 ?_;intro _ Y;refine cd Y rfl rfl rfl ?_;refine⟨(none,0),by rw[r,e2];rfl,?_⟩;rw[r];exact(Z.sub (List.nil_sublist _)).nilRow 3 1
  ·
   have z:tf l t=0:=by unfold tf;simpa using C
   have r:oz l t=Di l t:=by unfold oz;rw[if_pos z]
   have e2:zk l t=CT l t:=by unfold zk;rw[if_pos z]
   have a:=z;unfold tf at a;rw[aS] at a;have p:=tblE_zero.1 (a (dz t) bm);have G:=p.n;have y:=(kF (a (eA l).2 bm)).2;refine GO 5 ?_;intro _ Y;refine sv (v:=bW t g o c j) Y (ag aa aa (Y.ev rfl) (Z.cellsAll (i:=1) rfl)) fun _ Y=>?_;refine df Y (wn rfl) (az bc (Y.evs rfl) rfl) rfl rfl Z (rh l B d t g o c j _ (Z.rd0 F) (Z.rd0 m) y E ab (fun x hx=>by obtain⟨k,L,rfl⟩:=List.getElem_of_mem hx;exact(p.ts k L).u.1)) fun D _ _ Y Z=>?_;refine GO 7 ?_;intro _ Y;refine cd Y rfl rfl rfl ?_;refine⟨D,by rw[r,e2];rfl,?_⟩;rw[r];exact(Z.sub (aL 1))
 case hB=>kernel_rfl
 case hst=>rfl
end Go.Proofs.YtcfdpfmchchkaaaGreatDoor
