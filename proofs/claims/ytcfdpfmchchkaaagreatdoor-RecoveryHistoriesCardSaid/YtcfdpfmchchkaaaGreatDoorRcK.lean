/-
  Chapter 22: undo, over a taker: the walk.
  Chapter 22, plain: undoing over a function that takes, and the plan.
  Chapter 22, plain: the plan of the reference.
  Chapter 22: in which order updates are undone.
  Chapter 22: in which order updates are undone: the walk.
-/
import Derived.Test.YtcfdpfmchchkaaaGreatDoorRcJ
namespace Go.Proofs.YtcfdpfmchchkaaaGreatDoor
set_option maxHeartbeats 1000000
set_option maxRecDepth 4000
set_option linter.unusedVariables false
set_option linter.unusedSimpArgs false
open Go.RowKit Go.Sort Go.Shelf
structure UndS (σ:Type) where
 j:Nat
 ls:List (Nat × Lsr)
 s:σ
def BL {σ:Type} (tk:pb σ):Prop:=∀s x r,(tk s x r).2.1.u=x.u∧(tk s x r).2.1.i=x.i
def BF:Rcd:=⟨0,⟨0,0,0,0,0,false,Cq,⟨#[]⟩⟩⟩
theorem pF {ls:List (Nat × Lsr)} (hnd:(ls.map Prod.fst).Nodup) {m:Nat × Lsr} (hm:m∈ls) (v:Int):nr ls m.1 2 v=ir ls m.1 ⟨m.2.i,m.2.l,v⟩:=by
 unfold nr ir;apply List.map_congr_left;intro x hx;by_cases e:x.1=m.1
 · rw[if_pos e,if_pos e]
   have:x=m:=by
    have key:∀(l:List (Nat × Lsr)),(l.map Prod.fst).Nodup→x∈l→m∈l→x=m:=by
     intro l
     induction l with
     | nil=>intro _ h;cases h
     | cons a l ih=>
      intro h h1 h2;rw[List.map_cons,List.nodup_cons] at h;rcases List.mem_cons.1 h1 with h1 | h1'
      · rcases List.mem_cons.1 h2 with h2 | h2'
        · rw[h1,h2]
        · exact absurd (by rw[←h1,e];exact List.mem_map_of_mem h2') h.1
      · rcases List.mem_cons.1 h2 with h2 | h2'
        · exact absurd (by rw[←h2,←e];exact List.mem_map_of_mem h1') h.1
        · exact ih h.2 h1' h2'
    exact key ls hnd hx hm
   rw[this];rfl
 · rw[if_neg e,if_neg e]
theorem j0 {ls:List (Nat × Lsr)} {m:Nat × Lsr} (hm:m∈ls) (x:Lsr):(m.1,x)∈ir ls m.1 x:=by
 unfold ir;exact List.mem_map.2 ⟨m,hm,by rw[if_pos rfl]⟩
theorem iU (ls:List (Nat × Lsr)) (b:Nat) (x y:Lsr):ir (ir ls b x) b y=ir ls b y:=by
 unfold ir;rw[List.map_map];apply List.map_congr_left;intro z _;show(if (if z.1=b then (z.1,x) else z).1=b then ((if z.1=b then (z.1,x) else z).1,y) else (if z.1=b then (z.1,x) else z))=if z.1=b then (z.1,y) else z;by_cases e:z.1=b
 · rw[if_pos e,if_pos (show(z.1,x).1=b from e),if_pos e]
 · rw[if_neg e,if_neg e]
theorem sg {ls:List (Nat × Lsr)} {b:Nat} {x:Lsr} {p:Lsr→Prop} (h:∀y∈ls,p y.2) (hx:p x):∀y∈ir ls b x,p y.2:=fun y hy=>by
 unfold ir at hy;obtain⟨z,hz,rfl⟩:=List.mem_map.1 hy
 split
 · exact hx
 · exact h z hz
theorem BZ {l:List Rcd} {i:Nat} (hv:VldH l i) {k:Nat} (hk:k<i):0≤dn (l[k]'(by have:=hv.1;omega)).e:=by
 have:=tK (hv.e0 hk).2.2;unfold dn
 split<;>omega
theorem yM {σ τ:Type} (π:τ→σ) (cbE:τ→Ent) (tk:pb σ) (htk:BL tk) (f:FuncId) (cap:List Value) (l:List Rcd) (B:Option Addr) (d:Nat) (B0:Nat) (A:Option Addr) (c:Nat) (ls0:List (Nat × Lsr)) (s0:τ) (M0:List Nat) (w:World)
 (Kq:Nat→τ→Prop) (hK0:Kq 0 s0)
 (hfc:∀(vs:Array Value) (W:World),(callFunc f vs).run Tryz.prog W=.ok (.enter f vs) W) (hB0:B0≤w.heap.size) (hM:∀b∈M0,B0≤b) (hq:Rd w B0 B (l.flatMap bA)) (hv:VldH l l.length) (hl:l.length≤1000) (hn:ls0.length≤1000) (hu0:∀x∈ls0,0≤x.2.u)
 (hS0:St M0 w w [eG ls0,cbE s0,.row (.slice A ls0.length c) ls0.length 233 1 (ls0.map ez)])
 (hcb:∀(j:Nat) (X:World) (ls:List (Nat × Lsr)) (s:τ) (m:Nat × Lsr) (r:Rcd),j<101→Kq j s→KeptL M0 w X→St (fq X [eG ls,cbE s]) X X [eG ls,cbE s]→m∈ls→r∈l→dt r.e=true→r.e.t=m.2.i→m.2.u=dn r.e →
  Calls Tryz.prog f ([ez m,.int .i64 r.l,cY r.e] ++ cap).toArray X fun e X'=>∃p:List (Nat × Lsr) × τ,e=.returned (.int .i64 (tk (π s) m.2 r).2.2)∧(((tk (π s) m.2 r).2.2=0→p.1=ir ls m.1 (tk (π s) m.2 r).2.1∧π p.2=(tk (π s) m.2 r).1∧Kq (j+1) p.2)∧p.1.map Prod.fst=ls.map Prod.fst)∧St (fq X [eG ls,cbE s]) X X' [eG p.1,cbE p.2]) :
 Calls Tryz.prog 135 #[.slice B l.length d,.slice A ls0.length c,.func (.func f) #[] cap.toArray] w fun e w'=>∃p:List (Nat × Lsr) × τ,e=.returned (.int .i64 (gL l tk 101 ls0 (π s0)).2.2)∧(((gL l tk 101 ls0 (π s0)).2.2=0→p.1=(gL l tk 101 ls0 (π s0)).1∧π p.2=(gL l tk 101 ls0 (π s0)).2.1)∧p.1.map Prod.fst=ls0.map Prod.fst)∧St M0 w w' [eG p.1,cbE p.2,.row (.slice A ls0.length c) ls0.length 233 1 (ls0.map ez)]:=by
 have hsl:bS Rcd.l l:=by have:=hv.srt;rwa [List.take_length] at this
 obtain⟨U,hU⟩:∃U,U=gL l tk 101 ls0 (π s0):=⟨_,rfl⟩;rw[←hU];refine al (N:=84) Tryz.func135 rfl rfl rfl (fun _ Y=>?_);have Z:=hS0;refine GO 12 ?_;intro _ Y;refine aY Y Z [0,1,2] (fun (q:UndS τ)=>[(11,.int .i64 (q.j:Nat))]) (fun (q:UndS τ)=>q.j≤101∧U=gL l tk (101-q.j) q.ls (π q.s)∧q.ls.map Prod.fst=ls0.map Prod.fst∧(∀x∈q.ls,0≤x.2.u)∧Kq q.j q.s) (fun q L=>[eG q.ls,cbE q.s,.row (.slice A ls0.length c) ls0.length 233 1 (ls0.map ez)]) (fun (q:UndS τ)=>101-q.j) (⟨0,ls0,s0⟩) (⟨Nat.zero_le _,hU,rfl,hu0,hK0⟩) bz (Z) ?_;intro q _ _ Zf Y Z;refine GO 6 ?_;intro _ Y;refine ak (Y.ev rfl) (fun Zg=>?_) (fun Zg=>?_)
 ·
  have hlt:q.j<101:=by have:=of_decide_eq_true Zg;omega
  obtain⟨hj1,hun,hfs,hu,hKq⟩:=Zf;obtain⟨g,hg⟩:∃g,101-q.j=g+1:=⟨100-q.j,by omega⟩;rw[hg,gL] at hun;have hptr:=zT hfs;refine GO 7 ?_;intro _ Y;refine sv Y (ay (zs:=[.int .i64 0,.int .i64 0,.int .i64 0]) (pl:=[(0,1),(1,1),(2,1)]) aa aa (Y.evs2 rfl) rfl rfl) fun _ Y=>?_;refine nb Y rfl rfl Z fun b15 _ _ Zk Y Z=>?_;refine bw Y (wn rfl) (f:=fun b=>.slice (some ⟨b,0,none⟩) 1 1) (aX Tryz.underlying209 aa aa (Y.evs2 rfl) rfl rfl rfl aq aq) rfl rfl Z fun b16 _ _ Zl h8 Z=>?_;refine te (z:=.pointer none) (sz:=1) (bytes:=8) h8 (wn rfl) ⟨rfl,rfl⟩ rfl Tryz.underlying209 aa rfl rfl (h8.ev rfl) (h8.ev rfl) Z (i:=4) rfl (Z.boxRd (i:=0) rfl) rfl (List.all_eq_true.1 rfl) ⟨by omega,by decide⟩ fun A17 c17 _ X9 h9 Z R17=>?_;obtain⟨z,zs,hzz,hcase⟩:=zX (b:=b15) hu
  have hmp:(z::zs).map ez=ls0.map ez ++ [.pointer (some ⟨b15,0,none⟩)]:=by rw[←hzz,List.map_append,hptr];rfl
  have hml9:(z::zs).length=ls0.length+1:=by have:=congrArg List.length hmp;rw[List.length_map,List.length_append,List.length_map] at this;exact this
  have hbx:∀x∈z::zs,Box X9 x.1 (fc x.2) 273:=fun x hx=>by
   rw[←hzz] at hx;rcases List.mem_append.1 hx with hx | hx
   · exact(Z.at_ (i:=2) rfl).1 x hx
   · rw[List.mem_singleton.1 hx];exact Z.at_ (i:=1) rfl
  refine cE h9 rfl Z (hml9▸qx z zs A17 c17 _ (hmp▸R17) hbx (by have:(z::zs).length=zs.length+1:=rfl;omega)) fun _ Zm Y Z=>?_;obtain⟨m,hmq⟩:∃m,m=zs.foldl jF z:=⟨_,rfl⟩;rw[←hmq] at Y hcase
  have hbm:Box Zm m.1 (fc m.2) 273:=by
   rcases hcase with ⟨_,h9⟩ | ⟨m',hm',_,h9⟩
   · rw[h9];exact Z.at_ (i:=1) rfl
   · rw[h9];exact(Z.at_ (i:=2) rfl).1 _ hm'
  refine GO 8 ?_;intro _ Y;refine sv Y (fy 2 (Y.ev rfl)) fun _ Y=>?_;refine sv Y (lx (Y.ev rfl) (Box.cells hbm 2)) fun _ Y=>?_;refine GO 3 ?_;intro _ Y;refine ak (Y.ev rfl) (fun Zh=>?_) (fun Zh=>?_)
  ·
   have Y:m.2.u=0:=by simpa using Zh
   have hfin:U=(q.ls,π q.s,0):=by
    rcases hcase with ⟨h8,h9⟩ | ⟨m',hm',h8,h9⟩
    · rw[hun,h8]
    · subst h9
      rw[hun,h8];simp only;rw[if_pos Y]
   refine GO 12 ?_;intro _ Y;refine aD Y rfl rfl ?_;exact⟨(q.ls,q.s),by rw[hfin],⟨fun _=>by rw[hfin];exact⟨rfl,rfl⟩,hfs⟩,(Z.sub (.cons _ (.cons _ (.cons_cons _ (.cons_cons _ (.cons_cons _ .slnil))))))⟩
  ·
   have Y:m.2.u≠0:=by simpa using Zh
   obtain⟨hml,hmx⟩:m∈q.ls∧Cs q.ls=some m:=by
    rcases hcase with ⟨h8,h9⟩ | ⟨m',hm',h8,h9⟩
    · exact absurd (by rw[h9];rfl) Y
    · rw[h9];exact⟨hm',h8⟩
   rw[hmx] at hun;simp only at hun;rw[if_neg Y] at hun;refine GO 7 ?_;intro _ Y;refine sv Y (fy 2 (Y.ev rfl)) fun _ Y=>?_;refine sv Y (lx (Y.ev rfl) (Box.cells hbm 2)) fun _ Y=>?_;refine cE Y rfl Z (kV l hsl B d m.2.u _ ((Z.rdBase hM hB0 hq).mono (Nat.le_trans hB0 Z.size)) hl) fun _ _ Y Z=>?_;refine GO 5 ?_;intro _ Y;apply aH Y (eZ 19) _ aa
   case h=>
    refine GO 1 ?_;intro _ Y;refine qv Y (fun X hX=>lY Tryz.underlying219 aa (Y.ev rfl) (Y.ev rfl)) fun _ Y=>?_;refine GO 1 ?_;intro _ Y;apply fa (x:=!dt ((dX l m.2.u).getD BF).e) Y 32 rfl 6 38
    case hf=>
     intro Zb;obtain⟨b',o',rfl,qk,q1,q2,q3⟩:=iA hsl hq Zb;generalize il Rcd.l l m.2.u=k at qk q1 q2 q3;refine qy Y (fun X hX=>(aw (v':=.pointer (some ⟨b',o'+k*14+1,none⟩)) (congrArg Value.pointer q3) (bc (Y.ev rfl)))) fun _ Y=>?_;refine GO 1 ?_;intro _ Y;refine iP (v:=cY l[k].e) Y (aj Y _ rfl rfl rfl Zb) rfl rfl (fun X hX=>(ai aa aa (Y.ev rfl) (el ((Z.grow hX).rdBase hM hB0 hq) qk))) fun _ Y=>?_;refine mL Y (aj Y _ rfl rfl rfl Zb) rfl rfl (fun X=>(ax a8 (Y.evs rfl) rfl)) (fun X hX=>iN _ _) fun _ Y=>?_;refine qy Y (fun X hX=>(aw (v':=.bool (!dt ((dX l m.2.u).getD BF).e)) (by rw[q2];rfl) (sW (Y.ev rfl)))) fun _ Y=>?_;refine GO 1 ?_;intro _ Y;exact av (Y.midE 5)
    case ht=>
     intro Zb;refine GO 6 ?_;intro _ Y;exact av (Y.midE 5)
    case h=>
     intro _ Y;refine GO 1 ?_;intro _ Y;apply pE Y 39 rfl 9 48
     case ht=>
      intro Zd;refine GO 9 ?_;intro _ Y;exact av ⟨_,Y.midE 8⟩
     case hf=>
      intro Zd;obtain⟨b',o',rfl,qk,q1,q2,q3⟩:=iA hsl hq (Bool.or_eq_false_iff.1 Zd).1;generalize il Rcd.l l m.2.u=k at qk q1 q2 q3;refine qy Y (fun X hX=>(aw (v':=.pointer (some ⟨b',o'+k*14+1,none⟩)) (congrArg Value.pointer q3) (bc (Y.ev rfl)))) fun _ Y=>?_;refine GO 1 ?_;intro _ Y;refine qy Y (fun X hX=>(fy 1 (Y.ev rfl))) fun _ Y=>?_;refine qy Y (fun X hX=>(lx (Y.ev rfl) ((el ((Z.grow hX).rdBase hM hB0 hq) qk) 1 _ rfl))) fun _ Y=>?_;refine GO 2 ?_;intro _ Y;refine qy Y (fun X hX=>(fy 0 (Y.ev rfl))) fun _ Y=>?_;refine qy Y (fun X hX=>(lx (Y.ev rfl) (Box.cells (((Z.grow hX).at_ (i:=2) rfl).1 _ hml) 0))) fun _ Y=>?_;refine qy Y (fun X hX=>(aw (v':=.bool (((dX l m.2.u).getD BF).e.t != m.2.i)) (by rw[q2];rfl) (iE (Y.ev rfl) (Y.ev rfl)))) fun _ Y=>?_;exact av (Y.midE 8)
     case h=>
      intro v60 _ hg48 Y;refine av ?_;refine aP fun _ Zi Zn=>?_;have Z:=Z.grow Zi;refine sv Y (jw (Y.ev rfl) (Y.ev rfl) (Y.ev rfl) hg48) fun _ Y=>?_;refine ae (ag ?_);refine ak (Y.ev rfl) (fun Ze=>?_) (fun Ze=>?_)
      ·
       have hfin:U=(q.ls,π q.s,6):=by
        rw[hun]
        cases hf:dX l m.2.u with
        | none=>rfl
        | some r=>
         simp only;rw[if_neg]
         rintro ⟨u1,u2⟩
         rw[hf] at Ze
         cases hN:(ll B l m.2.u).isNone with
         | true=>rw[r9 hsl hq hN] at hf;cases hf
         | false=>
          rw[hN,Option.getD_some,u1,u2] at Ze;simp at Ze
       refine GO 12 ?_;intro _ Y;refine aD Y rfl rfl ?_;exact⟨(q.ls,q.s),by rw[hfin],⟨fun h=>absurd h (by rw[hfin];exact(by decide:¬(6:Int)=0)),hfs⟩,(Z.sub (.cons _ (.cons _ (.cons_cons _ (.cons_cons _ (.cons_cons _ .slnil))))))⟩
      ·
       obtain⟨hc2a,hc2c⟩:=Bool.or_eq_false_iff.1 Ze;obtain⟨hc2a,hc2b⟩:=Bool.or_eq_false_iff.1 hc2a;obtain⟨b',o',rfl,qk,q1,q2,q3⟩:=iA hsl hq hc2a;rw[q3] at Y;generalize il Rcd.l l m.2.u=k at qk q1 q2 q3 Y;rw[q2,Option.getD_some] at hc2b hc2c
       have ho:dt l[k].e=true:=by simpa using hc2b
       have hto:l[k].e.t=m.2.i:=by simpa using hc2c
       rw[q2] at hun;simp only at hun;rw[if_pos ⟨ho,hto⟩] at hun;have hnn:=BZ hv qk;have hnd:=(Z.at_ (i:=2) rfl).2;refine GO 6 ?_;intro _ Y;refine sv Y (fy 2 (Y.ev rfl)) fun _ Y=>?_;refine sv Y (lx (Y.ev rfl) (Box.cells ((Z.at_ (i:=2) rfl).1 _ hml) 2)) fun _ Y=>?_;refine GO 8 ?_;intro _ Y;refine sv Y (fy 2 (Y.ev rfl)) fun _ Y=>?_;refine sv Y (lx (Y.ev rfl) ((el (Z.rdBase hM hB0 hq) qk) 2 _ rfl)) fun _ Y=>?_;refine GO 1 ?_;intro _ Y;refine sv Y (fy 2 (Y.ev rfl)) fun _ Y=>?_;refine oO (wn rfl) ⟨rfl,rfl⟩ (Y.ev rfl) (Y.ev rfl) aa Z (i:=2) rfl hml aq fun _ Z=>?_;rw[show nr q.ls m.1 (0+2) l[k].e.p=_ from pF hnd hml l[k].e.p] at Z;refine GO 7 ?_;intro _ Y;refine sv Y (fy 0 (Y.ev rfl)) fun _ Y=>?_;refine sv Y (lx (Y.ev rfl) ((el (Z.rdBase hM hB0 hq) qk) 0 _ rfl)) fun _ Y=>?_;refine GO 3 ?_;intro _ Y;refine ak (Y.ev rfl) (fun Zj=>?_) (fun Zj=>?_)
       ·
        have hnx:dn l[k].e=l[k].e.x:=by unfold dn;rw[if_pos (by simpa using Zj)]
        refine GO 4 ?_;intro _ Y;refine sv Y (fy 3 (Y.ev rfl)) fun _ Y=>?_;refine sv Y (lx (Y.ev rfl) ((el (Z.rdBase hM hB0 hq) qk) 3 _ rfl)) fun _ Y=>?_;refine GO 1 ?_;intro _ Y;refine sv Y (fy 2 (Y.ev rfl)) fun _ Y=>?_;refine oO (wn rfl) ⟨rfl,rfl⟩ (Y.ev rfl) (Y.ev rfl) aa Z (i:=2) rfl (j0 hml _) aq fun _ Z=>?_;rw[show nr (ir q.ls m.1 ⟨m.2.i,m.2.l,l[k].e.p⟩) m.1 (0+2) l[k].e.x=ir q.ls m.1 ⟨m.2.i,m.2.l,l[k].e.x⟩ from(pF (m:=(m.1,⟨m.2.i,m.2.l,l[k].e.p⟩)) (by rw[gB];exact hnd) (j0 hml _) l[k].e.x).trans (iU _ _ _ _),←hnx] at Z;refine GO 6 ?_;intro _ Y;refine sv Y (aw (v':=.int .i64 l[k].l) (congrArg _ q1.symm) (bc (Y.ev rfl))) fun _ Y=>?_;refine GO 2 ?_;intro _ Y;refine sv (v:=cY l[k].e) Y (ai aa aa (Y.ev rfl) (el (Z.rdBase hM hB0 hq) qk)) fun _ Y=>?_;refine pC (L1:=[eG _,cbE q.s]) (V:=fun _=>.int .i64 _) Y (wn rfl) (cz hfc (Y.ev rfl) (Y.evs rfl) rfl) rfl rfl (Z.sub (.cons _ (.cons _ (.cons_cons _ (.cons_cons _ (.cons_cons _ .slnil)))))) (hcb q.j _ _ q.s (m.1,⟨m.2.i,m.2.l,dn l[k].e⟩) l[k] hlt hKq Z.keptL (St.frontL (L2:=[_]) (Z.sub (.cons _ (.cons _ (.cons_cons _ (.cons_cons _ (.cons_cons _ .slnil))))))) (j0 hml _) (List.getElem_mem qk) ho hto rfl) fun p79 _ _ Y Za Z=>?_;refine GO 9 ?_;intro _ Y;refine ak (Y.ev rfl) (fun Zc=>?_) (fun Zc=>?_)
        ·
         have hne:(tk (π q.s) ⟨m.2.i,m.2.l,dn l[k].e⟩ l[k]).2.2≠0:=by simpa using Zc
         rw[if_pos hne] at hun;refine GO 12 ?_;intro _ Y;refine aD Y rfl rfl ?_;exact⟨p79,by rw[hun],⟨fun h=>absurd h (by rw[hun];exact hne),by rw[Za.2,gB];exact hfs⟩,Z⟩
        ·
         have hne:(tk (π q.s) ⟨m.2.i,m.2.l,dn l[k].e⟩ l[k]).2.2=0:=by simpa using Zc
         rw[if_neg (fun h=>h hne)] at hun;obtain⟨e1,e2,hK2⟩:=Za.1 hne;rw[iU] at e1
         have hq2:p79.1.map Prod.fst=ls0.map Prod.fst:=by rw[Za.2,gB];exact hfs
         have hu2:∀x∈p79.1,0≤x.2.u:=by
          rw[e1];exact sg (p:=fun y=>0≤y.u) hu (by rw[(htk _ _ _).1];exact hnn)
         have hun2:U=gL l tk (101-(q.j+1)) p79.1 (π p79.2):=by rw[hun,e1,e2,show 101-(q.j+1)=g by omega];rfl
         refine GO 8 ?_;intro _ Y;exact⟨⟨q.j+1,p79.1,p79.2⟩,(by show 101-(q.j+1)<101-q.j;omega),⟨hlt,hun2,hq2,hu2,hK2⟩,Y.re bz,Z⟩
       ·
        have hnx:dn l[k].e=l[k].e.p:=by unfold dn;rw[if_neg (by simpa using Zj)]
        rw[←hnx] at Z;refine GO 6 ?_;intro _ Y;refine sv Y (aw (v':=.int .i64 l[k].l) (congrArg _ q1.symm) (bc (Y.ev rfl))) fun _ Y=>?_;refine GO 2 ?_;intro _ Y;refine sv (v:=cY l[k].e) Y (ai aa aa (Y.ev rfl) (el (Z.rdBase hM hB0 hq) qk)) fun _ Y=>?_;refine pC (L1:=[eG _,cbE q.s]) (V:=fun _=>.int .i64 _) Y (wn rfl) (cz hfc (Y.ev rfl) (Y.evs rfl) rfl) rfl rfl (Z.sub (.cons _ (.cons _ (.cons_cons _ (.cons_cons _ (.cons_cons _ .slnil)))))) (hcb q.j _ _ q.s (m.1,⟨m.2.i,m.2.l,dn l[k].e⟩) l[k] hlt hKq Z.keptL (St.frontL (L2:=[_]) (Z.sub (.cons _ (.cons _ (.cons_cons _ (.cons_cons _ (.cons_cons _ .slnil))))))) (j0 hml _) (List.getElem_mem qk) ho hto rfl) fun p79 _ _ Y Za Z=>?_;refine GO 9 ?_;intro _ Y;refine ak (Y.ev rfl) (fun Zc=>?_) (fun Zc=>?_)
        ·
         have hne:(tk (π q.s) ⟨m.2.i,m.2.l,dn l[k].e⟩ l[k]).2.2≠0:=by simpa using Zc
         rw[if_pos hne] at hun;refine GO 12 ?_;intro _ Y;refine aD Y rfl rfl ?_;exact⟨p79,by rw[hun],⟨fun h=>absurd h (by rw[hun];exact hne),by rw[Za.2,gB];exact hfs⟩,Z⟩
        ·
         have hne:(tk (π q.s) ⟨m.2.i,m.2.l,dn l[k].e⟩ l[k]).2.2=0:=by simpa using Zc
         rw[if_neg (fun h=>h hne)] at hun;obtain⟨e1,e2,hK2⟩:=Za.1 hne;rw[iU] at e1
         have hq2:p79.1.map Prod.fst=ls0.map Prod.fst:=by rw[Za.2,gB];exact hfs
         have hu2:∀x∈p79.1,0≤x.2.u:=by
          rw[e1];exact sg (p:=fun y=>0≤y.u) hu (by rw[(htk _ _ _).1];exact hnn)
         have hun2:U=gL l tk (101-(q.j+1)) p79.1 (π p79.2):=by rw[hun,e1,e2,show 101-(q.j+1)=g by omega];rfl
         refine GO 8 ?_;intro _ Y;exact⟨⟨q.j+1,p79.1,p79.2⟩,(by show 101-(q.j+1)<101-q.j;omega),⟨hlt,hun2,hq2,hu2,hK2⟩,Y.re bz,Z⟩
   case hB=>kernel_rfl
   case hst=>rfl
 ·
  have hge:101≤q.j:=by have:=of_decide_eq_false Zg;omega
  have hun:=Zf.2.1;rw[show 101-q.j=0 by omega,gL] at hun;refine GO 11 ?_;intro _ Y;refine aD Y rfl rfl ?_;exact⟨(q.ls,q.s),by rw[hun],⟨fun h=>absurd h (by rw[hun];exact(by decide:¬(26:Int)=0)),Zf.2.2.1⟩,Z⟩
open Go.RowKit
abbrev Pr:=(Nat × Lsr) × Los
def mN:List Pr→Option Pr
 | []=>none
 | x::l=>match mN l with
  | none=>some x
  | some y=>if y.1.2.u>x.1.2.u then some y else some x
structure PrOk (ps:List Pr):Prop where
 eq:∀p∈ps,p.1.2.i=p.2.i∧p.1.2.u=p.2.u
 n1:(ps.map fun p=>p.1.1).Nodup
 n2:(ps.map fun p=>p.2.j).Nodup
theorem jV:∀{ps:List Pr} {m:Pr},mN ps=some m→m∈ps
 | [],m,h=>by cases h
 | x::l,m,h=>by
  unfold mN at h
  split at h
  · cases h;exact List.mem_cons_self
  · rename_i y hy
    split at h
    · cases h;exact List.mem_cons_of_mem _ (jV hy)
    · cases h;exact List.mem_cons_self
theorem mg:∀{ps:List Pr},(∀p∈ps,p.1.2.u=p.2.u)→Aa (ps.map Prod.snd)=(mN ps).map Prod.snd
 | [],h=>rfl
 | x::l,h=>by
  have ih:=mg (ps:=l) fun p hp=>h p (List.mem_cons_of_mem _ hp);rw[List.map_cons,Aa,ih,mN]
  cases hb:mN l with
  | none=>rfl
  | some y=>
   have h1:=h x List.mem_cons_self;have h2:=h y (List.mem_cons_of_mem _ (jV hb));simp only[Option.map_some];rw[←h1,←h2]
   split<;>rfl
def qf:List (Nat × Lsr)→Option (Nat × Lsr)
 | []=>none
 | x::l=>match qf l with
  | none=>some x
  | some y=>if y.2.u>x.2.u then some y else some x
theorem nc:∀(ps:List Pr),qf (ps.map Prod.fst)=(mN ps).map Prod.fst
 | []=>rfl
 | x::l=>by
  rw[List.map_cons,qf,nc l,mN]
  cases mN l with
  | none=>rfl
  | some y=>
   simp only[Option.map_some]
   split<;>rfl
theorem rQ:∀(zs:List (Nat × Lsr)) (z:Nat × Lsr),some (zs.foldl jF z)=qf (z::zs)
 | [],z=>rfl
 | x::r,z=>by
  rw[List.foldl_cons,rQ r (jF z x),qf,qf,qf];unfold jF
  cases hb:qf r with
  | none=>simp only;split<;>rfl
  | some y=>
   simp only;by_cases h1:y.2.u>x.2.u
   · rw[if_pos h1]
     simp only;by_cases h2:z.2.u<x.2.u
     · rw[if_pos h2,if_pos h1,if_pos ab]
     · rw[if_neg h2]
   · rw[if_neg h1]
     simp only;by_cases h2:z.2.u<x.2.u
     · rw[if_pos h2,if_neg h1,if_pos ab]
     · rw[if_neg h2,if_neg ab,if_neg ab]
theorem uM (ls:List (Nat × Lsr)):Cs ls=qf ls:=by
 cases ls with
 | nil=>rfl
 | cons z zs=>exact rQ zs z
theorem eA {α β:Type} {f:α→β}:∀{l:List α},(l.map f).Nodup→∀{x y:α},x∈l→y∈l→f x=f y→x=y
 | [],_,x,y,hx,_,_=>by cases hx
 | a::l,h,x,y,hx,hy,e=>by
  rw[List.map_cons,List.nodup_cons] at h;rcases List.mem_cons.1 hx with hx | hx'
  · rcases List.mem_cons.1 hy with hy | hy'
    · rw[hx,hy]
    · refine absurd ?_ h.1
      rw[←hx,e];exact List.mem_map_of_mem hy'
  · rcases List.mem_cons.1 hy with hy | hy'
    · refine absurd ?_ h.1
      rw[←hy,←e];exact List.mem_map_of_mem hx'
    · exact eA h.2 hx' hy' e
def lN (ps:List Pr) (m:Pr) (x:Lsr):List Pr:=ps.map fun p=>if p.1.1=m.1.1 then ((p.1.1,x),⟨p.2.j,p.2.i,x.u⟩) else p
theorem ya (ps:List Pr) (m:Pr) (x:Lsr):(lN ps m x).map Prod.fst=(ps.map Prod.fst).map fun y=>if y.1=m.1.1 then (y.1,x) else y:=by
 unfold lN;rw[List.map_map,List.map_map];apply List.map_congr_left;intro p _;show(if p.1.1=m.1.1 then (((p.1.1,x),(⟨p.2.j,p.2.i,x.u⟩:Los)):Pr) else p).1=if p.1.1=m.1.1 then (p.1.1,x) else p.1
 split<;>rfl
theorem xn {ps:List Pr} (h:PrOk ps) {m:Pr} (hm:m∈ps) (x:Lsr):(lN ps m x).map Prod.snd=vZ (ps.map Prod.snd) m.2.j x.u:=by
 unfold lN vZ;rw[List.map_map,List.map_map];apply List.map_congr_left;intro p hp;show(if p.1.1=m.1.1 then (((p.1.1,x),(⟨p.2.j,p.2.i,x.u⟩:Los)):Pr) else p).2=if p.2.j=m.2.j then ⟨p.2.j,p.2.i,x.u⟩ else p.2;by_cases e:p.1.1=m.1.1
 · have:=eA h.n1 hp hm e
   subst this;rw[if_pos rfl,if_pos rfl]
 · rw[if_neg e,if_neg]
   intro q;exact e (by rw[eA h.n2 hp hm q])
theorem AK {ps:List Pr} (h:PrOk ps) {m:Pr} (hm:m∈ps) {x:Lsr} (hx:x.i=m.1.2.i):PrOk (lN ps m x):=by
 refine⟨fun p hp=>?_,?_,?_⟩
 · unfold lN at hp
   obtain⟨q,hq,rfl⟩:=List.mem_map.1 hp;by_cases e:q.1.1=m.1.1
   · rw[if_pos e]
     have:=eA h.n1 hq hm e;subst this;exact⟨hx.trans (h.eq _ hq).1,rfl⟩
   · rw[if_neg e];exact h.eq _ hq
 · have e:(lN ps m x).map (fun p=>p.1.1)=ps.map fun p=>p.1.1:=by
    unfold lN;rw[List.map_map];apply List.map_congr_left;intro p _;show(if p.1.1=m.1.1 then (((p.1.1,x),(⟨p.2.j,p.2.i,x.u⟩:Los)):Pr) else p).1.1=p.1.1
    split<;>rfl
   rw[e];exact h.n1
 · have e:(lN ps m x).map (fun p=>p.2.j)=ps.map fun p=>p.2.j:=by
    unfold lN;rw[List.map_map];apply List.map_congr_left;intro p _;show(if p.1.1=m.1.1 then (((p.1.1,x),(⟨p.2.j,p.2.i,x.u⟩:Los)):Pr) else p).2.j=p.2.j
    split<;>rfl
   rw[e];exact h.n2
def vS {σ:Type} (tk:pb σ):(Nat→Int)→σ→List Stp→σ × Int
 | _,s,[]=>(s,0)
 | g,s,st::r=>if (tk s ⟨st.r.e.t,g st.j,dn st.r.e⟩ st.r).2.2≠0 then (s,(tk s ⟨st.r.e.t,g st.j,dn st.r.e⟩ st.r).2.2)
  else vS tk (fun k=>if k=st.j then (tk s ⟨st.r.e.t,g st.j,dn st.r.e⟩ st.r).2.1.l else g k) (tk s ⟨st.r.e.t,g st.j,dn st.r.e⟩ st.r).1 r
theorem Ay {σ:Type} (l:List Rcd) (tk:pb σ) (htk:BL tk):∀(f:Nat) (ps:List Pr) (s:σ) (g:Nat→Int),PrOk ps→(∀p∈ps,g p.2.j=p.1.2.l) →
 ((nQ l f (ps.map Prod.snd)).2=0→(gL l tk (f+1) (ps.map Prod.fst) s).2=vS tk g s (nQ l f (ps.map Prod.snd)).1) ∧
 ((∀s x r,(tk s x r).2.2=0)→(gL l tk (f+1) (ps.map Prod.fst) s).2.2=(nQ l f (ps.map Prod.snd)).2):=by
 intro f
 induction f with
 | zero=>
  intro ps s g hps hg;rw[gL,nQ,uM,nc,mg fun p hp=>(hps.eq p hp).2]
  cases hb:mN ps with
  | none=>exact⟨fun _=>rfl,fun _=>rfl⟩
  | some m=>
   have hm:=jV hb;obtain⟨e1,e2⟩:=hps.eq m hm;simp only[Option.map_some];rw[←e2,←e1];by_cases h0:m.1.2.u=0
   · rw[if_pos h0,if_pos h0];exact⟨fun _=>rfl,fun _=>rfl⟩
   rw[if_neg h0,if_neg h0]
   cases hf:dX l m.1.2.u with
   | none=>exact⟨fun h=>by simp at h,fun _=>rfl⟩
   | some r=>
    simp only;by_cases hr:dt r.e=true∧r.e.t=m.1.2.i
    · rw[if_pos hr,if_pos hr]
      refine⟨fun h=>by simp at h,fun h=>?_⟩;rw[if_neg (by rw[h];simp),gL]
    · rw[if_neg hr,if_neg hr]
      exact⟨fun h=>by simp at h,fun _=>rfl⟩
 | succ f ih=>
  intro ps s g hps hg;rw[gL,nQ,uM,nc,mg fun p hp=>(hps.eq p hp).2]
  cases hb:mN ps with
  | none=>exact⟨fun _=>rfl,fun _=>rfl⟩
  | some m=>
   have hm:=jV hb;obtain⟨e1,e2⟩:=hps.eq m hm;have hgm:=hg m hm;simp only[Option.map_some];rw[←e2,←e1];by_cases h0:m.1.2.u=0
   · rw[if_pos h0,if_pos h0];exact⟨fun _=>rfl,fun _=>rfl⟩
   rw[if_neg h0,if_neg h0]
   cases hf:dX l m.1.2.u with
   | none=>exact⟨fun h=>by simp at h,fun _=>rfl⟩
   | some r=>
    simp only;by_cases hr:dt r.e=true∧r.e.t=m.1.2.i
    · rw[if_pos hr,if_pos hr]
      obtain⟨hu,hi⟩:=htk s ⟨m.1.2.i,m.1.2.l,dn r.e⟩ r;have hps':=AK hps hm (x:=(tk s ⟨m.1.2.i,m.1.2.l,dn r.e⟩ r).2.1) hi;have es:=xn hps hm (tk s ⟨m.1.2.i,m.1.2.l,dn r.e⟩ r).2.1;have ef:=ya ps m (tk s ⟨m.1.2.i,m.1.2.l,dn r.e⟩ r).2.1;rw[show(tk s ⟨m.1.2.i,m.1.2.l,dn r.e⟩ r).2.1.u=dn r.e from hu] at es
      obtain⟨i1,i2⟩:=ih (lN ps m (tk s ⟨m.1.2.i,m.1.2.l,dn r.e⟩ r).2.1) (tk s ⟨m.1.2.i,m.1.2.l,dn r.e⟩ r).1 (fun k=>if k=m.2.j then (tk s ⟨m.1.2.i,m.1.2.l,dn r.e⟩ r).2.1.l else g k) hps' (fun p hp=>by
       unfold lN at hp;obtain⟨q,hq,rfl⟩:=List.mem_map.1 hp;by_cases e:q.1.1=m.1.1
       · have:=eA hps.n1 hq hm e
         subst this;rw[if_pos rfl];show(if q.2.j=q.2.j then _ else _)=_;rw[if_pos rfl]
       · rw[if_neg e]
         show(if q.2.j=m.2.j then _ else _)=_;rw[if_neg (fun z=>e (by rw[eA hps.n2 hq hm z]))]
         exact hg q hq)
      rw[es,ef] at i1 i2;refine⟨fun h=>?_,fun h=>?_⟩
      · split at h
        · rename_i hne;exact absurd h hne
        rename_i hz
        have hz:=Classical.not_not.1 hz;rw[if_neg (show ¬(nQ l f (vZ (ps.map Prod.snd) m.2.j (dn r.e))).2≠0 by rw[hz];simp)];simp only;rw[vS];simp only;rw[hgm,hr.2];by_cases ht:(tk s ⟨m.1.2.i,m.1.2.l,dn r.e⟩ r).2.2≠0
        · rw[if_pos ht,if_pos ht]
        · rw[if_neg ht,if_neg ht]
          exact i1 hz
      · rw[if_neg (by rw[h];simp),i2 h]
        split
        · rfl
        · rename_i hz;exact Classical.not_not.1 hz
    · rw[if_neg hr,if_neg hr]
      exact⟨fun h=>by simp at h,fun _=>rfl⟩
def nu:pb (List Int):=fun s x r=>(if r.e.k=0 then s ++ [r.l] else s,x,0)
theorem uj:BL nu:=fun _ _ _=>⟨rfl,rfl⟩
theorem r8:∀(st:List Stp) (g:Nat→Int) (s:List Int),vS nu g s st=(s ++ (st.filter fun s=>s.r.e.k==0).map fun s=>s.r.l,0)
 | [],g,s=>by simp[vS]
 | a::r,g,s=>by
  rw[vS];rw[if_neg (by show ¬((0:Int)≠0);simp),r8 r,List.filter_cons];unfold nu;by_cases h:a.r.e.k=0
  · rw[if_pos (by simpa using h)];simp[h]
  · rw[if_neg (by simpa using h)];simp[h]
theorem tp:∀(ts:List Trn) (j:Nat) (ls:List (Nat × Lsr)),ls.map Prod.snd=(ts.filter fun x=>!x.c).map (fun x=>(⟨x.i,x.l,x.u⟩:Lsr))→∃ps:List Pr,ps.map Prod.fst=ls∧ps.map Prod.snd=vK j ts∧(∀p∈ps,p.1.2.i=p.2.i∧p.1.2.u=p.2.u∧j≤p.2.j∧∃x,ts[p.2.j-j]? = some x∧x.l=p.1.2.l)∧(ps.map fun p=>p.2.j).Pairwise (·<·)
 | [],j,ls,h=>by
  cases ls with
  | nil=>exact⟨[],rfl,rfl,fun p hp=>(by cases hp),.nil⟩
  | cons _ _=>cases h
 | x::ts,j,ls,h=>by
  cases hc:x.c with
  | true=>
   rw[List.filter_cons,if_neg (by rw[hc];decide)] at h;obtain⟨ps,h1,h2,h3,h4⟩:=tp ts (j+1) ls h;refine⟨ps,h1,?_,fun p hp=>?_,h4⟩
   · rw[vK,hc];exact h2
   · obtain⟨q1,q2,q3,y,hy,q4⟩:=h3 p hp
     refine⟨q1,q2,by omega,y,?_,q4⟩;rw[show p.2.j-j=(p.2.j-(j+1))+1 by omega];exact hy
  | false=>
   rw[List.filter_cons,if_pos (by rw[hc];decide),List.map_cons] at h
   cases ls with
   | nil=>cases h
   | cons z ls=>
    rw[List.map_cons] at h;injection h with hz h;obtain⟨ps,h1,h2,h3,h4⟩:=tp ts (j+1) ls h;refine⟨(z,⟨j,x.i,x.u⟩)::ps,by rw[List.map_cons,h1],?_,fun p hp=>?_,?_⟩
    · rw[vK,hc,List.map_cons,h2];rfl
    · rcases List.mem_cons.1 hp with rfl | hp
      · refine⟨by show z.2.i=x.i;rw[hz],by show z.2.u=x.u;rw[hz],Nat.le_refl _,x,?_,by show x.l=z.2.l;rw[hz]⟩
        show(x::ts)[j-j]? = _;rw[Nat.sub_self];rfl
      · obtain⟨q1,q2,q3,y,hy,q4⟩:=h3 p hp
        refine⟨q1,q2,by omega,y,?_,q4⟩;rw[show p.2.j-j=(p.2.j-(j+1))+1 by omega];exact hy
    · rw[List.map_cons]
      refine List.pairwise_cons.2 ⟨fun k hk=>?_,h4⟩;obtain⟨p,hp,rfl⟩:=List.mem_map.1 hk;have:=(h3 p hp).2.2.1;show j<p.2.j;omega
open Go.RowKit
open Go.RowKit Go.Sort Go.Shelf
theorem St.split2 {M:List Nat} {w X:World} {e e1 e2:Ent} {L:List Ent} (h:St M w X (e::L)) (h1:e1.ok X) (h2:e2.ok X) (d1:∀b,e1.dom b→e.dom b) (d2:∀b,e2.dom b→e.dom b) (hd:∀b,e1.dom b→¬e2.dom b):St M w X (e1::e2::L):=by
 obtain⟨s1,s2⟩:=List.pairwise_cons.1 h.sep;refine⟨h.os,h.tape,h.output,h.size,h.block,fun f hf=>?_,fun f hf b hb=>?_,List.pairwise_cons.2 ⟨fun f hf b hb hfb=>?_,List.pairwise_cons.2 ⟨fun f hf b hb hfb=>s1 f hf b (d2 b hb) hfb,s2⟩⟩⟩
 · rcases List.mem_cons.1 hf with rfl | hf
   · exact h1
   · rcases List.mem_cons.1 hf with rfl | hf
     · exact h2
     · exact h.ok f (List.mem_cons_of_mem _ hf)
 · rcases List.mem_cons.1 hf with rfl | hf
   · exact h.new e List.mem_cons_self b (d1 b hb)
   · rcases List.mem_cons.1 hf with rfl | hf
     · exact h.new e List.mem_cons_self b (d2 b hb)
     · exact h.new f (List.mem_cons_of_mem _ hf) b hb
 · rcases List.mem_cons.1 hf with rfl | hf
   · exact hd b hb hfb
   · exact s1 f hf b (d1 b hb) hfb
def nP (b:Nat) (s:Option Addr × Nat × List Int):Ent:=
 .inv (fun k=>k=b∨(Value.slice s.1 s.2.2.length s.2.1).ownBlock=some k)
  (fun X=>Box X b #[.slice s.1 s.2.2.length s.2.1] 53∧X.ownsRow 0 3 1 (.slice s.1 s.2.2.length s.2.1) s.2.2.length (s.2.2.map (.int .i64))∧(Value.slice s.1 s.2.2.length s.2.1).ownBlock≠some b)
  (fun X X' h hb=>⟨(hb b (.inl rfl)).trans h.1,Ent.ok_of (e:=.row (.slice s.1 s.2.2.length s.2.1) s.2.2.length 3 1 (s.2.2.map (.int .i64))) h.2.1 (fun k hk=>hb k (.inr hk)),h.2.2⟩)
theorem mu {M:List Nat} {w X:World} {b:Nat} {s:Option Addr × Nat × List Int} {L:List Ent} (h:St M w X (nP b s::L)):St M w X (.box b #[.slice s.1 s.2.2.length s.2.1] 53::.row (.slice s.1 s.2.2.length s.2.1) s.2.2.length 3 1 (s.2.2.map (.int .i64))::L):=by
 have k:=h.at_ (i:=0) rfl;exact h.split2 k.1 k.2.1 (fun q hq=>.inl hq) (fun q hq=>.inr hq) (fun q hq hq'=>k.2.2 (by rw[←(show q=b from hq)];exact hq'))
theorem kF {M:List Nat} {w X:World} {b:Nat} {s:Option Addr × Nat × List Int} {L:List Ent} (h:St M w X (.box b #[.slice s.1 s.2.2.length s.2.1] 53::.row (.slice s.1 s.2.2.length s.2.1) s.2.2.length 3 1 (s.2.2.map (.int .i64))::L)):St M w X (nP b s::L):=
 h.fuse2 (e:=nP b s) (fun q hq=>hq) ⟨h.at_ (i:=0) rfl,h.at_ (i:=1) rfl,fun q=>(List.pairwise_cons.1 h.sep).1 _ List.mem_cons_self b rfl q⟩
theorem u6 {ls:List (Nat × Lsr)} (hnd:(ls.map Prod.fst).Nodup) {m:Nat × Lsr} (hm:m∈ls):ir ls m.1 m.2=ls:=by
 have:=pF hnd hm m.2.u
 have e:nr ls m.1 2 m.2.u=ls:=by
  unfold nr
  conv=>rhs;rw[←List.map_id ls]
  apply List.map_congr_left;intro x hx;show(if x.1=m.1 then (x.1,sY x.2 2 m.2.u) else x)=x;by_cases e:x.1=m.1
  · rw[if_pos e,eA (f:=Prod.fst) hnd hx hm e];rfl
  · rw[if_neg e]
 rw[←e,this];exact iU _ _ _ _
theorem xq (ls:List (Nat × Lsr)) (b:Nat) (s:Option Addr × Nat × List Int) (m:Nat × Lsr) (r:Rcd) (M:List Nat) (w:World) (hm:m∈ls) (hl:s.2.2.length≤1000) (hS0:St M w w [nP b s,eG ls]) :
 Calls Tryz.prog 136 #[ez m,.int .i64 r.l,cY r.e,.pointer (some ⟨b,0,none⟩)] w fun e w'=>∃p:List (Nat × Lsr) × (Option Addr × Nat × List Int),e=.returned (.int .i64 0)∧(p.1=ir ls m.1 m.2∧p.2.2.2=(nu s.2.2 m.2 r).1)∧St M w w' [eG p.1,nP b p.2]:=by
 have hnd:=(hS0.at_ (i:=1) rfl).2;have hset:=u6 hnd hm;refine al (N:=15) Tryz.func136 rfl rfl rfl (fun _ Y=>?_);have Z:=mu hS0;refine ah (ao ?_);refine nb Y rfl rfl Z fun b6 _ _ Zc Y Z=>?_;refine GO 11 ?_;intro _ Y;refine ak (Y.ev rfl) (fun Za=>?_) (fun Za=>?_)
 ·
  refine GO 3 ?_;intro _ Y;refine bw Y (wn rfl) (f:=fun b=>.slice (some ⟨b,0,none⟩) 1 1) (aX Tryz.underlying53 aa aa (Y.evs2 rfl) rfl rfl rfl aq aq) rfl rfl Z fun b13 _ _ Zb Y Z=>?_;refine bG (z:=.int .i64 0) (sz:=1) (bytes:=8) Y (wn rfl) ⟨rfl,rfl⟩ rfl Tryz.underlying53 aa rfl rfl (Y.ev rfl) (Y.ev rfl) Z (i:=3) rfl (Z.boxRd (i:=0) rfl) rfl (List.all_eq_true.1 rfl) ⟨ab,by decide⟩ fun A14 c14 _ _ Y Z=>?_;refine aN Y (wn rfl) ⟨rfl,rfl⟩ (Y.ev rfl) (Y.ev rfl) rfl aa Z (i:=2) rfl rfl rfl fun _ Z=>?_;refine GO 8 ?_;intro _ Y;refine aD Y rfl rfl ?_
  have hk:r.e.k=0:=by simpa using Za
  refine⟨(ls,A14,c14,s.2.2 ++ [r.l]),rfl,⟨hset.symm,by show _=(if r.e.k=0 then s.2.2 ++ [r.l] else s.2.2);rw[if_pos hk]⟩,?_⟩;refine St.perm (L:=[nP b (A14,c14,s.2.2 ++ [r.l]),eG ls]) (kF ?_) (List.Perm.swap _ _ _);show St M w _ [.box b #[.slice A14 (s.2.2 ++ [r.l]).length c14] _,.row (.slice A14 (s.2.2 ++ [r.l]).length c14) (s.2.2 ++ [r.l]).length _ 1 ((s.2.2 ++ [r.l]).map (.int .i64)),eG ls];rw[List.length_append,List.map_append];exact(Z.sub (.cons _ (.cons _ (.cons_cons _ (.cons_cons _ (.cons_cons _ .slnil))))))
 ·
  refine GO 8 ?_;intro _ Y;refine aD Y rfl rfl ?_
  have hk:r.e.k≠0:=by simpa using Za
  refine⟨(ls,s),rfl,⟨hset.symm,by show _=(if r.e.k=0 then s.2.2 ++ [r.l] else s.2.2);rw[if_neg hk]⟩,?_⟩;exact St.perm (L:=[nP b s,eG ls]) (kF (Z.sub (.cons _ (.cons_cons _ (.cons_cons _ (.cons_cons _ .slnil)))))) (List.Perm.swap _ _ _)
open Go.RowKit Go.Sort Go.Shelf
theorem q8 (t:Tbl) (A:Option Addr) (c:Nat) (B:Option Addr) (d:Nat) (w:World) (hr:Rd w w.heap.size A (t.ts.flatMap cd)) (hl:t.ts.length≤1000) :
 Calls Tryz.prog 123 #[cv t A c B d] w fun e w'=>∃i:{i:List (Nat × Lsr) × Option Addr × Nat // i.1.map Prod.snd=jD t.ts},e=.returned (.slice i.1.2.1 i.1.1.length i.1.2.2)∧St [] w w' [.row (.slice i.1.2.1 i.1.1.length i.1.2.2) i.1.1.length 233 1 (i.1.1.map ez),eG i.1.1]:=
 (tu t A c B d w hr hl).mono fun e w' ⟨i,h1,h2,h3⟩=>⟨⟨i,h2⟩,h1,h3⟩
theorem Ar (l:List Trn):(jD l).length≤l.length:=by
 unfold jD;rw[List.length_map];exact List.length_filter_le _ _
def zR (l:List Rcd) (t:Tbl):Int:=(BK l t).2
def zw (l:List Rcd) (t:Tbl):List Int:=if zR l t=0 then CA l t else []
theorem zI {l:List Rcd} {t:Tbl} {ls:List (Nat × Lsr)} (hls:ls.map Prod.snd=jD t.ts) (hnd:(ls.map Prod.fst).Nodup) :
 (gL l nu 101 ls []).2.2=zR l t∧(zR l t=0→(gL l nu 101 ls []).2.1=zw l t):=by
 obtain⟨ps,h1,h2,h3,h4⟩:=tp t.ts 0 ls hls;have hps:PrOk ps:=⟨fun p hp=>⟨(h3 p hp).1,(h3 p hp).2.1⟩,by rw[←h1,List.map_map] at hnd;exact hnd,h4.imp (fun h q=>by rw[q] at h;exact Nat.lt_irrefl _ h)⟩
 obtain⟨r1,r2⟩:=Ay l nu uj 100 ps [] (fun k=>match t.ts[k]? with | some x=>x.l | none=>0) hps (fun p hp=>by
  obtain⟨_,_,_,x,hx,e⟩:=h3 p hp;rw[Nat.sub_zero] at hx;show(match t.ts[p.2.j]? with | some x=>x.l | none=>0)=_
  rw[hx];exact e)
 rw[h1,h2] at r1 r2;have e2:(gL l nu 101 ls []).2.2=zR l t:=r2 fun _ _ _=>rfl;refine⟨e2,fun hz=>?_⟩;have e1:=r1 hz;rw[r8] at e1;unfold zw CA BK;rw[if_pos hz,e1];rfl
theorem St.pull {M:List Nat} {w X:World} {L:List Ent} {e:Ent} (h:St M w X L) (i:Nat) (hi:L[i]? = some e):St M w X (e::L.eraseIdx i):=by
 obtain⟨hlt,rfl⟩:=List.getElem?_eq_some_iff.1 hi;refine h.perm ?_
 have e:L=L.take i ++ L[i]::L.drop (i+1):=by rw[←List.drop_eq_getElem_cons hlt,List.take_append_drop]
 rw[List.eraseIdx_eq_take_drop_succ]
 conv=>rhs;rw[e]
 exact List.perm_middle.symm
theorem St.fresh {w X:World} {L L':List Ent} (h:St [] w X L) (hs:L'.Sublist L):∀b∈fq X L',w.heap.size≤b:=fun b hb=>by
 obtain⟨_,e,he,hd⟩:=mem_domsL.1 hb;rcases (h.new e (hs.subset he) b hd).1 with h1 | h1
 · exact h1
 · cases h1
theorem CS {ls:List (Nat × Lsr)} {ts:List Trn} (h:ls.map Prod.snd=jD ts) (hu:∀x∈ts,0≤x.u):∀x∈ls,0≤x.2.u:=fun x hx=>by
 have:x.2∈jD ts:=by rw[←h];exact List.mem_map_of_mem hx
 unfold jD at this;obtain⟨y,hy,e⟩:=List.mem_map.1 this;rw[←e];exact hu y (List.mem_filter.1 hy).1
theorem w8 (s:List Int) (x:Lsr) (r:Rcd):(nu s x r).1.length≤s.length+1:=by
 unfold nu;simp only
 split
 · rw[List.length_append];exact Nat.le_refl _
 · omega
theorem nN (l:List Rcd) (B:Option Addr) (d:Nat) (t:Tbl) (TA:Option Addr) (tc:Nat) (TB:Option Addr) (td:Nat) (w:World)
 (hq:Rd w w.heap.size B (l.flatMap bA)) (ht1:Rd w w.heap.size TA (t.ts.flatMap cd)) (hv:VldH l l.length) (hl:l.length≤1000) (htl:t.ts.length≤999) (htu:∀x∈t.ts,0≤x.u) :
 Calls Tryz.prog 84 #[.slice B l.length d,cv t TA tc TB td] w fun e w'=>∃i:Option Addr × Nat,e=.returned (.tuple #[.slice i.1 (zw l t).length i.2,.int .i64 (zR l t)])∧St [] w w' [.row (.slice i.1 (zw l t).length i.2) (zw l t).length 3 1 ((zw l t).map (.int .i64))]:=by
 refine al (N:=17) Tryz.func84 rfl rfl rfl (fun _ Y=>?_);have Z:=St.init w;refine ah (ao ?_);refine nb Y rfl rfl Z fun b3 _ _ Zc h1 Z=>?_;refine GO 1 ?_;intro _ h2;refine GO 5 ?_;intro _ h3;refine na (.slice none 0 0) h3 rfl Z fun b6 _ _ Zd h4 Z=>?_;refine GO 6 ?_;intro _ Y;refine sv (v:=cv t TA tc TB td) Y (ai aa aa (Y.ev rfl) (Z.cellsAll (i:=1) rfl)) fun _ Y=>?_;refine cO Y (wn rfl) (ax a8 (Y.evs rfl) rfl) rfl rfl Z (q8 t TA tc TB td _ (Z.rd0 ht1) ab) fun p10 _ X7 Y Z=>?_;refine sv Y (eL (Y.evs rfl) (Y.evs rfl)) fun _ Y=>?_;have hls:=p10.2
 have hlen:p10.1.1.length≤t.ts.length:=by have:=Ar t.ts;rw[←hls,List.length_map] at this;exact this
 have hnd:=(Z.at_ (i:=1) rfl).2;obtain⟨u1,u2⟩:=zI hls hnd;replace Z:St [] w X7 (eG p10.1.1::nP b6 (none,0,[])::.row (.slice p10.1.2.1 p10.1.1.length p10.1.2.2) p10.1.1.length 233 1 (p10.1.1.map ez)::[.box b3 (cv t TA tc TB td).cells 25]):=St.pull (kF (s:=(none,0,[])) (St.pull (Z.nilRow 3 1) 3 rfl)) 2 rfl;refine pC (L1:=[eG p10.1.1,nP b6 (none,0,[]),.row (.slice p10.1.2.1 p10.1.1.length p10.1.2.2) p10.1.1.length 233 1 (p10.1.1.map ez)]) (V:=fun _=>.int .i64 _) Y (wn rfl) (ax a8 (Y.evs rfl) rfl) rfl rfl Z (yM (σ:=List Int) (τ:=Option Addr × Nat × List Int) (fun s=>s.2.2) (nP b6) nu uj 136 [.pointer (some ⟨b6,0,none⟩)] l B d w.heap.size p10.1.2.1 p10.1.2.2 p10.1.1 (none,0,[]) _ _ (fun j s=>s.2.2.length≤j) (Nat.le_refl 0) a8 Z.size (Z.fresh (.cons_cons _ (.cons_cons _ (.cons_cons _ (.cons _ .slnil))))) (hq.below Z.below) hv hl ab (CS hls htu) (St.frontL (L2:=[_]) Z) (fun j X ls s m r hj hK hkl hS hm hr ho ht hu=>(xq ls b6 s m r _ X hm ab (hS.swap)).mono fun e X' ⟨p,h1,⟨h2,h3⟩,h4⟩=>⟨p,h1,⟨fun _=>⟨h2,h3,by show p.2.2.2.length≤j+1;rw[h3];have:=w8 s.2.2 m.2 r;omega⟩,by rw[h2,gB]⟩,h4⟩)) fun p12 _ _ Y Za Z=>?_;refine GO 1 ?_;intro _ Y;rw[u1] at Za Y;obtain⟨hF12a,hF12b⟩:=Za;refine GO 8 ?_;intro _ Y;refine ak (Y.ev rfl) (fun Zb=>?_) (fun Zb=>?_)
 ·
  have hne:zR l t≠0:=by simpa using Zb
  have e1:zw l t=[]:=by unfold zw;rw[if_neg hne]
  refine GO 9 ?_;intro _ Y;refine bC Y rfl rfl rfl ?_;refine⟨(none,0),by rw[e1];rfl,?_⟩;rw[e1];exact(Z.sub (List.nil_sublist _)).nilRow 3 1
 ·
  have hz:zR l t=0:=by simpa using Zb
  have e1:p12.2.2.2=zw l t:=(hF12a hz).2.trans (u2 hz);refine wp_skip (ag (ah (ao ?_)));refine sv Y (lx (Y.ev rfl) (Box.cells (Z.at_ (i:=1) rfl).1 0)) fun _ Y=>?_;refine GO 5 ?_;intro _ Y;refine bC Y rfl rfl rfl ?_;refine⟨(p12.2.1,p12.2.2.1),by rw[←e1,hz];rfl,?_⟩;rw[←e1];exact(mu (L:=[_,_,_]) (St.pull Z 1 rfl)).sub (.cons _ (.cons_cons _ (.cons _ (.cons _ (.cons _ .slnil)))))
def pD (l:List Rcd) (t:Tbl):Int:=ar [(dW l).2,dy t]
def lS (l:List Rcd) (t:Tbl):List Int:=if pD l t=0 then zw l t else []
def wH (l:List Rcd) (t:Tbl):Int:=if pD l t=0 then zR l t else pD l t
theorem nW (l:List Rcd) (B:Option Addr) (d:Nat) (t:Tbl) (TA:Option Addr) (tc:Nat) (TB:Option Addr) (td:Nat) (w:World)
 (hq:Rd w w.heap.size B (l.flatMap bA)) (ht1:Rd w w.heap.size TA (t.ts.flatMap cd)) (ht2:Rd w w.heap.size TB (t.ds.flatMap cK)) (hl:l.length≤1000) (hc:l.length≤d) (hF:FolT w) (hx:∀x∈l,FewE x.e) :
 Calls Tryz.prog 31 #[.slice B l.length d,cv t TA tc TB td] w fun e w'=>∃i:Option Addr × Nat,e=.returned (.tuple #[.slice i.1 (lS l t).length i.2,.int .i64 (wH l t)])∧St [] w w' [.row (.slice i.1 (lS l t).length i.2) (lS l t).length 3 1 ((lS l t).map (.int .i64))]:=by
 refine al (N:=21) Tryz.func31 rfl rfl rfl (fun _ Y=>?_);have Z:=St.init w;refine ah (ao ?_);refine nb Y rfl rfl Z fun b3 _ _ Zd Y Z=>?_;refine GO 6 ?_;intro _ Y;apply aH Y [false,false,false] _ aa
 case h=>
  refine GO 1 ?_;intro _ Y;refine lT Y rfl (fun X hX=>dZ l B d _ ((Z.grow hX).rd0 hq) hl hc (hF.below (Z.grow hX).below) hx) fun _ Y=>?_;refine qv (v:=cv t TA tc TB td) Y (fun X hX=>ai aa aa (Y.ev rfl) ((Z.grow hX).cellsAll (i:=0) rfl)) fun _ Y=>?_;refine av ?_;refine aP fun _ Zb Ze=>?_;have Z:=Z.grow Zb;refine cE Y rfl Z (cQ t TA tc TB td _ (Z.rd0 ht1) (Z.rd0 ht2)) fun _ _ Y Z=>?_;refine bw Y (wn rfl) (f:=fun b=>.slice (some ⟨b,0,none⟩) 2 2) (aX Tryz.underlying214 aa aa (Y.evs2 rfl) rfl rfl rfl aq aq) rfl rfl Z fun b11 _ _ Zc Y Z=>?_;refine cC Y rfl (cZ (Z.at_ (i:=0) rfl)) fun _ Y=>?_;refine GO 9 ?_;intro _ Y;refine ak (Y.ev rfl) (fun Za=>?_) (fun Za=>?_)
  ·
   have hne:pD l t≠0:=by unfold pD;simpa using Za
   have e1:lS l t=[]:=by unfold lS;rw[if_neg hne]
   have e2:wH l t=pD l t:=by unfold wH;rw[if_neg hne]
   refine GO 9 ?_;intro _ Y;refine bC Y rfl rfl rfl ?_;refine⟨(none,0),by rw[e1,e2];rfl,?_⟩;rw[e1];exact(Z.sub (List.nil_sublist _)).nilRow 3 1
  ·
   have hz:pD l t=0:=by unfold pD;simpa using Za
   have e1:lS l t=zw l t:=by unfold lS;rw[if_pos hz]
   have e2:wH l t=zR l t:=by unfold wH;rw[if_pos hz]
   have hz2:=hz;unfold pD at hz2;rw[aQ] at hz2;have htk:=tblE_zero.1 (hz2 (dy t) a7);have htn:=htk.n;have hvl:=(qb (hz2 (dW l).2 a7)).2;refine GO 5 ?_;intro _ Y;refine sv (v:=cv t TA tc TB td) Y (ai aa aa (Y.ev rfl) (Z.cellsAll (i:=1) rfl)) fun _ Y=>?_;refine cO Y (wn rfl) (ax a8 (Y.evs rfl) rfl) rfl rfl Z (nN l B d t TA tc TB td _ (Z.rd0 hq) (Z.rd0 ht1) hvl hl ab (fun x hx=>by obtain⟨k,hk,rfl⟩:=List.getElem_of_mem hx;exact(htk.ts k hk).u.1)) fun p18 _ _ Y Z=>?_;refine GO 7 ?_;intro _ Y;refine bC Y rfl rfl rfl ?_;refine⟨p18,by rw[e1,e2];rfl,?_⟩;rw[e1];exact(Z.sub (.cons_cons _ (.cons _ (.cons _ .slnil))))
 case hB=>kernel_rfl
 case hst=>rfl
end Go.Proofs.YtcfdpfmchchkaaaGreatDoor
