/- Chapter 22 -/
import Derived.Test.YtcfdpfmchchkaaaGreatDoorRcS1
import Derived.Test.YtcfdpfmchchkaaaGreatDoorRcV
namespace Go.Proofs.YtcfdpfmchchkaaaGreatDoor
set_option maxHeartbeats 1000000
set_option maxRecDepth 4000
set_option linter.unusedVariables false
set_option linter.unusedSimpArgs false
open Go.RowKit Go.Sort Go.Shelf
structure KP (l:List Rcd) (j:Nat) (u:Upl):Prop where
 ok:OkP u.r
 po:PgsOk u.p
 pf:∀x∈l,fW u.p x=0
 n:0≤u.n∧u.n≤j
theorem KP.mono {l:List Rcd} {j k:Nat} {u:Upl} (h:KP l j u) (a:j≤k):KP l k u:=⟨h.ok,h.po,h.pf,by have:=h.n;omega⟩
theorem KP.len {l:List Rcd} {j:Nat} {u:Upl} (h:KP l j u):u.r.rs.length≤1000:=by have:=h.ok.h.len;omega
theorem KP.i6 {l:List Rcd} {j:Nat} {u:Upl} (h:KP l j u):∀y∈u.r.rs,I6 y.l:=fun y b=>by
 obtain⟨k,a,rfl⟩:=List.getElem_of_mem b;have Y:=h.ok.rcd k a;have Y:=h.ok.h.len;unfold I6;omega
theorem KP.end_ {l:List Rcd} {j:Nat} {u:Upl} (h:KP l j u) (i n:Int):KP l j (iO u i n).1:=⟨DB h.ok _,h.po,h.pf,h.n⟩
theorem wM {q:Pgp} {s:ByteArray} {n:Int} (h:s.size=512):(zv q s n).size=512:=by
 unfold zv
 split
 · exact h
 · exact nZ h
theorem tD {s:Upl} {x:Lsr} {e:Lge} {q:Pgp} (a:ib s.p e.g=some q):iv s x e =
 if cY s.r (cS x e)≠0 then (s,x,cY s.r (cS x e)) else if (bz q.b (bO e.o)).2≠0 then (s,x,(bz q.b (bO e.o)).2) else
  (⟨fF s.r (cS x e),eY s.p e.g (zv q (bz q.b (bO e.o)).1 (gC s.r (cS x e))),s.n+1⟩,⟨x.i,gC s.r (cS x e),x.u⟩,0):=by
 unfold iv;rw[a]
theorem FZ {p:List Pgp} {g:Int} {q:Pgp} (h:ib p g=some q):q∈p:=List.mem_of_find?_eq_some h
theorem KP.cmp {l:List Rcd} {j:Nat} {u:Upl} (h:KP l j u) {x:Lsr} {r:Rcd} (hr:r∈l) (p:cb r.e=true) (a:(iv u x r.e).2.2=0):KP l (j+1) (iv u x r.e).1:=by
 obtain⟨q,f,_⟩:=nw (h.pf r hr) p;rw[tD f] at a ⊢;by_cases d:cY u.r (cS x r.e)≠0
 · rw[if_pos d] at a;exact absurd a d
 rw[if_neg d] at a ⊢;by_cases c:(bz q.b (bO r.e.o)).2≠0
 · rw[if_pos c] at a;exact absurd a c
 rw[if_neg c];obtain⟨k,g,rfl⟩:=List.getElem_of_mem (FZ f);have i:=(h.po.all k g).b;refine⟨DB h.ok _,pV h.po _ _ (wM (iK i (Classical.not_not.1 c))),fun y m=>(lv ..).trans (h.pf y m),?_⟩;have:=h.n;show 0≤u.n+1∧u.n+1≤((j+1:Nat):Int);omega
structure KU (l:List Rcd) (A0:Option Addr) (rs0:List RecP) (j:Nat) (s:UdS):Prop where
 k:KP l j s.pl
 own:s.own=false→s.A=A0∧s.r.rs=rs0
theorem KU.mono {l:List Rcd} {A0:Option Addr} {rs0:List RecP} {j k:Nat} {s:UdS} (h:KU l A0 rs0 j s) (a:j≤k):KU l A0 rs0 k s:=⟨h.k.mono a,h.own⟩
theorem KU.end_ {l:List Rcd} {A0:Option Addr} {rs0:List RecP} {j:Nat} {s:UdS} (h:KU l A0 rs0 j s) (i n:Int) (a:Option Addr × Nat):KU l A0 rs0 j (iI s (dk i n) a):=by
 refine⟨by rw[mK];exact h.k.end_ i n,fun b=>?_⟩;unfold iI at b ⊢
 split at b
 · cases b
 · rename_i hne
   rw[if_neg hne];exact h.own b
theorem vg (b:Nat) (s:UdS) (i l:Int) (c:Nat) {M:List Nat} {w X:World} {L:List Ent} (p:s.r.rs.length≤1000) (o:∀y∈s.r.rs,I6 y.l) (f:∀b∈M,c≤b) (hB:c≤w.heap.size) (d:s.own=false→Rd w c s.A (aW s.r.rs)) (a:St M w X (rU b s::L)) :
 Calls Tryz.prog 179 #[.pointer (some ⟨b,0,none⟩),ae i,ae l] X fun e X'=>∃j:Option Addr × Nat,e=.returned (ae (cY s.r (dk i l)))∧St M w X' (rU b (iI s (dk i l) j)::L):=
 (E3 b s i l c _ X p o (fun k g=>B8 a f hB g) (Nat.le_trans hB a.size) (fun m=>a.rdBase f hB (d m)) (St.frontL (L1:=[rU b s]) a)).mono fun e X' ⟨i,n,h⟩=>⟨i,n,St.outer2 (L1:=[rU b s]) a h⟩
def Gj (b a:Nat) (s:UdS):Ent:=AI (.box a #[.pointer (some ⟨b,0,none⟩)] 190) (rU b s)
theorem BD (b b3:Nat) (l:List Rcd) (A0:Option Addr) (rs0:List RecP) (j:Nat) (s:UdS) (ls:List (Nat × Lsr)) (m:Nat × Lsr) (r:Rcd) (I:Nat) (M:List Nat) (w:World) (hm:m∈ls) (hr:r∈l) (T:cb r.e=true) (hx:FewE r.e) (Jw:gy r.e.o=0) (hg:I6 r.e.g) (hj:j<101) (O:KU l A0 rs0 j s)
 (S:∀b∈M,I≤b) (hB:I≤w.heap.size) (R:s.own=false→Rd w I s.A (aW s.r.rs)) (hS:St M w w [dL ls,Gj b b3 s]) :
 Calls Tryz.prog 180 #[eb m,ae r.l,cy r.e,.pointer (some ⟨b3,0,none⟩)] w fun e w'=>∃p:List (Nat × Lsr) × UdS,e=.returned (ae (oP s.pl m.2 r).2.2)∧(((oP s.pl m.2 r).2.2=0→p.1=gn ls m.1 (oP s.pl m.2 r).2.1∧p.2.pl=(oP s.pl m.2 r).1∧KU l A0 rs0 (j+1) p.2)∧p.1.map Prod.fst=ls.map Prod.fst)∧St M w w' [dL p.1,Gj b b3 p.2]:=by
 have W:=ie hS.swap;have Jx:=(hS.at_ (i:=0) rfl).2;obtain⟨q,hq,_⟩:=nw (O.k.pf r hr) T;obtain⟨C,Q⟩:∃C,C=iv s.pl m.2 r.e:=⟨_,rfl⟩;obtain⟨V,hV⟩:∃V,V=oP s.pl m.2 r:=⟨_,rfl⟩;have a:=hV;unfold oP at a;rw[←Q] at a;rw[←hV];have Jv:=nM s.pl m.2 r.e;rw[←Q] at Jv;refine an (N:=34) Tryz.func180 rfl rfl rfl (fun _ Y=>?_);have Z:=W;refine aj (aq ?_);refine nb Y rfl rfl Z fun b6 _ _ Zm Y Z=>GO 11 ?_;intro _ Y;refine ak (Y.ev rfl) (fun U=>?_) (fun U=>?_)
 ·
  have K:r.e.k=0:=al U;rw[if_pos K] at a;refine GO 4 ?_;intro _ Y;refine sv (v:=cy r.e) Y (ah aa aa (Y.ev rfl) (Z.cellsAll (i:=0) rfl)) fun _ Y=>?_;refine gu (L1:=[dL ls,rU b s]) (V:=fun _=>ae _) Y (wn rfl) (aw a6 (Y.evs rfl) rfl) rfl rfl (St.pull' (St.pull' (St.pull' Z 1 rfl) 2 rfl) 3 rfl) (Fx b s ls m r.e q I _ _ hm hx Jw hg O.k.ok O.k.i6 O.k.po hq (by have:=O.k.n;show 0≤s.pl.n∧s.pl.n<_;omega) (((St.pull' (St.pull' (St.pull' Z 1 rfl) 2 rfl) 3 rfl)).low S hB (.cons_cons _ (.cons_cons _ (List.nil_sublist _)))) (Nat.le_trans hB Z.size) (fun T=>Z.rdBase S hB (R T)) (St.frontL (L2:=[_,_]) (St.pull' (St.pull' (St.pull' Z 1 rfl) 2 rfl) 3 rfl))) fun Jy _ _ Y Za Z=>GO 1 ?_;intro _ Y;rw[←Q] at Y Za;obtain⟨c,f⟩:=Jy;have E:c.map Prod.fst=ls.map Prod.fst:=Za.2;refine GO 8 ?_;intro _ Y;refine ak (Y.ev rfl) (fun Zd=>?_) (fun Zd=>?_)
  ·
   have hne:C.2.2≠0:=al Zd;rw[if_pos hne] at a;refine GO 8 ?_;intro _ Y;refine aC Y rfl rfl ?_;exact⟨(c,f),by rw[a],⟨fun h=>absurd h (by rw[a];exact hne),E⟩,(ff (St.pull' (St.pull' (Z.sub (aB 7)) 1 rfl) 2 rfl)).swap⟩
  ·
   have hne:C.2.2=0:=al Zd;rw[if_neg (fun h=>h hne)] at a;obtain⟨e1,e2,e3,e4,e5⟩:=Za.1 hne;have t:KU l A0 rs0 (j+1) f:=⟨by rw[show f.pl=C.1 from e2,Q];exact O.k.cmp hr T (by rw[←Q];exact hne),fun q=>by rw[show f.own=true from e3] at q;cases q⟩
   have G:f.own=false→Rd w I f.A (aW f.r.rs):=fun q=>by rw[show f.own=true from e3] at q;cases q
   obtain⟨D,P⟩:∃x,x=C.2.1:=⟨_,rfl⟩;rw[←P] at a;rw[←show f.pl=C.1 from e2] at a
   have d:c=gn ls m.1 D:=by rw[P];exact e1
   have z:(m.1,D)∈c:=by rw[d];exact fM hm _
   refine GO 7 ?_;intro _ Y;refine sv Y (fy 2 (Y.ev rfl)) fun _ Y=>?_;refine sv Y (lx (Y.ev rfl) (Box.cells ((Z.at_ (i:=0) rfl).1 _ z) 2)) fun _ Y=>?_;refine GO 3 ?_;intro _ Y;refine ak (Y.ev rfl) (fun J=>?_) (fun J=>?_)
   ·
    have y:D.u=0:=al J;unfold xr at a;rw[if_pos y] at a;refine aj ?_;apply rj Y 9 aa
    case h=>
     refine GO 3 ?_;intro _ Y;refine qv Y (fun X F=>fy 0 (Y.ev rfl)) fun _ Y=>?_;refine qv Y (fun X F=>lx (Y.ev rfl) (Box.cells (((Z.grow F).at_ (i:=0) rfl).1 _ z) 0)) fun _ Y=>?_;refine GO 2 ?_;intro _ Y;refine qv Y (fun X F=>fy 1 (Y.ev rfl)) fun _ Y=>?_;refine qv Y (fun X F=>lx (Y.ev rfl) (Box.cells (((Z.grow F).at_ (i:=0) rfl).1 _ z) 1)) fun _ Y=>?_;refine ax ?_;intro _ Ze;have Z:=Z.grow Ze;refine dJ Y (wn rfl) (aw a6 (Y.evs rfl) rfl) rfl rfl (vg b f D.i D.l I t.k.len t.k.i6 S hB G (St.pull' (St.pull' (St.pull' (St.pull' Z 3 rfl) 3 rfl) 2 rfl) 3 rfl)) fun e9 Zn ⟨i9,L,Zi⟩=>⟨_,L,fun _ Zj=>?_⟩;refine⟨Zj.size,?_⟩;refine GO 2 ?_;intro _ Y;intro _ Zf;have Z:=Zi.grow Zf;refine ai (wp_ret (eI ?_));refine aC Y rfl rfl ?_;exact⟨(c,iI f (dk D.i D.l) i9),by rw[a];rfl,⟨fun _=>by rw[a];exact⟨d,by rw[mK];rfl,t.end_ _ _ _⟩,E⟩,(ff (St.pull' (St.pull' (St.pull' (Z.sub (aB 7)) 1 rfl) 1 rfl) 2 rfl)).swap⟩
    case hB=>kernel_rfl
   ·
    have y:D.u≠0:=al J;unfold xr at a;rw[if_neg y] at a;refine GO 8 ?_;intro _ Y;refine aC Y rfl rfl ?_;exact⟨(c,f),by rw[a],⟨fun _=>by rw[a];exact⟨d,rfl,t⟩,E⟩,(ff (St.pull' (St.pull' (Z.sub (aB 7)) 1 rfl) 2 rfl)).swap⟩
 ·
  have K:r.e.k≠0:=al U;rw[if_neg (fun h=>K h)] at a;obtain⟨c,B⟩:∃x,x=ls:=⟨_,rfl⟩;obtain⟨f,H⟩:∃x,x=s:=⟨_,rfl⟩;obtain⟨D,P⟩:∃x,x=m.2:=⟨_,rfl⟩
  have E:c.map Prod.fst=ls.map Prod.fst:=by rw[B]
  have z:(m.1,D)∈c:=by rw[P,B];exact hm
  have t:KU l A0 rs0 (j+1) f:=by rw[H];exact O.mono (Nat.le_succ _)
  have G:f.own=false→Rd w I f.A (aW f.r.rs):=by rw[H];exact R
  have d:c=gn ls m.1 D:=by rw[B,P];exact(tL Jx hm).symm
  rw[←H,←P] at a;rw[←B,←H] at Z;refine GO 7 ?_;intro _ Y;refine sv Y (fy 2 (Y.ev rfl)) fun _ Y=>?_;refine sv Y (lx (Y.ev rfl) (Box.cells ((Z.at_ (i:=3) rfl).1 _ z) 2)) fun _ Y=>?_;refine GO 3 ?_;intro _ Y;refine ak (Y.ev rfl) (fun J=>?_) (fun J=>?_)
  ·
   have y:D.u=0:=al J;unfold xr at a;rw[if_pos y] at a;refine aj ?_;apply rj Y 9 aa
   case h=>
    refine GO 3 ?_;intro _ Y;refine qv Y (fun X F=>fy 0 (Y.ev rfl)) fun _ Y=>?_;refine qv Y (fun X F=>lx (Y.ev rfl) (Box.cells (((Z.grow F).at_ (i:=3) rfl).1 _ z) 0)) fun _ Y=>?_;refine GO 2 ?_;intro _ Y;refine qv Y (fun X F=>fy 1 (Y.ev rfl)) fun _ Y=>?_;refine qv Y (fun X F=>lx (Y.ev rfl) (Box.cells (((Z.grow F).at_ (i:=3) rfl).1 _ z) 1)) fun _ Y=>?_;refine ax ?_;intro _ Zg;have Z:=Z.grow Zg;refine dJ Y (wn rfl) (aw a6 (Y.evs rfl) rfl) rfl rfl (vg b f D.i D.l I t.k.len t.k.i6 S hB G (St.pull' (St.pull' (St.pull' Z 1 rfl) 3 rfl) 3 rfl)) fun e9 Zo ⟨i9,L,Zk⟩=>⟨_,L,fun _ Zl=>?_⟩;refine⟨Zl.size,?_⟩;refine GO 2 ?_;intro _ Y;intro _ Zh;have Z:=Zk.grow Zh;refine ai (wp_ret (eI ?_));refine aC Y rfl rfl ?_;exact⟨(c,iI f (dk D.i D.l) i9),by rw[a];rfl,⟨fun _=>by rw[a];exact⟨d,by rw[mK];rfl,t.end_ _ _ _⟩,E⟩,(ff (St.pull' (St.pull' (St.pull' (Z.sub (aB 7)) 1 rfl) 1 rfl) 2 rfl)).swap⟩
   case hB=>kernel_rfl
  ·
   have y:D.u≠0:=al J;unfold xr at a;rw[if_neg y] at a;refine GO 8 ?_;intro _ Y;refine aC Y rfl rfl ?_;exact⟨(c,f),by rw[a],⟨fun _=>by rw[a];exact⟨d,rfl,t⟩,E⟩,(ff (St.pull' (St.pull' (St.pull' (Z.sub (aB 14)) 2 rfl) 2 rfl) 2 rfl)).swap⟩
open Go.RowKit Go.Sort Go.Shelf
def fI {σ α:Type} (F:σ→α→σ × Int):σ→List α→σ × Int
 | s,[]=>(s,0)
 | s,x::r=>if (F s x).2≠0 then (s,(F s x).2) else fI F (F s x).1 r
theorem ll {σ α:Type} (F:σ→α→σ × Int) {l:List α} {k:Nat} (a:k<l.length) (s:σ):fI F s (l.drop k)=if (F s l[k]).2≠0 then (s,(F s l[k]).2) else fI F (F s l[k]).1 (l.drop (k+1)):=by
 rw[List.drop_eq_getElem_cons a,fI]
theorem nu {σ α:Type} (F:σ→α→σ × Int) {l:List α} {k:Nat} (a:l.length≤k) (s:σ):fI F s (l.drop k)=(s,0):=by
 rw[List.drop_of_length_le a,fI]
theorem KeptL.rdBase {M:List Nat} {w X:World} {B:Nat} (h:KeptL M w X) (d:∀b∈M,B≤b) (hB:B≤w.heap.size) {A:Option Addr} {xs:List Value} (hr:Rd w B A xs):Rd X B A xs:=fun j u f=>by
 obtain⟨b,o,c,e,h3⟩:=hr j u f;exact⟨b,o,c,e,(World.cell?_of_block (w:=w) (a:=⟨b,o+j,none⟩) (h.block b ab (fun hm=>by have:=d b hm;omega))).trans h3⟩
theorem xU {σ τ:Type} (π:τ→σ) (a:τ→Ent) (F:σ→Trn→σ × Int) (K:τ→Prop) (l:List Trn) (A:Option Addr) (c:Nat) (f:FuncId) (n:List Value) (j:τ) (r:Nat) (u:List Nat) (w:World) (C:K j)
 (D:∀(vs:Array Value) (W:World),(callFunc f vs).run Tryz.prog W=.ok (.enter f vs) W) (m:r≤w.heap.size) (J:∀b∈u,r≤b) (hr:Rd w r A (l.flatMap bW)) (O:l.length≤1000) (B:St u w w [a j])
 (G:∀(X:World) (s:τ) (k:Nat) (x:Trn),x∈l→K s→KeptL u w X→(∀b∈eh X [a s],r≤b)→St (eh X [a s]) X X [a s] →
  Calls Tryz.prog f ([ae k,eX x] ++ n).toArray X fun e X'=>∃p:τ,e=.returned (ae (F (π s) x).2)∧((F (π s) x).2=0→π p=(F (π s) x).1∧K p)∧St (eh X [a s]) X X' [a p]) :
 Calls Tryz.prog 60 #[.slice A l.length c,.func (.func f) #[] n.toArray] w fun e S=>∃p:Int × τ,e=.returned (.tuple #[ae p.1,ae (fI F (π j) l).2])∧((fI F (π j) l).2=0→π p.2=(fI F (π j) l).1∧K p.2)∧St u w S [a p.2]:=by
 obtain⟨U,M⟩:∃U,U=fI F (π j) l:=⟨_,rfl⟩;rw[←M];refine an (N:=25) Tryz.func60 rfl rfl rfl (fun _ Y=>?_);have Z:=B;refine GO 3 ?_;intro _ I;refine GO 6 ?_;intro _ P;refine GO 1 ?_;intro _ h3;refine GO 5 ?_;intro _ Y;refine aV Y Z [10,9,1] (fun (q:Nat × τ)=>[(11,ae (q.1:Nat))]) (fun (q:Nat × τ)=>q.1≤l.length∧U=fI F (π q.2) (l.drop q.1)∧K q.2) (fun q L=>[a q.2]) (fun (q:Nat × τ)=>l.length-q.1) ((0,j)) (⟨Nat.zero_le _,M,C⟩) bC (Z) ?_;intro q _ _ t Y Z;refine GO 6 ?_;intro _ Y;refine ak (Y.ev rfl) (fun y=>?_) (fun y=>?_)
 ·
  have g:q.1<l.length:=by have:=of_decide_eq_true y;omega
  obtain⟨b1,o1,rfl,R,_⟩:=hr.opened (aF bq au ab);have d:=t.2.1;rw[ll F g] at d;refine GO 7 ?_;intro _ Y;refine sv Y (ar (i:=q.1) (sz:=4) dT aa (Y.ev rfl) (Y.ev rfl) ab ab rfl) fun _ Y=>?_;refine sv (v:=eX l[q.1]) Y (ah aa aa (Y.ev rfl) (aL bq ((Z.rdBase J m hr).mono (Nat.le_trans m Z.size)) g)) fun _ Y=>?_;refine na (.agg lZ) Y rfl Z fun b7 _ _ T Y Z=>GO 1 ?_;intro _ Y;refine sw Y Z 0 fun _ Z=>?_;refine GO 6 ?_;intro _ Y;refine sv (v:=eX l[q.1]) Y (ah aa aa (Y.ev rfl) (Z.cellsAll (i:=0) rfl)) fun _ Y=>?_;refine gu (L1:=[a q.2]) (V:=fun _=>ae _) Y (wn rfl) (cG D (Y.ev rfl) (Y.evs rfl) rfl) rfl rfl (St.pull' Z 1 rfl) ((G _ q.2 q.1 l[q.1] (List.getElem_mem g) t.2.2 Z.keptL (((St.pull' Z 1 rfl)).low J m (.cons_cons _ (List.nil_sublist _))) (St.frontL (L2:=[_]) (St.pull' Z 1 rfl))).mono fun e X' ⟨p,I,P,h3⟩=>⟨p,I,P,h3⟩) fun o _ _ Y Q Z=>GO 9 ?_;intro _ Y;refine ak (Y.ev rfl) (fun H=>?_) (fun H=>?_)
  ·
   have hne:(F (π q.2) l[q.1]).2≠0:=al H;rw[if_pos hne] at d;refine GO 14 ?_;intro _ Y;refine bU Y rfl rfl rfl ?_;exact⟨((q.1:Nat),o),by rw[d],fun h=>absurd h (by rw[d];exact hne),(Z.sub (aB 1))⟩
  ·
   have E:(F (π q.2) l[q.1]).2=0:=al H;refine GO 8 ?_;intro _ Y;exact⟨(q.1+1,o),(by show l.length-(q.1+1)<l.length-q.1;omega),⟨g,by rw[d,if_neg (fun h=>h E),(Q E).1],(Q E).2⟩,Y.re bC,Z.sub (aB 1)⟩
 ·
  have z:l.length≤q.1:=by have:=of_decide_eq_false y;omega
  have d:=t.2.1;rw[nu F z] at d;refine GO 12 ?_;intro _ Y;refine bU Y rfl rfl rfl ?_;exact⟨(0,q.2),by rw[d],fun _=>by rw[d];exact⟨rfl,t.2.2⟩,Z⟩
def lC (s:Upl) (x:Lsr):Upl × Int:=if x.u=0 then iO s x.i x.l else (s,0)
def jG (s:Upl) (x:Trn):Upl × Int:=if x.c=true then iO s x.i x.l else (s,0)
theorem BF (b q:Nat) (l:List Rcd) (A0:Option Addr) (rs0:List RecP) (j:Nat) (s:UdS) (k:Nat) (x:Trn) (d:Nat) (M:List Nat) (w:World) (f:KU l A0 rs0 j s)
 (u:∀b∈M,d≤b) (hB:d≤w.heap.size) (o:s.own=false→Rd w d s.A (aW s.r.rs)) (z:St M w w [Gj b q s]) :
 Calls Tryz.prog 182 #[ae k,eX x,.pointer (some ⟨q,0,none⟩)] w fun e B=>∃p:UdS,e=.returned (ae (jG s.pl x).2)∧((jG s.pl x).2=0→p.pl=(jG s.pl x).1∧KU l A0 rs0 j p)∧St M w B [Gj b q p]:=by
 have g:=ie z;obtain⟨V,t⟩:∃V,V=jG s.pl x:=⟨_,rfl⟩;have a:=t;unfold jG at a;rw[←t];refine an (N:=15) Tryz.func182 rfl rfl rfl (fun _ Y=>?_);have Z:=g;refine aj (aq ?_);refine nb Y rfl rfl Z fun b4 _ _ C Y Z=>GO 11 ?_;intro _ Y;refine ak (Y.ev rfl) (fun n=>?_) (fun n=>?_)
 ·
  have h:x.c=false:=al n;rw[if_neg (by rw[h];decide)] at a;refine GO 7 ?_;intro _ Y;refine aC Y rfl rfl ?_;exact⟨s,by rw[a],fun _=>by rw[a];exact⟨rfl,f⟩,ff (St.pull' (St.pull' (Z.sub (aB 6)) 1 rfl) 1 rfl)⟩
 ·
  have h:x.c=true:=al n;rw[if_pos h] at a;refine GO 9 ?_;intro _ Y;refine dJ Y (wn rfl) (aw a6 (Y.evs rfl) rfl) rfl rfl (vg b s x.i x.l d f.k.len f.k.i6 u hB o (St.pull' (St.pull' Z 1 rfl) 2 rfl)) fun D F ⟨v,m,y⟩=>⟨_,m,fun _ E=>?_⟩;refine GO 4 ?_;intro _ Y;refine aC Y rfl rfl ?_;exact⟨iI s (dk x.i x.l) v,by rw[a];rfl,fun _=>by rw[a];exact⟨mK _ _ _,f.end_ _ _ _⟩,ff (St.pull' (y.sub (aB 3)) 1 rfl)⟩
open Go.RowKit Go.Sort Go.Shelf
def jo (ts:List Trn):Nat→Int:=fun k=>match ts[k]? with | some x=>x.l | none=>0
def kz (l:List Rcd) (t:Tbl) (s:Upl):Upl × Int:=
 if (fI lC s (gN t.ts)).2≠0 then fI lC s (gN t.ts) else
 if (jA oP (jo t.ts) (fI lC s (gN t.ts)).1 (iQ l t).1).2≠0 then jA oP (jo t.ts) (fI lC s (gN t.ts)).1 (iQ l t).1 else
 fI jG (jA oP (jo t.ts) (fI lC s (gN t.ts)).1 (iQ l t).1).1 t.ts
theorem GM {l:List Rcd} {t:Tbl} {ls:List (Nat × Lsr)} (d:ls.map Prod.snd=gN t.ts) (a:(ls.map Prod.fst).Nodup) (k:vL l t=0) (s:Upl) :
 (fJ l oP 101 ls s).2=jA oP (jo t.ts) s (iQ l t).1:=by
 obtain⟨ps,f,m,h3,i⟩:=uI t.ts 0 ls d;have c:PrOk ps:=⟨fun p b=>⟨(h3 p b).1,(h3 p b).2.1⟩,by rw[←f,List.map_map] at a;exact a,i.imp (fun h q=>by rw[q] at h;exact Nat.lt_irrefl _ h)⟩
 obtain⟨g,n⟩:=zt l oP CQ 100 ps s (jo t.ts) c (fun p b=>by
  obtain⟨_,_,_,x,hx,e⟩:=h3 p b;rw[Nat.sub_zero] at hx;show(match t.ts[p.2.j]? with | some x=>x.l | none=>0)=_
  rw[hx];exact e)
 rw[f,m] at g;exact g k
theorem Hz {X:World} {B b o k:Nat} {l:List (Nat × Lsr)} (hr:Rd X B (some ⟨b,o,none⟩) (l.map eb)) (a:k<l.length):∀(j:Nat) (u:Value),[eb l[k]][j]? = some u→X.cell? ⟨b,o+k*1+j,none⟩=some u
 | 0,u,hu=>by
  obtain⟨b',o',e,_,c⟩:=hr k u (by rw[List.getElem?_map,List.getElem?_eq_getElem a];exact hu);injection e with e;injection e with e1 e2;subst e1 e2;rw[Nat.mul_one];exact c
 | j+1,u,hu=>by cases hu
theorem EB (b:Nat) (l:List Rcd) (B:Option Addr) (d:Nat) (t:Tbl) (TA:Option Addr) (tc:Nat) (TB:Option Addr) (td:Nat) (s:UdS) (A0:Option Addr) (rs0:List RecP) (C:Nat) (M:List Nat) (w:World)
 (hq:Rd w C B (l.flatMap cB)) (Jw:Rd w C TA (t.ts.flatMap bW)) (K:Rd w C A0 (aW rs0)) (hv:VldH l l.length) (hl:l.length≤1000) (Vj:t.ts.length≤999) (Va:∀x∈t.ts,0≤x.u) (hx:∀x∈l,FewE x.e) (G:KU l A0 rs0 0 s) (hz:vL l t=0)
 (F:∀b∈M,C≤b) (hB:C≤w.heap.size) (hS:St M w w [rU b s]) :
 Calls Tryz.prog 111 #[.pointer (some ⟨b,0,none⟩),.slice B l.length d,cc t TA tc TB td] w fun e w'=>∃p:UdS,e=.returned (ae (kz l t s.pl).2)∧((kz l t s.pl).2=0→p.pl=(kz l t s.pl).1∧KU l A0 rs0 101 p)∧St M w w' [rU b p]:=by
 obtain⟨V,hV⟩:∃V,V=kz l t s.pl:=⟨_,rfl⟩;have c:=hV;unfold kz at c;rw[←hV];obtain⟨P,hP⟩:∃P,P=fI lC s.pl (gN t.ts):=⟨_,rfl⟩;rw[←hP] at c
 have hE:∀r∈l,cA r.e=0:=fun r hr=>by
  obtain⟨k,hk,rfl⟩:=List.getElem_of_mem hr;exact(hv.e0 hk).2.2
 have hG:∀r∈l,I6 r.e.g:=fun r hr=>by
  have Y:=(kY (hE r hr)).2.2.2;unfold I6;omega
 refine an (N:=56) Tryz.func111 rfl rfl rfl (fun _ Y=>?_);have Z:=hS;refine aj (aq ?_);refine nb Y rfl rfl Z fun H _ _ Zl Y Z=>nb Y rfl rfl Z fun b5 _ _ Zm Y Z=>GO 5 ?_;intro _ Y;refine sv (v:=cc t TA tc TB td) Y (ah aa aa (Y.ev rfl) (Z.cellsAll (i:=0) rfl)) fun _ Y=>?_;refine cT Y (wn rfl) (aw a6 (Y.evs rfl) rfl) rfl rfl Z (oQ t TA tc TB td _ ((Z.rdBase F hB Jw).mono (Nat.le_trans hB Z.size)) ab) fun Vg _ _ Y Z=>?_;obtain⟨⟨ls,A1,c1⟩,A⟩:=Vg
 dsimp only at Y Z A
 have Vh:ls.length≤t.ts.length:=by have:=yZ t.ts;rw[←A,List.length_map] at this;exact this
 have Vd:=(Z.at_ (i:=1) rfl).2;have Jx:=hP;rw[←A] at Jx;refine GO 1 ?_;intro _ Y;replace Z:=(St.pull' (St.pull' (St.pull' (St.pull' (St.pull' Z 2 rfl) 3 rfl) 3 rfl) 3 rfl) 4 rfl);refine GO 11 ?_;intro _ Y;refine aV Y Z [17,16,7,5,3,1] (fun (q:Nat × UdS)=>[(18,ae (q.1:Nat))]) (fun (q:Nat × UdS)=>q.1≤ls.length∧P=fI lC q.2.pl ((ls.map Prod.snd).drop q.1)∧KU l A0 rs0 0 q.2) (fun q L=>L.set 0 (rU b q.2)) (fun (q:Nat × UdS)=>ls.length-q.1) ((0,s)) (⟨Nat.zero_le _,Jx,G⟩) bC (Z) ?_;intro q _ _ E Y Z;refine GO 6 ?_;intro _ Y;refine ak (Y.ev rfl) (fun Zd=>?_) (fun Zd=>?_)
 ·
  have f:q.1<ls.length:=by have:=of_decide_eq_true Zd;omega
  have a:=E.2.1;rw[ll lC (by rw[List.length_map];exact f),List.getElem_map] at a;have S:=List.getElem_mem f;obtain⟨b1,o1,rfl,_⟩:=(Z.rdOf (i:=1) rfl).opened (show 0<(ls.map eb).length by rw[List.length_map];omega);refine wp_skip (ai (aj (wp_block (aj (aq ?_)))));refine sv Y (ar (i:=q.1) (sz:=1) jg aa (Y.ev rfl) (Y.ev rfl) ab ab rfl) fun _ Y=>?_;refine sv Y (lx (Y.ev rfl) ((Hz (Z.rdOf (i:=1) rfl) f) 0 _ rfl)) fun _ Y=>?_;refine GO 7 ?_;intro _ Y;refine sv Y (fy 2 (Y.ev rfl)) fun _ Y=>?_;refine sv Y (lx (Y.ev rfl) (Box.cells ((Z.at_ (i:=2) rfl).1 _ S) 2)) fun _ Y=>?_;refine GO 3 ?_;intro _ Y;refine ak (Y.ev rfl) (fun Ze=>?_) (fun Ze=>?_)
  ·
   have J:ls[q.1].2.u=0:=al Ze;unfold lC at a;rw[if_pos J] at a;refine aj ?_;apply rj Y 9 aa
   case h=>
    refine GO 3 ?_;intro _ Y;refine qv Y (fun X U=>fy 0 (Y.ev rfl)) fun _ Y=>?_;refine qv Y (fun X U=>lx (Y.ev rfl) (Box.cells (((Z.grow U).at_ (i:=2) rfl).1 _ S) 0)) fun _ Y=>?_;refine GO 2 ?_;intro _ Y;refine qv Y (fun X U=>fy 1 (Y.ev rfl)) fun _ Y=>?_;refine qv Y (fun X U=>lx (Y.ev rfl) (Box.cells (((Z.grow U).at_ (i:=2) rfl).1 _ S) 1)) fun _ Y=>?_;refine ax ?_;intro _ Zf;have Z:=Z.grow Zf;refine dJ Y (wn rfl) (aw a6 (Y.evs rfl) rfl) rfl rfl (vg b q.2 ls[q.1].2.i ls[q.1].2.l C E.2.2.k.len E.2.2.k.i6 F hB (fun D=>by rw[(E.2.2.own D).1,(E.2.2.own D).2];exact K) (St.pull' (St.pull' (St.pull' (St.pull' (St.pull' Z 4 rfl) 4 rfl) 4 rfl) 4 rfl) 4 rfl)) fun e9 Zn ⟨i9,Ve,Zj⟩=>⟨_,Ve,fun _ Zk=>?_⟩;refine⟨Zk.size,?_⟩;refine GO 2 ?_;intro _ Y;intro _ Zg;have Z:=Zj.grow Zg;refine GO 7 ?_;intro _ Y;refine ak (Y.ev rfl) (fun Zh=>?_) (fun Zh=>?_)
    ·
     have hne:cY q.2.r (dk ls[q.1].2.i ls[q.1].2.l)≠0:=al Zh;have o:(iO q.2.pl ls[q.1].2.i ls[q.1].2.l).2≠0:=hne;rw[if_pos o] at a
     have e0:P.2≠0:=by rw[a];exact hne
     rw[if_pos e0,a] at c;refine GO 12 ?_;intro _ Y;refine aC Y rfl rfl ?_;exact⟨iI q.2 (dk ls[q.1].2.i ls[q.1].2.l) i9,by rw[c];rfl,fun h=>absurd h (by rw[c];exact hne),Z.sub (.cons_cons _ (List.nil_sublist _))⟩
    ·
     have hne:cY q.2.r (dk ls[q.1].2.i ls[q.1].2.l)=0:=al Zh;have o:¬(iO q.2.pl ls[q.1].2.i ls[q.1].2.l).2≠0:=fun h=>h hne;rw[if_neg o] at a;refine GO 8 ?_;intro _ Y;exact⟨(q.1+1,iI q.2 (dk ls[q.1].2.i ls[q.1].2.l) i9),(by show ls.length-(q.1+1)<ls.length-q.1;omega),⟨f,by rw[a,mK];rfl,E.2.2.end_ _ _ _⟩,Y.re bC,Z⟩
   case hB=>kernel_rfl
  ·
   have J:ls[q.1].2.u≠0:=al Ze;unfold lC at a;rw[if_neg J,if_neg (fun h=>h rfl)] at a;refine GO 8 ?_;intro _ Y;exact⟨(q.1+1,q.2),(by show ls.length-(q.1+1)<ls.length-q.1;omega),⟨f,a,E.2.2⟩,Y.re bC,Z⟩
 ·
  have Jy:ls.length≤q.1:=by have:=of_decide_eq_false Zd;omega
  have a:=E.2.1;rw[nu lC (by rw[List.length_map];exact Jy)] at a
  have e0:P.2=0:=by rw[a]
  have e1:P.1=q.2.pl:=by rw[a]
  rw[if_neg (fun h=>h e0),e1] at c;have Jv:=GM A Vd hz q.2.pl;obtain⟨R,hR⟩:∃R,R=jA oP (jo t.ts) q.2.pl (iQ l t).1:=⟨_,rfl⟩;rw[←hR] at c Jv;replace Z:=St.pull' (ff (St.pull' Z 3 rfl)) 2 rfl;have Q:=Nat.le_trans hB Z.size;have z:=Z.low F hB (.cons_cons _ (.cons_cons _ (.cons_cons _ (List.nil_sublist _))));have W:=Z.rdBase F hB K;refine GO 10 ?_;intro _ Y;refine sv Y (fm (Y.evs rfl) (Y.evs rfl)) fun _ Y=>?_;refine gu (L1:=[dL ls,Gj b H q.2,.row (.slice A1 ls.length c1) ls.length 233 1 (ls.map eb)]) (V:=fun _=>ae _) Y (wn rfl) (aw a6 (Y.evs rfl) rfl) rfl rfl Z (zI (σ:=Upl) (τ:=UdS) UdS.pl (Gj b H) oP CQ 180 [.pointer (some ⟨H,0,none⟩)] l B d C A1 c1 ls q.2 _ _ (KU l A0 rs0) E.2.2 a6 Q z (Z.rdBase F hB hq) hv hl ab (F8 A Va) (St.frontL (L2:=[_]) Z) (fun j X ls s m r hj G y n hS hm hr D ht hu=>BD b H l A0 rs0 j s ls m r C _ X hm hr D (hx r hr) (mM (hE r hr)) (hG r hr) hj G n (Nat.le_trans Q y.size) (fun D=>by rw[(G.own D).1,(G.own D).2];exact y.rdBase z Q W) hS)) fun I _ _ Y Zb Z=>?_;refine GO 1 ?_;intro _ Y;rw[Jv] at Y Zb;have O:=Nat.le_trans hB Z.size;have T:=Z.rdBase F hB K;refine GO 8 ?_;intro _ Y;refine ak (Y.ev rfl) (fun Zi=>?_) (fun Zi=>?_)
  ·
   have hne:R.2≠0:=al Zi;rw[if_pos hne] at c;refine GO 8 ?_;intro _ Y;refine aC Y rfl rfl ?_;exact⟨I.2,by rw[c],fun h=>absurd h (by rw[c];exact hne),(ie (St.pull' (St.pull' (St.pull' (St.pull' Z 3 rfl) 3 rfl) 2 rfl) 3 rfl)).sub (.cons _ (.cons_cons _ (List.nil_sublist _)))⟩
  ·
   have hne:R.2=0:=al Zi;rw[if_neg (fun h=>h hne)] at c;obtain⟨_,e5,j5,Jz,Vb⟩:=Zb.1 hne;have Vf:=Vb.mono Jz;refine GO 6 ?_;intro _ Y;refine sv Y (fm (Y.evs rfl) (Y.evs rfl)) fun _ Y=>?_;refine gu (L1:=[Gj b H I.2]) (V:=fun p:Int × UdS=>.tuple #[ae p.1,ae _]) Y (wn rfl) (aw a6 (Y.evs rfl) rfl) rfl rfl (St.pull' (St.pull' (St.pull' (St.pull' Z 3 rfl) 3 rfl) 2 rfl) 3 rfl) (xU UdS.pl (Gj b H) jG (KU l A0 rs0 101) t.ts TA tc 182 [.pointer (some ⟨H,0,none⟩)] I.2 C _ _ Vf a6 O (((St.pull' (St.pull' (St.pull' (St.pull' Z 3 rfl) 3 rfl) 2 rfl) 3 rfl)).low F hB (.cons_cons _ (List.nil_sublist _))) (Z.rdBase F hB Jw) ab (St.frontL (L2:=[_,_,_]) (St.pull' (St.pull' (St.pull' (St.pull' Z 3 rfl) 3 rfl) 2 rfl) 3 rfl)) (fun X s k x Vi G y n hS=>BF b H l A0 rs0 101 s k x C _ X G n (Nat.le_trans O y.size) (fun D=>by rw[(G.own D).1,(G.own D).2];exact y.rdBase (((St.pull' (St.pull' (St.pull' (St.pull' Z 3 rfl) 3 rfl) 2 rfl) 3 rfl)).low F hB (.cons_cons _ (List.nil_sublist _))) O T) hS)) fun Vc _ _ Y Zc Z=>?_;refine GO 14 ?_;intro _ Y;refine aC Y rfl rfl ?_;rw[e5] at Zc;exact⟨Vc.2,by rw[c,←e5];rfl,fun h=>by rw[c] at h ⊢;exact Zc h,(ie (St.pull' (St.pull' (St.pull' (St.pull' Z 3 rfl) 3 rfl) 3 rfl) 3 rfl)).sub (.cons _ (.cons_cons _ (List.nil_sublist _)))⟩
open Go.RowKit Go.Sort Go.Shelf
theorem fo {P:Program} {fn:Func} {R:Ending→World→Prop} {a:Act} {X:World} {N:Nat} {l:List (Nat × Value)} {M:List Nat} {w:World} {L:List Ent} {p b i t u q:Nat} {v x y:Value} {cs:Array Value} {T ty:TypeId} (c:Has [] a N l) (hr:fn.results=#[.cell p ty,.tmp t,.tmp u,.tmp q]) (j:look l p=some (.pointer (some ⟨b,0,none⟩))) (o:look l t=some v) (hx:look l u=some x) (n:look l q=some y) (k:St M w X L) (m:L[i]? = some (.box b cs T)) (ht:pC P ty=some true) (g:(P.info? ty).map (·.size)=some cs.toList.length) (h:R (.returned (.tuple #[.agg cs,v,x,y])) X):bodyPost P fn R .ret a X:=
 ⟨c.defers,_,by have d:=c.getD j;have f:=c.getD o;have h3:=c.getD hx;have e:=c.getD n;simp only[Array.getD_eq_getD_getElem?] at d f h3 e;simp[results,hr,d,f,h3,e,asAddr,ns k m ht g],h⟩
theorem mY {r:RngP} (h:(cC r).2.2=0):OkP r∧(fh (dM r.rs)).2=0∧cC r=(dM r.rs,(r.rs.length:Int),0):=by
 unfold cC at h ⊢;by_cases a:(cn r).2=0
 · rw[if_neg (fun q=>q a)] at h ⊢
   by_cases b:(nS r.rs).2=0
   · rw[if_neg (fun q=>q b)] at h ⊢
     by_cases h3:(fh (dM r.rs)).2=0
     · rw[if_neg (fun q=>q h3)]
       exact⟨ok_iff.1 a,h3,rfl⟩
     · rw[if_pos h3] at h;exact absurd h h3
   · rw[if_pos b] at h;exact absurd h b
 · rw[if_pos a] at h;exact absurd h a
theorem yX {r:RngP} (h:(cC r).2.2≠0):(cC r).1=[]:=by
 unfold cC at h ⊢
 split
 · rfl
 · rename_i a
   rw[if_neg a] at h
   split
   · rfl
   · rename_i b
     rw[if_neg b] at h
     split
     · rfl
     · rename_i h3
       rw[if_neg h3] at h;exact absurd rfl h
theorem H2 (r:RngP):∀x∈(cC r).1,I6 x.e.g:=fun x hx=>by
 by_cases h:(cC r).2.2=0
 · obtain⟨_,c,h3⟩:=mY h
   have d:=(lf c).2
   have a:x∈dM r.rs:=by rw[h3] at hx;exact hx
   obtain⟨k,b,rfl⟩:=List.getElem_of_mem a;have f:=(kY (d.e0 b).2.2).2.2.2;unfold I6;omega
 · rw[yX h] at hx;cases hx
theorem tS (r:RngP):(cC r).1.length≤r.rs.length:=by
 by_cases h:(cC r).2.2=0
 · rw[(mY h).2.2];exact Nat.le_of_eq (ra _)
 · rw[yX h];exact Nat.zero_le _
theorem St.addNil {M:List Nat} {w X:World} {L:List Ent} (h:St M w X L):St M w X (GI::L):=
 ⟨h.os,h.tape,h.output,h.size,h.block,fun e a=>by
  rcases List.mem_cons.1 a with rfl | a
  · exact fun j u g=>by simp at g
  · exact h.ok e a,fun e a b c=>by
  rcases List.mem_cons.1 a with rfl | a
  · have d:0≤b∧b<0:=c
    omega
  · exact h.new e a b c,List.pairwise_cons.2 ⟨fun f hf b c=>by have d:0≤b∧b<0:=c;omega,h.sep⟩⟩
theorem St.lowOf {w X:World} {e0:Ent} {L j:List Ent} (h:St (eh w j) w X (e0::L)) (n:∀f∈j,∃g∈L,∀b,f.dom b→g.dom b):∀b∈eh X [e0],w.heap.size≤b:=fun b k=>by
 obtain⟨_,f,hf,a⟩:=mem_domsL.1 k;rw[List.mem_singleton.1 hf] at a;rcases (h.new e0 List.mem_cons_self b a).1 with c | c
 · exact c
 · obtain⟨_,m,i,e⟩:=mem_domsL.1 c
   obtain⟨g,l,d⟩:=n m i;exact absurd (d b e) ((List.pairwise_cons.1 h.sep).1 g l b a)
theorem Rd.both {w X:World} {B f:Nat} {A:Option Addr} {xs:List Value} (h:Rd w B A xs) (h':Rd X f A xs):Rd X B A xs:=fun j u d=>by
 obtain⟨b,o,c,g,_⟩:=h j u d;obtain⟨b',o',a,_,h3⟩:=h' j u d;rw[c] at a;injection a with e;injection e with e1 e2;subst e1 e2;exact⟨b,o,c,g,h3⟩
def mS (r:RngP) (t:Tbl) (p:List Pgp):Int:=av [(cC r).2.2,cZ t,ik (cC r).1 p]
def yf (r:RngP) (t:Tbl) (p:List Pgp):Upl × Int:=kz (cC r).1 t ⟨r,p,0⟩
def rp (r:RngP) (t:Tbl) (p:List Pgp):Int:=if mS r t p≠0 then mS r t p else if vL (cC r).1 t≠0 then vL (cC r).1 t else (yf r t p).2
def gZ (r:RngP) (t:Tbl) (p:List Pgp):RngP × List Pgp × Int:=if rp r t p≠0 then (eF,[],0) else ((yf r t p).1.r,(yf r t p).1.p,(yf r t p).1.n)
theorem tZ (r:RngP) (A:Option Addr) (c:Nat) (t:Tbl) (M:Option Addr) (O:Nat) (L:Option Addr) (P:Nat) (p:List Pgp) (PA:Option Addr) (pc:Nat) (w:World)
 (hr:Rd w w.heap.size A (aW r.rs)) (Va:Rd w w.heap.size M (t.ts.flatMap bW)) (Vr:Rd w w.heap.size L (t.ds.flatMap cN)) (hp:Rd w w.heap.size PA (p.flatMap bX)) (K:r.rs.length≤1000) (Vo:∀x∈r.rs,I6 x.l) (hb:∀x∈r.rs,x.b.size≤maxLen) (Vn:p.length≤1000) (hF:FolT w) :
 Calls Tryz.prog 48 #[bm r A c,cc t M O L P,.slice PA p.length pc] w fun e w'=>∃i:(Option Addr × Nat) × Option Addr × Nat,e=.returned (.tuple #[bm (gZ r t p).1 i.1.1 i.1.2,.slice i.2.1 (gZ r t p).2.1.length i.2.2,ae (gZ r t p).2.2,ae (rp r t p)]) ∧
  St [] w w' [.row (.slice i.1.1 (gZ r t p).1.rs.length i.1.2) (gZ r t p).1.rs.length 177 3 (aW (gZ r t p).1.rs),.row (.slice i.2.1 (gZ r t p).2.1.length i.2.2) (gZ r t p).2.1.length 111 3 ((gZ r t p).2.1.flatMap bX)]:=by
 have hg:=H2 r;have J:=Nat.le_trans (tS r) K;obtain⟨H,T⟩:∃H,H=cC r:=⟨_,rfl⟩;rw[←T] at hg J
 have a:rp r t p=if av [H.2.2,cZ t,ik H.1 p]≠0 then av [H.2.2,cZ t,ik H.1 p] else if vL H.1 t≠0 then vL H.1 t else (yf r t p).2:=by rw[T];rfl
 have Jw:yf r t p=kz H.1 t ⟨r,p,0⟩:=by rw[T];rfl
 obtain⟨W,hW⟩:∃W,W=yf r t p:=⟨_,rfl⟩;rw[←hW] at a Jw;obtain⟨Y,hY⟩:∃Y,Y=rp r t p:=⟨_,rfl⟩
 have D:gZ r t p=if Y≠0 then (eF,[],0) else (W.1.r,W.1.p,W.1.n):=by rw[hY,hW];rfl
 obtain⟨G,hG⟩:∃G,G=gZ r t p:=⟨_,rfl⟩;rw[←hG] at D ⊢;rw[←hY] at a ⊢;refine an (N:=75) Tryz.func48 rfl rfl rfl (fun _ Z=>?_);have U:=St.init w;refine aj (aq ?_);refine nb Z rfl rfl U fun b3 _ _ Zm h1 U=>nb h1 rfl rfl U fun b4 _ _ Zn h2 U=>na (.agg gU) h2 rfl U fun b6 _ _ Zo h3 U=>GO 7 ?_;intro _ Z;refine sv (v:=bm r A c) Z (ah aa aa (Z.ev rfl) (U.cellsAll (i:=2) rfl)) fun _ Z=>?_;refine cT Z (wn rfl) (aw a6 (Z.evs rfl) rfl) rfl rfl U (sg r A c _ (U.rd0 hr) K Vo hb (hF.below U.below)) fun z _ _ Z U=>GO 7 ?_;intro _ Z;rw[←T] at Z U;refine GO 6 ?_;intro _ Z;refine sv (v:=cc t M O L P) Z (ah aa aa (Z.ev rfl) (U.cellsAll (i:=2) rfl)) fun _ Z=>?_;refine cQ Z rfl U (dp t M O L P _ (U.rd0 Va) (U.rd0 Vr)) fun _ _ Z U=>?_;refine GO 2 ?_;intro _ Z;refine cQ Z rfl U (iJ p H.1 PA pc z.1 z.2 _ (U.rd0 hp) (U.rdOf (i:=0) rfl) J hg) fun _ _ Z U=>?_;refine bV Z (wn rfl) (f:=fun b=>.slice (some ⟨b,0,none⟩) 3 3) (ba dt aa aa (Z.evs2 rfl) rfl rfl rfl au au) rfl rfl U fun Vu _ _ Zk Z I=>dn Z rfl (fk (I.at_ (i:=0) rfl)) fun _ Z=>?_;refine GO 7 ?_;intro _ Z;have g:=(I.sub (aB 30));have C:=g.fresh (L':=[_,_,_,_]) (List.Sublist.refl _);have o:=g.size;have Ve:=g.rdBase (fun _ h=>by cases h) (Nat.le_refl _) hr;have Jz:=g.rdBase (fun _ h=>by cases h) (Nat.le_refl _) Va;have Vm:=g.rdBase (fun _ h=>by cases h) (Nat.le_refl _) hp;have Vp:=g.rdOf (i:=0) rfl;replace I:=g.inner;refine ag (ai ?_);refine ak (Z.ev rfl) (fun Zf=>?_) (fun Zf=>?_)
 ·
  have hne:av [H.2.2,cZ t,ik H.1 p]≠0:=al Zf;rw[if_pos hne] at a
  have d:G=(eF,[],0):=by rw[D,if_pos (by rw[a];exact hne)]
  refine aj (aq ?_);refine sv (v:=bm eF none 0) Z (az (zs:=pk) (pl:=pr) aa aa (Z.evs2 rfl) rfl rfl) fun _ Z=>?_;refine GO 1 ?_;intro _ Z;refine sw Z I 1 fun _ U=>?_;refine GO 7 ?_;intro _ Z;refine fo Z rfl rfl rfl rfl rfl U (i:=1) rfl aa aa ?_;refine⟨((none,0),none,0),by rw[d,a];rfl,?_⟩;rw[d];exact(((g.outer U).sub (List.nil_sublist _)).nilRow 111 3).nilRow 177 3
 ·
  have hz:av [H.2.2,cZ t,ik H.1 p]=0:=al Zf;rw[if_neg (fun h=>h hz)] at a;rw[aN] at hz;have z1:=hz H.2.2 bw;have z2:=hz (cZ t) bw;obtain⟨g1,g2⟩:=um (hz (ik H.1 p) bw);have Vh:=tblE_zero.1 z2;have Vw:=Vh.n
  have Jx:∀x∈t.ts,0≤x.u:=fun x hx=>by obtain⟨k,hk,rfl⟩:=List.getElem_of_mem hx;exact(Vh.ts k hk).u.1
  rw[T] at z1;obtain⟨Vj,Vs,Vi⟩:=mY z1
  have Vk:H.1=dM r.rs:=by rw[T,Vi]
  have Q:=(lf Vs).2;have Vg:∀x∈dM r.rs,FewE x.e:=mN;rw[←Vk] at Q Vg;refine wp_skip (ai (aj ?_));apply aK Z [false,false,true] _ aa
  case h=>
   refine qv (v:=bm r A c) Z (fun X q=>ah aa aa (Z.ev rfl) ((I.grow q).cellsAll (i:=3) rfl)) fun _ Z=>?_;refine GO 2 ?_;intro _ Z;apply eU (k:=2) (deps:=[]) (R:=OwnB _ _ _ _ _) Z rfl rfl rfl OwnB.stable (fun X q hΦ=>pW (aw a6 (Z.evs rfl) rfl) (l9 p PA pc _ (((I.grow q).rdBase C o Vm).mono (Nat.le_trans o (I.grow q).size)) Vn) q.size);intro Vt _ Z;refine aT fun _ Zd Zg=>?_;have U:=I.grow Zd;have Zb:=aD Zg (k:=2) rfl;obtain⟨E,B,rfl,Zb⟩:=Zb;have U:=I.add Zd (e:=.row _ _ _ _ _) (aZ Zb (Nat.zero_le _)) (fun b hb=>Zb.lt b hb);refine sv Z (az (zs:=[ae 0,ae 0,ae 0,ae 0,ae 0,ae 0,ae 0,.slice none 0 0,ae 0,.slice none 0 0,ae 0]) (pl:=[(0,9),(9,1),(10,1)]) aa aa (Z.evs2 rfl) rfl rfl) fun _ Z=>?_;refine nb Z rfl rfl U fun Vf _ _ Zl Z U=>GO 7 ?_;intro _ Z;refine sv (v:=cc t M O L P) Z (ah aa aa (Z.ev rfl) (U.cellsAll (i:=4) rfl)) fun _ Z=>?_;refine cT Z (wn rfl) (aw a6 (Z.evs rfl) rfl) rfl rfl U (lF H.1 z.1 z.2 t M O L P _ (U.rdOf (i:=2) rfl) ((U.rdBase C o Jz).mono (Nat.le_trans o U.size)) Q J ab Jx) fun Vv _ _ Z U=>?_;refine GO 12 ?_;intro _ Z;refine ak (Z.ev rfl) (fun Zh=>?_) (fun Zh=>?_)
   ·
    have y:vL H.1 t=0:=al Zh;rw[if_neg (fun h=>h y)] at a;have Vl:KU H.1 A r.rs 0 ⟨r,false,A,c,p,E,B,0⟩:=⟨⟨Vj,g1,g2,Int.le_refl _,Int.le_refl _⟩,fun _=>⟨rfl,rfl⟩⟩;refine GO 3 ?_;intro _ Z;refine sv (v:=cc t M O L P) Z (ah aa aa (Z.ev rfl) (U.cellsAll (i:=5) rfl)) fun _ Z=>?_;replace U:=jZ (s:=⟨r,false,A,c,p,E,B,0⟩) (St.pull' (St.pull' (St.addNil (St.pull' (St.pull' (St.pull' (St.pull' (St.pull' (St.pull' (U.sub (aB 126)) 5 rfl) 5 rfl) 5 rfl) 5 rfl) 5 rfl) 5 rfl)) 2 rfl) 2 rfl);have Jv:=U.lowOf (fun f hf=>⟨f,hf,fun _ h=>h⟩);refine gu (L1:=[rU Vf ⟨r,false,A,c,p,E,B,0⟩]) (V:=fun _=>ae _) Z (wn rfl) (aw a6 (Z.evs rfl) rfl) rfl rfl U (EB Vf H.1 z.1 z.2 t M O L P ⟨r,false,A,c,p,E,B,0⟩ A r.rs _ _ _ (Vp.both (U.rdOf (i:=1) rfl)) ((U.rdBase C o Jz).mono o) ((U.rdBase C o Ve).mono o) Q J ab Jx Vg Vl y Jv U.size (St.frontL (L2:=[_,_,_,_]) U)) fun j _ _ Z Ze U=>?_;refine GO 1 ?_;intro _ Z;rw[show kz H.1 t (⟨r,false,A,c,p,E,B,0⟩:UdS).pl=W from Jw.symm] at Z Ze;replace U:=rF U;refine GO 9 ?_;intro _ Z;refine ak (Z.ev rfl) (fun S=>?_) (fun S=>?_)
    ·
     have hne:W.2≠0:=al S
     have d:G=(eF,[],0):=by rw[D,if_pos (by rw[a];exact hne)]
     refine aj (aq ?_);refine sv (v:=bm eF none 0) Z (az (zs:=pk) (pl:=pr) aa aa (Z.evs2 rfl) rfl rfl) fun _ Z=>?_;refine GO 1 ?_;intro _ Z;refine sw Z U 4 fun _ U=>?_;refine GO 7 ?_;intro _ Z;refine fo Z rfl rfl rfl rfl rfl U (i:=4) rfl aa aa ?_;refine⟨((none,0),none,0),by rw[d,a];rfl,?_⟩;rw[d];exact(((g.outer U).sub (List.nil_sublist _)).nilRow 111 3).nilRow 177 3
    ·
     have hne:W.2=0:=al S;obtain⟨Vq,F⟩:=Ze hne
     have d:G=(j.r,j.p,j.n):=by
      rw[D,if_neg (by rw[a];exact fun h=>h hne),←show j.pl=W.1 from Vq];rfl
     have Vc:=F5 U (i:=2) rfl C o (fun ho=>by rw[(F.own ho).1,(F.own ho).2];exact Ve);refine GO 8 ?_;intro _ Z;refine vf Z 7 7 fun _ Z=>?_;refine GO 1 ?_;intro _ Z;refine nP Z (wn rfl) (aw a6 (Z.evs rfl) rfl) rfl rfl U ((mm j.r.rs j.A j.c _ Vc F.k.len).mono fun e X' ⟨A',c',h1,_,h2,h3⟩=>⟨A',c',h1,h2,h3⟩) (Nat.le_refl _) fun Vd Jy _ _ Z U=>?_;refine GO 2 ?_;intro _ Z;refine vf Z 7 7 fun _ Z=>?_;refine aS Z (wn rfl) ⟨rfl,rfl⟩ (Z.ev rfl) (Z.ev rfl) rfl aa U (i:=1) rfl rfl rfl fun _ U=>?_;refine ag (ai (aj ?_));apply gB (m:=12) Z (St.domAt U (i:=5) rfl) 0 [false,false,false,false,false,false,false,false,false,false,false,false,true,false] _ aa
     case h=>
      refine GO 3 ?_;intro _ Z;refine qv (v:=bm j.r Vd Jy) Z (fun X q=>ah aa aa (Z.ev rfl) ((U.growO (i:=5) rfl q).cellsOf (i:=1) rfl 0 9)) fun _ Z=>?_;refine GO 2 ?_;intro _ Z;refine qv Z (fun X q=>fx 9 9 (Z.ev rfl)) fun _ Z=>?_;refine qv Z (fun X q=>lx (Z.ev rfl) ((U.growO (i:=5) rfl q).cell (i:=1) rfl rfl)) fun _ Z=>?_;refine GO 2 ?_;intro _ Z;refine qv Z (fun X q=>fx 10 10 (Z.ev rfl)) fun _ Z=>?_;refine qv Z (fun X q=>lx (Z.ev rfl) ((U.growO (i:=5) rfl q).cell (i:=1) rfl rfl)) fun _ Z=>?_;refine GO 2 ?_;intro _ Z;apply iw (k:=12) (deps:=[]) (R:=IsBox _ _ _) Z rfl rfl IsBox.stable (fun X q hΦ=>ij rfl (Z.ev rfl) (Z.ev rfl) rfl aa ((U.grow q).at_ (i:=5) rfl) rfl rfl);intro Vb;refine k5 fun _ Zi Zj=>?_;have U:=U.growBox (i:=5) (v:=Vb) rfl Zi (aD Zj (k:=12) rfl);refine GO 5 ?_;intro _ Z;refine fo Z rfl rfl rfl rfl rfl U (i:=5) rfl aa aa ?_;refine⟨((Vd,Jy),j.PA,j.pc),by rw[d,a,hne];rfl,?_⟩;rw[d];exact g.outer (St.pull' (St.pull' (U.sub (aB 5)) 1 rfl) 1 rfl)
     case hB=>kernel_rfl
     case hst=>rfl
   ·
    have y:vL H.1 t≠0:=al Zh;rw[if_pos y] at a
    have d:G=(eF,[],0):=by rw[D,if_pos (by rw[a];exact y)]
    refine GO 9 ?_;intro _ Z;refine ak (Z.ev rfl) (fun S=>?_) (fun S=>?_)
    ·
     refine aj (aq ?_);refine sv (v:=bm eF none 0) Z (az (zs:=pk) (pl:=pr) aa aa (Z.evs2 rfl) rfl rfl) fun _ Z=>?_;refine GO 1 ?_;intro _ Z;refine sw Z U 4 fun _ U=>?_;refine GO 7 ?_;intro _ Z;refine fo Z rfl rfl rfl rfl rfl U (i:=4) rfl aa aa ?_;refine⟨((none,0),none,0),by rw[d,a];rfl,?_⟩;rw[d];exact(((g.outer U).sub (List.nil_sublist _)).nilRow 111 3).nilRow 177 3
    ·
     exact absurd (al S) y
  case hB=>kernel_rfl
  case hst=>rfl
end Go.Proofs.YtcfdpfmchchkaaaGreatDoor
