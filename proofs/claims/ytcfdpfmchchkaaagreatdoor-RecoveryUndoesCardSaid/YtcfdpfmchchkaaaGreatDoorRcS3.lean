/- Chapter 22, plain -/
import Derived.Test.YtcfdpfmchchkaaaGreatDoorRcS2
namespace Go.Proofs.YtcfdpfmchchkaaaGreatDoor
set_option maxHeartbeats 20000000
set_option maxRecDepth 4000
set_option linter.unusedVariables false
set_option linter.unusedSimpArgs false
open Go.RowKit Go.Sort Go.Shelf
theorem H8:∀{us:List Los} {b:Los},fz us=some b→b∈us
 | [],b,h=>by cases h
 | x::l,b,h=>by
  rw[fz] at h
  split at h
  · cases h;exact List.mem_cons_self
  · rename_i y a
    split at h
    · cases h;exact List.mem_cons_of_mem _ (H8 a)
    · cases h;exact List.mem_cons_self
theorem Da (l:List Rcd) (Q:Nat→Int→Prop):∀(f:Nat) (us:List Los),(∀u∈us,Q u.j u.i)→∀s∈(plnG l f us).1,Q s.j s.r.e.t∧cb s.r.e=true∧s.z=decide (bE s.r.e=0):=by
 intro f
 induction f with
 | zero=>
  intro us c s h
  cases hb:fz us with
  | none=>rw[dm (.inl hb)] at h;cases h
  | some b=>
   by_cases a:b.u=0
   · rw[dm (.inr ⟨b,hb,a⟩)] at h;cases h
   by_cases hr:∃r,cz l b.u=some r∧(cb r.e=true∧r.e.t=b.i)
   · obtain⟨r,hf,hr⟩:=hr
     rw[ly hb a hf hr] at h;cases h
   · rw[gj hb a (by
      cases hf:cz l b.u with
      | none=>exact .inl rfl
      | some r=>exact .inr ⟨r,rfl,fun d=>hr ⟨r,hf,d⟩⟩)] at h;cases h
 | succ f ih=>
  intro us c s h
  cases hb:fz us with
  | none=>rw[dm (.inl hb)] at h;cases h
  | some b=>
   by_cases a:b.u=0
   · rw[dm (.inr ⟨b,hb,a⟩)] at h;cases h
   by_cases hr:∃r,cz l b.u=some r∧(cb r.e=true∧r.e.t=b.i)
   · obtain⟨r,hf,hr⟩:=hr
     rw[k7 hb a hf hr] at h
     split at h
     · cases h
     · rcases List.mem_cons.1 h with h | h
       · rw[h]
         exact⟨by show Q b.j r.e.t;rw[hr.2];exact c b (H8 hb),hr.1,rfl⟩
       · refine ih _ (fun u g=>?_) s h
         unfold pG at g;obtain⟨v,k,rfl⟩:=List.mem_map.1 g;have:=c v k
         split
         · exact this
         · exact this
   · rw[gj hb a (by
      cases hf:cz l b.u with
      | none=>exact .inl rfl
      | some r=>exact .inr ⟨r,rfl,fun d=>hr ⟨r,hf,d⟩⟩)] at h;cases h
theorem yK:∀{ts:List Trn} {j:Nat} {b:Los},b∈gE j ts→j≤b.j∧∃x,ts[b.j-j]? = some x∧x.c=false∧x.i=b.i
 | [],j,b,h=>by cases h
 | x::ts,j,b,h=>by
  rw[gE] at h
  have a:b∈gE (j+1) ts→j≤b.j∧∃y,(x::ts)[b.j-j]? = some y∧y.c=false∧y.i=b.i:=fun h=>by
   obtain⟨e,y,d,h3⟩:=yK h;refine⟨by omega,y,?_,h3⟩;rw[show b.j-j=(b.j-(j+1))+1 by omega];exact d
  cases hc:x.c with
  | true=>rw[hc] at h;exact a (al h)
  | false=>
   rw[hc] at h;rcases List.mem_cons.1 (show b∈_::_ from al h) with h | h
   · refine⟨by rw[h];exact Nat.le_refl _,x,?_,hc,by rw[h]⟩
     rw[h];show(x::ts)[j-j]? = _;rw[Nat.sub_self];rfl
   · exact a h
theorem Dz {l:List Rcd} {t:Tbl} {s:Stp} (h:s∈(iQ l t).1):(∃x,t.ts[s.j]? = some x∧x.c=false∧x.i=s.r.e.t)∧cb s.r.e=true∧s.z=decide (bE s.r.e=0):=
 Da l (fun j i=>∃x,t.ts[j]? = some x∧x.c=false∧x.i=i) 100 _ (fun u b=>by
  obtain⟨_,x,a,d⟩:=yK b;rw[Nat.sub_zero] at a
  exact⟨x,a,d⟩) s h
def qP (s:Upl) (x:Trn):Upl × Int:=if (!x.c&&x.u==0)=true then iO s x.i x.l else (s,0)
theorem uq:∀(ts:List Trn) (s:Upl),fI lC s (gN ts)=fI qP s ts
 | [],s=>rfl
 | x::ts,s=>by
  unfold gN;rw[List.filter_cons]
  cases hc:x.c with
  | true=>
   rw[if_neg au,fI]
   have e:qP s x=(s,0):=by unfold qP;rw[hc];rfl
   rw[e];simp only[ne_eq,not_true_eq_false,if_false];exact uq ts s
  | false=>
   rw[if_pos au,List.map_cons,fI,fI]
   have e:qP s x=lC s ⟨x.i,x.l,x.u⟩:=by
    unfold qP lC;rw[hc];by_cases h:x.u=0
    · rw[if_pos (show(⟨x.i,x.l,x.u⟩:Lsr).u=0 from h),if_pos (by rw[h];rfl)]
    · rw[if_neg (show ¬(⟨x.i,x.l,x.u⟩:Lsr).u=0 from h),if_neg (al h)]
   rw[e]
   split
   · rfl
   · exact uq ts _
structure TsI (ts0 ts:List Trn):Prop where
 len:ts.length=ts0.length
 i:∀k (h:k<ts.length) (h':k<ts0.length),ts[k].i=ts0[k].i
 l:∀k (h:k<ts.length),0≤ts[k].l∧ts[k].l≤2147483647
 c:∀k (h:k<ts.length) (h':k<ts0.length),ts0[k].c=true→ts[k]=ts0[k]
def FW (x:Trn) (n:Int):Trn:=⟨x.i,n,x.u,x.c⟩
theorem TsI.turn {ts0 ts:List Trn} (h:TsI ts0 ts) {j:Nat} (m:j<ts.length) (d:j<ts0.length) (g:ts0[j].c=false) {n:Int} (o:0≤n∧n≤2147483647):TsI ts0 (ts.set j (FW ts[j] n)):=by
 refine⟨by rw[List.length_set];exact h.len,fun k f b=>?_,fun k f=>?_,fun k f b a=>?_⟩
 · rw[List.getElem_set]
   split
   · rename_i e;subst e;exact h.i j m d
   · exact h.i k _ b
 · rw[List.getElem_set]
   split
   · exact o
   · exact h.l k _
 · rw[List.getElem_set]
   split
   · rename_i e;subst e;rw[g] at a;cases a
   · exact h.c k _ b a
theorem TsI.init {t:Tbl} (h:TblOk t):TsI t.ts t.ts:=⟨rfl,fun _ _ _=>rfl,fun k a=>by have:=(h.ts k a).l;omega,fun _ _ _ _=>rfl⟩
theorem y5 {ts:List Trn} {j:Nat} (a:j<ts.length):jo ts j=ts[j].l:=by unfold jo;rw[List.getElem?_eq_getElem a]
theorem Ca {ts:List Trn} {j:Nat} (a:j<ts.length) (n:Int):(fun k=>if k=j then n else jo ts k)=jo (ts.set j (FW ts[j] n)):=by
 funext k
 unfold jo;rw[List.getElem?_set];by_cases e:k=j
 · subst e
   rw[if_pos rfl,if_pos rfl,if_pos a];rfl
 · rw[if_neg e,if_neg (fun h=>e h.symm)]
theorem zL {ts:List Trn} {j:Nat} (n:Int) (h:n=jo ts j):(fun k=>if k=j then n else jo ts k)=jo ts:=by
 funext k
 by_cases e:k=j
 · rw[if_pos e,e,h]
 · rw[if_neg e]
theorem AZ {σ:Type} (b:lD σ) (g:Nat→Int) (s:σ) {a:List Stp} {j:Nat} (c:j<a.length):jA b g s (a.drop j) =
 if (b s ⟨a[j].r.e.t,g a[j].j,bE a[j].r.e⟩ a[j].r).2.2≠0 then (s,(b s ⟨a[j].r.e.t,g a[j].j,bE a[j].r.e⟩ a[j].r).2.2)
  else jA b (fun k=>if k=a[j].j then (b s ⟨a[j].r.e.t,g a[j].j,bE a[j].r.e⟩ a[j].r).2.1.l else g k) (b s ⟨a[j].r.e.t,g a[j].j,bE a[j].r.e⟩ a[j].r).1 (a.drop (j+1)):=by
 rw[List.drop_eq_getElem_cons c,jA]
theorem Cx {σ:Type} (c:lD σ) (g:Nat→Int) (s:σ) {a:List Stp} {j:Nat} (b:a.length≤j):jA c g s (a.drop j)=(s,0):=by
 rw[List.drop_of_length_le b,jA]
theorem EY {r:RngP} (h:OkP r) (x:Lge):0≤gC r x∧gC r x≤2147483647:=by
 have:=h.h.nx;unfold gC
 split<;>omega
open Go.RowKit Go.Sort Go.Shelf
theorem Ah {e:Lge} (h:cA e=0):(aQ e).size≤3000:=by
 have b:=(oy h).2.2.2;obtain⟨d,a⟩:=b
 have c:e.o.o.size≤512∧e.o.n.size≤512:=by unfold fX at a;omega
 unfold aQ;rw[if_pos h,cm];unfold jT dG;simp only[List.length_append,cu,aO];rw[gx _ 5 ab];omega
theorem FX {i l:Int} (b:0≤i∧i≤9999) (a:0≤l∧l≤2147483647):cA (dk i l)=0:=by
 unfold cA;rw[aN];simp only[List.mem_cons,List.not_mem_nil,or_false,forall_eq_or_imp,forall_eq];refine⟨(aH au).2 rfl,(aH au).2 ?_,(aH au).2 rfl,(aH au).2 rfl,rfl⟩;unfold jn;simp only[Bool.and_eq_true,inB_true];exact⟨⟨⟨b,a⟩,by show(0:Int)≤0∧(0:Int)≤2147483647;omega⟩,by show(0:Int)≤0∧(0:Int)≤600;omega⟩
theorem Fb {x:Lsr} {e:Lge} (h:cA e=0) (c:0≤x.i∧x.i≤9999) (b:0≤x.l∧x.l≤2147483647):cA (cS x e)=0:=by
 obtain⟨_,d,h3,a⟩:=kY h;unfold cA;rw[aN];simp only[List.mem_cons,List.not_mem_nil,or_false,forall_eq_or_imp,forall_eq];refine⟨(aH au).2 rfl,(aH au).2 ?_,(aH au).2 ?_,(aH au).2 rfl,(gv _).2 (Eg ((gv _).1 (mM h))).1⟩
 · unfold jn
   simp only[Bool.and_eq_true,inB_true];exact⟨⟨⟨c,b⟩,d⟩,a⟩
 · show((e.p==0||true)&&true&&true)=true
   simp
theorem Ch {r:RngP} {x:Lge} (a:OkP r) (b:cA x=0):cY r x=fw r (aQ x):=by rw[zr b,if_pos (ok_iff.2 a)]
def nW (r:RngP) (A:Option Addr) (c:Nat) (P b a:Value):List Value:=[ae r.pg,ae r.r.s,ae r.r.c,ae r.r.o,ae r.e.s,ae r.e.c,ae r.e.o,.slice A r.rs.length c,ae r.nx,P,b,a]
theorem DU (b:Nat) (r:RngP) (A:Option Addr) (c:Nat) (P H G:Value) (x:Lge) (M:List Nat) (w:World) (m:cA x=0) (E:OkP r) (Q:St M w w [.box b (nW r A c P H G).toArray 197,.row (.slice A r.rs.length c) r.rs.length 177 3 (aW r.rs)]) :
 Calls Tryz.prog 115 #[.pointer (some ⟨b,0,none⟩),cy x] w fun e W=>∃i:Option Addr × Nat,e=.returned (.tuple #[ae (gC r x),ae (cY r x)])∧St M w W [.box b (nW (fF r x) i.1 i.2 P H G).toArray 197,.row (.slice i.1 (fF r x).rs.length i.2) (fF r x).rs.length 177 3 (aW (fF r x).rs)]:=by
 have u:∀X,bu 120 #[cy x] X (.string (aQ x)):=fun X=>by
  have:=nG x X m;unfold aQ;rw[if_pos m];exact this
 have d:=Ch E m;have Jv:=Ah m;refine an (N:=28) Tryz.func115 rfl rfl rfl (fun _ m=>?_);have U:=Q;refine aj (aq ?_);refine nb m rfl rfl U fun b3 _ _ Zj Z U=>GO 5 ?_;intro _ h3;apply eG h3 (fun _=>False) [] [(12,73)] [false,false,false,false,false,false,true,true,true,true,true,true,true,true] _ aa bG
 case h=>
  refine GO 3 ?_;intro _ Z;refine qv (v:=bm r A c) Z (fun X f=>ah aa aa (Z.ev rfl) ((U.grow (Grw.below f)).cellsOf (i:=1) rfl 0 9)) fun _ Z=>?_;refine qv (v:=cy x) Z (fun X f=>ah aa aa (Z.ev rfl) ((U.grow (Grw.below f)).cellsAll (i:=0) rfl)) fun _ Z=>?_;refine nH Z rfl (fun X f=>u _) fun _ Z=>?_;refine ax ?_;apply cE (O:=(fun _=>False)) (k:=6) (deps:=[]) (R:=RowU _ _ _ _ _ _) Z rfl rfl rfl bG RowU.stable bG ?h3
  case hx=>exact fun X f a=>uc (aw a6 (Z.evs rfl) rfl) (su r A c (aQ x) _ ((U.grow (Grw.below f)).rdOf (i:=2) rfl) E ab) f.size
  case h3=>exact ia (RowU.newT au)
  intro S _ l;apply jh (k:=7) (deps:=[6]) (kx:=6) (src:=16) l rfl (.inl rfl) rfl rfl ⟨rfl,rfl⟩ rfl;intro v9 _ D;apply gP (k:=8) (deps:=[6,7]) (kx:=7) (src:=9) (i:=0) D rfl rfl rfl rfl ⟨rfl,rfl⟩ rfl
  case hx=>
   intro X a;obtain⟨_,_,d,_⟩:=(aM (k:=6) a rfl rfl);exact⟨_,_,((MovS.get l rfl (aM (k:=7) a rfl rfl)).trans d),rfl⟩
  intro J _ F;apply gP (k:=9) (deps:=[6,7]) (kx:=7) (src:=9) (i:=1) F rfl rfl rfl rfl ⟨rfl,rfl⟩ rfl
  case hx=>
   intro X a;obtain⟨_,_,d,_⟩:=(aM (k:=6) a rfl rfl);exact⟨_,_,((MovS.get l rfl (aM (k:=7) a rfl rfl)).trans d),rfl⟩
  intro V _ I;apply gP (k:=10) (deps:=[6,7]) (kx:=7) (src:=9) (i:=2) I rfl rfl rfl rfl ⟨rfl,rfl⟩ rfl
  case hx=>
   intro X a;obtain⟨_,_,d,_⟩:=(aM (k:=6) a rfl rfl);exact⟨_,_,((MovS.get l rfl (aM (k:=7) a rfl rfl)).trans d),rfl⟩
  intro T _ Z;apply cE (O:=(fun _=>False)) (k:=11) (deps:=[]) (R:=NewAny _ 9 _) Z rfl rfl rfl bG NewAny.stable bG (ia NewAny.newT)
  case hx=>exact fun X f a=>kN (dV (z:=.agg gU) aa) f.size rfl
  intro v6 _ p;apply gF (k:=12) (deps:=[6,7,8,11]) (kx:=11) (x:=6) (y:=17) (Y:=vo 17) p rfl ⟨rfl,rfl⟩ rfl bG ⟨rfl,rfl⟩ (p.slot 17 _ rfl) (sB (ky:=8) ⟨rfl,rfl⟩) rfl rfl (n:=9) aa bG
  case hx=>
   intro X f a;obtain⟨_,_,d,_⟩:=(aM (k:=6) a rfl rfl);subst d;obtain rfl:=MovS.get l rfl (aM (k:=7) a rfl rfl);obtain rfl:=ExtS.get D rfl rfl (aM (k:=8) a rfl rfl);exact⟨(aM (k:=11) a rfl rfl),rfl,rfl⟩
  intro q;apply jh (k:=13) (deps:=[6,7,9]) (kx:=9) (src:=18) p rfl (.inr rfl) rfl rfl ⟨rfl,rfl⟩ rfl;intro v7 _ Z;refine iA (O:=(fun _=>False)) bG fun _ L j=>?_;obtain⟨o,t,rfl,s⟩:=aD j (k:=6) rfl;obtain rfl:=MovS.get l rfl (aD j (k:=7) rfl);obtain rfl:=ExtS.get D rfl rfl (aD j (k:=8) rfl);obtain rfl:=ExtS.get F rfl rfl (aD j (k:=9) rfl);obtain rfl:=ExtS.get I rfl rfl (aD j (k:=10) rfl);obtain⟨b6,rfl,K,B⟩:=StoY.slot (v:=q) p rfl rfl (aD j (k:=12) rfl);obtain rfl:=MovS.get p rfl (aD j (k:=13) rfl);have U:=U.newBoxRow (Grw.below L) B K s au;refine GO 10 ?_;intro _ Z;refine ak (Z.ev rfl) (fun C=>?_) (fun C=>?_)
  ·
   have g:fw r (aQ x)=0:=al C
   have e2:gC r x=r.nx+1:=by unfold gC;rw[d,if_pos g]
   have e3:fF r x=fT r (aQ x):=by unfold fF fT;rw[d,if_pos g,if_pos g]
   rw[if_pos g] at Z;refine GO 2 ?_;intro _ Z;refine sv (v:=bm (fT r (aQ x)) o t) Z (ah aa aa (Z.ev rfl) (U.cellsAll (i:=0) rfl)) fun _ Z=>?_;refine GO 2 ?_;intro _ Z;refine aS Z (wn rfl) ⟨rfl,rfl⟩ (Z.ev rfl) (Z.ev rfl) rfl aa U (i:=3) rfl rfl rfl fun _ U=>GO 11 ?_;intro _ Z;refine bU Z rfl rfl rfl ?_;refine⟨(o,t),by rw[d,e2];rfl,?_⟩;rw[e3];exact(St.pull' (U.sub (aB 10)) 1 rfl)
  ·
   have g:fw r (aQ x)≠0:=al C
   have e2:gC r x=0:=by unfold gC;rw[d,if_neg g]
   have e3:fF r x=r:=by unfold fF;rw[d,if_neg g]
   rw[if_neg g] at Z;refine GO 11 ?_;intro _ Z;refine bU Z rfl rfl rfl ?_;refine⟨(A,c),by rw[d,e2];rfl,?_⟩;rw[e3];exact(St.pull' (St.pull' (U.sub (aB 24)) 1 rfl) 1 rfl)
 case hB=>kernel_rfl
theorem zw (b:Nat) (r:RngP) (A:Option Addr) (c:Nat) (P d a:Value) (x:Lge) {M:List Nat} {w X:World} {L:List Ent} (k:cA x=0) (g:OkP r) (f:St M w X (.box b (nW r A c P d a).toArray 197::.row (.slice A r.rs.length c) r.rs.length 177 3 (aW r.rs)::L)) :
 Calls Tryz.prog 115 #[.pointer (some ⟨b,0,none⟩),cy x] X fun e X'=>∃i:Option Addr × Nat,e=.returned (.tuple #[ae (gC r x),ae (cY r x)])∧St M w X' (.box b (nW (fF r x) i.1 i.2 P d a).toArray 197::.row (.slice i.1 (fF r x).rs.length i.2) (fF r x).rs.length 177 3 (aW (fF r x).rs)::L):=
 (DU b r A c P d a x _ X k g (St.frontL (L1:=[_,_]) f)).mono fun e X' ⟨i,j,h⟩=>⟨i,j,St.outer2 (L1:=[_,_]) f h⟩
theorem BV (b:Nat) (r:RngP) (A:Option Addr) (c:Nat) (P:Value) (ts:List Trn) (d:Option Addr) (a:Nat) (h:Value) (n:Nat) (j:ts.length=n) (k:Nat) (f:k<ts.length) (M:List Nat) (w:World) (u:0≤ts[k].i∧ts[k].i≤9999) (q:0≤ts[k].l∧ts[k].l≤2147483647) (B:ts.length≤1000) (p:OkP r)
 (g:St M w w [.box b (nW r A c P (.slice d n a) h).toArray 197,.row (.slice A r.rs.length c) r.rs.length 177 3 (aW r.rs),.row (.slice d n a) n 116 4 (ts.flatMap bW)]) :
 Calls Tryz.prog 113 #[.pointer (some ⟨b,0,none⟩),ae k] w fun e s=>∃i:Option Addr × Nat,e=.returned (ae (cY r (dk ts[k].i ts[k].l)))∧St M w s [.box b (nW (fF r (dk ts[k].i ts[k].l)) i.1 i.2 P (.slice d n a) h).toArray 197,.row (.slice i.1 (fF r (dk ts[k].i ts[k].l)).rs.length i.2) (fF r (dk ts[k].i ts[k].l)).rs.length 177 3 (aW (fF r (dk ts[k].i ts[k].l)).rs),.row (.slice d n a) n 116 4 (ts.flatMap bW)]:=by
 subst j;obtain⟨b1,o1,rfl,_⟩:=(g.rdOf (i:=2) rfl).opened (aF bq au ab);obtain rfl:o1=0:=lg (g.at_ (i:=2) rfl);refine an (N:=27) Tryz.func113 rfl rfl rfl (fun _ Y=>?_);have Z:=g;refine GO 9 ?_;intro _ Y;refine vf Y 10 10 fun _ Y=>?_;refine vf Y 0 10 fun _ Y=>?_;refine GO 2 ?_;intro _ Y;refine sv Y (ar (i:=k) (sz:=4) dT aa (Y.ev rfl) (Y.ev rfl) ab ab rfl) fun _ Y=>?_;refine sv (v:=eX ts[k]) Y (ah aa aa (Y.ev rfl) (aL bq (Z.rdOf (i:=2) rfl) f)) fun _ Y=>?_;refine na (.agg lZ) Y rfl Z fun z _ _ D Y Z=>sw Y Z 0 fun _ Z=>?_;refine GO 9 ?_;intro _ Y;refine sv (v:=cy (dk ts[k].i ts[k].l)) Y (az (zs:=km) (pl:=j7) aa aa (Y.evs2 rfl) rfl rfl) fun _ Y=>?_;refine dJ Y (wn rfl) (aw a6 (Y.evs rfl) rfl) rfl rfl (zw b r A c P (.slice (some ⟨b1,0,none⟩) ts.length a) h (dk ts[k].i ts[k].l) (FX u q) p (St.pull' (St.pull' (St.pull' Z 3 rfl) 3 rfl) 3 rfl)) fun y x ⟨t,m,o⟩=>⟨_,m,fun _ C=>?_⟩;refine GO 14 ?_;intro _ Y;refine aC Y rfl rfl ?_;exact⟨t,rfl,(St.pull' (St.pull' (St.pull' (o.sub (aB 7)) 2 rfl) 2 rfl) 2 rfl)⟩
theorem pP (b:Nat) (r:RngP) (A:Option Addr) (c:Nat) (P:Value) (ts:List Trn) (d:Option Addr) (a:Nat) (g:Value) (n:Nat) (j:ts.length=n) (k:Nat) (f:k<ts.length) {M:List Nat} {w X:World} {L:List Ent} (t:0≤ts[k].i∧ts[k].i≤9999) (q:0≤ts[k].l∧ts[k].l≤2147483647) (s:ts.length≤1000) (o:OkP r)
 (m:St M w X (.box b (nW r A c P (.slice d n a) g).toArray 197::.row (.slice A r.rs.length c) r.rs.length 177 3 (aW r.rs)::.row (.slice d n a) n 116 4 (ts.flatMap bW)::L)) :
 Calls Tryz.prog 113 #[.pointer (some ⟨b,0,none⟩),ae k] X fun e X'=>∃i:Option Addr × Nat,e=.returned (ae (cY r (dk ts[k].i ts[k].l)))∧St M w X' (.box b (nW (fF r (dk ts[k].i ts[k].l)) i.1 i.2 P (.slice d n a) g).toArray 197::.row (.slice i.1 (fF r (dk ts[k].i ts[k].l)).rs.length i.2) (fF r (dk ts[k].i ts[k].l)).rs.length 177 3 (aW (fF r (dk ts[k].i ts[k].l)).rs)::.row (.slice d n a) n 116 4 (ts.flatMap bW)::L):=
 (BV b r A c P ts d a g n j k f _ X t q s o (St.frontL (L1:=[_,_,_]) m)).mono fun e X' ⟨i,p,h⟩=>⟨i,p,St.outer2 (L1:=[_,_,_]) m h⟩
open Go.RowKit Go.Sort Go.Shelf
theorem St.add3 {M:List Nat} {w j X:World} {L:List Ent} {i e2 e3:Ent} (k:St M w j L) (h:St M w X (e2::i::L)) (g:e3.ok X) (e:∀b,e3.dom b→j.heap.size≤b∧b<X.heap.size) (hne:∀b,e3.dom b→¬e2.dom b) (d:∀b,e3.dom b→¬i.dom b):St M w X (e3::e2::i::L):=by
 refine⟨h.os,h.tape,h.output,h.size,h.block,fun f hf=>?_,fun f hf b a=>?_,List.pairwise_cons.2 ⟨fun f hf b a c=>?_,h.sep⟩⟩
 · rcases List.mem_cons.1 hf with rfl | hf
   · exact g
   · exact h.ok f hf
 · rcases List.mem_cons.1 hf with rfl | hf
   · exact⟨.inl (Nat.le_trans k.size (e b a).1),(e b a).2⟩
   · exact h.new f hf b a
 · rcases List.mem_cons.1 hf with rfl | hf
   · exact hne b a c
   · rcases List.mem_cons.1 hf with rfl | hf
     · exact d b a c
     · have:=(e b a).1
       have:=(k.new f hf b c).2;omega
theorem St.to4 {M:List Nat} {w X:World} {L:List Ent} {a b c d a' b' c' d':Ent} (h:St M w X (a::b::c::d::L)) (f:a=a') (i:b=b') (e:c=c') (g:d=d'):St M w X (a'::b'::c'::d'::L):=by
 subst f i e g;exact h
def RcO (B:Nat) (r:RngP) (i:Option Addr × Nat) (X:World):Prop:=X.ownsRow B 177 3 (.slice i.1 r.rs.length i.2) r.rs.length (aW r.rs)
theorem RcO.grow {B:Nat} {r:RngP} (i:Option Addr × Nat) (X X':World) (h:RcO B r i X) (a:Below X.heap.size X X'):RcO B r i X':=cV h a
theorem Ad (r:RngP) (A:Option Addr) (c:Nat) (d:Nat) (w:World) (hB:d≤w.heap.size) (hr:Rd w w.heap.size A (aW r.rs)) (a:r.rs.length≤1000) :
 Calls Tryz.prog 44 #[bm r A c] w fun e b=>∃i:Option Addr × Nat,e=.returned (bm r i.1 i.2)∧RcO d r i b∧Below w.heap.size w b:=
 (nO r A c w hr a).mono fun e b ⟨j,c',g,h,f⟩=>⟨(j,c'),g,aZ h hB,f⟩
structure RuS where
 j:Nat
 u:Upl
 A:Option Addr
 c:Nat
 ts:List Trn
def yA (r:RngP) (l:List Rcd) (t:Tbl) (p:List Pgp):Int:=if (iQ l t).2≠0 then (iQ l t).2 else (kz l t ⟨r,p,0⟩).2
def jf (r:RngP) (l:List Rcd) (t:Tbl) (p:List Pgp):RngP × List Pgp × Int:=if yA r l t p≠0 then (eF,[],0) else ((kz l t ⟨r,p,0⟩).1.r,(kz l t ⟨r,p,0⟩).1.p,(kz l t ⟨r,p,0⟩).1.n)
theorem xm (r:RngP) (A:Option Addr) (c:Nat) (l:List Rcd) (B:Option Addr) (d:Nat) (t:Tbl) (TA:Option Addr) (tc:Nat) (TB:Option Addr) (td:Nat) (p:List Pgp) (PA:Option Addr) (pc:Nat) (w:World)
 (hr:Rd w w.heap.size A (aW r.rs)) (hq:Rd w w.heap.size B (l.flatMap cB)) (Vo:Rd w w.heap.size TA (t.ts.flatMap bW)) (Kj:Rd w w.heap.size TB (t.ds.flatMap cN)) (hp:Rd w w.heap.size PA (p.flatMap bX))
 (hl:l.length≤1000) (hk:TblOk t) (hv:VldH l l.length) (hx:∀x∈l,FewE x.e) (Ws:OkP r) (Yi:PgsOk p) (hf:∀x∈l,fW p x=0) :
 Calls Tryz.prog 50 #[bm r A c,.slice B l.length d,cc t TA tc TB td,.slice PA p.length pc] w fun e w'=>∃i:(Option Addr × Nat) × Option Addr × Nat,e=.returned (.tuple #[bm (jf r l t p).1 i.1.1 i.1.2,.slice i.2.1 (jf r l t p).2.1.length i.2.2,ae (jf r l t p).2.2,ae (yA r l t p)]) ∧
  St [] w w' [.row (.slice i.1.1 (jf r l t p).1.rs.length i.1.2) (jf r l t p).1.rs.length 177 3 (aW (jf r l t p).1.rs),.row (.slice i.2.1 (jf r l t p).2.1.length i.2.2) (jf r l t p).2.1.length 111 3 ((jf r l t p).2.1.flatMap bX)]:=by
 have hn:=hk.n;have hm:=hk.m;have f:=Yi.n;have Kw:=Ws.h.len;have Yp:KP l 0 ⟨r,p,0⟩:=⟨Ws,Yi,hf,Int.le_refl _,Int.le_refl _⟩;have Kc:=TsI.init hk;obtain⟨E,Vv⟩:∃E,E=(iQ l t).1:=⟨_,rfl⟩;have Ys:∀s∈E,s.r∈l:=fun s hs=>w4 l 100 _ s (by rw[Vv] at hs;exact hs)
 have Ku:E.length≤100:=by rw[Vv];exact BY l 100 _
 have Yl:∀s∈E,(∃x,t.ts[s.j]? = some x∧x.c=false∧x.i=s.r.e.t)∧cb s.r.e=true∧s.z=decide (bE s.r.e=0):=fun s hs=>Dz (by rw[Vv] at hs;exact hs);have hP:=fun TA tc TB td w a b=>Al l B d t TA tc TB td w a b hl hk hv;rw[←Vv] at hP;obtain⟨Y,hY⟩:∃Y,Y=yA r l t p:=⟨_,rfl⟩;have Jw:=hY;unfold yA at Jw;obtain⟨G,hG⟩:∃G,G=jf r l t p:=⟨_,rfl⟩;have Jz:=hG;unfold jf at Jz;rw[←hY] at Jz;obtain⟨V,hV⟩:∃V,V=kz l t ⟨r,p,0⟩:=⟨_,rfl⟩;rw[←hV] at Jw Jz;have M:=hV;unfold kz at M;rw[uq,←Vv] at M;obtain⟨P,Wv⟩:∃P,P=fI qP (⟨r,p,0⟩:Upl) t.ts:=⟨_,rfl⟩;rw[←Wv] at M;rw[←hG,←hY];refine an (N:=220) Tryz.func50 rfl rfl rfl (fun _ Z=>?_);have U:=St.init w;refine aj (aq ?_);refine nb Z rfl rfl U fun b4 _ _ Jh Z U=>?_;refine nb Z rfl rfl U fun b6 _ X2 Ji Z U=>?_;refine na (.agg gU) Z rfl U fun b8 _ _ Jj Z U=>?_;refine GO 7 ?_;intro _ Z;refine sv (v:=bm eF none 0) Z (az (zs:=pk) (pl:=pr) aa aa (Z.evs2 rfl) rfl rfl) fun _ Z=>?_;refine na (.agg gU) Z rfl U fun Kz _ _ Qv Z U=>?_;refine sw Z U 0 fun _ S9=>?_;refine GO 5 ?_;intro _ Z;refine sv (v:=cc t TA tc TB td) Z (ah aa aa (Z.ev rfl) (S9.cellsAll (i:=2) rfl)) fun _ Z=>?_;refine cT Z (wn rfl) (aw a6 (Z.evs rfl) rfl) rfl rfl S9 (hP TA tc TB td _ (S9.rd0 hq) (S9.rd0 Vo)) fun Yy _ Qo Z Ze=>?_;refine GO 5 ?_;intro _ Z;obtain⟨AP,cP⟩:=Yy;refine GO 9 ?_;intro _ Z;refine ak (Z.ev rfl) (fun Zz=>?_) (fun Zz=>?_)
 ·
  have hne:(iQ l t).2≠0:=al Zz;rw[if_pos hne] at Jw
  have H:G=(eF,[],0):=by rw[Jz,if_pos (by rw[Jw];exact hne)]
  refine aj (aq ?_);refine sv (v:=bm eF none 0) Z (ah aa aa (Z.ev rfl) (Ze.cellsAll (i:=1) rfl)) fun _ Z=>?_;refine GO 1 ?_;intro _ Z;refine sw Z Ze 2 fun _ U=>?_;refine GO 7 ?_;intro _ Z;refine fo Z rfl rfl rfl rfl rfl U (i:=2) rfl aa aa ?_;refine⟨((none,0),none,0),by rw[H,Jw];rfl,?_⟩;rw[H];exact((U.sub (List.nil_sublist _)).nilRow 111 3).nilRow 177 3
 ·
  have Yt:(iQ l t).2=0:=al Zz;rw[if_neg (fun h=>h Yt)] at Jw;refine wp_skip (ai (aj ?_));apply aK Z [false,true,false,true,false] _ aa
  case h=>
   refine qv (v:=bm r A c) Z (fun X C=>ah aa aa (Z.ev rfl) ((Ze.grow C).cellsAll (i:=4) rfl)) fun _ Z=>?_;refine GO 1 ?_;intro _ Z;refine qv (v:=cc t TA tc TB td) Z (fun X C=>ah aa aa (Z.ev rfl) ((Ze.grow C).cellsAll (i:=3) rfl)) fun _ Z=>?_;refine ax ?_;apply eU (k:=1) (deps:=[]) (R:=TelI (fun i=>bm r i.1 i.2) (RcO Qo.heap.size r)) Z rfl rfl rfl (TelI.stable RcO.grow) (fun X C hΦ=>ql (aw a6 (Z.evs rfl) rfl) (Ad r A c Qo.heap.size _ C.size ((Ze.grow C).rd0 hr) ab));intro Ud _ Z;apply eU (k:=3) (deps:=[]) (R:=OwnB _ _ _ _ _) Z rfl rfl rfl OwnB.stable (fun X C hΦ=>pW (aw a6 (Z.evs rfl) rfl) (rf p PA pc _ ((Ze.grow C).rd0 hp) ab) C.size);intro Uf _ Z;refine aT fun _ Zp Zq=>?_;have U:=Ze.grow Zp;have Qa:=aD Zq (k:=1) rfl;obtain⟨Wr,rfl,Wo⟩:=Qa;have Qb:=aD Zq (k:=3) rfl;obtain⟨Vh,O,rfl,Wj⟩:=Qb;replace U:=St.add2 Ze (Ze.add Zp (e:=.row _ _ _ _ _) (aZ Wo (Nat.zero_le _)) (fun b hb=>Wo.lt b hb)) (e2:=.row _ _ _ _ _) (aZ Wj (Nat.zero_le _)) (fun b hb=>Wj.lt b hb) (qt Wo Wj au);refine cT Z (wn rfl) (aw a6 (Z.evs rfl) rfl) rfl rfl U (qV t TA tc TB td _ ((U.sub (.cons _ (.cons _ (List.Sublist.refl _)))).rd0 Vo) ((U.sub (.cons _ (.cons _ (List.Sublist.refl _)))).rd0 Kj) ab) fun Ka _ _ Z U=>?_;refine sv Z (az (zs:=[ae 0,ae 0,ae 0,ae 0,ae 0,ae 0,ae 0,.slice none 0 0,ae 0,.slice none 0 0,.slice none 0 0,.slice none 0 0]) (pl:=[(0,9),(9,1),(10,2)]) aa aa (Z.evs2 rfl) rfl rfl) fun _ Z=>?_;refine nb Z rfl rfl U fun Vc _ _ Qw Z U=>GO 1 ?_;intro _ Z;obtain⟨Vp,Jv,Vb,Va⟩:=Ka
   dsimp only at Z U
   replace U:=St.pull' (St.pull' (St.pull' (St.pull' U 3 rfl) 2 rfl) 4 rfl) 3 rfl;refine GO 14 ?_;intro _ Z;refine aV Z U [16,15,13,12,8,6,1] (fun (q:Nat × Upl × Option Addr × Nat)=>[(17,ae (q.1:Nat))]) (fun (q:Nat × Upl × Option Addr × Nat)=>q.1≤t.ts.length∧P=fI qP q.2.1 (t.ts.drop q.1)∧KP l 0 q.2.1∧q.2.1.p=p∧q.2.1.n=0) (fun q L=>(L.set 0 (.box Vc (nW q.2.1.r q.2.2.1 q.2.2.2 (.slice Vh p.length O) (.slice Vp t.ts.length Jv) (.slice Vb t.ds.length Va)).toArray 197)).set 1 (.row (.slice q.2.2.1 q.2.1.r.rs.length q.2.2.2) q.2.1.r.rs.length 177 3 (aW q.2.1.r.rs))) (fun (q:Nat × Upl × Option Addr × Nat)=>t.ts.length-q.1) ((0,(⟨r,p,0⟩:Upl),Wr.1,Wr.2)) (⟨Nat.zero_le _,Wv,Yp,rfl,rfl⟩) bC (U) ?_;intro q _ _ Zj Z U;refine GO 5 ?_;intro _ Z;refine vl Z U 8 fun _ Z=>?_;refine GO 4 ?_;intro _ Z;refine ak (Z.ev rfl) (fun Qc=>?_) (fun Qc=>?_)
   ·
    have D:q.1<t.ts.length:=by have:=of_decide_eq_true Qc;omega
    have f:=Zj.2.1;rw[ll qP D] at f;have Wd:=hk.ts q.1 D;have Kl:=Wd.i;have Kb:=Wd.l;obtain⟨b1,o1,rfl,_⟩:=Vo.opened (aF bq au ab);refine GO 7 ?_;intro _ Z;refine vl Z U 8 fun _ Z=>?_;refine GO 1 ?_;intro _ Z;refine sv Z (ar (i:=q.1) (sz:=4) dT aa (Z.ev rfl) (Z.ev rfl) ab ab rfl) fun _ Z=>?_;refine sv (v:=eX t.ts[q.1]) Z (ah aa aa (Z.ev rfl) (aL bq (U.rd0 Vo) D)) fun _ Z=>?_;refine na (.agg lZ) Z rfl U fun Kv _ _ Qx Z U=>sw Z U 0 fun _ U=>?_;refine GO 8 ?_;intro _ Z;apply a8 Z U 64 rfl 4 68
    case ht=>
     intro Qd;refine GO 4 ?_;intro _ Z;exact ag ⟨Z.midE 3,U⟩
    case hf=>
     intro Qd;refine GO 4 ?_;intro _ Z;exact ag ⟨Z.midE 3,U⟩
    case h=>
     rintro Ua Jk ⟨Qy,Qp⟩
     refine ag (ai ?_);refine ak (Qy.ev rfl) (fun Qe=>?_) (fun Qe=>?_)
     ·
      have Wb:(!t.ts[q.1].c&&t.ts[q.1].u==0)=true:=al Qe;unfold qP at f;rw[if_pos Wb] at f;refine GO 4 ?_;intro _ Z;refine dJ Z (wn rfl) (aw a6 (Z.evs rfl) rfl) rfl rfl (pP Vc q.2.1.r q.2.2.1 q.2.2.2 (.slice Vh p.length O) t.ts Vp Jv (.slice Vb t.ds.length Va) t.ts.length rfl q.1 D ab ab ab Zj.2.2.1.ok (St.pull' (St.pull' (St.pull' (St.pull' (St.pull' (St.pull' (St.pull' (St.pull' (St.pull' (St.pull' Qp 10 rfl) 10 rfl) 10 rfl) 10 rfl) 10 rfl) 10 rfl) 10 rfl) 10 rfl) 10 rfl) 10 rfl)) fun e9 Jl ⟨i9,Wa,Qf⟩=>⟨_,Wa,fun _ Jm=>?_⟩;refine GO 9 ?_;intro _ Z;refine ak (Z.ev rfl) (fun Qg=>?_) (fun Qg=>?_)
      ·
       have hne:(iO q.2.1 t.ts[q.1].i t.ts[q.1].l).2≠0:=show cY q.2.1.r (dk t.ts[q.1].i t.ts[q.1].l)≠0 from al Qg;rw[if_pos hne] at f
       have e0:P.2≠0:=by rw[f];exact hne
       rw[if_pos e0,f] at M
       have I:Y=cY q.2.1.r (dk t.ts[q.1].i t.ts[q.1].l):=by rw[Jw,M];rfl
       have H:G=(eF,[],0):=by rw[Jz,if_pos (by rw[I];exact hne)]
       refine aj (aq ?_);refine sv Z (ah aa aa (Z.ev rfl) (Qf.cellsAll (i:=6) rfl)) fun _ Z=>?_;refine GO 1 ?_;intro _ Z;refine sw Z Qf 7 fun _ U=>?_;refine GO 11 ?_;intro _ Z;refine fo Z rfl rfl rfl rfl rfl U (i:=7) rfl aa aa ?_;refine⟨((none,0),none,0),by rw[H,I];rfl,?_⟩;rw[H];exact((U.sub (List.nil_sublist _)).nilRow 111 3).nilRow 177 3
      ·
       have Yu:(iO q.2.1 t.ts[q.1].i t.ts[q.1].l).2=0:=show cY q.2.1.r (dk t.ts[q.1].i t.ts[q.1].l)=0 from al Qg;rw[if_neg (fun h=>h Yu)] at f;refine GO 9 ?_;intro _ Z;exact⟨(q.1+1,(iO q.2.1 t.ts[q.1].i t.ts[q.1].l).1,i9),(by show t.ts.length-(q.1+1)<t.ts.length-q.1;omega),⟨D,f,Zj.2.2.1.end_ _ _,Zj.2.2.2.1,Zj.2.2.2.2⟩,Z.re bC,Qf.sub (aB 1023)⟩
     ·
      have Wb:¬(!t.ts[q.1].c&&t.ts[q.1].u==0)=true:=al Qe;unfold qP at f;rw[if_neg Wb,if_neg (fun h=>h rfl)] at f;refine GO 9 ?_;intro _ Z;exact⟨(q.1+1,q.2),(by show t.ts.length-(q.1+1)<t.ts.length-q.1;omega),⟨D,f,Zj.2.2⟩,Z.re bC,Qp.sub (aB 2046)⟩
   ·
    have Vt:t.ts.length≤q.1:=by have:=of_decide_eq_false Qc;omega
    obtain⟨-,f,Yc,Yw,Yz⟩:=Zj;rw[nu qP Vt] at f
    have e0:P.2=0:=by rw[f]
    obtain⟨r1,Wt⟩:∃r1,r1=q.2.1.r:=⟨_,rfl⟩
    have Wx:q.2.1=(⟨r1,p,0⟩:Upl):=by
     obtain⟨n1,⟨r2,p2,n2⟩,A2⟩:=q;subst Wt;have e1:p2=p:=Yw;have e2:n2=0:=Yz;subst e1 e2;rfl
    have e1:P.1=(⟨r1,p,0⟩:Upl):=by rw[f,←Wx]
    rw[if_neg (fun h=>h e0),e1] at M;obtain⟨R,hR⟩:∃R,R=jA oP (jo t.ts) (⟨r1,p,0⟩:Upl) E:=⟨_,rfl⟩;rw[←hR] at M;rw[Wx] at Yc;rw[←Wt] at U;refine GO 12 ?_;intro _ Z;refine aV Z U [15,13,12,8,6,1] (fun (v:RuS)=>[(19,ae (v.j:Nat)),(16,ae v.u.n)]) (fun (v:RuS)=>v.j≤E.length∧R=jA oP (jo v.ts) v.u (E.drop v.j)∧KP l v.j v.u∧v.u.p.length=p.length∧TsI t.ts v.ts) (fun v L=>(((L.set 0 (.box Vc (nW v.u.r v.A v.c (.slice Vh p.length O) (.slice Vp t.ts.length Jv) (.slice Vb t.ds.length Va)).toArray 197)).set 1 (.row (.slice v.A v.u.r.rs.length v.c) v.u.r.rs.length 177 3 (aW v.u.r.rs))).set 2 (.row (.slice Vp t.ts.length Jv) t.ts.length 116 4 (v.ts.flatMap bW))).set 3 (.row (.slice Vh p.length O) p.length 111 3 (v.u.p.flatMap bX))) (fun (v:RuS)=>E.length-v.j) (⟨0,(⟨r1,p,0⟩:Upl),q.2.2.1,q.2.2.2,t.ts⟩) (⟨Nat.zero_le _,hR,Yc,rfl,Kc⟩) bC (U) ?_;intro v _ _ Qq Z U;refine GO 9 ?_;intro _ Qr;refine ak (Qr.ev rfl) (fun Qh=>?_) (fun Qh=>?_)
    ·
     have D:v.j<E.length:=by have:=of_decide_eq_true Qh;omega
     obtain⟨-,f,Vd,Vu,Jy⟩:=Qq;rw[AZ oP _ _ D] at f;have Ky:=Vd.n;obtain⟨x,Vy,Kx,Ke⟩:=Hn hv (Ys _ (List.getElem_mem D));obtain⟨⟨y,Yn,Kh,Wh⟩,Wp,Vr⟩:=Yl _ (List.getElem_mem D);obtain⟨Vi,rfl⟩:=List.getElem?_eq_some_iff.1 Yn
     have Vf:E[v.j].j<v.ts.length:=by rw[Jy.len];exact Vi
     rw[y5 Vf] at f;rw[←Ke] at f Wh Wp Vr;have Wy:=Jy.i _ Vf Vi;have Ki:=Jy.l _ Vf;have Wn:=(hv.e0 Vy).2.2;have Yh:=(kY Wn).1;have Wz:=hx _ (List.getElem_mem Vy);obtain⟨qq,Ya,Yf⟩:=nw (Vd.pf _ (List.getElem_mem Vy)) Wp;obtain⟨k,qk,Kn,q1,Ym⟩:=CS Ya;subst Ym;have Zr:=(Vd.po.all k qk).b;obtain⟨T,Zd⟩:∃T:Lsr,T=⟨l[x].e.t,v.ts[E[v.j].j].l,bE l[x].e⟩:=⟨_,rfl⟩;rw[←Zd] at f;have Ve:=tD (s:=v.u) (x:=T) Ya;have Yx:cA (cS T l[x].e)=0:=Fb Wn (by rw[Zd];exact Yh) (by rw[Zd];exact Ki);have Wu:cA (cS ⟨l[x].e.t,v.ts[E[v.j].j].l,bE l[x].e⟩ l[x].e)=0:=Zd▸Yx;obtain⟨b5,o5,rfl,_⟩:=hq.opened (aF aI au ab);obtain⟨Kr,Ks,rfl,_⟩:=(U.rdOf (i:=5) rfl).opened (aF qF au ab);obtain⟨b7,o7,rfl,_⟩:=(U.rdOf (i:=2) rfl).opened (aF bq au ab);obtain rfl:o7=0:=lg (U.at_ (i:=2) rfl);obtain⟨b9,o9,rfl,_⟩:=(U.rdOf (i:=3) rfl).opened (aF aY au ab);obtain rfl:o9=0:=lg (U.at_ (i:=3) rfl);refine wp_skip (ai (aj (wp_block (aj ?_))));apply Ez Qr 13 15 20 90 143 #[ae 0,ae 0,ae 0,ae 0,ae 0,.bool false,ae 0,ae 0,ae 0,ae 0,.string ⟨#[]⟩,.string ⟨#[]⟩,.string ⟨#[]⟩] 14 16 21 94 158 #[ae 0,ae 0,.bool false] [false,false,false,false,false,false,false,false,false,false,false,false,false,true,true,true,true] aa
     case h=>
      refine GO 3 ?_;intro _ Z;refine qv Z (fun X C=>ar (i:=v.j) (sz:=3) u9 aa (Z.ev rfl) (Z.ev rfl) ab ab rfl) fun _ Z=>?_;refine qv Z (fun X C=>fy 0 (Z.ev rfl)) fun _ Z=>?_;refine qv Z (fun X C=>lx (Z.ev rfl) ((aL qF ((U.grow C).rdOf (i:=5) rfl) D) 0 _ rfl)) fun _ Z=>?_;refine qv Z (fun X C=>ar (i:=x) (sz:=14) cO aa (Z.ev rfl) (Z.ev rfl) ab ab rfl) fun _ Z=>?_;refine qv Z (fun X C=>fy 1 (Z.ev rfl)) fun _ Z=>?_;refine qv (v:=cy l[x].e) Z (fun X C=>ah aa aa (Z.ev rfl) (dQ ((U.grow C).rd0 hq) Vy)) fun _ Z=>?_;refine GO 2 ?_;intro _ Z;refine qv Z (fun X C=>ar (i:=v.j) (sz:=3) u9 aa (Z.ev rfl) (Z.ev rfl) ab ab rfl) fun _ Z=>?_;refine qv (v:=.agg #[ae (nK Rcd.l E[v.j].r.l l 0),ae (E[v.j].j:Nat),.bool E[v.j].z]) Z (fun X C=>ah aa aa (Z.ev rfl) (aL qF ((U.grow C).rdOf (i:=5) rfl) D)) fun _ Z=>?_;refine ax ?_;refine GG Z U rfl rfl rfl rfl rfl rfl rfl rfl (fun ρ X=>dV (z:=.agg sc) aa) (fun ρ X=>dV (z:=.agg #[ae 0,ae 0,.bool false]) aa) aa aa ⟨rfl,rfl⟩ ⟨rfl,rfl⟩ fun Uc Ub _ _ Z U=>?_;replace U:=(St.pull' (St.pull' (St.pull' (St.pull' (St.pull' (St.pull' (St.pull' (St.pull' (St.pull' (St.pull' (St.pull' U 1 rfl) 11 rfl) 11 rfl) 11 rfl) 11 rfl) 11 rfl) 11 rfl) 11 rfl) 11 rfl) 11 rfl) 11 rfl);refine GO 6 ?_;intro _ Z;refine vl Z U 10 fun _ Z=>?_;refine GO 3 ?_;intro _ Z;refine ak (Z.ev rfl) (fun Qi=>?_) (fun Qi=>?_)
      ·
       have Wk:l[x].e.k=0:=al Qi
       have K:oP v.u T l[x]=if (iv v.u T l[x].e).2.2≠0 then iv v.u T l[x].e else xr (iv v.u T l[x].e).1 (iv v.u T l[x].e).2.1:=by unfold oP;rw[if_pos Wk]
       refine GO 3 ?_;intro _ Z;refine sv (v:=fj l[x].e.o) Z (ah aa aa (Z.ev rfl) (U.cellsOf (i:=10) rfl 6 6)) fun _ Z=>?_;refine cQ Z rfl U (lL l[x].e.o _ (mM Wn)) fun _ _ Z U=>?_;refine na (.agg qo) Z rfl U fun Kt _ _ Qz Z U=>sw Z U 0 fun _ U=>?_;refine ag (ai (aj ?_));apply rj Z 21 aa
       case h=>
        refine GO 2 ?_;intro _ Z;refine qv Z (fun X C=>lx (Z.ev rfl) ((U.grow C).cell (i:=11) rfl rfl)) fun _ Z=>?_;refine GO 2 ?_;intro _ Z;refine qv Z (fun X C=>fx 10 10 (Z.ev rfl)) fun _ Z=>?_;refine qv Z (fun X C=>fx 0 10 (Z.ev rfl)) fun _ Z=>?_;refine GO 2 ?_;intro _ Z;refine qv Z (fun X C=>lx (Z.ev rfl) ((U.grow C).cell (i:=12) rfl rfl)) fun _ Z=>?_;refine qv Z (fun X C=>ar (i:=E[v.j].j) (sz:=4) dT aa (Z.ev rfl) (Z.ev rfl) ab ab rfl) fun _ Z=>?_;refine qv Z (fun X C=>fy 1 (Z.ev rfl)) fun _ Z=>?_;refine qv Z (fun X C=>lx (Z.ev rfl) ((aL bq ((U.grow C).rdOf (i:=3) rfl) Vf) 1 _ rfl)) fun _ Z=>?_;refine GO 1 ?_;intro _ Z;refine qv Z (fun X C=>lx (Z.ev rfl) ((U.grow C).cell (i:=11) rfl rfl)) fun _ Z=>?_;refine GO 1 ?_;intro _ Z;refine qv Z (fun X C=>lx (Z.ev rfl) ((U.grow C).cell (i:=11) rfl rfl)) fun _ Z=>?_;refine GO 1 ?_;intro _ Z;refine qv Z (fun X C=>lx (Z.ev rfl) ((U.grow C).cell (i:=11) rfl rfl)) fun _ Z=>?_;refine qv (v:=fj (bO l[x].e.o)) Z (fun X C=>ah aa aa (Z.ev rfl) ((U.grow C).cellsAll (i:=0) rfl)) fun _ Z=>?_;refine qv (v:=cy (cS ⟨l[x].e.t,v.ts[E[v.j].j].l,bE l[x].e⟩ l[x].e)) Z (fun X C=>az (zs:=km) (pl:=j7) aa aa (Z.evs2 rfl) rfl rfl) fun _ Z=>?_;refine ax ?_;intro _ Zs;have U:=U.grow Zs;refine dJ Z (wn rfl) (aw a6 (Z.evs rfl) rfl) rfl rfl (zw Vc v.u.r v.A v.c (.slice (some ⟨b9,0,none⟩) p.length O) (.slice (some ⟨b7,0,none⟩) t.ts.length Jv) (.slice Vb t.ds.length Va) (cS ⟨l[x].e.t,v.ts[E[v.j].j].l,bE l[x].e⟩ l[x].e) Wu Vd.ok (St.pull' (St.pull' (St.pull' (St.pull' (St.pull' (St.pull' (St.pull' (St.pull' (St.pull' (St.pull' (St.pull' (St.pull' U 12 rfl) 12 rfl) 12 rfl) 12 rfl) 12 rfl) 12 rfl) 12 rfl) 12 rfl) 12 rfl) 12 rfl) 12 rfl) 12 rfl)) fun e9 Ja ⟨i9,Wa,Qj⟩=>⟨_,Wa,fun _ Qk=>?_⟩;refine⟨Qk.size,?_⟩;refine GO 6 ?_;intro _ Z;intro _ Zt
        have U:=Qj.grow Zt;rw[←Zd] at Z U;refine GO 8 ?_;intro _ Z;refine ak (Z.ev rfl) (fun Ql=>?_) (fun Ql=>?_)
        ·
         have hne:cY v.u.r (cS T l[x].e)≠0:=al Ql;rw[if_pos hne] at Ve
         have Wl:R=(v.u,cY v.u.r (cS T l[x].e)):=by rw[f,K,Ve,if_pos (show(v.u,T,cY v.u.r (cS T l[x].e)).2.2≠0 from hne)];rw[if_pos (show(v.u,T,cY v.u.r (cS T l[x].e)).2.2≠0 from hne)]
         rw[Wl,if_pos (show(v.u,cY v.u.r (cS T l[x].e)).2≠0 from hne)] at M
         have I:Y=cY v.u.r (cS T l[x].e):=by rw[Jw,M]
         have H:G=(eF,[],0):=by rw[Jz,if_pos (by rw[I];exact hne)]
         refine aj (aq ?_);refine sv Z (ah aa aa (Z.ev rfl) (U.cellsAll (i:=6) rfl)) fun _ Z=>?_;refine GO 1 ?_;intro _ Z;refine sw Z U 7 fun _ U=>?_;refine GO 13 ?_;intro _ Z;refine fo Z rfl rfl rfl rfl rfl U (i:=7) rfl aa aa ?_;refine⟨((none,0),none,0),by rw[H,I];rfl,?_⟩;rw[H];exact((U.sub (List.nil_sublist _)).nilRow 111 3).nilRow 177 3
        ·
         have hne:cY v.u.r (cS T l[x].e)=0:=al Ql;rw[if_neg (fun h=>h hne)] at Ve;have Ye:=EY Vd.ok (cS T l[x].e);obtain⟨N,hN⟩:∃N,N=gC v.u.r (cS T l[x].e):=⟨_,rfl⟩;rw[←hN] at Ve Ye Z;refine wp_skip (ai (aj ?_));apply aK Z (fK 6) _ aa
         case h=>
          refine GO 2 ?_;intro _ Z;refine qv Z (fun X C=>fx 9 9 (Z.ev rfl)) fun _ Z=>?_;refine GO 2 ?_;intro _ Z;refine qv Z (fun X C=>lx (Z.ev rfl) ((U.grow C).cell (i:=10) rfl rfl)) fun _ Z=>?_;refine ax ?_;refine aT fun _ Zu Qs=>?_;have U:=U.grow Zu;refine cQ Z rfl U (Vu▸pb v.u.p l[x].e.g (some ⟨b9,0,none⟩) O _ (U.rdOf (i:=3) rfl) ab) fun _ _ Z U=>?_;refine GO 4 ?_;intro _ Z;apply aK Z (fK 14) _ aa
          case h=>
           refine GO 2 ?_;intro _ Z;refine qv Z (fun X C=>fx 9 9 (Z.ev rfl)) fun _ Z=>?_;refine GO 2 ?_;intro _ Z;refine qv Z (fun X C=>ar (i:=k) (sz:=3) en aa (Z.ev rfl) (Z.ev rfl) ab ab rfl) fun _ Z=>?_;refine qv Z (fun X C=>fy 2 (Z.ev rfl)) fun _ Z=>?_;refine qv Z (fun X C=>lx (Z.ev rfl) ((aL aY ((U.grow C).rdOf (i:=3) rfl) qk) 2 _ rfl)) fun _ Z=>?_;refine qv (v:=fj (bO l[x].e.o)) Z (fun X C=>ah aa aa (Z.ev rfl) ((U.grow C).cellsAll (i:=12) rfl)) fun _ Z=>?_;refine nH Z rfl (fun X C=>EE v.u.p[k].b (bO l[x].e.o) _ Zr (nq (x:=T) Wz).o (nq (x:=T) Wz).n) fun _ Z=>?_;refine GO 5 ?_;intro _ Z;refine aT fun _ Zv Qt=>?_;have Zb:=U.grow Zv;refine GO 10 ?_;intro _ Z;refine ak (Z.ev rfl) (fun Qm=>?_) (fun Qm=>?_)
           ·
            have Jx:(bz v.u.p[k].b (bO l[x].e.o)).2≠0:=al Qm;rw[if_pos Jx] at Ve
            have Wl:R=(v.u,(bz v.u.p[k].b (bO l[x].e.o)).2):=by rw[f,K,Ve,if_pos (show(v.u,T,(bz v.u.p[k].b (bO l[x].e.o)).2).2.2≠0 from Jx)];rw[if_pos (show(v.u,T,(bz v.u.p[k].b (bO l[x].e.o)).2).2.2≠0 from Jx)]
            rw[Wl,if_pos (show(v.u,(bz v.u.p[k].b (bO l[x].e.o)).2).2≠0 from Jx)] at M
            have I:Y=(bz v.u.p[k].b (bO l[x].e.o)).2:=by rw[Jw,M]
            have H:G=(eF,[],0):=by rw[Jz,if_pos (by rw[I];exact Jx)]
            refine aj (aq ?_);refine sv Z (ah aa aa (Z.ev rfl) (Zb.cellsAll (i:=6) rfl)) fun _ Z=>?_;refine GO 1 ?_;intro _ Z;refine sw Z Zb 7 fun _ U=>?_;refine GO 13 ?_;intro _ Z;refine fo Z rfl rfl rfl rfl rfl U (i:=7) rfl aa aa ?_;refine⟨((none,0),none,0),by rw[H,I];rfl,?_⟩;rw[H];exact((U.sub (List.nil_sublist _)).nilRow 111 3).nilRow 177 3
           ·
            have Jx:(bz v.u.p[k].b (bO l[x].e.o)).2=0:=al Qm;rw[if_neg (fun h=>h Jx)] at Ve;have Wi:=iK Zr Jx;obtain⟨S9,Vl⟩:∃S9,S9=zv v.u.p[k] (bz v.u.p[k].b (bO l[x].e.o)).1 N:=⟨_,rfl⟩;rw[←Vl] at Ve
            have Ko:S9.size=512:=by rw[Vl];exact wM Wi
            have Yd:=jP Vd.po.srt qk S9;rw[q1,←Nat.zero_add (k*3)] at Yd
            have Yk:(iv v.u T l[x].e).2.2=0:=by rw[Ve]
            have Wq:=Vd.cmp (x:=T) (List.getElem_mem Vy) Wp Yk;rw[if_neg (fun h=>h Yk)] at K;rw[Ve] at K Wq;have Wf:=Jy.turn Vf Vi Kh Ye;have Yb:=C0 bq v.ts Vf (q:=1) au (FW v.ts[E[v.j].j] N) (ae N) rfl;rw[←Nat.zero_add (E[v.j].j*4)] at Yb;refine GO 6 ?_;intro _ Z;refine vl Z Zb 10 fun _ Z=>?_;refine GO 3 ?_;intro _ Zc;refine dY Zc Zb [(26,.string S9)] [156,155,154,151,150,24,149,148,137,147,146,145,144,143,142,141,140,139,138,25,136,135,134,133,132,131,130,127,126,23,125,124,101,123,122,121,120,119,118,117,116,115,114,113,112,111,110,109,108,107,106,105,104,103,102,22,100,99,98,97,96,95,21,20,94,93,92,91,90,89,88,87,86,85,84,83,82,79,78,77,76,19,16,15,13,12,8,6,1] ?_ (fun _ _ Z U=>?_)
            ·
             refine ak (Zc.ev rfl) (fun Qn=>?_) (fun Qn=>?_)
             ·
              refine GO 3 ?_;intro _ Z;refine cQ Z rfl Zb (cv N 4 ab ab au _) fun _ _ Z U=>?_;refine cQ Z rfl U (te (bz v.u.p[k].b (bO l[x].e.o)).1 (bs (lit N 4)) 8 _ (by rw[Wi];decide) (by rw[Wi,cm,cu];decide)) fun _ _ Z U=>?_;refine GO 3 ?_;intro _ Z;rw[show ss (bz v.u.p[k].b (bO l[x].e.o)).1 8 (bs (lit N 4))=S9 by rw[Vl];unfold zv;rw[if_neg (by rw[Yf];simpa using Qn)];rfl] at Z;exact⟨Z.re bC,U⟩
             ·
              refine wp_skip (ai ?_);replace Zc:=Has.also Zc (t:=26) (v:=.string S9) ((show look _ 26=some (.string (bz v.u.p[k].b (bO l[x].e.o)).1) from rfl).trans (by rw[Vl];unfold zv;rw[if_pos (by rw[Yf];simpa using Qn)]));exact⟨Zc.re bC,Zb⟩
            ·
             refine GO 5 ?_;intro _ Z;refine vf Z 9 9 fun _ Z=>?_;refine GO 3 ?_;intro _ Z;refine sv Z (ar (i:=k) (sz:=3) en aa (Z.ev rfl) (Z.ev rfl) ab ab rfl) fun _ Z=>?_;refine sv Z (fy 2 (Z.ev rfl)) fun _ Z=>?_;refine fB Z (wn rfl) ⟨rfl,rfl⟩ (Z.ev rfl) (Z.ev rfl) rfl aa U (i:=3) rfl rfl (by show 0+k*3+2+1≤p.length*3;omega) fun _ U=>?_;replace U:=St.rowTo (i:=3) (A:=some ⟨b9,0,none⟩) U rfl rfl Yd.symm;refine ag (ai (aj ?_));apply aK Z (fK 8) _ aa
             case h=>
              refine GO 2 ?_;intro _ Z;refine qv Z (fun X C=>fx 10 10 (Z.ev rfl)) fun _ Z=>?_;refine qv Z (fun X C=>fx 0 10 (Z.ev rfl)) fun _ Z=>?_;refine GO 2 ?_;intro _ Z;refine qv Z (fun X C=>lx (Z.ev rfl) ((U.grow C).cell (i:=11) rfl rfl)) fun _ Z=>?_;refine GO 2 ?_;intro _ Z;refine aT fun _ Zw Qu=>?_;have U:=U.grow Zw;refine sv Z (ar (i:=E[v.j].j) (sz:=4) dT aa (Z.ev rfl) (Z.ev rfl) ab ab rfl) fun _ Z=>?_;refine sv Z (fy 1 (Z.ev rfl)) fun _ Z=>?_;refine fB Z (wn rfl) ⟨rfl,rfl⟩ (Z.ev rfl) (Z.ev rfl) rfl aa U (i:=2) rfl rfl (by show 0+E[v.j].j*4+1+1≤t.ts.length*4;omega) fun _ U=>?_;replace U:=St.rowTo (i:=2) (A:=some ⟨b7,0,none⟩) U rfl rfl Yb.symm;refine GO 6 ?_;intro _ Z;obtain⟨J,S⟩:∃J:Upl,J=⟨fF v.u.r (cS T l[x].e),eY v.u.p l[x].e.g S9,v.u.n+1⟩:=⟨_,rfl⟩;obtain⟨X2,Zf⟩:∃X2:Lsr,X2=⟨T.i,N,T.u⟩:=⟨_,rfl⟩;obtain⟨F,Q⟩:∃F,F=v.ts.set E[v.j].j (FW v.ts[E[v.j].j] N):=⟨_,rfl⟩;obtain⟨AC,Vz⟩:∃AC,AC=i9:=⟨_,rfl⟩;rw[←S] at Wq;rw[←Q] at Wf;rw[←S,←Zf] at K
              have Vg:X2.u=bE l[x].e:=by rw[Zf,Zd]
              have Vk:KP l (v.j+1) J:=Wq;have W:TsI t.ts F:=Wf
              have Vs:J.p.length=p.length:=by rw[S];exact(eB _ _ _).trans Vu
              have Vj:E[v.j].j<F.length:=by rw[W.len];exact Vi
              have Wm:dk F[E[v.j].j].i F[E[v.j].j].l=dk X2.i X2.l:=by subst Q;rw[Zf,Zd,List.getElem_set_self];show dk v.ts[E[v.j].j].i N=dk l[x].e.t N;rw[Wy,Wh]
              have Vx:(fun k=>if k=E[v.j].j then X2.l else jo v.ts k)=jo F:=by rw[Q,Zf];exact Ca Vf N
              replace Z:=Has.also Z (t:=16) (v:=ae J.n) (by rw[S];rfl);replace U:=St.to4 (a':=.box Vc (nW J.r AC.1 AC.2 (.slice (some ⟨b9,0,none⟩) p.length O) (.slice (some ⟨b7,0,none⟩) t.ts.length Jv) (.slice Vb t.ds.length Va)).toArray 197) (b':=.row (.slice AC.1 J.r.rs.length AC.2) J.r.rs.length 177 3 (aW J.r.rs)) (c':=.row (.slice (some ⟨b7,0,none⟩) t.ts.length Jv) t.ts.length 116 4 (F.flatMap bW)) (d':=.row (.slice (some ⟨b9,0,none⟩) p.length O) p.length 111 3 (J.p.flatMap bX)) U (by rw[S,Vz]) (by rw[S,Vz]) (by rw[Q]) (by rw[S]);refine GO 5 ?_;intro _ Z;refine vl Z U 11 fun _ Z=>?_;refine ag (ai ?_);refine ak (Z.ev rfl) (fun Zk=>?_) (fun Zk=>?_)
              ·
               have Vm:bE l[x].e=0:=by
                have Z:E[v.j].z=true:=al Zk;rw[Vr] at Z;simpa using Z
               unfold xr at K;rw[if_pos (by rw[Vg];exact Vm)] at K;rw[K] at f;have Kk:=W.i _ Vj Vi;have Yr:=W.l _ Vj;have Yj:=(hk.ts _ Vi).i;refine GO 4 ?_;intro _ Z;refine vl Z U 11 fun _ Z=>?_;refine dJ Z (wn rfl) (aw a6 (Z.evs rfl) rfl) rfl rfl (pP Vc J.r AC.1 AC.2 (.slice (some ⟨b9,0,none⟩) p.length O) F (some ⟨b7,0,none⟩) Jv (.slice Vb t.ds.length Va) t.ts.length W.len E[v.j].j Vj ab ab (by rw[W.len];omega) Vk.ok (St.pull' (St.pull' (St.pull' (St.pull' (St.pull' (St.pull' (St.pull' (St.pull' (St.pull' (St.pull' (St.pull' (St.pull' (U.sub (aB 4095)) 11 rfl) 11 rfl) 11 rfl) 11 rfl) 11 rfl) 11 rfl) 11 rfl) 11 rfl) 11 rfl) 11 rfl) 11 rfl) 11 rfl)) fun Kg Jb zZ=>?_;obtain⟨Vq,Vw,Zg⟩:=zZ;refine⟨_,Vw,fun _ Jc=>?_⟩;refine GO 1 ?_;intro _ Z;rw[Wm] at Z Zg;refine GO 8 ?_;intro _ Z;refine ak (Z.ev rfl) (fun Za=>?_) (fun Za=>?_)
               ·
                have hne:(iO J X2.i X2.l).2≠0:=show cY J.r (dk X2.i X2.l)≠0 from al Za;rw[if_pos hne] at f;rw[f,if_pos (show(v.u,(iO J X2.i X2.l).2).2≠0 from hne)] at M
                have I:Y=cY J.r (dk X2.i X2.l):=by rw[Jw,M];rfl
                have H:G=(eF,[],0):=by rw[Jz,if_pos (by rw[I];exact hne)]
                refine aj (aq ?_);refine sv Z (ah aa aa (Z.ev rfl) (Zg.cellsAll (i:=6) rfl)) fun _ Z=>?_;refine GO 1 ?_;intro _ Z;refine sw Z Zg 7 fun _ U=>?_;refine GO 11 ?_;intro _ Z;refine fo Z rfl rfl rfl rfl rfl U (i:=7) rfl aa aa ?_;refine⟨((none,0),none,0),by rw[H,I];rfl,?_⟩;rw[H];exact((U.sub (List.nil_sublist _)).nilRow 111 3).nilRow 177 3
               ·
                have Wg:(iO J X2.i X2.l).2=0:=show cY J.r (dk X2.i X2.l)=0 from al Za;rw[if_neg (fun h=>h Wg)] at f;rw[Vx] at f;refine GO 9 ?_;intro _ Z;exact⟨⟨v.j+1,(iO J X2.i X2.l).1,Vq.1,Vq.2,F⟩,(by show E.length-(v.j+1)<E.length-v.j;omega),⟨D,f,Vk.end_ _ _,Vs,W⟩,Z.re bC,Zg.sub (aB 1023)⟩
              ·
               have Vm:bE l[x].e≠0:=by
                have Z:E[v.j].z=false:=al Zk;rw[Vr] at Z;simpa using Z
               unfold xr at K;rw[if_neg (by rw[Vg];exact Vm)] at K;rw[K,if_neg (fun h=>h rfl)] at f;rw[Vx] at f;refine GO 9 ?_;intro _ Z;exact⟨⟨v.j+1,J,AC.1,AC.2,F⟩,(by show E.length-(v.j+1)<E.length-v.j;omega),⟨D,f,Vk,Vs,W⟩,Z.re bC,U.sub (aB 1023)⟩
             case hB=>kernel_rfl
             case hst=>rfl
          case hB=>kernel_rfl
          case hst=>rfl
         case hB=>kernel_rfl
         case hst=>rfl
       case hB=>kernel_rfl
      ·
       have Wk:l[x].e.k≠0:=al Qi;obtain⟨J,S⟩:∃J,J=v.u:=⟨_,rfl⟩;obtain⟨X2,Zf⟩:∃X2,X2=T:=⟨_,rfl⟩;obtain⟨F,Q⟩:∃F,F=v.ts:=⟨_,rfl⟩;obtain⟨AC,Vz⟩:∃AC,AC=(v.A,v.c):=⟨_,rfl⟩
       have K:oP v.u T l[x]=xr J X2:=by rw[S,Zf];unfold oP;rw[if_neg Wk]
       have Vg:X2.u=bE l[x].e:=by rw[Zf,Zd]
       have Vk:KP l (v.j+1) J:=by rw[S];exact Vd.mono (Nat.le_succ _)
       have W:TsI t.ts F:=by rw[Q];exact Jy
       have Vs:J.p.length=p.length:=by rw[S];exact Vu
       have Vj:E[v.j].j<F.length:=by rw[Q];exact Vf
       have Wm:dk F[E[v.j].j].i F[E[v.j].j].l=dk X2.i X2.l:=by subst Q;rw[Zf,Zd,Wy,Wh]
       have Vx:(fun k=>if k=E[v.j].j then X2.l else jo v.ts k)=jo F:=by rw[Q,Zf,Zd];exact zL _ (y5 Vf).symm
       replace Z:=Has.also Z (t:=16) (v:=ae J.n) (by rw[S];rfl);replace U:=St.to4 (a':=.box Vc (nW J.r AC.1 AC.2 (.slice (some ⟨b9,0,none⟩) p.length O) (.slice (some ⟨b7,0,none⟩) t.ts.length Jv) (.slice Vb t.ds.length Va)).toArray 197) (b':=.row (.slice AC.1 J.r.rs.length AC.2) J.r.rs.length 177 3 (aW J.r.rs)) (c':=.row (.slice (some ⟨b7,0,none⟩) t.ts.length Jv) t.ts.length 116 4 (F.flatMap bW)) (d':=.row (.slice (some ⟨b9,0,none⟩) p.length O) p.length 111 3 (J.p.flatMap bX)) U (by rw[S,Vz]) (by rw[S,Vz]) (by rw[Q]) (by rw[S]);refine GO 5 ?_;intro _ Z;refine vl Z U 11 fun _ Z=>?_;refine ag (ai ?_);refine ak (Z.ev rfl) (fun Zk=>?_) (fun Zk=>?_)
       ·
        have Vm:bE l[x].e=0:=by
         have Z:E[v.j].z=true:=al Zk;rw[Vr] at Z;simpa using Z
        unfold xr at K;rw[if_pos (by rw[Vg];exact Vm)] at K;rw[K] at f;have Kk:=W.i _ Vj Vi;have Yr:=W.l _ Vj;have Yj:=(hk.ts _ Vi).i;refine GO 4 ?_;intro _ Z;refine vl Z U 11 fun _ Z=>?_;refine dJ Z (wn rfl) (aw a6 (Z.evs rfl) rfl) rfl rfl (pP Vc J.r AC.1 AC.2 (.slice (some ⟨b9,0,none⟩) p.length O) F (some ⟨b7,0,none⟩) Jv (.slice Vb t.ds.length Va) t.ts.length W.len E[v.j].j Vj ab ab (by rw[W.len];omega) Vk.ok (St.pull' (St.pull' (St.pull' (St.pull' (St.pull' (St.pull' (St.pull' (St.pull' (St.pull' (St.pull' (St.pull' (St.pull' U 11 rfl) 11 rfl) 11 rfl) 11 rfl) 11 rfl) 11 rfl) 11 rfl) 11 rfl) 11 rfl) 11 rfl) 11 rfl) 11 rfl)) fun Kg Jd ⟨Vq,Vw,Zh⟩=>⟨_,Vw,fun _ Je=>?_⟩;refine GO 1 ?_;intro _ Z;rw[Wm] at Z Zh;refine GO 8 ?_;intro _ Z;refine ak (Z.ev rfl) (fun Za=>?_) (fun Za=>?_)
        ·
         have hne:(iO J X2.i X2.l).2≠0:=show cY J.r (dk X2.i X2.l)≠0 from al Za;rw[if_pos hne] at f;rw[f,if_pos (show(v.u,(iO J X2.i X2.l).2).2≠0 from hne)] at M
         have I:Y=cY J.r (dk X2.i X2.l):=by rw[Jw,M];rfl
         have H:G=(eF,[],0):=by rw[Jz,if_pos (by rw[I];exact hne)]
         refine aj (aq ?_);refine sv Z (ah aa aa (Z.ev rfl) (Zh.cellsAll (i:=6) rfl)) fun _ Z=>?_;refine GO 1 ?_;intro _ Z;refine sw Z Zh 7 fun _ U=>?_;refine GO 11 ?_;intro _ Z;refine fo Z rfl rfl rfl rfl rfl U (i:=7) rfl aa aa ?_;refine⟨((none,0),none,0),by rw[H,I];rfl,?_⟩;rw[H];exact((U.sub (List.nil_sublist _)).nilRow 111 3).nilRow 177 3
        ·
         have Wg:(iO J X2.i X2.l).2=0:=show cY J.r (dk X2.i X2.l)=0 from al Za;rw[if_neg (fun h=>h Wg)] at f;rw[Vx] at f;refine GO 9 ?_;intro _ Z;exact⟨⟨v.j+1,(iO J X2.i X2.l).1,Vq.1,Vq.2,F⟩,(by show E.length-(v.j+1)<E.length-v.j;omega),⟨D,f,Vk.end_ _ _,Vs,W⟩,Z.re bC,Zh.sub (aB 1023)⟩
       ·
        have Vm:bE l[x].e≠0:=by
         have Z:E[v.j].z=false:=al Zk;rw[Vr] at Z;simpa using Z
        unfold xr at K;rw[if_neg (by rw[Vg];exact Vm)] at K;rw[K,if_neg (fun h=>h rfl)] at f;rw[Vx] at f;refine GO 9 ?_;intro _ Z;exact⟨⟨v.j+1,J,AC.1,AC.2,F⟩,(by show E.length-(v.j+1)<E.length-v.j;omega),⟨D,f,Vk,Vs,W⟩,Z.re bC,U.sub (aB 1023)⟩
     case hB=>kernel_rfl
     case hne=>rfl
    ·
     have Vt:E.length≤v.j:=by have:=of_decide_eq_false Qh;omega
     obtain⟨-,f,Vd,Vu,Jy⟩:=Qq;rw[Cx oP _ _ Vt] at f
     have e0:R.2=0:=by rw[f]
     have e1:R.1=v.u:=by rw[f]
     rw[if_neg (fun h=>h e0),e1] at M;refine GO 12 ?_;intro _ Z;refine aV Z U [16,15,12,8,6] (fun (z:Nat × Upl × Option Addr × Nat)=>[(28,ae (z.1:Nat))]) (fun (z:Nat × Upl × Option Addr × Nat)=>z.1≤t.ts.length∧V=fI jG z.2.1 (t.ts.drop z.1)∧KP l v.j z.2.1∧z.2.1.p=v.u.p∧z.2.1.n=v.u.n) (fun z L=>(L.set 0 (.box Vc (nW z.2.1.r z.2.2.1 z.2.2.2 (.slice Vh p.length O) (.slice Vp t.ts.length Jv) (.slice Vb t.ds.length Va)).toArray 197)).set 1 (.row (.slice z.2.2.1 z.2.1.r.rs.length z.2.2.2) z.2.1.r.rs.length 177 3 (aW z.2.1.r.rs))) (fun (z:Nat × Upl × Option Addr × Nat)=>t.ts.length-z.1) ((0,v.u,v.A,v.c)) (⟨Nat.zero_le _,M,Vd,rfl,rfl⟩) bC (U) ?_;intro z _ _ Zo Z U;refine GO 5 ?_;intro _ Z;refine vl Z U 8 fun _ Z=>?_;refine GO 4 ?_;intro _ Z;refine ak (Z.ev rfl) (fun Zl=>?_) (fun Zl=>?_)
     ·
      have D:z.1<t.ts.length:=by have:=of_decide_eq_true Zl;omega
      have f:=Zo.2.1;rw[ll jG D] at f;have Wd:=hk.ts z.1 D;have Kl:=Wd.i
      have Vn:z.1<v.ts.length:=by rw[Jy.len];exact D
      have Kb:=Jy.l _ Vn;have Km:=Jy.i _ Vn D;have Kf:=Jy.c _ Vn D;obtain⟨b1,o1,rfl,_⟩:=Vo.opened (aF bq au ab);refine GO 7 ?_;intro _ Z;refine vl Z U 8 fun _ Z=>?_;refine GO 1 ?_;intro _ Z;refine sv Z (ar (i:=z.1) (sz:=4) dT aa (Z.ev rfl) (Z.ev rfl) ab ab rfl) fun _ Z=>?_;refine sv Z (fy 3 (Z.ev rfl)) fun _ Z=>?_;refine sv Z (lx (Z.ev rfl) ((aL bq (U.rd0 Vo) D) 3 _ rfl)) fun _ Z=>?_;refine ag (ai ?_);refine ak (Z.ev rfl) (fun Zm=>?_) (fun Zm=>?_)
      ·
       have Wc:t.ts[z.1].c=true:=al Zm;unfold jG at f;rw[if_pos Wc] at f;have Yv:=Kf Wc;refine GO 4 ?_;intro _ Z;refine dJ Z (wn rfl) (aw a6 (Z.evs rfl) rfl) rfl rfl (pP Vc z.2.1.r z.2.2.1 z.2.2.2 (.slice Vh p.length O) v.ts Vp Jv (.slice Vb t.ds.length Va) t.ts.length Jy.len z.1 Vn ab ab (by rw[Jy.len];omega) Zo.2.2.1.ok (St.pull' (St.pull' (St.pull' (St.pull' (St.pull' (St.pull' (St.pull' (St.pull' (St.pull' (St.pull' U 9 rfl) 9 rfl) 9 rfl) 9 rfl) 9 rfl) 9 rfl) 9 rfl) 9 rfl) 9 rfl) 9 rfl)) fun e9 Jf ⟨i9,Wa,Zi⟩=>⟨_,Wa,fun _ Jg=>?_⟩;refine GO 1 ?_;intro _ Z;rw[Yv] at Z Zi;refine GO 8 ?_;intro _ Z;refine ak (Z.ev rfl) (fun Zn=>?_) (fun Zn=>?_)
       ·
        have hne:(iO z.2.1 t.ts[z.1].i t.ts[z.1].l).2≠0:=show cY z.2.1.r (dk t.ts[z.1].i t.ts[z.1].l)≠0 from al Zn;rw[if_pos hne] at f
        have I:Y=cY z.2.1.r (dk t.ts[z.1].i t.ts[z.1].l):=by rw[Jw,f];rfl
        have H:G=(eF,[],0):=by rw[Jz,if_pos (by rw[I];exact hne)]
        refine aj (aq ?_);refine sv Z (ah aa aa (Z.ev rfl) (Zi.cellsAll (i:=6) rfl)) fun _ Z=>?_;refine GO 1 ?_;intro _ Z;refine sw Z Zi 7 fun _ U=>?_;refine GO 11 ?_;intro _ Z;refine fo Z rfl rfl rfl rfl rfl U (i:=7) rfl aa aa ?_;refine⟨((none,0),none,0),by rw[H,I];rfl,?_⟩;rw[H];exact((U.sub (List.nil_sublist _)).nilRow 111 3).nilRow 177 3
       ·
        have Ww:(iO z.2.1 t.ts[z.1].i t.ts[z.1].l).2=0:=show cY z.2.1.r (dk t.ts[z.1].i t.ts[z.1].l)=0 from al Zn;rw[if_neg (fun h=>h Ww)] at f;refine GO 9 ?_;intro _ Z;exact⟨(z.1+1,(iO z.2.1 t.ts[z.1].i t.ts[z.1].l).1,i9),(by show t.ts.length-(z.1+1)<t.ts.length-z.1;omega),⟨D,f,Zo.2.2.1.end_ _ _,Zo.2.2.2⟩,Z.re bC,Zi⟩
      ·
       have Wc:¬t.ts[z.1].c=true:=al Zm;unfold jG at f;rw[if_neg Wc,if_neg (fun h=>h rfl)] at f;refine GO 9 ?_;intro _ Z;exact⟨(z.1+1,z.2),(by show t.ts.length-(z.1+1)<t.ts.length-z.1;omega),⟨D,f,Zo.2.2⟩,Z.re bC,U⟩
     ·
      have Vt:t.ts.length≤z.1:=by have:=of_decide_eq_false Zl;omega
      obtain⟨-,f,Ue,Yg,Yq⟩:=Zo;rw[nu jG Vt] at f
      have I:Y=0:=by rw[Jw,f]
      have H:G=(z.2.1.r,z.2.1.p,z.2.1.n):=by rw[Jz,if_neg (fun h=>h I),f]
      refine wp_exit ?_;refine ed ?_;refine ed ?_;refine pL ?_;refine ai (aj ?_);apply gB (m:=9) Z (St.domAt U (i:=7) rfl) 0 [false,false,false,false,false,false,false,false,false,true,false] _ aa
      case h=>
       refine GO 3 ?_;intro _ Z;refine qv (v:=bm z.2.1.r z.2.2.1 z.2.2.2) Z (fun X C=>ah aa aa (Z.ev rfl) ((U.growO (i:=7) rfl C).cellsOf (i:=0) rfl 0 9)) fun _ Z=>?_;refine GO 2 ?_;intro _ Z;refine qv Z (fun X C=>fx 9 9 (Z.ev rfl)) fun _ Z=>?_;refine qv Z (fun X C=>lx (Z.ev rfl) ((U.growO (i:=7) rfl C).cell (i:=0) rfl rfl)) fun _ Z=>?_;refine GO 3 ?_;intro _ Z;apply iw (k:=9) (deps:=[]) (R:=IsBox _ _ _) Z rfl rfl IsBox.stable (fun X C hΦ=>ij rfl (Z.ev rfl) (Z.ev rfl) rfl aa ((U.grow C).at_ (i:=7) rfl) rfl rfl);intro Yo;refine k5 fun _ Zx Zy=>?_;have U:=U.growBox (i:=7) (v:=Yo) rfl Zx (aD Zy (k:=9) rfl);refine GO 5 ?_;intro _ Z;refine fo Z rfl rfl rfl rfl rfl U (i:=7) rfl aa aa ?_
       have We:z.2.1.p.length=p.length:=by rw[Yg];exact Vu
       refine⟨((z.2.2.1,z.2.2.2),Vh,O),by rw[H,I,We,Yq];rfl,?_⟩;rw[H];have Vl:=(St.pull' (St.pull' (U.sub (aB 10)) 1 rfl) 1 rfl);rw[←Yg] at Vl;show St [] w _ [_,.row (.slice Vh z.2.1.p.length O) z.2.1.p.length _ _ _];rw[We];exact Vl
      case hB=>kernel_rfl
      case hst=>rfl
  case hB=>kernel_rfl
  case hst=>rfl
end Go.Proofs.YtcfdpfmchchkaaaGreatDoor
