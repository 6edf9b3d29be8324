/- Chapter 20 -/
import Derived.Test.YtcfdpfmchchkaaaGreatDoorRcK
namespace Go.Proofs.YtcfdpfmchchkaaaGreatDoor
set_option maxRecDepth 4000
set_option maxHeartbeats 1000000
set_option linter.unusedVariables false
set_option linter.unusedSimpArgs false
open Go.RowKit Go.Sort
theorem OkP.behind {r:RngP} (h:OkP r) {k:Nat} (a:k+1<r.rs.length):fb r.rs[k]≤r.rs[k+1].l-1:=yB h.all h.h.rr.2.2.2 k a
theorem OkP.rz {r:RngP} (h:OkP r) {k:Nat} (a:k<r.rs.length):r.rs[k].b.size≠0∧r.rs[k].b.size≤3000∧gR r.r.o (cd r.rs k) r.rs[k]=true∧bB r.rs[k].s 1 r.r.s=true∧seqB (cd r.rs k) r.rs[k]=true:=recE_zero.1 (h.all k a)
theorem OkP.mono {r:RngP} (h:OkP r):∀(d k:Nat) (a:k+d<r.rs.length),r.rs[k].l+16*d≤r.rs[k+d].l
 | 0,k,a=>by show r.rs[k].l+16*((0:Nat):Int)≤r.rs[k].l;omega
 | d+1,k,a=>by
  have Y:=h.mono d k ab;have c:=h.behind (k:=k+d) a;have Y:=(h.rz (k:=k+d) ab).1;have Y:=(h.rcd (k+d) ab).2.2;have Y:=mb Y
  have Y:16≤kQ (r.rs[k+d].b.size:Int):=by unfold kQ;omega
  unfold fb at c;show r.rs[k].l+16*((d+1:Nat):Int)≤r.rs[k+d+1].l;omega
theorem OkP.lt {r:RngP} (h:OkP r) {i j:Nat} (a:i<j) (b:j<r.rs.length):r.rs[i].l<r.rs[j].l:=by
 have:=h.mono (j-i) i ab
 have e:i+(j-i)=j:=by omega
 simp only[e] at this;omega
theorem OkP.le {r:RngP} (h:OkP r) {i j:Nat} (c:i≤j) (b:j<r.rs.length):r.rs[i].l≤r.rs[j].l:=by
 rcases Nat.lt_or_ge i j with a | a
 · have:=h.lt a b;omega
 · have e:i=j:=by omega
   subst e;exact Int.le_refl _
theorem OkP.head {r:RngP} (h:OkP r) (a:0<r.rs.length):r.rs[0].l=r.r.o:=by
 have:=(h.rz a).2.2.1;unfold gR cd at this;simp only[if_true,Bool.and_eq_true,beq_iff_eq,decide_eq_true_eq] at this;exact this.1.1
theorem OkP.next {r:RngP} (h:OkP r):(∀y,r.rs.getLast? = some y→(r.nx=fb y∨r.nx=gp (fb y))∧(y.s=r.r.s∨r.nx % 448=0))∧(r.rs=[]→r.nx=r.r.o-1∧r.nx % 448=0):=by
 have a:=h.tl.1;unfold gK at a
 constructor
 · intro y b
   rw[b] at a;simp only at a;rw[aH au] at a;simp only[Bool.and_eq_true,Bool.or_eq_true,beq_iff_eq] at a;exact a
 · intro c
   rw[c] at a;simp only[List.getLast?_nil] at a;rw[aH au] at a;simp only[Bool.and_eq_true,beq_iff_eq] at a;exact a
theorem Gi {l:List RecP} (a:0<l.length):l.getLast? = some (l[l.length-1]'ab):=by
 rw[List.getLast?_eq_getElem?,List.getElem?_eq_getElem ab]
open Go.RowKit Go.Sort
theorem EN {N:RngP} (h:OkP N) {x:ByteArray} (f:fw N x=0):OkP (de N x):=by
 unfold fw at f
 split at f
 · cases f
 rename_i q
 split at f
 · cases f
 rename_i z
 split at f
 · cases f
 rename_i h3
 split at f
 · cases f
 rename_i v
 have w:=mb (n:=x.size) ab;have u:=h.h.nx;have i:=h.h.rr;obtain⟨n1,n2⟩:=h.next
 have g:(de N x).rs.getLast? = some ⟨N.nx+1,N.r.s,x⟩:=by
  show(N.rs ++ [_]).getLast? = _;rw[List.getLast?_append];rfl
 have k:fb ⟨N.nx+1,N.r.s,x⟩=N.nx+kQ x.size:=by unfold fb;simp only;omega
 have b:(de N x).nx=N.nx+kQ x.size:=rfl;refine⟨⟨h.h.pg,h.h.rb,i,h.h.e,⟨by rw[b];omega,by rw[b];rw[b] at v;omega,by rw[b];omega⟩,?_⟩,fun m hm=>?_,?_⟩
 · show(N.rs ++ [_]).length≤100
   rw[List.length_append];show N.rs.length+1≤100;omega
 · have d:m<(N.rs ++ [(⟨N.nx+1,N.r.s,x⟩:RecP)]).length:=hm
   show fe N.r.o N.r.s (cd (N.rs ++ [⟨N.nx+1,N.r.s,x⟩]) m) ((N.rs ++ [⟨N.nx+1,N.r.s,x⟩])[m])=0;rw[List.length_append] at d;have t:m<N.rs.length+1:=d;rcases Nat.lt_or_ge m N.rs.length with a | a
   · have j:=h.all m a
     have l:(N.rs ++ [(⟨N.nx+1,N.r.s,x⟩:RecP)])[m]'(by rw[List.length_append];exact d)=N.rs[m]:=List.getElem_append_left a
     have e2:cd (N.rs ++ [(⟨N.nx+1,N.r.s,x⟩:RecP)]) m=cd N.rs m:=by
      unfold cd
      split
      · rfl
      · rw[List.getElem?_append_left ab]
     rw[l,e2];exact j
   · obtain rfl:m=N.rs.length:=by omega
     have l:(N.rs ++ [(⟨N.nx+1,N.r.s,x⟩:RecP)])[N.rs.length]'(by rw[List.length_append];exact d)=⟨N.nx+1,N.r.s,x⟩:=by
      rw[List.getElem_append_right ab];simp
     rw[l,recE_zero];refine⟨q,by show x.size≤3000;omega,?_,?_,?_⟩
     · rcases Nat.eq_zero_or_pos N.rs.length with a | a
       · have e2:cd (N.rs ++ [(⟨N.nx+1,N.r.s,x⟩:RecP)]) N.rs.length=none:=by unfold cd;rw[if_pos a]
         rw[e2];obtain⟨C,A⟩:=n2 (List.eq_nil_of_length_eq_zero a);have B:=h.o1;unfold gR;simp only[Bool.and_eq_true,beq_iff_eq,decide_eq_true_eq];omega
       · have e2:cd (N.rs ++ [(⟨N.nx+1,N.r.s,x⟩:RecP)]) N.rs.length=some (N.rs[N.rs.length-1]'ab):=by
          unfold cd;rw[if_neg ab,List.getElem?_append_left ab,List.getElem?_eq_getElem ab]
         rw[e2];have j:=(n1 _ (Gi a)).1;unfold gR;simp only[Bool.or_eq_true,beq_iff_eq];omega
     · rw[inB_true];exact⟨i.1.1,Int.le_refl _⟩
     · rcases Nat.eq_zero_or_pos N.rs.length with a | a
       · have e2:cd (N.rs ++ [(⟨N.nx+1,N.r.s,x⟩:RecP)]) N.rs.length=none:=by unfold cd;rw[if_pos a]
         rw[e2];rfl
       · have e2:cd (N.rs ++ [(⟨N.nx+1,N.r.s,x⟩:RecP)]) N.rs.length=some (N.rs[N.rs.length-1]'ab):=by
          unfold cd;rw[if_neg ab,List.getElem?_append_left ab,List.getElem?_eq_getElem ab]
         rw[e2];have j:=(n1 _ (Gi a)).2;have y:=(inB_true.1 (recE_zero.1 (h.all (N.rs.length-1) ab)).2.2.2.1).2;unfold seqB;simp only[Bool.or_eq_true,Bool.and_eq_true,beq_iff_eq,decide_eq_true_eq];omega
 · unfold kS
   rw[aN];intro e p;simp only[List.mem_cons,List.not_mem_nil,or_false] at p;rcases p with rfl | rfl | rfl
   · unfold gK
     rw[g];simp only;rw[aH au,k,b];show((N.nx+kQ x.size==N.nx+kQ x.size||_)&&(N.r.s==N.r.s||_))=true;simp
   · rw[aH au,Bool.or_eq_true,beq_iff_eq]
     rcases h.tl.2.1 with a | a
     · exact .inl a
     · right
       show pF (N.rs ++ [_]) N.r.c=true;unfold pF at a ⊢;rw[List.any_append,a];rfl
   · rw[aH au,decide_eq_true_eq]
     show(eL (de N x)).2≤N.pg-2;omega
open Go.RowKit Go.Sort Go.Shelf
def AI (a e2:Ent):Ent:=.inv (fun b=>a.dom b∨e2.dom b) (fun X=>(a.ok X∧e2.ok X)∧∀b,a.dom b→¬e2.dom b)
 (fun X X' h c=>⟨⟨Ent.ok_of h.1.1 fun b h'=>c b (.inl h'),Ent.ok_of h.1.2 fun b h'=>c b (.inr h')⟩,h.2⟩)
theorem ie {M:List Nat} {w X:World} {b e2:Ent} {L:List Ent} (h:St M w X (AI b e2::L)):St M w X (b::e2::L):=by
 have k:=h.at_ (i:=0) rfl;exact h.split2 k.1.1 k.1.2 (fun q a=>.inl a) (fun q a=>.inr a) k.2
theorem ff {M:List Nat} {w X:World} {a e2:Ent} {L:List Ent} (h:St M w X (a::e2::L)):St M w X (AI a e2::L):=
 h.fuse2 (fun b c=>c) ⟨⟨h.at_ (i:=0) rfl,h.at_ (i:=1) rfl⟩,(List.pairwise_cons.1 h.sep).1 e2 List.mem_cons_self⟩
structure Upl where
 r:RngP
 p:List Pgp
 n:Int
structure UdS where
 r:RngP
 own:Bool
 A:Option Addr
 c:Nat
 p:List Pgp
 PA:Option Addr
 pc:Nat
 n:Int
def UdS.pl (s:UdS):Upl:=⟨s.r,s.p,s.n⟩
def BI (s:UdS):List Value:=[ae s.r.pg,ae s.r.r.s,ae s.r.r.c,ae s.r.r.o,ae s.r.e.s,ae s.r.e.c,ae s.r.e.o,.slice s.A s.r.rs.length s.c,ae s.r.nx,.slice s.PA s.p.length s.pc,ae s.n]
def rR (s:UdS):Ent:=bif s.own then .row (.slice s.A s.r.rs.length s.c) s.r.rs.length 177 3 (aW s.r.rs) else GI
def CV (s:UdS):Ent:=.row (.slice s.PA s.p.length s.pc) s.p.length 111 3 (s.p.flatMap bX)
def rU (b:Nat) (s:UdS):Ent:=AI (.box b (BI s).toArray 192) (AI (CV s) (rR s))
theorem rF {M:List Nat} {w X:World} {b:Nat} {s:UdS} {L:List Ent} (h:St M w X (rU b s::L)):St M w X (.box b (BI s).toArray 192::CV s::rR s::L):=
 St.perm (L:=CV s::rR s::.box b (BI s).toArray 192::L) (ie (St.perm (L:=.box b (BI s).toArray 192::AI (CV s) (rR s)::L) (ie h) (List.Perm.swap _ _ _)))
  ((List.Perm.swap _ _ _).trans (List.Perm.cons _ (List.Perm.swap _ _ _)))
theorem jZ {M:List Nat} {w X:World} {b:Nat} {s:UdS} {L:List Ent} (h:St M w X (.box b (BI s).toArray 192::CV s::rR s::L)):St M w X (rU b s::L):=
 ff (St.perm (ff (St.perm h ((List.Perm.cons _ (List.Perm.swap _ _ _)).trans (List.Perm.swap _ _ _)))) (List.Perm.swap _ _ _))
theorem F5 {M:List Nat} {w X:World} {L:List Ent} {s:UdS} {a i:Nat} (h:St M w X L) (c:L[i]? = some (rR s)) (d:∀b∈M,a≤b) (hB:a≤w.heap.size) (hr:s.own=false→Rd w a s.A (aW s.r.rs)):Rd X X.heap.size s.A (aW s.r.rs):=by
 cases ho:s.own with
 | true=>
  unfold rR at c;rw[ho] at c;exact h.rdOf c
 | false=>exact((h.rdBase d hB (hr ho)).mono (Nat.le_trans hB h.size))
def cY (r:RngP) (x:Lge):Int:=if cA x≠0 then cA x else if (cn r).2≠0 then (cn r).2 else fw r (aQ x)
def gC (r:RngP) (x:Lge):Int:=if cY r x=0 then r.nx+1 else 0
def fF (r:RngP) (x:Lge):RngP:=if cY r x=0 then de r (aQ x) else r
def iI (s:UdS) (x:Lge) (i:Option Addr × Nat):UdS:=if cY s.r x=0 then ⟨de s.r (aQ x),true,i.1,i.2,s.p,s.PA,s.pc,s.n⟩ else s
theorem mK (s:UdS) (x:Lge) (i:Option Addr × Nat):(iI s x i).pl=⟨fF s.r x,s.p,s.n⟩:=by
 unfold iI fF UdS.pl
 split<;>rfl
theorem DB {r:RngP} (h:OkP r) (x:Lge):OkP (fF r x):=by
 unfold fF
 split
 · rename_i a
   unfold cY at a
   split at a
   · rename_i b;exact absurd a b
   · split at a
     · rename_i b;exact absurd a b
     · exact EN h a
 · exact h
def dk (i l:Int):Lge:=⟨4,i,l,0,0,false,GW,⟨#[]⟩⟩
def cS (x:Lsr) (e:Lge):Lge:=⟨1,x.i,x.l,e.p,e.g,e.f,bO e.o,⟨#[]⟩⟩
def iO (s:Upl) (i l:Int):Upl × Int:=(⟨fF s.r (dk i l),s.p,s.n⟩,cY s.r (dk i l))
def iv (s:Upl) (x:Lsr) (e:Lge):Upl × Lsr × Int:=
 if cY s.r (cS x e)≠0 then (s,x,cY s.r (cS x e)) else match ib s.p e.g with
 | none=>(s,x,0)
 | some q=>if (bz q.b (bO e.o)).2≠0 then (s,x,(bz q.b (bO e.o)).2) else
  (⟨fF s.r (cS x e),eY s.p e.g (zv q (bz q.b (bO e.o)).1 (gC s.r (cS x e))),s.n+1⟩,⟨x.i,gC s.r (cS x e),x.u⟩,0)
def xr (s:Upl) (x:Lsr):Upl × Lsr × Int:=if x.u=0 then ((iO s x.i x.l).1,x,(iO s x.i x.l).2) else (s,x,0)
def oP:lD Upl:=fun s x r=>if r.e.k=0 then (if (iv s x r.e).2.2≠0 then iv s x r.e else xr (iv s x r.e).1 (iv s x r.e).2.1) else xr s x
theorem nM (s:Upl) (x:Lsr) (e:Lge):(iv s x e).2.1.u=x.u∧(iv s x e).2.1.i=x.i:=by
 unfold iv
 split
 · exact⟨rfl,rfl⟩
 · split
   · exact⟨rfl,rfl⟩
   · split<;>exact⟨rfl,rfl⟩
theorem vE (s:Upl) (x:Lsr):(xr s x).2.1=x:=by unfold xr;split<;>rfl
theorem CQ:Dw oP:=fun s x r=>by
 unfold oP
 split
 · split
   · exact nM _ _ _
   · rw[vE];exact nM _ _ _
 · rw[vE];exact⟨rfl,rfl⟩
open Go.RowKit Go.Sort Go.Shelf
theorem zr {r:RngP} {x:Lge} (h:cA x=0):cY r x=if (cn r).2=0 then fw r (aQ x) else (cn r).2:=by
 unfold cY;rw[if_neg (fun q=>q h)];by_cases a:(cn r).2=0
 · rw[if_neg (fun q=>q a),if_pos a]
 · rw[if_pos a,if_neg a]
theorem EV (b:Nat) (s:UdS) (x:Lge) (u:Nat) (M:List Nat) (w:World) (hx:FewE x) (J:s.r.rs.length≤1000) (F:∀y∈s.r.rs,I6 y.l) (E:∀b∈M,u≤b) (hB:u≤w.heap.size) (D:s.own=false→Rd w u s.A (aW s.r.rs)) (G:St M w w [rU b s]) :
 Calls Tryz.prog 116 #[.pointer (some ⟨b,0,none⟩),cy x] w fun e K=>∃i:Option Addr × Nat,e=.returned (.tuple #[ae (gC s.r x),ae (cY s.r x)])∧St M w K [rU b (iI s x i)]:=by
 have z:=rF G;refine an (N:=36) Tryz.func116 rfl rfl rfl (fun _ Y=>?_);have Z:=z;refine aj (aq ?_);refine nb Y rfl rfl Z fun Q _ _ L t Z=>GO 6 ?_;intro _ Y;refine sv (v:=cy x) Y (ah aa aa (Y.ev rfl) (Z.cellsAll (i:=0) rfl)) fun _ Y=>?_;refine cQ Y rfl Z (qZ x _ hx.o hx.n (Nat.le_trans hx.d au)) fun _ _ Y Z=>?_;refine GO 14 ?_;intro _ Y;refine ak (Y.ev rfl) (fun C=>?_) (fun C=>?_)
 ·
  have k:cA x≠0:=al C
  have a:cY s.r x=cA x:=by unfold cY;rw[if_pos k]
  have e2:gC s.r x=0:=by unfold gC;rw[if_neg (by rw[a];exact k)]
  have e3:∀i,iI s x i=s:=fun i=>by unfold iI;rw[if_neg (by rw[a];exact k)]
  refine GO 9 ?_;intro _ Y;refine bU Y rfl rfl rfl ?_;refine⟨(none,0),by first | (rw[a,e2];done) | (rw[a,e2];rfl),?_⟩;rw[e3];exact jZ (St.pull' (St.pull' (St.pull' (Z.sub (aB 14)) 2 rfl) 2 rfl) 2 rfl)
 ·
  have k:cA x=0:=al C;have a:=zr (r:=s.r) k;refine GO 7 ?_;intro _ Y;refine sv (v:=bm s.r s.A s.c) Y (ah aa aa (Y.ev rfl) (Z.cellsOf (i:=1) rfl 0 9)) fun _ Y=>?_;refine GO 1 ?_;intro _ Y;refine u6 Y (wn rfl) (aw a6 (Y.evs rfl) rfl) rfl rfl Z (uo s.r s.A s.c (aQ x) _ (F5 Z (i:=3) rfl E hB D) J F) (Nat.le_refl _) fun h g _ _ Y Z=>GO 1 ?_;intro _ Y;refine sv (v:=bm (if (cn s.r).2=0 then fT s.r (aQ x) else eF) h g) Y (bN (Y.ev rfl) rfl) fun _ Y=>?_;refine GO 2 ?_;intro _ Y;refine na (.agg gU) Y rfl Z fun O _ _ P Y Z=>sw Y Z 0 fun _ Z=>?_;refine GO 11 ?_;intro _ Y;refine ak (Y.ev rfl) (fun B=>?_) (fun B=>?_)
  ·
   have f:cY s.r x=0:=by rw[a];simpa using B
   have j:(cn s.r).2=0:=by
    by_cases t:(cn s.r).2=0
    · exact t
    · rw[a,if_neg t] at f;exact absurd f t
   have m:fw s.r (aQ x)=0:=by rw[a,if_pos j] at f;exact f
   have I:(if (cn s.r).2=0 then fT s.r (aQ x) else eF)=de s.r (aQ x):=by rw[if_pos j];unfold fT;rw[if_pos m]
   have e2:gC s.r x=s.r.nx+1:=by unfold gC;rw[if_pos f]
   have e3:∀i,iI s x i=⟨de s.r (aQ x),true,i.1,i.2,s.p,s.PA,s.pc,s.n⟩:=fun i=>by unfold iI;rw[if_pos f]
   rw[I] at Y Z;rw[if_pos (⟨j,m⟩:(cn s.r).2=0∧fw s.r (aQ x)=0)] at Y;refine GO 2 ?_;intro _ Y;refine sv (v:=bm (de s.r (aQ x)) h g) Y (ah aa aa (Y.ev rfl) (Z.cellsAll (i:=0) rfl)) fun _ Y=>?_;refine GO 2 ?_;intro _ Y;refine aS Y (wn rfl) ⟨rfl,rfl⟩ (Y.ev rfl) (Y.ev rfl) rfl aa Z (i:=3) rfl rfl rfl fun _ Z=>GO 11 ?_;intro _ Y;refine bU Y rfl rfl rfl ?_;refine⟨(h,g),by first | (rw[a,e2];done) | (rw[a,e2];rfl),?_⟩;rw[e3];exact jZ (s:=⟨de s.r (aQ x),true,h,g,s.p,s.PA,s.pc,s.n⟩) (St.pull' (St.pull' (Z.sub (aB 26)) 2 rfl) 2 rfl)
  ·
   have f:cY s.r x≠0:=by rw[a];simpa using B
   have H:¬((cn s.r).2=0∧fw s.r (aQ x)=0):=fun q=>f (by rw[a,if_pos q.1];exact q.2)
   have e2:gC s.r x=0:=by unfold gC;rw[if_neg f]
   have e3:∀i,iI s x i=s:=fun i=>by unfold iI;rw[if_neg f]
   rw[if_neg H] at Y;refine GO 11 ?_;intro _ Y;refine bU Y rfl rfl rfl ?_;refine⟨(none,0),by first | (rw[a,e2];done) | (rw[a,e2];rfl),?_⟩;rw[e3];exact jZ (St.pull' (St.pull' (St.pull' (Z.sub (aB 56)) 2 rfl) 2 rfl) 2 rfl)
theorem B8 {M:List Nat} {w X:World} {L:List Ent} {e:Ent} {a k:Nat} (d:St M w X (e::L)) (i:∀b∈M,a≤b) (hB:a≤w.heap.size) (g:k∈eh X [e]):a≤k:=by
 obtain⟨_,f,hf,c⟩:=mem_domsL.1 g;rw[List.mem_singleton.1 hf] at c;rcases (d.new e List.mem_cons_self k c).1 with h | h
 · omega
 · exact i k h
theorem DM (b:Nat) (s:UdS) (x:Lge) (c:Nat) {M:List Nat} {w X:World} {L:List Ent} (hx:FewE x) (o:s.r.rs.length≤1000) (n:∀y∈s.r.rs,I6 y.l) (f:∀b∈M,c≤b) (hB:c≤w.heap.size) (d:s.own=false→Rd w c s.A (aW s.r.rs)) (a:St M w X (rU b s::L)) :
 Calls Tryz.prog 116 #[.pointer (some ⟨b,0,none⟩),cy x] X fun e X'=>∃i:Option Addr × Nat,e=.returned (.tuple #[ae (gC s.r x),ae (cY s.r x)])∧St M w X' (rU b (iI s x i)::L):=
 (EV b s x c _ X hx o n (fun k g=>B8 a f hB g) (Nat.le_trans hB a.size) (fun j=>a.rdBase f hB (d j)) (St.frontL (L1:=[rU b s]) a)).mono fun e X' ⟨i,m,h⟩=>⟨i,m,St.outer2 (L1:=[rU b s]) a h⟩
theorem E3 (b:Nat) (s:UdS) (i l:Int) (a:Nat) (M:List Nat) (w:World) (p:s.r.rs.length≤1000) (h:∀y∈s.r.rs,I6 y.l) (g:∀b∈M,a≤b) (hB:a≤w.heap.size) (f:s.own=false→Rd w a s.A (aW s.r.rs)) (m:St M w w [rU b s]) :
 Calls Tryz.prog 179 #[.pointer (some ⟨b,0,none⟩),ae i,ae l] w fun e q=>∃j:Option Addr × Nat,e=.returned (ae (cY s.r (dk i l)))∧St M w q [rU b (iI s (dk i l) j)]:=by
 have d:FewE (dk i l):=⟨Nat.zero_le _,Nat.zero_le _,Nat.zero_le _⟩;refine an (N:=18) Tryz.func179 rfl rfl rfl (fun _ Y=>?_);have n:=m;refine GO 10 ?_;intro _ Y;refine sv (v:=cy (dk i l)) Y (az (zs:=km) (pl:=j7) aa aa (Y.evs2 rfl) rfl rfl) fun _ Y=>?_;refine dJ Y (wn rfl) (aw a6 (Y.evs rfl) rfl) rfl rfl (DM b s (dk i l) a d p h g hB f n) fun t u ⟨k,c,o⟩=>⟨_,c,fun _ x=>?_⟩;refine GO 14 ?_;intro _ Y;refine aC Y rfl rfl ?_;exact⟨k,rfl,o⟩
open Go.RowKit Go.Sort Go.Shelf
theorem En {ls:List (Nat × Lsr)} (a:(ls.map Prod.fst).Nodup) {m:Nat × Lsr} (hm:m∈ls) (v:Int):lB ls m.1 1 v=gn ls m.1 ⟨m.2.i,v,m.2.u⟩:=by
 unfold lB gn;apply List.map_congr_left;intro x hx;by_cases e:x.1=m.1
 · rw[if_pos e,if_pos e]
   have:x=m:=fA a hx hm e;rw[this];rfl
 · rw[if_neg e,if_neg e]
theorem zK (p:List Pgp) (g:Int) (a b:ByteArray):eY (eY p g a) g b=eY p g b:=by
 unfold eY;rw[List.map_map];apply List.map_congr_left;intro q _;show(if (if q.g=g then (⟨q.g,q.f,a⟩:Pgp) else q).g=g then (⟨(if q.g=g then (⟨q.g,q.f,a⟩:Pgp) else q).g,(if q.g=g then (⟨q.g,q.f,a⟩:Pgp) else q).f,b⟩:Pgp) else (if q.g=g then (⟨q.g,q.f,a⟩:Pgp) else q))=if q.g=g then ⟨q.g,q.f,b⟩ else q;by_cases h:q.g=g
 · rw[if_pos h,if_pos (show(⟨q.g,q.f,a⟩:Pgp).g=g from h),if_pos h]
 · rw[if_neg h,if_neg h]
theorem nq {x:Lsr} {e:Lge} (h:FewE e):FewE (cS x e):=by
 have a:(bO e.o).o=e.o.n∧(bO e.o).n=e.o.o:=by
  unfold bO
  repeat' split
  all_goals exact⟨rfl,rfl⟩
 exact⟨by show(bO e.o).o.size≤_;rw[a.1];exact h.n,by show(bO e.o).n.size≤_;rw[a.2];exact h.o,Nat.zero_le _⟩
theorem Fx (b:Nat) (s:UdS) (ls:List (Nat × Lsr)) (m:Nat × Lsr) (e:Lge) (q:Pgp) (B0:Nat) (M:List Nat) (w:World) (hm:m∈ls) (hx:FewE e) (Vm:gy e.o=0) (hg:I6 e.g) (hk:OkP s.r) (hl:∀y∈s.r.rs,I6 y.l) (j:PgsOk s.p) (V:ib s.p e.g=some q) (hn:0≤s.n∧s.n<1000000)
 (hM:∀b∈M,B0≤b) (hB:B0≤w.heap.size) (Vj:s.own=false→Rd w B0 s.A (aW s.r.rs)) (hS:St M w w [dL ls,rU b s]) :
 Calls Tryz.prog 181 #[.pointer (some ⟨b,0,none⟩),eb m,cy e] w fun r w'=>∃p:List (Nat × Lsr) × UdS,r=.returned (ae (iv s.pl m.2 e).2.2)∧(((iv s.pl m.2 e).2.2=0→p.1=gn ls m.1 (iv s.pl m.2 e).2.1∧p.2.pl=(iv s.pl m.2 e).1∧p.2.own=true∧cY s.r (cS m.2 e)=0∧p.2.r=de s.r (aQ (cS m.2 e)))∧p.1.map Prod.fst=ls.map Prod.fst)∧St M w w' [dL p.1,rU b p.2]:=by
 have Vo:=(hS.at_ (i:=0) rfl).2
 have Jz:s.r.rs.length≤1000:=by have:=hk.h.len;omega
 have Vl:∀x∈s.p,0≤x.g∧x.g≤600:=fun x hx=>by
  obtain⟨k,hk,rfl⟩:=List.getElem_of_mem hx;exact(j.all k hk).g
 have Vr:=j.n;obtain⟨C,hC⟩:∃C,C=iv s.pl m.2 e:=⟨_,rfl⟩;have a:=hC;rw[←hC];unfold iv at a;rw[show ib s.pl.p e.g=some q from V] at a;simp only[] at a;refine an (N:=93) Tryz.func181 rfl rfl rfl (fun _ Y=>?_);have Z:=hS;refine aj (aq ?_);refine nb Y rfl rfl Z fun b5 _ _ Zq Y Z=>GO 6 ?_;intro _ Y;refine sv (v:=fj e.o) Y (ah aa aa (Y.ev rfl) (Z.cellsOf (i:=0) rfl 6 6)) fun _ Y=>?_;refine cQ Y rfl Z (qG e.o _ Vm) fun _ _ Y Z=>?_;refine GO 1 ?_;intro _ Y;refine sv (v:=fj (bO e.o)) Y (bN (Y.ev rfl) rfl) fun _ Y=>?_;refine GO 1 ?_;intro _ Y;refine na (.agg qo) Y rfl Z fun b7 _ _ Zr h9 Z=>sw h9 Z 0 fun _ Z=>?_;refine GO 4 ?_;intro _ Y;apply rj Y 17 aa
 case h=>
  refine GO 3 ?_;intro _ Y;refine qv Y (fun X d=>fy 0 (Y.ev rfl)) fun _ Y=>?_;refine qv Y (fun X d=>lx (Y.ev rfl) (Box.cells (((Z.grow d).at_ (i:=2) rfl).1 _ hm) 0)) fun _ Y=>?_;refine GO 2 ?_;intro _ Y;refine qv Y (fun X d=>fy 1 (Y.ev rfl)) fun _ Y=>?_;refine qv Y (fun X d=>lx (Y.ev rfl) (Box.cells (((Z.grow d).at_ (i:=2) rfl).1 _ hm) 1)) fun _ Y=>?_;refine GO 6 ?_;intro _ Y;refine qv (v:=fj (bO e.o)) Y (fun X d=>ah aa aa (Y.ev rfl) ((Z.grow d).cellsAll (i:=0) rfl)) fun _ Y=>?_;refine qv (v:=cy (cS m.2 e)) Y (fun X d=>az (zs:=km) (pl:=j7) aa aa (Y.evs2 rfl) rfl rfl) fun _ Y=>?_;refine ax ?_;intro _ Ze;have Z:=Z.grow Ze;refine dJ Y (wn rfl) (aw a6 (Y.evs rfl) rfl) rfl rfl (DM b s (cS m.2 e) B0 (nq hx) Jz hl hM hB Vj (St.pull' (St.pull' (St.pull' Z 1 rfl) 2 rfl) 3 rfl)) fun e9 Zs ⟨c,Vp,Zm⟩=>⟨_,Vp,fun _ Zn=>?_⟩;refine⟨Zn.size,?_⟩;refine GO 6 ?_;intro _ Y;intro _ Zf;have Z:=Zm.grow Zf;replace Z:=rF Z;refine GO 8 ?_;intro _ Y;refine ak (Y.ev rfl) (fun Zg=>?_) (fun Zg=>?_)
  ·
   have I:cY s.r (cS m.2 e)≠0:=al Zg;rw[show cY s.pl.r (cS m.2 e)=cY s.r (cS m.2 e) from rfl,if_pos I] at a
   have e3:iI s (cS m.2 e) c=s:=by unfold iI;rw[if_neg I]
   refine GO 8 ?_;intro _ Y;refine aC Y rfl rfl ?_;refine⟨(ls,s),by rw[a];(try rfl),⟨fun h=>absurd h (by rw[a];exact I),rfl⟩,?_⟩;rw[e3] at Z;exact St.pull' (jZ (St.pull' (St.pull' (St.pull' (St.pull' (Z.sub (aB 15)) 3 rfl) 3 rfl) 3 rfl) 3 rfl)) 1 rfl
  ·
   have I:cY s.r (cS m.2 e)=0:=al Zg;rw[show cY s.pl.r (cS m.2 e)=cY s.r (cS m.2 e) from rfl,if_neg (fun h=>h I)] at a
   have e3:iI s (cS m.2 e) c=⟨de s.r (aQ (cS m.2 e)),true,c.1,c.2,s.p,s.PA,s.pc,s.n⟩:=by unfold iI;rw[if_pos I]
   rw[e3] at Z;obtain⟨N,hN⟩:∃N,N=gC s.r (cS m.2 e):=⟨_,rfl⟩;rw[show gC s.pl.r (cS m.2 e)=gC s.r (cS m.2 e) from rfl,←hN] at a;rw[←hN] at Y
   have Vu:0≤N∧N≤2147483647:=by
    have h9:=hk.h.nx;rw[hN];unfold gC;rw[if_pos I];omega
   refine wp_skip (ai (aj ?_));apply aK Y (fK 6) _ aa
   case h=>
    refine GO 2 ?_;intro _ Y;refine qv Y (fun X d=>fx 9 9 (Y.ev rfl)) fun _ Y=>?_;refine GO 4 ?_;intro _ Y;refine aT fun _ Zh Zo=>?_;have Z:=Z.grow Zh;refine cQ Y rfl Z (tP s.p j.srt Vl s.PA s.pc e.g hg _ (Z.rdOf (i:=1) rfl) ab) fun _ _ Y Z=>?_;refine GO 1 ?_;intro _ Zi;obtain⟨b',o',Vq,qk,q1,q2,q3⟩:=mv j.srt (Z.rdOf (i:=1) rfl) (ow j.srt (Z.rdOf (i:=1) rfl) V);rw[Vq] at Zi Z q3;obtain rfl:o'=0:=lg (Z.at_ (i:=1) rfl);rw[Nat.zero_add] at q3;generalize jU Pgp.g s.p e.g=k at qk q1 q2 q3
    have Vi:q=s.p[k]:=by have h9:=V;rw[q2] at h9;injection h9 with e9;exact e9.symm
    subst Vi;have Zc:=(j.all k qk).b
    have Q:jM s.p[k].b (bO e.o)=bz s.p[k].b (bO e.o):=by unfold jM;rw[if_neg (fun h=>h (by unfold cI;rw[Zc];rfl))]
    obtain⟨T,hT⟩:∃T,T=bz s.p[k].b (bO e.o):=⟨_,rfl⟩;rw[←hT] at a Q;rw[q3] at Zi;obtain⟨t,z⟩:∃t,t=eY s.p e.g T.1:=⟨_,rfl⟩;have U:=jP j.srt qk T.1;rw[q1,←z] at U
    have J:t.length=s.p.length:=by rw[z,eB]
    have H:k<t.length:=by rw[J];exact qk
    have Jv:t[k]=⟨s.p[k].g,s.p[k].f,T.1⟩:=by
     subst z;rw[qg H qk,if_pos q1]
    have Vc:=nq (x:=m.2) hx
    have Vh:∀X,bu 96 #[.string s.p[k].b,fj (bO e.o)] X (.tuple #[.string T.1,ae T.2]):=fun X=>by
     have:=pa s.p[k].b (bO e.o) X (by rw[Zc];decide) Vc.o Vc.n;rw[Q] at this;exact this
    refine ag (ai (aj (aj ?_)));apply eG Zi (St.domAt Z (i:=1) rfl) [(12,(St.domAt Z (i:=1) rfl))] [] [false,false,false,false,true,false,true,true,true,true,false,false,true] _ aa (ia (fun b E=>E))
    case h=>
     refine GO 3 ?_;intro _ Y;refine qv Y (fun X d=>fy 2 (Y.ev rfl)) fun _ Y=>?_;refine qv (v:=fj (bO e.o)) Y (fun X d=>ah aa aa (Y.ev rfl) ((Z.growO (i:=1) rfl d).cellsAll (i:=5) rfl)) fun _ Y=>?_;refine GO 1 ?_;intro _ Y;refine qv Y (fun X d=>fy 2 (Y.ev rfl)) fun _ Y=>?_;refine ax ?_;apply D6 (k:=4) (deps:=[]) (R:=IsVal _) Y rfl rfl rfl aa IsVal.stable (ia IsVal.kp) bG
     case hx=>exact fun X d G=>vc (lx (Y.ev rfl) (by have:=(aL aY ((Z.grow d).rdOf (i:=1) rfl) qk) 2 _ rfl;rw[Nat.zero_add] at this;exact this))
     intro Vd _ Y;apply cE (O:=(St.domAt Z (i:=1) rfl)) (k:=6) (deps:=[4]) (R:=IsVal _) Y rfl rfl rfl (ia (fun b E=>E)) IsVal.stable (ia IsVal.kp) bG
     case hx=>
      intro X d G;obtain rfl:Vd=_:=(aM (k:=4) G rfl rfl);exact Gs (aw a6 (Y.evs rfl) rfl) (Vh _)
     intro Va _ Y;apply cE (O:=(St.domAt Z (i:=1) rfl)) (k:=7) (deps:=[6]) (R:=IsVal (.tuple #[.string T.1,ae T.2])) Y rfl rfl rfl (ia (fun b E=>E)) IsVal.stable (ia IsVal.kp) bG
     case hx=>exact fun X d G=>(by obtain rfl:Va=_:=(aM (k:=6) G rfl rfl);exact vc (bD (Y.ev rfl)))
     intro Jx _ Y;apply cE (O:=(St.domAt Z (i:=1) rfl)) (k:=8) (deps:=[7]) (R:=IsVal (.string T.1)) Y rfl rfl rfl (ia (fun b E=>E)) IsVal.stable (ia IsVal.kp) bG
     case hx=>exact fun X d G=>(by obtain rfl:Jx=_:=(aM (k:=7) G rfl rfl);exact vc (bN (Y.ev rfl) rfl))
     intro Vf _ Y;apply cE (O:=(St.domAt Z (i:=1) rfl)) (k:=9) (deps:=[7]) (R:=IsVal (ae T.2)) Y rfl rfl rfl (ia (fun b E=>E)) IsVal.stable (ia IsVal.kp) bG
     case hx=>exact fun X d G=>(by obtain rfl:Jx=_:=(aM (k:=7) G rfl rfl);exact vc (bN (Y.ev rfl) rfl))
     intro Vk _ Y;apply GH (k:=12) (deps:=[8]) (R:=IsRow _ _ _ _ _) Y rfl rfl rfl IsRow.stable bG
     case hx=>exact fun X d G=>AF rfl (Y.ev rfl) ((Y.ev rfl).trans (aM (k:=8) G rfl rfl)) rfl aa ((Z.grow d).at_ (i:=1) rfl) rfl (by show k*3+2+1≤s.p.length*3;omega)
     intro Vb;refine iA (O:=(St.domAt Z (i:=1) rfl)) (ia (fun b E=>E)) fun Zp Zj Za=>?_;have q4:Vd=_:=aD Za (k:=4) rfl;subst q4;have q6:Va=_:=aD Za (k:=6) rfl;subst q6;have q7:Jx=_:=aD Za (k:=7) rfl;subst q7;have q8:Vf=_:=aD Za (k:=8) rfl;subst q8;have q9:Vk=_:=aD Za (k:=9) rfl;subst q9;have B:=Z.growSet (i:=1) rfl Zj (aD Za (k:=12) rfl:IsRow _ _ _ _ _ Vb Zp);refine GO 1 ?_;intro _ Y;replace B:=St.rowTo (i:=1) (A:=some ⟨b',0,none⟩) B rfl J.symm U.symm
     have Vn:BI ⟨de s.r (aQ (cS m.2 e)),true,c.1,c.2,s.p,some ⟨b',0,none⟩,s.pc,s.n⟩=BI ⟨de s.r (aQ (cS m.2 e)),true,c.1,c.2,t,some ⟨b',0,none⟩,s.pc,s.n⟩:=by unfold BI;rw[J]
     rw[Vn] at B;have Vt:(⟨de s.r (aQ (cS m.2 e)),true,c.1,c.2,t,some ⟨b',0,none⟩,s.pc,s.n⟩:UdS).n=s.n:=rfl;refine GO 8 ?_;intro _ Y;refine ak (Y.ev rfl) (fun Zk=>?_) (fun Zk=>?_)
     ·
      have ht:T.2≠0:=al Zk;rw[if_pos ht] at a;refine GO 8 ?_;intro _ Y;refine aC Y rfl rfl ?_;refine⟨(ls,⟨de s.r (aQ (cS m.2 e)),true,c.1,c.2,t,some ⟨b',0,none⟩,s.pc,s.n⟩),by rw[a];(try rfl),⟨fun h=>absurd h (by rw[a];exact ht),rfl⟩,?_⟩;exact St.pull' (jZ (s:=⟨de s.r (aQ (cS m.2 e)),true,c.1,c.2,t,some ⟨b',0,none⟩,s.pc,s.n⟩) (St.pull' (St.pull' (St.pull' (St.pull' (B.sub (aB 15)) 3 rfl) 3 rfl) 3 rfl) 3 rfl)) 1 rfl
     ·
      have ht:T.2=0:=al Zk;rw[if_neg (fun h=>h ht)] at a
      have Jw:T.1.size=512:=by rw[hT] at ht ⊢;exact iK Zc ht
      have S:=pV j e.g T.1 Jw;rw[←z] at S
      have Ve:Fi T.1 N=0:=by
       unfold Fi;rw[aN];simp only[List.mem_cons,List.not_mem_nil,or_false,forall_eq_or_imp,forall_eq];exact⟨by unfold cI;rw[Jw];rfl,(aH au).2 (inB_true.2 ⟨by omega,by omega⟩)⟩
      obtain⟨P,hP⟩:∃P,P=eY s.p e.g (zv s.p[k] T.1 N):=⟨_,rfl⟩;rw[show eY s.pl.p e.g (zv s.p[k] T.1 N)=P from hP.symm] at a
      have W:P.length=t.length:=by rw[hP,eB,J]
      have Vg:BI ⟨de s.r (aQ (cS m.2 e)),true,c.1,c.2,P,some ⟨b',0,none⟩,s.pc,s.n⟩=BI ⟨de s.r (aQ (cS m.2 e)),true,c.1,c.2,t,some ⟨b',0,none⟩,s.pc,s.n⟩:=by unfold BI;rw[W]
      have Vs:(⟨de s.r (aQ (cS m.2 e)),true,c.1,c.2,P,some ⟨b',0,none⟩,s.pc,s.n⟩:UdS).n=s.n:=rfl;rw[←Vg] at B;refine GO 7 ?_;intro _ Y;refine sv Y (fy 1 (Y.ev rfl)) fun _ Y=>?_;refine sv Y (lx (Y.ev rfl) (by have:=(aL aY (B.rdOf (i:=1) rfl) H) 1 (.bool s.p[k].f) (by rw[Jv];rfl);rw[Nat.zero_add] at this;exact this)) fun _ Y=>?_;refine GO 3 ?_;intro _ Zd;refine ng (F:=True) Zd B [(10,ae 0)] [9,6,0,1] (fun L=>L.set 1 (.row (.slice (some ⟨b',0,none⟩) P.length s.pc) P.length 111 3 (P.flatMap bX))) ?_ (fun _ _ Y Z K=>?_)
      ·
       refine ak (Zd.ev rfl) (fun Zl=>?_) (fun Zl=>?_)
       ·
        have hf:s.p[k].f=false:=al Zl;have D:=jP S.srt H (zF T.1 N);rw[show t[k].g=e.g by rw[Jv];exact q1] at D
        have Jy:eY t e.g (zF T.1 N)=P:=by
         rw[hP,z,zK];unfold zv;rw[hf];rfl
        rw[Jy] at D;refine GO 4 ?_;intro _ Y;refine sv Y (fy 2 (Y.ev rfl)) fun _ Y=>?_;refine sv Y (lx (Y.ev rfl) (by have:=(aL aY (B.rdOf (i:=1) rfl) H) 2 (.string T.1) (by rw[Jv];rfl);rw[Nat.zero_add] at this;exact this)) fun _ Y=>?_;refine GO 1 ?_;intro _ Y;refine cQ Y rfl B (oL T.1 N _ (by rw[Jw];decide)) fun _ _ Y Z=>?_;rw[if_pos Ve,Ve] at Y;refine GO 4 ?_;intro _ Y;refine sv Y (fy 2 (Y.ev rfl)) fun _ Y=>?_;refine fB Y (wn rfl) ⟨rfl,rfl⟩ (Y.ev rfl) (Y.ev rfl) rfl aa Z (i:=1) rfl rfl (by show k*3+2+1≤t.length*3;omega) fun _ Z=>GO 3 ?_;intro _ Y;have K:=trivial;replace Z:=St.rowTo (i:=1) (A:=some ⟨b',0,none⟩) Z rfl W.symm D.symm;exact⟨Y.re bC,Z,K⟩
       ·
        have hf:s.p[k].f=true:=al Zl
        have Jy:t=P:=by
         rw[hP,z];unfold zv;rw[hf];rfl
        refine wp_skip (ai ?_);have K:=trivial;replace B:=St.rowTo (i:=1) (A:=some ⟨b',0,none⟩) B rfl W.symm (congrArg (List.flatMap bX) Jy);rw[ht] at Zd;exact⟨Zd.re bC,B,K⟩
      ·
       refine GO 6 ?_;intro _ Y;refine sv Y (fy 1 (Y.ev rfl)) fun _ Y=>?_;refine jL (wn rfl) ⟨rfl,rfl⟩ (Y.ev rfl) (Y.ev rfl) aa Z (i:=3) rfl hm au fun _ Z=>?_;rw[show lB ls m.1 (0+1) N=_ from En Vo hm N] at Z;refine GO 6 ?_;intro _ Y;refine vf Y 10 10 fun _ Y=>?_;refine GO 3 ?_;intro _ Y;refine vf Y 10 10 fun _ Y=>?_;refine aS Y (wn rfl) ⟨rfl,rfl⟩ (Y.ev rfl) (Y.ev rfl) rfl aa Z (i:=0) rfl rfl rfl fun _ Z=>GO 9 ?_;intro _ Y;refine aC Y rfl rfl ?_;refine⟨(gn ls m.1 ⟨m.2.i,N,m.2.u⟩,⟨de s.r (aQ (cS m.2 e)),true,c.1,c.2,P,some ⟨b',0,none⟩,s.pc,s.n+1⟩),by rw[a];(try rfl),⟨fun _=>⟨by rw[a],by rw[a];show(⟨_,_,_⟩:Upl)=⟨fF s.r (cS m.2 e),_,_⟩;unfold fF;rw[if_pos I];rfl,rfl,I,rfl⟩,el ..⟩,?_⟩;exact St.pull' (jZ (s:=⟨de s.r (aQ (cS m.2 e)),true,c.1,c.2,P,some ⟨b',0,none⟩,s.pc,s.n+1⟩) (St.pull' (St.pull' (St.pull' (St.pull' (Z.sub (aB 15)) 3 rfl) 3 rfl) 3 rfl) 3 rfl)) 1 rfl
    case hB=>kernel_rfl
   case hB=>kernel_rfl
   case hst=>rfl
 case hB=>kernel_rfl
open Go.RowKit Go.Sort Go.Shelf
theorem St.low {M:List Nat} {w X:World} {L L':List Ent} {a:Nat} (h:St M w X L) (i:∀b∈M,a≤b) (hB:a≤w.heap.size) (g:L'.Sublist L):∀b∈eh X L',a≤b:=fun b d=>by
 obtain⟨_,e,f,j⟩:=mem_domsL.1 d;rcases (h.new e (g.subset f) b j).1 with c | c
 · exact Nat.le_trans hB c
 · exact i b c
theorem zI {σ τ:Type} (π:τ→σ) (D:τ→Ent) (H:lD σ) (Vq:Dw H) (f:FuncId) (Vf:List Value) (l:List Rcd) (B:Option Addr) (d:Nat) (B0:Nat) (A:Option Addr) (c:Nat) (a:List (Nat × Lsr)) (s0:τ) (M0:List Nat) (w:World)
 (Kq:Nat→τ→Prop) (Vy:Kq 0 s0)
 (Vo:∀(vs:Array Value) (W:World),(callFunc f vs).run Tryz.prog W=.ok (.enter f vs) W) (C:B0≤w.heap.size) (T:∀b∈M0,B0≤b) (O:Rd w B0 B (l.flatMap cB)) (hv:VldH l l.length) (hl:l.length≤1000) (hn:a.length≤1000) (Vu:∀x∈a,0≤x.2.u)
 (Vr:St M0 w w [dL a,D s0,.row (.slice A a.length c) a.length 233 1 (a.map eb)])
 (Vi:∀(j:Nat) (X:World) (ls:List (Nat × Lsr)) (s:τ) (m:Nat × Lsr) (r:Rcd),j<101→Kq j s→KeptL M0 w X→(∀b∈eh X [dL ls,D s],B0≤b)→St (eh X [dL ls,D s]) X X [dL ls,D s]→m∈ls→r∈l→cb r.e=true→r.e.t=m.2.i→m.2.u=bE r.e →
  Calls Tryz.prog f ([eb m,ae r.l,cy r.e] ++ Vf).toArray X fun e X'=>∃p:List (Nat × Lsr) × τ,e=.returned (ae (H (π s) m.2 r).2.2)∧(((H (π s) m.2 r).2.2=0→p.1=gn ls m.1 (H (π s) m.2 r).2.1∧π p.2=(H (π s) m.2 r).1∧Kq (j+1) p.2)∧p.1.map Prod.fst=ls.map Prod.fst)∧St (eh X [dL ls,D s]) X X' [dL p.1,D p.2]) :
 Calls Tryz.prog 135 #[.slice B l.length d,.slice A a.length c,.func (.func f) #[] Vf.toArray] w fun e w'=>∃p:List (Nat × Lsr) × τ,e=.returned (ae (fJ l H 101 a (π s0)).2.2)∧(((fJ l H 101 a (π s0)).2.2=0→p.1=(fJ l H 101 a (π s0)).1∧π p.2=(fJ l H 101 a (π s0)).2.1∧∃j,j≤101∧Kq j p.2)∧p.1.map Prod.fst=a.map Prod.fst)∧St M0 w w' [dL p.1,D p.2,.row (.slice A a.length c) a.length 233 1 (a.map eb)]:=by
 have R:cH Rcd.l l:=by have:=hv.srt;rwa [List.take_length] at this
 obtain⟨U,hU⟩:∃U,U=fJ l H 101 a (π s0):=⟨_,rfl⟩;rw[←hU];refine an (N:=84) Tryz.func135 rfl rfl rfl (fun _ Y=>?_);have Z:=Vr;refine GO 12 ?_;intro _ Y;refine aV Y Z [0,1,2] (fun (q:UndS τ)=>[(11,ae (q.j:Nat))]) (fun (q:UndS τ)=>q.j≤101∧U=fJ l H (101-q.j) q.ls (π q.s)∧q.ls.map Prod.fst=a.map Prod.fst∧(∀x∈q.ls,0≤x.2.u)∧Kq q.j q.s) (fun q L=>[dL q.ls,D q.s,.row (.slice A a.length c) a.length 233 1 (a.map eb)]) (fun (q:UndS τ)=>101-q.j) (⟨0,a,s0⟩) (⟨Nat.zero_le _,hU,rfl,Vu,Vy⟩) bC (Z) ?_;intro q _ _ Zf Y Z;refine GO 6 ?_;intro _ Y;refine ak (Y.ev rfl) (fun Zg=>?_) (fun Zg=>?_)
 ·
  have Jv:q.j<101:=by have:=of_decide_eq_true Zg;omega
  obtain⟨Vt,n,J,hu,Vc⟩:=Zf;obtain⟨g,hg⟩:∃g,101-q.j=g+1:=⟨100-q.j,by omega⟩;rw[hg,fJ] at n;have Vj:=yI J;refine GO 7 ?_;intro _ Y;refine sv Y (az (zs:=lJ) (pl:=fY) aa aa (Y.evs2 rfl) rfl rfl) fun _ Y=>?_;refine nb Y rfl rfl Z fun Vp _ _ Zk Y Z=>?_;refine bV Y (wn rfl) (f:=fun b=>.slice (some ⟨b,0,none⟩) 1 1) (ba jg aa aa (Y.evs2 rfl) rfl rfl rfl au au) rfl rfl Z fun Wd _ _ Zl S Z=>?_;refine rK (z:=.pointer none) (sz:=1) (bytes:=8) S (wn rfl) ⟨rfl,rfl⟩ rfl jg aa rfl rfl (S.ev rfl) (S.ev rfl) Z (i:=4) rfl (Z.boxRd (i:=0) rfl) rfl (List.all_eq_true.1 rfl) ⟨by omega,by decide⟩ fun Vs Vv _ X9 M Z Vz=>?_;obtain⟨z,zs,Vl,E⟩:=yR (b:=Vp) hu
  have Vk:(z::zs).map eb=a.map eb ++ [.pointer (some ⟨Vp,0,none⟩)]:=by rw[←Vl,List.map_append,Vj];rfl
  have Vm:(z::zs).length=a.length+1:=by have:=congrArg List.length Vk;rw[List.length_map,List.length_append,List.length_map] at this;exact this
  have Wa:∀x∈z::zs,Box X9 x.1 (gA x.2) 273:=fun x hx=>by
   rw[←Vl] at hx;rcases List.mem_append.1 hx with hx | hx
   · exact(Z.at_ (i:=2) rfl).1 x hx
   · rw[List.mem_singleton.1 hx];exact Z.at_ (i:=1) rfl
  refine cQ M rfl Z (Vm▸oW z zs Vs Vv _ (Vk▸Vz) Wa (by have:(z::zs).length=zs.length+1:=rfl;omega)) fun _ Zm Y Z=>?_;obtain⟨m,Vw⟩:∃m,m=zs.foldl lX z:=⟨_,rfl⟩;rw[←Vw] at Y E
  have Ve:Box Zm m.1 (gA m.2) 273:=by
   rcases E with ⟨_,M⟩ | ⟨m',hm',_,M⟩
   · rw[M];exact Z.at_ (i:=1) rfl
   · rw[M];exact(Z.at_ (i:=2) rfl).1 _ hm'
  refine GO 8 ?_;intro _ Y;refine sv Y (fy 2 (Y.ev rfl)) fun _ Y=>?_;refine sv Y (lx (Y.ev rfl) (Box.cells Ve 2)) fun _ Y=>?_;refine GO 3 ?_;intro _ Y;refine ak (Y.ev rfl) (fun Zh=>?_) (fun Zh=>?_)
  ·
   have Y:m.2.u=0:=al Zh
   have G:U=(q.ls,π q.s,0):=by
    rcases E with ⟨S,M⟩ | ⟨m',hm',S,M⟩
    · rw[n,S]
    · subst M
      rw[n,S];simp only;rw[if_pos Y]
   refine GO 12 ?_;intro _ Y;refine aC Y rfl rfl ?_;exact⟨(q.ls,q.s),by rw[G],⟨fun _=>by rw[G];exact⟨rfl,rfl,q.j,Vt,Vc⟩,J⟩,(Z.sub (aB 28))⟩
  ·
   have Y:m.2.u≠0:=al Zh
   obtain⟨F,Vx⟩:m∈q.ls∧Hs q.ls=some m:=by
    rcases E with ⟨S,M⟩ | ⟨m',hm',S,M⟩
    · exact absurd (by rw[M];rfl) Y
    · rw[M];exact⟨hm',S⟩
   rw[Vx] at n;simp only at n;rw[if_neg Y] at n;refine GO 7 ?_;intro _ Y;refine sv Y (fy 2 (Y.ev rfl)) fun _ Y=>?_;refine sv Y (lx (Y.ev rfl) (Box.cells Ve 2)) fun _ Y=>?_;refine cQ Y rfl Z (lu l R B d m.2.u _ ((Z.rdBase T C O).mono (Nat.le_trans C Z.size)) hl) fun _ _ Y Z=>?_;refine GO 5 ?_;intro _ Y;apply aK Y (fK 19) _ aa
   case h=>
    refine GO 1 ?_;intro _ Y;refine qv Y (fun X K=>mZ ub aa (Y.ev rfl) (Y.ev rfl)) fun _ Y=>?_;refine GO 1 ?_;intro _ Y;apply fZ (x:=!cb ((cz l m.2.u).getD zR).e) Y 32 rfl 6 38
    case hf=>
     intro Zb;obtain⟨b',o',rfl,I,q1,q2,q3⟩:=gH R O Zb;generalize jU Rcd.l l m.2.u=k at I q1 q2 q3;refine qy Y (fun X K=>(aA (v':=.pointer (some ⟨b',o'+k*14+1,none⟩)) (congrArg Value.pointer q3) (bD (Y.ev rfl)))) fun _ Y=>?_;refine GO 1 ?_;intro _ Y;refine jk (v:=cy l[k].e) Y (ao Y _ rfl rfl rfl Zb) rfl rfl (fun X K=>(ah aa aa (Y.ev rfl) (dQ ((Z.grow K).rdBase T C O) I))) fun _ Y=>me Y (ao Y _ rfl rfl rfl Zb) rfl rfl (fun X=>(aw a6 (Y.evs rfl) rfl)) (fun X K=>jR _ _) fun _ Y=>qy Y (fun X K=>(aA (v':=.bool (!cb ((cz l m.2.u).getD zR).e)) (by rw[q2];rfl) (qJ (Y.ev rfl)))) fun _ Y=>?_;refine GO 1 ?_;intro _ Y;exact ax (Y.midE 5)
    case ht=>
     intro Zb;refine GO 6 ?_;intro _ Y;exact ax (Y.midE 5)
    case h=>
     intro _ Y;refine GO 1 ?_;intro _ Y;apply mr Y 39 rfl 9 48
     case ht=>
      intro Zd;refine GO 9 ?_;intro _ Y;exact ax ⟨_,Y.midE 8⟩
     case hf=>
      intro Zd;obtain⟨b',o',rfl,I,q1,q2,q3⟩:=gH R O (Bool.or_eq_false_iff.1 Zd).1;generalize jU Rcd.l l m.2.u=k at I q1 q2 q3;refine qy Y (fun X K=>(aA (v':=.pointer (some ⟨b',o'+k*14+1,none⟩)) (congrArg Value.pointer q3) (bD (Y.ev rfl)))) fun _ Y=>?_;refine GO 1 ?_;intro _ Y;refine qy Y (fun X K=>(fy 1 (Y.ev rfl))) fun _ Y=>?_;refine qy Y (fun X K=>(lx (Y.ev rfl) ((dQ ((Z.grow K).rdBase T C O) I) 1 _ rfl))) fun _ Y=>?_;refine GO 2 ?_;intro _ Y;refine qy Y (fun X K=>(fy 0 (Y.ev rfl))) fun _ Y=>?_;refine qy Y (fun X K=>(lx (Y.ev rfl) (Box.cells (((Z.grow K).at_ (i:=2) rfl).1 _ F) 0))) fun _ Y=>?_;refine qy Y (fun X K=>(aA (v':=.bool (((cz l m.2.u).getD zR).e.t != m.2.i)) (by rw[q2];rfl) (kh (Y.ev rfl) (Y.ev rfl)))) fun _ Y=>?_;exact ax (Y.midE 8)
     case h=>
      intro Wc _ Vg Y;refine ax ?_;refine aT fun _ Zi Zn=>?_;have Z:=Z.grow Zi;refine sv Y (iq (Y.ev rfl) (Y.ev rfl) (Y.ev rfl) Vg) fun _ Y=>?_;refine ag (ai ?_);refine ak (Y.ev rfl) (fun Ze=>?_) (fun Ze=>?_)
      ·
       have G:U=(q.ls,π q.s,6):=by
        rw[n]
        cases hf:cz l m.2.u with
        | none=>rfl
        | some r=>
         simp only;rw[if_neg]
         rintro ⟨u1,u2⟩
         rw[hf] at Ze
         cases hN:(mj B l m.2.u).isNone with
         | true=>rw[p8 R O hN] at hf;cases hf
         | false=>
          rw[hN,Option.getD_some,u1,u2] at Ze;simp at Ze
       refine GO 12 ?_;intro _ Y;refine aC Y rfl rfl ?_;exact⟨(q.ls,q.s),by rw[G],⟨fun h=>absurd h (by rw[G];exact(by decide:¬(6:Int)=0)),J⟩,(Z.sub (aB 28))⟩
      ·
       obtain⟨Q,Jw⟩:=Bool.or_eq_false_iff.1 Ze;obtain⟨Q,Jx⟩:=Bool.or_eq_false_iff.1 Q;obtain⟨b',o',rfl,I,q1,q2,q3⟩:=gH R O Q;rw[q3] at Y;generalize jU Rcd.l l m.2.u=k at I q1 q2 q3 Y;rw[q2,Option.getD_some] at Jx Jw;have ho:cb l[k].e=true:=al Jx;have Vd:l[k].e.t=m.2.i:=al Jw;rw[q2] at n;simp only at n;rw[if_pos ⟨ho,Vd⟩] at n;have Vh:=BA hv I;have Vn:=(Z.at_ (i:=2) rfl).2;refine GO 6 ?_;intro _ Y;refine sv Y (fy 2 (Y.ev rfl)) fun _ Y=>?_;refine sv Y (lx (Y.ev rfl) (Box.cells ((Z.at_ (i:=2) rfl).1 _ F) 2)) fun _ Y=>?_;refine GO 8 ?_;intro _ Y;refine sv Y (fy 2 (Y.ev rfl)) fun _ Y=>?_;refine sv Y (lx (Y.ev rfl) ((dQ (Z.rdBase T C O) I) 2 _ rfl)) fun _ Y=>?_;refine GO 1 ?_;intro _ Y;refine sv Y (fy 2 (Y.ev rfl)) fun _ Y=>?_;refine jL (wn rfl) ⟨rfl,rfl⟩ (Y.ev rfl) (Y.ev rfl) aa Z (i:=2) rfl F au fun _ Z=>?_;rw[show lB q.ls m.1 (0+2) l[k].e.p=_ from mL Vn F l[k].e.p] at Z;refine GO 7 ?_;intro _ Y;refine sv Y (fy 0 (Y.ev rfl)) fun _ Y=>?_;refine sv Y (lx (Y.ev rfl) ((dQ (Z.rdBase T C O) I) 0 _ rfl)) fun _ Y=>?_;refine GO 3 ?_;intro _ Y;refine ak (Y.ev rfl) (fun Zj=>?_) (fun Zj=>?_)
       ·
        have Va:bE l[k].e=l[k].e.x:=by unfold bE;rw[if_pos (al Zj)]
        refine GO 4 ?_;intro _ Y;refine sv Y (fy 3 (Y.ev rfl)) fun _ Y=>?_;refine sv Y (lx (Y.ev rfl) ((dQ (Z.rdBase T C O) I) 3 _ rfl)) fun _ Y=>?_;refine GO 1 ?_;intro _ Y;refine sv Y (fy 2 (Y.ev rfl)) fun _ Y=>?_;refine jL (wn rfl) ⟨rfl,rfl⟩ (Y.ev rfl) (Y.ev rfl) aa Z (i:=2) rfl (fM F _) au fun _ Z=>?_;rw[show lB (gn q.ls m.1 ⟨m.2.i,m.2.l,l[k].e.p⟩) m.1 (0+2) l[k].e.x=gn q.ls m.1 ⟨m.2.i,m.2.l,l[k].e.x⟩ from(mL (m:=(m.1,⟨m.2.i,m.2.l,l[k].e.p⟩)) (by rw[el];exact Vn) (fM F _) l[k].e.x).trans (gi _ _ _ _),←Va] at Z;refine GO 6 ?_;intro _ Y;refine sv Y (aA (v':=ae l[k].l) (congrArg _ q1.symm) (bD (Y.ev rfl))) fun _ Y=>?_;refine GO 2 ?_;intro _ Y;refine sv (v:=cy l[k].e) Y (ah aa aa (Y.ev rfl) (dQ (Z.rdBase T C O) I)) fun _ Y=>?_;refine gu (L1:=[dL _,D q.s]) (V:=fun _=>ae _) Y (wn rfl) (cG Vo (Y.ev rfl) (Y.evs rfl) rfl) rfl rfl (Z.sub (aB 28)) (Vi q.j _ _ q.s (m.1,⟨m.2.i,m.2.l,bE l[k].e⟩) l[k] Jv Vc Z.keptL (((Z.sub (aB 28))).low T C (aB 3)) (St.frontL (L2:=[_]) (Z.sub (aB 28))) (fM F _) (List.getElem_mem I) ho Vd rfl) fun o _ _ Y Za Z=>?_;refine GO 9 ?_;intro _ Y;refine ak (Y.ev rfl) (fun Zc=>?_) (fun Zc=>?_)
        ·
         have hne:(H (π q.s) ⟨m.2.i,m.2.l,bE l[k].e⟩ l[k]).2.2≠0:=al Zc;rw[if_pos hne] at n;refine GO 12 ?_;intro _ Y;refine aC Y rfl rfl ?_;exact⟨o,by rw[n],⟨fun h=>absurd h (by rw[n];exact hne),by rw[Za.2,el];exact J⟩,Z⟩
        ·
         have hne:(H (π q.s) ⟨m.2.i,m.2.l,bE l[k].e⟩ l[k]).2.2=0:=al Zc;rw[if_neg (fun h=>h hne)] at n;obtain⟨e1,e2,Vb⟩:=Za.1 hne;rw[gi] at e1
         have Jz:o.1.map Prod.fst=a.map Prod.fst:=by rw[Za.2,el];exact J
         have Jy:∀x∈o.1,0≤x.2.u:=by
          rw[e1];exact mJ (p:=fun y=>0≤y.u) hu (by rw[(Vq _ _ _).1];exact Vh)
         have P:U=fJ l H (101-(q.j+1)) o.1 (π o.2):=by rw[n,e1,e2,show 101-(q.j+1)=g by omega];rfl
         refine GO 8 ?_;intro _ Y;exact⟨⟨q.j+1,o.1,o.2⟩,(by show 101-(q.j+1)<101-q.j;omega),⟨Jv,P,Jz,Jy,Vb⟩,Y.re bC,Z⟩
       ·
        have Va:bE l[k].e=l[k].e.p:=by unfold bE;rw[if_neg (al Zj)]
        rw[←Va] at Z;refine GO 6 ?_;intro _ Y;refine sv Y (aA (v':=ae l[k].l) (congrArg _ q1.symm) (bD (Y.ev rfl))) fun _ Y=>?_;refine GO 2 ?_;intro _ Y;refine sv (v:=cy l[k].e) Y (ah aa aa (Y.ev rfl) (dQ (Z.rdBase T C O) I)) fun _ Y=>?_;refine gu (L1:=[dL _,D q.s]) (V:=fun _=>ae _) Y (wn rfl) (cG Vo (Y.ev rfl) (Y.evs rfl) rfl) rfl rfl (Z.sub (aB 28)) (Vi q.j _ _ q.s (m.1,⟨m.2.i,m.2.l,bE l[k].e⟩) l[k] Jv Vc Z.keptL (((Z.sub (aB 28))).low T C (aB 3)) (St.frontL (L2:=[_]) (Z.sub (aB 28))) (fM F _) (List.getElem_mem I) ho Vd rfl) fun o _ _ Y Za Z=>?_;refine GO 9 ?_;intro _ Y;refine ak (Y.ev rfl) (fun Zc=>?_) (fun Zc=>?_)
        ·
         have hne:(H (π q.s) ⟨m.2.i,m.2.l,bE l[k].e⟩ l[k]).2.2≠0:=al Zc;rw[if_pos hne] at n;refine GO 12 ?_;intro _ Y;refine aC Y rfl rfl ?_;exact⟨o,by rw[n],⟨fun h=>absurd h (by rw[n];exact hne),by rw[Za.2,el];exact J⟩,Z⟩
        ·
         have hne:(H (π q.s) ⟨m.2.i,m.2.l,bE l[k].e⟩ l[k]).2.2=0:=al Zc;rw[if_neg (fun h=>h hne)] at n;obtain⟨e1,e2,Vb⟩:=Za.1 hne;rw[gi] at e1
         have Jz:o.1.map Prod.fst=a.map Prod.fst:=by rw[Za.2,el];exact J
         have Jy:∀x∈o.1,0≤x.2.u:=by
          rw[e1];exact mJ (p:=fun y=>0≤y.u) hu (by rw[(Vq _ _ _).1];exact Vh)
         have P:U=fJ l H (101-(q.j+1)) o.1 (π o.2):=by rw[n,e1,e2,show 101-(q.j+1)=g by omega];rfl
         refine GO 8 ?_;intro _ Y;exact⟨⟨q.j+1,o.1,o.2⟩,(by show 101-(q.j+1)<101-q.j;omega),⟨Jv,P,Jz,Jy,Vb⟩,Y.re bC,Z⟩
   case hB=>kernel_rfl
   case hst=>rfl
 ·
  have Wb:101≤q.j:=by have:=of_decide_eq_false Zg;omega
  have n:=Zf.2.1;rw[show 101-q.j=0 by omega,fJ] at n;refine GO 11 ?_;intro _ Y;refine aC Y rfl rfl ?_;exact⟨(q.ls,q.s),by rw[n],⟨fun h=>absurd h (by rw[n];exact(by decide:¬(26:Int)=0)),Zf.2.2.1⟩,Z⟩
end Go.Proofs.YtcfdpfmchchkaaaGreatDoor
