/- Chapter 20 -/
import Derived.Test.YtcfdpfmchchkaaaGreatDoorRcK
namespace Go.Proofs.YtcfdpfmchchkaaaGreatDoor
set_option maxRecDepth 4000
set_option maxHeartbeats 1000000
set_option linter.unusedVariables false
set_option linter.unusedSimpArgs false
open Go.RowKit Go.Sort
theorem OkP.behind {r:RngP} (h:OkP r) {k:Nat} (a:k+1<r.rs.length):dG r.rs[k]≤r.rs[k+1].l-1:=wZ h.all h.h.rr.2.2.2 k a
theorem OkP.rz {r:RngP} (h:OkP r) {k:Nat} (a:k<r.rs.length):r.rs[k].b.size≠0∧r.rs[k].b.size≤3000∧fu r.r.o (bS r.rs k) r.rs[k]=true∧bD r.rs[k].s 1 r.r.s=true∧seqB (bS r.rs k) r.rs[k]=true:=recE_zero.1 (h.all k a)
theorem OkP.mono {r:RngP} (h:OkP r):∀(d k:Nat) (a:k+d<r.rs.length),r.rs[k].l+16*d≤r.rs[k+d].l
 | 0,k,a=>by show r.rs[k].l+16*((0:Nat):Int)≤r.rs[k].l;omega
 | d+1,k,a=>by
  have Y:=h.mono d k ab;have c:=h.behind (k:=k+d) a;have Y:=(h.rz (k:=k+d) ab).1;have Y:=(h.rcd (k+d) ab).2.2;have Y:=gQ Y
  have Y:16≤kb (r.rs[k+d].b.size:Int):=by unfold kb;omega
  unfold dG at c;show r.rs[k].l+16*((d+1:Nat):Int)≤r.rs[k+d+1].l;omega
theorem OkP.lt {r:RngP} (h:OkP r) {i j:Nat} (a:i<j) (b:j<r.rs.length):r.rs[i].l<r.rs[j].l:=by
 have:=h.mono (j-i) i ab
 have e:i+(j-i)=j:=by omega
 simp only[e] at this;omega
theorem OkP.le {r:RngP} (h:OkP r) {i j:Nat} (b:i≤j) (c:j<r.rs.length):r.rs[i].l≤r.rs[j].l:=by
 rcases Nat.lt_or_ge i j with a | a
 · have:=h.lt a c;omega
 · have e:i=j:=by omega
   subst e;exact Int.le_refl _
theorem OkP.head {r:RngP} (h:OkP r) (a:0<r.rs.length):r.rs[0].l=r.r.o:=by
 have:=(h.rz a).2.2.1;unfold fu bS at this;simp only[if_true,Bool.and_eq_true,beq_iff_eq,decide_eq_true_eq] at this;exact this.1.1
theorem OkP.l8 {r:RngP} (h:OkP r):∀(k:Nat) (b:k<r.rs.length),(r.rs[k].l-1) % 8=0
 | 0,b=>by
  have Y:=h.head b;have:=(h.rz b).2.2.1;unfold fu bS at this;simp only[if_true,Bool.and_eq_true,beq_iff_eq,decide_eq_true_eq] at this;omega
 | k+1,b=>by
  have Y:=h.l8 k ab;have a:=(h.rz b).2.2.1;rw[eQ b] at a;unfold fu at a;simp only[Bool.or_eq_true,beq_iff_eq] at a;have Y:=(h.rcd k ab).2.2;have Y:=gQ Y
  have Y:dG r.rs[k] % 8=0:=by unfold dG;omega
  have Y:=gB (p:=dG r.rs[k])
  rcases a with a | a<;>omega
theorem OkP.next {r:RngP} (h:OkP r):(∀y,r.rs.getLast? = some y→(r.nx=dG y∨r.nx=cp (dG y))∧(y.s=r.r.s∨r.nx % 448=0))∧(r.rs=[]→r.nx=r.r.o-1∧r.nx % 448=0):=by
 have a:=h.tl.1;unfold fI at a
 constructor
 · intro y c
   rw[c] at a;simp only at a;rw[aD au] at a;simp only[Bool.and_eq_true,Bool.or_eq_true,beq_iff_eq] at a;exact a
 · intro b
   rw[b] at a;simp only[List.getLast?_nil] at a;rw[aD au] at a;simp only[Bool.and_eq_true,beq_iff_eq] at a;exact a
theorem pn {l:List RecP} (a:0<l.length):l.getLast? = some (l[l.length-1]'ab):=by
 rw[List.getLast?_eq_getElem?,List.getElem?_eq_getElem ab]
theorem OkP.bh_nx {r:RngP} (h:OkP r) {k:Nat} (c:k<r.rs.length):dG r.rs[k]≤r.nx:=by
 have Y:0<r.rs.length:=by omega
 have Y:=(h.next.1 _ (pn Y)).1;have Y:=gB (p:=dG (r.rs[r.rs.length-1]'ab))
 have Y:dG r.rs[k]≤dG (r.rs[r.rs.length-1]'ab):=by
  rcases Nat.lt_or_ge k (r.rs.length-1) with b | b
  · have a:=h.behind (k:=k) ab
    have Y:=h.le (i:=k+1) (j:=r.rs.length-1) ab ab;have Y:=(h.rcd (r.rs.length-1) ab).2.2;have Y:=gQ Y;unfold dG at a ⊢;omega
  · have e:r.rs.length-1=k:=by omega
    simp only[e];exact Int.le_refl _
 omega
theorem OkP.l_nx {r:RngP} (h:OkP r) {k:Nat} (a:k<r.rs.length):r.rs[k].l<r.nx:=by
 have b:=h.bh_nx a;have c:=gQ (h.rcd k a).2.2;unfold dG at b;omega
theorem hasR_iff {l:List RecP} {n:Int}:ec l n=true↔∃k,∃a:k<l.length,l[k].l=n:=by
 unfold ec;rw[List.any_eq_true]
 constructor
 · rintro ⟨x,hx,b⟩
   obtain⟨k,a,rfl⟩:=List.getElem_of_mem hx;exact⟨k,a,eq_of_beq b⟩
 · rintro ⟨k,a,b⟩
   exact⟨l[k],List.getElem_mem _,ar b⟩
theorem OkP.from_ {r:RngP} (h:OkP r) {k:Nat} (b:k<r.rs.length):(r.rs.filter fun x=>decide (r.rs[k].l≤x.l))=r.rs.drop k:=by
 have c:r.rs=r.rs.take k ++ r.rs.drop k:=(List.take_append_drop k r.rs).symm
 have e2:(r.rs.take k).filter (fun x=>decide (r.rs[k].l≤x.l))=[]:=by
  rw[List.filter_eq_nil_iff];intro x hx;obtain⟨i,a,rfl⟩:=List.getElem_of_mem hx;rw[List.length_take] at a;rw[List.getElem_take];have:=h.lt (i:=i) (j:=k) ab b;simp;omega
 have e3:(r.rs.drop k).filter (fun x=>decide (r.rs[k].l≤x.l))=r.rs.drop k:=by
  rw[List.filter_eq_self];intro x hx;obtain⟨i,a,rfl⟩:=List.getElem_of_mem hx;rw[List.length_drop] at a;rw[List.getElem_drop];have:=h.le (i:=k) (j:=k+i) ab ab
  simpa using this
 rw[show(r.rs.filter fun x=>decide (r.rs[k].l≤x.l))=(r.rs.take k).filter (fun x=>decide (r.rs[k].l≤x.l)) ++ (r.rs.drop k).filter (fun x=>decide (r.rs[k].l≤x.l)) from by rw[←List.filter_append,List.take_append_drop],e2,e3,List.nil_append]
theorem OkP.from_none {r:RngP} (h:OkP r) {o:Int} (b:r.nx<o):(r.rs.filter fun x=>decide (o≤x.l))=[]:=by
 rw[List.filter_eq_nil_iff];intro x hx;obtain⟨i,a,rfl⟩:=List.getElem_of_mem hx;have:=h.l_nx a;simp;omega
theorem uu {l:List RecP} {k i:Nat} (a:i+1<(l.drop k).length):bS (l.drop k) (i+1)=bS l (k+i+1):=by
 rw[List.length_drop] at a;rw[eQ (by rw[List.length_drop];omega),eQ ab,List.getElem_drop]
theorem OkP.rooms_pos {r:RngP} (h:OkP r):0≤(cL r).2:=by
 unfold cL;rcases Nat.eq_zero_or_pos r.rs.length with a | a
 · rw[List.eq_nil_of_length_eq_zero a];exact Int.le_refl _
 · rw[pn a]
   show 0≤(dG (r.rs[r.rs.length-1]'ab)-1) / 448-(r.r.o-1) / 448+1;have Y:=h.head a;have Y:=h.le (i:=0) (j:=r.rs.length-1) ab ab;have Y:=gQ (h.rcd (r.rs.length-1) ab).2.2;unfold dG;omega
theorem Gm {r:RngP} (h:OkP r) {c o:Int} (q:iQ r c o=0):(cL (gh r c o)).2≤(cL r).2∧(bJ (gh r c o)).2=0:=by
 unfold iQ at q;rw[aS] at q;have I:=(aD au).1 (q (jf r) bm);have H:=(aD au).1 (q (bF (o==cp r.nx+1||ec r.rs o) 6) bm);have A:=(aD au).1 (q (bF (c==0||(decide (o≤c)&&ec r.rs c)) 6) bm);have O:=(aD au).1 (q (bF (decide (r.r.s<60000)) 2) bm);simp only[Bool.or_eq_true,Bool.and_eq_true,beq_iff_eq,decide_eq_true_eq] at I H A O;have t:=h.h;have N:=t.nx;have R:=gB (p:=r.nx);have u:=h.rooms_pos;have C:=t.pg
 have J:cp r.nx≤99999872:=by unfold cp at I ⊢;omega
 have K:0≤c∧c≤100000000:=by
  rcases A with a | ⟨_,a⟩
  · omega
  · obtain⟨k,b,g⟩:=hasR_iff.1 a
    have:=h.l_nx b;have:=(h.rcd k b).1;omega
 have v:c≠0→∃k,∃b:k<r.rs.length,r.rs[k].l=c∧o≤c:=fun S=>by
  rcases A with a | ⟨w,a⟩
  · omega
  · obtain⟨k,b,g⟩:=hasR_iff.1 a
    exact⟨k,b,g,w⟩
 have hst:(o=cp r.nx+1∧(gh r c o).rs=[])∨∃k,∃b:k<r.rs.length,r.rs[k].l=o∧(gh r c o).rs=r.rs.drop k:=by
  rcases H with a | a
  · exact Or.inl ⟨a,h.from_none ab⟩
  · obtain⟨k,b,g⟩:=hasR_iff.1 a
    refine Or.inr ⟨k,b,g,?_⟩;subst g;exact h.from_ b
 have Q:1≤o∧o≤100000000:=by
  rcases hst with ⟨a,_⟩ | ⟨k,b,a,_⟩
  · omega
  · have:=h.l_nx b
    have:=(h.rcd k b).1;omega
 have P:cp (cp r.nx)=cp r.nx:=by unfold cp;omega
 have G:(gh r c o).rs.length≤r.rs.length:=List.length_filter_le _ _
 have f:(cL (gh r c o)).2≤(cL r).2:=by
  rcases hst with ⟨a,d⟩ | ⟨k,b,a,d⟩
  · unfold cL at u ⊢
    rw[d];exact u
  · have B:0<(r.rs.drop k).length:=by rw[List.length_drop];omega
    have D:(gh r c o).rs.getLast? = r.rs.getLast?:=by rw[d,List.getLast?_drop,if_neg ab]
    have Y:r.r.o≤o:=by
     have:=h.head ab;have:=h.le (i:=0) (j:=k) ab b;omega
    unfold cL;rw[D,pn ab];show(dG (r.rs[r.rs.length-1]'ab)-1) / 448-(o-1) / 448+1≤(dG (r.rs[r.rs.length-1]'ab)-1) / 448-(r.r.o-1) / 448+1;omega
 refine⟨f,ok_iff.2 ⟨⟨C,?_,?_,?_,?_,by have:=t.len;show(gh r c o).rs.length≤100;omega⟩,?_,?_⟩⟩
 · unfold qb jr
   rw[Bool.and_eq_true,Bool.and_eq_true,inB_true,inB_true,inB_true];have:=t.rr.1;show((1≤r.r.s+1∧r.r.s+1≤60000)∧0≤c∧c≤100000000)∧0≤o∧o≤100000000;omega
 · have:=t.rr.1
   show(1≤r.r.s+1∧r.r.s+1≤60000)∧(0≤c∧c≤100000000)∧0≤o∧o≤100000000;omega
 · exact Or.inr ⟨t.rb,by show r.r.s=r.r.s+1-1;omega⟩
 · show 0≤cp r.nx∧cp r.nx≤100000000∧cp r.nx % 8=0
   omega
 · intro m hm
   rcases hst with ⟨_,d⟩ | ⟨k,b,a,d⟩
   · rw[d] at hm;exact absurd hm (Nat.not_lt_zero _)
   · have n:m<(r.rs.drop k).length:=by rw[←d];exact hm
     have M:(gh r c o).rs[m]=(r.rs.drop k)[m]:=by simp only[d]
     rw[M,d]
     have z:k+m<r.rs.length:=by rw[List.length_drop] at n;omega
     have y:=h.rz z;have E:=inB_true.1 y.2.2.2.1;rw[List.getElem_drop,recE_zero];refine⟨y.1,y.2.1,?_,inB_true.2 ⟨E.1,by show _≤r.r.s+1;omega⟩,?_⟩
     · match m with
       | 0=>
        show fu o (bS (r.rs.drop k) 0) r.rs[k]=true;unfold fu bS;have Y:=h.l8 k b;simp only[if_true,Bool.and_eq_true,beq_iff_eq,decide_eq_true_eq];omega
       | i+1=>
        rw[uu n];have Y:=y.2.2.1;have e3:k+(i+1)=(k+i)+1:=rfl;rw[eQ (l:=r.rs) (k:=k+i) ab];rw[show bS r.rs (k+(i+1))=some (r.rs[k+i]'ab) from eQ (l:=r.rs) (k:=k+i) ab] at Y;exact Y
     · match m with
       | 0=>rfl
       | i+1=>
        rw[uu n];exact y.2.2.2.2
 · unfold jH
   rw[aS];intro e g;simp only[List.mem_cons,List.not_mem_nil,or_false] at g;rcases g with rfl | rfl | rfl
   · unfold fI
     rcases hst with ⟨a,d⟩ | ⟨k,b,a,d⟩
     · rw[d]
       show bF (cp r.nx==o-1&&cp r.nx % 448==0) 9=0;rw[aD au,Bool.and_eq_true,beq_iff_eq,beq_iff_eq];omega
     · have B:0<(r.rs.drop k).length:=by rw[List.length_drop];omega
       have D:(gh r c o).rs.getLast? = r.rs.getLast?:=by rw[d,List.getLast?_drop,if_neg ab]
       have L:=h.next.1 _ (pn ab);rw[D,pn ab];show bF ((cp r.nx==dG _||cp r.nx==cp (dG _))&&(_==r.r.s+1||cp r.nx % 448==0)) 9=0;rw[aD au,Bool.and_eq_true,Bool.or_eq_true,Bool.or_eq_true,beq_iff_eq,beq_iff_eq,beq_iff_eq,beq_iff_eq];refine⟨Or.inr ?_,Or.inr R.2.2⟩;rcases L.1 with F | F
       · rw[F]
       · rw[F];unfold cp;omega
   · rw[aD au,Bool.or_eq_true,beq_iff_eq]
     show c=0∨ec ((r.rs.filter fun x=>decide (o≤x.l))) c=true;rcases Decidable.em (c=0) with w | w
     · exact Or.inl w
     · obtain⟨k,b,a,d⟩:=v w
       refine Or.inr ?_;unfold ec;rw[List.any_eq_true];exact⟨r.rs[k],List.mem_filter.2 ⟨List.getElem_mem _,by rw[a];simpa using d⟩,ar a⟩
   · rw[aD au,decide_eq_true_eq]
     have:=h.tl.2.2;show(cL (gh r c o)).2≤r.pg-2;omega
open Go.RowKit Go.Sort
theorem EV {N:RngP} (h:OkP N) {x:ByteArray} (f:eN N x=0):OkP (dL N x):=by
 unfold eN at f
 split at f
 · cases f
 rename_i v
 split at f
 · cases f
 rename_i B
 split at f
 · cases f
 rename_i h3
 split at f
 · cases f
 rename_i w
 have q:=gQ (n:=x.size) ab;have t:=h.h.nx;have i:=h.h.rr;obtain⟨n1,n2⟩:=h.next
 have g:(dL N x).rs.getLast? = some ⟨N.nx+1,N.r.s,x⟩:=by
  show(N.rs ++ [_]).getLast? = _;rw[List.getLast?_append];rfl
 have k:dG ⟨N.nx+1,N.r.s,x⟩=N.nx+kb x.size:=by unfold dG;simp only;omega
 have b:(dL N x).nx=N.nx+kb x.size:=rfl;refine⟨⟨h.h.pg,h.h.rb,i,h.h.e,⟨by rw[b];omega,by rw[b];rw[b] at w;omega,by rw[b];omega⟩,?_⟩,fun m hm=>?_,?_⟩
 · show(N.rs ++ [_]).length≤100
   rw[List.length_append];show N.rs.length+1≤100;omega
 · have d:m<(N.rs ++ [(⟨N.nx+1,N.r.s,x⟩:RecP)]).length:=hm
   show eC N.r.o N.r.s (bS (N.rs ++ [⟨N.nx+1,N.r.s,x⟩]) m) ((N.rs ++ [⟨N.nx+1,N.r.s,x⟩])[m])=0;rw[List.length_append] at d;have u:m<N.rs.length+1:=d;rcases Nat.lt_or_ge m N.rs.length with a | a
   · have j:=h.all m a
     have l:(N.rs ++ [(⟨N.nx+1,N.r.s,x⟩:RecP)])[m]'(by rw[List.length_append];exact d)=N.rs[m]:=List.getElem_append_left a
     have e2:bS (N.rs ++ [(⟨N.nx+1,N.r.s,x⟩:RecP)]) m=bS N.rs m:=by
      unfold bS
      split
      · rfl
      · rw[List.getElem?_append_left ab]
     rw[l,e2];exact j
   · obtain rfl:m=N.rs.length:=by omega
     have l:(N.rs ++ [(⟨N.nx+1,N.r.s,x⟩:RecP)])[N.rs.length]'(by rw[List.length_append];exact d)=⟨N.nx+1,N.r.s,x⟩:=by
      rw[List.getElem_append_right ab];simp
     rw[l,recE_zero];refine⟨v,by show x.size≤3000;omega,?_,?_,?_⟩
     · rcases Nat.eq_zero_or_pos N.rs.length with a | a
       · have e2:bS (N.rs ++ [(⟨N.nx+1,N.r.s,x⟩:RecP)]) N.rs.length=none:=by unfold bS;rw[if_pos a]
         rw[e2];obtain⟨y,z⟩:=n2 (List.eq_nil_of_length_eq_zero a);have C:=h.o1;unfold fu;simp only[Bool.and_eq_true,beq_iff_eq,decide_eq_true_eq];omega
       · have e2:bS (N.rs ++ [(⟨N.nx+1,N.r.s,x⟩:RecP)]) N.rs.length=some (N.rs[N.rs.length-1]'ab):=by
          unfold bS;rw[if_neg ab,List.getElem?_append_left ab,List.getElem?_eq_getElem ab]
         rw[e2];have j:=(n1 _ (pn a)).1;unfold fu;simp only[Bool.or_eq_true,beq_iff_eq];omega
     · rw[inB_true];exact⟨i.1.1,Int.le_refl _⟩
     · rcases Nat.eq_zero_or_pos N.rs.length with a | a
       · have e2:bS (N.rs ++ [(⟨N.nx+1,N.r.s,x⟩:RecP)]) N.rs.length=none:=by unfold bS;rw[if_pos a]
         rw[e2];rfl
       · have e2:bS (N.rs ++ [(⟨N.nx+1,N.r.s,x⟩:RecP)]) N.rs.length=some (N.rs[N.rs.length-1]'ab):=by
          unfold bS;rw[if_neg ab,List.getElem?_append_left ab,List.getElem?_eq_getElem ab]
         rw[e2];have j:=(n1 _ (pn a)).2;have A:=(inB_true.1 (recE_zero.1 (h.all (N.rs.length-1) ab)).2.2.2.1).2;unfold seqB;simp only[Bool.or_eq_true,Bool.and_eq_true,beq_iff_eq,decide_eq_true_eq];omega
 · unfold jH
   rw[aS];intro e p;simp only[List.mem_cons,List.not_mem_nil,or_false] at p;rcases p with rfl | rfl | rfl
   · unfold fI
     rw[g];simp only;rw[aD au,k,b];show((N.nx+kb x.size==N.nx+kb x.size||_)&&(N.r.s==N.r.s||_))=true;simp
   · rw[aD au,Bool.or_eq_true,beq_iff_eq]
     rcases h.tl.2.1 with a | a
     · exact .inl a
     · right
       show ec (N.rs ++ [_]) N.r.c=true;unfold ec at a ⊢;rw[List.any_append,a];rfl
   · rw[aD au,decide_eq_true_eq]
     show(cL (dL N x)).2≤N.pg-2;omega
open Go.RowKit Go.Sort Go.Shelf
def Cc (a e2:Ent):Ent:=.inv (fun b=>a.dom b∨e2.dom b) (fun X=>(a.ok X∧e2.ok X)∧∀b,a.dom b→¬e2.dom b)
 (fun X X' h c=>⟨⟨Ent.ok_of h.1.1 fun b h'=>c b (.inl h'),Ent.ok_of h.1.2 fun b h'=>c b (.inr h')⟩,h.2⟩)
theorem rJ {M:List Nat} {w X:World} {b e2:Ent} {L:List Ent} (h:St M w X (Cc b e2::L)):St M w X (b::e2::L):=by
 have k:=h.at_ (i:=0) rfl;exact h.split2 k.1.1 k.1.2 (fun q a=>.inl a) (fun q a=>.inr a) k.2
theorem uF {M:List Nat} {w X:World} {a e2:Ent} {L:List Ent} (h:St M w X (a::e2::L)):St M w X (Cc a e2::L):=
 h.fuse2 (fun b c=>c) ⟨⟨h.at_ (i:=0) rfl,h.at_ (i:=1) rfl⟩,(List.pairwise_cons.1 h.sep).1 e2 List.mem_cons_self⟩
structure Upl where
 r:RngP
 p:List Pgp
 n:Int
structure UdS where
 r:RngP
 own:Bool
 A:Option Addr
 c:Nat
 p:List Pgp
 PA:Option Addr
 pc:Nat
 n:Int
def UdS.pl (s:UdS):Upl:=⟨s.r,s.p,s.n⟩
def GJ (s:UdS):List Value:=[ae s.r.pg,ae s.r.r.s,ae s.r.r.c,ae s.r.r.o,ae s.r.e.s,ae s.r.e.c,ae s.r.e.o,.slice s.A s.r.rs.length s.c,ae s.r.nx,.slice s.PA s.p.length s.pc,ae s.n]
def qB (s:UdS):Ent:=bif s.own then .row (.slice s.A s.r.rs.length s.c) s.r.rs.length 177 3 (aJ s.r.rs) else F3
def Bm (s:UdS):Ent:=.row (.slice s.PA s.p.length s.pc) s.p.length 111 3 (s.p.flatMap cS)
def Fq (b:Nat) (s:UdS):Ent:=Cc (.box b (GJ s).toArray 192) (Cc (Bm s) (qB s))
theorem uR {M:List Nat} {w X:World} {b:Nat} {s:UdS} {L:List Ent} (h:St M w X (Fq b s::L)):St M w X (.box b (GJ s).toArray 192::Bm s::qB s::L):=
 St.perm (L:=Bm s::qB s::.box b (GJ s).toArray 192::L) (rJ (St.perm (L:=.box b (GJ s).toArray 192::Cc (Bm s) (qB s)::L) (rJ h) (List.Perm.swap _ _ _)))
  ((List.Perm.swap _ _ _).trans (List.Perm.cons _ (List.Perm.swap _ _ _)))
theorem oG {M:List Nat} {w X:World} {b:Nat} {s:UdS} {L:List Ent} (h:St M w X (.box b (GJ s).toArray 192::Bm s::qB s::L)):St M w X (Fq b s::L):=
 uF (St.perm (uF (St.perm h ((List.Perm.cons _ (List.Perm.swap _ _ _)).trans (List.Perm.swap _ _ _)))) (List.Perm.swap _ _ _))
theorem Hd {M:List Nat} {w X:World} {L:List Ent} {s:UdS} {a i:Nat} (h:St M w X L) (c:L[i]? = some (qB s)) (d:∀b∈M,a≤b) (hB:a≤w.heap.size) (hr:s.own=false→Rd w a s.A (aJ s.r.rs)):Rd X X.heap.size s.A (aJ s.r.rs):=by
 cases ho:s.own with
 | true=>
  unfold qB at c;rw[ho] at c;exact h.rdOf c
 | false=>exact((h.rdBase d hB (hr ho)).mono (Nat.le_trans hB h.size))
def e8 (r:RngP) (x:Lge):Int:=if cD x≠0 then cD x else if (bJ r).2≠0 then (bJ r).2 else eN r (a8 x)
def n5 (r:RngP) (x:Lge):Int:=if e8 r x=0 then r.nx+1 else 0
def wV (r:RngP) (x:Lge):RngP:=if e8 r x=0 then dL r (a8 x) else r
def qR (s:UdS) (x:Lge) (i:Option Addr × Nat):UdS:=if e8 s.r x=0 then ⟨dL s.r (a8 x),true,i.1,i.2,s.p,s.PA,s.pc,s.n⟩ else s
theorem F6 {r:RngP} (h:OkP r) (x:Lge):OkP (wV r x):=by
 unfold wV
 split
 · rename_i a
   unfold e8 at a
   split at a
   · rename_i b;exact absurd a b
   · split at a
     · rename_i b;exact absurd a b
     · exact EV h a
 · exact h
def GY (i l:Int):Lge:=⟨4,i,l,0,0,false,Fv,⟨#[]⟩⟩
def BW (x:Lsr) (e:Lge):Lge:=⟨1,x.i,x.l,e.p,e.g,e.f,fH e.o,⟨#[]⟩⟩
def ED (s:Upl) (i l:Int):Upl × Int:=(⟨wV s.r (GY i l),s.p,s.n⟩,e8 s.r (GY i l))
def Et (s:Upl) (x:Lsr) (e:Lge):Upl × Lsr × Int:=
 if e8 s.r (BW x e)≠0 then (s,x,e8 s.r (BW x e)) else match lu s.p e.g with
 | none=>(s,x,0)
 | some q=>if (cj q.b (fH e.o)).2≠0 then (s,x,(cj q.b (fH e.o)).2) else
  (⟨wV s.r (BW x e),gW s.p e.g (Hi q (cj q.b (fH e.o)).1 (n5 s.r (BW x e))),s.n+1⟩,⟨x.i,n5 s.r (BW x e),x.u⟩,0)
def H2 (s:Upl) (x:Lsr):Upl × Lsr × Int:=if x.u=0 then ((ED s x.i x.l).1,x,(ED s x.i x.l).2) else (s,x,0)
def Ho:o6 Upl:=fun s x r=>if r.e.k=0 then (if (Et s x r.e).2.2≠0 then Et s x r.e else H2 (Et s x r.e).1 (Et s x r.e).2.1) else H2 s x
open Go.RowKit Go.Sort Go.Shelf
theorem Ed {r:RngP} {x:Lge} (h:cD x=0):e8 r x=if (bJ r).2=0 then eN r (a8 x) else (bJ r).2:=by
 unfold e8;rw[if_neg (fun q=>q h)];by_cases a:(bJ r).2=0
 · rw[if_neg (fun q=>q a),if_pos a]
 · rw[if_pos a,if_neg a]
theorem DQ (b:Nat) (s:UdS) (x:Lge) (C:Nat) (M:List Nat) (w:World) (hx:FewE x) (I:s.r.rs.length≤1000) (H:∀y∈s.r.rs,I6 y.l) (E:∀b∈M,C≤b) (hB:C≤w.heap.size) (B:s.own=false→Rd w C s.A (aJ s.r.rs)) (K:St M w w [Fq b s]) :
 Calls Tryz.prog 116 #[.pointer (some ⟨b,0,none⟩),cZ x] w fun e G=>∃i:Option Addr × Nat,e=.returned (.tuple #[ae (n5 s.r x),ae (e8 s.r x)])∧St M w G [Fq b (qR s x i)]:=by
 have u:=uR K;refine aq (N:=36) Tryz.func116 rfl rfl rfl (fun _ Y=>?_);have Z:=u;refine ai (an ?_);refine nb Y rfl rfl Z fun P _ _ O t Z=>GO 6 ?_;intro _ Y;refine sv (v:=cZ x) Y (ag aa aa (Y.ev rfl) (Z.cellsAll (i:=0) rfl)) fun _ Y=>?_;refine cN Y rfl Z (pC x _ hx.o hx.n (Nat.le_trans hx.d au)) fun _ _ Y Z=>?_;refine GO 14 ?_;intro _ Y;refine ak (Y.ev rfl) (fun D=>?_) (fun D=>?_)
 ·
  have k:cD x≠0:=ar D
  have a:e8 s.r x=cD x:=by unfold e8;rw[if_pos k]
  have e2:n5 s.r x=0:=by unfold n5;rw[if_neg (by rw[a];exact k)]
  have e3:∀i,qR s x i=s:=fun i=>by unfold qR;rw[if_neg (by rw[a];exact k)]
  refine GO 9 ?_;intro _ Y;refine cd Y rfl rfl rfl ?_;refine⟨(none,0),by first | (rw[a,e2];done) | (rw[a,e2];rfl),?_⟩;rw[e3];exact oG (St.pull' (St.pull' (St.pull' (Z.sub (aL 14)) 2 rfl) 2 rfl) 2 rfl)
 ·
  have k:cD x=0:=ar D;have a:=Ed (r:=s.r) k;refine GO 7 ?_;intro _ Y;refine sv (v:=a7 s.r s.A s.c) Y (ag aa aa (Y.ev rfl) (Z.cellsOf (i:=1) rfl 0 9)) fun _ Y=>?_;refine GO 1 ?_;intro _ Y;refine jg Y (wn rfl) (az bc (Y.evs rfl) rfl) rfl rfl Z (tF s.r s.A s.c (a8 x) _ (Hd Z (i:=3) rfl E hB B) I H) (Nat.le_refl _) fun g h _ _ Y Z=>GO 1 ?_;intro _ Y;refine sv (v:=a7 (if (bJ s.r).2=0 then fM s.r (a8 x) else du) g h) Y (cb (Y.ev rfl) rfl) fun _ Y=>?_;refine GO 2 ?_;intro _ Y;refine na (.agg ef) Y rfl Z fun Q _ _ L Y Z=>sw Y Z 0 fun _ Z=>?_;refine GO 11 ?_;intro _ Y;refine ak (Y.ev rfl) (fun z=>?_) (fun z=>?_)
  ·
   have f:e8 s.r x=0:=by rw[a];simpa using z
   have j:(bJ s.r).2=0:=by
    by_cases t:(bJ s.r).2=0
    · exact t
    · rw[a,if_neg t] at f;exact absurd f t
   have m:eN s.r (a8 x)=0:=by rw[a,if_pos j] at f;exact f
   have J:(if (bJ s.r).2=0 then fM s.r (a8 x) else du)=dL s.r (a8 x):=by rw[if_pos j];unfold fM;rw[if_pos m]
   have e2:n5 s.r x=s.r.nx+1:=by unfold n5;rw[if_pos f]
   have e3:∀i,qR s x i=⟨dL s.r (a8 x),true,i.1,i.2,s.p,s.PA,s.pc,s.n⟩:=fun i=>by unfold qR;rw[if_pos f]
   rw[J] at Y Z;rw[if_pos (⟨j,m⟩:(bJ s.r).2=0∧eN s.r (a8 x)=0)] at Y;refine GO 2 ?_;intro _ Y;refine sv (v:=a7 (dL s.r (a8 x)) g h) Y (ag aa aa (Y.ev rfl) (Z.cellsAll (i:=0) rfl)) fun _ Y=>?_;refine GO 2 ?_;intro _ Y;refine aM Y (wn rfl) ⟨rfl,rfl⟩ (Y.ev rfl) (Y.ev rfl) rfl aa Z (i:=3) rfl rfl rfl fun _ Z=>GO 11 ?_;intro _ Y;refine cd Y rfl rfl rfl ?_;refine⟨(g,h),by first | (rw[a,e2];done) | (rw[a,e2];rfl),?_⟩;rw[e3];exact oG (s:=⟨dL s.r (a8 x),true,g,h,s.p,s.PA,s.pc,s.n⟩) (St.pull' (St.pull' (Z.sub (aL 26)) 2 rfl) 2 rfl)
  ·
   have f:e8 s.r x≠0:=by rw[a];simpa using z
   have F:¬((bJ s.r).2=0∧eN s.r (a8 x)=0):=fun q=>f (by rw[a,if_pos q.1];exact q.2)
   have e2:n5 s.r x=0:=by unfold n5;rw[if_neg f]
   have e3:∀i,qR s x i=s:=fun i=>by unfold qR;rw[if_neg f]
   rw[if_neg F] at Y;refine GO 11 ?_;intro _ Y;refine cd Y rfl rfl rfl ?_;refine⟨(none,0),by first | (rw[a,e2];done) | (rw[a,e2];rfl),?_⟩;rw[e3];exact oG (St.pull' (St.pull' (St.pull' (Z.sub (aL 56)) 2 rfl) 2 rfl) 2 rfl)
theorem FD {M:List Nat} {w X:World} {L:List Ent} {e:Ent} {a k:Nat} (i:St M w X (e::L)) (d:∀b∈M,a≤b) (hB:a≤w.heap.size) (g:k∈gq X [e]):a≤k:=by
 obtain⟨_,f,hf,c⟩:=mem_domsL.1 g;rw[List.mem_singleton.1 hf] at c;rcases (i.new e List.mem_cons_self k c).1 with h | h
 · omega
 · exact d k h
theorem Gi (b:Nat) (s:UdS) (x:Lge) (c:Nat) {M:List Nat} {w X:World} {L:List Ent} (hx:FewE x) (j:s.r.rs.length≤1000) (o:∀y∈s.r.rs,I6 y.l) (f:∀b∈M,c≤b) (hB:c≤w.heap.size) (d:s.own=false→Rd w c s.A (aJ s.r.rs)) (a:St M w X (Fq b s::L)) :
 Calls Tryz.prog 116 #[.pointer (some ⟨b,0,none⟩),cZ x] X fun e X'=>∃i:Option Addr × Nat,e=.returned (.tuple #[ae (n5 s.r x),ae (e8 s.r x)])∧St M w X' (Fq b (qR s x i)::L):=
 (DQ b s x c _ X hx j o (fun k m=>FD a f hB m) (Nat.le_trans hB a.size) (fun g=>a.rdBase f hB (d g)) (St.frontL (L1:=[Fq b s]) a)).mono fun e X' ⟨i,n,h⟩=>⟨i,n,St.outer2 (L1:=[Fq b s]) a h⟩
open Go.RowKit Go.Sort Go.Shelf
open Go.RowKit Go.Sort Go.Shelf
end Go.Proofs.YtcfdpfmchchkaaaGreatDoor
