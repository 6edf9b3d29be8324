/- Chapter 22 -/
import Derived.Test.YtcfdpfmchchkaaaGreatDoorRcG
namespace Go.Proofs.YtcfdpfmchchkaaaGreatDoor
set_option maxHeartbeats 1000000
set_option maxRecDepth 4000
set_option linter.unusedVariables false
set_option linter.unusedSimpArgs false
open Go.RowKit
def GY (y:Lge) (t:Int):Bool:=y.t==t&&(y.k==2||y.k==4)
def Fq (r:List Rcd) (t:Int):Bool:=r.any fun y=>GY y.e t
def zv (q:Pgp) (s:ByteArray) (n:Int):ByteArray:=if q.f then s else xV s n
def w3:List Pgp→Int→List Rcd→List Pgp × Int × Int
 | p,n,[]=>(p,n,0)
 | p,n,x::r=>if (cb x.e&&Fq r x.e.t)=true then (match ib p x.e.g with
  | none=>([],0,0)
  | some q=>if (bz q.b x.e.o).2≠0 then ([],0,(bz q.b x.e.o).2) else w3 (eY p x.e.g (zv q (bz q.b x.e.o).1 x.l)) (n+1) r) else w3 p n r
open Go.RowKit Go.Sort
open Go.RowKit Go.Sort
open Go.RowKit Go.Sort Go.Shelf
theorem Rd.dropF {α:Type} {f:α→List Value} {n:Nat} (hf:∀x,(f x).length=n) {w:World} {B b o:Nat} {l:List α} (h:Rd w B (some ⟨b,o,none⟩) (l.flatMap f)) (k:Nat):Rd w B (some ⟨b,o+k*n,none⟩) ((l.drop k).flatMap f):=fun j u a=>by
 rw[←sF hf,List.getElem?_drop] at a;obtain⟨b',o',e,c,d⟩:=h (k*n+j) u a;injection e with e;injection e with e1 e2;subst e1 e2;exact⟨b,o+k*n,rfl,c,by rw[Nat.add_assoc];exact d⟩
theorem E6 {o c l sz:Nat} (h:l<c):iN o c l sz=o+l*sz:=by unfold iN;rw[if_neg ab]
open Go.RowKit Go.Sort Go.Shelf
theorem Has.also {ds:List Deferred} {a:Act} {N t:Nat} {l:List (Nat × Value)} {v:Value} (h:Has ds a N l) (ht:look l t=some v):Has ds a N ((t,v)::l):=⟨h.defers,h.size,fun u x b=>by
 unfold look at b
 cases hb:Nat.beq t u with
 | true=>
  rw[hb] at b;obtain rfl:=Nat.eq_of_beq_eq_true hb;injection b with b;subst b;exact h.slot _ _ ht
 | false=>rw[hb] at b;exact h.slot _ _ b⟩
def Ga {α:Type} (p:α→Bool):List α→Nat→Int
 | [],_=>-1
 | x::r,k=>if p x=true then k else Ga p r (k+1)
theorem yJ {α:Type} (p:α→Bool):∀(l:List α) (k:Nat),decide (Ga p l k≥0)=l.any p
 | [],k=>rfl
 | x::r,k=>by
  unfold Ga;rw[List.any_cons]
  cases h:p x with
  | true=>rw[if_pos rfl,decide_eq_true ab];rfl
  | false=>rw[if_neg au,yJ p r (k+1)];rfl
theorem xL (p:Rcd→Bool) (l:List Rcd) (A:Option Addr) (c:Nat) (f:FuncId) (d:List Value) (w:World) (hr:Rd w w.heap.size A (l.flatMap cB)) (s:l.length≤1000) (q:∀(vs:Array Value) (W:World),(callFunc f vs).run Tryz.prog W=.ok (.enter f vs) W)
 (n:∀X,Below w.heap.size w X→∀(k:Nat) (u:k<l.length),Calls Tryz.prog f ([iR l[k]] ++ d).toArray X fun e X'=>e=.returned (.bool (p l[k]))∧Below X.heap.size X X') :
 bu 146 #[.slice A l.length c,.func (.func f) #[] d.toArray] w (ae (Ga p l 0)):=by
 refine an (N:=19) Tryz.func146 rfl rfl rfl (fun _ Y=>?_);have Z:=St.init w;refine GO 14 ?_;intro _ Y;refine aV Y Z [7,0,1] (fun (j:Nat)=>[(8,ae j)]) (fun (j:Nat)=>j≤l.length∧Ga p l 0=Ga p (l.drop j) j) (fun (j:Nat) L=>L) (fun (j:Nat)=>l.length-j) (0) (⟨Nat.zero_le _,rfl⟩) bC (Z) ?_;intro j _ _ r Y Z;refine GO 6 ?_;intro _ Y;refine ak (Y.ev rfl) (fun m=>?_) (fun m=>?_)
 ·
  have a:j<l.length:=by have:=of_decide_eq_true m;omega
  obtain⟨b,o,rfl,hB,_⟩:=hr.opened (aF aI au ab);have t:l.drop j=l[j]::l.drop (j+1):=List.drop_eq_getElem_cons a;refine GO 15 ?_;intro _ Y;refine sv Y (ar (i:=j) (sz:=14) cO aa (Y.ev rfl) (Y.ev rfl) ab ab rfl) fun _ Y=>?_;refine sv (v:=iR l[j]) Y (ah aa aa (Y.ev rfl) (aL aI (Z.rd0 hr) a)) fun _ Y=>?_;refine dO Y (wn rfl) (cG q (Y.ev rfl) (Y.evs rfl) rfl) rfl rfl Z (n _ Z.below j a) fun _ _ Y Z=>ag (ai ?_);refine ak (Y.ev rfl) (fun h=>?_) (fun h=>?_)
  ·
   refine GO 12 ?_;intro _ Y;refine aC Y rfl rfl ?_;exact⟨by rw[r.2,t,Ga,if_pos h],Z.below⟩
  ·
   refine GO 8 ?_;intro _ Y;exact⟨j+1,by omega,⟨a,by rw[r.2,t,Ga,if_neg (by rw[h];decide)]⟩,Y.re bC,Z⟩
 ·
  have g:l.length≤j:=by have:=of_decide_eq_false m;omega
  refine GO 11 ?_;intro _ Y;refine aC Y rfl rfl ?_;exact⟨by rw[r.2,List.drop_of_length_le g];rfl,Z.below⟩
theorem sf (p:Rcd→Bool) (l:List Rcd) (A:Option Addr) (c:Nat) (f:FuncId) (a:List Value) (w:World) (hr:Rd w w.heap.size A (l.flatMap cB)) (b:l.length≤1000) (g:∀(vs:Array Value) (W:World),(callFunc f vs).run Tryz.prog W=.ok (.enter f vs) W)
 (d:∀X,Below w.heap.size w X→∀(k:Nat) (h:k<l.length),Calls Tryz.prog f ([iR l[k]] ++ a).toArray X fun e X'=>e=.returned (.bool (p l[k]))∧Below X.heap.size X X') :
 bu 93 #[.slice A l.length c,.func (.func f) #[] a.toArray] w (.bool (l.any p)):=by
 refine an (N:=9) Tryz.func93 rfl rfl rfl (fun _ Y=>?_);have Z:=St.init w;refine GO 9 ?_;intro _ Y;refine cQ Y rfl Z (xL p l A c f a _ (Z.rd0 hr) b g (fun X i k h=>d X (dW Z.below i) k h)) fun _ _ Y Z=>?_;refine GO 5 ?_;intro _ Y;refine aC Y rfl rfl ?_;exact⟨by rw[←yJ p l 0],Z.below⟩
theorem z6 (x y:Rcd) (b:Nat) (T:TypeId) (w:World) (a:Box w b (iR x).cells T) :
 bu 94 #[iR y,.pointer (some ⟨b,0,none⟩)] w (.bool (GY y.e x.e.t)):=by
 refine an (N:=23) Tryz.func94 rfl rfl rfl (fun _ Y=>?_);have Z:=St.init w;refine aj (aq ?_);refine nb Y rfl rfl Z fun o _ _ p Y Z=>GO 6 ?_;intro _ Y;refine vf Y 1 2 fun _ Y=>?_;refine GO 1 ?_;intro _ Y;refine sv Y (fy 1 (Y.ev rfl)) fun _ Y=>?_;refine sv Y (fy 1 (Y.ev rfl)) fun _ Y=>?_;refine sv Y (lx (Y.ev rfl) (Box.cells (a.below Z.below) 2)) fun _ Y=>?_;refine GO 2 ?_;intro _ Y;apply a8 (x:=(y.e.k==2||y.e.k==4)) Y Z 11 rfl 11 22
 case ht=>
  intro c;refine GO 1 ?_;intro _ Y;refine sy Y (fx 0 1 (Y.ev rfl)) fun _ Y=>?_;refine GO 3 ?_;intro _ Y;apply bI (x:=y.e.k==4) Y Z 16 rfl 5 21
  case hf=>
   intro g;refine GO 1 ?_;intro _ Y;refine sy Y (fx 0 1 (Y.ev rfl)) fun _ Y=>?_;refine GO 3 ?_;intro _ Y;exact ag ⟨Y.midE 4,Z⟩
  case ht=>
   intro g;refine GO 5 ?_;intro _ Y;exact ag ⟨Y.midE 4,Z⟩
  case h=>
   rintro j l ⟨q,d⟩
   refine GO 1 ?_;intro _ Y;exact ag ⟨Y.midE 6,d⟩
 case hf=>
  intro c;refine GO 5 ?_;intro _ Y;refine cw Y (aE Y _ rfl rfl rfl) rfl rfl fun _ Y=>cw Y (aE Y _ rfl rfl rfl) rfl rfl fun _ Y=>cw Y (aE Y _ rfl rfl rfl) rfl rfl fun _ Y=>cw Y (aE Y _ rfl rfl rfl) rfl rfl fun _ Y=>GO 2 ?_;intro _ Y;exact ag ⟨Y.midE 10,Z⟩
 case h=>
  rintro i m ⟨n,f⟩
  refine GO 4 ?_;intro _ Y;refine aC Y rfl rfl ?_;exact⟨rfl,f.below⟩
theorem iK {p:ByteArray} {x:Op} (c:p.size=512) (h:(bz p x).2=0):(bz p x).1.size=512:=by
 unfold bz at h ⊢
 split at h
 · rename_i a;exact absurd h a
 · rename_i a
   rw[if_neg a]
   split at h
   · rename_i b;rw[if_pos b];exact jK c ((gv x).1 (al a))
   · cases h
def vn (l:List Rcd) (p:List Pgp):Int:=av [(fh l).2,ik l p]
def nV (l:List Rcd) (p:List Pgp):List Pgp × Int × Int:=if vn l p≠0 then ([],0,vn l p) else w3 p 0 l
theorem rX (l:List Rcd) (B:Option Addr) (d:Nat) (p:List Pgp) (A:Option Addr) (c:Nat) (w:World)
 (hr:Rd w w.heap.size A (p.flatMap bX)) (T:Rd w w.heap.size B (l.flatMap cB)) (hl:l.length≤1000) (hc:l.length≤d) (Vd:p.length≤1000) (hF:FolT w) (hx:∀x∈l,FewE x.e∧I6 x.e.g) :
 Calls Tryz.prog 38 #[.slice B l.length d,.slice A p.length c] w fun e w'=>∃i:Option Addr × Nat,e=.returned (.tuple #[.slice i.1 (nV l p).1.length i.2,ae (nV l p).2.1,ae (nV l p).2.2]) ∧
  St [] w w' [.row (.slice i.1 (nV l p).1.length i.2) (nV l p).1.length 111 3 ((nV l p).1.flatMap bX)]:=by
 refine an (N:=93) Tryz.func38 rfl rfl rfl (fun _ Y=>?_);have Z:=St.init w;refine GO 11 ?_;intro _ Y;refine cQ Y rfl Z (fR l B d _ (Z.rd0 T) hl hc (hF.below Z.below) (fun x hm=>(hx x hm).1)) fun _ _ Y Z=>?_;refine GO 2 ?_;intro _ Y;refine cQ Y rfl Z (iJ p l A c B d _ (Z.rd0 hr) (Z.rd0 T) hl (fun x hm=>(hx x hm).2)) fun _ _ Y Z=>?_;refine bV Y (wn rfl) (f:=fun b=>.slice (some ⟨b,0,none⟩) 2 2) (ba dt aa aa (Y.evs2 rfl) rfl rfl rfl au au) rfl rfl Z fun Vj _ _ Zo Y s=>dn Y rfl (ei (s.at_ (i:=0) rfl)) fun _ Y=>?_;refine GO 9 ?_;intro _ Y;refine ak (Y.ev rfl) (fun Ze=>?_) (fun Ze=>?_)
 ·
  have hne:vn l p≠0:=by unfold vn;simpa using Ze
  have I:nV l p=([],0,vn l p):=by unfold nV;rw[if_pos hne]
  refine GO 10 ?_;intro _ Y;refine mh Y rfl rfl rfl rfl ?_;refine⟨(none,0),by rw[I];rfl,?_⟩;rw[I];exact(s.sub (List.nil_sublist _)).nilRow 111 3
 ·
  have hz:vn l p=0:=by unfold vn;simpa using Ze
  have I:nV l p=w3 p 0 l:=by unfold nV;rw[if_neg (fun h=>h hz)]
  have D:=hz;unfold vn at D;rw[aN] at D;obtain⟨g1,g2⟩:=um (D (ik l p) bw);have Vg:=(lf (D (fh l).2 bw)).2;refine GO 5 ?_;intro _ Y;refine nP Y (wn rfl) (aw a6 (Y.evs rfl) rfl) rfl rfl s (l9 p A c _ (s.rd0 hr) Vd) (Nat.le_refl _) fun G C _ _ Y Z=>GO 17 ?_;intro _ Y;refine aV Y Z [29,28,8,0] (fun (q:RdoS)=>[(30,ae q.j),(9,ae q.n)]) (fun (q:RdoS)=>q.j≤l.length∧w3 p 0 l=w3 q.p q.n (l.drop q.j)∧PgsOk q.p∧q.p.length=p.length∧0≤q.n∧q.n≤q.j∧(∀x∈l,fW q.p x=0)) (fun q L=>L.set 0 (.row (.slice G p.length C) p.length 111 3 (q.p.flatMap bX))) (fun (q:RdoS)=>l.length-q.j) (⟨0,p,0⟩) (⟨Nat.zero_le _,rfl,g1,rfl,Int.le_refl 0,Int.le_refl 0,g2⟩) bC (Z) ?_;intro q _ _ Zn Y Z;refine GO 6 ?_;intro _ Y;refine ak (Y.ev rfl) (fun Zf=>?_) (fun Zf=>?_)
  ·
   have u:q.j<l.length:=by have:=of_decide_eq_true Zf;omega
   obtain⟨b5,o5,rfl,Vp,_⟩:=T.opened (aF aI au ab);have Vc:l.drop q.j=l[q.j]::l.drop (q.j+1):=List.drop_eq_getElem_cons u;obtain⟨S,Vf⟩:=hx _ (List.getElem_mem u);obtain⟨-,a,m,r,Vi,Vn,H⟩:=Zn;rw[Vc,w3] at a
   have Jy:∀x∈q.p,0≤x.g∧x.g≤600:=fun x hx=>by
    obtain⟨k,hk,rfl⟩:=List.getElem_of_mem hx;exact(m.all k hk).g
   have Vk:=Vg.e0 u;have Vh:(l.drop (q.j+1)).length=l.length-(q.j+1):=List.length_drop ..
   have Jv:Rd w w.heap.size (some ⟨b5,iN o5 d (q.j+1) 14,none⟩) ((l.drop (q.j+1)).flatMap cB):=by
    rcases Nat.lt_or_ge (q.j+1) l.length with h | h
    · rw[E6 ab];exact T.dropF aI (q.j+1)
    · rw[List.drop_of_length_le h];exact Rd.nil _ _ _
   refine GO 7 ?_;intro _ Y;refine sv Y (ar (i:=q.j) (sz:=14) cO aa (Y.ev rfl) (Y.ev rfl) ab ab rfl) fun _ Y=>?_;refine sv (v:=iR l[q.j]) Y (ah aa aa (Y.ev rfl) (aL aI (Z.rd0 T) u)) fun _ Y=>?_;refine na (.agg mi) Y rfl Z fun O _ _ Zp Y Z=>GO 1 ?_;intro _ Y;refine sw Y Z 0 fun _ Z=>?_;refine GO 7 ?_;intro _ Y;refine sv Y (nU (l:=q.j+1) (h:=l.length) (sz:=14) cO aa (Y.ev rfl) (Y.ev rfl) rfl ab ab) fun _ Y=>?_;refine sv Y (fm (Y.evs rfl) (Y.evs rfl)) fun _ Y=>?_;refine cQ Y rfl Z (Vh▸sf (fun y=>GY y.e l[q.j].e.t) (l.drop (q.j+1)) _ (d-(q.j+1)) 94 [.pointer (some ⟨O,0,none⟩)] _ (Z.rd0 Jv) ab a6 (fun X F k hk=>z6 l[q.j] _ O _ X (Box.below (Z.at_ (i:=0) rfl) F))) fun _ _ Y Z=>?_;refine GO 7 ?_;intro _ Y;refine sv (v:=cy l[q.j].e) Y (ah aa aa (Y.ev rfl) (Z.cellsOf (i:=0) rfl 1 13)) fun _ Y=>?_;refine cQ Y rfl Z (jR _ _) fun _ _ Y Z=>?_;refine GO 2 ?_;intro _ Y;apply bI (x:=!(Fq (l.drop (q.j+1)) l[q.j].e.t)) Y Z 45 rfl 3 48
   case hf=>
    intro Zg;refine GO 3 ?_;intro _ Y;exact ag ⟨Y.midE 2,Z⟩
   case ht=>
    intro Zg;refine GO 3 ?_;intro _ Y;exact ag ⟨Y.midE 2,Z⟩
   case h=>
    rintro Vo Zs ⟨Zq,Zh⟩
    refine ag (ai ?_);refine ak (Zq.ev rfl) (fun Zc=>?_) (fun Zc=>?_)
    ·
     have Va:¬(cb l[q.j].e&&Fq (l.drop (q.j+1)) l[q.j].e.t)=true:=fun h=>by
      obtain⟨u1,u2⟩:=Bool.and_eq_true_iff.1 h;rw[u1,u2] at Zc;cases Zc
     rw[if_neg Va] at a;refine GO 9 ?_;intro _ Y;exact⟨⟨q.j+1,q.p,q.n⟩,(by show l.length-(q.j+1)<l.length-q.j;omega),⟨u,a,m,r,Vi,by show q.n≤((q.j+1:Nat):Int);omega,H⟩,Y.re bC,Zh.sub (aB 6)⟩
    ·
     obtain⟨u1,u2⟩:=Bool.or_eq_false_iff.1 Zc
     have R:(cb l[q.j].e&&Fq (l.drop (q.j+1)) l[q.j].e.t)=true:=by rw[Bool.and_eq_true];exact⟨al u1,al u2⟩
     rw[if_pos R] at a;obtain⟨qq,J,Vl⟩:=nw (H _ (List.getElem_mem u)) (al u1);refine GO 6 ?_;intro _ Y;refine vf Y 4 5 fun _ Y=>?_;refine GO 1 ?_;intro _ Y;refine cQ Y rfl Zh (r▸tP q.p m.srt Jy G C l[q.j].e.g Vf _ (Zh.rdOf (i:=1) rfl) (by have:=m.n;omega)) fun _ _ Y Z=>?_;refine GO 1 ?_;intro _ Zi;obtain⟨b',o',rfl,qk,q1,q2,W⟩:=mv m.srt (Z.rdOf (i:=1) rfl) (ow m.srt (Z.rdOf (i:=1) rfl) J);obtain rfl:o'=0:=lg (Z.at_ (i:=1) rfl);rw[Nat.zero_add] at W;generalize jU Pgp.g q.p l[q.j].e.g=k at qk q1 q2 W
     have Jx:qq=q.p[k]:=by rw[q2] at J;injection J with e;exact e.symm
     subst Jx;rw[q2] at a;simp only[] at a;have Za:=(m.all k qk).b
     have K:jM q.p[k].b l[q.j].e.o=(bz q.p[k].b l[q.j].e.o):=by unfold jM;rw[if_neg (fun h=>h (by unfold cI;rw[Za];rfl))]
     refine ag (ai (aj ?_));apply aK Zi (fK 12) _ aa
     case h=>
      refine qv Zi (fun X F=>aA (v':=.pointer (some ⟨b',k*3,none⟩)) (congrArg Value.pointer W) (bD (Zi.ev rfl))) fun _ Y=>?_;refine GO 1 ?_;intro _ Y;refine qv Y (fun X F=>fy 2 (Y.ev rfl)) fun _ Y=>?_;refine qv Y (fun X F=>lx (Y.ev rfl) (by have:=(aL aY ((Z.grow F).rdOf (i:=1) rfl) qk) 2 _ rfl;rw[Nat.zero_add] at this;exact this)) fun _ Y=>?_;refine GO 1 ?_;intro _ Y;refine qv Y (fun X F=>fx 6 7 (Y.ev rfl)) fun _ Y=>?_;refine qv (v:=fj l[q.j].e.o) Y (fun X F=>ah aa aa (Y.ev rfl) ((Z.grow F).cellsOf (i:=0) rfl 7 6)) fun _ Y=>?_;refine nH Y rfl (fun X F=>pa q.p[k].b l[q.j].e.o _ (by rw[Za];decide) S.o S.n) fun _ Y=>?_;refine GO 5 ?_;intro _ Y;refine aT fun _ Zj Zr=>?_;have Z:=Z.grow Zj;refine GO 1 ?_;intro _ Y;rw[K] at Y;obtain⟨s,E⟩:∃s,s=if ((bz q.p[k].b l[q.j].e.o).2==0&&!q.p[k].f)=true then xV (bz q.p[k].b l[q.j].e.o).1 l[q.j].l else (bz q.p[k].b l[q.j].e.o).1:=⟨_,rfl⟩;refine GO 8 ?_;intro _ Y;apply a8 (x:=!q.p[k].f) Y Z 67 rfl 6 73
      case ht=>
       intro Zk;refine sy Y (aA (v':=.pointer (some ⟨b',k*3,none⟩)) (congrArg Value.pointer W) (bD (Y.ev rfl))) fun _ Y=>?_;refine GO 1 ?_;intro _ Y;refine sy Y (fy 1 (Y.ev rfl)) fun _ Y=>?_;refine sy Y (lx (Y.ev rfl) (by have:=(aL aY (Z.rdOf (i:=1) rfl) qk) 1 _ rfl;rw[Nat.zero_add] at this;exact this)) fun _ Y=>?_;refine GO 2 ?_;intro _ Y;exact ag ⟨Y.midE 5,Z⟩
      case hf=>
       intro Zk;refine GO 6 ?_;intro _ Y;exact ag ⟨Y.midE 5,Z⟩
      case h=>
       rintro Vm Zt ⟨V,Zl⟩
       refine ag (ai ?_);refine dY V Zl [(14,.string s),(15,ae (bz q.p[k].b l[q.j].e.o).2)] [73,67,66,65,64,63,54,62,61,60,59,58,57,56,55,13,53,52,51,50,49,48,45,44,43,42,41,12,40,39,38,37,36,35,10,11,34,33,32,31,30,9,29,28,8,0] ?_ (fun _ _ Y Z=>?_)
       ·
        refine ak (V.ev rfl) (fun Zd=>?_) (fun Zd=>?_)
        ·
         have Q:(bz q.p[k].b l[q.j].e.o).2=0:=by simpa using (Bool.and_eq_true_iff.1 Zd).1
         have z:=iK Za Q
         have U:Fi (bz q.p[k].b l[q.j].e.o).1 l[q.j].l=0:=by
          unfold Fi;rw[aN];simp only[List.mem_cons,List.not_mem_nil,or_false,forall_eq_or_imp,forall_eq];exact⟨by unfold cI;rw[z];rfl,(aH au).2 (inB_true.2 ⟨by omega,by omega⟩)⟩
         refine GO 4 ?_;intro _ Y;refine cQ Y rfl Zl (oL (bz q.p[k].b l[q.j].e.o).1 l[q.j].l _ (by rw[z];decide)) fun _ _ Y Z=>?_;refine GO 7 ?_;intro _ Y;rw[show(if Fi (bz q.p[k].b l[q.j].e.o).1 l[q.j].l=0 then zF (bz q.p[k].b l[q.j].e.o).1 l[q.j].l else ⟨#[]⟩)=s by rw[E,if_pos U,if_pos Zd];rfl,show Fi (bz q.p[k].b l[q.j].e.o).1 l[q.j].l=(bz q.p[k].b l[q.j].e.o).2 by rw[U,Q]] at Y;exact⟨Y.re bC,Z⟩
        ·
         refine wp_skip (ai ?_);replace V:=Has.also V (t:=14) (v:=.string s) ((show look _ 14=some (.string (bz q.p[k].b l[q.j].e.o).1) from rfl).trans (by rw[E,if_neg (by rw[Zd];decide)]));exact⟨V.re bC,Zl⟩
       ·
        refine GO 8 ?_;intro _ Y;refine ak (Y.ev rfl) (fun Zm=>?_) (fun Zm=>?_)
        ·
         have P:(bz q.p[k].b l[q.j].e.o).2≠0:=al Zm;rw[if_pos P] at a;refine GO 15 ?_;intro _ Y;refine mh Y rfl rfl rfl rfl ?_;refine⟨(none,0),by rw[I,a];(try rfl),?_⟩;rw[I,a];exact(Z.sub (List.nil_sublist _)).nilRow 111 3
        ·
         have P:(bz q.p[k].b l[q.j].e.o).2=0:=al Zm;rw[if_neg (fun h=>h P)] at a
         have Vb:zv q.p[k] (bz q.p[k].b l[q.j].e.o).1 l[q.j].l=s:=by
          rw[E,P];unfold zv
          cases q.p[k].f<;>rfl
         have z:=iK Za P
         have Jz:s.size=512:=by
          rw[E]
          split
          · exact nZ z
          · exact z
         rw[Vb] at a;have M:=pV m l[q.j].e.g s Jz;have Jw:=jP m.srt qk s;rw[q1] at Jw;refine wp_skip (ai (aj (aq ?_)));refine sv Y (aA (v':=.pointer (some ⟨b',k*3,none⟩)) (congrArg Value.pointer W) (bD (Y.ev rfl))) fun _ Y=>?_;refine GO 2 ?_;intro _ Y;refine sv Y (fy 2 (Y.ev rfl)) fun _ Y=>?_;refine fB Y (wn rfl) ⟨rfl,rfl⟩ (Y.ev rfl) (Y.ev rfl) rfl aa Z (i:=1) rfl rfl (by show k*3+2+1≤p.length*3;omega) fun _ Z=>GO 14 ?_;intro _ Y;exact⟨⟨q.j+1,eY q.p l[q.j].e.g s,q.n+1⟩,(by show l.length-(q.j+1)<l.length-q.j;omega),⟨u,a,M,by rw[eB];exact r,by show 0≤q.n+1;omega,by show q.n+1≤((q.j+1:Nat):Int);omega,fun x hx=>by rw[lv];exact H x hx⟩,Y.re bC,(by show St _ w _ [.row _ _ _ _ ((eY q.p l[q.j].e.g s).flatMap bX),_];rw[Jw];exact(Z.sub (aB 6)))⟩
     case hB=>kernel_rfl
     case hst=>rfl
  ·
   have Ve:l.length≤q.j:=by have:=of_decide_eq_false Zf;omega
   obtain⟨-,a,m,r,-,-,-⟩:=Zn;rw[List.drop_of_length_le Ve,w3] at a;refine GO 15 ?_;intro _ Y;refine mh Y rfl rfl rfl rfl ?_;refine⟨(G,C),by rw[I,a,←r];(try rfl),?_⟩;rw[I,a];show St [] w _ [.row (.slice G q.p.length C) q.p.length _ _ _];rw[r];exact(Z.sub (aB 1))
open Go.RowKit Go.Sort Go.Shelf
structure Lsr where
 i:Int
 l:Int
 u:Int
def gA (x:Lsr):Array Value:=#[ae x.i,ae x.l,ae x.u]
def eb (x:Nat × Lsr):Value:=.pointer (some ⟨x.1,0,none⟩)
def dL (xs:List (Nat × Lsr)):Ent:=
 .inv (fun b=>∃x∈xs,x.1=b) (fun X=>(∀x∈xs,Box X x.1 (gA x.2) 273)∧(xs.map Prod.fst).Nodup)
  (fun X X' h a=>⟨fun x hx=>(a x.1 ⟨x,hx,rfl⟩).trans (h.1 x hx),h.2⟩)
theorem St.perm {M:List Nat} {w X:World} {L L':List Ent} (h:St M w X L) (d:L'.Perm L):St M w X L':=
 ⟨h.os,h.tape,h.output,h.size,h.block,fun e a=>h.ok e (d.mem_iff.1 a),fun e a=>h.new e (d.mem_iff.1 a),(d.pairwise_iff (fun {x y} f b g c=>f b c g)).2 h.sep⟩
def gN (l:List Trn):List Lsr:=(l.filter fun x=>!x.c).map fun x=>⟨x.i,x.l,x.u⟩
theorem zO (l:List Trn) {j:Nat} (a:j<l.length):gN (l.take (j+1))=if l[j].c=true then gN (l.take j) else gN (l.take j) ++ [⟨l[j].i,l[j].l,l[j].u⟩]:=by
 unfold gN;rw[List.take_succ_eq_append_getElem a,List.filter_append,List.filter_cons]
 cases h:l[j].c with
 | true=>simp
 | false=>simp
theorem St.swap2 {M:List Nat} {w X:World} {a b c:Ent} {L:List Ent} (h:St M w X (a::b::c::L)):St M w X (a::c::b::L):=h.perm (List.Perm.cons _ (List.Perm.swap _ _ _))
structure LosS where
 j:Nat
 n:Nat
 xs:List (Nat × Lsr)
 A:Option Addr
 c:Nat
theorem FB {M:List Nat} {w X:World} {b:Nat} {x:Lsr} {xs:List (Nat × Lsr)} {L:List Ent} (h:St M w X (.box b (gA x) 273::dL xs::L)):St M w X (dL (xs ++ [(b,x)])::L):=by
 have k:=h.at_ (i:=0) rfl;have j:=h.at_ (i:=1) rfl;refine h.fuse2 (fun b' d=>?_) ⟨fun y c=>?_,?_⟩
 · obtain⟨y,c,rfl⟩:=d
   rcases List.mem_append.1 c with c | c
   · exact .inr ⟨y,c,rfl⟩
   · rw[List.mem_singleton.1 c];exact .inl rfl
 · rcases List.mem_append.1 c with c | c
   · exact j.1 y c
   · rw[List.mem_singleton.1 c];exact k
 · rw[List.map_append,List.nodup_append]
   refine⟨j.2,by simp,fun a l b' d e=>?_⟩;have g:b'=b:=al d;obtain⟨y,c,f⟩:=List.mem_map.1 l;exact(List.pairwise_cons.1 h.sep).1 (dL xs) (List.mem_cons_self) b rfl ⟨y,c,by rw[f,e,g]⟩
theorem x6 (t:Tbl) (A:Option Addr) (c:Nat) (B:Option Addr) (d:Nat) (w:World) (hr:Rd w w.heap.size A (t.ts.flatMap bW)) (O:t.ts.length≤1000) :
 Calls Tryz.prog 123 #[cc t A c B d] w fun e J=>∃i:List (Nat × Lsr) × Option Addr × Nat,e=.returned (.slice i.2.1 i.1.length i.2.2)∧i.1.map Prod.snd=gN t.ts∧St [] w J [.row (.slice i.2.1 i.1.length i.2.2) i.1.length 233 1 (i.1.map eb),dL i.1]:=by
 refine an (N:=29) Tryz.func123 rfl rfl rfl (fun _ Y=>?_);have Z:=St.init w;refine aj (aq ?_);refine nb Y rfl rfl Z fun b1 _ H S Y Z=>GO 6 ?_;intro _ Y;have Z:=Z.nilRow 233 1;have Z:St [] w H [.row (.slice none 0 0) 0 233 1 [],dL [],.box b1 (cc t A c B d).cells 25]:=St.perm (L:=[dL [],.row (.slice none 0 0) 0 233 1 [],.box b1 (cc t A c B d).cells 25]) (Z.add (Below.refl _ _) (e:=dL []) ⟨fun x hx=>(by cases hx),List.nodup_nil⟩ (fun b K=>by obtain⟨x,hx,_⟩:=K;cases hx)) (List.Perm.swap _ _ _);replace Z:=Z;refine GO 12 ?_;intro _ Y;refine aV Y Z [8,7,2] (fun (q:LosS)=>[(9,ae (q.j:Nat)),(3,.slice q.A q.n q.c)]) (fun (q:LosS)=>q.j≤t.ts.length∧q.xs.map Prod.snd=gN (t.ts.take q.j)∧q.xs.length=q.n∧q.n≤q.j) (fun q _=>[.row (.slice q.A q.n q.c) q.n 233 1 (q.xs.map eb),dL q.xs,.box b1 (cc t A c B d).cells 25]) (fun (q:LosS)=>t.ts.length-q.j) (⟨0,0,[],none,0⟩) (⟨Nat.zero_le _,rfl,rfl,Nat.le_refl _⟩) bC (Z) ?_;intro q _ _ E Y Z;refine GO 6 ?_;intro _ Y;refine ak (Y.ev rfl) (fun s=>?_) (fun s=>?_)
 ·
  have a:q.j<t.ts.length:=by have:=of_decide_eq_true s;omega
  obtain⟨b,o,rfl,hB,_⟩:=hr.opened (aF bq au ab);have g:=zO t.ts a;obtain⟨M,p,m,F⟩:=E;refine wp_skip (ai (aj (wp_block (aj (aq ?_)))));refine sv Y (ar (i:=q.j) (sz:=4) dT aa (Y.ev rfl) (Y.ev rfl) ab ab rfl) fun _ Y=>?_;refine sv (v:=eX t.ts[q.j]) Y (ah aa aa (Y.ev rfl) (aL bq (Z.rd0 hr) a)) fun _ Y=>?_;refine na (.agg lZ) Y rfl Z fun P _ _ Q Y Z=>sw Y Z 0 fun _ Z=>?_;refine GO 9 ?_;intro _ Y;refine ak (Y.ev rfl) (fun C=>?_) (fun C=>?_)
  ·
   have h:t.ts[q.j].c=false:=al C;rw[if_neg (by rw[h];decide)] at g;refine GO 8 ?_;intro _ Y;refine sv Y (az (zs:=lJ) (pl:=fY) aa aa (Y.evs2 rfl) rfl rfl) fun _ Y=>?_;refine nb Y rfl rfl Z fun k _ _ T Y Z=>?_;refine bV Y (wn rfl) (f:=fun b=>.slice (some ⟨b,0,none⟩) 1 1) (ba jg aa aa (Y.evs2 rfl) rfl rfl rfl au au) rfl rfl Z fun I _ _ R Y Z=>?_;refine bS (z:=.pointer none) (sz:=1) (bytes:=8) Y (wn rfl) ⟨rfl,rfl⟩ rfl jg aa rfl rfl (Y.ev rfl) (Y.ev rfl) Z (i:=3) rfl (Z.boxRd (i:=0) rfl) rfl (List.all_eq_true.1 rfl) ⟨ab,by decide⟩ fun y D _ _ Y Z=>?_;refine GO 9 ?_;intro _ Y;exact⟨⟨q.j+1,q.n+1,q.xs ++ [(k,⟨t.ts[q.j].i,t.ts[q.j].l,t.ts[q.j].u⟩)],y,D⟩,(by show t.ts.length-(q.j+1)<t.ts.length-q.j;omega),⟨a,by show(q.xs ++ [_]).map Prod.snd=gN (t.ts.take (q.j+1));rw[g,List.map_append,p];rfl,by show(q.xs ++ [_]).length=q.n+1;rw[List.length_append,m];rfl,by show q.n+1≤q.j+1;omega⟩,Y.re bC,(by have G:=FB (b:=k) (x:=⟨t.ts[q.j].i,t.ts[q.j].l,t.ts[q.j].u⟩) (St.swap2 (Z.sub (aB 58)));show St [] w _ [.row _ _ _ _ ((q.xs ++ [(k,(⟨t.ts[q.j].i,t.ts[q.j].l,t.ts[q.j].u⟩:Lsr))]).map eb),_,_];rw[List.map_append];exact St.swap G)⟩
  ·
   have h:t.ts[q.j].c=true:=al C;rw[if_pos h] at g;refine GO 8 ?_;intro _ Y;exact⟨⟨q.j+1,q.n,q.xs,q.A,q.c⟩,(by show t.ts.length-(q.j+1)<t.ts.length-q.j;omega),⟨a,by show q.xs.map Prod.snd=gN (t.ts.take (q.j+1));rw[g,p],m,by show q.n≤q.j+1;omega⟩,Y.re bC,Z.sub (aB 14)⟩
 ·
  have r:t.ts.length≤q.j:=by have:=of_decide_eq_false s;omega
  obtain⟨M,p,m,F⟩:=E;rw[List.take_of_length_le r] at p;refine GO 12 ?_;intro _ Y;refine aC Y rfl rfl ?_;exact⟨(q.xs,q.A,q.c),by rw[m],p,by rw[m];exact(Z.sub (aB 3))⟩
open Go.RowKit Go.Sort Go.Shelf
def yw (x:Lsr):Nat→Int→Lsr
 | 0,v=>⟨v,x.l,x.u⟩
 | 1,v=>⟨x.i,v,x.u⟩
 | _,v=>⟨x.i,x.l,v⟩
def lB (xs:List (Nat × Lsr)) (b j:Nat) (v:Int):List (Nat × Lsr):=xs.map fun x=>if x.1=b then (x.1,yw x.2 j v) else x
theorem vr (xs:List (Nat × Lsr)) (b j:Nat) (v:Int):(lB xs b j v).map Prod.fst=xs.map Prod.fst:=by
 unfold lB;rw[List.map_map];apply List.map_congr_left;intro x _;show(if x.1=b then (x.1,yw x.2 j v) else x).1=x.1
 split<;>rfl
theorem BQ (x:Lsr) (v:Int) {j:Nat} (a:j<3):((gA x).toList.take j ++ [Value.int .i64 v] ++ (gA x).toList.drop (j+1)).toArray=gA (yw x j v):=by
 match j,a with
 | 0,_=>rfl
 | 1,_=>rfl
 | 2,_=>rfl
theorem Es {x y:Lsr} (h:(gA x).toList=(gA y).toList):x=y:=by
 obtain⟨e,f,g⟩:=x;obtain⟨j,i,d⟩:=y;simp[gA] at h;obtain⟨c,a,b⟩:=h;subst c a b;rfl
theorem jL {P:Program} {ops:Array Oper} {Q:Exit→Act→World→Prop} {rest:List Oper} {o:Oper} {a:Act} {X w:World} {M:List Nat} {E:List Ent} {ty:TypeId} {C y:Operand} {b j i:Nat} {v:Int} {x:Lsr} {xs:List (Nat × Lsr)}
 (J:Region.wanted o (yielded ops a.tmps)=true) (G:o.op=.store ty C y∧o.dst=none) (hx:a.eval C=.pointer (some ⟨b,j,none⟩)) (H:a.eval y=ae v) (n:(P.info? ty).map (·.size)=some 1) (s:St M w X E) (t:E[i]? = some (dL xs)) (hm:(b,x)∈xs) (I:j<3)
 (k:∀X',St M w X' (E.set i (dL (lB xs b j v)))→wpList P ops Q rest a X'):wpList P ops Q (o::rest) a X:=by
 have d:=s.at_ t;have B:Box X b (gA x) 273:=d.1 _ hm;have hst:=dX (P:=P) b 273 [Value.int .i64 v] j 0 (gA x) X B (by show j+0+1≤3;omega) (fun u L=>by rw[List.mem_singleton.1 L];rfl);simp only[Nat.add_zero] at hst;have h:=BQ x v I;have A:=setRow_heap X b (gA x) (gA (yw x j v)) 273 (0,0) B;refine nh (X':=X.setRow b (gA (yw x j v))) J ?_ G.2 (k _ ?_)
 · cases hq:P.info? ty with
   | none=>rw[hq] at n;cases n
   | some q=>
    rw[hq] at n;have p:q.size=1:=al n;unfold execOp;simp only[G.1,hx,H,Instr.storeAt,Instr.sureAddr,Sem.run_bind,Sem.run_pure,Result.andThen_ok];have N:(Value.int .i64 v).cells.toList=[Value.int .i64 v]:=rfl;simp only[List.length_singleton] at hst;rw[h] at hst;simp[storeVar,sizeOf,typeInfo,hq,p,Value.cells,hst]
 · refine s.turn t rfl rfl rfl (by simp[World.setRow]) (fun F D hne=>setRow_other X b F _ (fun e=>hne ⟨(b,x),hm,e.symm⟩)) ⟨fun z m=>?_,by rw[vr];exact d.2⟩ (fun F D=>?_)
   · unfold lB at m
     obtain⟨c,f,rfl⟩:=List.mem_map.1 m;have g:=d.1 c f;by_cases e:c.1=b
     · rw[if_pos e]
       have r:c.2=x:=by
        have Y:Box X b (gA c.2) 273:=e▸g;have K:X.heap[b]? = some (Obj.cells (gA c.2) 273 (0,0)):=Y;have Y:X.heap[b]? = some (Obj.cells (gA x) 273 (0,0)):=B;rw[K] at Y;injection Y with Y;injection Y with Y
        have e0:(gA c.2).toList=(gA x).toList:=by rw[Y]
        exact Es e0
       show Box _ c.1 (gA (yw c.2 j v)) _;rw[e,r];exact A
     · rw[if_neg e]
       exact(setRow_other X b c.1 _ e).trans g
   · obtain⟨z,m,rfl⟩:=D
     have l:z.1∈(lB xs b j v).map Prod.fst:=List.mem_map.2 ⟨z,m,rfl⟩;rw[vr] at l;obtain⟨c,f,e0⟩:=List.mem_map.1 l;refine⟨.inl ⟨c,f,e0⟩,?_⟩;have:=(s.new _ (List.mem_of_getElem? t) z.1 ⟨c,f,e0⟩).2
     simpa [World.setRow] using this
theorem rK {P:Program} {ops:Array Oper} {Q:Exit→Act→World→Prop} {rest:List Oper} {o:Oper} {a:Act} {X w:World} {N d:Nat} {l:List (Nat × Value)} {M:List Nat} {E:List Ent} {ds:List Deferred} {s x:Operand} {t e:TypeId} {z v:Value} {n m c i sz bytes:Nat} {A:Option Addr} {xs news:List Value} (Z:Has ds a N l) (hw:Region.wanted o (yielded ops a.tmps)=true) (T:o.op=.call { callee:=.builtin .append,args:=#[s,x],argTypes:=#[t,t] }∧o.dst=some d) (hN:Nat.blt d N=true)
 (ht:P.underlying t=some (.slice e)) (j:(P.info? e).map (fun i=>(i.zero,i.size,i.bytes))=some (some z,sz,bytes)) (W:z.cells.size=sz) (I:Nat.blt 0 sz=true) (hs:a.eval s=v) (hx:a.eval x=.slice A m c) (R:St M w X E) (K:E[i]? = some (.row v n e sz xs))
 (hr:Rd X X.heap.size A news) (V:news.length=m*sz) (h1:∀u∈news,u.oneCell'=true) (p:n+m≤1000000∧bytes≤1000000)
 (k:∀y c' a' X',Has ds a' N ((d,.slice y (n+m) c')::l)→St M w X' E→Rd X' X'.heap.size y (xs ++ news)→wpList P ops Q rest a' X'):wpList P ops Q (o::rest) a X:=by
 obtain⟨q,hq,H,F,G⟩:=kF j;have h:X.ownsRow 0 e sz v n xs:=R.at_ K;have S:(n+m)*bytes≤1000000*1000000:=Nat.mul_le_mul p.1 p.2;obtain⟨v',D,r,O,h3,h5⟩:=jq (P:=P) X t o.type e q z sz bytes ht hq H F G W (Nat.lt_of_lt_of_le (Nat.lt_succ_self 0) (Nat.le_of_ble_eq_true I)) v n xs h A m c news V hr h1 (by unfold maxLen;omega) ab (n*sz) (.inl (Nat.le_refl _));obtain⟨y,c',rfl,_⟩:=ownsRow_form O
 have f:D.ownsRow 0 e sz v n xs:=by
  obtain⟨Y,J⟩:=h;refine⟨Y,?_⟩;rcases J with J | ⟨g,cap,cur,e1,e2,e3,e4,e5,e6,e7⟩
  · exact .inl J
  · obtain⟨C,r1,U,r3⟩:=h3.2 g cur e (0,0) e3
    refine .inr ⟨g,cap,C,e1,e2,r1,e4,e5,by rw[U];exact e6,?_⟩;rw[r3];exact e7
 have B:St M w D (E.set i (.row v n e sz xs)):=R.turn K h3.1.os h3.1.tape h3.1.output h3.1.size (fun b p hne=>h3.1.block b p hne) f (fun b p=>⟨.inl p,(World.ownsRow.lt f b p).2⟩);rw[we K] at B;refine aU (X':=D) (v:=.slice y (n+m) c') Z hw ?_ T.2 hN (fun a' L=>k y c' a' D L B (Rd.of_own O));unfold execOp;simp only[T.1,resolve,invoke,builtin,Sem.run_bind,Sem.run_pure,Result.andThen_ok,List.map_toArray,List.map_cons,List.map_nil,hs,hx,r]
open Go.RowKit Go.Sort Go.Shelf
theorem CC (x y:Nat × Lsr) (w:World) (hx:Box w x.1 (gA x.2) 273) (c:Box w y.1 (gA y.2) 273) :
 bu 207 #[eb x,eb y] w (ae (Lib.compareInt x.2.u y.2.u)):=by
 refine an (N:=14) Tryz.func207 rfl rfl rfl (fun _ Y=>?_);have Z:=St.init w;refine GO 6 ?_;intro _ Y;apply aK Y (fK 8) _ aa
 case h=>
  refine GO 2 ?_;intro _ Y;refine qv Y (fun X a=>fy 2 (Y.ev rfl)) fun _ Y=>?_;refine qv Y (fun X a=>lx (Y.ev rfl) ((hx.below (Z.grow a).below).cells 2)) fun _ Y=>?_;refine GO 2 ?_;intro _ Y;refine qv Y (fun X a=>fy 2 (Y.ev rfl)) fun _ Y=>?_;refine qv Y (fun X a=>lx (Y.ev rfl) ((c.below (Z.grow a).below).cells 2)) fun _ Y=>?_;refine ax ?_;refine aT fun _ b d=>?_;have Z:=Z.grow b;refine dn Y rfl (vt _ _ _) fun _ Y=>?_;refine GO 4 ?_;intro _ Y;refine aC Y rfl rfl ?_;exact⟨rfl,Z.below⟩
 case hB=>kernel_rfl
 case hst=>rfl
def lX (m x:Nat × Lsr):Nat × Lsr:=if m.2.u<x.2.u then x else m
theorem Gx {m x:Nat × Lsr} (h:m.2.u<x.2.u):lX m x=x:=if_pos h
theorem DH {m x:Nat × Lsr} (h:¬m.2.u<x.2.u):lX m x=m:=if_neg h
theorem xv {X:World} {B b o k:Nat} {l:List (Nat × Lsr)} (hr:Rd X B (some ⟨b,o,none⟩) (l.map eb)) (a:k<l.length):∀(j:Nat) (u:Value),[eb l[k]][j]? = some u→X.cell? ⟨b,o+k*1+j,none⟩=some u
 | 0,u,hu=>by
  obtain⟨b',o',e,_,c⟩:=hr k u (by rw[List.getElem?_map,List.getElem?_eq_getElem a];exact hu);injection e with e;injection e with e1 e2;subst e1 e2;rw[Nat.mul_one,Nat.add_zero];exact c
 | j+1,u,hu=>by simp at hu
theorem cmpI_pos {x y:Int}:Lib.compareInt x y>0↔y<x:=by unfold Lib.compareInt;split<;>(try split)<;>omega
theorem vb:∀(zs:List (Nat × Lsr)) (z:Nat × Lsr),zs.foldl lX z∈z::zs
 | [],z=>List.mem_cons_self
 | x::r,z=>by
  rw[List.foldl_cons];rcases List.mem_cons.1 (vb r (lX z x)) with h | h
  · rw[h]
    unfold lX
    split
    · exact List.mem_cons_of_mem _ (List.mem_cons_self)
    · exact List.mem_cons_self
  · exact List.mem_cons_of_mem _ (List.mem_cons_of_mem _ h)
theorem oW (z:Nat × Lsr) (zs:List (Nat × Lsr)) (A:Option Addr) (c:Nat) (w:World) (hr:Rd w w.heap.size A ((z::zs).map eb)) (n:∀x∈z::zs,Box w x.1 (gA x.2) 273) (r:zs.length≤1000) :
 bu 206 #[.slice A (z::zs).length c,.func (.func 207) #[] #[]] w (eb (zs.foldl lX z)):=by
 obtain⟨b,o,rfl,hB,_⟩:=hr.opened bw;have p:(z::zs).length=zs.length+1:=rfl;refine an (N:=33) Tryz.func206 rfl rfl rfl (fun _ Y=>?_);have Z:=St.init w;refine GO 13 ?_;intro _ Y;refine mU (Y.ev rfl) ((by simp;omega)) ?_;refine GO 5 ?_;intro _ Y;refine sv Y (ar (i:=0) (sz:=1) jg aa (Y.ev rfl) (Y.ev rfl) ab ab rfl) fun _ Y=>?_;refine sv (v:=eb z) Y (lx (Y.ev rfl) ((xv (Z.rd0 hr) (show 0<(z::zs).length by omega)) 0 _ rfl)) fun _ Y=>?_;refine GO 10 ?_;intro _ Y;refine aV Y Z [4,0,1] (fun (j:Nat)=>[(6,ae ((j+1:Nat):Int)),(5,eb ((zs.take j).foldl lX z))]) (fun (j:Nat)=>j≤zs.length) (fun (j:Nat) L=>L) (fun (j:Nat)=>zs.length-j) (0) (Nat.zero_le _) bC (Z) ?_;intro j _ _ q Y Z;refine GO 9 ?_;intro _ Y;refine ak (Y.ev rfl) (fun f=>?_) (fun f=>?_)
 ·
  have a:j<zs.length:=by have:=of_decide_eq_true f;omega
  have hm:=vb (zs.take j) z
  have g:(zs.take j).foldl lX z∈z::zs:=by
   rcases List.mem_cons.1 hm with h | h
   · rw[h];exact List.mem_cons_self
   · exact List.mem_cons_of_mem _ (List.mem_of_mem_take h)
  have l:zs[j]∈z::zs:=List.mem_cons_of_mem _ (List.getElem_mem a)
  have e:(zs.take (j+1)).foldl lX z=lX ((zs.take j).foldl lX z) zs[j]:=by rw[List.take_succ_eq_append_getElem a,List.foldl_append];rfl
  refine GO 9 ?_;intro _ Y;refine sv Y (ar (i:=j+1) (sz:=1) jg aa (Y.ev rfl) (Y.ev rfl) ab ab rfl) fun _ Y=>?_;refine sv (v:=eb zs[j]) Y (lx (Y.ev rfl) ((xv (Z.rd0 hr) (show j+1<(z::zs).length by omega)) 0 _ rfl)) fun _ Y=>?_;refine GO 1 ?_;intro _ Y;refine dO Y (wn rfl) (cG a6 (Y.ev rfl) (Y.evs rfl) rfl) rfl rfl Z (CC zs[j] ((zs.take j).foldl lX z) _ ((n _ l).below Z.below) ((n _ g).below Z.below)) fun _ _ Y Z=>GO 3 ?_;intro _ Y;refine ak (Y.ev rfl) (fun m=>?_) (fun m=>?_)
  ·
   have d:((zs.take j).foldl lX z).2.u<zs[j].2.u:=cmpI_pos.1 (of_decide_eq_true m);refine GO 3 ?_;intro _ Y;refine sv Y (ar (i:=j+1) (sz:=1) jg aa (Y.ev rfl) (Y.ev rfl) ab ab rfl) fun _ Y=>?_;refine sv Y (aA (v':=eb ((zs.take (j+1)).foldl lX z)) (by show eb zs[j]=_;rw[e,Gx d]) (lx (Y.ev rfl) ((xv (Z.rd0 hr) (show j+1<(z::zs).length by omega)) 0 _ rfl))) fun _ Y=>?_;refine GO 10 ?_;intro _ Y;exact⟨j+1,ab,a,Y.re bC,Z⟩
  ·
   have d:¬((zs.take j).foldl lX z).2.u<zs[j].2.u:=mt cmpI_pos.2 (of_decide_eq_false m);rw[show(zs.take j).foldl lX z=(zs.take (j+1)).foldl lX z by rw[e,DH d]] at Y;refine GO 9 ?_;intro _ Y;exact⟨j+1,ab,a,Y.re bC,Z⟩
 ·
  have k:zs.length≤j:=by have:=of_decide_eq_false f;omega
  rw[List.take_of_length_le k] at Y;refine GO 12 ?_;intro _ Y;refine aC Y rfl rfl ?_;exact⟨rfl,Z.below⟩
open Go.RowKit Go.Sort Go.Shelf
theorem St.outer2 {M:List Nat} {w X X':World} {L1 k L2:List Ent} (h:St M w X (L1 ++ L2)) (h':St (eh X L1) X X' k):St M w X' (k ++ L2):=by
 have n:=List.pairwise_append.1 h.sep;have l:∀b,b∈eh X L1→∃e∈L1,e.dom b:=fun b c=>(mem_domsL.1 c).2
 have i:∀f∈L2,∀b,f.dom b→b<X.heap.size∧b∉eh X L1:=fun f hf b c=>⟨(h.new f (List.mem_append.2 (.inr hf)) b c).2,fun hm=>by
  obtain⟨e,a,g⟩:=l b hm
  exact n.2.2 e a f hf b g c⟩
 refine⟨h'.os.trans h.os,h'.tape.trans h.tape,h'.output.trans h.output,Nat.le_trans h.size h'.size,fun b c m=>?_,fun e a=>?_,fun e a b c=>?_,List.pairwise_append.2 ⟨h'.sep,n.2.1,fun e a f hf b c j=>?_⟩⟩
 · refine(h'.block b (Nat.lt_of_lt_of_le c h.size) (fun hm=>?_)).trans (h.block b c m)
   obtain⟨e,a,g⟩:=l b hm;rcases (h.new e (List.mem_append.2 (.inl a)) b g).1 with d | d
   · omega
   · exact m d
 · rcases List.mem_append.1 a with a | a
   · exact h'.ok e a
   · exact Ent.ok_of (h.ok e (List.mem_append.2 (.inr a))) (fun b c=>h'.block b (i e a b c).1 (i e a b c).2)
 · rcases List.mem_append.1 a with a | a
   · refine⟨?_,(h'.new e a b c).2⟩
     rcases (h'.new e a b c).1 with d | d
     · exact .inl (Nat.le_trans h.size d)
     · obtain⟨f,hf,j⟩:=l b d
       exact(h.new f (List.mem_append.2 (.inl hf)) b j).1
   · exact⟨(h.new e (List.mem_append.2 (.inr a)) b c).1,Nat.lt_of_lt_of_le (h.new e (List.mem_append.2 (.inr a)) b c).2 h'.size⟩
 · have o:=i f hf b j
   rcases (h'.new e a b c).1 with d | d
   · omega
   · exact o.2 d
open Go.RowKit Go.Sort Go.Shelf
def zH:Lsr:=⟨0,0,0⟩
def Hs:List (Nat × Lsr)→Option (Nat × Lsr)
 | []=>none
 | z::zs=>some (zs.foldl lX z)
abbrev lD (σ:Type):=σ→Lsr→Rcd→σ × Lsr × Int
def fJ {σ:Type} (l:List Rcd) (a:lD σ):Nat→List (Nat × Lsr)→σ→List (Nat × Lsr) × σ × Int
 | 0,ls,s=>(ls,s,26)
 | f+1,ls,s=>match Hs ls with
  | none=>(ls,s,0)
  | some m=>if m.2.u=0 then (ls,s,0) else match cz l m.2.u with
   | none=>(ls,s,6)
   | some r=>if cb r.e=true∧r.e.t=m.2.i then
    (if (a s ⟨m.2.i,m.2.l,bE r.e⟩ r).2.2≠0 then (ls,s,(a s ⟨m.2.i,m.2.l,bE r.e⟩ r).2.2)
     else fJ l a f (ls.map fun x=>if x.1=m.1 then (x.1,(a s ⟨m.2.i,m.2.l,bE r.e⟩ r).2.1) else x) (a s ⟨m.2.i,m.2.l,bE r.e⟩ r).1) else (ls,s,6)
theorem FR {z:Nat × Lsr} {zs:List (Nat × Lsr)} (b:Nat) (h:∀x∈z::zs,0≤x.2.u):(zs ++ [(b,zH)]).foldl lX z=zs.foldl lX z:=by
 rw[List.foldl_append];show lX (zs.foldl lX z) (b,zH)=_;exact DH (by have:=h _ (vb zs z);show ¬(zs.foldl lX z).2.u<0;omega)
open Go.RowKit Go.Sort Go.Shelf
def gn (ls:List (Nat × Lsr)) (b:Nat) (x:Lsr):List (Nat × Lsr):=ls.map fun y=>if y.1=b then (y.1,x) else y
theorem el (ls:List (Nat × Lsr)) (b:Nat) (x:Lsr):(gn ls b x).map Prod.fst=ls.map Prod.fst:=by
 unfold gn;rw[List.map_map];apply List.map_congr_left;intro y _;show(if y.1=b then (y.1,x) else y).1=y.1
 split<;>rfl
theorem yI {ls a:List (Nat × Lsr)} (h:ls.map Prod.fst=a.map Prod.fst):ls.map eb=a.map eb:=by
 have e:∀xs:List (Nat × Lsr),xs.map eb=(xs.map Prod.fst).map fun b=>Value.pointer (some ⟨b,0,none⟩):=fun xs=>by rw[List.map_map];rfl
 rw[e,e,h]
theorem yR {ls:List (Nat × Lsr)} {b:Nat} (h:∀x∈ls,0≤x.2.u):∃z zs,ls ++ [(b,zH)]=z::zs∧((Hs ls=none∧zs.foldl lX z=(b,zH))∨(∃m,m∈ls∧Hs ls=some m∧zs.foldl lX z=m)):=by
 cases ls with
 | nil=>exact⟨(b,zH),[],rfl,.inl ⟨rfl,rfl⟩⟩
 | cons z zs=>exact⟨z,zs ++ [(b,zH)],rfl,.inr ⟨zs.foldl lX z,vb zs z,rfl,FR b h⟩⟩
theorem gu {P:Program} {ops:Array Oper} {Q:Exit→Act→World→Prop} {rest:List Oper} {o:Oper} {a:Act} {X w:World} {N d:Nat} {e:List (Nat × Value)} {M:List Nat} {L1 L2:List Ent} {ds:List Deferred} {ι:Type} {f:FuncId} {args:Array Value} {V:ι→Value} {F:ι→Prop} {c:ι→List Ent}
 (n:Has ds a N e) (l:Region.wanted o (yielded ops a.tmps)=true) (hx:(execOp a.eval o).run P X=.ok (.enter f args) X) (m:o.dst=some d) (g:Nat.blt d N=true) (h:St M w X (L1 ++ L2))
 (j:Calls P f args X fun r X'=>∃p,r=.returned (V p)∧F p∧St (eh X L1) X X' (c p)) (k:∀p a' X',Has ds a' N ((d,V p)::e)→F p→St M w X' (c p ++ L2)→wpList P ops Q rest a' X'):wpList P ops Q (o::rest) a X:=
 dJ n l hx m g j fun r X' ⟨p,hr,hF,i⟩=>⟨V p,hr,fun a' b=>k p a' X' b hF (h.outer2 i)⟩
theorem St.frontL {M:List Nat} {w X:World} {L1 L2:List Ent} (h:St M w X (L1 ++ L2)):St (eh X L1) X X L1:=(h.sub (List.sublist_append_left L1 L2)).inner
end Go.Proofs.YtcfdpfmchchkaaaGreatDoor
