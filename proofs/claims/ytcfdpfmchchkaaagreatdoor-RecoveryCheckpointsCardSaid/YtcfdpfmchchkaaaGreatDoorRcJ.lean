/- Chapter 22 -/
import Derived.Test.YtcfdpfmchchkaaaGreatDoorRcG
namespace Go.Proofs.YtcfdpfmchchkaaaGreatDoor
set_option maxHeartbeats 1000000
set_option maxRecDepth 4000
set_option linter.unusedVariables false
set_option linter.unusedSimpArgs false
open Go.RowKit
def Gy (y:Lge) (t:Int):Bool:=y.t==t&&(y.k==2||y.k==4)
def Eo (r:List Rcd) (t:Int):Bool:=r.any fun y=>Gy y.e t
def Hi (q:Pgp) (s:ByteArray) (n:Int):ByteArray:=if q.f then s else xr s n
def vc:List Pgp→Int→List Rcd→List Pgp × Int × Int
 | p,n,[]=>(p,n,0)
 | p,n,x::r=>if (eh x.e&&Eo r x.e.t)=true then (match lu p x.e.g with
  | none=>([],0,0)
  | some q=>if (cj q.b x.e.o).2≠0 then ([],0,(cj q.b x.e.o).2) else vc (gW p x.e.g (Hi q (cj q.b x.e.o).1 x.l)) (n+1) r) else vc p n r
open Go.RowKit Go.Sort
open Go.RowKit Go.Sort
open Go.RowKit Go.Sort Go.Shelf
theorem Rd.dropF {α:Type} {f:α→List Value} {n:Nat} (hf:∀x,(f x).length=n) {w:World} {B b o:Nat} {l:List α} (h:Rd w B (some ⟨b,o,none⟩) (l.flatMap f)) (k:Nat):Rd w B (some ⟨b,o+k*n,none⟩) ((l.drop k).flatMap f):=fun j u a=>by
 rw[←rP hf,List.getElem?_drop] at a;obtain⟨g,o',e,d,c⟩:=h (k*n+j) u a;injection e with e;injection e with e1 e2;subst e1 e2;exact⟨b,o+k*n,rfl,d,by rw[Nat.add_assoc];exact c⟩
theorem DK {o c l sz:Nat} (h:l<c):gX o c l sz=o+l*sz:=by unfold gX;rw[if_neg ab]
open Go.RowKit Go.Sort Go.Shelf
theorem Has.also {ds:List Deferred} {a:Act} {N t:Nat} {l:List (Nat × Value)} {v:Value} (h:Has ds a N l) (ht:look l t=some v):Has ds a N ((t,v)::l):=⟨h.defers,h.size,fun u x b=>by
 unfold look at b
 cases hb:Nat.beq t u with
 | true=>
  rw[hb] at b;obtain rfl:=Nat.eq_of_beq_eq_true hb;injection b with b;subst b;exact h.slot _ _ ht
 | false=>rw[hb] at b;exact h.slot _ _ b⟩
def Fa {α:Type} (p:α→Bool):List α→Nat→Int
 | [],_=>-1
 | x::r,k=>if p x=true then k else Fa p r (k+1)
theorem yo {α:Type} (p:α→Bool):∀(l:List α) (k:Nat),decide (Fa p l k≥0)=l.any p
 | [],k=>rfl
 | x::r,k=>by
  unfold Fa;rw[List.any_cons]
  cases h:p x with
  | true=>rw[if_pos rfl,decide_eq_true ab];rfl
  | false=>rw[if_neg au,yo p r (k+1)];rfl
theorem wS (p:Rcd→Bool) (l:List Rcd) (A:Option Addr) (c:Nat) (f:FuncId) (d:List Value) (w:World) (hr:Rd w w.heap.size A (l.flatMap cm)) (s:l.length≤1000) (r:∀(vs:Array Value) (W:World),(callFunc f vs).run Tryz.prog W=.ok (.enter f vs) W)
 (m:∀X,Below w.heap.size w X→∀(k:Nat) (u:k<l.length),Calls Tryz.prog f ([gV l[k]] ++ d).toArray X fun e X'=>e=.returned (.bool (p l[k]))∧Below X.heap.size X X') :
 bz 146 #[.slice A l.length c,.func (.func f) #[] d.toArray] w (ae (Fa p l 0)):=by
 refine aq (N:=19) Tryz.func146 rfl rfl rfl (fun _ Y=>?_);have Z:=St.init w;refine GO 14 ?_;intro _ Y;refine aY Y Z [7,0,1] (fun (j:Nat)=>[(8,ae j)]) (fun (j:Nat)=>j≤l.length∧Fa p l 0=Fa p (l.drop j) j) (fun (j:Nat) L=>L) (fun (j:Nat)=>l.length-j) (0) (⟨Nat.zero_le _,rfl⟩) bN (Z) ?_;intro j _ _ n Y Z;refine GO 6 ?_;intro _ Y;refine ak (Y.ev rfl) (fun g=>?_) (fun g=>?_)
 ·
  have a:j<l.length:=by have:=of_decide_eq_true g;omega
  obtain⟨b,o,rfl,hB,_⟩:=hr.opened (aQ aO au ab);have t:l.drop j=l[j]::l.drop (j+1):=List.drop_eq_getElem_cons a;refine GO 15 ?_;intro _ Y;refine sv Y (av (i:=j) (sz:=14) dd aa (Y.ev rfl) (Y.ev rfl) ab ab rfl) fun _ Y=>?_;refine sv (v:=gV l[j]) Y (ag aa aa (Y.ev rfl) (aZ aO (Z.rd0 hr) a)) fun _ Y=>?_;refine dk Y (wn rfl) (cQ r (Y.ev rfl) (Y.evs rfl) rfl) rfl rfl Z (m _ Z.below j a) fun _ _ Y Z=>ah (aj ?_);refine ak (Y.ev rfl) (fun h=>?_) (fun h=>?_)
  ·
   refine GO 12 ?_;intro _ Y;refine aI Y rfl rfl ?_;exact⟨by rw[n.2,t,Fa,if_pos h],Z.below⟩
  ·
   refine GO 8 ?_;intro _ Y;exact⟨j+1,by omega,⟨a,by rw[n.2,t,Fa,if_neg (by rw[h];decide)]⟩,Y.re bN,Z⟩
 ·
  have q:l.length≤j:=by have:=of_decide_eq_false g;omega
  refine GO 11 ?_;intro _ Y;refine aI Y rfl rfl ?_;exact⟨by rw[n.2,List.drop_of_length_le q];rfl,Z.below⟩
theorem rp (p:Rcd→Bool) (l:List Rcd) (A:Option Addr) (c:Nat) (f:FuncId) (a:List Value) (w:World) (hr:Rd w w.heap.size A (l.flatMap cm)) (b:l.length≤1000) (g:∀(vs:Array Value) (W:World),(callFunc f vs).run Tryz.prog W=.ok (.enter f vs) W)
 (d:∀X,Below w.heap.size w X→∀(k:Nat) (h:k<l.length),Calls Tryz.prog f ([gV l[k]] ++ a).toArray X fun e X'=>e=.returned (.bool (p l[k]))∧Below X.heap.size X X') :
 bz 93 #[.slice A l.length c,.func (.func f) #[] a.toArray] w (.bool (l.any p)):=by
 refine aq (N:=9) Tryz.func93 rfl rfl rfl (fun _ Y=>?_);have Z:=St.init w;refine GO 9 ?_;intro _ Y;refine cN Y rfl Z (wS p l A c f a _ (Z.rd0 hr) b g (fun X i k h=>d X (eU Z.below i) k h)) fun _ _ Y Z=>?_;refine GO 5 ?_;intro _ Y;refine aI Y rfl rfl ?_;exact⟨by rw[←yo p l 0],Z.below⟩
theorem zM (x y:Rcd) (b:Nat) (T:TypeId) (w:World) (j:Box w b (gV x).cells T) :
 bz 94 #[gV y,.pointer (some ⟨b,0,none⟩)] w (.bool (Gy y.e x.e.t)):=by
 refine aq (N:=23) Tryz.func94 rfl rfl rfl (fun _ Y=>?_);have Z:=St.init w;refine ai (an ?_);refine nb Y rfl rfl Z fun p _ _ o Y Z=>GO 6 ?_;intro _ Y;refine vf Y 1 2 fun _ Y=>?_;refine GO 1 ?_;intro _ Y;refine sv Y (fy 1 (Y.ev rfl)) fun _ Y=>?_;refine sv Y (fy 1 (Y.ev rfl)) fun _ Y=>?_;refine sv Y (lx (Y.ev rfl) (Box.cells (j.below Z.below) 2)) fun _ Y=>?_;refine GO 2 ?_;intro _ Y;apply bo (x:=(y.e.k==2||y.e.k==4)) Y Z 11 rfl 11 22
 case ht=>
  intro g;refine GO 1 ?_;intro _ Y;refine sy Y (fx 0 1 (Y.ev rfl)) fun _ Y=>?_;refine GO 3 ?_;intro _ Y;apply bI (x:=y.e.k==4) Y Z 16 rfl 5 21
  case hf=>
   intro c;refine GO 1 ?_;intro _ Y;refine sy Y (fx 0 1 (Y.ev rfl)) fun _ Y=>?_;refine GO 3 ?_;intro _ Y;exact ah ⟨Y.midE 4,Z⟩
  case ht=>
   intro c;refine GO 5 ?_;intro _ Y;exact ah ⟨Y.midE 4,Z⟩
  case h=>
   rintro d q ⟨m,i⟩
   refine GO 1 ?_;intro _ Y;exact ah ⟨Y.midE 6,i⟩
 case hf=>
  intro g;refine GO 5 ?_;intro _ Y;refine cg Y (aC Y _ rfl rfl rfl) rfl rfl fun _ Y=>cg Y (aC Y _ rfl rfl rfl) rfl rfl fun _ Y=>cg Y (aC Y _ rfl rfl rfl) rfl rfl fun _ Y=>cg Y (aC Y _ rfl rfl rfl) rfl rfl fun _ Y=>GO 2 ?_;intro _ Y;exact ah ⟨Y.midE 10,Z⟩
 case h=>
  rintro a l ⟨n,f⟩
  refine GO 4 ?_;intro _ Y;refine aI Y rfl rfl ?_;exact⟨rfl,f.below⟩
theorem pR {p:ByteArray} {x:Op} (c:p.size=512) (h:(cj p x).2=0):(cj p x).1.size=512:=by
 unfold cj at h ⊢
 split at h
 · rename_i a;exact absurd h a
 · rename_i a
   rw[if_neg a]
   split at h
   · rename_i b;rw[if_pos b];exact iE c ((gZ x).1 (ar a))
   · cases h
def vN (l:List Rcd) (p:List Pgp):Int:=aw [(eA l).2,oh l p]
def nc (l:List Rcd) (p:List Pgp):List Pgp × Int × Int:=if vN l p≠0 then ([],0,vN l p) else vc p 0 l
theorem qV (l:List Rcd) (B:Option Addr) (d:Nat) (p:List Pgp) (A:Option Addr) (c:Nat) (w:World)
 (hr:Rd w w.heap.size A (p.flatMap cS)) (hq:Rd w w.heap.size B (l.flatMap cm)) (hl:l.length≤1000) (hc:l.length≤d) (Vd:p.length≤1000) (hF:FolT w) (hx:∀x∈l,FewE x.e∧I6 x.e.g) :
 Calls Tryz.prog 38 #[.slice B l.length d,.slice A p.length c] w fun e w'=>∃i:Option Addr × Nat,e=.returned (.tuple #[.slice i.1 (nc l p).1.length i.2,ae (nc l p).2.1,ae (nc l p).2.2]) ∧
  St [] w w' [.row (.slice i.1 (nc l p).1.length i.2) (nc l p).1.length 111 3 ((nc l p).1.flatMap cS)]:=by
 refine aq (N:=93) Tryz.func38 rfl rfl rfl (fun _ Y=>?_);have Z:=St.init w;refine GO 11 ?_;intro _ Y;refine cN Y rfl Z (fb l B d _ (Z.rd0 hq) hl hc (hF.below Z.below) (fun x hm=>(hx x hm).1)) fun _ _ Y Z=>?_;refine GO 2 ?_;intro _ Y;refine cN Y rfl Z (j2 p l A c B d _ (Z.rd0 hr) (Z.rd0 hq) hl (fun x hm=>(hx x hm).2)) fun _ _ Y Z=>?_;refine bV Y (wn rfl) (f:=fun b=>.slice (some ⟨b,0,none⟩) 2 2) (bb cT aa aa (Y.evs2 rfl) rfl rfl rfl au au) rfl rfl Z fun Vk _ _ Zo Y s=>cU Y rfl (dq (s.at_ (i:=0) rfl)) fun _ Y=>?_;refine GO 9 ?_;intro _ Y;refine ak (Y.ev rfl) (fun Ze=>?_) (fun Ze=>?_)
 ·
  have Vi:vN l p≠0:=by unfold vN;simpa using Ze
  have H:nc l p=([],0,vN l p):=by unfold nc;rw[if_pos Vi]
  refine GO 10 ?_;intro _ Y;refine lE Y rfl rfl rfl rfl ?_;refine⟨(none,0),by rw[H];rfl,?_⟩;rw[H];exact(s.sub (List.nil_sublist _)).nilRow 111 3
 ·
  have hz:vN l p=0:=by unfold vN;simpa using Ze
  have H:nc l p=vc p 0 l:=by unfold nc;rw[if_neg (fun h=>h hz)]
  have D:=hz;unfold vN at D;rw[aS] at D;obtain⟨g1,g2⟩:=C9 (D (oh l p) bm);have Jx:=(kF (D (eA l).2 bm)).2;refine GO 5 ?_;intro _ Y;refine oU Y (wn rfl) (az bc (Y.evs rfl) rfl) rfl rfl s (py p A c _ (s.rd0 hr) Vd) (Nat.le_refl _) fun E C _ _ Y Z=>GO 17 ?_;intro _ Y;refine aY Y Z [29,28,8,0] (fun (q:RdoS)=>[(30,ae q.j),(9,ae q.n)]) (fun (q:RdoS)=>q.j≤l.length∧vc p 0 l=vc q.p q.n (l.drop q.j)∧PgsOk q.p∧q.p.length=p.length∧0≤q.n∧q.n≤q.j∧(∀x∈l,kI q.p x=0)) (fun q L=>L.set 0 (.row (.slice E p.length C) p.length 111 3 (q.p.flatMap cS))) (fun (q:RdoS)=>l.length-q.j) (⟨0,p,0⟩) (⟨Nat.zero_le _,rfl,g1,rfl,Int.le_refl 0,Int.le_refl 0,g2⟩) bN (Z) ?_;intro q _ _ Zn Y Z;refine GO 6 ?_;intro _ Y;refine ak (Y.ev rfl) (fun Zf=>?_) (fun Zf=>?_)
  ·
   have u:q.j<l.length:=by have:=of_decide_eq_true Zf;omega
   obtain⟨b5,o5,rfl,Vo,_⟩:=hq.opened (aQ aO au ab);have Vh:l.drop q.j=l[q.j]::l.drop (q.j+1):=List.drop_eq_getElem_cons u;obtain⟨Jv,Jy⟩:=hx _ (List.getElem_mem u);obtain⟨-,a,m,r,Vg,Vp,I⟩:=Zn;rw[Vh,vc] at a
   have Va:∀x∈q.p,0≤x.g∧x.g≤600:=fun x hx=>by
    obtain⟨k,hk,rfl⟩:=List.getElem_of_mem hx;exact(m.all k hk).g
   have Vq:=Jx.e0 u;have Vj:(l.drop (q.j+1)).length=l.length-(q.j+1):=List.length_drop ..
   have W:Rd w w.heap.size (some ⟨b5,gX o5 d (q.j+1) 14,none⟩) ((l.drop (q.j+1)).flatMap cm):=by
    rcases Nat.lt_or_ge (q.j+1) l.length with h | h
    · rw[DK ab];exact hq.dropF aO (q.j+1)
    · rw[List.drop_of_length_le h];exact Rd.nil _ _ _
   refine GO 7 ?_;intro _ Y;refine sv Y (av (i:=q.j) (sz:=14) dd aa (Y.ev rfl) (Y.ev rfl) ab ab rfl) fun _ Y=>?_;refine sv (v:=gV l[q.j]) Y (ag aa aa (Y.ev rfl) (aZ aO (Z.rd0 hq) u)) fun _ Y=>?_;refine na (.agg qU) Y rfl Z fun T _ _ Zp Y Z=>GO 1 ?_;intro _ Y;refine sw Y Z 0 fun _ Z=>?_;refine GO 7 ?_;intro _ Y;refine sv Y (ny (l:=q.j+1) (h:=l.length) (sz:=14) dd aa (Y.ev rfl) (Y.ev rfl) rfl ab ab) fun _ Y=>?_;refine sv Y (fo (Y.evs rfl) (Y.evs rfl)) fun _ Y=>?_;refine cN Y rfl Z (Vj▸rp (fun y=>Gy y.e l[q.j].e.t) (l.drop (q.j+1)) _ (d-(q.j+1)) 94 [.pointer (some ⟨T,0,none⟩)] _ (Z.rd0 W) ab bc (fun X G k hk=>zM l[q.j] _ T _ X (Box.below (Z.at_ (i:=0) rfl) G))) fun _ _ Y Z=>?_;refine GO 7 ?_;intro _ Y;refine sv (v:=cZ l[q.j].e) Y (ag aa aa (Y.ev rfl) (Z.cellsOf (i:=0) rfl 1 13)) fun _ Y=>?_;refine cN Y rfl Z (ki _ _) fun _ _ Y Z=>?_;refine GO 2 ?_;intro _ Y;apply bI (x:=!(Eo (l.drop (q.j+1)) l[q.j].e.t)) Y Z 45 rfl 3 48
   case hf=>
    intro Zg;refine GO 3 ?_;intro _ Y;exact ah ⟨Y.midE 2,Z⟩
   case ht=>
    intro Zg;refine GO 3 ?_;intro _ Y;exact ah ⟨Y.midE 2,Z⟩
   case h=>
    rintro Vl Zs ⟨Zq,Zh⟩
    refine ah (aj ?_);refine ak (Zq.ev rfl) (fun Zc=>?_) (fun Zc=>?_)
    ·
     have Jz:¬(eh l[q.j].e&&Eo (l.drop (q.j+1)) l[q.j].e.t)=true:=fun h=>by
      obtain⟨u1,u2⟩:=Bool.and_eq_true_iff.1 h;rw[u1,u2] at Zc;cases Zc
     rw[if_neg Jz] at a;refine GO 9 ?_;intro _ Y;exact⟨⟨q.j+1,q.p,q.n⟩,(by show l.length-(q.j+1)<l.length-q.j;omega),⟨u,a,m,r,Vg,by show q.n≤((q.j+1:Nat):Int);omega,I⟩,Y.re bN,Zh.sub (aL 6)⟩
    ·
     obtain⟨u1,u2⟩:=Bool.or_eq_false_iff.1 Zc
     have P:(eh l[q.j].e&&Eo (l.drop (q.j+1)) l[q.j].e.t)=true:=by rw[Bool.and_eq_true];exact⟨ar u1,ar u2⟩
     rw[if_pos P] at a;obtain⟨qq,J,Vn⟩:=yB (I _ (List.getElem_mem u)) (ar u1);refine GO 6 ?_;intro _ Y;refine vf Y 4 5 fun _ Y=>?_;refine GO 1 ?_;intro _ Y;refine cN Y rfl Zh (r▸xt q.p m.srt Va E C l[q.j].e.g Jy _ (Zh.rdOf (i:=1) rfl) (by have:=m.n;omega)) fun _ _ Y Z=>?_;refine GO 1 ?_;intro _ Zi;obtain⟨b',o',rfl,R,q1,q2,K⟩:=pO m.srt (Z.rdOf (i:=1) rfl) (sq m.srt (Z.rdOf (i:=1) rfl) J);obtain rfl:o'=0:=ym (Z.at_ (i:=1) rfl);rw[Nat.zero_add] at K;generalize jN Pgp.g q.p l[q.j].e.g=k at R q1 q2 K
     have Vf:qq=q.p[k]:=by rw[q2] at J;injection J with e;exact e.symm
     subst Vf;rw[q2] at a;simp only[] at a;have Za:=(m.all k R).b
     have Q:jX q.p[k].b l[q.j].e.o=(cj q.p[k].b l[q.j].e.o):=by unfold jX;rw[if_neg (fun h=>h (by unfold cM;rw[Za];rfl))]
     refine ah (aj (ai ?_));apply aK Zi (fA 12) _ aa
     case h=>
      refine qv Zi (fun X G=>aA (v':=.pointer (some ⟨b',k*3,none⟩)) (congrArg Value.pointer K) (bQ (Zi.ev rfl))) fun _ Y=>?_;refine GO 1 ?_;intro _ Y;refine qv Y (fun X G=>fy 2 (Y.ev rfl)) fun _ Y=>?_;refine qv Y (fun X G=>lx (Y.ev rfl) (by have:=(aZ bZ ((Z.grow G).rdOf (i:=1) rfl) R) 2 _ rfl;rw[Nat.zero_add] at this;exact this)) fun _ Y=>?_;refine GO 1 ?_;intro _ Y;refine qv Y (fun X G=>fx 6 7 (Y.ev rfl)) fun _ Y=>?_;refine qv (v:=gm l[q.j].e.o) Y (fun X G=>ag aa aa (Y.ev rfl) ((Z.grow G).cellsOf (i:=0) rfl 7 6)) fun _ Y=>?_;refine jM Y rfl (fun X G=>uV q.p[k].b l[q.j].e.o _ (by rw[Za];decide) Jv.o Jv.n) fun _ Y=>?_;refine GO 5 ?_;intro _ Y;refine aV fun _ Zj Zr=>?_;have Z:=Z.grow Zj;refine GO 1 ?_;intro _ Y;rw[Q] at Y;obtain⟨s,F⟩:∃s,s=if ((cj q.p[k].b l[q.j].e.o).2==0&&!q.p[k].f)=true then xr (cj q.p[k].b l[q.j].e.o).1 l[q.j].l else (cj q.p[k].b l[q.j].e.o).1:=⟨_,rfl⟩;refine GO 8 ?_;intro _ Y;apply bo (x:=!q.p[k].f) Y Z 67 rfl 6 73
      case ht=>
       intro Zk;refine sy Y (aA (v':=.pointer (some ⟨b',k*3,none⟩)) (congrArg Value.pointer K) (bQ (Y.ev rfl))) fun _ Y=>?_;refine GO 1 ?_;intro _ Y;refine sy Y (fy 1 (Y.ev rfl)) fun _ Y=>?_;refine sy Y (lx (Y.ev rfl) (by have:=(aZ bZ (Z.rdOf (i:=1) rfl) R) 1 _ rfl;rw[Nat.zero_add] at this;exact this)) fun _ Y=>?_;refine GO 2 ?_;intro _ Y;exact ah ⟨Y.midE 5,Z⟩
      case hf=>
       intro Zk;refine GO 6 ?_;intro _ Y;exact ah ⟨Y.midE 5,Z⟩
      case h=>
       rintro Vm Zt ⟨M,Zl⟩
       refine ah (aj ?_);refine eb M Zl [(14,.string s),(15,ae (cj q.p[k].b l[q.j].e.o).2)] [73,67,66,65,64,63,54,62,61,60,59,58,57,56,55,13,53,52,51,50,49,48,45,44,43,42,41,12,40,39,38,37,36,35,10,11,34,33,32,31,30,9,29,28,8,0] ?_ (fun _ _ Y Z=>?_)
       ·
        refine ak (M.ev rfl) (fun Zd=>?_) (fun Zd=>?_)
        ·
         have U:(cj q.p[k].b l[q.j].e.o).2=0:=by simpa using (Bool.and_eq_true_iff.1 Zd).1
         have z:=pR Za U
         have V:F4 (cj q.p[k].b l[q.j].e.o).1 l[q.j].l=0:=by
          unfold F4;rw[aS];simp only[List.mem_cons,List.not_mem_nil,or_false,forall_eq_or_imp,forall_eq];exact⟨by unfold cM;rw[z];rfl,(aD au).2 (inB_true.2 ⟨by omega,by omega⟩)⟩
         refine GO 4 ?_;intro _ Y;refine cN Y rfl Zl (ud (cj q.p[k].b l[q.j].e.o).1 l[q.j].l _ (by rw[z];decide)) fun _ _ Y Z=>?_;refine GO 7 ?_;intro _ Y;rw[show(if F4 (cj q.p[k].b l[q.j].e.o).1 l[q.j].l=0 then EP (cj q.p[k].b l[q.j].e.o).1 l[q.j].l else ⟨#[]⟩)=s by rw[F,if_pos V,if_pos Zd];rfl,show F4 (cj q.p[k].b l[q.j].e.o).1 l[q.j].l=(cj q.p[k].b l[q.j].e.o).2 by rw[V,U]] at Y;exact⟨Y.re bN,Z⟩
        ·
         refine wp_skip (aj ?_);replace M:=Has.also M (t:=14) (v:=.string s) ((show look _ 14=some (.string (cj q.p[k].b l[q.j].e.o).1) from rfl).trans (by rw[F,if_neg (by rw[Zd];decide)]));exact⟨M.re bN,Zl⟩
       ·
        refine GO 8 ?_;intro _ Y;refine ak (Y.ev rfl) (fun Zm=>?_) (fun Zm=>?_)
        ·
         have S:(cj q.p[k].b l[q.j].e.o).2≠0:=ar Zm;rw[if_pos S] at a;refine GO 15 ?_;intro _ Y;refine lE Y rfl rfl rfl rfl ?_;refine⟨(none,0),by rw[H,a];(try rfl),?_⟩;rw[H,a];exact(Z.sub (List.nil_sublist _)).nilRow 111 3
        ·
         have S:(cj q.p[k].b l[q.j].e.o).2=0:=ar Zm;rw[if_neg (fun h=>h S)] at a
         have Ve:Hi q.p[k] (cj q.p[k].b l[q.j].e.o).1 l[q.j].l=s:=by
          rw[F,S];unfold Hi
          cases q.p[k].f<;>rfl
         have z:=pR Za S
         have Vc:s.size=512:=by
          rw[F]
          split
          · exact rX z
          · exact z
         rw[Ve] at a;have Jw:=yP m l[q.j].e.g s Vc;have O:=sE m.srt R s;rw[q1] at O;refine wp_skip (aj (ai (an ?_)));refine sv Y (aA (v':=.pointer (some ⟨b',k*3,none⟩)) (congrArg Value.pointer K) (bQ (Y.ev rfl))) fun _ Y=>?_;refine GO 2 ?_;intro _ Y;refine sv Y (fy 2 (Y.ev rfl)) fun _ Y=>?_;refine mY Y (wn rfl) ⟨rfl,rfl⟩ (Y.ev rfl) (Y.ev rfl) rfl aa Z (i:=1) rfl rfl (by show k*3+2+1≤p.length*3;omega) fun _ Z=>GO 14 ?_;intro _ Y;exact⟨⟨q.j+1,gW q.p l[q.j].e.g s,q.n+1⟩,(by show l.length-(q.j+1)<l.length-q.j;omega),⟨u,a,Jw,by rw[gb];exact r,by show 0≤q.n+1;omega,by show q.n+1≤((q.j+1:Nat):Int);omega,fun x hx=>by rw[mX];exact I x hx⟩,Y.re bN,(by show St _ w _ [.row _ _ _ _ ((gW q.p l[q.j].e.g s).flatMap cS),_];rw[O];exact(Z.sub (aL 6)))⟩
     case hB=>kernel_rfl
     case hst=>rfl
  ·
   have Vb:l.length≤q.j:=by have:=of_decide_eq_false Zf;omega
   obtain⟨-,a,m,r,-,-,-⟩:=Zn;rw[List.drop_of_length_le Vb,vc] at a;refine GO 15 ?_;intro _ Y;refine lE Y rfl rfl rfl rfl ?_;refine⟨(E,C),by rw[H,a,←r];(try rfl),?_⟩;rw[H,a];show St [] w _ [.row (.slice E q.p.length C) q.p.length _ _ _];rw[r];exact(Z.sub (aL 1))
open Go.RowKit Go.Sort Go.Shelf
structure Lsr where
 i:Int
 l:Int
 u:Int
def gu (x:Lsr):Array Value:=#[ae x.i,ae x.l,ae x.u]
def fO (x:Nat × Lsr):Value:=.pointer (some ⟨x.1,0,none⟩)
def fQ (xs:List (Nat × Lsr)):Ent:=
 .inv (fun b=>∃x∈xs,x.1=b) (fun X=>(∀x∈xs,Box X x.1 (gu x.2) 273)∧(xs.map Prod.fst).Nodup)
  (fun X X' h a=>⟨fun x hx=>(a x.1 ⟨x,hx,rfl⟩).trans (h.1 x hx),h.2⟩)
theorem St.perm {M:List Nat} {w X:World} {L g:List Ent} (h:St M w X L) (f:g.Perm L):St M w X g:=
 ⟨h.os,h.tape,h.output,h.size,h.block,fun e a=>h.ok e (f.mem_iff.1 a),fun e a=>h.new e (f.mem_iff.1 a),(f.pairwise_iff (fun {x y} c b i d=>c b d i)).2 h.sep⟩
def iW (l:List Trn):List Lsr:=(l.filter fun x=>!x.c).map fun x=>⟨x.i,x.l,x.u⟩
theorem yZ (l:List Trn) {j:Nat} (a:j<l.length):iW (l.take (j+1))=if l[j].c=true then iW (l.take j) else iW (l.take j) ++ [⟨l[j].i,l[j].l,l[j].u⟩]:=by
 unfold iW;rw[List.take_succ_eq_append_getElem a,List.filter_append,List.filter_cons]
 cases h:l[j].c with
 | true=>simp
 | false=>simp
theorem St.swap2 {M:List Nat} {w X:World} {a b c:Ent} {L:List Ent} (h:St M w X (a::b::c::L)):St M w X (a::c::b::L):=h.perm (List.Perm.cons _ (List.Perm.swap _ _ _))
structure LosS where
 j:Nat
 n:Nat
 xs:List (Nat × Lsr)
 A:Option Addr
 c:Nat
theorem Ev {M:List Nat} {w X:World} {b:Nat} {x:Lsr} {xs:List (Nat × Lsr)} {L:List Ent} (h:St M w X (.box b (gu x) 273::fQ xs::L)):St M w X (fQ (xs ++ [(b,x)])::L):=by
 have l:=h.at_ (i:=0) rfl;have k:=h.at_ (i:=1) rfl;refine h.fuse2 (fun j d=>?_) ⟨fun y c=>?_,?_⟩
 · obtain⟨y,c,rfl⟩:=d
   rcases List.mem_append.1 c with c | c
   · exact .inr ⟨y,c,rfl⟩
   · rw[List.mem_singleton.1 c];exact .inl rfl
 · rcases List.mem_append.1 c with c | c
   · exact k.1 y c
   · rw[List.mem_singleton.1 c];exact l
 · rw[List.map_append,List.nodup_append]
   refine⟨k.2,by simp,fun a m j d e=>?_⟩;have g:j=b:=ar d;obtain⟨y,c,f⟩:=List.mem_map.1 m;exact(List.pairwise_cons.1 h.sep).1 (fQ xs) (List.mem_cons_self) b rfl ⟨y,c,by rw[f,e,g]⟩
theorem xJ (t:Tbl) (A:Option Addr) (c:Nat) (B:Option Addr) (d:Nat) (w:World) (hr:Rd w w.heap.size A (t.ts.flatMap cc)) (T:t.ts.length≤1000) :
 Calls Tryz.prog 123 #[bW t A c B d] w fun e I=>∃i:List (Nat × Lsr) × Option Addr × Nat,e=.returned (.slice i.2.1 i.1.length i.2.2)∧i.1.map Prod.snd=iW t.ts∧St [] w I [.row (.slice i.2.1 i.1.length i.2.2) i.1.length 233 1 (i.1.map fO),fQ i.1]:=by
 refine aq (N:=29) Tryz.func123 rfl rfl rfl (fun _ Y=>?_);have Z:=St.init w;refine ai (an ?_);refine nb Y rfl rfl Z fun b1 _ M P Y Z=>GO 6 ?_;intro _ Y;have Z:=Z.nilRow 233 1;have Z:St [] w M [.row (.slice none 0 0) 0 233 1 [],fQ [],.box b1 (bW t A c B d).cells 25]:=St.perm (L:=[fQ [],.row (.slice none 0 0) 0 233 1 [],.box b1 (bW t A c B d).cells 25]) (Z.add (Below.refl _ _) (e:=fQ []) ⟨fun x hx=>(by cases hx),List.nodup_nil⟩ (fun b G=>by obtain⟨x,hx,_⟩:=G;cases hx)) (List.Perm.swap _ _ _);replace Z:=Z;refine GO 12 ?_;intro _ Y;refine aY Y Z [8,7,2] (fun (q:LosS)=>[(9,ae (q.j:Nat)),(3,.slice q.A q.n q.c)]) (fun (q:LosS)=>q.j≤t.ts.length∧q.xs.map Prod.snd=iW (t.ts.take q.j)∧q.xs.length=q.n∧q.n≤q.j) (fun q _=>[.row (.slice q.A q.n q.c) q.n 233 1 (q.xs.map fO),fQ q.xs,.box b1 (bW t A c B d).cells 25]) (fun (q:LosS)=>t.ts.length-q.j) (⟨0,0,[],none,0⟩) (⟨Nat.zero_le _,rfl,rfl,Nat.le_refl _⟩) bN (Z) ?_;intro q _ _ E Y Z;refine GO 6 ?_;intro _ Y;refine ak (Y.ev rfl) (fun r=>?_) (fun r=>?_)
 ·
  have a:q.j<t.ts.length:=by have:=of_decide_eq_true r;omega
  obtain⟨b,o,rfl,hB,_⟩:=hr.opened (aQ bG au ab);have g:=yZ t.ts a;obtain⟨J,p,m,K⟩:=E;refine wp_skip (aj (ai (wp_block (ai (an ?_)))));refine sv Y (av (i:=q.j) (sz:=4) ed aa (Y.ev rfl) (Y.ev rfl) ab ab rfl) fun _ Y=>?_;refine sv (v:=e9 t.ts[q.j]) Y (ag aa aa (Y.ev rfl) (aZ bG (Z.rd0 hr) a)) fun _ Y=>?_;refine na (.agg lG) Y rfl Z fun O _ _ R Y Z=>sw Y Z 0 fun _ Z=>?_;refine GO 9 ?_;intro _ Y;refine ak (Y.ev rfl) (fun y=>?_) (fun y=>?_)
  ·
   have k:t.ts[q.j].c=false:=ar y;rw[if_neg (by rw[k];decide)] at g;refine GO 8 ?_;intro _ Y;refine sv Y (ay (zs:=jV) (pl:=fE) aa aa (Y.evs2 rfl) rfl rfl) fun _ Y=>?_;refine nb Y rfl rfl Z fun h _ _ S Y Z=>?_;refine bV Y (wn rfl) (f:=fun b=>.slice (some ⟨b,0,none⟩) 1 1) (bb lh aa aa (Y.evs2 rfl) rfl rfl rfl au au) rfl rfl Z fun H _ _ Q Y Z=>?_;refine bP (z:=.pointer none) (sz:=1) (bytes:=8) Y (wn rfl) ⟨rfl,rfl⟩ rfl lh aa rfl rfl (Y.ev rfl) (Y.ev rfl) Z (i:=3) rfl (Z.boxRd (i:=0) rfl) rfl (List.all_eq_true.1 rfl) ⟨ab,by decide⟩ fun D C _ _ Y Z=>?_;refine GO 9 ?_;intro _ Y;exact⟨⟨q.j+1,q.n+1,q.xs ++ [(h,⟨t.ts[q.j].i,t.ts[q.j].l,t.ts[q.j].u⟩)],D,C⟩,(by show t.ts.length-(q.j+1)<t.ts.length-q.j;omega),⟨a,by show(q.xs ++ [_]).map Prod.snd=iW (t.ts.take (q.j+1));rw[g,List.map_append,p];rfl,by show(q.xs ++ [_]).length=q.n+1;rw[List.length_append,m];rfl,by show q.n+1≤q.j+1;omega⟩,Y.re bN,(by have F:=Ev (b:=h) (x:=⟨t.ts[q.j].i,t.ts[q.j].l,t.ts[q.j].u⟩) (St.swap2 (Z.sub (aL 58)));show St [] w _ [.row _ _ _ _ ((q.xs ++ [(h,(⟨t.ts[q.j].i,t.ts[q.j].l,t.ts[q.j].u⟩:Lsr))]).map fO),_,_];rw[List.map_append];exact St.swap F)⟩
  ·
   have k:t.ts[q.j].c=true:=ar y;rw[if_pos k] at g;refine GO 8 ?_;intro _ Y;exact⟨⟨q.j+1,q.n,q.xs,q.A,q.c⟩,(by show t.ts.length-(q.j+1)<t.ts.length-q.j;omega),⟨a,by show q.xs.map Prod.snd=iW (t.ts.take (q.j+1));rw[g,p],m,by show q.n≤q.j+1;omega⟩,Y.re bN,Z.sub (aL 14)⟩
 ·
  have s:t.ts.length≤q.j:=by have:=of_decide_eq_false r;omega
  obtain⟨J,p,m,K⟩:=E;rw[List.take_of_length_le s] at p;refine GO 12 ?_;intro _ Y;refine aI Y rfl rfl ?_;exact⟨(q.xs,q.A,q.c),by rw[m],p,by rw[m];exact(Z.sub (aL 3))⟩
open Go.RowKit Go.Sort Go.Shelf
def wu (x:Lsr):Nat→Int→Lsr
 | 0,v=>⟨v,x.l,x.u⟩
 | 1,v=>⟨x.i,v,x.u⟩
 | _,v=>⟨x.i,x.l,v⟩
def pA (xs:List (Nat × Lsr)) (b j:Nat) (v:Int):List (Nat × Lsr):=xs.map fun x=>if x.1=b then (x.1,wu x.2 j v) else x
theorem vd (xs:List (Nat × Lsr)) (b j:Nat) (v:Int):(pA xs b j v).map Prod.fst=xs.map Prod.fst:=by
 unfold pA;rw[List.map_map];apply List.map_congr_left;intro x _;show(if x.1=b then (x.1,wu x.2 j v) else x).1=x.1
 split<;>rfl
theorem Cd (x:Lsr) (v:Int) {j:Nat} (a:j<3):((gu x).toList.take j ++ [Value.int .i64 v] ++ (gu x).toList.drop (j+1)).toArray=gu (wu x j v):=by
 match j,a with
 | 0,_=>rfl
 | 1,_=>rfl
 | 2,_=>rfl
theorem Dw {x y:Lsr} (h:(gu x).toList=(gu y).toList):x=y:=by
 obtain⟨g,e,f⟩:=x;obtain⟨j,i,d⟩:=y;simp[gu] at h;obtain⟨a,b,c⟩:=h;subst a b c;rfl
theorem sr {P:Program} {ops:Array Oper} {Q:Exit→Act→World→Prop} {rest:List Oper} {o:Oper} {a:Act} {X w:World} {M:List Nat} {E:List Ent} {ty:TypeId} {G y:Operand} {b j i:Nat} {v:Int} {x:Lsr} {xs:List (Nat × Lsr)}
 (J:Region.wanted o (yielded ops a.tmps)=true) (H:o.op=.store ty G y∧o.dst=none) (hx:a.eval G=.pointer (some ⟨b,j,none⟩)) (I:a.eval y=ae v) (m:(P.info? ty).map (·.size)=some 1) (p:St M w X E) (t:E[i]? = some (fQ xs)) (hm:(b,x)∈xs) (K:j<3)
 (k:∀X',St M w X' (E.set i (fQ (pA xs b j v)))→wpList P ops Q rest a X'):wpList P ops Q (o::rest) a X:=by
 have d:=p.at_ t;have r:Box X b (gu x) 273:=d.1 _ hm;have hst:=dC (P:=P) b 273 [Value.int .i64 v] j 0 (gu x) X r (by show j+0+1≤3;omega) (fun u N=>by rw[List.mem_singleton.1 N];rfl);simp only[Nat.add_zero] at hst;have h:=Cd x v K;have B:=setRow_heap X b (gu x) (gu (wu x j v)) 273 (0,0) r;refine lP (X':=X.setRow b (gu (wu x j v))) J ?_ H.2 (k _ ?_)
 · cases hq:P.info? ty with
   | none=>rw[hq] at m;cases m
   | some q=>
    rw[hq] at m;have s:q.size=1:=ar m;unfold execOp;simp only[H.1,hx,I,Instr.storeAt,Instr.sureAddr,Sem.run_bind,Sem.run_pure,Result.andThen_ok];have O:(Value.int .i64 v).cells.toList=[Value.int .i64 v]:=rfl;simp only[List.length_singleton] at hst;rw[h] at hst;simp[storeVar,sizeOf,typeInfo,hq,s,Value.cells,hst]
 · refine p.turn t rfl rfl rfl (by simp[World.setRow]) (fun D F C=>setRow_other X b D _ (fun e=>C ⟨(b,x),hm,e.symm⟩)) ⟨fun z n=>?_,by rw[vd];exact d.2⟩ (fun D F=>?_)
   · unfold pA at n
     obtain⟨c,f,rfl⟩:=List.mem_map.1 n;have g:=d.1 c f;by_cases e:c.1=b
     · rw[if_pos e]
       have A:c.2=x:=by
        have Y:Box X b (gu c.2) 273:=e▸g;have L:X.heap[b]? = some (Obj.cells (gu c.2) 273 (0,0)):=Y;have Y:X.heap[b]? = some (Obj.cells (gu x) 273 (0,0)):=r;rw[L] at Y;injection Y with Y;injection Y with Y
        have e0:(gu c.2).toList=(gu x).toList:=by rw[Y]
        exact Dw e0
       show Box _ c.1 (gu (wu c.2 j v)) _;rw[e,A];exact B
     · rw[if_neg e]
       exact(setRow_other X b c.1 _ e).trans g
   · obtain⟨z,n,rfl⟩:=F
     have l:z.1∈(pA xs b j v).map Prod.fst:=List.mem_map.2 ⟨z,n,rfl⟩;rw[vd] at l;obtain⟨c,f,e0⟩:=List.mem_map.1 l;refine⟨.inl ⟨c,f,e0⟩,?_⟩;have:=(p.new _ (List.mem_of_getElem? t) z.1 ⟨c,f,e0⟩).2
     simpa [World.setRow] using this
theorem xo {P:Program} {ops:Array Oper} {Q:Exit→Act→World→Prop} {rest:List Oper} {o:Oper} {a:Act} {X w:World} {N d:Nat} {l:List (Nat × Value)} {M:List Nat} {E:List Ent} {ds:List Deferred} {s x:Operand} {t e:TypeId} {z v:Value} {n m c i sz bytes:Nat} {A:Option Addr} {xs news:List Value} (ha:Has ds a N l) (hw:Region.wanted o (yielded ops a.tmps)=true) (V:o.op=.call { callee:=.builtin .append,args:=#[s,x],argTypes:=#[t,t] }∧o.dst=some d) (hN:Nat.blt d N=true)
 (ht:P.underlying t=some (.slice e)) (j:(P.info? e).map (fun i=>(i.zero,i.size,i.bytes))=some (some z,sz,bytes)) (hz:z.cells.size=sz) (K:Nat.blt 0 sz=true) (Y:a.eval s=v) (hx:a.eval x=.slice A m c) (U:St M w X E) (L:E[i]? = some (.row v n e sz xs))
 (hr:Rd X X.heap.size A news) (hl:news.length=m*sz) (Z:∀u∈news,u.oneCell'=true) (p:n+m≤1000000∧bytes≤1000000)
 (k:∀r F D X',Has ds D N ((d,.slice r (n+m) F)::l)→St M w X' E→Rd X' X'.heap.size r (xs ++ news)→wpList P ops Q rest D X'):wpList P ops Q (o::rest) a X:=by
 obtain⟨q,hq,H,J,R⟩:=lO j;have h:X.ownsRow 0 e sz v n xs:=U.at_ L;have T:(n+m)*bytes≤1000000*1000000:=Nat.mul_le_mul p.1 p.2;obtain⟨v',G,C,W,h3,h5⟩:=iA (P:=P) X t o.type e q z sz bytes ht hq H J R hz (Nat.lt_of_lt_of_le (Nat.lt_succ_self 0) (Nat.le_of_ble_eq_true K)) v n xs h A m c news hl hr Z (by unfold maxLen;omega) ab (n*sz) (.inl (Nat.le_refl _));obtain⟨r,F,rfl,_⟩:=ownsRow_form W
 have f:G.ownsRow 0 e sz v n xs:=by
  obtain⟨q1,I⟩:=h;refine⟨q1,?_⟩;rcases I with I | ⟨g,cap,cur,e1,e2,e3,e4,e5,e6,e7⟩
  · exact .inl I
  · obtain⟨B,r1,r2,r3⟩:=h3.2 g cur e (0,0) e3
    refine .inr ⟨g,cap,B,e1,e2,r1,e4,e5,by rw[r2];exact e6,?_⟩;rw[r3];exact e7
 have y:St M w G (E.set i (.row v n e sz xs)):=U.turn L h3.1.os h3.1.tape h3.1.output h3.1.size (fun b p S=>h3.1.block b p S) f (fun b p=>⟨.inl p,(World.ownsRow.lt f b p).2⟩);rw[wb L] at y;refine aT (X':=G) (v:=.slice r (n+m) F) ha hw ?_ V.2 hN (fun D O=>k r F D G O y (Rd.of_own W));unfold execOp;simp only[V.1,resolve,invoke,builtin,Sem.run_bind,Sem.run_pure,Result.andThen_ok,List.map_toArray,List.map_cons,List.map_nil,Y,hx,C]
open Go.RowKit Go.Sort Go.Shelf
theorem Ci (x y:Nat × Lsr) (w:World) (hx:Box w x.1 (gu x.2) 273) (b:Box w y.1 (gu y.2) 273) :
 bz 207 #[fO x,fO y] w (ae (Lib.compareInt x.2.u y.2.u)):=by
 refine aq (N:=14) Tryz.func207 rfl rfl rfl (fun _ Y=>?_);have Z:=St.init w;refine GO 6 ?_;intro _ Y;apply aK Y (fA 8) _ aa
 case h=>
  refine GO 2 ?_;intro _ Y;refine qv Y (fun X a=>fy 2 (Y.ev rfl)) fun _ Y=>?_;refine qv Y (fun X a=>lx (Y.ev rfl) ((hx.below (Z.grow a).below).cells 2)) fun _ Y=>?_;refine GO 2 ?_;intro _ Y;refine qv Y (fun X a=>fy 2 (Y.ev rfl)) fun _ Y=>?_;refine qv Y (fun X a=>lx (Y.ev rfl) ((b.below (Z.grow a).below).cells 2)) fun _ Y=>?_;refine ax ?_;refine aV fun _ c d=>?_;have Z:=Z.grow c;refine cU Y rfl (tV _ _ _) fun _ Y=>?_;refine GO 4 ?_;intro _ Y;refine aI Y rfl rfl ?_;exact⟨rfl,Z.below⟩
 case hB=>kernel_rfl
 case hst=>rfl
def lC (m x:Nat × Lsr):Nat × Lsr:=if m.2.u<x.2.u then x else m
theorem F0 {m x:Nat × Lsr} (h:m.2.u<x.2.u):lC m x=x:=if_pos h
theorem Ca {m x:Nat × Lsr} (h:¬m.2.u<x.2.u):lC m x=m:=if_neg h
theorem wM {X:World} {B b o k:Nat} {l:List (Nat × Lsr)} (hr:Rd X B (some ⟨b,o,none⟩) (l.map fO)) (c:k<l.length):∀(j:Nat) (u:Value),[fO l[k]][j]? = some u→X.cell? ⟨b,o+k*1+j,none⟩=some u
 | 0,u,hu=>by
  obtain⟨d,o',e,_,a⟩:=hr k u (by rw[List.getElem?_map,List.getElem?_eq_getElem c];exact hu);injection e with e;injection e with e1 e2;subst e1 e2;rw[Nat.mul_one,Nat.add_zero];exact a
 | j+1,u,hu=>by simp at hu
theorem cmpI_pos {x y:Int}:Lib.compareInt x y>0↔y<x:=by unfold Lib.compareInt;split<;>(try split)<;>omega
theorem tj:∀(zs:List (Nat × Lsr)) (z:Nat × Lsr),zs.foldl lC z∈z::zs
 | [],z=>List.mem_cons_self
 | x::r,z=>by
  rw[List.foldl_cons];rcases List.mem_cons.1 (tj r (lC z x)) with h | h
  · rw[h]
    unfold lC
    split
    · exact List.mem_cons_of_mem _ (List.mem_cons_self)
    · exact List.mem_cons_self
  · exact List.mem_cons_of_mem _ (List.mem_cons_of_mem _ h)
theorem tU (z:Nat × Lsr) (zs:List (Nat × Lsr)) (A:Option Addr) (c:Nat) (w:World) (hr:Rd w w.heap.size A ((z::zs).map fO)) (n:∀x∈z::zs,Box w x.1 (gu x.2) 273) (r:zs.length≤1000) :
 bz 206 #[.slice A (z::zs).length c,.func (.func 207) #[] #[]] w (fO (zs.foldl lC z)):=by
 obtain⟨b,o,rfl,hB,_⟩:=hr.opened bm;have p:(z::zs).length=zs.length+1:=rfl;refine aq (N:=33) Tryz.func206 rfl rfl rfl (fun _ Y=>?_);have Z:=St.init w;refine GO 13 ?_;intro _ Y;refine jm (Y.ev rfl) ((by simp;omega)) ?_;refine GO 5 ?_;intro _ Y;refine sv Y (av (i:=0) (sz:=1) lh aa (Y.ev rfl) (Y.ev rfl) ab ab rfl) fun _ Y=>?_;refine sv (v:=fO z) Y (lx (Y.ev rfl) ((wM (Z.rd0 hr) (show 0<(z::zs).length by omega)) 0 _ rfl)) fun _ Y=>?_;refine GO 10 ?_;intro _ Y;refine aY Y Z [4,0,1] (fun (j:Nat)=>[(6,ae ((j+1:Nat):Int)),(5,fO ((zs.take j).foldl lC z))]) (fun (j:Nat)=>j≤zs.length) (fun (j:Nat) L=>L) (fun (j:Nat)=>zs.length-j) (0) (Nat.zero_le _) bN (Z) ?_;intro j _ _ q Y Z;refine GO 9 ?_;intro _ Y;refine ak (Y.ev rfl) (fun l=>?_) (fun l=>?_)
 ·
  have a:j<zs.length:=by have:=of_decide_eq_true l;omega
  have hm:=tj (zs.take j) z
  have f:(zs.take j).foldl lC z∈z::zs:=by
   rcases List.mem_cons.1 hm with h | h
   · rw[h];exact List.mem_cons_self
   · exact List.mem_cons_of_mem _ (List.mem_of_mem_take h)
  have g:zs[j]∈z::zs:=List.mem_cons_of_mem _ (List.getElem_mem a)
  have e:(zs.take (j+1)).foldl lC z=lC ((zs.take j).foldl lC z) zs[j]:=by rw[List.take_succ_eq_append_getElem a,List.foldl_append];rfl
  refine GO 9 ?_;intro _ Y;refine sv Y (av (i:=j+1) (sz:=1) lh aa (Y.ev rfl) (Y.ev rfl) ab ab rfl) fun _ Y=>?_;refine sv (v:=fO zs[j]) Y (lx (Y.ev rfl) ((wM (Z.rd0 hr) (show j+1<(z::zs).length by omega)) 0 _ rfl)) fun _ Y=>?_;refine GO 1 ?_;intro _ Y;refine dk Y (wn rfl) (cQ bc (Y.ev rfl) (Y.evs rfl) rfl) rfl rfl Z (Ci zs[j] ((zs.take j).foldl lC z) _ ((n _ g).below Z.below) ((n _ f).below Z.below)) fun _ _ Y Z=>GO 3 ?_;intro _ Y;refine ak (Y.ev rfl) (fun k=>?_) (fun k=>?_)
  ·
   have d:((zs.take j).foldl lC z).2.u<zs[j].2.u:=cmpI_pos.1 (of_decide_eq_true k);refine GO 3 ?_;intro _ Y;refine sv Y (av (i:=j+1) (sz:=1) lh aa (Y.ev rfl) (Y.ev rfl) ab ab rfl) fun _ Y=>?_;refine sv Y (aA (v':=fO ((zs.take (j+1)).foldl lC z)) (by show fO zs[j]=_;rw[e,F0 d]) (lx (Y.ev rfl) ((wM (Z.rd0 hr) (show j+1<(z::zs).length by omega)) 0 _ rfl))) fun _ Y=>?_;refine GO 10 ?_;intro _ Y;exact⟨j+1,ab,a,Y.re bN,Z⟩
  ·
   have d:¬((zs.take j).foldl lC z).2.u<zs[j].2.u:=mt cmpI_pos.2 (of_decide_eq_false k);rw[show(zs.take j).foldl lC z=(zs.take (j+1)).foldl lC z by rw[e,Ca d]] at Y;refine GO 9 ?_;intro _ Y;exact⟨j+1,ab,a,Y.re bN,Z⟩
 ·
  have m:zs.length≤j:=by have:=of_decide_eq_false l;omega
  rw[List.take_of_length_le m] at Y;refine GO 12 ?_;intro _ Y;refine aI Y rfl rfl ?_;exact⟨rfl,Z.below⟩
open Go.RowKit Go.Sort Go.Shelf
theorem St.outer2 {M:List Nat} {w X X':World} {L1 k L2:List Ent} (h:St M w X (L1 ++ L2)) (h':St (gq X L1) X X' k):St M w X' (k ++ L2):=by
 have m:=List.pairwise_append.1 h.sep;have l:∀b,b∈gq X L1→∃e∈L1,e.dom b:=fun b c=>(mem_domsL.1 c).2
 have i:∀f∈L2,∀b,f.dom b→b<X.heap.size∧b∉gq X L1:=fun f hf b c=>⟨(h.new f (List.mem_append.2 (.inr hf)) b c).2,fun hm=>by
  obtain⟨e,a,g⟩:=l b hm
  exact m.2.2 e a f hf b g c⟩
 refine⟨h'.os.trans h.os,h'.tape.trans h.tape,h'.output.trans h.output,Nat.le_trans h.size h'.size,fun b c n=>?_,fun e a=>?_,fun e a b c=>?_,List.pairwise_append.2 ⟨h'.sep,m.2.1,fun e a f hf b c j=>?_⟩⟩
 · refine(h'.block b (Nat.lt_of_lt_of_le c h.size) (fun hm=>?_)).trans (h.block b c n)
   obtain⟨e,a,g⟩:=l b hm;rcases (h.new e (List.mem_append.2 (.inl a)) b g).1 with d | d
   · omega
   · exact n d
 · rcases List.mem_append.1 a with a | a
   · exact h'.ok e a
   · exact Ent.ok_of (h.ok e (List.mem_append.2 (.inr a))) (fun b c=>h'.block b (i e a b c).1 (i e a b c).2)
 · rcases List.mem_append.1 a with a | a
   · refine⟨?_,(h'.new e a b c).2⟩
     rcases (h'.new e a b c).1 with d | d
     · exact .inl (Nat.le_trans h.size d)
     · obtain⟨f,hf,j⟩:=l b d
       exact(h.new f (List.mem_append.2 (.inl hf)) b j).1
   · exact⟨(h.new e (List.mem_append.2 (.inr a)) b c).1,Nat.lt_of_lt_of_le (h.new e (List.mem_append.2 (.inr a)) b c).2 h'.size⟩
 · have o:=i f hf b j
   rcases (h'.new e a b c).1 with d | d
   · omega
   · exact o.2 d
open Go.RowKit Go.Sort Go.Shelf
def zm:Lsr:=⟨0,0,0⟩
def GV:List (Nat × Lsr)→Option (Nat × Lsr)
 | []=>none
 | z::zs=>some (zs.foldl lC z)
abbrev o6 (σ:Type):=σ→Lsr→Rcd→σ × Lsr × Int
def jq {σ:Type} (l:List Rcd) (a:o6 σ):Nat→List (Nat × Lsr)→σ→List (Nat × Lsr) × σ × Int
 | 0,ls,s=>(ls,s,26)
 | f+1,ls,s=>match GV ls with
  | none=>(ls,s,0)
  | some m=>if m.2.u=0 then (ls,s,0) else match dx l m.2.u with
   | none=>(ls,s,6)
   | some r=>if eh r.e=true∧r.e.t=m.2.i then
    (if (a s ⟨m.2.i,m.2.l,dZ r.e⟩ r).2.2≠0 then (ls,s,(a s ⟨m.2.i,m.2.l,dZ r.e⟩ r).2.2)
     else jq l a f (ls.map fun x=>if x.1=m.1 then (x.1,(a s ⟨m.2.i,m.2.l,dZ r.e⟩ r).2.1) else x) (a s ⟨m.2.i,m.2.l,dZ r.e⟩ r).1) else (ls,s,6)
theorem EE {z:Nat × Lsr} {zs:List (Nat × Lsr)} (b:Nat) (h:∀x∈z::zs,0≤x.2.u):(zs ++ [(b,zm)]).foldl lC z=zs.foldl lC z:=by
 rw[List.foldl_append];show lC (zs.foldl lC z) (b,zm)=_;exact Ca (by have:=h _ (tj zs z);show ¬(zs.foldl lC z).2.u<0;omega)
open Go.RowKit Go.Sort Go.Shelf
def jW (ls:List (Nat × Lsr)) (b:Nat) (x:Lsr):List (Nat × Lsr):=ls.map fun y=>if y.1=b then (y.1,x) else y
theorem iM (ls:List (Nat × Lsr)) (b:Nat) (x:Lsr):(jW ls b x).map Prod.fst=ls.map Prod.fst:=by
 unfold jW;rw[List.map_map];apply List.map_congr_left;intro y _;show(if y.1=b then (y.1,x) else y).1=y.1
 split<;>rfl
theorem DP {ls a:List (Nat × Lsr)} (h:ls.map Prod.fst=a.map Prod.fst):ls.map fO=a.map fO:=by
 have e:∀xs:List (Nat × Lsr),xs.map fO=(xs.map Prod.fst).map fun b=>Value.pointer (some ⟨b,0,none⟩):=fun xs=>by rw[List.map_map];rfl
 rw[e,e,h]
theorem Ex {ls:List (Nat × Lsr)} {b:Nat} (h:∀x∈ls,0≤x.2.u):∃z zs,ls ++ [(b,zm)]=z::zs∧((GV ls=none∧zs.foldl lC z=(b,zm))∨(∃m,m∈ls∧GV ls=some m∧zs.foldl lC z=m)):=by
 cases ls with
 | nil=>exact⟨(b,zm),[],rfl,.inl ⟨rfl,rfl⟩⟩
 | cons z zs=>exact⟨z,zs ++ [(b,zm)],rfl,.inr ⟨zs.foldl lC z,tj zs z,rfl,EE b h⟩⟩
theorem tN {P:Program} {ops:Array Oper} {Q:Exit→Act→World→Prop} {rest:List Oper} {o:Oper} {a:Act} {X w:World} {N d:Nat} {e:List (Nat × Value)} {M:List Nat} {L1 L2:List Ent} {ds:List Deferred} {ι:Type} {f:FuncId} {args:Array Value} {V:ι→Value} {F:ι→Prop} {g:ι→List Ent}
 (n:Has ds a N e) (i:Region.wanted o (yielded ops a.tmps)=true) (hx:(execOp a.eval o).run P X=.ok (.enter f args) X) (l:o.dst=some d) (q:Nat.blt d N=true) (j:St M w X (L1 ++ L2))
 (h:Calls P f args X fun r X'=>∃p,r=.returned (V p)∧F p∧St (gq X L1) X X' (g p)) (k:∀p b X',Has ds b N ((d,V p)::e)→F p→St M w X' (g p ++ L2)→wpList P ops Q rest b X'):wpList P ops Q (o::rest) a X:=
 kr n i hx l q h fun r X' ⟨p,hr,hF,m⟩=>⟨V p,hr,fun b c=>k p b X' c hF (j.outer2 m)⟩
theorem St.frontL {M:List Nat} {w X:World} {L1 L2:List Ent} (h:St M w X (L1 ++ L2)):St (gq X L1) X X L1:=(h.sub (List.sublist_append_left L1 L2)).inner
end Go.Proofs.YtcfdpfmchchkaaaGreatDoor
