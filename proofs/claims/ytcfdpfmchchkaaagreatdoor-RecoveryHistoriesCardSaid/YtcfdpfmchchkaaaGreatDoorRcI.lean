/-
  Chapter 22: what a history means; whether it is strict. No program in sight.
  Chapter 21: the bytes that an operation touches; Apart.
  Chapter 21: Apart.
  Chapter 22: whether a history is strict.
  Chapter 22: the meaning of a history.
-/
import Derived.Test.YtcfdpfmchchkaaaGreatDoorRcG
namespace Go.Proofs.YtcfdpfmchchkaaaGreatDoor
set_option maxHeartbeats 1000000
set_option maxRecDepth 4000
set_option linter.unusedVariables false
set_option linter.unusedSimpArgs false
open Go.RowKit
def B7 (y:Lge) (t:Int):Bool:=y.t==t&&(y.k==2||y.k==4)
def Ap (r:List Rcd) (t:Int):Bool:=r.any fun y=>B7 y.e t
def C7 (q:Pgp) (s:ByteArray) (n:Int):ByteArray:=if q.f then s else ta s n
def si:List Pgp→Int→List Rcd→List Pgp × Int × Int
 | p,n,[]=>(p,n,0)
 | p,n,x::r=>if (dt x.e&&Ap r x.e.t)=true then (match kc p x.e.g with
  | none=>([],0,0)
  | some q=>if (bL q.b x.e.o).2≠0 then ([],0,(bL q.b x.e.o).2) else si (gb p x.e.g (C7 q (bL q.b x.e.o).1 x.l)) (n+1) r) else si p n r
open Go.RowKit Go.Sort
open Go.RowKit Go.Sort
open Go.RowKit Go.Sort Go.Shelf
theorem Rd.dropF {α:Type} {f:α→List Value} {n:Nat} (hf:∀x,(f x).length=n) {w:World} {B b o:Nat} {l:List α} (h:Rd w B (some ⟨b,o,none⟩) (l.flatMap f)) (k:Nat):Rd w B (some ⟨b,o+k*n,none⟩) ((l.drop k).flatMap f):=fun j u hj=>by
 rw[←o7 hf,List.getElem?_drop] at hj;obtain⟨b',o',e,h1,h2⟩:=h (k*n+j) u hj;injection e with e;injection e with e1 e2;subst e1 e2;exact⟨b,o+k*n,rfl,h1,by rw[Nat.add_assoc];exact h2⟩
theorem Ad {o c l sz:Nat} (h:l<c):fD o c l sz=o+l*sz:=by unfold fD;rw[if_neg ab]
open Go.RowKit Go.Sort Go.Shelf
theorem Has.also {ds:List Deferred} {a:Act} {N t:Nat} {l:List (Nat × Value)} {v:Value} (h:Has ds a N l) (ht:look l t=some v):Has ds a N ((t,v)::l):=⟨h.defers,h.size,fun u x hu=>by
 unfold look at hu
 cases hb:Nat.beq t u with
 | true=>
  rw[hb] at hu;obtain rfl:=Nat.eq_of_beq_eq_true hb;injection hu with hu;subst hu;exact h.slot _ _ ht
 | false=>rw[hb] at hu;exact h.slot _ _ hu⟩
def Bz {α:Type} (p:α→Bool):List α→Nat→Int
 | [],_=>-1
 | x::r,k=>if p x=true then k else Bz p r (k+1)
theorem um {α:Type} (p:α→Bool):∀(l:List α) (k:Nat),decide (Bz p l k≥0)=l.any p
 | [],k=>rfl
 | x::r,k=>by
  unfold Bz;rw[List.any_cons]
  cases h:p x with
  | true=>rw[if_pos rfl,decide_eq_true ab];rfl
  | false=>rw[if_neg aq,um p r (k+1)];rfl
theorem tQ (p:Rcd→Bool) (l:List Rcd) (A:Option Addr) (c:Nat) (f:FuncId) (cap:List Value) (w:World) (hr:Rd w w.heap.size A (l.flatMap bA)) (hlen:l.length≤1000) (hfc:∀(vs:Array Value) (W:World),(callFunc f vs).run Tryz.prog W=.ok (.enter f vs) W)
 (hcl:∀X,Below w.heap.size w X→∀(k:Nat) (hk:k<l.length),Calls Tryz.prog f ([ff l[k]] ++ cap).toArray X fun e X'=>e=.returned (.bool (p l[k]))∧Below X.heap.size X X') :
 Calls Tryz.prog 146 #[.slice A l.length c,.func (.func f) #[] cap.toArray] w fun e w'=>e=.returned (.int .i64 (Bz p l 0))∧Below w.heap.size w w':=by
 refine al (N:=19) Tryz.func146 rfl rfl rfl (fun _ Y=>?_);have Z:=St.init w;refine GO 14 ?_;intro _ Y;refine aY Y Z [7,0,1] (fun (j:Nat)=>[(8,.int .i64 j)]) (fun (j:Nat)=>j≤l.length∧Bz p l 0=Bz p (l.drop j) j) (fun (j:Nat) L=>L) (fun (j:Nat)=>l.length-j) (0) (⟨Nat.zero_le _,rfl⟩) bz (Z) ?_;intro j _ _ Za Y Z;refine GO 6 ?_;intro _ Y;refine ak (Y.ev rfl) (fun Zb=>?_) (fun Zb=>?_)
 ·
  have hlt:j<l.length:=by have:=of_decide_eq_true Zb;omega
  obtain⟨b,o,rfl,hB,_⟩:=hr.opened (aK aB aq ab);have hd:l.drop j=l[j]::l.drop (j+1):=List.drop_eq_getElem_cons hlt;refine GO 15 ?_;intro _ Y;refine sv Y (au (i:=j) (sz:=14) Tryz.underlying41 aa (Y.ev rfl) (Y.ev rfl) ab ab rfl) fun _ Y=>?_;refine sv (v:=ff l[j]) Y (ai aa aa (Y.ev rfl) (aW aB (Z.rd0 hr) hlt)) fun _ Y=>?_;refine dg Y (wn rfl) (cz hfc (Y.ev rfl) (Y.evs rfl) rfl) rfl rfl Z (hcl _ Z.below j hlt) fun _ _ Y Z=>?_;refine ae (ag ?_);refine ak (Y.ev rfl) (fun Zc=>?_) (fun Zc=>?_)
  ·
   refine GO 12 ?_;intro _ Y;refine aD Y rfl rfl ?_;exact⟨by rw[Za.2,hd,Bz,if_pos Zc],Z.below⟩
  ·
   refine GO 8 ?_;intro _ Y;exact⟨j+1,by omega,⟨hlt,by rw[Za.2,hd,Bz,if_neg (by rw[Zc];decide)]⟩,Y.re bz,Z⟩
 ·
  have hge:l.length≤j:=by have:=of_decide_eq_false Zb;omega
  refine GO 11 ?_;intro _ Y;refine aD Y rfl rfl ?_;exact⟨by rw[Za.2,List.drop_of_length_le hge];rfl,Z.below⟩
theorem nY (p:Rcd→Bool) (l:List Rcd) (A:Option Addr) (c:Nat) (f:FuncId) (cap:List Value) (w:World) (hr:Rd w w.heap.size A (l.flatMap bA)) (hlen:l.length≤1000) (hfc:∀(vs:Array Value) (W:World),(callFunc f vs).run Tryz.prog W=.ok (.enter f vs) W)
 (hcl:∀X,Below w.heap.size w X→∀(k:Nat) (hk:k<l.length),Calls Tryz.prog f ([ff l[k]] ++ cap).toArray X fun e X'=>e=.returned (.bool (p l[k]))∧Below X.heap.size X X') :
 Calls Tryz.prog 93 #[.slice A l.length c,.func (.func f) #[] cap.toArray] w fun e w'=>e=.returned (.bool (l.any p))∧Below w.heap.size w w':=by
 refine al (N:=9) Tryz.func93 rfl rfl rfl (fun _ Y=>?_);have Z:=St.init w;refine GO 9 ?_;intro _ Y;refine cE Y rfl Z (tQ p l A c f cap _ (Z.rd0 hr) hlen hfc (fun X hX k hk=>hcl X (kS Z.below hX) k hk)) fun _ _ Y Z=>?_;refine GO 5 ?_;intro _ Y;refine aD Y rfl rfl ?_;exact⟨by rw[←um p l 0],Z.below⟩
theorem wi (x y:Rcd) (b:Nat) (T:TypeId) (w:World) (hb:Box w b (ff x).cells T) :
 Calls Tryz.prog 94 #[ff y,.pointer (some ⟨b,0,none⟩)] w fun e w'=>e=.returned (.bool (B7 y.e x.e.t))∧Below w.heap.size w w':=by
 refine al (N:=23) Tryz.func94 rfl rfl rfl (fun _ Y=>?_);have Z:=St.init w;refine ah (ao ?_);refine nb Y rfl rfl Z fun b2 _ _ Ze Y Z=>?_;refine GO 6 ?_;intro _ Y;refine vf Y 1 2 fun _ Y=>?_;refine GO 1 ?_;intro _ Y;refine sv Y (fy 1 (Y.ev rfl)) fun _ Y=>?_;refine sv Y (fy 1 (Y.ev rfl)) fun _ Y=>?_;refine sv Y (lx (Y.ev rfl) (Box.cells (hb.below Z.below) 2)) fun _ Y=>?_;refine GO 2 ?_;intro _ Y;apply aZ (x:=(y.e.k==2||y.e.k==4)) Y Z 11 rfl 11 22
 case ht=>
  intro Za;refine GO 1 ?_;intro _ Y;refine sy Y (fx 0 1 (Y.ev rfl)) fun _ Y=>?_;refine GO 3 ?_;intro _ Y;apply bm (x:=y.e.k==4) Y Z 16 rfl 5 21
  case hf=>
   intro Zb;refine GO 1 ?_;intro _ Y;refine sy Y (fx 0 1 (Y.ev rfl)) fun _ Y=>?_;refine GO 3 ?_;intro _ Y;exact ae ⟨Y.midE 4,Z⟩
  case ht=>
   intro Zb;refine GO 5 ?_;intro _ Y;exact ae ⟨Y.midE 4,Z⟩
  case h=>
   rintro a26 Zf ⟨Zg,Zc⟩
   refine GO 1 ?_;intro _ Y;exact ae ⟨Y.midE 6,Zc⟩
 case hf=>
  intro Za;refine GO 5 ?_;intro _ Y;refine bI Y (az Y _ rfl rfl rfl) rfl rfl fun _ Y=>?_;refine bI Y (az Y _ rfl rfl rfl) rfl rfl fun _ Y=>?_;refine bI Y (az Y _ rfl rfl rfl) rfl rfl fun _ Y=>?_;refine bI Y (az Y _ rfl rfl rfl) rfl rfl fun _ Y=>?_;refine GO 2 ?_;intro _ Y;exact ae ⟨Y.midE 10,Z⟩
 case h=>
  rintro a39 Zh ⟨Zi,Zd⟩
  refine GO 4 ?_;intro _ Y;refine aD Y rfl rfl ?_;exact⟨rfl,Zd.below⟩
theorem mz {p:ByteArray} {x:Op} (hp:p.size=512) (h:(bL p x).2=0):(bL p x).1.size=512:=by
 unfold bL at h ⊢
 split at h
 · rename_i h1;exact absurd h h1
 · rename_i h1
   rw[if_neg h1]
   split at h
   · rename_i h2;rw[if_pos h2];exact gg hp ((jc x).1 (by simpa using h1))
   · cases h
def qu (l:List Rcd) (p:List Pgp):Int:=ar [(dW l).2,mD l p]
def kB (l:List Rcd) (p:List Pgp):List Pgp × Int × Int:=if qu l p≠0 then ([],0,qu l p) else si p 0 l
theorem nL (l:List Rcd) (B:Option Addr) (d:Nat) (p:List Pgp) (A:Option Addr) (c:Nat) (w:World)
 (hr:Rd w w.heap.size A (p.flatMap cx)) (hq:Rd w w.heap.size B (l.flatMap bA)) (hl:l.length≤1000) (hc:l.length≤d) (hpl:p.length≤1000) (hF:FolT w) (hx:∀x∈l,FewE x.e∧I6 x.e.g) :
 Calls Tryz.prog 38 #[.slice B l.length d,.slice A p.length c] w fun e w'=>∃i:Option Addr × Nat,e=.returned (.tuple #[.slice i.1 (kB l p).1.length i.2,.int .i64 (kB l p).2.1,.int .i64 (kB l p).2.2]) ∧
  St [] w w' [.row (.slice i.1 (kB l p).1.length i.2) (kB l p).1.length 111 3 ((kB l p).1.flatMap cx)]:=by
 refine al (N:=93) Tryz.func38 rfl rfl rfl (fun _ Y=>?_);have Z:=St.init w;refine GO 11 ?_;intro _ Y;refine cE Y rfl Z (dZ l B d _ (Z.rd0 hq) hl hc (hF.below Z.below) (fun x hm=>(hx x hm).1)) fun _ _ Y Z=>?_;refine GO 2 ?_;intro _ Y;refine cE Y rfl Z (iG p l A c B d _ (Z.rd0 hr) (Z.rd0 hq) hl (fun x hm=>(hx x hm).2)) fun _ _ Y Z=>?_;refine bw Y (wn rfl) (f:=fun b=>.slice (some ⟨b,0,none⟩) 2 2) (aX Tryz.underlying214 aa aa (Y.evs2 rfl) rfl rfl rfl aq aq) rfl rfl Z fun b21 _ _ Zo Y S9=>?_;refine cC Y rfl (cZ (S9.at_ (i:=0) rfl)) fun _ Y=>?_;refine GO 9 ?_;intro _ Y;refine ak (Y.ev rfl) (fun Ze=>?_) (fun Ze=>?_)
 ·
  have hne:qu l p≠0:=by unfold qu;simpa using Ze
  have e1:kB l p=([],0,qu l p):=by unfold kB;rw[if_pos hne]
  refine GO 10 ?_;intro _ Y;refine jU Y rfl rfl rfl rfl ?_;refine⟨(none,0),by rw[e1];rfl,?_⟩;rw[e1];exact(S9.sub (List.nil_sublist _)).nilRow 111 3
 ·
  have hz:qu l p=0:=by unfold qu;simpa using Ze
  have e1:kB l p=si p 0 l:=by unfold kB;rw[if_neg (fun h=>h hz)]
  have hz2:=hz;unfold qu at hz2;rw[aQ] at hz2;obtain⟨g1,g2⟩:=xx (hz2 (mD l p) a7);have hvl:=(qb (hz2 (dW l).2 a7)).2;refine GO 5 ?_;intro _ Y;refine kI Y (wn rfl) (ax a8 (Y.evs rfl) rfl) rfl rfl S9 (mK p A c _ (S9.rd0 hr) hpl) (Nat.le_refl _) fun A27 c27 _ _ Y Z=>?_;refine GO 17 ?_;intro _ Y;refine aY Y Z [29,28,8,0] (fun (q:RdoS)=>[(30,.int .i64 q.j),(9,.int .i64 q.n)]) (fun (q:RdoS)=>q.j≤l.length∧si p 0 l=si q.p q.n (l.drop q.j)∧PgsOk q.p∧q.p.length=p.length∧0≤q.n∧q.n≤q.j∧(∀x∈l,jo q.p x=0)) (fun q L=>L.set 0 (.row (.slice A27 p.length c27) p.length 111 3 (q.p.flatMap cx))) (fun (q:RdoS)=>l.length-q.j) (⟨0,p,0⟩) (⟨Nat.zero_le _,rfl,g1,rfl,Int.le_refl 0,Int.le_refl 0,g2⟩) bz (Z) ?_;intro q _ _ Zn Y Z;refine GO 6 ?_;intro _ Y;refine ak (Y.ev rfl) (fun Zf=>?_) (fun Zf=>?_)
  ·
   have hlt:q.j<l.length:=by have:=of_decide_eq_true Zf;omega
   obtain⟨b5,o5,rfl,hB5,_⟩:=hq.opened (aK aB aq ab);have hdr:l.drop q.j=l[q.j]::l.drop (q.j+1):=List.drop_eq_getElem_cons hlt;obtain⟨hxe,hxg⟩:=hx _ (List.getElem_mem hlt);obtain⟨-,hun,hpo,hple,hn0,hnj,hfo⟩:=Zn;rw[hdr,si] at hun
   have hkk:∀x∈q.p,0≤x.g∧x.g≤600:=fun x hx=>by
    obtain⟨k,hk,rfl⟩:=List.getElem_of_mem hx;exact(hpo.all k hk).g
   have hlx:=hvl.e0 hlt;have hrl:(l.drop (q.j+1)).length=l.length-(q.j+1):=List.length_drop ..
   have hrdJ:Rd w w.heap.size (some ⟨b5,fD o5 d (q.j+1) 14,none⟩) ((l.drop (q.j+1)).flatMap bA):=by
    rcases Nat.lt_or_ge (q.j+1) l.length with h | h
    · rw[Ad ab];exact hq.dropF aB (q.j+1)
    · rw[List.drop_of_length_le h];exact Rd.nil _ _ _
   refine GO 7 ?_;intro _ Y;refine sv Y (au (i:=q.j) (sz:=14) Tryz.underlying41 aa (Y.ev rfl) (Y.ev rfl) ab ab rfl) fun _ Y=>?_;refine sv (v:=ff l[q.j]) Y (ai aa aa (Y.ev rfl) (aW aB (Z.rd0 hq) hlt)) fun _ Y=>?_;refine na (.agg #[.int .i64 0,.int .i64 0,.int .i64 0,.int .i64 0,.int .i64 0,.int .i64 0,.bool false,.int .i64 0,.int .i64 0,.int .i64 0,.int .i64 0,.string ⟨#[]⟩,.string ⟨#[]⟩,.string ⟨#[]⟩]) Y rfl Z fun b11 _ _ Zp Y Z=>?_;refine GO 1 ?_;intro _ Y;refine sw Y Z 0 fun _ Z=>?_;refine GO 7 ?_;intro _ Y;refine sv Y (lp (l:=q.j+1) (h:=l.length) (sz:=14) Tryz.underlying41 aa (Y.ev rfl) (Y.ev rfl) rfl ab ab) fun _ Y=>?_;refine sv Y (eL (Y.evs rfl) (Y.evs rfl)) fun _ Y=>?_;refine cE Y rfl Z (hrl▸nY (fun y=>B7 y.e l[q.j].e.t) (l.drop (q.j+1)) _ (d-(q.j+1)) 94 [.pointer (some ⟨b11,0,none⟩)] _ (Z.rd0 hrdJ) ab a8 (fun X hX k hk=>wi l[q.j] _ b11 _ X (Box.below (Z.at_ (i:=0) rfl) hX))) fun _ _ Y Z=>?_;refine GO 7 ?_;intro _ Y;refine sv (v:=cY l[q.j].e) Y (ai aa aa (Y.ev rfl) (Z.cellsOf (i:=0) rfl 1 13)) fun _ Y=>?_;refine cE Y rfl Z (iN _ _) fun _ _ Y Z=>?_;refine GO 2 ?_;intro _ Y;apply bm (x:=!(Ap (l.drop (q.j+1)) l[q.j].e.t)) Y Z 45 rfl 3 48
   case hf=>
    intro Zg;refine GO 3 ?_;intro _ Y;exact ae ⟨Y.midE 2,Z⟩
   case ht=>
    intro Zg;refine GO 3 ?_;intro _ Y;exact ae ⟨Y.midE 2,Z⟩
   case h=>
    rintro a51 Zs ⟨Zq,Zh⟩
    refine ae (ag ?_);refine ak (Zq.ev rfl) (fun Zc=>?_) (fun Zc=>?_)
    ·
     have hno:¬(dt l[q.j].e&&Ap (l.drop (q.j+1)) l[q.j].e.t)=true:=fun h=>by
      obtain⟨u1,u2⟩:=Bool.and_eq_true_iff.1 h;rw[u1,u2] at Zc;cases Zc
     rw[if_neg hno] at hun;refine GO 9 ?_;intro _ Y;exact⟨⟨q.j+1,q.p,q.n⟩,(by show l.length-(q.j+1)<l.length-q.j;omega),⟨hlt,hun,hpo,hple,hn0,by show q.n≤((q.j+1:Nat):Int);omega,hfo⟩,Y.re bz,Zh.sub (.cons _ (.cons_cons _ (.cons_cons _ .slnil)))⟩
    ·
     obtain⟨u1,u2⟩:=Bool.or_eq_false_iff.1 Zc
     have hyes:(dt l[q.j].e&&Ap (l.drop (q.j+1)) l[q.j].e.t)=true:=by rw[Bool.and_eq_true];exact⟨by simpa using u1,by simpa using u2⟩
     rw[if_pos hyes] at hun;obtain⟨qq,hqq,hqf⟩:=ur (hfo _ (List.getElem_mem hlt)) (by simpa using u1);refine GO 6 ?_;intro _ Y;refine vf Y 4 5 fun _ Y=>?_;refine GO 1 ?_;intro _ Y;refine cE Y rfl Zh (hple▸s9 q.p hpo.srt hkk A27 c27 l[q.j].e.g hxg _ (Zh.rdOf (i:=1) rfl) (by have:=hpo.n;omega)) fun _ _ Y Z=>?_;refine GO 1 ?_;intro _ Zi;obtain⟨b',o',rfl,qk,q1,q2,q3⟩:=mE hpo.srt (Z.rdOf (i:=1) rfl) (ov hpo.srt (Z.rdOf (i:=1) rfl) hqq);obtain rfl:o'=0:=uh (Z.at_ (i:=1) rfl);rw[Nat.zero_add] at q3;generalize il Pgp.g q.p l[q.j].e.g=k at qk q1 q2 q3
     have hq9:qq=q.p[k]:=by rw[q2] at hqq;injection hqq with e;exact e.symm
     subst hq9;rw[q2] at hun;simp only[] at hun;have Za:=(hpo.all k qk).b
     have hone:iO q.p[k].b l[q.j].e.o=(bL q.p[k].b l[q.j].e.o):=by unfold iO;rw[if_neg (fun h=>h (by unfold bY;rw[Za];rfl))]
     refine ae (ag (ah ?_));apply aH Zi (eZ 12) _ aa
     case h=>
      refine qv Zi (fun X hX=>aw (v':=.pointer (some ⟨b',k*3,none⟩)) (congrArg Value.pointer q3) (bc (Zi.ev rfl))) fun _ Y=>?_;refine GO 1 ?_;intro _ Y;refine qv Y (fun X hX=>fy 2 (Y.ev rfl)) fun _ Y=>?_;refine qv Y (fun X hX=>lx (Y.ev rfl) (by have:=(aW br ((Z.grow hX).rdOf (i:=1) rfl) qk) 2 _ rfl;rw[Nat.zero_add] at this;exact this)) fun _ Y=>?_;refine GO 1 ?_;intro _ Y;refine qv Y (fun X hX=>fx 6 7 (Y.ev rfl)) fun _ Y=>?_;refine qv (v:=fC l[q.j].e.o) Y (fun X hX=>ai aa aa (Y.ev rfl) ((Z.grow hX).cellsOf (i:=0) rfl 7 6)) fun _ Y=>?_;refine lT Y rfl (fun X hX=>sn q.p[k].b l[q.j].e.o _ (by rw[Za];decide) hxe.o hxe.n) fun _ Y=>?_;refine GO 5 ?_;intro _ Y;refine aP fun _ Zj Zr=>?_;have Z:=Z.grow Zj;refine GO 1 ?_;intro _ Y;rw[hone] at Y;obtain⟨S9,hS9⟩:∃S9,S9=if ((bL q.p[k].b l[q.j].e.o).2==0&&!q.p[k].f)=true then ta (bL q.p[k].b l[q.j].e.o).1 l[q.j].l else (bL q.p[k].b l[q.j].e.o).1:=⟨_,rfl⟩;refine GO 8 ?_;intro _ Y;apply aZ (x:=!q.p[k].f) Y Z 67 rfl 6 73
      case ht=>
       intro Zk;refine sy Y (aw (v':=.pointer (some ⟨b',k*3,none⟩)) (congrArg Value.pointer q3) (bc (Y.ev rfl))) fun _ Y=>?_;refine GO 1 ?_;intro _ Y;refine sy Y (fy 1 (Y.ev rfl)) fun _ Y=>?_;refine sy Y (lx (Y.ev rfl) (by have:=(aW br (Z.rdOf (i:=1) rfl) qk) 1 _ rfl;rw[Nat.zero_add] at this;exact this)) fun _ Y=>?_;refine GO 2 ?_;intro _ Y;exact ae ⟨Y.midE 5,Z⟩
      case hf=>
       intro Zk;refine GO 6 ?_;intro _ Y;exact ae ⟨Y.midE 5,Z⟩
      case h=>
       rintro a89 Zt ⟨Zb,Zl⟩
       refine ae (ag ?_);refine dJ Zb Zl [(14,.string S9),(15,.int .i64 (bL q.p[k].b l[q.j].e.o).2)] [73,67,66,65,64,63,54,62,61,60,59,58,57,56,55,13,53,52,51,50,49,48,45,44,43,42,41,12,40,39,38,37,36,35,10,11,34,33,32,31,30,9,29,28,8,0] ?_ (fun _ _ Y Z=>?_)
       ·
        refine ak (Zb.ev rfl) (fun Zd=>?_) (fun Zd=>?_)
        ·
         have hT0:(bL q.p[k].b l[q.j].e.o).2=0:=by simpa using (Bool.and_eq_true_iff.1 Zd).1
         have hT5:=mz Za hT0
         have hw0:Cf (bL q.p[k].b l[q.j].e.o).1 l[q.j].l=0:=by
          unfold Cf;rw[aQ];simp only[List.mem_cons,List.not_mem_nil,or_false,forall_eq_or_imp,forall_eq];exact⟨by unfold bY;rw[hT5];rfl,(aL aq).2 (inB_true.2 ⟨by omega,by omega⟩)⟩
         refine GO 4 ?_;intro _ Y;refine cE Y rfl Zl (rP (bL q.p[k].b l[q.j].e.o).1 l[q.j].l _ (by rw[hT5];decide)) fun _ _ Y Z=>?_;refine GO 7 ?_;intro _ Y;rw[show(if Cf (bL q.p[k].b l[q.j].e.o).1 l[q.j].l=0 then zK (bL q.p[k].b l[q.j].e.o).1 l[q.j].l else ⟨#[]⟩)=S9 by rw[hS9,if_pos hw0,if_pos Zd];rfl,show Cf (bL q.p[k].b l[q.j].e.o).1 l[q.j].l=(bL q.p[k].b l[q.j].e.o).2 by rw[hw0,hT0]] at Y;exact⟨Y.re bz,Z⟩
        ·
         refine wp_skip (ag ?_);replace Zb:=Has.also Zb (t:=14) (v:=.string S9) ((show look _ 14=some (.string (bL q.p[k].b l[q.j].e.o).1) from rfl).trans (by rw[hS9,if_neg (by rw[Zd];decide)]));exact⟨Zb.re bz,Zl⟩
       ·
        refine GO 8 ?_;intro _ Y;refine ak (Y.ev rfl) (fun Zm=>?_) (fun Zm=>?_)
        ·
         have he:(bL q.p[k].b l[q.j].e.o).2≠0:=by simpa using Zm
         rw[if_pos he] at hun;refine GO 15 ?_;intro _ Y;refine jU Y rfl rfl rfl rfl ?_;refine⟨(none,0),by rw[e1,hun];(try rfl),?_⟩;rw[e1,hun];exact(Z.sub (List.nil_sublist _)).nilRow 111 3
        ·
         have he:(bL q.p[k].b l[q.j].e.o).2=0:=by simpa using Zm
         rw[if_neg (fun h=>h he)] at hun
         have hmk:C7 q.p[k] (bL q.p[k].b l[q.j].e.o).1 l[q.j].l=S9:=by
          rw[hS9,he];unfold C7
          cases q.p[k].f<;>rfl
         have hT5:=mz Za he
         have hs5:S9.size=512:=by
          rw[hS9]
          split
          · exact po hT5
          · exact hT5
         rw[hmk] at hun;have hpo2:=uU hpo l[q.j].e.g S9 hs5;have hfl:=oV hpo.srt qk S9;rw[q1] at hfl;refine wp_skip (ag (ah (ao ?_)));refine sv Y (aw (v':=.pointer (some ⟨b',k*3,none⟩)) (congrArg Value.pointer q3) (bc (Y.ev rfl))) fun _ Y=>?_;refine GO 2 ?_;intro _ Y;refine sv Y (fy 2 (Y.ev rfl)) fun _ Y=>?_;refine o3 Y (wn rfl) ⟨rfl,rfl⟩ (Y.ev rfl) (Y.ev rfl) rfl aa Z (i:=1) rfl rfl (by show k*3+2+1≤p.length*3;omega) fun _ Z=>?_;refine GO 14 ?_;intro _ Y;exact⟨⟨q.j+1,gb q.p l[q.j].e.g S9,q.n+1⟩,(by show l.length-(q.j+1)<l.length-q.j;omega),⟨hlt,hun,hpo2,by rw[eP];exact hple,by show 0≤q.n+1;omega,by show q.n+1≤((q.j+1:Nat):Int);omega,fun x hx=>by rw[kE];exact hfo x hx⟩,Y.re bz,(by show St _ w _ [.row _ _ _ _ ((gb q.p l[q.j].e.g S9).flatMap cx),_];rw[hfl];exact(Z.sub (.cons _ (.cons_cons _ (.cons_cons _ .slnil)))))⟩
     case hB=>kernel_rfl
     case hst=>rfl
  ·
   have hge:l.length≤q.j:=by have:=of_decide_eq_false Zf;omega
   obtain⟨-,hun,hpo,hple,-,-,-⟩:=Zn;rw[List.drop_of_length_le hge,si] at hun;refine GO 15 ?_;intro _ Y;refine jU Y rfl rfl rfl rfl ?_;refine⟨(A27,c27),by rw[e1,hun,←hple];(try rfl),?_⟩;rw[e1,hun];show St [] w _ [.row (.slice A27 q.p.length c27) q.p.length _ _ _];rw[hple];exact(Z.sub (.cons_cons _ (.cons _ .slnil)))
end Go.Proofs.YtcfdpfmchchkaaaGreatDoor
