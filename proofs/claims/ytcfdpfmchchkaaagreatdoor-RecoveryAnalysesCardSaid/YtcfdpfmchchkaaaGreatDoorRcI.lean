/-
  Chapter 22: what a history means; whether it is strict. No program in sight.
  Chapter 21: the bytes that an operation touches; Apart.
  Chapter 21: Apart.
  Chapter 22: whether a history is strict.
  Chapter 22: the meaning of a history.
-/
import Derived.Test.YtcfdpfmchchkaaaGreatDoorRcG
namespace Go.Proofs.YtcfdpfmchchkaaaGreatDoor
set_option linter.unusedVariables false
set_option linter.unusedSimpArgs false
open Go.RowKit
def z6 (y:Lge) (t:Int):Bool:=y.t==t&&(y.k==2||y.k==4)
def yV (r:List Rcd) (t:Int):Bool:=r.any fun y=>z6 y.e t
def AS (q:Pgp) (s:ByteArray) (n:Int):ByteArray:=if q.f then s else qP s n
def qG:List Pgp→Int→List Rcd→List Pgp × Int × Int
 | p,n,[]=>(p,n,0)
 | p,n,x::r=>if (du x.e&&yV r x.e.t)=true then (match jy p x.e.g with
  | none=>([],0,0)
  | some q=>if (cp q.b x.e.o).2≠0 then ([],0,(cp q.b x.e.o).2) else qG (fY p x.e.g (AS q (cp q.b x.e.o).1 x.l)) (n+1) r) else qG p n r
open Go.RowKit Go.Sort
open Go.RowKit Go.Sort
set_option maxRecDepth 4000
open Go.RowKit Go.Sort Go.Shelf
theorem Rd.dropF {α:Type} {f:α→List Value} {n:Nat} (hf:∀x,(f x).length=n) {w:World} {B b o:Nat} {l:List α} (h:Rd w B (some ⟨b,o,none⟩) (l.flatMap f)) (k:Nat):Rd w B (some ⟨b,o+k*n,none⟩) ((l.drop k).flatMap f):=fun j u hj=>by
 rw[←kh hf,List.getElem?_drop] at hj;obtain⟨b',o',e,h1,h2⟩:=h (k*n+j) u hj;injection e with e;injection e with e1 e2;subst e1 e2;exact⟨b,o+k*n,rfl,h1,by rw[Nat.add_assoc];exact h2⟩
theorem zd {o c l sz:Nat} (h:l<c):fF o c l sz=o+l*sz:=by unfold fF;rw[if_neg (by omega)]
set_option maxRecDepth 4000
open Go.RowKit Go.Sort Go.Shelf
theorem Has.also {ds:List Deferred} {a:Act} {N t:Nat} {l:List (Nat × Value)} {v:Value} (h:Has ds a N l) (ht:look l t=some v):Has ds a N ((t,v)::l):=⟨h.defers,h.size,fun u x hu=>by
 unfold look at hu
 cases hb:Nat.beq t u with
 | true=>
  rw[hb] at hu;obtain rfl:=Nat.eq_of_beq_eq_true hb;injection hu with hu;subst hu;exact h.slot _ _ ht
 | false=>rw[hb] at hu;exact h.slot _ _ hu⟩
def zp {α:Type} (p:α→Bool):List α→Nat→Int
 | [],_=>-1
 | x::r,k=>if p x=true then k else zp p r (k+1)
theorem sK {α:Type} (p:α→Bool):∀(l:List α) (k:Nat),decide (zp p l k≥0)=l.any p
 | [],k=>rfl
 | x::r,k=>by
  unfold zp;rw[List.any_cons]
  cases h:p x with
  | true=>rw[if_pos rfl,decide_eq_true (by omega)];rfl
  | false=>rw[if_neg (by decide),sK p r (k+1)];rfl
theorem rZ (p:Rcd→Bool) (l:List Rcd) (A:Option Addr) (c:Nat) (f:FuncId) (cap:List Value) (w:World) (hr:Rd w w.heap.size A (l.flatMap cw)) (hlen:l.length≤1000) (hfc:∀(vs:Array Value) (W:World),(callFunc f vs).run Tryz.prog W=.ok (.enter f vs) W)
 (hcl:∀X,Below w.heap.size w X→∀(k:Nat) (hk:k<l.length),Calls Tryz.prog f ([fw l[k]] ++ cap).toArray X fun e X'=>e=.returned (.bool (p l[k]))∧Below X.heap.size X X') :
 Calls Tryz.prog 146 #[.slice A l.length c,.func (.func f) #[] cap.toArray] w fun e w'=>e=.returned (.int .i64 (zp p l 0))∧Below w.heap.size w w':=by
 refine aD (N:=19) Tryz.func146 rfl rfl rfl (fun _ Y=>?_);have Z:=St.init w;refine ab (ag ?_);refine ma Y rfl rfl fun _ Y=>?_;refine ae (aa (ab (ab (ag ?_))));refine mv Y rfl rfl fun _ Y=>?_;refine sv Y (bn Tryz.underlying41 (Y.ev rfl)) fun _ Y=>?_;refine mv Y rfl rfl fun _ Y=>?_;refine ae (aa (wp_block ?_));refine bC Y Z [7,0,1] (fun (j:Nat)=>[(8,.int .i64 j)]) (fun (j:Nat)=>j≤l.length∧zp p l 0=zp p (l.drop j) j) (fun (j:Nat) L=>L) (fun (j:Nat)=>l.length-j) (0) (⟨Nat.zero_le _,rfl⟩) ⟨rfl,rfl,rfl,rfl,trivial⟩ (Z) ?_;intro j _ _ hF0 Y Z;refine ab (ag ?_);refine sv Y (bh (Y.ev rfl) (Y.ev rfl)) fun _ Y=>?_;refine ae (aa (ab ?_));refine aB (Y.ev rfl) (fun hc0=>?_) (fun hc0=>?_)
 ·
  have hlt:j<l.length:=by have:=of_decide_eq_true hc0;omega
  obtain⟨b,o,rfl,hB,_⟩:=hr.opened (aP aL (by decide) (by omega));have hd:l.drop j=l[j]::l.drop (j+1):=List.drop_eq_getElem_cons hlt;refine wp_skip (aa (ab (wp_block (ab (ag ?_)))));refine mv Y rfl rfl fun _ Y=>?_;refine ma Y rfl rfl fun _ Y=>?_;refine cu ?_;refine mv Y rfl rfl fun _ Y=>?_;refine mv Y rfl rfl fun _ Y=>?_;refine mv Y rfl rfl fun _ Y=>?_;refine sv Y (aC (i:=j) (sz:=14) Tryz.underlying41 (by kernel_rfl) (Y.ev rfl) (Y.ev rfl) (by omega) (by omega) rfl) fun _ Y=>?_;refine sv (v:=fw l[j]) Y (av (by kernel_rfl) (by kernel_rfl) (Y.ev rfl) (ba aL (Z.rd0 hr) hlt)) fun _ Y=>?_;refine aV Y (wn rfl) (de hfc (Y.ev rfl) (Y.evs rfl) rfl) rfl rfl Z (hcl _ Z.below j hlt) fun _ _ Y Z=>?_;refine ae (aa ?_);refine aB (Y.ev rfl) (fun hc1=>?_) (fun hc1=>?_)
  ·
   refine ab (ag ?_);refine mv Y rfl rfl fun _ Y=>?_;refine ma Y rfl rfl fun _ Y=>?_;refine ae (aa (wp_ret (aF (ak (ak (aF (ak ?_)))))));refine bw Y rfl rfl ?_;exact⟨by rw[hF0.2,hd,zp,if_pos hc1],Z.below⟩
  ·
   refine wp_skip (aK (aa (ag ?_)));refine sv Y (a7 (Y.ev rfl) (Y.ev rfl) (by omega)) fun _ Y=>?_;refine mv Y rfl rfl fun _ Y=>?_;refine ae (aa ?_);exact⟨j+1,by omega,⟨hlt,by rw[hF0.2,hd,zp,if_neg (by rw[hc1];decide)]⟩,Y.re ⟨rfl,rfl,rfl,rfl,trivial⟩,Z⟩
 ·
  have hge:l.length≤j:=by have:=of_decide_eq_false hc0;omega
  refine wp_exit ?_;refine ar ?_;refine ar ?_;refine bz ?_;refine aa (ab (ag ?_));refine ma Y rfl rfl fun _ Y=>?_;refine ae (aa (wp_ret ?_));refine bw Y rfl rfl ?_;exact⟨by rw[hF0.2,List.drop_of_length_le hge];rfl,Z.below⟩
theorem mI (p:Rcd→Bool) (l:List Rcd) (A:Option Addr) (c:Nat) (f:FuncId) (cap:List Value) (w:World) (hr:Rd w w.heap.size A (l.flatMap cw)) (hlen:l.length≤1000) (hfc:∀(vs:Array Value) (W:World),(callFunc f vs).run Tryz.prog W=.ok (.enter f vs) W)
 (hcl:∀X,Below w.heap.size w X→∀(k:Nat) (hk:k<l.length),Calls Tryz.prog f ([fw l[k]] ++ cap).toArray X fun e X'=>e=.returned (.bool (p l[k]))∧Below X.heap.size X X') :
 Calls Tryz.prog 93 #[.slice A l.length c,.func (.func f) #[] cap.toArray] w fun e w'=>e=.returned (.bool (l.any p))∧Below w.heap.size w w':=by
 refine aD (N:=9) Tryz.func93 rfl rfl rfl (fun _ Y=>?_);have Z:=St.init w;refine ab (ag ?_);refine ma Y rfl rfl fun _ Y=>?_;refine cu ?_;refine mv Y rfl rfl fun _ Y=>?_;refine mv Y rfl rfl fun _ Y=>?_;refine aV Y (wn rfl) (aq (fun _ _=>by kernel_rfl) (Y.evs rfl) rfl) rfl rfl Z (rZ p l A c f cap _ (Z.rd0 hr) hlen hfc (fun X hX k hk=>hcl X (ax Z.below hX) k hk)) fun _ _ Y Z=>?_;refine sv Y (jk (Y.ev rfl) (Y.ev rfl)) fun _ Y=>?_;refine ma Y rfl rfl fun _ Y=>?_;refine ae (aa (wp_ret ?_));refine bw Y rfl rfl ?_;exact⟨by rw[←sK p l 0],Z.below⟩
theorem uM (x y:Rcd) (b:Nat) (T:TypeId) (w:World) (hb:Box w b (fw x).cells T) :
 Calls Tryz.prog 94 #[fw y,.pointer (some ⟨b,0,none⟩)] w fun e w'=>e=.returned (.bool (z6 y.e x.e.t))∧Below w.heap.size w w':=by
 refine aD (N:=23) Tryz.func94 rfl rfl rfl (fun _ h0=>?_);have S0:=St.init w;refine ab (ag ?_);refine nb h0 rfl rfl S0 fun b2 _ _ gb2 h1 S1=>?_;refine ma h1 rfl rfl fun _ h2=>?_;refine cu ?_;refine vf h2 1 1 rfl rfl rfl fun _ h3=>?_;refine vf h3 1 2 rfl rfl rfl fun _ h4=>?_;refine vl h4 S1 0 rfl rfl rfl rfl fun _ h5=>?_;refine sv h5 (ai (off:=1) (by kernel_rfl) (h5.ev rfl) rfl) fun _ h6=>?_;refine sv h6 (ai (off:=1) (by kernel_rfl) (h6.ev rfl) rfl) fun _ h7=>?_;refine sv h7 (ao (by kernel_rfl) (h7.ev rfl) (Box.cells (hb.below S1.below) 2)) fun _ h8=>?_;refine sv h8 (aW (h8.ev rfl) (h8.ev rfl)) fun _ h9=>?_;refine mv h9 rfl rfl fun _ h10=>?_;apply cQ (x:=(y.e.k==2||y.e.k==4)) h10 S1 11 rfl 11 22
 case ht=>
  intro gc11;refine sy h10 rfl rfl rfl gc11 (ai (off:=1) (j:=1) (by kernel_rfl) (h10.ev rfl) rfl) rfl rfl fun _ h11=>?_;refine sy h11 rfl rfl rfl gc11 (ai (off:=0) (j:=1) (by kernel_rfl) (h11.ev rfl) rfl) rfl rfl fun _ h12=>?_;refine sy h12 rfl rfl rfl gc11 (ao (by kernel_rfl) (h12.ev rfl) (S1.cell (i:=0) rfl rfl)) rfl rfl fun _ h13=>?_;refine sy h13 rfl rfl rfl gc11 (aW (h13.ev rfl) (h13.ev rfl)) rfl rfl fun _ h14=>?_;refine sy h14 rfl rfl rfl gc11 (aj (h14.ev rfl)) rfl rfl fun _ h15=>?_;apply eh (x:=y.e.k==4) h15 S1 16 rfl 5 21
  case hf=>
   intro gc16;refine sy h15 rfl rfl rfl gc16 (ai (off:=1) (j:=1) (by kernel_rfl) (h15.ev rfl) rfl) rfl rfl fun _ h16=>?_;refine sy h16 rfl rfl rfl gc16 (ai (off:=0) (j:=1) (by kernel_rfl) (h16.ev rfl) rfl) rfl rfl fun _ h17=>?_;refine sy h17 rfl rfl rfl gc16 (ao (by kernel_rfl) (h17.ev rfl) (S1.cell (i:=0) rfl rfl)) rfl rfl fun _ h18=>?_;refine sy h18 rfl rfl rfl gc16 (aW (h18.ev rfl) (h18.ev rfl)) rfl rfl fun _ h19=>?_;refine sy h19 rfl rfl rfl gc11 (aG (h19.ev rfl) gc16 (h19.ev rfl)) rfl rfl fun _ h20=>?_;exact ae ⟨h20.mid (m:=[(_,_),(_,_),(_,_),(_,_)]) rfl,S1⟩
  case ht=>
   intro gc16;refine no h15 rfl rfl rfl gc16 rfl rfl fun _ h21=>?_;refine no h21 rfl rfl rfl gc16 rfl rfl fun _ h22=>?_;refine no h22 rfl rfl rfl gc16 rfl rfl fun _ h23=>?_;refine no h23 rfl rfl rfl gc16 rfl rfl fun _ h24=>?_;refine sy h24 rfl rfl rfl gc11 (aA (h24.ev rfl) gc16 (h24.ev rfl)) rfl rfl fun _ h25=>?_;exact ae ⟨h25.mid (m:=[(_,_),(_,_),(_,_),(_,_)]) rfl,S1⟩
  case h=>
   rintro a26 X26 ⟨h26,S26⟩
   refine sv h26 (aA (h26.ev rfl) gc11 (h26.ev rfl)) fun _ h27=>?_;exact ae ⟨h27.mid (m:=[(_,_),(_,_),(_,_),(_,_),(_,_),(_,_)]) rfl,S26⟩
 case hf=>
  intro gc11;refine no h10 rfl rfl rfl gc11 rfl rfl fun _ h28=>?_;refine no h28 rfl rfl rfl gc11 rfl rfl fun _ h29=>?_;refine no h29 rfl rfl rfl gc11 rfl rfl fun _ h30=>?_;refine no h30 rfl rfl rfl gc11 rfl rfl fun _ h31=>?_;refine no h31 rfl rfl rfl gc11 rfl rfl fun _ h32=>?_;refine p8 h32 (gP h32 _ rfl rfl rfl) rfl rfl fun _ h33=>?_;refine p8 h33 (gP h33 _ rfl rfl rfl) rfl rfl fun _ h34=>?_;refine p8 h34 (gP h34 _ rfl rfl rfl) rfl rfl fun _ h35=>?_;refine p8 h35 (gP h35 _ rfl rfl rfl) rfl rfl fun _ h36=>?_;refine no h36 rfl rfl rfl gc11 rfl rfl fun _ h37=>?_;refine sv h37 (aG (h37.ev rfl) gc11 (h37.ev rfl)) fun _ h38=>?_;exact ae ⟨h38.mid (m:=[(_,_),(_,_),(_,_),(_,_),(_,_),(_,_),(_,_),(_,_),(_,_),(_,_)]) rfl,S1⟩
 case h=>
  rintro a39 X39 ⟨h39,S39⟩
  refine ma h39 rfl rfl fun _ h40=>?_;refine ae (aa (wp_ret ?_));refine bw h40 rfl rfl ?_;exact⟨rfl,S39.below⟩
theorem lN {p:ByteArray} {x:Op} (hp:p.size=512) (h:(cp p x).2=0):(cp p x).1.size=512:=by
 unfold cp at h ⊢
 split at h
 · rename_i h1;exact absurd h h1
 · rename_i h1
   rw[if_neg h1]
   split at h
   · rename_i h2;rw[if_pos h2];exact gr hp ((iS x).1 (by simpa using h1))
   · cases h
def pE (l:List Rcd) (p:List Pgp):Int:=aO [(fh l).2,lG l p]
def kr (l:List Rcd) (p:List Pgp):List Pgp × Int × Int:=if pE l p≠0 then ([],0,pE l p) else qG p 0 l
theorem mH (l:List Rcd) (B:Option Addr) (d:Nat) (p:List Pgp) (A:Option Addr) (c:Nat) (w:World)
 (hr:Rd w w.heap.size A (p.flatMap cR)) (hq:Rd w w.heap.size B (l.flatMap cw)) (hl:l.length≤1000) (hc:l.length≤d) (hpl:p.length≤1000) (hF:FolT w) (hx:∀x∈l,FewE x.e∧I6 x.e.g) :
 Calls Tryz.prog 38 #[.slice B l.length d,.slice A p.length c] w fun e w'=>∃i:Option Addr × Nat,e=.returned (.tuple #[.slice i.1 (kr l p).1.length i.2,.int .i64 (kr l p).2.1,.int .i64 (kr l p).2.2]) ∧
  St [] w w' [.row (.slice i.1 (kr l p).1.length i.2) (kr l p).1.length 111 3 ((kr l p).1.flatMap cR)]:=by
 refine aD (N:=93) Tryz.func38 rfl rfl rfl (fun _ h0=>?_);have S0:=St.init w;refine ab (ag ?_);refine ma h0 rfl rfl fun _ h1=>?_;refine ma h1 rfl rfl fun _ h2=>?_;refine ma h2 rfl rfl fun _ h3=>?_;refine ae (aa (ab (ab (ag ?_))));refine mv h3 rfl rfl fun _ h4=>?_;refine aV h4 (wn rfl) (aq (fun _ _=>by kernel_rfl) (h4.evs rfl) rfl) rfl rfl S0 (ew l B d _ (S0.rd0 hq) hl hc (hF.below S0.below) (fun x hm=>(hx x hm).1)) fun _ _ h5 S5=>?_;refine mv h5 rfl rfl fun _ h6=>?_;refine mv h6 rfl rfl fun _ h7=>?_;refine aV h7 (wn rfl) (aq (fun _ _=>by kernel_rfl) (h7.evs rfl) rfl) rfl rfl S5 (iy p l A c B d _ (S5.rd0 hr) (S5.rd0 hq) hl (fun x hm=>(hx x hm).2)) fun _ _ h8 S8=>?_;refine dd h8 (wn rfl) (f:=fun b=>.slice (some ⟨b,0,none⟩) 2 2) (cc Tryz.underlying214 (by kernel_rfl) (by kernel_rfl) (h8.evs2 rfl) rfl rfl rfl (by decide) (by decide)) rfl rfl S8 fun b21 _ _ gb21 h9 S9=>?_;refine bF h9 (wn rfl) (aq (fun _ _=>by kernel_rfl) (h9.evs rfl) rfl) rfl rfl (dr (S9.at_ (i:=0) rfl)) fun _ h10=>?_;refine ma h10 rfl rfl fun _ h11=>?_;refine cu ?_;refine mv h11 rfl rfl fun _ h12=>?_;refine sv h12 (bc (h12.ev rfl) (h12.ev rfl)) fun _ h13=>?_;refine ae (aa ?_);refine aB (h13.ev rfl) (fun hc0=>?_) (fun hc0=>?_)
 ·
  have hne:pE l p≠0:=by unfold pE;simpa using hc0
  have e1:kr l p=([],0,pE l p):=by unfold kr;rw[if_pos hne]
  refine ab (ag ?_);refine mv h13 rfl rfl fun _ h14=>?_;refine ma h14 rfl rfl fun _ h15=>?_;refine ma h15 rfl rfl fun _ h16=>?_;refine ma h16 rfl rfl fun _ h17=>?_;refine ae (aa (wp_ret (ak ?_)));refine uX h17 rfl rfl rfl rfl ?_;refine⟨(none,0),by rw[e1];rfl,?_⟩;rw[e1];exact(S9.sub (List.nil_sublist _)).nilRow 111 3
 ·
  have hz:pE l p=0:=by unfold pE;simpa using hc0
  have e1:kr l p=qG p 0 l:=by unfold kr;rw[if_neg (fun h=>h hz)]
  have hz2:=hz;unfold pE at hz2;rw[bu] at hz2;obtain⟨g1,g2⟩:=wz (hz2 (lG l p) (by simp));have hvl:=(lz (hz2 (fh l).2 (by simp))).2;refine wp_skip (aa (ab (ag ?_)));refine mv h13 rfl rfl fun _ h18=>?_;refine kG h18 (wn rfl) (aq (fun _ _=>by kernel_rfl) (h18.evs rfl) rfl) rfl rfl S9 (mi p A c _ (S9.rd0 hr) hpl) (Nat.le_refl _) fun A27 c27 _ _ h19 S19=>?_;refine ma h19 rfl rfl fun _ h20=>?_;refine cu ?_;refine ma h20 rfl rfl fun _ h21=>?_;refine ae (aa (ab (ab (ag ?_))));refine mv h21 rfl rfl fun _ h22=>?_;refine sv h22 (bn Tryz.underlying41 (h22.ev rfl)) fun _ h23=>?_;refine mv h23 rfl rfl fun _ h24=>?_;refine ae (aa (wp_block ?_));refine bC h24 S19 [29,28,8,0] (fun (q:RdoS)=>[(30,.int .i64 q.j),(9,.int .i64 q.n)]) (fun (q:RdoS)=>q.j≤l.length∧qG p 0 l=qG q.p q.n (l.drop q.j)∧PgsOk q.p∧q.p.length=p.length∧0≤q.n∧q.n≤q.j∧(∀x∈l,jh q.p x=0)) (fun q L=>L.set 0 (.row (.slice A27 p.length c27) p.length 111 3 (q.p.flatMap cR))) (fun (q:RdoS)=>l.length-q.j) (⟨0,p,0⟩) (⟨Nat.zero_le _,rfl,g1,rfl,Int.le_refl 0,Int.le_refl 0,g2⟩) ⟨rfl,rfl,rfl,rfl,rfl,rfl,trivial⟩ (S19) ?_;intro q _ _ hF0 h25 S25;refine ab (ag ?_);refine sv h25 (bh (h25.ev rfl) (h25.ev rfl)) fun _ h26=>?_;refine ae (aa (ab ?_));refine aB (h26.ev rfl) (fun hc1=>?_) (fun hc1=>?_)
  ·
   have hlt:q.j<l.length:=by have:=of_decide_eq_true hc1;omega
   obtain⟨b5,o5,rfl,hB5,_⟩:=hq.opened (aP aL (by decide) (by omega));have hdr:l.drop q.j=l[q.j]::l.drop (q.j+1):=List.drop_eq_getElem_cons hlt;obtain⟨hxe,hxg⟩:=hx _ (List.getElem_mem hlt);obtain⟨-,hun,hpo,hple,hn0,hnj,hfo⟩:=hF0;rw[hdr,qG] at hun
   have hkk:∀x∈q.p,0≤x.g∧x.g≤600:=fun x hx=>by
    obtain⟨k,hk,rfl⟩:=List.getElem_of_mem hx;exact(hpo.all k hk).g
   have hlx:=hvl.e0 hlt;have hrl:(l.drop (q.j+1)).length=l.length-(q.j+1):=List.length_drop ..
   have hrdJ:Rd w w.heap.size (some ⟨b5,fF o5 d (q.j+1) 14,none⟩) ((l.drop (q.j+1)).flatMap cw):=by
    rcases Nat.lt_or_ge (q.j+1) l.length with h | h
    · rw[zd (by omega)];exact hq.dropF aL (q.j+1)
    · rw[List.drop_of_length_le h];exact Rd.nil _ _ _
   refine wp_skip (aa (ab (wp_block (ab (ag ?_)))));refine mv h26 rfl rfl fun _ h27=>?_;refine sv h27 (aC (i:=q.j) (sz:=14) Tryz.underlying41 (by kernel_rfl) (h27.ev rfl) (h27.ev rfl) (by omega) (by omega) rfl) fun _ h28=>?_;refine sv (v:=fw l[q.j]) h28 (av (by kernel_rfl) (by kernel_rfl) (h28.ev rfl) (ba aL (S25.rd0 hq) hlt)) fun _ h29=>?_;refine na (.agg #[.int .i64 0,.int .i64 0,.int .i64 0,.int .i64 0,.int .i64 0,.int .i64 0,.bool false,.int .i64 0,.int .i64 0,.int .i64 0,.int .i64 0,.string ⟨#[]⟩,.string ⟨#[]⟩,.string ⟨#[]⟩]) h29 rfl S25 fun b11 _ _ gb11 h30 S30=>?_;refine ma h30 rfl rfl fun _ h31=>?_;refine az h31 (wn rfl) ⟨rfl,rfl⟩ (h31.ev rfl) (h31.ev rfl) rfl (by kernel_rfl) S30 (i:=0) rfl rfl rfl fun _ S32=>?_;refine cu ?_;refine mv h31 rfl rfl fun _ h33=>?_;refine mv h33 rfl rfl fun _ h34=>?_;refine sv h34 (a7 (h34.ev rfl) (h34.ev rfl) (by omega)) fun _ h35=>?_;refine sv h35 (kE (l:=q.j+1) (h:=l.length) (sz:=14) Tryz.underlying41 (by kernel_rfl) (h35.ev rfl) (h35.ev rfl) rfl (by omega) (by omega)) fun _ h36=>?_;refine sv h36 (fK (h36.evs rfl) (h36.evs rfl)) fun _ h37=>?_;refine aV h37 (wn rfl) (aq (fun _ _=>by kernel_rfl) (h37.evs rfl) rfl) rfl rfl S32 (hrl▸mI (fun y=>z6 y.e l[q.j].e.t) (l.drop (q.j+1)) _ (d-(q.j+1)) 94 [.pointer (some ⟨b11,0,none⟩)] _ (S32.rd0 hrdJ) (by omega) (fun _ _=>by kernel_rfl) (fun X hX k hk=>uM l[q.j] _ b11 _ X (Box.below (S32.at_ (i:=0) rfl) hX))) fun _ _ h38 S38=>?_;refine ma h38 rfl rfl fun _ h39=>?_;refine ae (aa (ab (ab (ag ?_))));refine vf h39 1 1 rfl rfl rfl fun _ h40=>?_;refine sv (v:=ey l[q.j].e) h40 (av (by kernel_rfl) (by kernel_rfl) (h40.ev rfl) (S38.cellsOf (i:=0) rfl 1 13)) fun _ h41=>?_;refine aV h41 (wn rfl) (aq (fun _ _=>by kernel_rfl) (h41.evs rfl) rfl) rfl rfl S38 (ir _ _) fun _ _ h42 S42=>?_
   refine sv h42 (cN (h42.ev rfl)) fun _ h43=>?_;refine mv h43 rfl rfl fun _ h44=>?_;apply eh (x:=!(yV (l.drop (q.j+1)) l[q.j].e.t)) h44 S42 45 rfl 3 48
   case hf=>
    intro gc45;refine sy h44 rfl rfl rfl gc45 (aj (h44.ev rfl)) rfl rfl fun _ h45=>?_;refine sy h45 rfl rfl rfl gc45 (cN (h45.ev rfl)) rfl rfl fun _ h46=>?_;refine sv h46 (aG (h46.ev rfl) gc45 (h46.ev rfl)) fun _ h47=>?_;exact ae ⟨h47.mid (m:=[(_,_),(_,_)]) rfl,S42⟩
   case ht=>
    intro gc45;refine no h44 rfl rfl rfl gc45 rfl rfl fun _ h48=>?_;refine no h48 rfl rfl rfl gc45 rfl rfl fun _ h49=>?_;refine sv h49 (aA (h49.ev rfl) gc45 (h49.ev rfl)) fun _ h50=>?_;exact ae ⟨h50.mid (m:=[(_,_),(_,_)]) rfl,S42⟩
   case h=>
    rintro a51 X51 ⟨h51,S51⟩
    refine ae (aa ?_);refine aB (h51.ev rfl) (fun hc2=>?_) (fun hc2=>?_)
    ·
     have hno:¬(du l[q.j].e&&yV (l.drop (q.j+1)) l[q.j].e.t)=true:=fun h=>by
      obtain⟨u1,u2⟩:=Bool.and_eq_true_iff.1 h;rw[u1,u2] at hc2;cases hc2
     rw[if_neg hno] at hun;refine wp_exit ?_;refine ar ?_;refine bz ?_;refine aa (ag ?_);refine sv h51 (a7 (h51.ev rfl) (h51.ev rfl) (by omega)) fun _ h52=>?_;refine mv h52 rfl rfl fun _ h53=>?_;refine ae (aa ?_);exact⟨⟨q.j+1,q.p,q.n⟩,(by show l.length-(q.j+1)<l.length-q.j;omega),⟨hlt,hun,hpo,hple,hn0,by show q.n≤((q.j+1:Nat):Int);omega,hfo⟩,h53.re ⟨rfl,rfl,rfl,rfl,rfl,rfl,trivial⟩,S51.sub (.cons _ (.cons_cons _ (.cons_cons _ .slnil)))⟩
    ·
     obtain⟨u1,u2⟩:=Bool.or_eq_false_iff.1 hc2
     have hyes:(du l[q.j].e&&yV (l.drop (q.j+1)) l[q.j].e.t)=true:=by rw[Bool.and_eq_true];exact⟨by simpa using u1,by simpa using u2⟩
     rw[if_pos hyes] at hun;obtain⟨qq,hqq,hqf⟩:=sI (hfo _ (List.getElem_mem hlt)) (by simpa using u1);refine wp_skip (aa (ab (ag ?_)));refine mv h51 rfl rfl fun _ h54=>?_;refine vf h54 1 1 rfl rfl rfl fun _ h55=>?_;refine vf h55 4 5 rfl rfl rfl fun _ h56=>?_;refine vl h56 S51 0 rfl rfl rfl rfl fun _ h57=>?_;refine aV h57 (wn rfl) (aq (fun _ _=>by kernel_rfl) (h57.evs rfl) rfl) rfl rfl S51 (hple▸rn q.p hpo.srt hkk A27 c27 l[q.j].e.g hxg _ (S51.rdOf (i:=1) rfl) (by have:=hpo.n;omega)) fun _ _ h58 S58=>?_;refine ma h58 rfl rfl fun _ h59=>?_;obtain⟨b',o',rfl,qk,q1,q2,q3⟩:=l5 hpo.srt (S58.rdOf (i:=1) rfl) (nw hpo.srt (S58.rdOf (i:=1) rfl) hqq);obtain rfl:o'=0:=oO (S58.at_ (i:=1) rfl);rw[Nat.zero_add] at q3;generalize hZ Pgp.g q.p l[q.j].e.g=k at qk q1 q2 q3
     have hq9:qq=q.p[k]:=by rw[q2] at hqq;injection hqq with e;exact e.symm
     subst hq9;rw[q2] at hun;simp only[] at hun;have h512:=(hpo.all k qk).b
     have hone:ia q.p[k].b l[q.j].e.o=(cp q.p[k].b l[q.j].e.o):=by unfold ia;rw[if_neg (fun h=>h (by unfold cA;rw[h512];rfl))]
     refine ae (aa (ab ?_));apply bq h59 [false,false,false,false,false,false,false,false,false,false,false,false] _ (by kernel_rfl)
     case h=>
      refine qv h59 (fun X hX=>a8 (v':=.pointer (some ⟨b',k*3,none⟩)) (congrArg Value.pointer q3) (aj (h59.ev rfl))) fun _ h60=>?_;refine qv h60 (fun X hX=>a6 (h60.ev rfl)) fun _ h61=>?_;refine qv h61 (fun X hX=>ai (off:=2) (by kernel_rfl) (h61.ev rfl) rfl) fun _ h62=>?_;refine qv h62 (fun X hX=>ao (by kernel_rfl) (h62.ev rfl) (by have:=(ba bW ((S58.grow hX).rdOf (i:=1) rfl) qk) 2 _ rfl;rw[Nat.zero_add] at this;exact this)) fun _ h63=>?_;refine qv h63 (fun X hX=>ai (off:=1) (j:=1) (by kernel_rfl) (h63.ev rfl) rfl) fun _ h64=>?_;refine qv h64 (fun X hX=>ai (off:=6) (j:=7) (by kernel_rfl) (h64.ev rfl) rfl) fun _ h65=>?_;refine qv (v:=gZ l[q.j].e.o) h65 (fun X hX=>av (by kernel_rfl) (by kernel_rfl) (h65.ev rfl) ((S58.grow hX).cellsOf (i:=0) rfl 7 6)) fun _ h66=>?_;refine dS h66 (wn rfl) rfl rfl (fun X=>(aq (fun _ _=>by kernel_rfl) (h66.evs rfl) rfl)) (fun X hX=>qI q.p[k].b l[q.j].e.o _ (by rw[h512];decide) hxe.o hxe.n) fun _ h67=>?_;refine qv h67 (fun X hX=>aj (h67.ev rfl)) fun _ h68=>?_;refine qv h68 (fun X hX=>bI (h68.ev rfl) rfl) fun _ h69=>?_;refine qv h69 (fun X hX=>bI (h69.ev rfl) rfl) fun _ h70=>?_;refine qv h70 (fun X hX=>gv (h70.ev rfl)) fun _ h71=>?_;refine aH ?_;refine bE fun _ hX72 hΦ72=>?_;have S72:=S58.grow hX72;refine ma h71 rfl rfl fun _ h73=>?_;rw[hone] at h73;obtain⟨S9,hS9⟩:∃S9,S9=if ((cp q.p[k].b l[q.j].e.o).2==0&&!q.p[k].f)=true then qP (cp q.p[k].b l[q.j].e.o).1 l[q.j].l else (cp q.p[k].b l[q.j].e.o).1:=⟨_,rfl⟩;refine ae (aa (ab (ab (ag ?_))));refine mv h73 rfl rfl fun _ h74=>?_;refine sv h74 (aW (h74.ev rfl) (h74.ev rfl)) fun _ h75=>?_;refine mv h75 rfl rfl fun _ h76=>?_;apply cQ (x:=!q.p[k].f) h76 S72 67 rfl 6 73
      case ht=>
       intro gc67;refine sy h76 rfl rfl rfl gc67 (a8 (v':=.pointer (some ⟨b',k*3,none⟩)) (congrArg Value.pointer q3) (aj (h76.ev rfl))) rfl rfl fun _ h77=>?_;refine sy h77 rfl rfl rfl gc67 (a6 (h77.ev rfl)) rfl rfl fun _ h78=>?_;refine sy h78 rfl rfl rfl gc67 (ai (off:=1) (by kernel_rfl) (h78.ev rfl) rfl) rfl rfl fun _ h79=>?_;refine sy h79 rfl rfl rfl gc67 (ao (by kernel_rfl) (h79.ev rfl) (by have:=(ba bW (S72.rdOf (i:=1) rfl) qk) 1 _ rfl;rw[Nat.zero_add] at this;exact this)) rfl rfl fun _ h80=>?_;refine sy h80 rfl rfl rfl gc67 (cN (h80.ev rfl)) rfl rfl fun _ h81=>?_;refine sv h81 (aA (h81.ev rfl) gc67 (h81.ev rfl)) fun _ h82=>?_;exact ae ⟨h82.mid (m:=[(_,_),(_,_),(_,_),(_,_),(_,_)]) rfl,S72⟩
      case hf=>
       intro gc67;refine no h76 rfl rfl rfl gc67 rfl rfl fun _ h83=>?_;refine no h83 rfl rfl rfl gc67 rfl rfl fun _ h84=>?_;refine no h84 rfl rfl rfl gc67 rfl rfl fun _ h85=>?_;refine no h85 rfl rfl rfl gc67 rfl rfl fun _ h86=>?_;refine no h86 rfl rfl rfl gc67 rfl rfl fun _ h87=>?_;refine sv h87 (aG (h87.ev rfl) gc67 (h87.ev rfl)) fun _ h88=>?_;exact ae ⟨h88.mid (m:=[(_,_),(_,_),(_,_),(_,_),(_,_)]) rfl,S72⟩
      case h=>
       rintro a89 X89 ⟨h89,S89⟩
       refine ae (aa ?_);refine ff h89 S89 [(14,.string S9),(15,.int .i64 (cp q.p[k].b l[q.j].e.o).2)] [73,67,66,65,64,63,54,62,61,60,59,58,57,56,55,13,53,52,51,50,49,48,45,44,43,42,41,12,40,39,38,37,36,35,10,11,34,33,32,31,30,9,29,28,8,0] ?_ (fun _ _ h90 S90=>?_)
       ·
        refine aB (h89.ev rfl) (fun hc3=>?_) (fun hc3=>?_)
        ·
         have hT0:(cp q.p[k].b l[q.j].e.o).2=0:=by simpa using (Bool.and_eq_true_iff.1 hc3).1
         have hT5:=lN h512 hT0
         have hw0:Ac (cp q.p[k].b l[q.j].e.o).1 l[q.j].l=0:=by
          unfold Ac;rw[bu];simp only[List.mem_cons,List.not_mem_nil,or_false,forall_eq_or_imp,forall_eq];exact⟨by unfold cA;rw[hT5];rfl,(bD (by decide)).2 (inB_true.2 ⟨by omega,by omega⟩)⟩
         refine ag ?_;refine mv h89 rfl rfl fun _ h91=>?_;refine vf h91 0 0 rfl rfl rfl fun _ h92=>?_;refine vl h92 S89 0 rfl rfl rfl rfl fun _ h93=>?_;refine aV h93 (wn rfl) (aq (fun _ _=>by kernel_rfl) (h93.evs rfl) rfl) rfl rfl S89 (pk (cp q.p[k].b l[q.j].e.o).1 l[q.j].l _ (by rw[hT5];decide)) fun _ _ h94 S94=>?_;refine mv h94 rfl rfl fun _ h95=>?_;refine vx h95 rfl rfl rfl fun _ h96=>?_;refine vx h96 rfl rfl rfl fun _ h97=>?_;refine ma h97 rfl rfl fun _ h98=>?_;refine ma h98 rfl rfl fun _ h99=>?_;refine ae (aa ?_);rw[show(if Ac (cp q.p[k].b l[q.j].e.o).1 l[q.j].l=0 then yO (cp q.p[k].b l[q.j].e.o).1 l[q.j].l else ⟨#[]⟩)=S9 by rw[hS9,if_pos hw0,if_pos hc3];rfl,show Ac (cp q.p[k].b l[q.j].e.o).1 l[q.j].l=(cp q.p[k].b l[q.j].e.o).2 by rw[hw0,hT0]] at h99;exact⟨h99.re ⟨rfl,rfl,rfl,rfl,rfl,rfl,rfl,rfl,rfl,rfl,rfl,rfl,rfl,rfl,rfl,rfl,rfl,rfl,rfl,rfl,rfl,rfl,rfl,rfl,rfl,rfl,rfl,rfl,rfl,rfl,rfl,rfl,rfl,rfl,rfl,rfl,rfl,rfl,rfl,rfl,rfl,rfl,rfl,rfl,rfl,rfl,rfl,rfl,trivial⟩,S94⟩
        ·
         refine wp_skip (aa ?_);replace h89:=Has.also h89 (t:=14) (v:=.string S9) ((show look _ 14=some (.string (cp q.p[k].b l[q.j].e.o).1) from rfl).trans (by rw[hS9,if_neg (by rw[hc3];decide)]));exact⟨h89.re ⟨rfl,rfl,rfl,rfl,rfl,rfl,rfl,rfl,rfl,rfl,rfl,rfl,rfl,rfl,rfl,rfl,rfl,rfl,rfl,rfl,rfl,rfl,rfl,rfl,rfl,rfl,rfl,rfl,rfl,rfl,rfl,rfl,rfl,rfl,rfl,rfl,rfl,rfl,rfl,rfl,rfl,rfl,rfl,rfl,rfl,rfl,rfl,rfl,trivial⟩,S89⟩
       ·
        refine aa (ab (ab (ag ?_)));refine mv h90 rfl rfl fun _ h100=>?_;refine sv h100 (bc (h100.ev rfl) (h100.ev rfl)) fun _ h101=>?_;refine ae (aa ?_);refine aB (h101.ev rfl) (fun hc4=>?_) (fun hc4=>?_)
        ·
         have he:(cp q.p[k].b l[q.j].e.o).2≠0:=by simpa using hc4
         rw[if_pos he] at hun;refine ab (ag ?_);refine mv h101 rfl rfl fun _ h102=>?_;refine ma h102 rfl rfl fun _ h103=>?_;refine ma h103 rfl rfl fun _ h104=>?_;refine ma h104 rfl rfl fun _ h105=>?_;refine ae (aa (wp_ret (ak (aF (ak (ak (aF (ak ?_))))))));refine uX h105 rfl rfl rfl rfl ?_;refine⟨(none,0),by rw[e1,hun];(try rfl),?_⟩;rw[e1,hun];exact(S90.sub (List.nil_sublist _)).nilRow 111 3
        ·
         have he:(cp q.p[k].b l[q.j].e.o).2=0:=by simpa using hc4
         rw[if_neg (fun h=>h he)] at hun
         have hmk:AS q.p[k] (cp q.p[k].b l[q.j].e.o).1 l[q.j].l=S9:=by
          rw[hS9,he];unfold AS
          cases q.p[k].f<;>rfl
         have hT5:=lN h512 he
         have hs5:S9.size=512:=by
          rw[hS9]
          split
          · exact nj hT5
          · exact hT5
         rw[hmk] at hun;have hpo2:=sU hpo l[q.j].e.g S9 hs5;have hfl:=nL hpo.srt qk S9;rw[q1] at hfl;refine wp_skip (aa (ab (ag ?_)));refine sv h101 (a8 (v':=.pointer (some ⟨b',k*3,none⟩)) (congrArg Value.pointer q3) (aj (h101.ev rfl))) fun _ h106=>?_;refine mv h106 rfl rfl fun _ h107=>?_;refine sv h107 (a6 (h107.ev rfl)) fun _ h108=>?_;refine sv h108 (ai (off:=2) (by kernel_rfl) (h108.ev rfl) rfl) fun _ h109=>?_;refine fu h109 (wn rfl) ⟨rfl,rfl⟩ (h109.ev rfl) (h109.ev rfl) rfl (by kernel_rfl) S90 (i:=1) rfl rfl (by show k*3+2+1≤p.length*3;omega) fun _ S110=>?_;refine ae (aa (ag ?_));refine mv h109 rfl rfl fun _ h111=>?_;refine sv h111 (a7 (h111.ev rfl) (h111.ev rfl) (by omega)) fun _ h112=>?_;refine ma h112 rfl rfl fun _ h113=>?_;refine ae (aK (aa (ag ?_)));refine sv h113 (a7 (h113.ev rfl) (h113.ev rfl) (by omega)) fun _ h114=>?_;refine mv h114 rfl rfl fun _ h115=>?_;refine ae (aa ?_);exact⟨⟨q.j+1,fY q.p l[q.j].e.g S9,q.n+1⟩,(by show l.length-(q.j+1)<l.length-q.j;omega),⟨hlt,hun,hpo2,by rw[fa];exact hple,by show 0≤q.n+1;omega,by show q.n+1≤((q.j+1:Nat):Int);omega,fun x hx=>by rw[kC];exact hfo x hx⟩,h115.re ⟨rfl,rfl,rfl,rfl,rfl,rfl,trivial⟩,(by show St _ w _ [.row _ _ _ _ ((fY q.p l[q.j].e.g S9).flatMap cR),_];rw[hfl];exact(S110.sub (.cons _ (.cons_cons _ (.cons_cons _ .slnil)))))⟩
     case hB=>kernel_rfl
     case hst=>rfl
  ·
   have hge:l.length≤q.j:=by have:=of_decide_eq_false hc1;omega
   obtain⟨-,hun,hpo,hple,-,-,-⟩:=hF0;rw[List.drop_of_length_le hge,qG] at hun;refine wp_exit ?_;refine ar ?_;refine ar ?_;refine bz ?_;refine aa (ab (ag ?_));refine mv h26 rfl rfl fun _ h116=>?_;refine mv h116 rfl rfl fun _ h117=>?_;refine ma h117 rfl rfl fun _ h118=>?_;refine ma h118 rfl rfl fun _ h119=>?_;refine ma h119 rfl rfl fun _ h120=>?_;refine ae (aa (wp_ret ?_));refine uX h120 rfl rfl rfl rfl ?_;refine⟨(A27,c27),by rw[e1,hun,←hple];(try rfl),?_⟩;rw[e1,hun];show St [] w _ [.row (.slice A27 q.p.length c27) q.p.length _ _ _];rw[hple];exact(S25.sub (.cons_cons _ (.cons _ .slnil)))
end Go.Proofs.YtcfdpfmchchkaaaGreatDoor
