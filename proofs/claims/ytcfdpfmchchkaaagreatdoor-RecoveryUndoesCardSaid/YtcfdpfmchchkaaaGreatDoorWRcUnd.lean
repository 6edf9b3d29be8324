/- Chapter 22 -/
import Derived.Test.YtcfdpfmchchkaaaGreatDoorRcS3
namespace Go.Proofs.YtcfdpfmchchkaaaGreatDoor
set_option maxHeartbeats 1000000
set_option maxRecDepth 4000
set_option linter.all false
open Go.RowKit Go.Sort Go.Shelf
theorem fP {B b:Nat} {T a:TypeId} {sz n:Nat} {v:Value} {xs:List Value} (f:T≠a) {X X':World} (h:X.ownsRow B T sz v n xs) (d:Grw (j9 b a) X X'):X'.ownsRow B T sz v n xs:=by
 obtain⟨c,h3⟩:=h;refine⟨c,?_⟩;rcases h3 with h3 | ⟨g,cap,cur,e1,e2,e3,e4⟩
 · exact .inl h3
 · refine .inr ⟨g,cap,cur,e1,e2,(d.block g (Array.getElem?_eq_some_iff.1 e3).1 ?_).trans e3,e4⟩
   rintro ⟨_,cs,fr,e⟩
   rw[e3] at e;injection e with e;injection e with _ e;exact f e
theorem zz1 {ι:Type} {φ:ι→Value} {R:ι→World→Prop} {B:Nat} {T:TypeId} (d:∀i X X',R i X→Grw (j9 B T) X X'→R i X') (v:Value) (X X':World) (h:TelI φ R v X) (a:Grw (j9 B T) X X'):TelI φ R v X':=by
 obtain⟨i,b,c⟩:=h;exact⟨i,b,d i X X' c a⟩
def RwN (T:TypeId) (sz n:Nat) (xs:List Value) (B:Nat) (i:Option Addr × Nat) (X:World):Prop:=X.ownsRow B T sz (.slice i.1 n i.2) n xs
theorem zz2 {T:TypeId} {sz n:Nat} {xs:List Value} {B:Nat} (i) (X X') (h:RwN T sz n xs B i X) (a:Below X.heap.size X X'):RwN T sz n xs B i X':=cV h a
theorem zz3 {T a:TypeId} {sz n:Nat} {xs:List Value} {B b:Nat} (d:T≠a) (i) (X X') (h:RwN T sz n xs B i X) (c:Grw (j9 b a) X X'):RwN T sz n xs B i X':=fP d h c
def RwT (t:Tbl) (B:Nat) (i:Option Addr × Nat × Option Addr × Nat) (X:World):Prop:=X.ownsRow B 116 4 (.slice i.1 t.ts.length i.2.1) t.ts.length (t.ts.flatMap bW)∧X.ownsRow B 124 3 (.slice i.2.2.1 t.ds.length i.2.2.2) t.ds.length (t.ds.flatMap cN)
theorem zz4 {t:Tbl} {B:Nat} (i) (X X') (h:RwT t B i X) (a:Below X.heap.size X X'):RwT t B i X':=⟨cV h.1 a,cV h.2 a⟩
theorem zz5 {t:Tbl} {B d:Nat} {a:TypeId} (e:116≠a) (b:124≠a) (i) (X X') (h:RwT t B i X) (c:Grw (j9 d a) X X'):RwT t B i X':=⟨fP e h.1 c,fP b h.2 c⟩
def Iv (r:RngP) (t:Tbl) (p:List Pgp) (i:(Option Addr × Nat) × Option Addr × Nat):Value:=.tuple #[bm (gZ r t p).1 i.1.1 i.1.2,.slice i.2.1 (gZ r t p).2.1.length i.2.2,ae (gZ r t p).2.2,ae (rp r t p)]
def RwU (r:RngP) (t:Tbl) (p:List Pgp) (B:Nat) (i:(Option Addr × Nat) × Option Addr × Nat) (X:World):Prop:=X.ownsRow B 177 3 (.slice i.1.1 (gZ r t p).1.rs.length i.1.2) (gZ r t p).1.rs.length (aW (gZ r t p).1.rs)∧X.ownsRow B 111 3 (.slice i.2.1 (gZ r t p).2.1.length i.2.2) (gZ r t p).2.1.length ((gZ r t p).2.1.flatMap bX)
theorem zz6 {r:RngP} {t:Tbl} {p:List Pgp} {B:Nat} (i) (X X') (h:RwU r t p B i X) (a:Below X.heap.size X X'):RwU r t p B i X':=⟨cV h.1 a,cV h.2 a⟩
theorem zz7 {r:RngP} {t:Tbl} {p:List Pgp} {B d:Nat} {a:TypeId} (e:177≠a) (b:111≠a) (i) (X X') (h:RwU r t p B i X) (c:Grw (j9 d a) X X'):RwU r t p B i X':=⟨fP e h.1 c,fP b h.2 c⟩
theorem zz0 {M:List Nat} {w0 w X:World} {L:List Ent} {b:Nat} {cs:Array Value} {T n m:TypeId} {a n1 d n2:Nat} {r s:Value} {g i:List Value} (h:St M w0 w L) (t:Below w.heap.size w X) (j:Box X b cs T) (hB:w.heap.size≤b) (l:X.ownsRow w.heap.size n a r n1 g) (o:X.ownsRow w.heap.size m d s n2 i) (q:n≠T) (p:m≠T) (f:m≠n):St M w0 X (.box b cs T::.row r n1 n a g::.row s n2 m d i::L):=
 St.add3 h (St.add2 h (h.add t (e:=.row _ _ _ _ _) (aZ o (Nat.zero_le _)) (fun k c=>o.lt k c)) (e2:=.row _ _ _ _ _) (aZ l (Nat.zero_le _)) (fun k c=>l.lt k c) (qt o l f)) (e3:=.box _ _ _) j (fun k c=>by cases c;exact⟨hB,j.lt⟩) (l7 l j q) (l7 o j p)
theorem Dm (t:Tbl) (A) (c) (B) (d) (b:Nat) (w:World) (hB:b≤w.heap.size) (hr:Rd w w.heap.size A (t.ts.flatMap bW)) (g:Rd w w.heap.size B (t.ds.flatMap cN)) (h:t.ts.length≤1000∧t.ds.length≤1000) :
 Calls Tryz.prog 16 #[cc t A c B d] w fun e a=>∃i,e=.returned (H4 t i)∧RwT t b i a∧Below w.heap.size w a:=
 (qV t A c B d w hr g h).mono fun e a ⟨i,f,S⟩=>⟨i,f,⟨aZ (S.ownB (i:=0) rfl) hB,aZ (S.ownB (i:=1) rfl) hB⟩,S.below⟩
theorem C6 (r:RngP) (A) (c) (d:Nat) (w:World) (hB:d≤w.heap.size) (hr:Rd w w.heap.size A (aW r.rs)) (a:r.rs.length≤1000) :
 Calls Tryz.prog 44 #[bm r A c] w fun e b=>∃i:Option Addr × Nat,e=.returned (bm r i.1 i.2)∧RwN 177 3 r.rs.length (aW r.rs) d i b∧Below w.heap.size w b:=
 (nO r A c w hr a).mono fun e b ⟨j,c',g,h,f⟩=>⟨(j,c'),g,aZ h hB,f⟩
theorem CK (l:List Pgp) (A) (c) (b:Nat) (w:World) (hB:b≤w.heap.size) (hr:Rd w w.heap.size A (l.flatMap bX)) (h:l.length≤1000) :
 Calls Tryz.prog 30 #[.slice A l.length c] w fun e a=>∃i,e=.returned (H7 l.length i)∧RwN 111 3 l.length (l.flatMap bX) b i a∧Below w.heap.size w a:=
 (rf l A c w hr h).mono fun e a ⟨j,c',f,g,d⟩=>⟨(j,c'),f,aZ g hB,d⟩
theorem F0 {r:RngP} {t:Tbl} {p:List Pgp} (h:mS r t p=0):rp r t p=yA r (cC r).1 t p∧gZ r t p=jf r (cC r).1 t p:=by
 have a:rp r t p=yA r (cC r).1 t p:=by unfold rp yA;rw[if_neg (fun q=>q h)];rfl
 refine⟨a,?_⟩;unfold gZ jf;rw[a];rfl
theorem Fv {r:RngP} {t:Tbl} {p:List Pgp} (h:mS r t p≠0):rp r t p=mS r t p∧gZ r t p=(eF,[],0):=by
 have a:rp r t p=mS r t p:=by unfold rp;rw[if_pos h]
 refine⟨a,?_⟩;unfold gZ;rw[if_pos (by rw[a];exact h)]
theorem tY {α:Type} {l:List Rcd} {j:Nat} {F:Upl→α→Upl × Int} (hF:∀s x,KP l j s→KP l j (F s x).1):∀(xs:List α) (s:Upl),KP l j s→KP l j (fI F s xs).1
 | [],s,h=>h
 | x::xs,s,h=>by
  rw[fI]
  split
  · exact h
  · exact tY hF xs _ (hF s x h)
theorem De {l:List Rcd} {j:Nat} {s:Upl} (h:KP l j s) (x:Lsr):KP l j (xr s x).1:=by
 unfold xr
 split
 · exact h.end_ _ _
 · exact h
theorem y8 {l:List Rcd}:∀(f:List Stp) (g:Nat→Int) (j:Nat) (s:Upl),(∀a∈f,a.r∈l∧cb a.r.e=true)→KP l j s→∃k,KP l k (jA oP g s f).1
 | [],g,j,s,_,h=>⟨j,h⟩
 | a::f,g,j,s,hs,h=>by
  rw[jA]
  split
  · exact⟨j,h⟩
  · rename_i d
    obtain⟨m,o⟩:=hs a List.mem_cons_self;refine y8 f _ (j+1) _ (fun b i=>hs b (List.mem_cons_of_mem _ i)) ?_;unfold oP at d ⊢
    split
    · rename_i n
      rw[if_pos n] at d
      split
      · rename_i c
        rw[if_pos c] at d;exact absurd c d
      · rename_i c
        exact De (h.cmp m o (Classical.not_not.1 c)) _
    · exact(De h _).mono (Nat.le_succ _)
theorem GV {l:List Rcd} {t:Tbl} {s:Upl} (h:KP l 0 s):∃k,KP l k (kz l t s).1:=by
 have b:KP l 0 (fI lC s (gN t.ts)).1:=tY (fun s x h=>by
  unfold lC
  split
  · exact h.end_ _ _
  · exact h) _ _ h
 obtain⟨k,c⟩:=y8 (iQ l t).1 (jo t.ts) 0 _ (fun a d=>⟨w4 l 100 _ a d,(Dz d).2.1⟩) b;unfold kz
 split
 · exact⟨0,b⟩
 · split
   · exact⟨k,c⟩
   · exact⟨k,tY (fun s x h=>by
      unfold jG
      split
      · exact h.end_ _ _
      · exact h) _ _ c⟩
theorem Cd {r:RngP} {l:List Rcd} {t:Tbl} {p:List Pgp} (h:KP l 0 ⟨r,p,0⟩):(jf r l t p).1.rs.length≤1000∧(jf r l t p).2.1.length≤1000:=by
 unfold jf
 split
 · exact⟨by decide,by decide⟩
 · obtain⟨k,a⟩:=GV (t:=t) h
   have Y:=a.ok.h.len;have Y:=a.po.n;exact⟨by show(kz l t ⟨r,p,0⟩).1.r.rs.length≤1000;omega,by show(kz l t ⟨r,p,0⟩).1.p.length≤1000;omega⟩
theorem lP (r:RngP) (hI:RngI r) (A) (E) (t:Tbl) (o) (G) (u) (D) (p:List Pgp) (B) (d) (w:World) (I:Rd w w.heap.size A (aW r.rs))
 (J:Rd w w.heap.size o (t.ts.flatMap bW)) (Q:Rd w w.heap.size u (t.ds.flatMap cN)) (Vd:p.length≤maxLen) (hp:Rd w w.heap.size B (p.flatMap bX)) (Wb:∀x∈p,I6 x.g∧x.b.size≤maxLen) (hF:FolT w) :
 bu 8 #[bm r A E,cc t o G u D,.slice B p.length d] w (.bool true):=by
 refine an (N:=106) Tryz.func8 rfl rfl rfl (fun _ Z=>?_);have U:=St.init w;refine aj (aq ?_);refine nb Z rfl rfl U fun b3 _ _ Qw Z U=>nb Z rfl rfl U fun b4 _ _ Qx Z U=>GO 6 ?_;intro _ h3;refine cQ h3 rfl U (vV _ (hF.below U.below)) fun _ _ Z U=>?_;refine GO 3 ?_;intro _ Z;refine mU (Z.ev rfl) (rfl) ?_;refine wp_skip (ai (aj (aj (aq ?_))));refine sv (v:=bm r A E) Z (ah aa aa (Z.ev rfl) (U.cellsAll (i:=1) rfl)) fun _ Z=>?_;refine cQ Z rfl U (EI r A E _ (U.rd0 I)) fun _ _ Z U=>?_;refine GO 1 ?_;intro _ Z;refine GO 1 ?_;intro _ j;apply bI j U 22 rfl 4 26
 case hf=>
  intro Zf;refine aU (v:=cc t o G u D) j (ao j _ rfl rfl rfl Zf) (ah aa aa (j.ev rfl) (U.cellsAll (i:=0) rfl)) rfl rfl fun _ Z=>dO Z (ao Z _ rfl rfl rfl Zf) (aw a6 (Z.evs rfl) rfl) rfl rfl U (Ac t o G u D _) fun _ _ Z U=>GO 2 ?_;intro _ Z;exact ag ⟨Z.midE 3,U⟩
 case ht=>
  intro Zf;refine GO 4 ?_;intro _ Z;exact ag ⟨Z.midE 3,U⟩
 case h=>
  rintro Vw Qy ⟨Qz,Zt⟩
  refine GO 1 ?_;intro _ Z;apply bI Z Zt 27 rfl 4 31
  case hf=>
   intro Zl;refine GO 1 ?_;intro _ Z;refine dO Z (ao Z _ rfl rfl rfl Zl) (aw a6 (Z.evs rfl) rfl) rfl rfl Zt (xw p B d _ (Zt.rd0 hp) Vd) fun _ _ Z U=>GO 2 ?_;intro _ Z;exact ag ⟨Z.midE 3,U⟩
  case ht=>
   intro Zl;refine GO 4 ?_;intro _ Z;exact ag ⟨Z.midE 3,Zt⟩
  case h=>
   rintro Vu P ⟨Zu,s⟩
   refine ag (ai ?_);refine ak (Zu.ev rfl) (fun Qf=>?_) (fun Qf=>?_)
   ·
    refine GO 7 ?_;intro _ Z;refine aC Z rfl rfl ?_
    exact⟨by first | rfl | simp,s.below⟩
   ·
    obtain⟨Vc,u3⟩:=Bool.or_eq_false_iff.1 Qf;obtain⟨u1,u2⟩:=Bool.or_eq_false_iff.1 Vc;have M:=GR (r:=r) (al u1);have Vv:t.ts.length≤62∧t.ds.length≤62:=al u2;have Vr:=EK (l:=p) (al u3);refine wp_skip (ai (aj ?_));apply eG Zu (fun _=>False) [] [(13,73)] [false,true,false,true,false,true,true,true,true,true,true,true,true,true,true,true] _ aa bG
    case h=>
     refine qv (v:=bm r A E) Zu (fun X c=>ah aa aa (Zu.ev rfl) ((s.grow (Grw.below c)).cellsAll (i:=1) rfl)) fun _ Z=>?_;refine qv (v:=cc t o G u D) Z (fun X c=>ah aa aa (Z.ev rfl) ((s.grow (Grw.below c)).cellsAll (i:=0) rfl)) fun _ Qg=>?_;refine GO 2 ?_;intro _ Z;apply cE (O:=fun _=>False) (k:=1) (deps:=[]) (R:=TelI (fun i=>bm r i.1 i.2) (RwN 177 3 r.rs.length (aW r.rs) P.heap.size)) Z rfl rfl rfl bG (TelI.stable zz2) bG (ia (zz1 (zz3 au)))
     case hx=>exact fun _ c a=>ql (aw a6 (Z.evs rfl) rfl) (C6 r A E P.heap.size _ c.size ((s.grow (Grw.below c)).rd0 I) M)
     intro Vm _ Z;apply cE (O:=fun _=>False) (k:=3) (deps:=[]) (R:=TelI (H4 t) (RwT t P.heap.size)) Z rfl rfl rfl bG (TelI.stable zz4) bG (ia (zz1 (zz5 au au)))
     case hx=>exact fun _ c a=>ql (aw a6 (Z.evs rfl) rfl) (Dm t o G u D P.heap.size _ c.size ((s.grow (Grw.below c)).rd0 J) ((s.grow (Grw.below c)).rd0 Q) ab)
     intro Vl _ Z;apply cE (O:=fun _=>False) (k:=5) (deps:=[]) (R:=TelI (H7 p.length) (RwN 111 3 p.length (p.flatMap bX) P.heap.size)) Z rfl rfl rfl bG (TelI.stable zz2) bG (ia (zz1 (zz3 au)))
     case hx=>exact fun _ c a=>ql (aw a6 (Z.evs rfl) rfl) (CK p B d P.heap.size _ c.size ((s.grow (Grw.below c)).rd0 hp) ab)
     intro Vt _ Z;apply cE (O:=fun _=>False) (k:=6) (deps:=[1,3,5]) (R:=TelI (Iv r t p) (RwU r t p P.heap.size)) Z rfl rfl rfl bG (TelI.stable zz6) bG (ia (zz1 (zz7 au au)))
     case hx=>exact fun _ c a=>(by obtain⟨i1,rfl,g1⟩:=(aM (k:=1) a rfl rfl);obtain⟨i2,rfl,g2,g3⟩:=(aM (k:=3) a rfl rfl);obtain⟨i3,rfl,g4⟩:=(aM (k:=5) a rfl rfl);exact ql (aw a6 (Z.evs rfl) rfl) ((tZ r i1.1 i1.2 t i2.1 i2.2.1 i2.2.2.1 i2.2.2.2 p i3.1 i3.2 _ (Rd.of_own g1) (Rd.of_own g2) (Rd.of_own g3) (Rd.of_own g4) M (fun x hx=>(hI.rs x hx).1) (fun x hx=>(hI.rs x hx).2.2) ab (hF.below (s.grow (Grw.below c)).below)).mono fun e w' ⟨i,he,S⟩=>⟨i,he,⟨aZ (S.ownB (i:=0) rfl) c.size,aZ (S.ownB (i:=1) rfl) c.size⟩,S.below⟩))
     intro Wc _ L;apply jh (k:=7) (deps:=[1,3,5,6]) (kx:=6) (src:=39) L rfl (.inl rfl) rfl rfl ⟨rfl,rfl⟩ rfl;intro Vo _ Zv;apply gP (k:=8) (deps:=[1,3,5,6,7]) (kx:=7) (src:=32) (i:=0) Zv rfl rfl rfl rfl ⟨rfl,rfl⟩ rfl
     case hx=>
      intro X a;obtain⟨_,C,_⟩:=aM (k:=6) a rfl rfl;exact⟨_,_,(MovS.get L rfl (aM (k:=7) a rfl rfl)).trans C,rfl⟩
     intro Vy _ Qh;apply gP (k:=9) (deps:=[1,3,5,6,7]) (kx:=7) (src:=32) (i:=1) Qh rfl rfl rfl rfl ⟨rfl,rfl⟩ rfl
     case hx=>
      intro X a;obtain⟨_,C,_⟩:=aM (k:=6) a rfl rfl;exact⟨_,_,(MovS.get L rfl (aM (k:=7) a rfl rfl)).trans C,rfl⟩
     intro Vq _ Qi;apply gP (k:=10) (deps:=[1,3,5,6,7]) (kx:=7) (src:=32) (i:=2) Qi rfl rfl rfl rfl ⟨rfl,rfl⟩ rfl
     case hx=>
      intro X a;obtain⟨_,C,_⟩:=aM (k:=6) a rfl rfl;exact⟨_,_,(MovS.get L rfl (aM (k:=7) a rfl rfl)).trans C,rfl⟩
     intro Vz _ Qj;apply gP (k:=11) (deps:=[1,3,5,6,7]) (kx:=7) (src:=32) (i:=3) Qj rfl rfl rfl rfl ⟨rfl,rfl⟩ rfl
     case hx=>
      intro X a;obtain⟨_,C,_⟩:=aM (k:=6) a rfl rfl;exact⟨_,_,(MovS.get L rfl (aM (k:=7) a rfl rfl)).trans C,rfl⟩
     intro Vn _ Z;apply cE (O:=fun _=>False) (k:=12) (deps:=[]) (R:=NewAny _ 9 _) Z rfl rfl rfl bG NewAny.stable bG (ia NewAny.newT)
     case hx=>exact fun _ c a=>kN (dV (z:=.agg gU) aa) c.size rfl
     intro v7 _ V;apply gF (k:=13) (deps:=[1,3,5,6,7,8,12]) (kx:=12) (x:=7) (y:=40) (Y:=vo 40) V rfl ⟨rfl,rfl⟩ rfl bG ⟨rfl,rfl⟩ (V.slot 40 _ rfl) (sB (ky:=8) ⟨rfl,rfl⟩) rfl rfl (n:=9) aa bG
     case hx=>
      intro X c a;obtain⟨_,C,_⟩:=(aM (k:=6) a rfl rfl);subst C;obtain rfl:=MovS.get L rfl (aM (k:=7) a rfl rfl);obtain rfl:=ExtS.get Zv rfl rfl (aM (k:=8) a rfl rfl);exact⟨(aM (k:=12) a rfl rfl),rfl,rfl⟩
     intro Jy;apply jh (k:=14) (deps:=[1,3,5,6,7,9]) (kx:=9) (src:=41) V rfl (.inr rfl) rfl rfl ⟨rfl,rfl⟩ rfl;intro v8 _ Qk;apply jh (k:=15) (deps:=[1,3,5,6,7,10]) (kx:=10) (src:=42) Qk rfl (.inr rfl) rfl rfl ⟨rfl,rfl⟩ rfl;intro v9 _ Z;refine iA (O:=fun _=>False) bG fun _ Zw F=>?_;have Jx:=aD F (k:=6) rfl;obtain⟨⟨⟨A9,c9⟩,A8,c8⟩,rfl,g9,g8⟩:=Jx;obtain rfl:=MovS.get L rfl (aD F (k:=7) rfl);obtain rfl:=ExtS.get Zv rfl rfl (aD F (k:=8) rfl);obtain rfl:=ExtS.get Qh rfl rfl (aD F (k:=9) rfl);obtain rfl:=ExtS.get Qi rfl rfl (aD F (k:=10) rfl);obtain rfl:=ExtS.get Qj rfl rfl (aD F (k:=11) rfl);obtain⟨b7,rfl,Qm,Vb⟩:=StoY.slot (v:=Jy) V rfl rfl (aD F (k:=13) rfl);obtain rfl:=MovS.get V rfl (aD F (k:=14) rfl);obtain rfl:=MovS.get Qk rfl (aD F (k:=15) rfl);have U:=zz0 s (Grw.below Zw) Vb Qm g9 g8 au au au;refine GO 5 ?_;intro _ Z;refine sv (v:=bm r A E) Z (ah aa aa (Z.ev rfl) (U.cellsAll (i:=4) rfl)) fun _ Z=>?_;refine cT Z (wn rfl) (aw a6 (Z.evs rfl) rfl) rfl rfl U (ua r A E _ (U.rd0 I) M (fun x hx=>(hI.rs x hx).1) (fun x hx=>(hI.rs x hx).2.2)) fun H _ _ Z T=>GO 16 ?_;intro _ K;refine dY K T [(13,ae (av [(cC r).2.2,cZ t]))] [11,10,9,8,7,6,4,3,2] ?_ (fun _ _ Z Zn=>?_)
     ·
      refine ak (K.ev rfl) (fun Zx=>?_) (fun Zx=>?_)
      ·
       refine aq ?_;refine sv (v:=cc t o G u D) K (ah aa aa (K.ev rfl) (T.cellsAll (i:=4) rfl)) fun _ Z=>?_;refine cQ Z rfl T (lE t o G u D _ (T.rd0 J) (T.rd0 Q)) fun _ _ Z U=>?_;refine GO 3 ?_;intro _ Ql;have Z:(cC r).2.2=0:=al Zx;rw[show cZ t=av [(cC r).2.2,cZ t] by rw[Z];by_cases j:cZ t=0<;>simp[av,j]] at Ql;exact⟨Ql.re bC,U⟩
      ·
       refine wp_skip (ai ?_);have Z:(cC r).2.2≠0:=al Zx;replace K:=Has.also K (t:=13) (v:=ae (av [(cC r).2.2,cZ t])) ((show look _ 13=some (ae (cC r).2.2) from rfl).trans (by simp[av,Z]));exact⟨K.re bC,T⟩
     ·
      refine GO 8 ?_;intro _ Zo;refine dY Zo Zn [(13,ae (mS r t p))] [11,10,9,8,7,6,4,3,2] ?_ (fun _ _ Z U=>?_)
      ·
       refine ak (Zo.ev rfl) (fun Zy=>?_) (fun Zy=>?_)
       ·
        refine GO 3 ?_;intro _ Z;refine cQ Z rfl Zn (sj (cC r).1 p H.1 H.2 B d _ (Zn.rdOf (i:=0) rfl) (Zn.rd0 hp) (by have:=tS r;omega) ab) fun _ _ Z U=>?_;refine GO 3 ?_;intro _ Zz;have h3:av [(cC r).2.2,cZ t]=0:=al Zy
        have Qg:(cC r).2.2=0:=by rw[aN] at h3;exact h3 _ bw
        have Z:cZ t=0:=by rw[aN] at h3;exact h3 _ bw
        replace Zz:=Has.also Zz (t:=13) (v:=ae (mS r t p)) ((show look _ 13=some (ae (ik (cC r).1 p)) from rfl).trans (by unfold mS;rw[Qg,Z];by_cases j:ik (cC r).1 p=0<;>simp[av,j]));exact⟨Zz.re bC,U⟩
       ·
        refine wp_skip (ai ?_);have h3:av [(cC r).2.2,cZ t]≠0:=al Zy
        replace Zo:=Has.also Zo (t:=13) (v:=ae (mS r t p)) ((show look _ 13=some (ae (av [(cC r).2.2,cZ t])) from rfl).trans (by
         unfold mS;by_cases j:(cC r).2.2=0
         · rw[j] at h3 ⊢
           have Z:cZ t≠0:=fun q=>h3 (by rw[q];rfl);simp[av,Z]
         · simp[av,j]))
        exact⟨Zo.re bC,Zn⟩
      ·
       refine GO 8 ?_;intro _ Z;refine ak (Z.ev rfl) (fun Qa=>?_) (fun Qa=>?_)
       ·
        have hne:mS r t p≠0:=al Qa;obtain⟨y1,y2⟩:=Fv hne;rw[y1,y2] at Z U;refine GO 6 ?_;intro _ Z;apply a8 Z U 64 rfl 4 68
        case ht=>
         intro Zd;refine aU (v:=bm eF A9 c9) Z (ao Z _ rfl rfl rfl Zd) (ah aa aa (Z.ev rfl) (U.cellsAll (i:=1) rfl)) rfl rfl fun _ Z=>aU (v:=bm eF none 0) Z (ao Z _ rfl rfl rfl Zd) (az (zs:=pk) (pl:=pr) aa aa (Z.evs2 rfl) rfl rfl) rfl rfl fun _ Z=>dO Z (ao Z _ rfl rfl rfl Zd) (aw a6 (Z.evs rfl) rfl) rfl rfl U (tB eF eF A9 none c9 0 _ (U.rdOf (i:=2) rfl) (Rd.nil _ _ _) au au) fun _ _ Z U=>GO 1 ?_;intro _ Z;exact ag ⟨Z.midE 3,U⟩
        case hf=>
         intro Zd;refine GO 4 ?_;intro _ Z;exact ag ⟨Z.midE 3,U⟩
        case h=>
         rintro Vx Ja ⟨Jb,Qb⟩
         refine GO 1 ?_;intro _ Z;apply a8 Z Qb 69 rfl 4 73
         case ht=>
          intro Qc;refine GO 4 ?_;intro _ Z;exact ag ⟨Z.midE 3,Qb⟩
         case hf=>
          intro Qc;refine GO 4 ?_;intro _ Z;exact ag ⟨Z.midE 3,Qb⟩
         case h=>
          rintro Wa Jc ⟨Jd,Qd⟩
          refine GO 1 ?_;intro _ Z;apply a8 Z Qd 74 rfl 3 77
          case ht=>
           intro Qe;refine GO 3 ?_;intro _ Z;exact ag ⟨Z.midE 2,Qd⟩
          case hf=>
           intro Qe;refine GO 3 ?_;intro _ Z;exact ag ⟨Z.midE 2,Qd⟩
          case h=>
           rintro Vh Qn ⟨Qo,Zp⟩
           refine GO 5 ?_;intro _ Z;refine aC Z rfl rfl ?_
           exact⟨by first | rfl | simp,Zp.below⟩
       ·
        have hz:mS r t p=0:=al Qa;obtain⟨y1,y2⟩:=F0 hz;have m:=hz;unfold mS at m;rw[aN] at m;have z1:=m (cC r).2.2 bw;have Vf:=tblE_zero.1 (m (cZ t) bw);obtain⟨g1,g2⟩:=um (m (ik (cC r).1 p) bw);obtain⟨W,Vg,Va⟩:=mY z1
        have Ve:(cC r).1=dM r.rs:=by rw[Va]
        have Jw:=(lf Vg).2;have Jv:∀x∈dM r.rs,FewE x.e:=mN;rw[←Ve] at Jw Jv;rw[y1,y2] at Z U;obtain⟨Jz,Vp⟩:=Cd (t:=t) (⟨W,g1,g2,Int.le_refl _,Int.le_refl _⟩:KP (cC r).1 0 ⟨r,p,0⟩);refine wp_skip (ai (aj (aq ?_)));refine sv (v:=bm r A E) Z (ah aa aa (Z.ev rfl) (U.cellsAll (i:=5) rfl)) fun _ Z=>?_;refine GO 1 ?_;intro _ Z;refine sv (v:=cc t o G u D) Z (ah aa aa (Z.ev rfl) (U.cellsAll (i:=4) rfl)) fun _ Z=>?_;refine GO 1 ?_;intro _ Z;refine cT Z (wn rfl) (aw a6 (Z.evs rfl) rfl) rfl rfl U (xm r A E (cC r).1 H.1 H.2 t o G u D p B d _ (U.rd0 I) (U.rdOf (i:=0) rfl) (U.rd0 J) (U.rd0 Q) (U.rd0 hp) (by have:=tS r;omega) Vf Jw Jv W g1 g2) fun f _ _ Z U=>GO 5 ?_;intro _ Z;refine na (.agg gU) Z rfl U fun Vs _ _ Qp Z U=>sw Z U 0 fun _ U=>?_;refine GO 11 ?_;intro _ Z;apply a8 Z U 91 rfl 4 95
        case ht=>
         intro Ze;refine aU (v:=bm (jf r (cC r).1 t p).1 A9 c9) Z (ao Z _ rfl rfl rfl Ze) (ah aa aa (Z.ev rfl) (U.cellsAll (i:=4) rfl)) rfl rfl fun _ Z=>aU (v:=bm (jf r (cC r).1 t p).1 f.1.1 f.1.2) Z (ao Z _ rfl rfl rfl Ze) (ah aa aa (Z.ev rfl) (U.cellsAll (i:=0) rfl)) rfl rfl fun _ Z=>dO Z (ao Z _ rfl rfl rfl Ze) (aw a6 (Z.evs rfl) rfl) rfl rfl U (tB (jf r (cC r).1 t p).1 (jf r (cC r).1 t p).1 A9 f.1.1 c9 f.1.2 _ (U.rdOf (i:=5) rfl) (U.rdOf (i:=1) rfl) Jz Jz) fun _ _ Z U=>GO 1 ?_;intro _ Z;exact ag ⟨Z.midE 3,U⟩
        case hf=>
         intro Ze;refine GO 4 ?_;intro _ Z;exact ag ⟨Z.midE 3,U⟩
        case h=>
         rintro Vk Qq ⟨Qr,Zb⟩
         refine GO 1 ?_;intro _ Z;apply a8 Z Zb 96 rfl 4 100
         case ht=>
          intro Zq;refine GO 2 ?_;intro _ Z;refine dO Z (ao Z _ rfl rfl rfl Zq) (aw a6 (Z.evs rfl) rfl) rfl rfl Zb (ya (jf r (cC r).1 t p).2.1 A8 c8 f.2.1 f.2.2 _ (Zb.rdOf (i:=6) rfl) (Zb.rdOf (i:=2) rfl) ab) fun _ _ Z U=>?_;refine GO 1 ?_;intro _ Z;exact ag ⟨Z.midE 3,U⟩
         case hf=>
          intro Zq;refine GO 4 ?_;intro _ Z;exact ag ⟨Z.midE 3,Zb⟩
         case h=>
          rintro Vi Qs ⟨Qt,Zj⟩
          refine GO 1 ?_;intro _ Z;apply a8 Z Zj 101 rfl 4 105
          case ht=>
           intro Zr;refine GO 4 ?_;intro _ Z;exact ag ⟨Z.midE 3,Zj⟩
          case hf=>
           intro Zr;refine GO 4 ?_;intro _ Z;exact ag ⟨Z.midE 3,Zj⟩
          case h=>
           rintro Vj Qu ⟨Qv,Zs⟩
           refine GO 4 ?_;intro _ Z;refine aC Z rfl rfl ?_
           exact⟨by first | rfl | simp,Zs.below⟩
    case hB=>kernel_rfl
end Go.Proofs.YtcfdpfmchchkaaaGreatDoor
