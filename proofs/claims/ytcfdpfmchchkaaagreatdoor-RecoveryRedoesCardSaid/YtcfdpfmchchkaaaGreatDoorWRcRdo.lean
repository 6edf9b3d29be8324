/-
  Chapter 22: the walk of RecoveryRedoes.
-/
import Derived.Test.YtcfdpfmchchkaaaGreatDoorRcQ0
namespace Go.Proofs.YtcfdpfmchchkaaaGreatDoor
set_option linter.unusedVariables false
set_option linter.unusedSimpArgs false
set_option maxRecDepth 4000
open Go.RowKit Go.Sort Go.Shelf
theorem uT (t:Tbl) (A:Option Addr) (c:Nat) (B:Option Addr) (d:Nat) (w:World) :
 Calls Tryz.prog 14 #[bW t A c B d] w fun e w'=>e=.returned (.bool (decide (t.ts.length≤62∧t.ds.length≤62)))∧Below w.heap.size w w':=by
 refine aD (N:=13) Tryz.func14 rfl rfl rfl (fun _ h0=>?_);have S0:=St.init w;refine ab (ah ?_);refine nb h0 rfl rfl S0 fun b1 _ _ gb1 h1 S1=>?_;refine ma h1 rfl rfl fun _ h2=>?_;refine ct ?_;refine vf h2 0 0 rfl rfl rfl fun _ h3=>?_;refine vl h3 S1 0 rfl rfl rfl rfl fun _ h4=>?_;refine sv h4 (a6 Tryz.underlying22 (h4.ev rfl)) fun _ h5=>?_;refine sv h5 (fo (h5.ev rfl) (h5.ev rfl)) fun _ h6=>?_;refine mv h6 rfl rfl fun _ h7=>?_;apply cz (x:=decide ((t.ds.length:Int)≤62)) h7 S1 7 rfl 5 12
 case ht=>
  intro gc7;refine sy h7 rfl rfl rfl gc7 (ai (off:=1) (j:=1) (by kernel_rfl) (h7.ev rfl) rfl) rfl rfl fun _ h8=>?_;refine sy h8 rfl rfl rfl gc7 (aq (by kernel_rfl) (h8.ev rfl) (S1.cell (i:=0) rfl rfl)) rfl rfl fun _ h9=>?_;refine sy h9 rfl rfl rfl gc7 (a6 Tryz.underlying23 (h9.ev rfl)) rfl rfl fun _ h10=>?_;refine sy h10 rfl rfl rfl gc7 (fo (h10.ev rfl) (h10.ev rfl)) rfl rfl fun _ h11=>?_;refine sv h11 (aA (h11.ev rfl) gc7 (h11.ev rfl)) fun _ h12=>?_;exact ae ⟨h12.mid (m:=[(_,_),(_,_),(_,_),(_,_)]) rfl,S1⟩
 case hf=>
  intro gc7;refine no h7 rfl rfl rfl gc7 rfl rfl fun _ h13=>?_;refine no h13 rfl rfl rfl gc7 rfl rfl fun _ h14=>?_;refine no h14 rfl rfl rfl gc7 rfl rfl fun _ h15=>?_;refine no h15 rfl rfl rfl gc7 rfl rfl fun _ h16=>?_;refine sv h16 (aG (h16.ev rfl) gc7 (h16.ev rfl)) fun _ h17=>?_;exact ae ⟨h17.mid (m:=[(_,_),(_,_),(_,_),(_,_)]) rfl,S1⟩
 case h=>
  rintro a18 X18 ⟨h18,S18⟩
  refine ma h18 rfl rfl fun _ h19=>?_;refine ae (aa (wp_ret ?_));refine bj h19 rfl rfl ?_;refine⟨?_,S18.below⟩
  have e:decide (t.ts.length≤62∧t.ds.length≤62)=(decide ((t.ts.length:Int)≤62)&&decide ((t.ds.length:Int)≤62)):=by
   rw[Bool.eq_iff_iff];simp;omega
  rw[e]
theorem yT {l:List Rcd} {t:Tbl} {p:List Pgp} (h:eV l t≠0):dZ l t p=([],0,eV l t):=by
 have e:ln l t p=eV l t:=by
  unfold eV at h;unfold ln eV;by_cases h1:(eQ l).2=0
  · by_cases h2:dy t=0
    · rw[h1,h2] at h;exact absurd rfl h
    · simp[aP,h1,h2]
  · simp[aP,h1]
 unfold dZ;rw[e,if_pos h]
theorem tN {l:List Rcd} {t:Tbl} {p:List Pgp} (h:eV l t=0):dZ l t p=if gq l p≠0 then ([],0,gq l p) else ed t p 0 l:=by
 have e:ln l t p=gq l p:=by
  unfold eV at h;rw[bu] at h;have h1:=h (eQ l).2 (by simp);have h2:=h (dy t) (by simp);unfold ln;rw[h1,h2]
  by_cases h3:gq l p=0<;>simp[aP,h3]
 unfold dZ;rw[e]
theorem tU {l:List Rcd} {t:Tbl} (h:eV l t≠0):gm l t=[]∧ly l t=eV l t:=by
 unfold gm ly;rw[if_neg h,if_neg h];exact⟨rfl,rfl⟩
theorem Bm {l:List Rcd} {t:Tbl} (h:eV l t=0):gm l t=qj l t∧ly l t=(jQ l t).2:=by
 unfold gm ly;rw[if_pos h,if_pos h];exact⟨rfl,rfl⟩
theorem jq (l:List Rcd) (A:Option Addr) (c:Nat) (t:Tbl) (TA:Option Addr) (tc:Nat) (TB:Option Addr) (td:Nat) (p:List Pgp) (B:Option Addr) (d:Nat) (w:World) (hll:l.length≤maxLen∧l.length≤c) (hr:Rd w w.heap.size A (l.flatMap cq)) (hxg:∀x∈l,mQ x.e∧I6 x.e.g)
 (ht1:Rd w w.heap.size TA (t.ts.flatMap cm)) (ht2:Rd w w.heap.size TB (t.ds.flatMap cD)) (hpl:p.length≤maxLen) (hp:Rd w w.heap.size B (p.flatMap bX)) (hpx:∀x∈p,I6 x.g∧x.b.size≤maxLen) (hF:FolT w) :
 Calls Tryz.prog 5 #[.slice A l.length c,bW t TA tc TB td,.slice B p.length d] w fun e w'=>e=.returned (.bool true)∧Below w.heap.size w w':=by
 refine aD (N:=145) Tryz.func5 rfl rfl rfl (fun _ h0=>?_);have S0:=St.init w;refine ab (ah ?_);refine nb h0 rfl rfl S0 fun b4 _ _ gb4 h1 S1=>?_;refine ma h1 rfl rfl fun _ h2=>?_;refine ae (aa (ab (ab (ah ?_))));refine aW h2 (wn rfl) (ao (fun _ _=>by kernel_rfl) (h2.evs rfl) rfl) rfl rfl S1 (vo _ (hF.below S1.below)) fun _ _ h3 S3=>?_;refine sv h3 (cg (h3.ev rfl)) fun _ h4=>?_;refine ae (aa ?_);refine iX (h4.ev rfl) (rfl) ?_;refine wp_skip (aa (ab (ab (ah ?_))));refine mv h4 rfl rfl fun _ h5=>?_;refine aW h5 (wn rfl) (ao (fun _ _=>by kernel_rfl) (h5.evs rfl) rfl) rfl rfl S3 (qH l A c _ (S3.rd0 hr) hll.1) fun _ _ h6 S6=>?_;refine sv h6 (cg (h6.ev rfl)) fun _ h7=>?_;refine mv h7 rfl rfl fun _ h8=>?_;apply dL (x:=!(decide (t.ts.length≤62∧t.ds.length≤62))) h8 S6 22 rfl 4 26
 case hf=>
  intro gc22;refine aQ (v:=bW t TA tc TB td) h8 (ag h8 _ rfl rfl rfl gc22) (ay (by kernel_rfl) (by kernel_rfl) (h8.ev rfl) (S6.cellsAll (i:=0) rfl)) rfl rfl fun _ h9=>?_;refine aW h9 (ag h9 _ rfl rfl rfl gc22) (ao (fun _ _=>by kernel_rfl) (h9.evs rfl) rfl) rfl rfl S6 (uT t TA tc TB td _) fun _ _ h10 S10=>?_;refine sy h10 rfl rfl rfl gc22 (cg (h10.ev rfl)) rfl rfl fun _ h11=>?_;refine sv h11 (aG (h11.ev rfl) gc22 (h11.ev rfl)) fun _ h12=>?_;exact ae ⟨h12.mid (m:=[(_,_),(_,_),(_,_)]) rfl,S10⟩
 case ht=>
  intro gc22;refine no h8 rfl rfl rfl gc22 rfl rfl fun _ h13=>?_;refine no h13 rfl rfl rfl gc22 rfl rfl fun _ h14=>?_;refine no h14 rfl rfl rfl gc22 rfl rfl fun _ h15=>?_;refine sv h15 (aA (h15.ev rfl) gc22 (h15.ev rfl)) fun _ h16=>?_;exact ae ⟨h16.mid (m:=[(_,_),(_,_),(_,_)]) rfl,S6⟩
 case h=>
  rintro a17 X17 ⟨h17,S17⟩
  refine mv h17 rfl rfl fun _ h18=>?_;apply dL (x:=!(sg p)) h18 S17 27 rfl 4 31
  case hf=>
   intro gc27;refine sy h18 rfl rfl rfl gc27 (aj (h18.ev rfl)) rfl rfl fun _ h19=>?_;refine aW h19 (ag h19 _ rfl rfl rfl gc27) (ao (fun _ _=>by kernel_rfl) (h19.evs rfl) rfl) rfl rfl S17 (sf p B d _ (S17.rd0 hp) hpl) fun _ _ h20 S20=>?_;refine sy h20 rfl rfl rfl gc27 (cg (h20.ev rfl)) rfl rfl fun _ h21=>?_;refine sv h21 (aG (h21.ev rfl) gc27 (h21.ev rfl)) fun _ h22=>?_;exact ae ⟨h22.mid (m:=[(_,_),(_,_),(_,_)]) rfl,S20⟩
  case ht=>
   intro gc27;refine no h18 rfl rfl rfl gc27 rfl rfl fun _ h23=>?_;refine no h23 rfl rfl rfl gc27 rfl rfl fun _ h24=>?_;refine no h24 rfl rfl rfl gc27 rfl rfl fun _ h25=>?_;refine sv h25 (aA (h25.ev rfl) gc27 (h25.ev rfl)) fun _ h26=>?_;exact ae ⟨h26.mid (m:=[(_,_),(_,_),(_,_)]) rfl,S17⟩
  case h=>
   rintro a27 X27 ⟨h27,S27⟩
   refine ae (aa ?_);refine aC (h27.ev rfl) (fun hc1=>?_) (fun hc1=>?_)
   ·
    refine ab (ah ?_);refine ma h27 rfl rfl fun _ h28=>?_;refine ae (aa (wp_ret (ak ?_)));refine bj h28 rfl rfl ?_
    first | exact⟨rfl,S27.below⟩ | exact⟨by simp,S27.below⟩
   ·
    obtain⟨u12,u3⟩:=Bool.or_eq_false_iff.1 hc1;obtain⟨u1,u2⟩:=Bool.or_eq_false_iff.1 u12;obtain⟨hl1,hxe⟩:=zZ (l:=l) (by simpa using u1)
    have htn:t.ts.length≤62∧t.ds.length≤62:=by simpa using u2
    have hpn:=Ah (l:=p) (by simpa using u3);have hx2:∀x∈l,FewE x.e∧I6 x.e.g:=fun x hx=>⟨hxe x hx,(hxg x hx).2⟩;refine wp_skip (aa (ab ?_));apply bq h27 [false,true,false,true,false,true,true,true,true,true,true,true,true] _ (by kernel_rfl)
    case h=>
     refine qv h27 (fun X hX=>aj (h27.ev rfl)) fun _ h29=>?_;refine qv (v:=bW t TA tc TB td) h29 (fun X hX=>ay (by kernel_rfl) (by kernel_rfl) (h29.ev rfl) ((S27.grow hX).cellsAll (i:=0) rfl)) fun _ h30=>?_;refine qv h30 (fun X hX=>aj (h30.ev rfl)) fun _ h31=>?_;refine aI ?_;apply ca (k:=1) (deps:=[]) (R:=TelI (xL l.length) (RdN l.length (l.flatMap cq))) h31 rfl rfl rfl (TelI.stable RdN.grow) (fun X hX hΦ=>jE (ao (fun _ _=>by kernel_rfl) (h31.evs rfl) rfl) (nX l A c _ ((S27.grow hX).rd0 hr) (by omega)));intro v34 _ h32;apply ca (k:=3) (deps:=[]) (R:=TelI (Bk t) (RdT t)) h32 rfl rfl rfl (TelI.stable RdT.grow) (fun X hX hΦ=>jE (ao (fun _ _=>by kernel_rfl) (h32.evs rfl) rfl) (nK t TA tc TB td _ ((S27.grow hX).rd0 ht1) ((S27.grow hX).rd0 ht2) (by omega)));intro v36 _ h33;apply ca (k:=5) (deps:=[]) (R:=TelI (xL p.length) (RdN p.length (p.flatMap bX))) h33 rfl rfl rfl (TelI.stable RdN.grow) (fun X hX hΦ=>jE (ao (fun _ _=>by kernel_rfl) (h33.evs rfl) rfl) (uG p B d _ ((S27.grow hX).rd0 hp) (by omega)));intro v38 _ h34;apply ca (k:=6) (deps:=[1,3,5]) (R:=TelI (BL l t p) (RdR X27.heap.size l t p)) h34 rfl rfl rfl (TelI.stable RdR.grow) (fun X hX hΦ=>(by obtain⟨i1,rfl,g1,g2⟩:=(bD (k:=1) hΦ rfl rfl);obtain⟨i2,rfl,g3,g4⟩:=(bD (k:=3) hΦ rfl rfl);obtain⟨i3,rfl,g5,g6⟩:=(bD (k:=5) hΦ rfl rfl);exact jE (ao (fun _ _=>by kernel_rfl) (h34.evs rfl) rfl) ((jL l i1.1 i1.2 t i2.1 i2.2.1 i2.2.2.1 i2.2.2.2 p i3.1 i3.2 _ g6 g2 g3 g4 (by omega) g1 (by omega) (hF.below (S27.grow hX).below) hx2).mono fun e w' ⟨i,he,S⟩=>⟨i,he,bL (S.ownB (i:=0) rfl) hX.size,S.below⟩)));intro v39 _ h35;apply ca (k:=7) (deps:=[6]) (R:=TelI (BL l t p) (RdR X27.heap.size l t p)) h35 rfl rfl rfl (TelI.stable RdR.grow) (fun X hX hΦ=>tH (aj (h35.ev rfl)) (bD (k:=6) hΦ rfl rfl))
     intro v32 _ h36;apply ca (k:=8) (deps:=[7]) (R:=OwnB X27.heap.size 111 3 (dZ l t p).1.length ((dZ l t p).1.flatMap bX)) h36 rfl rfl rfl OwnB.stable (fun X hX hΦ=>(by obtain⟨i,rfl,hi⟩:=(bD (k:=7) hΦ rfl rfl);exact zQ (bA (h36.ev rfl) rfl) ⟨i.1,i.2,rfl,hi⟩));intro v40 _ h37;apply ca (k:=9) (deps:=[7]) (R:=IsVal (.int .i64 (dZ l t p).2.1)) h37 rfl rfl rfl IsVal.stable (fun X hX hΦ=>(by obtain⟨i,rfl,hi⟩:=(bD (k:=7) hΦ rfl rfl);exact oO (bA (h37.ev rfl) rfl)));intro v41 _ h38;apply ca (k:=10) (deps:=[7]) (R:=IsVal (.int .i64 (dZ l t p).2.2)) h38 rfl rfl rfl IsVal.stable (fun X hX hΦ=>(by obtain⟨i,rfl,hi⟩:=(bD (k:=7) hΦ rfl rfl);exact oO (bA (h38.ev rfl) rfl)));intro v42 _ h39;apply ca (k:=11) (deps:=[8]) (R:=OwnB X27.heap.size 111 3 (dZ l t p).1.length ((dZ l t p).1.flatMap bX)) h39 rfl rfl rfl OwnB.stable (fun X hX hΦ=>zQ (dF (h39.ev rfl)) (bD (k:=8) hΦ rfl rfl));intro v7 _ h40;apply ca (k:=12) (deps:=[9]) (R:=IsVal (.int .i64 (dZ l t p).2.1)) h40 rfl rfl rfl IsVal.stable (fun X hX hΦ=>(by obtain rfl:v41=_:=(bD (k:=9) hΦ rfl rfl);exact oO (dF (h40.ev rfl))));intro v8 _ h41;refine bF fun X42 hX42 hΦ42=>?_;have S42:=S27.grow hX42;have qv34:=bc hΦ42 (k:=1) rfl;have qv36:=bc hΦ42 (k:=3) rfl;have qv38:=bc hΦ42 (k:=5) rfl;have qv39:=bc hΦ42 (k:=6) rfl;have qv32:=bc hΦ42 (k:=7) rfl;have qv40:=bc hΦ42 (k:=8) rfl;have qv41:=bc hΦ42 (k:=9) rfl;have qv42:=bc hΦ42 (k:=10) rfl;obtain rfl:v42=_:=qv42;have qv7:=bc hΦ42 (k:=11) rfl;obtain⟨A7,c7,rfl,qv7⟩:=qv7;have S43:=S27.add hX42 (e:=.row _ _ _ _ _) (bL qv7 (Nat.zero_le _)) (fun b hb=>qv7.lt b hb);have qv8:=bc hΦ42 (k:=12) rfl;obtain rfl:v8=_:=qv8;refine ma h41 rfl rfl fun _ h44=>?_;refine ae (aa (ab ?_))
     apply bq h44 [false,true,false,true,true,true,true,true,true] _ (by kernel_rfl)
     case h=>
      refine qv h44 (fun X hX=>aj (h44.ev rfl)) fun _ h45=>?_;refine qv (v:=bW t TA tc TB td) h45 (fun X hX=>ay (by kernel_rfl) (by kernel_rfl) (h45.ev rfl) ((S43.grow hX).cellsAll (i:=1) rfl)) fun _ h46=>?_;refine aI ?_;apply ca (k:=1) (deps:=[]) (R:=TelI (xL l.length) (RdN l.length (l.flatMap cq))) h46 rfl rfl rfl (TelI.stable RdN.grow) (fun X hX hΦ=>jE (ao (fun _ _=>by kernel_rfl) (h46.evs rfl) rfl) (nX l A c _ ((S43.grow hX).rd0 hr) (by omega)));intro v45 _ h47;apply ca (k:=3) (deps:=[]) (R:=TelI (Bk t) (RdT t)) h47 rfl rfl rfl (TelI.stable RdT.grow) (fun X hX hΦ=>jE (ao (fun _ _=>by kernel_rfl) (h47.evs rfl) rfl) (nK t TA tc TB td _ ((S43.grow hX).rd0 ht1) ((S43.grow hX).rd0 ht2) (by omega)));intro v47 _ h48;apply ca (k:=4) (deps:=[1,3]) (R:=TelI (BP l t) (RdO X42.heap.size l t)) h48 rfl rfl rfl (TelI.stable RdO.grow) (fun X hX hΦ=>(by obtain⟨i1,rfl,g1,g2⟩:=(bD (k:=1) hΦ rfl rfl);obtain⟨i2,rfl,g3,g4⟩:=(bD (k:=3) hΦ rfl rfl);exact jE (ao (fun _ _=>by kernel_rfl) (h48.evs rfl) rfl) ((jm l i1.1 i1.2 t i2.1 i2.2.1 i2.2.2.1 i2.2.2.2 _ g2 g3 g4 (by omega) g1 (hF.below (S43.grow hX).below) hxe).mono fun e w' ⟨i,he,S⟩=>⟨i,he,bL (S.ownB (i:=0) rfl) hX.size,S.below⟩)));intro v48 _ h49;apply ca (k:=5) (deps:=[4]) (R:=TelI (BP l t) (RdO X42.heap.size l t)) h49 rfl rfl rfl (TelI.stable RdO.grow) (fun X hX hΦ=>tH (aj (h49.ev rfl)) (bD (k:=4) hΦ rfl rfl));intro v43 _ h50;apply ca (k:=6) (deps:=[5]) (R:=OwnB X42.heap.size 3 1 (gm l t).length ((gm l t).map (.int .i64))) h50 rfl rfl rfl OwnB.stable (fun X hX hΦ=>(by obtain⟨i,rfl,hi⟩:=(bD (k:=5) hΦ rfl rfl);exact zQ (bA (h50.ev rfl) rfl) ⟨i.1,i.2,rfl,hi⟩));intro v49 _ h51;apply ca (k:=7) (deps:=[5]) (R:=IsVal (.int .i64 (ly l t))) h51 rfl rfl rfl IsVal.stable (fun X hX hΦ=>(by obtain⟨i,rfl,hi⟩:=(bD (k:=5) hΦ rfl rfl);exact oO (bA (h51.ev rfl) rfl)))
      intro v50 _ h52;apply ca (k:=8) (deps:=[6]) (R:=OwnB X42.heap.size 3 1 (gm l t).length ((gm l t).map (.int .i64))) h52 rfl rfl rfl OwnB.stable (fun X hX hΦ=>zQ (dF (h52.ev rfl)) (bD (k:=6) hΦ rfl rfl));intro v10 _ h53;refine bF fun _ hX54 hΦ54=>?_;have S54:=S43.grow hX54;have qv45:=bc hΦ54 (k:=1) rfl;have qv47:=bc hΦ54 (k:=3) rfl;have qv48:=bc hΦ54 (k:=4) rfl;have qv43:=bc hΦ54 (k:=5) rfl;have qv49:=bc hΦ54 (k:=6) rfl;have qv50:=bc hΦ54 (k:=7) rfl;obtain rfl:v50=_:=qv50;have qv10:=bc hΦ54 (k:=8) rfl;obtain⟨A10,c10,rfl,qv10⟩:=qv10;have S55:=S43.add hX54 (e:=.row _ _ _ _ _) (bL qv10 (Nat.zero_le _)) (fun b hb=>qv10.lt b hb);refine ma h53 rfl rfl fun _ h56=>?_;refine ct ?_;refine mv h56 rfl rfl fun _ h57=>?_;refine aW h57 (wn rfl) (ao (fun _ _=>by kernel_rfl) (h57.evs rfl) rfl) rfl rfl S55 (lv l A c _ (S55.rd0 hr) (by omega) hll.2 hxe) fun _ _ h58 S58=>?_;refine ma h58 rfl rfl fun _ h59=>?_;refine ae (aa (ab (ab (ah ?_))));refine mv h59 rfl rfl fun _ h60=>?_;refine sv h60 (aV (h60.ev rfl) (h60.ev rfl)) fun _ h61=>?_;refine ae (aa ?_);replace h61:=(h61.re ⟨rfl,rfl,rfl,rfl,rfl,rfl,rfl,rfl,rfl,rfl,rfl,trivial⟩:Has _ _ _ [(54,_),(12,_),(11,_),(10,_),(9,_),(8,_),(7,_),(6,_),(4,_),(0,_),(2,_)]);refine eI h61 S58 [(12,.int .i64 (eV l t))] [11,10,9,8,7,6,4,0,2] ?_ (fun _ _ h62 S62=>?_)
      ·
       refine aC (h61.ev rfl) (fun hc2=>?_) (fun hc2=>?_)
       ·
        refine ah ?_;refine sv (v:=bW t TA tc TB td) h61 (ay (by kernel_rfl) (by kernel_rfl) (h61.ev rfl) (S58.cellsAll (i:=2) rfl)) fun _ h63=>?_;refine aW h63 (wn rfl) (ao (fun _ _=>by kernel_rfl) (h63.evs rfl) rfl) rfl rfl S58 (jl t TA tc TB td _ (S58.rd0 ht1) (S58.rd0 ht2)) fun _ _ h64 S64=>?_;refine ma h64 rfl rfl fun _ h65=>?_;refine ae (aa ?_);rw[show dy t=eV l t by unfold eV;rw[show(eQ l).2=0 by simpa using hc2];by_cases h9:dy t=0<;>simp[aP,h9]] at h65;exact⟨h65.re ⟨rfl,rfl,rfl,rfl,rfl,rfl,rfl,rfl,rfl,rfl,trivial⟩,S64⟩
       ·
        refine wp_skip (aa ?_);rw[show(eQ l).2=eV l t by unfold eV;have h9:(eQ l).2≠0:=(by simpa using hc2);simp[aP,h9]] at h61;exact⟨h61.re ⟨rfl,rfl,rfl,rfl,rfl,rfl,rfl,rfl,rfl,rfl,trivial⟩,S58⟩
      ·
       refine aa (ab (ab (ah ?_)));refine mv h62 rfl rfl fun _ h66=>?_;refine sv h66 (ba (h66.ev rfl) (h66.ev rfl)) fun _ h67=>?_;refine ae (aa ?_);refine aC (h67.ev rfl) (fun hc3=>?_) (fun hc3=>?_)
       ·
        have hne:eV l t≠0:=by simpa using hc3
        rw[yT hne,(tU hne).1,(tU hne).2] at h67;refine ab (ah ?_);refine mv h67 rfl rfl fun _ h68=>?_;refine mv h68 rfl rfl fun _ h69=>?_;refine sv h69 (aV (h69.ev rfl) (h69.ev rfl)) fun _ h70=>?_;refine mv h70 rfl rfl fun _ h71=>?_;refine aQ h71 (ag h71 _ rfl rfl rfl ((by simp))) (aj (h71.ev rfl)) rfl rfl fun _ h72=>?_;refine aQ h72 (ag h72 _ rfl rfl rfl ((by simp))) (aj (h72.ev rfl)) rfl rfl fun _ h73=>?_;refine aQ h73 (ag h73 _ rfl rfl rfl ((by simp))) (aV (h73.ev rfl) (h73.ev rfl)) rfl rfl fun _ h74=>?_;refine sv h74 (aA (h74.ev rfl) ((by simp)) (h74.ev rfl)) fun _ h75=>?_;refine mv h75 rfl rfl fun _ h76=>?_;refine aQ h76 (ag h76 _ rfl rfl rfl ((by simp))) (aj (h76.ev rfl)) rfl rfl fun _ h77=>?_;refine aQ h77 (ag h77 _ rfl rfl rfl ((by simp))) (a6 Tryz.underlying48 (h77.ev rfl)) rfl rfl fun _ h78=>?_;refine aQ h78 (ag h78 _ rfl rfl rfl ((by simp))) (aj (h78.ev rfl)) rfl rfl fun _ h79=>?_;refine aQ h79 (ag h79 _ rfl rfl rfl ((by simp))) (a6 Tryz.underlying53 (h79.ev rfl)) rfl rfl fun _ h80=>?_;refine aQ h80 (ag h80 _ rfl rfl rfl ((by simp))) (aZ (h80.ev rfl) (h80.ev rfl) (by show(-9223372036854775808:Int)≤((0:Nat):Int)+((0:Nat):Int)∧((0:Nat):Int)+((0:Nat):Int)<9223372036854775808;omega)) rfl rfl fun _ h81=>?_;refine aQ h81 (ag h81 _ rfl rfl rfl ((by simp))) (aV (h81.ev rfl) (h81.ev rfl)) rfl rfl fun _ h82=>?_;refine sv h82 (aA (h82.ev rfl) ((by simp)) (h82.ev rfl)) fun _ h83=>?_;refine mv h83 rfl rfl fun _ h84=>?_;refine aQ h84 (ag h84 _ rfl rfl rfl (rfl)) (aj (h84.ev rfl)) rfl rfl fun _ h85=>?_;refine aQ h85 (ag h85 _ rfl rfl rfl (rfl)) (aV (h85.ev rfl) (h85.ev rfl)) rfl rfl fun _ h86=>?_;refine sv h86 (aA (h86.ev rfl) (rfl) (h86.ev rfl)) fun _ h87=>?_;refine ma h87 rfl rfl fun _ h88=>?_
        refine ae (aa (wp_ret (ak ?_)));refine bj h88 rfl rfl ?_
        first | exact⟨rfl,S62.below⟩ | exact⟨by simp,S62.below⟩
       ·
        have hzf:eV l t=0:=by simpa using hc3
        obtain⟨z1,z2⟩:=Bm hzf;have hzz:=hzf;unfold eV at hzz;rw[bu] at hzz;have hk:=tblE_zero.1 (hzz (dy t) (by simp));have hvl:=(lL (hzz (eQ l).2 (by simp))).2;rw[z1,z2] at h67;rw[z1] at S62;refine wp_skip (aa (ab (ah ?_)));refine mv h67 rfl rfl fun _ h89=>?_;refine sv (v:=bW t TA tc TB td) h89 (ay (by kernel_rfl) (by kernel_rfl) (h89.ev rfl) (S62.cellsAll (i:=2) rfl)) fun _ h90=>?_;refine de h90 (wn rfl) (ao (fun _ _=>by kernel_rfl) (h90.evs rfl) rfl) rfl rfl S62 (mL l A c t TA tc TB td _ (S62.rd0 hr) (S62.rd0 ht1) (by omega) hk hvl) fun p82 _ _ h91 S91=>?_;refine mv h91 rfl rfl fun _ h92=>?_;refine vx h92 rfl rfl rfl fun _ h93=>?_;refine vx h93 rfl rfl rfl fun _ h94=>?_;refine ma h94 rfl rfl fun _ h95=>?_;refine ma h95 rfl rfl fun _ h96=>?_;refine ae (aa (ab (ab (ah ?_))));refine mv h96 rfl rfl fun _ h97=>?_;refine mv h97 rfl rfl fun _ h98=>?_;refine sv h98 (ba (h98.ev rfl) (h98.ev rfl)) fun _ h99=>?_;refine mv h99 rfl rfl fun _ h100=>?_;apply dL h100 S91 88 rfl 9 97
        case hf=>
         intro gc88;refine sy h100 rfl rfl rfl gc88 (aj (h100.ev rfl)) rfl rfl fun _ h101=>?_;refine sy h101 rfl rfl rfl gc88 (aV (h101.ev rfl) (h101.ev rfl)) rfl rfl fun _ h102=>?_;refine sy h102 rfl rfl rfl gc88 (aj (h102.ev rfl)) rfl rfl fun _ h103=>?_;apply cz h103 S91 91 rfl 5 96
         case ht=>
          intro gc91;refine sy h103 rfl rfl rfl gc91 (aj (h103.ev rfl)) rfl rfl fun _ h104=>?_;refine sy h104 rfl rfl rfl gc91 (aj (h104.ev rfl)) rfl rfl fun _ h105=>?_;refine aW h105 (ag h105 _ rfl rfl rfl gc91) (ao (fun _ _=>by kernel_rfl) (h105.evs rfl) rfl) rfl rfl S91 (n5 (qj l t) (lu l t) A10 p82.1 c10 p82.2 _ (S91.rdOf (i:=1) rfl) (S91.rdOf (i:=0) rfl) (Nat.le_trans (zg l t) (by decide))) fun _ _ h106 S106=>?_;refine sy h106 rfl rfl rfl gc91 (bh (v':=.bool (!decide (qj l t=lu l t))) rfl (cg (h106.ev rfl))) rfl rfl fun _ h107=>?_;refine sy h107 rfl rfl rfl gc88 (aA (h107.ev rfl) gc91 (h107.ev rfl)) rfl rfl fun _ h108=>?_;exact ae ⟨h108.mid (m:=[(_,_),(_,_),(_,_),(_,_)]) rfl,S106⟩
         case hf=>
          intro gc91;refine no h103 rfl rfl rfl gc91 rfl rfl fun _ h109=>?_;refine no h109 rfl rfl rfl gc91 rfl rfl fun _ h110=>?_;refine no h110 rfl rfl rfl gc91 rfl rfl fun _ h111=>?_;refine no h111 rfl rfl rfl gc91 rfl rfl fun _ h112=>?_;refine sy h112 rfl rfl rfl gc88 (aG (h112.ev rfl) gc91 (h112.ev rfl)) rfl rfl fun _ h113=>?_;exact ae ⟨h113.mid (m:=[(_,_),(_,_),(_,_),(_,_)]) rfl,S91⟩
         case h=>
          rintro a114 X114 ⟨h114,S114⟩
          refine sv h114 (aG (h114.ev rfl) gc88 (h114.ev rfl)) fun _ h115=>?_;exact ae ⟨h115.mid (m:=[(_,_),(_,_),(_,_),(_,_)]) rfl,S114⟩
        case ht=>
         intro gc88;refine no h100 rfl rfl rfl gc88 rfl rfl fun _ h116=>?_;refine no h116 rfl rfl rfl gc88 rfl rfl fun _ h117=>?_;refine no h117 rfl rfl rfl gc88 rfl rfl fun _ h118=>?_;refine ik h118 (cY h118 _ rfl rfl rfl) rfl rfl fun _ h119=>?_;refine ik h119 (cY h119 _ rfl rfl rfl) rfl rfl fun _ h120=>?_;refine ik h120 (cY h120 _ rfl rfl rfl) rfl rfl fun _ h121=>?_;refine ik h121 (cY h121 _ rfl rfl rfl) rfl rfl fun _ h122=>?_;refine no h122 rfl rfl rfl gc88 rfl rfl fun _ h123=>?_;refine sv h123 (aA (h123.ev rfl) gc88 (h123.ev rfl)) fun _ h124=>?_;exact ae ⟨h124.mid (m:=[(_,_),(_,_),(_,_),(_,_),(_,_),(_,_),(_,_),(_,_)]) rfl,S91⟩
        case h=>
         rintro a125 X125 ⟨h125,S125⟩
         refine mv h125 rfl rfl fun _ h126=>?_;apply dL h126 S125 98 rfl 8 106
         case hf=>
          intro gc98;refine sy h126 rfl rfl rfl gc98 (aj (h126.ev rfl)) rfl rfl fun _ h127=>?_;refine sy h127 rfl rfl rfl gc98 (ba (h127.ev rfl) (h127.ev rfl)) rfl rfl fun _ h128=>?_;refine sy h128 rfl rfl rfl gc98 (aj (h128.ev rfl)) rfl rfl fun _ h129=>?_;apply cz h129 S125 101 rfl 4 105
          case ht=>
           intro gc101;refine sy h129 rfl rfl rfl gc101 (aj (h129.ev rfl)) rfl rfl fun _ h130=>?_;refine sy h130 rfl rfl rfl gc101 (a6 Tryz.underlying53 (h130.ev rfl)) rfl rfl fun _ h131=>?_;refine sy h131 rfl rfl rfl gc101 (ba (h131.ev rfl) (h131.ev rfl)) rfl rfl fun _ h132=>?_;refine sy h132 rfl rfl rfl gc98 (aA (h132.ev rfl) gc101 (h132.ev rfl)) rfl rfl fun _ h133=>?_;exact ae ⟨h133.mid (m:=[(_,_),(_,_),(_,_)]) rfl,S125⟩
          case hf=>
           intro gc101;refine no h129 rfl rfl rfl gc101 rfl rfl fun _ h134=>?_;refine no h134 rfl rfl rfl gc101 rfl rfl fun _ h135=>?_;refine no h135 rfl rfl rfl gc101 rfl rfl fun _ h136=>?_;refine sy h136 rfl rfl rfl gc98 (aG (h136.ev rfl) gc101 (h136.ev rfl)) rfl rfl fun _ h137=>?_;exact ae ⟨h137.mid (m:=[(_,_),(_,_),(_,_)]) rfl,S125⟩
          case h=>
           rintro a138 X138 ⟨h138,S138⟩
           refine sv h138 (aG (h138.ev rfl) gc98 (h138.ev rfl)) fun _ h139=>?_;exact ae ⟨h139.mid (m:=[(_,_),(_,_),(_,_),(_,_)]) rfl,S138⟩
         case ht=>
          intro gc98;refine no h126 rfl rfl rfl gc98 rfl rfl fun _ h140=>?_;refine no h140 rfl rfl rfl gc98 rfl rfl fun _ h141=>?_;refine no h141 rfl rfl rfl gc98 rfl rfl fun _ h142=>?_;refine ik h142 (cY h142 _ rfl rfl rfl) rfl rfl fun _ h143=>?_;refine ik h143 (cY h143 _ rfl rfl rfl) rfl rfl fun _ h144=>?_;refine ik h144 (cY h144 _ rfl rfl rfl) rfl rfl fun _ h145=>?_;refine no h145 rfl rfl rfl gc98 rfl rfl fun _ h146=>?_;refine sv h146 (aA (h146.ev rfl) gc98 (h146.ev rfl)) fun _ h147=>?_;exact ae ⟨h147.mid (m:=[(_,_),(_,_),(_,_),(_,_),(_,_),(_,_),(_,_)]) rfl,S125⟩
         case h=>
          rintro a148 X148 ⟨h148,S148⟩
          refine ae (aa ?_);refine iX (h148.ev rfl) ((by unfold qj yN;by_cases h9:(jQ l t).2=0<;>simp[h9])) ?_;refine wp_skip (aa (ab (ab (ah ?_))));refine mv h148 rfl rfl fun _ h149=>?_;refine mv h149 rfl rfl fun _ h150=>?_;refine aW h150 (wn rfl) (ao (fun _ _=>by kernel_rfl) (h150.evs rfl) rfl) rfl rfl S148 (ni l p A c B d _ (S148.rd0 hr) (S148.rd0 hp) (by omega) (by omega)) fun _ _ h151 S151=>?_;refine ma h151 rfl rfl fun _ h152=>?_;refine ct ?_;refine mv h152 rfl rfl fun _ h153=>?_;refine sv h153 (ba (h153.ev rfl) (h153.ev rfl)) fun _ h154=>?_;refine ae (aa ?_);refine aC (h154.ev rfl) (fun hc5=>?_) (fun hc5=>?_)
          ·
           have hne:gq l p≠0:=by simpa using hc5
           rw[show dZ l t p=([],0,gq l p) by rw[tN hzf,if_pos hne]] at h154;refine ab (ah ?_);refine mv h154 rfl rfl fun _ h155=>?_;refine mv h155 rfl rfl fun _ h156=>?_;refine sv h156 (aV (h156.ev rfl) (h156.ev rfl)) fun _ h157=>?_;refine mv h157 rfl rfl fun _ h158=>?_;refine aQ h158 (ag h158 _ rfl rfl rfl ((by simp))) (aj (h158.ev rfl)) rfl rfl fun _ h159=>?_;refine aQ h159 (ag h159 _ rfl rfl rfl ((by simp))) (a6 Tryz.underlying48 (h159.ev rfl)) rfl rfl fun _ h160=>?_;refine aQ h160 (ag h160 _ rfl rfl rfl ((by simp))) (aV (h160.ev rfl) (h160.ev rfl)) rfl rfl fun _ h161=>?_;refine sv h161 (aA (h161.ev rfl) ((by simp)) (h161.ev rfl)) fun _ h162=>?_;refine mv h162 rfl rfl fun _ h163=>?_;refine aQ h163 (ag h163 _ rfl rfl rfl (rfl)) (aj (h163.ev rfl)) rfl rfl fun _ h164=>?_;refine aQ h164 (ag h164 _ rfl rfl rfl (rfl)) (aV (h164.ev rfl) (h164.ev rfl)) rfl rfl fun _ h165=>?_;refine sv h165 (aA (h165.ev rfl) (rfl) (h165.ev rfl)) fun _ h166=>?_;refine ma h166 rfl rfl fun _ h167=>?_;refine ae (aa (wp_ret (ak ?_)));refine bj h167 rfl rfl ?_
           first | exact⟨rfl,S151.below⟩ | exact⟨by simp,S151.below⟩
          ·
           have hzp:gq l p=0:=by simpa using hc5
           obtain⟨g1,g2⟩:=rZ hzp
           have hre:dZ l t p=ed t p 0 l:=by rw[tN hzf,if_neg (fun h=>h hzp)]
           rw[hre] at h154 S151;have hlen:=l9 t l p 0;refine wp_skip (aa (ab (ah ?_)));refine mv h154 rfl rfl fun _ h168=>?_;refine sv (v:=bW t TA tc TB td) h168 (ay (by kernel_rfl) (by kernel_rfl) (h168.ev rfl) (S151.cellsAll (i:=3) rfl)) fun _ h169=>?_;refine mv h169 rfl rfl fun _ h170=>?_;refine de h170 (wn rfl) (ao (fun _ _=>by kernel_rfl) (h170.evs rfl) rfl) rfl rfl S151 (qL t TA tc TB td l A c p B d _ (S151.rd0 hp) (S151.rd0 hr) (S151.rd0 ht2) (by omega) (by omega) g1 hxe g2) fun p128 _ _ h171 S171=>?_;refine mv h171 rfl rfl fun _ h172=>?_;refine vx h172 rfl rfl rfl fun _ h173=>?_;refine vx h173 rfl rfl rfl fun _ h174=>?_;refine vx h174 rfl rfl rfl fun _ h175=>?_;refine ma h175 rfl rfl fun _ h176=>?_;refine ma h176 rfl rfl fun _ h177=>?_;refine ma h177 rfl rfl fun _ h178=>?_;refine ct ?_;refine mv h178 rfl rfl fun _ h179=>?_;refine mv h179 rfl rfl fun _ h180=>?_;refine sv h180 (aV (h180.ev rfl) (h180.ev rfl)) fun _ h181=>?_;refine mv h181 rfl rfl fun _ h182=>?_;refine aQ h182 (ag h182 _ rfl rfl rfl ((by simp))) (aj (h182.ev rfl)) rfl rfl fun _ h183=>?_;refine aQ h183 (ag h183 _ rfl rfl rfl ((by simp))) (aj (h183.ev rfl)) rfl rfl fun _ h184=>?_;refine aQ h184 (ag h184 _ rfl rfl rfl ((by simp))) (aV (h184.ev rfl) (h184.ev rfl)) rfl rfl fun _ h185=>?_;refine sv h185 (aA (h185.ev rfl) ((by simp)) (h185.ev rfl)) fun _ h186=>?_;refine mv h186 rfl rfl fun _ h187=>?_;refine aQ h187 (ag h187 _ rfl rfl rfl ((by simp))) (aj (h187.ev rfl)) rfl rfl fun _ h188=>?_;refine aQ h188 (ag h188 _ rfl rfl rfl ((by simp))) (aj (h188.ev rfl)) rfl rfl fun _ h189=>?_;refine aW h189 (ag h189 _ rfl rfl rfl ((by simp))) (ao (fun _ _=>by kernel_rfl) (h189.evs rfl) rfl) rfl rfl S171 (rU (ed t p 0 l).1 A7 c7 p128.1 p128.2 _ (S171.rdOf (i:=3) rfl) (S171.rdOf (i:=0) rfl) (by omega)) fun _ _ h190 S190=>?_
           refine sv h190 (aA (h190.ev rfl) ((by simp)) (h190.ev rfl)) fun _ h191=>?_;refine ma h191 rfl rfl fun _ h192=>?_;refine ae (aa (wp_ret ?_));refine bj h192 rfl rfl ?_
           first | exact⟨rfl,S190.below⟩ | exact⟨by simp,S190.below⟩
     case hB=>kernel_rfl
     case hst=>rfl
    case hB=>kernel_rfl
    case hst=>rfl
end Go.Proofs.YtcfdpfmchchkaaaGreatDoor
