/-
  Chapter 22: what the error of a record is made of.
  Chapter 22: the error of a record.
  Chapter 22: the error of a record.
  Chapter 22: the error of a history.
  A drawn region whose head writes into blocks that stand (one operation) and into boxes that it makes itself (stores). No program in sight.
  Chapter 22: a table by numbers.
-/
import Derived.Test.YtcfdpfmchchkaaaGreatDoorRcC
import Derived.Test.YtcfdpfmchchkaaaGreatDoorOpEnt3
namespace Go.Proofs.YtcfdpfmchchkaaaGreatDoor
set_option linter.unusedVariables false
set_option linter.unusedSimpArgs false
set_option maxRecDepth 4000
open Go.RowKit Go.Sort
def ll (c:Chn):Value:=.agg #[.int .i64 c.l,.int .i64 c.k,.int .i64 c.u]
theorem nq (c:Chn) (n:Int) (x:Lge) (w:World) :
 Calls Tryz.prog 159 #[ll c,.int .i64 n,dz x] w fun e w'=>e=.returned (ll (pQ c n x))∧Below w.heap.size w w':=by
 refine aF (N:=24) Tryz.func159 rfl rfl rfl (fun _ Y=>?_);have Z:=St.init w;refine ab (ah ?_);refine nb Y rfl rfl Z fun b3 _ _ gb3 Y Z=>?_;refine nb Y rfl rfl Z fun b5 _ _ gb5 Y Z=>?_;refine na (.agg #[.int .i64 0,.int .i64 0,.int .i64 0]) Y rfl Z fun b6 _ _ gb6 Y Z=>?_;refine ae (aa (ab ?_));apply xB (m:=4) Y (St.domAt Z (i:=2) rfl) 0 [false,false,false,false,true] _ (by kernel_rfl)
 case h=>
  refine qv Y (fun X hX=>ak (Y.ev rfl)) fun _ Y=>?_;refine qv Y (fun X hX=>aj (off:=0) (j:=0) (by kernel_rfl) (Y.ev rfl) rfl) fun _ Y=>?_;refine qv Y (fun X hX=>aw (by kernel_rfl) (Y.ev rfl) ((Z.growO (i:=2) rfl hX).cell (i:=1) rfl rfl)) fun _ Y=>?_;refine qv Y (fun X hX=>aj (off:=0) (j:=0) (by kernel_rfl) (Y.ev rfl) rfl) fun _ Y=>?_;refine aI ?_;apply wO (k:=4) (deps:=[]) (R:=IsBox _ _ _) Y rfl rfl IsBox.stable (fun X hX hΦ=>rk rfl (Y.ev rfl) (Y.ev rfl) rfl (by kernel_rfl) ((Z.grow hX).at_ (i:=2) rfl) rfl rfl);intro vs4;refine AP fun _ hX8 hΦ8=>?_;have Z:=Z.growBox (i:=2) (v:=vs4) rfl hX8 (bW hΦ8 (k:=4) rfl);refine vf Y 1 1 rfl rfl rfl fun _ Y=>?_;refine cX Y (wn rfl) ⟨rfl,rfl⟩ (Y.ev rfl) (Y.ev rfl) rfl (by kernel_rfl) Z (i:=2) rfl rfl rfl fun _ Z=>?_;refine ae (aa (ab (ab (ah ?_))));refine vf Y 0 0 rfl rfl rfl fun _ Y=>?_;refine vl Y Z 1 rfl rfl rfl rfl fun _ Y=>?_;refine ae (aa (wp_block (ab (ah ?_))));refine sv Y (aX (Y.ev rfl) (Y.ev rfl)) fun _ Y=>?_;refine ma Y rfl rfl fun _ Y=>?_;refine ae (aa ?_);refine aB (Y.ev rfl) (fun hc0=>?_) (fun hc0=>?_)
  ·
   refine ah ?_;refine mv Y rfl rfl fun _ Y=>?_;refine vf Y 2 2 rfl rfl rfl fun _ Y=>?_;refine cX Y (wn rfl) ⟨rfl,rfl⟩ (Y.ev rfl) (Y.ev rfl) rfl (by kernel_rfl) Z (i:=2) rfl rfl rfl fun _ Z=>?_;refine ae (aO (aa (ab (ah ?_))));refine sv Y (ay (by kernel_rfl) (by kernel_rfl) (Y.ev rfl) (Z.cellsAll (i:=2) rfl)) fun _ Y=>?_;refine aG Y (wn rfl) ⟨rfl,rfl⟩ (Y.ev rfl) (Y.ev rfl) rfl (by kernel_rfl) Z (i:=0) rfl rfl rfl fun _ Z=>?_;refine ae (aa (wp_ret ?_));refine zw Y rfl rfl Z (i:=0) rfl (by kernel_rfl) (by kernel_rfl) ?_
   have hk:x.k=0:=by simpa using hc0
   exact⟨by unfold pQ;rw[if_pos hk];rfl,Z.below⟩
  ·
   refine ab (ah ?_);refine sv Y (aX (Y.ev rfl) (Y.ev rfl)) fun _ Y=>?_;refine ma Y rfl rfl fun _ Y=>?_;refine ae (aa ?_);refine aB (Y.ev rfl) (fun hc1=>?_) (fun hc1=>?_)
   ·
    refine ah ?_;refine vf Y 3 3 rfl rfl rfl fun _ Y=>?_;refine vl Y Z 1 rfl rfl rfl rfl fun _ Y=>?_;refine vf Y 2 2 rfl rfl rfl fun _ Y=>?_;refine cX Y (wn rfl) ⟨rfl,rfl⟩ (Y.ev rfl) (Y.ev rfl) rfl (by kernel_rfl) Z (i:=2) rfl rfl rfl fun _ Z=>?_;refine ae (aO (aa (ab (ah ?_))));refine sv Y (ay (by kernel_rfl) (by kernel_rfl) (Y.ev rfl) (Z.cellsAll (i:=2) rfl)) fun _ Y=>?_;refine aG Y (wn rfl) ⟨rfl,rfl⟩ (Y.ev rfl) (Y.ev rfl) rfl (by kernel_rfl) Z (i:=0) rfl rfl rfl fun _ Z=>?_;refine ae (aa (wp_ret ?_));refine zw Y rfl rfl Z (i:=0) rfl (by kernel_rfl) (by kernel_rfl) ?_
    have hk:x.k≠0:=by simpa using hc0
    have hk1:x.k=1:=by simpa using hc1
    exact⟨by unfold pQ;rw[if_neg hk,if_pos hk1];rfl,Z.below⟩
   ·
    refine wp_skip (aO (aa (ab (ah ?_))));refine sv Y (ay (by kernel_rfl) (by kernel_rfl) (Y.ev rfl) (Z.cellsAll (i:=2) rfl)) fun _ Y=>?_;refine aG Y (wn rfl) ⟨rfl,rfl⟩ (Y.ev rfl) (Y.ev rfl) rfl (by kernel_rfl) Z (i:=0) rfl rfl rfl fun _ Z=>?_;refine ae (aa (wp_ret ?_));refine zw Y rfl rfl Z (i:=0) rfl (by kernel_rfl) (by kernel_rfl) ?_
    have hk:x.k≠0:=by simpa using hc0
    have hk1:x.k≠1:=by simpa using hc1
    exact⟨by unfold pQ;rw[if_neg hk,if_neg hk1];rfl,Z.below⟩
 case hB=>kernel_rfl
 case hst=>rfl
theorem rv {h0 m:Int} {x:Lge} {b:Bool} (hm:(if b=true then 0 else h0-1)=m) (h:x.p>m):gl h0 x b=(⟨0,0,0⟩,14):=by unfold gl;rw[if_pos (by rw[hm];exact h)]
theorem wV {h0 m:Int} {x:Lge} {b:Bool} (hm:(if b=true then 0 else h0-1)=m) (h:¬x.p>m) (hp:x.p≠0):gl h0 x b=(⟨x.p,-1,-1⟩,0):=by unfold gl;rw[if_neg (by rw[hm];exact h),if_pos hp]
theorem wX {h0 m:Int} {x:Lge} {b:Bool} (hm:(if b=true then 0 else h0-1)=m) (h:¬x.p>m) (hp:x.p=0):gl h0 x b=(⟨x.p,0,0⟩,0):=by unfold gl;rw[if_neg (by rw[hm];exact h),if_neg (by rw[hp];decide)]
theorem vm (l:List Rcd) (A:Option Addr) (c:Nat) (x:Lge) (b:Bool) (w:World) (hr:Rd w w.heap.size A (l.flatMap cg)) (hn:0<l.length) (hb:1≤dE l∧dE l≤2147483647) :
 Calls Tryz.prog 156 #[.slice A l.length c,dz x,.bool b] w fun e w'=>e=.returned (.tuple #[ll (gl (dE l) x b).1,.int .i64 (gl (dE l) x b).2])∧Below w.heap.size w w':=by
 have hf:=fA hn;rw[hf] at hb;obtain⟨b',o',rfl,hB,_⟩:=hr.opened (aR aJ (by decide) hn);refine aF (N:=30) Tryz.func156 rfl rfl rfl (fun _ h0=>?_);have Y:=St.init w;refine ab (ah ?_);refine nb h0 rfl rfl Y fun b4 _ _ gb4 h1 Y=>?_;refine na (.agg #[.int .i64 0,.int .i64 0,.int .i64 0]) h1 rfl Y fun b6 _ _ gb6 h2 Y=>?_;refine ma h2 rfl rfl fun _ h3=>?_;refine cm ?_;refine mv h3 rfl rfl fun _ h4=>?_;refine sv h4 (aC (i:=0) (sz:=14) Tryz.underlying180 (by kernel_rfl) (h4.ev rfl) (h4.ev rfl) (by omega) (by omega) rfl) fun _ h5=>?_;refine sv h5 (aj (off:=0) (by kernel_rfl) (h5.ev rfl) rfl) fun _ h6=>?_;refine sv h6 (aw (by kernel_rfl) (h6.ev rfl) ((a7 aJ (Y.rd0 hr) hn) 0 _ rfl)) fun _ h7=>?_;refine sv h7 (fH (h7.ev rfl) (h7.ev rfl) (by omega)) fun _ h8=>?_;refine ma h8 rfl rfl fun _ h9=>?_;refine ae (aa (ab (ab (ah ?_))));refine mv h9 rfl rfl fun _ h10=>?_;refine ae (aa ?_);refine aB (h10.ev rfl) (fun hc0=>?_) (fun hc0=>?_)
 ·
  subst hc0;refine ah ?_;refine ma h10 rfl rfl fun _ h11=>?_;refine ae (aa (ab (ab (ah ?_))));refine vf h11 2 2 rfl rfl rfl fun _ h12=>?_;refine vl h12 Y 1 rfl rfl rfl rfl fun _ h13=>?_;refine mv h13 rfl rfl fun _ h14=>?_;refine sv h14 (cD (h14.ev rfl) (h14.ev rfl)) fun _ h15=>?_;refine ae (aa ?_);refine aB (h15.ev rfl) (fun hc1=>?_) (fun hc1=>?_)
  ·
   have h1:=of_decide_eq_true hc1;refine ab (ah ?_);refine sv h15 (br (zs:=[.int .i64 0,.int .i64 0,.int .i64 0]) (pl:=[(0,1),(1,1),(2,1)]) (by kernel_rfl) (by kernel_rfl) (h15.evs2 rfl) rfl rfl) fun _ h16=>?_;refine aG h16 (wn rfl) ⟨rfl,rfl⟩ (h16.ev rfl) (h16.ev rfl) rfl (by kernel_rfl) Y (i:=0) rfl rfl rfl fun _ Y=>?_;refine ma h16 rfl rfl fun _ h18=>?_;refine ae (aa (wp_ret (ai ?_)));refine ek h18 rfl rfl rfl Y (i:=0) rfl (by kernel_rfl) (by kernel_rfl) ?_;exact⟨by rw[rv (m:=0) rfl h1];rfl,Y.below⟩
  ·
   have h1:=of_decide_eq_false hc1;refine wp_skip (aa (ab (ah ?_)));refine vf h15 2 2 rfl rfl rfl fun _ h19=>?_;refine vl h19 Y 1 rfl rfl rfl rfl fun _ h20=>?_;refine sv h20 (br (zs:=[.int .i64 0,.int .i64 0,.int .i64 0]) (pl:=[(0,1),(1,1),(2,1)]) (by kernel_rfl) (by kernel_rfl) (h20.evs2 rfl) rfl rfl) fun _ h21=>?_;refine na (.agg #[.int .i64 0,.int .i64 0,.int .i64 0]) h21 rfl Y fun b9 _ _ gb9 h22 Y=>?_;refine aG h22 (wn rfl) ⟨rfl,rfl⟩ (h22.ev rfl) (h22.ev rfl) rfl (by kernel_rfl) Y (i:=0) rfl rfl rfl fun _ Y=>?_;refine ae (aa (ab (ab (ah ?_))));refine vf h22 2 2 rfl rfl rfl fun _ h24=>?_;refine vl h24 Y 2 rfl rfl rfl rfl fun _ h25=>?_;refine sv h25 (a8 (h25.ev rfl) (h25.ev rfl)) fun _ h26=>?_;refine ae (aa ?_);refine aB (h26.ev rfl) (fun hc2=>?_) (fun hc2=>?_)
   ·
    have h2:x.p≠0:=by simpa using hc2
    refine ah ?_;refine vf h26 1 1 rfl rfl rfl fun _ h27=>?_;refine cX h27 (wn rfl) ⟨rfl,rfl⟩ (h27.ev rfl) (h27.ev rfl) rfl (by kernel_rfl) Y (i:=0) rfl rfl rfl fun _ Y=>?_;refine vf h27 2 2 rfl rfl rfl fun _ h29=>?_;refine cX h29 (wn rfl) ⟨rfl,rfl⟩ (h29.ev rfl) (h29.ev rfl) rfl (by kernel_rfl) Y (i:=0) rfl rfl rfl fun _ Y=>?_;refine cm ?_;refine sv h29 (ay (by kernel_rfl) (by kernel_rfl) (h29.ev rfl) (Y.cellsAll (i:=0) rfl)) fun _ h31=>?_;refine aG h31 (wn rfl) ⟨rfl,rfl⟩ (h31.ev rfl) (h31.ev rfl) rfl (by kernel_rfl) Y (i:=1) rfl rfl rfl fun _ Y=>?_;refine ma h31 rfl rfl fun _ h33=>?_;refine ae (aa (wp_ret ?_));refine ek h33 rfl rfl rfl Y (i:=1) rfl (by kernel_rfl) (by kernel_rfl) ?_;exact⟨by rw[wV (m:=0) rfl h1 h2];rfl,Y.below⟩
   ·
    have h2:x.p=0:=by simpa using hc2
    refine wp_skip (aa (ab (ah ?_)));refine sv h26 (ay (by kernel_rfl) (by kernel_rfl) (h26.ev rfl) (Y.cellsAll (i:=0) rfl)) fun _ h34=>?_;refine aG h34 (wn rfl) ⟨rfl,rfl⟩ (h34.ev rfl) (h34.ev rfl) rfl (by kernel_rfl) Y (i:=1) rfl rfl rfl fun _ Y=>?_;refine ma h34 rfl rfl fun _ h36=>?_;refine ae (aa (wp_ret ?_));refine ek h36 rfl rfl rfl Y (i:=1) rfl (by kernel_rfl) (by kernel_rfl) ?_;exact⟨by rw[wX (m:=0) rfl h1 h2];rfl,Y.below⟩
 ·
  subst hc0;refine wp_skip (aa (ab (ab (ah ?_))));refine vf h10 2 2 rfl rfl rfl fun _ h37=>?_;refine vl h37 Y 1 rfl rfl rfl rfl fun _ h38=>?_;refine mv h38 rfl rfl fun _ h39=>?_;refine sv h39 (cD (h39.ev rfl) (h39.ev rfl)) fun _ h40=>?_;refine ae (aa ?_);refine aB (h40.ev rfl) (fun hc1=>?_) (fun hc1=>?_)
  ·
   have h1:=of_decide_eq_true hc1;refine ab (ah ?_);refine sv h40 (br (zs:=[.int .i64 0,.int .i64 0,.int .i64 0]) (pl:=[(0,1),(1,1),(2,1)]) (by kernel_rfl) (by kernel_rfl) (h40.evs2 rfl) rfl rfl) fun _ h41=>?_;refine aG h41 (wn rfl) ⟨rfl,rfl⟩ (h41.ev rfl) (h41.ev rfl) rfl (by kernel_rfl) Y (i:=0) rfl rfl rfl fun _ Y=>?_;refine ma h41 rfl rfl fun _ h43=>?_;refine ae (aa (wp_ret (ai ?_)));refine ek h43 rfl rfl rfl Y (i:=0) rfl (by kernel_rfl) (by kernel_rfl) ?_;exact⟨by rw[rv (m:=l[0].l-1) (by rw[hf];rfl) h1];rfl,Y.below⟩
  ·
   have h1:=of_decide_eq_false hc1;refine wp_skip (aa (ab (ah ?_)));refine vf h40 2 2 rfl rfl rfl fun _ h44=>?_;refine vl h44 Y 1 rfl rfl rfl rfl fun _ h45=>?_;refine sv h45 (br (zs:=[.int .i64 0,.int .i64 0,.int .i64 0]) (pl:=[(0,1),(1,1),(2,1)]) (by kernel_rfl) (by kernel_rfl) (h45.evs2 rfl) rfl rfl) fun _ h46=>?_;refine na (.agg #[.int .i64 0,.int .i64 0,.int .i64 0]) h46 rfl Y fun b9 _ _ gb9 h47 Y=>?_;refine aG h47 (wn rfl) ⟨rfl,rfl⟩ (h47.ev rfl) (h47.ev rfl) rfl (by kernel_rfl) Y (i:=0) rfl rfl rfl fun _ Y=>?_;refine ae (aa (ab (ab (ah ?_))));refine vf h47 2 2 rfl rfl rfl fun _ h49=>?_;refine vl h49 Y 2 rfl rfl rfl rfl fun _ h50=>?_;refine sv h50 (a8 (h50.ev rfl) (h50.ev rfl)) fun _ h51=>?_;refine ae (aa ?_);refine aB (h51.ev rfl) (fun hc2=>?_) (fun hc2=>?_)
   ·
    have h2:x.p≠0:=by simpa using hc2
    refine ah ?_;refine vf h51 1 1 rfl rfl rfl fun _ h52=>?_;refine cX h52 (wn rfl) ⟨rfl,rfl⟩ (h52.ev rfl) (h52.ev rfl) rfl (by kernel_rfl) Y (i:=0) rfl rfl rfl fun _ Y=>?_;refine vf h52 2 2 rfl rfl rfl fun _ h54=>?_;refine cX h54 (wn rfl) ⟨rfl,rfl⟩ (h54.ev rfl) (h54.ev rfl) rfl (by kernel_rfl) Y (i:=0) rfl rfl rfl fun _ Y=>?_;refine cm ?_;refine sv h54 (ay (by kernel_rfl) (by kernel_rfl) (h54.ev rfl) (Y.cellsAll (i:=0) rfl)) fun _ h56=>?_;refine aG h56 (wn rfl) ⟨rfl,rfl⟩ (h56.ev rfl) (h56.ev rfl) rfl (by kernel_rfl) Y (i:=1) rfl rfl rfl fun _ Y=>?_;refine ma h56 rfl rfl fun _ h58=>?_;refine ae (aa (wp_ret ?_));refine ek h58 rfl rfl rfl Y (i:=1) rfl (by kernel_rfl) (by kernel_rfl) ?_;exact⟨by rw[wV (m:=l[0].l-1) (by rw[hf];rfl) h1 h2];rfl,Y.below⟩
   ·
    have h2:x.p=0:=by simpa using hc2
    refine wp_skip (aa (ab (ah ?_)));refine sv h51 (ay (by kernel_rfl) (by kernel_rfl) (h51.ev rfl) (Y.cellsAll (i:=0) rfl)) fun _ h59=>?_;refine aG h59 (wn rfl) ⟨rfl,rfl⟩ (h59.ev rfl) (h59.ev rfl) rfl (by kernel_rfl) Y (i:=1) rfl rfl rfl fun _ Y=>?_;refine ma h59 rfl rfl fun _ h61=>?_;refine ae (aa (wp_ret ?_));refine ek h61 rfl rfl rfl Y (i:=1) rfl (by kernel_rfl) (by kernel_rfl) ?_;exact⟨by rw[wX (m:=l[0].l-1) (by rw[hf];rfl) h1 h2];rfl,Y.below⟩
theorem j0 (x:Lge) (w:World) (hd:x.d.size≤100000) :
 Calls Tryz.prog 155 #[dz x] w fun e w'=>e=.returned (.int .i64 (z7 x))∧Below w.heap.size w w':=by
 refine aF (N:=20) Tryz.func155 rfl rfl rfl (fun _ h0=>?_);have S0:=St.init w;refine ab (ah ?_);refine nb h0 rfl rfl S0 fun b1 _ _ gb1 h1 S1=>?_;refine ma h1 rfl rfl fun _ h2=>?_;refine ae (aa (ab (ab (ah ?_))));refine vf h2 1 1 rfl rfl rfl fun _ h3=>?_;refine vl h3 S1 0 rfl rfl rfl rfl fun _ h4=>?_;refine sv h4 (a8 (h4.ev rfl) (h4.ev rfl)) fun _ h5=>?_;refine mv h5 rfl rfl fun _ h6=>?_;apply dw h6 S1 8 rfl 4 12
 case hf=>
  intro gc8;refine sy h6 rfl rfl rfl gc8 (aj (off:=2) (j:=2) (by kernel_rfl) (h6.ev rfl) rfl) rfl rfl fun _ h7=>?_;refine sy h7 rfl rfl rfl gc8 (aw (by kernel_rfl) (h7.ev rfl) (S1.cell (i:=0) rfl rfl)) rfl rfl fun _ h8=>?_;refine sy h8 rfl rfl rfl gc8 (a8 (h8.ev rfl) (h8.ev rfl)) rfl rfl fun _ h9=>?_;refine sv h9 (aD (h9.ev rfl) gc8 (h9.ev rfl)) fun _ h10=>?_;exact ae ⟨h10.mid (m:=[(_,_),(_,_),(_,_)]) rfl,S1⟩
 case ht=>
  intro gc8;refine no h6 rfl rfl rfl gc8 rfl rfl fun _ h11=>?_;refine no h11 rfl rfl rfl gc8 rfl rfl fun _ h12=>?_;refine no h12 rfl rfl rfl gc8 rfl rfl fun _ h13=>?_;refine sv h13 (aA (h13.ev rfl) gc8 (h13.ev rfl)) fun _ h14=>?_;exact ae ⟨h14.mid (m:=[(_,_),(_,_),(_,_)]) rfl,S1⟩
 case h=>
  rintro a15 X15 ⟨h15,S15⟩
  refine ae (aa ?_);refine aB (h15.ev rfl) (fun hc0=>?_) (fun hc0=>?_)
  ·
   refine ab (ah ?_);refine ma h15 rfl rfl fun _ h16=>?_;refine ae (aa (wp_ret (ai ?_)));refine bm h16 rfl rfl ?_
   have h1:x.t≠0∨x.p≠0:=by simpa using hc0
   exact⟨by unfold z7;rw[if_pos h1];(try rfl),S15.below⟩
  ·
   refine wp_skip (aa (ab (ah ?_)));refine vf h15 12 12 rfl rfl rfl fun _ h17=>?_;refine vl h17 S15 0 rfl rfl rfl rfl fun _ h18=>?_;refine dp h18 (wn rfl) (aq (fun _ _=>by kernel_rfl) (h18.evs rfl) rfl) rfl rfl S15 (k7 (bl x.d) _ hd) fun p16 _ _ h19 S19=>?_;refine mv h19 rfl rfl fun _ h20=>?_;refine sv (v:=cR (di (bl x.d)) p16.1 p16.2.1 p16.2.2.1 p16.2.2.2) h20 (bG (h20.ev rfl) rfl) fun _ h21=>?_;refine vx h21 rfl rfl rfl fun _ h22=>?_;refine na (.agg #[.slice none 0 0,.slice none 0 0]) h22 rfl S19 fun b3 _ _ gb3 h23 S23=>?_;refine aG h23 (wn rfl) ⟨rfl,rfl⟩ (h23.ev rfl) (h23.ev rfl) rfl (by kernel_rfl) S23 (i:=0) rfl rfl rfl fun _ S24=>?_;refine ma h23 rfl rfl fun _ h25=>?_;refine cm ?_;refine mv h25 rfl rfl fun _ h26=>?_;refine ma h26 rfl rfl fun _ h27=>?_;refine ae (aa (wp_ret ?_));refine bm h27 rfl rfl ?_
   have h1:¬(x.t≠0∨x.p≠0):=by simpa using hc0
   exact⟨by unfold z7;rw[if_neg h1];(try rfl),S24.below⟩
theorem VldH.srt {l:List Rcd} {i:Nat} (h:VldH l i):cu Rcd.l (l.take i):=by
 refine List.pairwise_iff_getElem.2 fun j k hj hk hjk=>?_;have Y:=h.1;rw[List.length_take] at hj hk;rw[List.getElem_take,List.getElem_take];exact h.lt hjk (by omega)
theorem xe (x y:Op):mQ [.int .i64 x.k,.int .i64 x.a,.int .i64 x.e,.int .i64 x.c,.string x.o,.string x.n] [.int .i64 y.k,.int .i64 y.a,.int .i64 y.e,.int .i64 y.c,.string y.o,.string y.n]=decide (x=y):=by
 obtain⟨k,a,e,c,o,n⟩:=x;obtain⟨k',a',e',c',o',n'⟩:=y;rw[Bool.eq_iff_iff,decide_eq_true_eq];simp[mQ,uQ]
theorem px {x:Lge} (h:eC x=0):dq x.o=0:=by
 unfold eC at h;rw[bw] at h;exact h _ (.tail _ (.tail _ (.tail _ (.tail _ (.head _)))))
theorem Rd.takeF {α:Type} {f:α→List Value} {n:Nat} (hf:∀x,(f x).length=n) {w:World} {B:Nat} {A:Option Addr} {l:List α} (h:Rd w B A (l.flatMap f)) (k:Nat):Rd w B A ((l.take k).flatMap f):=fun j u hj=>by
 rw[←vu hf,List.getElem?_take] at hj
 split at hj
 · exact h j u hj
 · cases hj
theorem rI (l:List Rcd) (A:Option Addr) (c:Nat) (i:Nat) (ch:Chn) (x:Lge) (w:World) (hr:Rd w w.heap.size A (l.flatMap cg)) (hi:i<l.length) (hl:l.length≤1000) (hc:l.length≤c) (hv:VldH l i) (hb0:1≤dE l∧dE l≤2147483647) :
 Calls Tryz.prog 158 #[.slice A l.length c,.int .i64 i,ll ch,dz x] w fun e w'=>e=.returned (.int .i64 (ju l i ch x))∧Below w.heap.size w w':=by
 have hs:=hv.srt;have hf:=fA (l:=l) (by omega)
 have hlt:(l.take i).length=i:=by rw[List.length_take];omega
 have hrt:Rd w w.heap.size A ((l.take i).flatMap cg):=hr.takeF aJ i;obtain⟨b',o',rfl,hB,_⟩:=hr.opened (aR aJ (by decide) (by omega));refine aF (N:=80) Tryz.func158 rfl rfl rfl (fun _ Y=>?_);have Z:=St.init w;refine ab (ah ?_);refine nb Y rfl rfl Z fun b6 _ _ gb6 Y Z=>?_;refine nb Y rfl rfl Z fun b7 _ _ gb7 Y Z=>?_;refine ma Y rfl rfl fun _ Y=>?_;refine ae (aa (ab (ab (ah ?_))));refine vf Y 2 2 rfl rfl rfl fun _ Y=>?_;refine vl Y Z 1 rfl rfl rfl rfl fun _ Y=>?_;refine sv Y (aX (Y.ev rfl) (Y.ev rfl)) fun _ Y=>?_;refine ae (aa ?_);refine aB (Y.ev rfl) (fun hc0=>?_) (fun hc0=>?_)
 ·
  have hu:ch.u=0:=by simpa using hc0
  refine ab (ah ?_);refine ma Y rfl rfl fun _ Y=>?_;refine ae (aa (wp_ret (ai ?_)));refine bm Y rfl rfl ?_;exact⟨by unfold ju;rw[if_pos hu],Z.below⟩
 ·
  have hu:ch.u≠0:=by simpa using hc0
  refine wp_skip (aa (ab ?_));apply bA Y [false,false,false,false,false] _ (by kernel_rfl)
  case h=>
   refine qv Y (fun X hX=>ak (Y.ev rfl)) fun _ Y=>?_;refine qv Y (fun X hX=>ak (Y.ev rfl)) fun _ Y=>?_;refine qv Y (fun X hX=>gH (l:=0) (h:=i) (sz:=14) Tryz.underlying180 (by kernel_rfl) (Y.ev rfl) rfl (Y.ev rfl) (by omega) (by omega) (.inr rfl) rfl) fun _ Y=>?_;refine qv Y (fun X hX=>aj (off:=2) (j:=2) (by kernel_rfl) (Y.ev rfl) rfl) fun _ Y=>?_;refine qv Y (fun X hX=>aw (by kernel_rfl) (Y.ev rfl) ((Z.grow hX).cell (i:=1) rfl rfl)) fun _ Y=>?_;refine aI ?_;refine bF fun _ hX13 hΦ13=>?_;have Z:=Z.grow hX13;refine aS Y (wn rfl) (aq (fun _ _=>by kernel_rfl) (Y.evs rfl) rfl) rfl rfl Z (hlt▸kB (l.take i) hs _ c ch.u _ (Z.rd0 hrt) (by omega)) fun _ _ Y Z=>?_;refine ma Y rfl rfl fun _ Y=>?_;refine ae (aa (ab (ab (ah ?_))));refine mv Y rfl rfl fun _ Y=>?_;refine sv Y (lG Tryz.underlying219 (by kernel_rfl) (Y.ev rfl) (Y.ev rfl)) fun _ Y=>?_;refine ae (aa ?_);refine aB (Y.ev rfl) (fun hc1=>?_) (fun hc1=>?_)
   ·
    have hn:=oh hc1;refine ab ?_;apply bA Y [false,false,false,false,false,false] _ (by kernel_rfl)
    case h=>
     refine qv Y (fun X hX=>aj (off:=3) (j:=3) (by kernel_rfl) (Y.ev rfl) rfl) fun _ Y=>?_;refine qv Y (fun X hX=>aw (by kernel_rfl) (Y.ev rfl) ((Z.grow hX).cell (i:=0) rfl rfl)) fun _ Y=>?_;refine qv Y (fun X hX=>ak (Y.ev rfl)) fun _ Y=>?_;refine qv Y (fun X hX=>aC (i:=0) (sz:=14) Tryz.underlying180 (by kernel_rfl) (Y.ev rfl) (Y.ev rfl) (by omega) (by omega) rfl) fun _ Y=>?_;refine qv Y (fun X hX=>aj (off:=0) (by kernel_rfl) (Y.ev rfl) rfl) fun _ Y=>?_;refine qv Y (fun X hX=>aw (by kernel_rfl) (Y.ev rfl) ((a7 aJ ((Z.grow hX).rd0 hr) (show 0<l.length by omega)) 0 _ rfl)) fun _ Y=>?_;refine aI ?_;refine bF fun _ hX24 hΦ24=>?_;have Z:=Z.grow hX24;refine sv Y (bq (Y.ev rfl) (Y.ev rfl)) fun _ Y=>?_;refine bD Y (wn rfl) (aq (fun _ _=>by kernel_rfl) (Y.evs rfl) rfl) rfl rfl (a6 _ _ _) fun _ Y=>?_;refine ma Y rfl rfl fun _ Y=>?_;refine ae (aa (wp_ret (ai ?_)));refine bm Y rfl rfl ?_;exact⟨by unfold ju;rw[if_neg hu,hn,hf],Z.below⟩
    case hB=>kernel_rfl
    case hst=>rfl
   ·
    obtain⟨qk,q1,q2,q3⟩:=nB hs hc1;rw[show km (some ⟨b',o',none⟩) (l.take i) ch.u=some ⟨b',o'+iu Rcd.l (l.take i) ch.u*14+1,none⟩ from q3] at Y;generalize iu Rcd.l (l.take i) ch.u=k at qk q1 q2 q3 Y
    have hki:k<i:=by omega
    have hge:(l.take i)[k]=l[k]'(by omega):=List.getElem_take ..
    have hoE:dq (l.take i)[k].e.o=0:=by rw[hge];exact px (hv.e0 hki).2.2
    refine wp_skip (aa (ab (ah ?_)));refine mv Y rfl rfl fun _ Y=>?_;refine sv Y (bo (Y.ev rfl)) fun _ Y=>?_;refine sv Y (aj (off:=6) (by kernel_rfl) (Y.ev rfl) rfl) fun _ Y=>?_;refine sv (v:=eQ (l.take i)[k].e.o) Y (ay (by kernel_rfl) (by kernel_rfl) (Y.ev rfl) (AU (Z.rd0 hrt) qk)) fun _ Y=>?_;refine aS Y (wn rfl) (aq (fun _ _=>by kernel_rfl) (Y.evs rfl) rfl) rfl rfl Z (sL (l.take i)[k].e.o _ hoE) fun _ _ Y Z=>?_;refine mv Y rfl rfl fun _ Y=>?_;refine vx Y rfl rfl rfl fun _ Y=>?_;refine vx Y rfl rfl rfl fun _ Y=>?_;refine na (.agg #[.int .i64 0,.int .i64 0,.int .i64 0,.int .i64 0,.string ⟨#[]⟩,.string ⟨#[]⟩]) Y rfl Z fun b10 _ _ gb10 Y Z=>?_;refine aG Y (wn rfl) ⟨rfl,rfl⟩ (Y.ev rfl) (Y.ev rfl) rfl (by kernel_rfl) Z (i:=0) rfl rfl rfl fun _ Z=>?_;refine ma Y rfl rfl fun _ Y=>?_;refine ae (aa (ab ?_));apply bA Y [false,false,false,false,false,false,false,false,false,false,false,false,false,false,false,false,false,false,false,false,false,false,false,false,false,false,false,false,false,false,false,false,false,false,false,false,false,false] _ (by kernel_rfl)
    case h=>
     refine qv Y (fun X hX=>ak (Y.ev rfl)) fun _ Y=>?_;refine qv Y (fun X hX=>bo (Y.ev rfl)) fun _ Y=>?_;refine qv Y (fun X hX=>aj (off:=0) (by kernel_rfl) (Y.ev rfl) rfl) fun _ Y=>?_;refine qv Y (fun X hX=>aw (by kernel_rfl) (Y.ev rfl) ((dJ ((Z.grow hX).rd0 hrt) qk) 0 _ rfl)) fun _ Y=>?_;refine qv Y (fun X hX=>aX (Y.ev rfl) (Y.ev rfl)) fun _ Y=>?_;refine qv Y (fun X hX=>ak (Y.ev rfl)) fun _ Y=>?_;apply kG Y 45 rfl 8 53
     case ht=>
      intro gc45;refine ax Y (ag Y _ rfl rfl rfl gc45) rfl rfl (fun X hX=>(aj (off:=3) (j:=3) (by kernel_rfl) (Y.ev rfl) rfl)) fun _ Y=>?_;refine ax Y (ag Y _ rfl rfl rfl gc45) rfl rfl (fun X hX=>(aw (by kernel_rfl) (Y.ev rfl) ((Z.grow hX).cell (i:=1) rfl rfl))) fun _ Y=>?_;refine ax Y (ag Y _ rfl rfl rfl gc45) rfl rfl (fun X hX=>(ak (Y.ev rfl))) fun _ Y=>?_;refine ax Y (ag Y _ rfl rfl rfl gc45) rfl rfl (fun X hX=>(bo (Y.ev rfl))) fun _ Y=>?_;refine ax Y (ag Y _ rfl rfl rfl gc45) rfl rfl (fun X hX=>(aj (off:=2) (by kernel_rfl) (Y.ev rfl) rfl)) fun _ Y=>?_;refine ax Y (ag Y _ rfl rfl rfl gc45) rfl rfl (fun X hX=>(aw (by kernel_rfl) (Y.ev rfl) ((dJ ((Z.grow hX).rd0 hrt) qk) 2 _ rfl))) fun _ Y=>?_;refine ax Y (ag Y _ rfl rfl rfl gc45) rfl rfl (fun X hX=>(aX (Y.ev rfl) (Y.ev rfl))) fun _ Y=>?_;refine qv Y (fun X hX=>aA (Y.ev rfl) gc45 (Y.ev rfl)) fun _ Y=>?_;exact aI (Y.mid (m:=[(_,_),(_,_),(_,_),(_,_),(_,_),(_,_),(_,_)]) rfl)
     case hf=>
      intro gc45;refine qo Y rfl rfl rfl gc45 rfl rfl fun _ Y=>?_;refine qo Y rfl rfl rfl gc45 rfl rfl fun _ Y=>?_;refine qo Y rfl rfl rfl gc45 rfl rfl fun _ Y=>?_;refine qo Y rfl rfl rfl gc45 rfl rfl fun _ Y=>?_;refine qo Y rfl rfl rfl gc45 rfl rfl fun _ Y=>?_;refine qo Y rfl rfl rfl gc45 rfl rfl fun _ Y=>?_;refine qo Y rfl rfl rfl gc45 rfl rfl fun _ Y=>?_;refine qv Y (fun X hX=>aD (Y.ev rfl) gc45 (Y.ev rfl)) fun _ Y=>?_;exact aI (Y.mid (m:=[(_,_),(_,_),(_,_),(_,_),(_,_),(_,_),(_,_)]) rfl)
     case h=>
      intro _ Y;refine qv Y (fun X hX=>ak (Y.ev rfl)) fun _ Y=>?_;apply kG Y 54 rfl 8 62
      case ht=>
       intro gc54;refine ax Y (ag Y _ rfl rfl rfl gc54) rfl rfl (fun X hX=>(aj (off:=4) (j:=4) (by kernel_rfl) (Y.ev rfl) rfl)) fun _ Y=>?_;refine ax Y (ag Y _ rfl rfl rfl gc54) rfl rfl (fun X hX=>(aw (by kernel_rfl) (Y.ev rfl) ((Z.grow hX).cell (i:=1) rfl rfl))) fun _ Y=>?_;refine ax Y (ag Y _ rfl rfl rfl gc54) rfl rfl (fun X hX=>(ak (Y.ev rfl))) fun _ Y=>?_;refine ax Y (ag Y _ rfl rfl rfl gc54) rfl rfl (fun X hX=>(bo (Y.ev rfl))) fun _ Y=>?_;refine ax Y (ag Y _ rfl rfl rfl gc54) rfl rfl (fun X hX=>(aj (off:=4) (by kernel_rfl) (Y.ev rfl) rfl)) fun _ Y=>?_;refine ax Y (ag Y _ rfl rfl rfl gc54) rfl rfl (fun X hX=>(aw (by kernel_rfl) (Y.ev rfl) ((dJ ((Z.grow hX).rd0 hrt) qk) 4 _ rfl))) fun _ Y=>?_;refine ax Y (ag Y _ rfl rfl rfl gc54) rfl rfl (fun X hX=>(aX (Y.ev rfl) (Y.ev rfl))) fun _ Y=>?_;refine qv Y (fun X hX=>aA (Y.ev rfl) gc54 (Y.ev rfl)) fun _ Y=>?_;exact aI (Y.mid (m:=[(_,_),(_,_),(_,_),(_,_),(_,_),(_,_),(_,_)]) rfl)
      case hf=>
       intro gc54;refine qo Y rfl rfl rfl gc54 rfl rfl fun _ Y=>?_;refine qo Y rfl rfl rfl gc54 rfl rfl fun _ Y=>?_;refine qo Y rfl rfl rfl gc54 rfl rfl fun _ Y=>?_;refine qo Y rfl rfl rfl gc54 rfl rfl fun _ Y=>?_;refine qo Y rfl rfl rfl gc54 rfl rfl fun _ Y=>?_;refine qo Y rfl rfl rfl gc54 rfl rfl fun _ Y=>?_;refine qo Y rfl rfl rfl gc54 rfl rfl fun _ Y=>?_;refine qv Y (fun X hX=>aD (Y.ev rfl) gc54 (Y.ev rfl)) fun _ Y=>?_;exact aI (Y.mid (m:=[(_,_),(_,_),(_,_),(_,_),(_,_),(_,_),(_,_)]) rfl)
      case h=>
       intro _ Y;refine qv Y (fun X hX=>ak (Y.ev rfl)) fun _ Y=>?_;apply kG Y 63 rfl 8 71
       case ht=>
        intro gc63;refine ax Y (ag Y _ rfl rfl rfl gc63) rfl rfl (fun X hX=>(aj (off:=5) (j:=5) (by kernel_rfl) (Y.ev rfl) rfl)) fun _ Y=>?_;refine ax Y (ag Y _ rfl rfl rfl gc63) rfl rfl (fun X hX=>(aw (by kernel_rfl) (Y.ev rfl) ((Z.grow hX).cell (i:=1) rfl rfl))) fun _ Y=>?_;refine ax Y (ag Y _ rfl rfl rfl gc63) rfl rfl (fun X hX=>(ak (Y.ev rfl))) fun _ Y=>?_;refine ax Y (ag Y _ rfl rfl rfl gc63) rfl rfl (fun X hX=>(bo (Y.ev rfl))) fun _ Y=>?_;refine ax Y (ag Y _ rfl rfl rfl gc63) rfl rfl (fun X hX=>(aj (off:=5) (by kernel_rfl) (Y.ev rfl) rfl)) fun _ Y=>?_;refine ax Y (ag Y _ rfl rfl rfl gc63) rfl rfl (fun X hX=>(aw (by kernel_rfl) (Y.ev rfl) ((dJ ((Z.grow hX).rd0 hrt) qk) 5 _ rfl))) fun _ Y=>?_;refine ax Y (ag Y _ rfl rfl rfl gc63) rfl rfl (fun X hX=>(sU Tryz.underlying4 (Y.ev rfl) (Y.ev rfl))) fun _ Y=>?_;refine qv Y (fun X hX=>aA (Y.ev rfl) gc63 (Y.ev rfl)) fun _ Y=>?_;exact aI (Y.mid (m:=[(_,_),(_,_),(_,_),(_,_),(_,_),(_,_),(_,_)]) rfl)
       case hf=>
        intro gc63;refine qo Y rfl rfl rfl gc63 rfl rfl fun _ Y=>?_;refine qo Y rfl rfl rfl gc63 rfl rfl fun _ Y=>?_;refine qo Y rfl rfl rfl gc63 rfl rfl fun _ Y=>?_;refine qo Y rfl rfl rfl gc63 rfl rfl fun _ Y=>?_;refine qo Y rfl rfl rfl gc63 rfl rfl fun _ Y=>?_;refine qo Y rfl rfl rfl gc63 rfl rfl fun _ Y=>?_;refine qo Y rfl rfl rfl gc63 rfl rfl fun _ Y=>?_;refine qv Y (fun X hX=>aD (Y.ev rfl) gc63 (Y.ev rfl)) fun _ Y=>?_;exact aI (Y.mid (m:=[(_,_),(_,_),(_,_),(_,_),(_,_),(_,_),(_,_)]) rfl)
       case h=>
        intro _ Y;refine qv Y (fun X hX=>ak (Y.ev rfl)) fun _ Y=>?_;apply kG Y 72 rfl 5 77
        case ht=>
         intro gc72;refine ax Y (ag Y _ rfl rfl rfl gc72) rfl rfl (fun X hX=>(aj (off:=6) (j:=6) (by kernel_rfl) (Y.ev rfl) rfl)) fun _ Y=>?_;refine ax Y (ag Y _ rfl rfl rfl gc72) rfl rfl (fun X hX=>(ay (by kernel_rfl) (by kernel_rfl) (Y.ev rfl) ((Z.grow hX).cellsOf (i:=1) rfl 6 6))) fun _ Y=>?_;refine ax Y (ag Y _ rfl rfl rfl gc72) rfl rfl (fun X hX=>(ay (by kernel_rfl) (by kernel_rfl) (Y.ev rfl) ((Z.grow hX).cellsAll (i:=0) rfl))) fun _ Y=>?_;refine ax Y (ag Y _ rfl rfl rfl gc72) rfl rfl (fun X hX=>(tj (ks:=[.i .i64,.i .i64,.i .i64,.i .i64,.s,.s]) (by kernel_rfl) Tryz.underlying141 (by kernel_rfl) (Y.ev rfl) (Y.ev rfl) rfl rfl)) fun _ Y=>?_;refine qv Y (fun X hX=>aA (Y.ev rfl) gc72 (Y.ev rfl)) fun _ Y=>?_;exact aI (Y.mid (m:=[(_,_),(_,_),(_,_),(_,_)]) rfl)
        case hf=>
         intro gc72;refine qo Y rfl rfl rfl gc72 rfl rfl fun _ Y=>?_;refine qo Y rfl rfl rfl gc72 rfl rfl fun _ Y=>?_;refine qo Y rfl rfl rfl gc72 rfl rfl fun _ Y=>?_;refine qo Y rfl rfl rfl gc72 rfl rfl fun _ Y=>?_;refine qv Y (fun X hX=>aD (Y.ev rfl) gc72 (Y.ev rfl)) fun _ Y=>?_;exact aI (Y.mid (m:=[(_,_),(_,_),(_,_),(_,_)]) rfl)
        case h=>
         intro _ Y;refine aI ?_;refine bF fun _ hX110 hΦ110=>?_;have Z:=Z.grow hX110;refine ma Y rfl rfl fun _ Y=>?_;refine cm ?_;refine mv Y rfl rfl fun _ Y=>?_;refine bD Y (wn rfl) (aq (fun _ _=>by kernel_rfl) (Y.evs rfl) rfl) rfl rfl (a6 _ _ _) fun _ Y=>?_;refine ma Y rfl rfl fun _ Y=>?_;refine ae (aa (wp_ret ?_));refine bm Y rfl rfl ?_;refine⟨?_,Z.below⟩;have e:=xe x.o (jb (l.take i)[k].e.o);unfold ju;rw[if_neg hu,q2];show _=Ending.returned (.int .i64 (bO (_&&_&&_&&_&&decide (x.o=jb (l.take i)[k].e.o)) 13));rw[←e];rfl
    case hB=>kernel_rfl
    case hst=>rfl
  case hB=>kernel_rfl
  case hst=>rfl
set_option maxRecDepth 4000
open Go.RowKit Go.Sort
def zZ:List Int→Int→Nat→Int
 | [],_,_=>-1
 | x::r,v,k=>if v=x then k else zZ r v (k+1)
theorem tx:∀(l:List Int) (v:Int) (k:Nat),decide (zZ l v k≥0)=l.any fun x=>x==v
 | [],v,k=>rfl
 | x::r,v,k=>by
  unfold zZ;rw[List.any_cons];by_cases h:v=x
  · rw[if_pos h,decide_eq_true (by omega),show(x==v)=true by rw[h];exact beq_self_eq_true x];rfl
  · rw[if_neg h,tx r v (k+1),show(x==v)=false by rw[beq_eq_false_iff_ne];exact fun e=>h e.symm];rfl
theorem Ab {X:World} {B b o k:Nat} {l:List Int} (hr:Rd X B (some ⟨b,o,none⟩) (l.map (.int .i64))) (hk:k<l.length):∀(j:Nat) (u:Value),[Value.int .i64 l[k]][j]? = some u→X.cell? ⟨b,o+k*1+j,none⟩=some u
 | 0,u,hu=>by
  obtain⟨b',o',e,_,hc⟩:=hr k u (by rw[List.getElem?_map,List.getElem?_eq_getElem hk];exact hu);injection e with e;injection e with e1 e2;subst e1 e2;rw[Nat.mul_one,Nat.add_zero];exact hc
 | j+1,u,hu=>by simp at hu
theorem uG (l:List Int) (A:Option Addr) (c:Nat) (v:Int) (w:World) (hr:Rd w w.heap.size A (l.map (.int .i64))) (hl:l.length≤1000) :
 Calls Tryz.prog 218 #[.slice A l.length c,.int .i64 v] w fun e w'=>e=.returned (.int .i64 (zZ l v 0))∧Below w.heap.size w w':=by
 refine aF (N:=19) Tryz.func218 rfl rfl rfl (fun _ Y=>?_);have Z:=St.init w;refine ab (ah ?_);refine ma Y rfl rfl fun _ Y=>?_;refine ae (aa (ab (ab (ah ?_))));refine mv Y rfl rfl fun _ Y=>?_;refine sv Y (bf Tryz.underlying53 (Y.ev rfl)) fun _ Y=>?_;refine mv Y rfl rfl fun _ Y=>?_;refine ae (aa (wp_block ?_));refine bz Y Z [7,0,1] (fun (j:Nat)=>[(8,.int .i64 j)]) (fun (j:Nat)=>j≤l.length∧zZ l v 0=zZ (l.drop j) v j) (fun (j:Nat) L=>L) (fun (j:Nat)=>l.length-j) (0) (⟨Nat.zero_le _,rfl⟩) ⟨rfl,rfl,rfl,rfl,trivial⟩ (Z) ?_;intro j _ _ hF0 Y Z;refine ab (ah ?_);refine sv Y (bq (Y.ev rfl) (Y.ev rfl)) fun _ Y=>?_;refine ae (aa (ab ?_));refine aB (Y.ev rfl) (fun hc0=>?_) (fun hc0=>?_)
 ·
  have hlt:j<l.length:=by have:=of_decide_eq_true hc0;omega
  obtain⟨b,o,rfl,hB,hcc⟩:=hr.opened (by rw[List.length_map];omega);have hd:l.drop j=l[j]::l.drop (j+1):=List.drop_eq_getElem_cons hlt;refine wp_skip (aa (ab (wp_block (ab (ah ?_)))));refine mv Y rfl rfl fun _ Y=>?_;refine ma Y rfl rfl fun _ Y=>?_;refine cm ?_;refine mv Y rfl rfl fun _ Y=>?_;refine mv Y rfl rfl fun _ Y=>?_;refine mv Y rfl rfl fun _ Y=>?_;refine sv Y (aC (i:=j) (sz:=1) Tryz.underlying53 (by kernel_rfl) (Y.ev rfl) (Y.ev rfl) (by omega) (by omega) rfl) fun _ Y=>?_;refine sv Y (aw (by kernel_rfl) (Y.ev rfl) ((Ab (Z.rd0 hr) hlt) 0 _ rfl)) fun _ Y=>?_;refine sv Y (aX (Y.ev rfl) (Y.ev rfl)) fun _ Y=>?_;refine ae (aa ?_);refine aB (Y.ev rfl) (fun hc1=>?_) (fun hc1=>?_)
  ·
   refine ab (ah ?_);refine mv Y rfl rfl fun _ Y=>?_;refine ma Y rfl rfl fun _ Y=>?_;refine ae (aa (wp_ret (az (ai (ai (az (ai ?_)))))));refine bm Y rfl rfl ?_;exact⟨by rw[hF0.2,hd,zZ,if_pos (by simpa using hc1)],Z.below⟩
  ·
   refine wp_skip (aO (aa (ah ?_)));refine sv Y (aV (Y.ev rfl) (Y.ev rfl) (by omega)) fun _ Y=>?_;refine mv Y rfl rfl fun _ Y=>?_;refine ae (aa ?_);exact⟨j+1,by omega,⟨hlt,by rw[hF0.2,hd,zZ,if_neg (by simpa using hc1)]⟩,Y.re ⟨rfl,rfl,rfl,rfl,trivial⟩,Z⟩
 ·
  have hge:l.length≤j:=by have:=of_decide_eq_false hc0;omega
  refine wp_exit ?_;refine av ?_;refine av ?_;refine bn ?_;refine aa (ab (ah ?_));refine ma Y rfl rfl fun _ Y=>?_;refine ae (aa (wp_ret ?_));refine bm Y rfl rfl ?_;exact⟨by rw[hF0.2,List.drop_of_length_le hge];rfl,Z.below⟩
theorem pD (l:List Int) (A:Option Addr) (c:Nat) (v:Int) (w:World) (hr:Rd w w.heap.size A (l.map (.int .i64))) (hl:l.length≤1000) :
 Calls Tryz.prog 157 #[.slice A l.length c,.int .i64 v] w fun e w'=>e=.returned (.bool (l.any fun x=>x==v))∧Below w.heap.size w w':=by
 refine aF (N:=9) Tryz.func157 rfl rfl rfl (fun _ Y=>?_);have Z:=St.init w;refine ab (ah ?_);refine ma Y rfl rfl fun _ Y=>?_;refine cm ?_;refine mv Y rfl rfl fun _ Y=>?_;refine mv Y rfl rfl fun _ Y=>?_;refine aS Y (wn rfl) (aq (fun _ _=>by kernel_rfl) (Y.evs rfl) rfl) rfl rfl Z (uG l A c v _ (Z.rd0 hr) hl) fun _ _ Y Z=>?_;refine sv Y (jx (Y.ev rfl) (Y.ev rfl)) fun _ Y=>?_;refine ma Y rfl rfl fun _ Y=>?_;refine ae (aa (wp_ret ?_));refine bm Y rfl rfl ?_;exact⟨by rw[←tx l v 0],Z.below⟩
set_option maxRecDepth 4000
open Go.RowKit Go.Sort
structure FolT (w:World):Prop where
 cells:∀k:Nat,k<6→∃A c,w.cell? ⟨0,k,none⟩=some (.slice A (sN k).length c)∧Rd w w.heap.size A ((sN k).map (.int .i64))
theorem FolT.below {w w':World} (h:FolT w) (hb:Below w.heap.size w w'):FolT w':=⟨fun k hk=>by
 obtain⟨A,c,h1,h2⟩:=h.cells k hk
 exact⟨A,c,(hb.cell (p:=⟨0,k,none⟩) (block_lt_of_cell h1)).trans h1,h2.below' hb⟩⟩
structure KeptM (m:Nat) (w X:World):Prop where
 size:w.heap.size≤X.heap.size
 block:∀b,b<w.heap.size→b≠m→X.heap[b]? = w.heap[b]?
theorem St.keptM {m:Nat} {w X:World} {L:List Ent} (h:St [m] w X L):KeptM m w X:=⟨h.size,fun b hb hne=>h.block b hb (by simpa using hne)⟩
theorem KeptM.cell {m:Nat} {w X:World} (h:KeptM m w X) (hm:∃es ck,w.heap[m]? = some (.map es ck)) {a:Addr} {v:Value} (hc:w.cell? a=some v):X.cell? a=some v:=by
 obtain⟨es,ck,hm⟩:=hm;have hlt:=block_lt_of_cell hc;refine(World.cell?_of_block (h.block _ hlt (fun e=>?_))).trans hc;unfold World.cell? at hc;rw[e,hm] at hc
 cases hc
theorem KeptM.rd {m:Nat} {w X:World} (h:KeptM m w X) (hm:∃es ck,w.heap[m]? = some (.map es ck)) {A:Option Addr} {xs:List Value} (hr:Rd w w.heap.size A xs):Rd X X.heap.size A xs:=fun j u hj=>by
 obtain⟨b,o,h1,h2,h3⟩:=hr j u hj;exact⟨b,o,h1,Nat.lt_of_lt_of_le h2 h.size,h.cell hm h3⟩
theorem KeptM.fol {m:Nat} {w X:World} (h:KeptM m w X) (hm:∃es ck,w.heap[m]? = some (.map es ck)) (hf:FolT w):FolT X:=⟨fun k hk=>by
 obtain⟨A,c,h1,h2⟩:=hf.cells k hk
 exact⟨A,c,h.cell hm h1,h.rd hm h2⟩⟩
structure FewE (x:Lge):Prop where
 o:x.o.o.size≤3100
 n:x.o.n.size≤3100
 d:x.d.size≤100000
def ss (l:List Rcd) (i:Nat):Bool:=match cB l i with
 | none=>true
 | some y=>match l[i]? with | none=>true | some x=>decide (y.l<x.l)
def jD (g:Int→Option Chn):Int→Option Value:=fun t=>(g t).map ll
theorem w9 (g:Int→Option Chn) (t:Int) (c:Chn):eN (jD g) t (some (ll c))=jD (vv g t c):=by
 funext s;unfold eN jD vv;split<;>rfl
def mR:Chn:=⟨0,0,0⟩
theorem wc {l:List Rcd} {i:Nat} (hi:i<l.length):ei l i l[i]=aP [bO (bE l[i].l 1 2147483647) 2,bO ((i:Int)==0||ss l i) 9,eC l[i].e]:=by
 have e:((i:Int)==0||ss l i)=ss l i:=by
  rcases Nat.eq_zero_or_pos i with h0 | h0
  · subst h0;rfl
  · rw[show((i:Int)==0)=false by rw[beq_eq_false_iff_ne];omega];rfl
 rw[e];unfold ei ss;rw[List.getElem?_eq_getElem hi]
 cases cB l i<;>rfl
theorem Ae {l:List Rcd} {i:Nat} (hv:VldH l i) (hi:i<l.length) (h0:ei l i l[i]=0):1≤dE l∧dE l≤2147483647:=by
 rw[fA (by omega)];rcases Nat.eq_zero_or_pos i with h | h
 · subst h
   unfold ei at h0;rw[bw] at h0;exact inB_true.1 ((bC (by decide)).1 (h0 _ (.head _)))
 · have:=hv.e0 h
   exact⟨this.1,this.2.1⟩
theorem wg {h0:Int} {g:Int→Option Chn} {x:Lge} (h:((g x.t).isSome&&((g x.t).getD mR).k != 4)=true):gD h0 g x=((g x.t).getD mR,bO (x.p==((g x.t).getD mR).l) 14):=by
 unfold gD
 cases hg:g x.t with
 | none=>rw[hg] at h;cases h
 | some c=>
  rw[hg] at h
  have hk:c.k≠4:=by simpa using h
  simp only[];rw[if_neg hk];rfl
theorem w8 {h0:Int} {g:Int→Option Chn} {x:Lge} (h:((g x.t).isSome&&((g x.t).getD mR).k != 4)=false):gD h0 g x=gl h0 x (g x.t).isSome:=by
 unfold gD
 cases hg:g x.t with
 | none=>rfl
 | some c=>
  rw[hg] at h
  have hk:c.k=4:=by simpa using h
  simp only[];rw[if_pos hk];rfl
theorem tO {l:List Rcd} {i:Nat} (hv:VldH l i) (x:Lge) (h0:(gD (dE l) (cc l i) x).2=0) (hk:(gD (dE l) (cc l i) x).1.k≠-1):∃k:Nat,k<6∧(gD (dE l) (cc l i) x).1.k=(k:Int):=by
 have hbeg:∀b,(gl (dE l) x b).2=0→(gl (dE l) x b).1.k≠-1→∃k:Nat,k<6∧(gl (dE l) x b).1.k=(k:Int):=fun b q0 qk=>by
  obtain⟨_,h1⟩:=gU q0;rw[h1] at qk ⊢;simp only[] at qk ⊢
  split at qk
  · exact absurd rfl qk
  · rename_i hp;exact⟨0,by decide,by rw[if_neg hp];rfl⟩
 unfold gD at h0 hk ⊢;have hc:=j7 i (by have:=hv.1;omega) hv.2 x.t
 cases hg:cc l i x.t with
 | none=>rw[hg] at h0 hk;simp only[] at h0 hk ⊢;exact hbeg _ h0 hk
 | some c=>
  rw[hg] at h0 hk;simp only[] at h0 hk ⊢
  split at h0
  · rename_i h4;rw[if_pos h4] at hk ⊢;exact hbeg _ h0 hk
  · rename_i h4
    rw[if_neg h4] at hk ⊢;rw[hg] at hc
    cases hb:bP l x.t i with
    | none=>rw[hb] at hc;cases hc
    | some k=>
     rw[hb] at hc;obtain⟨hki,y,hy,h5,ht⟩:=fb hb;have hkl:k<l.length:=(List.getElem?_eq_some_iff.1 hy).1
     have e1:c=kb l k:=by simpa using hc
     have e2:=sI (hv.e0 hki).2.2
     have e3:c.k=l[k].e.k:=by rw[e1];exact gC hkl
     refine⟨c.k.toNat,?_,?_⟩<;>(show _;rw[e3];omega)
def AR (c:Chn × Int) (x:Lge):Int:=aP [c.2,if c.1.k = -1 then 0 else bO (nj c.1.k x.k) 20]
theorem wN (l:List Rcd) (i:Nat) (c:Chn × Int) (x:Lge):kZ l i c x=if AR c x=0 then (if x.k=1 then ju l i c.1 x else 0) else AR c x:=by
 unfold kZ AR;generalize (if c.1.k = -1 then 0 else bO (nj c.1.k x.k) 20)=b;generalize (if x.k=1 then ju l i c.1 x else 0)=d
 by_cases h1:c.2=0<;>by_cases h2:b=0<;>simp[aP,h1,h2]<;>(intro h;exact h.symm)
theorem wG (k:Int):(sN k).length≤1000:=by
 unfold sN;split<;>(try split)<;>(try split)<;>(try split)<;>decide
theorem xI (b:Int):aP [0,b]=b:=by by_cases h:b=0<;>simp[aP,h]
set_option maxHeartbeats 2000000 in
theorem sG (l:List Rcd) (A:Option Addr) (c:Nat) (i:Nat) (m:Nat) (w:World) (hr:Rd w w.heap.size A (l.flatMap cg)) (hi:i<l.length) (hl:l.length≤1000) (hc:l.length≤c) (hv:VldH l i)
 (hm:MapF w m (jD (cc l i))) (hF:FolT w) (hx:∀x∈l,FewE x.e) :
 Calls Tryz.prog 104 #[.slice A l.length c,.int .i64 i,.map (some m)] w fun e w'=>∃g,e=.returned (.int .i64 (dL l i (cc l i) l[i]))∧(dL l i (cc l i) l[i]=0→g=cc l (i+1))∧St [m] w w' [cM m (jD g)]:=by
 have hmm:∃es ck,w.heap[m]? = some (.map es ck):=by obtain⟨es,ck,h1,_⟩:=hm;exact⟨es,ck,h1⟩
 have hfe:=hx _ (List.getElem_mem hi);obtain⟨b',o',rfl,hB,_⟩:=hr.opened (aR aJ (by decide) (by omega));obtain⟨RC,hRC⟩:∃RC,RC=gD (dE l) (cc l i) l[i].e:=⟨_,rfl⟩;have q9:=wc hi;refine aF (N:=118) Tryz.func104 rfl rfl rfl (fun _ h0=>?_);have S0:=(St.initInv hm (fun b hb=>⟨by rw[hb];exact List.mem_singleton.2 rfl,by rw[hb];exact hm.lt⟩):St [m] w w [cM m (jD (cc l i))]);refine ab (ah ?_);refine ma h0 rfl rfl fun _ h1=>?_;refine ae (aa (ab ?_));apply bA h1 [false,false,false,false,false,false,false,false,false,false,true,false] _ (by kernel_rfl)
 case h=>
  refine qv h1 (fun X hX=>ak (h1.ev rfl)) fun _ h2=>?_;refine qv h2 (fun X hX=>ak (h2.ev rfl)) fun _ h3=>?_;refine qv h3 (fun X hX=>aC (i:=i) (sz:=14) Tryz.underlying180 (by kernel_rfl) (h3.ev rfl) (h3.ev rfl) (by omega) (by omega) rfl) fun _ h4=>?_;refine qv h4 (fun X hX=>aj (off:=0) (by kernel_rfl) (h4.ev rfl) rfl) fun _ h5=>?_;refine qv h5 (fun X hX=>aw (by kernel_rfl) (h5.ev rfl) ((a7 aJ (((S0.grow hX).keptM).rd hmm hr) hi) 0 _ rfl)) fun _ h6=>?_;refine qv h6 (fun X hX=>ak (h6.ev rfl)) fun _ h7=>?_;refine qv h7 (fun X hX=>ak (h7.ev rfl)) fun _ h8=>?_;refine qv h8 (fun X hX=>aC (i:=i) (sz:=14) Tryz.underlying180 (by kernel_rfl) (h8.ev rfl) (h8.ev rfl) (by omega) (by omega) rfl) fun _ h9=>?_;refine qv h9 (fun X hX=>aj (off:=1) (by kernel_rfl) (h9.ev rfl) rfl) fun _ h10=>?_;refine qv (v:=dz l[i].e) h10 (fun X hX=>ay (by kernel_rfl) (by kernel_rfl) (h10.ev rfl) (dJ (((S0.grow hX).keptM).rd hmm hr) hi)) fun _ h11=>?_;refine qv h11 (fun X hX=>fx (h11.ev rfl)) fun _ h12=>?_;refine aI ?_;apply iV (k:=10) (deps:=[]) (R:=NewB _ (fun b=>.pointer (some ⟨b,0,none⟩)) _ _) h12 rfl rfl rfl NewB.stable (fun X hX hΦ=>kF (fE (z:=.agg #[.int .i64 0,.int .i64 0,.int .i64 0,.int .i64 0,.int .i64 0,.bool false,.int .i64 0,.int .i64 0,.int .i64 0,.int .i64 0,.string ⟨#[]⟩,.string ⟨#[]⟩,.string ⟨#[]⟩]) (by kernel_rfl)) hX.size);intro v8 _ h13;refine bF fun _ hX14 hΦ14=>?_;have S14:=S0.grow hX14;have qv8:=bW hΦ14 (k:=10) rfl;obtain⟨b8,rfl,gb8,qv8⟩:=qv8;have S15:=S0.add hX14 (e:=.box _ _ _) qv8 (fun b hb=>by cases hb;exact⟨gb8,Box.lt qv8⟩);refine aG h13 (wn rfl) ⟨rfl,rfl⟩ (h13.ev rfl) (h13.ev rfl) rfl (by kernel_rfl) S15 (i:=0) rfl rfl rfl fun _ S16=>?_;refine ae (aa (ab ?_));apply bA h13 [false,false,false,false,false,false,false,false,false,false,false,false,false,false,false,false,false,false] _ (by kernel_rfl)
  case h=>
   refine qv h13 (fun X hX=>ak (h13.ev rfl)) fun _ h17=>?_;refine dn h17 (wn rfl) rfl rfl (fun X=>(aq (fun _ _=>by kernel_rfl) (h17.evs rfl) rfl)) (fun X hX=>bX _ _ _ _) fun _ h18=>?_;refine dn h18 (wn rfl) rfl rfl (fun X=>(aq (fun _ _=>by kernel_rfl) (h18.evs rfl) rfl)) (fun X hX=>a6 _ _ _) fun _ h19=>?_;refine qv h19 (fun X hX=>ak (h19.ev rfl)) fun _ h20=>?_;refine qv h20 (fun X hX=>aX (h20.ev rfl) (h20.ev rfl)) fun _ h21=>?_;refine qv h21 (fun X hX=>ak (h21.ev rfl)) fun _ h22=>?_;apply jg (x:=ss l i) h22 27 rfl 10 37
   case hf=>
    intro gc27
    have hi0:i≠0:=by simp only[beq_eq_false_iff_ne] at gc27;omega
    have hi1:i-1<l.length:=by omega
    have hbf:cB l i=some l[i-1]:=by unfold cB;rw[if_neg hi0,List.getElem?_eq_getElem hi1]
    refine ax h22 (ag h22 _ rfl rfl rfl gc27) rfl rfl (fun X hX=>(ak (h22.ev rfl))) fun _ h23=>?_;refine ax h23 (ag h23 _ rfl rfl rfl gc27) rfl rfl (fun X hX=>(ak (h23.ev rfl))) fun _ h24=>?_;refine ax h24 (ag h24 _ rfl rfl rfl gc27) rfl rfl (fun X hX=>(fH (h24.ev rfl) (h24.ev rfl) (by omega))) fun _ h25=>?_;refine ax h25 (ag h25 _ rfl rfl rfl gc27) rfl rfl (fun X hX=>(pF (by kernel_rfl) (h25.ev rfl) (h25.ev rfl))) fun _ h26=>?_;refine ax h26 (ag h26 _ rfl rfl rfl gc27) rfl rfl (fun X hX=>(aC (i:=i-1) (sz:=14) Tryz.underlying180 (by kernel_rfl) (h26.ev rfl) (h26.ev rfl) (by omega) (by omega) rfl)) fun _ h27=>?_;refine ax h27 (ag h27 _ rfl rfl rfl gc27) rfl rfl (fun X hX=>(aj (off:=0) (by kernel_rfl) (h27.ev rfl) rfl)) fun _ h28=>?_;refine ax h28 (ag h28 _ rfl rfl rfl gc27) rfl rfl (fun X hX=>(aw (by kernel_rfl) (h28.ev rfl) ((a7 aJ (((S16.grow hX).keptM).rd hmm hr) hi1) 0 _ rfl))) fun _ h29=>?_;refine ax h29 (ag h29 _ rfl rfl rfl gc27) rfl rfl (fun X hX=>(ak (h29.ev rfl))) fun _ h30=>?_;refine ax h30 (ag h30 _ rfl rfl rfl gc27) rfl rfl (fun X hX=>(bb (v':=.bool (ss l i)) (congrArg Value.bool (by unfold ss;rw[hbf,List.getElem?_eq_getElem hi])) (bq (h30.ev rfl) (h30.ev rfl)))) fun _ h31=>?_;refine qv h31 (fun X hX=>aD (h31.ev rfl) gc27 (h31.ev rfl)) fun _ h32=>?_;exact aI (h32.mid (m:=[(_,_),(_,_),(_,_),(_,_),(_,_),(_,_),(_,_),(_,_),(_,_)]) rfl)
   case ht=>
    intro gc27;refine qo h22 rfl rfl rfl gc27 rfl rfl fun _ h33=>?_;refine qo h33 rfl rfl rfl gc27 rfl rfl fun _ h34=>?_;refine qo h34 rfl rfl rfl gc27 rfl rfl fun _ h35=>?_;refine qo h35 rfl rfl rfl gc27 rfl rfl fun _ h36=>?_;refine qo h36 rfl rfl rfl gc27 rfl rfl fun _ h37=>?_;refine qo h37 rfl rfl rfl gc27 rfl rfl fun _ h38=>?_;refine qo h38 rfl rfl rfl gc27 rfl rfl fun _ h39=>?_;refine qo h39 rfl rfl rfl gc27 rfl rfl fun _ h40=>?_;refine qo h40 rfl rfl rfl gc27 rfl rfl fun _ h41=>?_;refine qv h41 (fun X hX=>aA (h41.ev rfl) gc27 (h41.ev rfl)) fun _ h42=>?_;exact aI (h42.mid (m:=[(_,_),(_,_),(_,_),(_,_),(_,_),(_,_),(_,_),(_,_),(_,_)]) rfl)
   case h=>
    intro _ h43;refine dn h43 (wn rfl) rfl rfl (fun X=>(aq (fun _ _=>by kernel_rfl) (h43.evs rfl) rfl)) (fun X hX=>a6 _ _ _) fun _ h44=>?_;refine qv h44 (fun X hX=>ay (by kernel_rfl) (by kernel_rfl) (h44.ev rfl) ((S16.grow hX).cellsAll (i:=0) rfl)) fun _ h45=>?_;refine aI ?_;refine bF fun _ hX46 hΦ46=>?_;have S46:=S16.grow hX46;refine aS h45 (wn rfl) (aq (fun _ _=>by kernel_rfl) (h45.evs rfl) rfl) rfl rfl S46 (lM l[i].e _ hfe.o hfe.n (by have:=hfe.d;unfold maxLen;omega)) fun _ _ h47 S47=>?_;refine dr h47 (wn rfl) (f:=fun b=>.slice (some ⟨b,0,none⟩) 3 3) (cj Tryz.underlying214 (by kernel_rfl) (by kernel_rfl) (h47.evs2 rfl) rfl rfl rfl (by decide) (by decide)) rfl rfl S47 fun b41 _ _ gb41 h48 S48=>?_;refine bD h48 (wn rfl) (aq (fun _ _=>by kernel_rfl) (h48.evs rfl) rfl) rfl rfl (fk (S48.at_ (i:=0) rfl)) fun _ h49=>?_;refine ma h49 rfl rfl fun _ h50=>?_;refine ae (aa (ab (wp_block (ab (ah ?_)))));refine mv h50 rfl rfl fun _ h51=>?_;refine sv h51 (a8 (h51.ev rfl) (h51.ev rfl)) fun _ h52=>?_;refine ma h52 rfl rfl fun _ h53=>?_;refine ae (aa ?_);refine aB (h53.ev rfl) (fun hc0=>?_) (fun hc0=>?_)
    ·
     have q0:ei l i l[i]≠0:=by rw[q9];simpa using hc0
     refine ab (ah ?_);refine mv h53 rfl rfl fun _ h54=>?_;refine ma h54 rfl rfl fun _ h55=>?_;refine ae (aa (wp_ret (az (ai ?_))));refine bm h55 rfl rfl ?_;exact⟨cc l i,by unfold dL;rw[if_pos q0,q9],fun h=>absurd h (by unfold dL;rw[if_pos q0];exact q0),(S48.sub (.cons _ (.cons _ (.cons_cons _ .slnil))))⟩
    ·
     have q0:ei l i l[i]=0:=by rw[q9];simpa using hc0
     have q0':¬ei l i l[i]≠0:=fun h=>h q0;have hfst:=Ae hv hi q0;refine ab (ah ?_);refine vf h53 0 0 rfl rfl rfl fun _ h56=>?_;refine vl h56 S48 1 rfl rfl rfl rfl fun _ h57=>?_;refine sv h57 (aX (h57.ev rfl) (h57.ev rfl)) fun _ h58=>?_;refine ma h58 rfl rfl fun _ h59=>?_;refine ae (aa ?_);refine aB (h59.ev rfl) (fun hc1=>?_) (fun hc1=>?_)
     ·
      have q1:l[i].e.k=5:=by simpa using hc1
      refine ab (ah ?_);refine sv h59 (ay (by kernel_rfl) (by kernel_rfl) (h59.ev rfl) (S48.cellsAll (i:=1) rfl)) fun _ h60=>?_;refine aS h60 (wn rfl) (aq (fun _ _=>by kernel_rfl) (h60.evs rfl) rfl) rfl rfl S48 (j0 l[i].e _ hfe.d) fun _ _ h61 S61=>?_;refine ma h61 rfl rfl fun _ h62=>?_;refine ae (aa (wp_ret (az (ai ?_))));refine bm h62 rfl rfl ?_;exact⟨cc l i,by unfold dL;rw[if_neg q0',if_pos q1],fun _=>by rw[mw hi,if_pos q1],(S61.sub (.cons _ (.cons _ (.cons_cons _ .slnil))))⟩
     ·
      have q1:l[i].e.k≠5:=by simpa using hc1
      refine ab (ah ?_);refine vf h59 1 1 rfl rfl rfl fun _ h63=>?_;refine vl h63 S48 1 rfl rfl rfl rfl fun _ h64=>?_;refine sv h64 (aX (h64.ev rfl) (h64.ev rfl)) fun _ h65=>?_;refine ma h65 rfl rfl fun _ h66=>?_;refine ae (aa ?_);refine aB (h66.ev rfl) (fun hc2=>?_) (fun hc2=>?_)
      ·
       have q2:l[i].e.t=0:=by simpa using hc2
       refine ab (ah ?_);refine ma h66 rfl rfl fun _ h67=>?_;refine ae (aa (wp_ret (az (ai ?_))));refine bm h67 rfl rfl ?_;exact⟨cc l i,by unfold dL;rw[if_neg q0',if_neg q1,if_pos q2];(try rfl),fun h=>absurd h (by unfold dL;rw[if_neg q0',if_neg q1,if_pos q2];decide),(S48.sub (.cons _ (.cons _ (.cons_cons _ .slnil))))⟩
      ·
       have q2:l[i].e.t≠0:=by simpa using hc2
       refine wp_skip (aO (aa (ab (ah ?_))));refine mv h66 rfl rfl fun _ h68=>?_;refine vf h68 1 1 rfl rfl rfl fun _ h69=>?_;refine vl h69 S48 1 rfl rfl rfl rfl fun _ h70=>?_;refine sv h70 (bb (v':=.tuple #[ll ((cc l i l[i].e.t).getD mR),.bool (cc l i l[i].e.t).isSome]) (by unfold jD;cases cc l i l[i].e.t<;>rfl) (lU (z:=.agg #[.int .i64 0,.int .i64 0,.int .i64 0]) Tryz.underlying178 Tryz.underlying3 (by kernel_rfl) (h70.ev rfl) (h70.ev rfl) (S48.at_ (i:=2) rfl))) fun _ h71=>?_;refine mv h71 rfl rfl fun _ h72=>?_;refine vx h72 rfl rfl rfl fun _ h73=>?_;refine vx h73 rfl rfl rfl fun _ h74=>?_;refine na (.agg #[.int .i64 0,.int .i64 0,.int .i64 0]) h74 rfl S48 fun b10 _ _ gb10 h75 S75=>?_;refine aG h75 (wn rfl) ⟨rfl,rfl⟩ (h75.ev rfl) (h75.ev rfl) rfl (by kernel_rfl) S75 (i:=0) rfl rfl rfl fun _ S76=>?_;refine ma h75 rfl rfl fun _ h77=>?_;refine ae (aa (ab (ab (ah ?_))));refine mv h77 rfl rfl fun _ h78=>?_;refine mv h78 rfl rfl fun _ h79=>?_;apply cq (x:=((cc l i l[i].e.t).getD mR).k != 4) h79 S76 65 rfl 4 69
       case ht=>
        intro gc65;refine sy h79 rfl rfl rfl gc65 (aj (off:=1) (j:=1) (by kernel_rfl) (h79.ev rfl) rfl) rfl rfl fun _ h80=>?_;refine sy h80 rfl rfl rfl gc65 (aw (by kernel_rfl) (h80.ev rfl) (S76.cell (i:=0) rfl rfl)) rfl rfl fun _ h81=>?_;refine sy h81 rfl rfl rfl gc65 (a8 (h81.ev rfl) (h81.ev rfl)) rfl rfl fun _ h82=>?_;refine sv h82 (aA (h82.ev rfl) gc65 (h82.ev rfl)) fun _ h83=>?_;exact ae ⟨h83.mid (m:=[(_,_),(_,_),(_,_)]) rfl,S76⟩
       case hf=>
        intro gc65;refine no h79 rfl rfl rfl gc65 rfl rfl fun _ h84=>?_;refine no h84 rfl rfl rfl gc65 rfl rfl fun _ h85=>?_;refine no h85 rfl rfl rfl gc65 rfl rfl fun _ h86=>?_;refine sv h86 (aD (h86.ev rfl) gc65 (h86.ev rfl)) fun _ h87=>?_;exact ae ⟨h87.mid (m:=[(_,_),(_,_),(_,_)]) rfl,S76⟩
       case h=>
        rintro a88 X88 ⟨h88,S88⟩
        refine ae (aa ?_);refine qb (F:=True) h88 S88 [(9,.int .i64 RC.2)] [10,8,7,6,0,1,2] (fun L=>L.set 0 (.box b10 (ll RC.1).cells 250)) ?_ (fun _ _ h89 S89 hjT=>?_)
        ·
         refine aB (h88.ev rfl) (fun hc3=>?_) (fun hc3=>?_)
         ·
          have eRC:RC=((cc l i l[i].e.t).getD mR,bO (l[i].e.p==((cc l i l[i].e.t).getD mR).l) 14):=by rw[hRC];exact wg hc3
          refine ah ?_;refine vf h88 2 2 rfl rfl rfl fun _ h90=>?_;refine vl h90 S88 2 rfl rfl rfl rfl fun _ h91=>?_;refine vf h91 0 0 rfl rfl rfl fun _ h92=>?_;refine vl h92 S88 0 rfl rfl rfl rfl fun _ h93=>?_;refine sv h93 (aX (h93.ev rfl) (h93.ev rfl)) fun _ h94=>?_;refine bD h94 (wn rfl) (aq (fun _ _=>by kernel_rfl) (h94.evs rfl) rfl) rfl rfl (a6 _ _ _) fun _ h95=>?_;refine ma h95 rfl rfl fun _ h96=>?_;refine ae (aa ?_);have hjT:=trivial;rw[show bO (l[i].e.p==((cc l i l[i].e.t).getD mR).l) 14=RC.2 by rw[eRC]] at h96;rw[show(cc l i l[i].e.t).getD mR=RC.1 by rw[eRC]] at S88;exact⟨h96.re ⟨rfl,rfl,rfl,rfl,rfl,rfl,rfl,rfl,trivial⟩,S88,hjT⟩
         ·
          have eRC:RC=gl (dE l) l[i].e (cc l i l[i].e.t).isSome:=by rw[hRC];exact w8 hc3
          refine ah ?_;refine mv h88 rfl rfl fun _ h97=>?_;refine sv h97 (ay (by kernel_rfl) (by kernel_rfl) (h97.ev rfl) (S88.cellsAll (i:=2) rfl)) fun _ h98=>?_;refine mv h98 rfl rfl fun _ h99=>?_;refine aS h99 (wn rfl) (aq (fun _ _=>by kernel_rfl) (h99.evs rfl) rfl) rfl rfl S88 (vm l _ c l[i].e _ _ ((S88.keptM).rd hmm hr) (by omega) hfst) fun _ _ h100 S100=>?_;refine mv h100 rfl rfl fun _ h101=>?_;refine sv (v:=ll (gl (dE l) l[i].e (cc l i l[i].e.t).isSome).1) h101 (bG (h101.ev rfl) rfl) fun _ h102=>?_;refine vx h102 rfl rfl rfl fun _ h103=>?_;refine aG h103 (wn rfl) ⟨rfl,rfl⟩ (h103.ev rfl) (h103.ev rfl) rfl (by kernel_rfl) S100 (i:=0) rfl rfl rfl fun _ S104=>?_;refine ma h103 rfl rfl fun _ h105=>?_;refine ae (aa ?_);have hjT:=trivial;rw[←eRC] at h105 S104;exact⟨h105.re ⟨rfl,rfl,rfl,rfl,rfl,rfl,rfl,rfl,trivial⟩,S104,hjT⟩
        ·
         obtain⟨E2,hE2⟩:∃E2:Int,E2=AR RC l[i].e:=⟨_,rfl⟩;obtain⟨E3,hE3⟩:∃E3:Int,E3=kZ l i RC l[i].e:=⟨_,rfl⟩;have h23:=wN l i RC l[i].e;rw[←hE2,←hE3] at h23;refine aa (ab (ab (ah ?_)));refine mv h89 rfl rfl fun _ h106=>?_;refine sv h106 (aX (h106.ev rfl) (h106.ev rfl)) fun _ h107=>?_;refine mv h107 rfl rfl fun _ h108=>?_;apply cq (x:=RC.1.k != -1) h108 S89 85 rfl 4 89
         case ht=>
          intro gc85;refine sy h108 rfl rfl rfl gc85 (aj (off:=1) (j:=1) (by kernel_rfl) (h108.ev rfl) rfl) rfl rfl fun _ h109=>?_;refine sy h109 rfl rfl rfl gc85 (aw (by kernel_rfl) (h109.ev rfl) (S89.cell (i:=0) rfl rfl)) rfl rfl fun _ h110=>?_;refine sy h110 rfl rfl rfl gc85 (a8 (h110.ev rfl) (h110.ev rfl)) rfl rfl fun _ h111=>?_;refine sv h111 (aA (h111.ev rfl) gc85 (h111.ev rfl)) fun _ h112=>?_;exact ae ⟨h112.mid (m:=[(_,_),(_,_),(_,_)]) rfl,S89⟩
         case hf=>
          intro gc85;refine no h108 rfl rfl rfl gc85 rfl rfl fun _ h113=>?_;refine no h113 rfl rfl rfl gc85 rfl rfl fun _ h114=>?_;refine no h114 rfl rfl rfl gc85 rfl rfl fun _ h115=>?_;refine sv h115 (aD (h115.ev rfl) gc85 (h115.ev rfl)) fun _ h116=>?_;exact ae ⟨h116.mid (m:=[(_,_),(_,_),(_,_)]) rfl,S89⟩
         case h=>
          rintro a117 X117 ⟨h117,S117⟩
          refine ae (aa ?_);refine eH h117 S117 [(9,.int .i64 E2)] [10,8,7,6,0,1,2] ?_ (fun _ _ h118 S118=>?_)
          ·
           refine aB (h117.ev rfl) (fun hc4=>?_) (fun hc4=>?_)
           ·
            obtain⟨r0,r1⟩:=Bool.and_eq_true_iff.1 hc4
            have r0:RC.2=0:=by simpa using r0
            have r1:RC.1.k≠-1:=by simpa using r1
            obtain⟨k,hk6,hk1⟩:∃k:Nat,k<6∧RC.1.k=(k:Int):=by
             have:=tO hv l[i].e;rw[←hRC] at this;exact this r0 r1
            obtain⟨Af,cf,hfc,hfr⟩:=hF.cells k hk6;apply bA h117 [false,false,false,false,false,false] _ (by kernel_rfl)
            case h=>
             refine qv h117 (fun X hX=>aj (off:=1) (j:=1) (by kernel_rfl) (h117.ev rfl) rfl) fun _ h119=>?_;refine qv h119 (fun X hX=>aw (by kernel_rfl) (h119.ev rfl) ((S117.grow hX).cell (i:=0) rfl rfl)) fun _ h120=>?_;refine qv h120 (fun X hX=>uZ (i:=k) (sz:=1) (j:=k) Tryz.underlying255 (by kernel_rfl) (h120.ev rfl) (h120.ev rfl) hk1 hk6 (by omega)) fun _ h121=>?_;refine qv h121 (fun X hX=>aw (by kernel_rfl) (h121.ev rfl) (((S117.grow hX).keptM).cell hmm hfc)) fun _ h122=>?_;refine qv h122 (fun X hX=>aj (off:=0) (j:=0) (by kernel_rfl) (h122.ev rfl) rfl) fun _ h123=>?_;refine qv h123 (fun X hX=>aw (by kernel_rfl) (h123.ev rfl) ((S117.grow hX).cell (i:=2) rfl rfl)) fun _ h124=>?_;refine aI ?_;refine bF fun _ hX125 hΦ125=>?_;have S125:=S117.grow hX125;refine aS h124 (wn rfl) (aq (fun _ _=>by kernel_rfl) (h124.evs rfl) rfl) rfl rfl S125 (pD (sN k) Af cf l[i].e.k _ ((S125.keptM).rd hmm hfr) (wG _)) fun _ _ h126 S126=>?_;refine bD h126 (wn rfl) (aq (fun _ _=>by kernel_rfl) (h126.evs rfl) rfl) rfl rfl (a6 _ _ _) fun _ h127=>?_;refine ma h127 rfl rfl fun _ h128=>?_;refine ae (aa ?_);rw[show bO ((sN k).any fun x=>x==l[i].e.k) 20=E2 by rw[hE2];unfold AR;rw[r0,if_neg r1,hk1,xI];rfl] at h128;exact⟨h128.re ⟨rfl,rfl,rfl,rfl,rfl,rfl,rfl,rfl,trivial⟩,S126⟩
            case hB=>kernel_rfl
            case hst=>rfl
           ·
            refine wp_skip (aa ?_)
            rw[show RC.2=E2 by
             rw[hE2];unfold AR;rcases Bool.and_eq_false_iff.1 hc4 with r0 | r1
             · have r0:RC.2≠0:=by simpa using r0
               simp[aP,r0]
             · have r1:RC.1.k = -1:=by simpa using r1
               rw[if_pos r1]
               by_cases r2:RC.2=0<;>simp[aP,r2]] at h117
            exact⟨h117.re ⟨rfl,rfl,rfl,rfl,rfl,rfl,rfl,rfl,trivial⟩,S117⟩
          ·
           refine aa (ab (ab (ah ?_)));refine mv h118 rfl rfl fun _ h129=>?_;refine sv h129 (aX (h129.ev rfl) (h129.ev rfl)) fun _ h130=>?_;refine mv h130 rfl rfl fun _ h131=>?_;apply cq (x:=l[i].e.k==1) h131 S118 100 rfl 4 104
           case ht=>
            intro gc100;refine sy h131 rfl rfl rfl gc100 (aj (off:=0) (j:=0) (by kernel_rfl) (h131.ev rfl) rfl) rfl rfl fun _ h132=>?_;refine sy h132 rfl rfl rfl gc100 (aw (by kernel_rfl) (h132.ev rfl) (S118.cell (i:=2) rfl rfl)) rfl rfl fun _ h133=>?_;refine sy h133 rfl rfl rfl gc100 (aX (h133.ev rfl) (h133.ev rfl)) rfl rfl fun _ h134=>?_;refine sv h134 (aA (h134.ev rfl) gc100 (h134.ev rfl)) fun _ h135=>?_;exact ae ⟨h135.mid (m:=[(_,_),(_,_),(_,_)]) rfl,S118⟩
           case hf=>
            intro gc100;refine no h131 rfl rfl rfl gc100 rfl rfl fun _ h136=>?_;refine no h136 rfl rfl rfl gc100 rfl rfl fun _ h137=>?_;refine no h137 rfl rfl rfl gc100 rfl rfl fun _ h138=>?_;refine sv h138 (aD (h138.ev rfl) gc100 (h138.ev rfl)) fun _ h139=>?_;exact ae ⟨h139.mid (m:=[(_,_),(_,_),(_,_)]) rfl,S118⟩
           case h=>
            rintro a140 X140 ⟨h140,S140⟩
            refine ae (aa ?_);refine eH h140 S140 [(9,.int .i64 E3)] [10,8,7,6,2] ?_ (fun _ _ h141 S141=>?_)
            ·
             refine aB (h140.ev rfl) (fun hc5=>?_) (fun hc5=>?_)
             ·
              refine ah ?_;refine mv h140 rfl rfl fun _ h142=>?_;refine mv h142 rfl rfl fun _ h143=>?_;refine sv (v:=ll RC.1) h143 (ay (by kernel_rfl) (by kernel_rfl) (h143.ev rfl) (S140.cellsAll (i:=0) rfl)) fun _ h144=>?_;refine sv (v:=dz l[i].e) h144 (ay (by kernel_rfl) (by kernel_rfl) (h144.ev rfl) (S140.cellsAll (i:=2) rfl)) fun _ h145=>?_;refine aS h145 (wn rfl) (aq (fun _ _=>by kernel_rfl) (h145.evs rfl) rfl) rfl rfl S140 (rI l _ c i RC.1 l[i].e _ ((S140.keptM).rd hmm hr) hi hl hc hv hfst) fun _ _ h146 S146=>?_;refine ma h146 rfl rfl fun _ h147=>?_;refine ae (aa ?_)
              rw[show ju l i RC.1 l[i].e=E3 by
               obtain⟨r0,r1⟩:=Bool.and_eq_true_iff.1 hc5
               rw[h23,if_pos (by simpa using r0),if_pos (by simpa using r1)]] at h147
              exact⟨h147.re ⟨rfl,rfl,rfl,rfl,rfl,rfl,trivial⟩,S146⟩
             ·
              refine wp_skip (aa ?_)
              rw[show E2=E3 by
               rw[h23];rcases Bool.and_eq_false_iff.1 hc5 with r0 | r1
               · rw[if_neg (by simpa using r0)]
               · rw[if_neg (show ¬l[i].e.k=1 by simpa using r1)]
                 split
                 · assumption
                 · rfl] at h140
              exact⟨h140.re ⟨rfl,rfl,rfl,rfl,rfl,rfl,trivial⟩,S140⟩
            ·
             refine aa (ab ?_);apply bA h141 [false,false,false,false,false,false,false] _ (by kernel_rfl)
             case h=>
              refine qv h141 (fun X hX=>ak (h141.ev rfl)) fun _ h148=>?_;refine qv h148 (fun X hX=>aj (off:=1) (j:=1) (by kernel_rfl) (h148.ev rfl) rfl) fun _ h149=>?_;refine qv h149 (fun X hX=>aw (by kernel_rfl) (h149.ev rfl) ((S141.grow hX).cell (i:=2) rfl rfl)) fun _ h150=>?_;refine qv (v:=ll RC.1) h150 (fun X hX=>ay (by kernel_rfl) (by kernel_rfl) (h150.ev rfl) ((S141.grow hX).cellsAll (i:=0) rfl)) fun _ h151=>?_;refine qv h151 (fun X hX=>ak (h151.ev rfl)) fun _ h152=>?_;refine qv (v:=dz l[i].e) h152 (fun X hX=>ay (by kernel_rfl) (by kernel_rfl) (h152.ev rfl) ((S141.grow hX).cellsAll (i:=2) rfl)) fun _ h153=>?_;refine df h153 (wn rfl) rfl rfl (fun X=>(aq (fun _ _=>by kernel_rfl) (h153.evs rfl) rfl)) (fun X hX=>nq RC.1 l[i].l l[i].e _) fun _ h154=>?_;refine aI ?_;refine bF fun _ hX155 hΦ155=>?_;have S155:=S141.grow hX155;refine gr (wn rfl) ⟨rfl,rfl⟩ Tryz.underlying178 Tryz.underlying3 (h154.ev rfl) (h154.ev rfl) (h154.ev rfl) S155 (i:=3) rfl fun _ S156=>?_;refine cm ?_;refine mv h154 rfl rfl fun _ h157=>?_;refine ma h157 rfl rfl fun _ h158=>?_;refine ae (aa (wp_ret ?_));refine bm h158 rfl rfl ?_;refine⟨vv (cc l i) l[i].e.t (pQ RC.1 l[i].l l[i].e),by unfold dL;rw[if_neg q0',if_neg q1,if_neg q2,←hRC,←hE3],fun _=>by rw[mw hi,if_neg q1,hRC],?_⟩;rw[←w9];exact(S156.sub (.cons _ (.cons _ (.cons _ (.cons_cons _ .slnil)))))
             case hB=>kernel_rfl
             case hst=>rfl
  case hB=>kernel_rfl
  case hst=>rfl
 case hB=>kernel_rfl
 case hst=>rfl
set_option maxRecDepth 4000
open Go.RowKit Go.Sort
theorem KeptM.box {m:Nat} {w X:World} (h:KeptM m w X) (hm:∃es ck,w.heap[m]? = some (.map es ck)) {b:Nat} {cs:Array Value} {T:TypeId} (hb:Box w b cs T):Box X b cs T:=by
 obtain⟨es,ck,hm⟩:=hm;refine(h.block b hb.lt (fun e=>?_)).trans hb;have hb':w.heap[b]? = some (.cells cs T (0,0)):=hb;rw[e,hm] at hb'
 cases hb'
structure ChkR (l:List Rcd) (A:Option Addr) (c b1 b4 m:Nat) (w:World):Prop where
 hr:Rd w w.heap.size A (l.flatMap cg)
 hb1:Box w b1 #[.slice A l.length c] 41
 hb4:Box w b4 #[.map (some m)] 178
 hF:FolT w
theorem ChkR.kept {l:List Rcd} {A:Option Addr} {c b1 b4 m:Nat} {w X:World} (h:ChkR l A c b1 b4 m w) (hm:∃es ck,w.heap[m]? = some (.map es ck)) (hk:KeptM m w X):ChkR l A c b1 b4 m X:=
 ⟨hk.rd hm h.hr,hk.box hm h.hb1,hk.box hm h.hb4,hk.fol hm h.hF⟩
theorem MapF.ex {m:Nat} {w:World} {g:Int→Option Value} (h:MapF w m g):∃es ck,w.heap[m]? = some (.map es ck):=by obtain⟨es,ck,h1,_⟩:=h;exact⟨es,ck,h1⟩
theorem tQ (l:List Rcd) (A:Option Addr) (c:Nat) (i:Nat) (b1 b4 m:Nat) (w:World) (hR:ChkR l A c b1 b4 m w) (hi:i<l.length) (hl:l.length≤1000) (hc:l.length≤c) (hv:VldH l i) (hm:MapF w m (jD (cc l i))) (hx:∀x∈l,FewE x.e) :
 Calls Tryz.prog 103 #[.int .i64 i,fS l[i],.pointer (some ⟨b1,0,none⟩),.pointer (some ⟨b4,0,none⟩)] w fun e w'=>∃g,e=.returned (.int .i64 (dL l i (cc l i) l[i]))∧(dL l i (cc l i) l[i]=0→g=cc l (i+1))∧St [m] w w' [cM m (jD g)]:=by
 refine aF (N:=11) Tryz.func103 rfl rfl rfl (fun _ Y=>?_);have Z:=(St.initInv hm (fun b hb=>⟨by rw[hb];exact List.mem_singleton.2 rfl,by rw[hb];exact hm.lt⟩):St [m] w w [cM m (jD (cc l i))]);have hmm:=hm.ex;refine ab (ah ?_);refine nb Y rfl rfl Z fun b5 _ _ gb5 Y Z=>?_;refine ma Y rfl rfl fun _ Y=>?_;refine cm ?_;refine sv Y (aw (by kernel_rfl) (Y.ev rfl) (((Z.keptM).box hmm hR.hb1).cells 0)) fun _ Y=>?_;refine mv Y rfl rfl fun _ Y=>?_;refine sv Y (aw (by kernel_rfl) (Y.ev rfl) (((Z.keptM).box hmm hR.hb4).cells 0)) fun _ Y=>?_;refine fY Y (wn rfl) (aq (fun _ _=>by kernel_rfl) (Y.evs rfl) rfl) rfl rfl Z (i:=1) rfl (fun b hb=>List.mem_singleton.1 hb) (sG l A c i m _ ((Z.keptM).rd hmm hR.hr) hi hl hc hv (Z.at_ (i:=1) rfl) ((Z.keptM).fol hmm hR.hF) hx) fun p10 _ _ Y hF10 Z=>?_;refine ma Y rfl rfl fun _ Y=>?_;refine ae (aa (wp_ret ?_));refine bm Y rfl rfl ?_;exact⟨p10,rfl,hF10,(Z.sub (.cons _ (.cons_cons _ .slnil)))⟩
theorem uf (l:List Rcd) (A:Option Addr) (c:Nat) (b1 b4 m:Nat) (w:World) (hR:ChkR l A c b1 b4 m w) (hl:l.length≤1000) (hc:l.length≤c) (hm:MapF w m (jD (cc l 0))) (hx:∀x∈l,FewE x.e) :
 Calls Tryz.prog 102 #[.slice A l.length c,.func (.func 103) #[] #[.pointer (some ⟨b1,0,none⟩),.pointer (some ⟨b4,0,none⟩)]] w fun e w'=>∃g:Int→Option Chn,e=.returned (.tuple #[.int .i64 (dk (fun i x=>dL l i (cc l i) x) 0 l).1,.int .i64 (dk (fun i x=>dL l i (cc l i) x) 0 l).2])∧True∧St [m] w w' [cM m (jD g)]:=by
 have hmm:=hm.ex;refine aF (N:=25) Tryz.func102 rfl rfl rfl (fun _ Y=>?_);have Z:=(St.initInv hm (fun b hb=>⟨by rw[hb];exact List.mem_singleton.2 rfl,by rw[hb];exact hm.lt⟩):St [m] w w [cM m (jD (cc l 0))]);refine ab (ah ?_);refine ma Y rfl rfl fun _ Y=>?_;refine ma Y rfl rfl fun _ Y=>?_;refine ae (aa (ab (ab (ah ?_))));refine mv Y rfl rfl fun _ Y=>?_;refine sv Y (bf Tryz.underlying41 (Y.ev rfl)) fun _ Y=>?_;refine mv Y rfl rfl fun _ Y=>?_;refine ae (aa (wp_block ?_));refine bz Y Z [10,9,1] (fun (j:Nat)=>[(11,.int .i64 j)]) (fun (j:Nat)=>j≤l.length∧∀k (hk:k<l.length),k<j→dL l k (cc l k) l[k]=0) (fun j L=>L.set 0 (cM m (jD (cc l j)))) (fun (j:Nat)=>l.length-j) (0) (⟨Nat.zero_le _,fun k _ h=>by omega⟩) ⟨rfl,rfl,rfl,rfl,trivial⟩ (Z) ?_;intro j _ _ hF0 Y Z;refine ab (ah ?_);refine sv Y (bq (Y.ev rfl) (Y.ev rfl)) fun _ Y=>?_;refine ae (aa (ab ?_));refine aB (Y.ev rfl) (fun hc0=>?_) (fun hc0=>?_)
 ·
  have hlt:j<l.length:=by have:=of_decide_eq_true hc0;omega
  obtain⟨b,o,rfl,hB,_⟩:=hR.hr.opened (aR aJ (by decide) (by omega));have hvj:VldH l j:=⟨hF0.1,hF0.2⟩;refine wp_skip (aa (ab (wp_block (ab (ah ?_)))));refine mv Y rfl rfl fun _ Y=>?_;refine sv Y (aC (i:=j) (sz:=14) Tryz.underlying41 (by kernel_rfl) (Y.ev rfl) (Y.ev rfl) (by omega) (by omega) rfl) fun _ Y=>?_;refine sv (v:=fS l[j]) Y (ay (by kernel_rfl) (by kernel_rfl) (Y.ev rfl) (a7 aJ ((Z.keptM).rd hmm hR.hr) hlt)) fun _ Y=>?_;refine na (.agg #[.int .i64 0,.int .i64 0,.int .i64 0,.int .i64 0,.int .i64 0,.int .i64 0,.bool false,.int .i64 0,.int .i64 0,.int .i64 0,.int .i64 0,.string ⟨#[]⟩,.string ⟨#[]⟩,.string ⟨#[]⟩]) Y rfl Z fun b7 _ _ gb7 Y Z=>?_;refine ma Y rfl rfl fun _ Y=>?_;refine aG Y (wn rfl) ⟨rfl,rfl⟩ (Y.ev rfl) (Y.ev rfl) rfl (by kernel_rfl) Z (i:=0) rfl rfl rfl fun _ Z=>?_;refine cm ?_;refine mv Y rfl rfl fun _ Y=>?_;refine mv Y rfl rfl fun _ Y=>?_;refine sv (v:=fS l[j]) Y (ay (by kernel_rfl) (by kernel_rfl) (Y.ev rfl) (Z.cellsAll (i:=0) rfl)) fun _ Y=>?_;refine fY Y (wn rfl) (dx (fun _ _=>by kernel_rfl) (Y.ev rfl) (Y.evs rfl) rfl) rfl rfl Z (i:=1) rfl (fun b hb=>List.mem_singleton.1 hb) (tQ l _ c j b1 b4 m _ (hR.kept hmm Z.keptM) hlt hl hc hvj (Z.at_ (i:=1) rfl) hx) fun p19 _ _ Y hF19 Z=>?_;refine ma Y rfl rfl fun _ Y=>?_;refine cm ?_;refine mv Y rfl rfl fun _ Y=>?_;refine sv Y (a8 (Y.ev rfl) (Y.ev rfl)) fun _ Y=>?_;refine ae (aa ?_);refine aB (Y.ev rfl) (fun hc1=>?_) (fun hc1=>?_)
  ·
   refine ab (ah ?_);refine mv Y rfl rfl fun _ Y=>?_;refine mv Y rfl rfl fun _ Y=>?_;refine ma Y rfl rfl fun _ Y=>?_;refine ma Y rfl rfl fun _ Y=>?_;refine ae (aa (wp_ret (az (ai (ai (az (ai ?_)))))));refine eh Y rfl rfl rfl ?_
   have r1:dL l j (cc l j) l[j]≠0:=by simpa using hc1
   have r2:=ey (fun i x=>dL l i (cc l i) x) l 0 j hlt (fun k hk h=>by rw[Nat.zero_add];exact hF0.2 k hk h) (by rw[Nat.zero_add];exact r1);exact⟨p19,by rw[r2];simp only[Nat.zero_add],trivial,(Z.sub (.cons _ (.cons_cons _ .slnil)))⟩
  ·
   refine wp_skip (aO (aa (ah ?_)));refine sv Y (aV (Y.ev rfl) (Y.ev rfl) (by omega)) fun _ Y=>?_;refine mv Y rfl rfl fun _ Y=>?_;refine ae (aa ?_);exact⟨j+1,by omega,⟨hlt,fun k hk h=>(Nat.lt_or_ge k j).elim (fun q=>hF0.2 k hk q) (fun q=>by(obtain rfl:k=j:=by omega);simpa using hc1)⟩,Y.re ⟨rfl,rfl,rfl,rfl,trivial⟩,(hF19 (by simpa using hc1)▸(Z.sub (.cons _ (.cons_cons _ .slnil))))⟩
 ·
  have hge:l.length≤j:=by have:=of_decide_eq_false hc0;omega
  refine wp_exit ?_;refine av ?_;refine av ?_;refine bn ?_;refine aa (ab (ah ?_));refine ma Y rfl rfl fun _ Y=>?_;refine ma Y rfl rfl fun _ Y=>?_;refine ae (aa (wp_ret ?_));refine eh Y rfl rfl rfl ?_;exact⟨cc l j,by rw[dV (fun i x=>dL l i (cc l i) x) l 0 (fun k hk=>by rw[Nat.zero_add];exact hF0.2 k hk (by omega))],trivial,(Z.sub (.cons_cons _ .slnil))⟩
theorem kI (l:List Rcd) (A:Option Addr) (c:Nat) (w:World) (hr:Rd w w.heap.size A (l.flatMap cg)) (hl:l.length≤1000) (hc:l.length≤c) (hF:FolT w) (hx:∀x∈l,FewE x.e) :
 Calls Tryz.prog 42 #[.slice A l.length c] w fun e w'=>e=.returned (.tuple #[.int .i64 (dI l).1,.int .i64 (dI l).2])∧Below w.heap.size w w':=by
 refine aF (N:=14) Tryz.func42 rfl rfl rfl (fun _ Y=>?_);have Z:=St.init w;refine ab (ah ?_);refine nb Y rfl rfl Z fun b1 _ _ gb1 Y Z=>?_;refine ma Y rfl rfl fun _ Y=>?_;refine ma Y rfl rfl fun _ Y=>?_;refine ae (aa (ab (ab (ah ?_))));refine vl Y Z 0 rfl rfl rfl rfl fun _ Y=>?_;refine sv Y (bf Tryz.underlying41 (Y.ev rfl)) fun _ Y=>?_;refine sv Y (cD (Y.ev rfl) (Y.ev rfl)) fun _ Y=>?_;refine ae (aa ?_);refine aB (Y.ev rfl) (fun hc0=>?_) (fun hc0=>?_)
 ·
  have r0:100<l.length:=by have:=of_decide_eq_true hc0;omega
  refine ab (ah ?_);refine ma Y rfl rfl fun _ Y=>?_;refine ma Y rfl rfl fun _ Y=>?_;refine ae (aa (wp_ret (ai ?_)));refine eh Y rfl rfl rfl ?_;exact⟨by unfold dI;rw[if_pos r0];(try rfl),Z.below⟩
 ·
  have r0:¬100<l.length:=by have:=of_decide_eq_false hc0;omega
  refine wp_skip (aa (ab (ah ?_)));refine kg Y (wn rfl) rfl rfl rfl Z fun m8 _ _ hm8 Y Z=>?_;refine na (.map none) Y rfl Z fun b4 _ _ gb4 Y Z=>?_;refine aG Y (wn rfl) ⟨rfl,rfl⟩ (Y.ev rfl) (Y.ev rfl) rfl (by kernel_rfl) Z (i:=0) rfl rfl rfl fun _ Z=>?_;refine cm ?_;refine vl Y Z 2 rfl rfl rfl rfl fun _ Y=>?_;refine sv Y (gi (Y.evs rfl) (Y.evs rfl)) fun _ Y=>?_;refine fY Y (wn rfl) (aq (fun _ _=>by kernel_rfl) (Y.evs rfl) rfl) rfl rfl Z (i:=1) rfl (fun b hb=>List.mem_singleton.1 hb) (uf l A c b1 b4 m8 _ ⟨Z.rd0 hr,Z.at_ (i:=2) rfl,Z.at_ (i:=0) rfl,hF.below Z.below⟩ hl hc (Z.at_ (i:=1) rfl) hx) fun p11 _ _ Y hF11 Z=>?_;refine vx Y rfl rfl rfl fun _ Y=>?_;refine vx Y rfl rfl rfl fun _ Y=>?_;refine ma Y rfl rfl fun _ Y=>?_;refine ma Y rfl rfl fun _ Y=>?_;refine ae (aa (wp_ret ?_));refine eh Y rfl rfl rfl ?_;exact⟨by unfold dI;rw[if_neg r0];(try rfl),Z.below⟩
theorem dP (l:List Rcd) (A:Option Addr) (c:Nat) (w:World) (hr:Rd w w.heap.size A (l.flatMap cg)) (hl:l.length≤1000) (hc:l.length≤c) (hF:FolT w) (hx:∀x∈l,FewE x.e) :
 Calls Tryz.prog 77 #[.slice A l.length c] w fun e w'=>e=.returned (.int .i64 (dI l).2)∧Below w.heap.size w w':=by
 refine aF (N:=11) Tryz.func77 rfl rfl rfl (fun _ Y=>?_);have Z:=St.init w;refine ab (ah ?_);refine ma Y rfl rfl fun _ Y=>?_;refine cm ?_;refine mv Y rfl rfl fun _ Y=>?_;refine aS Y (wn rfl) (aq (fun _ _=>by kernel_rfl) (Y.evs rfl) rfl) rfl rfl Z (kI l A c _ (Z.rd0 hr) hl hc (hF.below Z.below) hx) fun _ _ Y Z=>?_;refine mv Y rfl rfl fun _ Y=>?_;refine vx Y rfl rfl rfl fun _ Y=>?_;refine vx Y rfl rfl rfl fun _ Y=>?_;refine ma Y rfl rfl fun _ Y=>?_;refine ma Y rfl rfl fun _ Y=>?_;refine cm ?_;refine mv Y rfl rfl fun _ Y=>?_;refine ma Y rfl rfl fun _ Y=>?_;refine ae (aa (wp_ret ?_));refine bm Y rfl rfl ?_;exact⟨rfl,Z.below⟩
open Go.RowKit Go.Sort
variable {ds:List Deferred}
def mu (B:Nat) (T:TypeId) (b:Nat) (o:Option Obj):Prop:=B≤b∧∃cs fr,o=some (.cells cs T fr)
def fw (B:Nat) (oc:List (Nat × (Nat→Prop))) (news:List (Nat × TypeId)):List tX:=oc.map (fun p=>(p.1,(fun b _=>p.2 b),rA 0)) ++ news.map (fun p=>(p.1,mu B p.2,fun _ _=>True))
theorem Bl {α:Type} {φ:α→Prop} {a:α} (h:φ a):∀p∈[a],φ p:=fun p hp=>by rw[List.mem_singleton.1 hp];exact h
theorem ep {α:Type} {φ:α→Prop}:∀p∈([]:List α),φ p:=fun p hp=>by cases hp
theorem jL {B:Nat} {oc:List (Nat × (Nat→Prop))} {news:List (Nat × TypeId)} {p:tX} (h:p∈fw B oc news):(∃q∈oc,p=(q.1,(fun b _=>q.2 b),rA 0))∨∃q∈news,p=(q.1,mu B q.2,fun _ _=>True):=by
 unfold fw at h;rcases List.mem_append.1 h with h | h
 · obtain⟨q,h1,h2⟩:=List.mem_map.1 h;exact .inl ⟨q,h1,h2.symm⟩
 · obtain⟨q,h1,h2⟩:=List.mem_map.1 h;exact .inr ⟨q,h1,h2.symm⟩
theorem Grw.conv {O O':Nat→Option Obj→Prop} {w X:World} (h:Grw O w X) (hO:∀b,b<w.heap.size→O b w.heap[b]?→O' b w.heap[b]?):Grw O' w X:=
 ⟨h.os,h.tape,h.output,h.size,fun b hb hne=>h.block b hb (fun ho=>hne (hO b hb ho)),h.shape⟩
section
variable {P:Program} {ops:Array Oper} {Q:Exit→Act→World→Prop} {w:World} {tail:List Oper} {l:List (Nat × Value)} {o:Oper} {a:Act} {N d:Nat} {O:Nat→Prop} {oc:List (Nat × (Nat→Prop))} {news:List (Nat × TypeId)}
theorem rE {B:Nat} (hB:B=w.heap.size) (hO:∀p∈oc,∀b,p.2 b→O b) {X:World} (h:Grw (gE (fw B oc news)) w X):Grw (fun b _=>O b) w X:=h.conv fun b hb ⟨p,hp,hpo⟩=>by
 rcases jL hp with ⟨q,h1,rfl⟩ | ⟨q,h1,rfl⟩
 · exact hO q h1 b hpo
 · have h2:B≤b:=hpo.1;omega
theorem Ar {k B:Nat} (hB:B=w.heap.size) (hO:∀p∈oc,∀b,p.2 b→O b) {X:World} (h:Grw (sV (fw B oc news) k) w X):Grw (fun b _=>O b) w X:=
 rE hB hO (news:=news) (h.conv fun b _ ⟨p,hp,_,hpo⟩=>⟨p,hp,hpo⟩)
theorem xj {N:Nat} {a:Act} {w:World} {l:List Oper} {sl:List (Nat × Value)} (ha:Has ds a N sl) (O:Nat→Prop) (oc:List (Nat × (Nat→Prop))) (news:List (Nat × TypeId)) (fl:List Bool) (nds:List NdB) (hO:∀p∈oc,∀b,p.2 b→O b)
 (h:dO P l.toArray (Grw (fun b _=>O b) w) (fun g=>gp P l.toArray (fw w.heap.size oc news) w Q (l.drop fl.length) nds g []) (pick fl l) a)
 (hB:iA l.toArray fl fl.length N (nds.map fun d=>(d.k,d.deps))=true) :
 me P l Q a w:=by
 obtain⟨afin,h1,h2⟩:=gK _ _ h;exact og (fw w.heap.size oc news) fl nds (by rw[ha.size];exact hB) ⟨afin,gu (fun X hX=>rE rfl hO hX) _ _ h1,h2⟩
theorem jF {id N:Nat} {a:Act} {w:World} {l:List Oper} {sl:List (Nat × Value)} (ha:Has ds a N sl) (O:Nat→Prop) (oc:List (Nat × (Nat→Prop))) (news:List (Nat × TypeId)) (fl:List Bool) (nds:List NdB) (hm:P.follows .mixedOrders=true) (hO:∀p∈oc,∀b,p.2 b→O b)
 (h:dO P l.toArray (Grw (fun b _=>O b) w) (fun g=>gp P l.toArray (fw w.heap.size oc news) w Q (l.drop fl.length) nds g []) (pick fl l) a)
 (hB:iA l.toArray fl fl.length N (nds.map fun d=>(d.k,d.deps))=true) :
 (Code.region id l.toArray true).wp P Q a w:=wp_region_any hm (xj ha O oc news fl nds hO h hB)
theorem ui {sts:List tX} {k:Nat} {R:Value→World→Prop} {X:World} {r:Result Next} (h:cK P R X r):eZ P sts k R X r:=by
 cases r with
 | ok nx w'=>
  cases nx<;>simp only[cK] at h<;>simp only[eZ]
  case value u=>exact⟨.inl h.1,h.2⟩
  case enter f args=>exact⟨h.1,h.2.mono fun e X'' ⟨v,h1,h2,h3⟩=>⟨v,h1,.inl h2,h3⟩⟩
 | halt x w'=>simp only[cK] at h
theorem gY {nds:List NdB} {k:Nat} {deps:List Nat} {R:Value→World→Prop} {Φ:List (Nat × (World→Prop))} (ha:Has ds a N l) (ho:ops[k]? = some o) (hd:o.dst=some d) (hN:Nat.blt d N=true) (hO:∀p∈oc,∀b,p.2 b→O b)
 (hst:∀v X X',R v X→Below X.heap.size X X'→R v X') (hst2:∀p∈oc,∀v X X',R v X→Kp p.2 0 X X'→R v X') (hst3:∀p∈news,∀v X X',R v X→Grw (mu w.heap.size p.2) X X'→R v X') (hx:∀X,Grw (fun b _=>O b) w X→told deps Φ X→cK P R X ((execOp a.eval o).run P X))
 (k':∀v a',Has ds a' N ((d,v)::l)→gp P ops (fw w.heap.size oc news) w Q tail nds a' ((k,R v)::Φ)):gp P ops (fw w.heap.size oc news) w Q tail (⟨k,deps,fun _=>R⟩::nds) a Φ:=by
 refine⟨⟨fun v X X'=>hst v X X',fun p hp _ _ v X X' hR hX=>?_,fun _ _ _ _ h=>h⟩,fun o' ho' X hX hE hΦ=>?_,fun v=>?_⟩
 · rcases jL hp with ⟨q,h1,rfl⟩ | ⟨q,h1,rfl⟩
   · exact hst2 q h1 v X X' hR hX
   · exact hst3 q h1 v X X' hR hX.1
 · rw[ho] at ho';cases ho'
   exact ui (hx X (Ar rfl hO hX) hΦ)
 · have e:aL ops k=some d:=by unfold aL;rw[ho];exact hd
   show gp P ops (fw w.heap.size oc news) w Q tail nds (a.put (aL ops k) v) _;rw[e];exact k' v _ (ha.put hN v)
def IsRow (v:Value) (T:TypeId) (sz n:Nat) (xs:List Value) (_:Value) (X:World):Prop:=X.ownsRow 0 T sz v n xs
theorem IsRow.stable {v:Value} {T:TypeId} {sz n:Nat} {xs:List Value} (u:Value) (X X':World) (h:IsRow v T sz n xs u X) (hb:Below X.heap.size X X'):IsRow v T sz n xs u X':=gX h hb
def NewAny (B n:Nat) (T:TypeId) (v:Value) (X:World):Prop:=∃b,v=.pointer (some ⟨b,0,none⟩)∧B≤b∧∃cs,Box X b cs T∧cs.size=n
theorem NewAny.stable {B n:Nat} {T:TypeId} (v:Value) (X X':World) (h:NewAny B n T v X) (hb:Below X.heap.size X X'):NewAny B n T v X':=by
 obtain⟨b,h1,h2,cs,h3,h4⟩:=h;exact⟨b,h1,h2,cs,h3.below hb,h4⟩
theorem NewAny.newT {B n B':Nat} {T T':TypeId} (v:Value) (X X':World) (h:NewAny B n T v X) (hX:Grw (mu B' T') X X'):NewAny B n T v X':=by
 obtain⟨b,h1,h2,cs,h3,h4⟩:=h;obtain⟨cs',h5,h6⟩:=hX.shape b cs T (0,0) h3;exact⟨b,h1,h2,cs',h6,by rw[h5];exact h4⟩
theorem NewB.newT {B B':Nat} {f:Nat→Value} {cs:Array Value} {T T':TypeId} (hT:T≠T') (v:Value) (X X':World) (h:NewB B f cs T v X) (hX:Grw (mu B' T') X X'):NewB B f cs T v X':=by
 obtain⟨b,h1,h2,h3⟩:=h;refine⟨b,h1,h2,(hX.block b h3.lt ?_).trans h3⟩
 rintro ⟨_,cs',fr,e⟩
 rw[show X.heap[b]? = some (.cells cs T (0,0)) from h3] at e;injection e with e;injection e with _ e;exact hT e
theorem vG {X:World} {B n:Nat} {cs:Array Value} {T:TypeId} {r:Result Next} (hx:r=.ok (.value (.pointer (some ⟨X.heap.size,0,none⟩))) (X.alloc (.cells cs T))) (hB:B≤X.heap.size) (hn:cs.size=n):cK P (NewAny B n T) X r:=by
 subst hx;exact⟨ao (Below.refl _ _) _,X.heap.size,rfl,hB,cs,Box.new X cs T,hn⟩
def StoY (B:Nat) (T:TypeId) (x:Nat) (Y:Act→Value→Prop) (g:Act) (_:Value) (X:World):Prop:=∃b,g.tmps[x]? = some (.pointer (some ⟨b,0,none⟩))∧B≤b∧∃v,Y g v∧Box X b v.cells T
def Bw (y:Nat) (g:Act) (v:Value):Prop:=g.tmps[y]? = some v
def vC (u:Value) (_:Act) (v:Value):Prop:=v=u
theorem qN {nds:List NdB} {k kx x y:Nat} {T:TypeId} {Y:Act→Value→Prop} {deps:List Nat} {Φ:List (Nat × (World→Prop))} (ha:Has ds a N l) (ho:ops[k]? = some o) (hop:o.op=.store T (.tmp x) (.tmp y)∧o.dst=none) (hk:news=[(k,T)]) (hO:∀p∈oc,∀b,p.2 b→b<w.heap.size)
 (hdx:deps.contains kx=true∧aL ops kx=some x) {vx vy:Value} (hYa:Y a vy) (hYg:∀g' v,(∀j∈deps,∀t,aL ops j=some t→g'.tmps[t]? = a.tmps[t]?)→Y a v→Y g' v) (hvx:look l x=some vx) (hvy:look l y=some vy) {n:Nat} (hs:(P.info? T).map (·.size)=some n) (hin:∀q∈oc,q.1∉deps)
 (hx:∀X,Grw (fun b _=>∃p∈oc,p.2 b) w X→told deps Φ X→NewAny w.heap.size n T vx X∧vy.cells.size=n∧vy.cells.toList.all (·.oneCell')=true)
 (k':∀v,gp P ops (fw w.heap.size oc news) w Q tail nds a ((k,StoY w.heap.size T x Y a v)::Φ)):gp P ops (fw w.heap.size oc news) w Q tail (⟨k,deps,StoY w.heap.size T x Y⟩::nds) a Φ:=by
 refine⟨⟨fun v X X' ⟨b,h1,h2,u,h3,h4⟩ hb=>⟨b,h1,h2,u,h3,h4.below hb⟩,fun p hp hne _ v X X' ⟨b,h1,h2,u,h3,h4⟩ hX=>?_,fun g' v X hg ⟨b,h1,h2,u,h3,h4⟩=>?_⟩,fun o' ho' X hX hE hΦ=>?_,fun v=>?_⟩
 · rcases jL hp with ⟨q,q1,rfl⟩ | ⟨q,q1,rfl⟩
   · exact⟨b,h1,h2,u,h3,(hX.1.block b h4.lt (fun h=>by have:=hO q q1 b h;omega)).trans h4⟩
   · rw[hk] at q1;rw[List.mem_singleton.1 q1] at hne;exact absurd rfl hne
 · exact⟨b,(hg kx (List.contains_iff_mem.1 hdx.1) x hdx.2).trans h1,h2,u,hYg g' u hg h3,h4⟩
 · rw[ho] at ho';cases ho'
   obtain⟨⟨b,rfl,h2,cs,h3,h4⟩,h5,h6⟩:=hx X (by
    refine hX.conv fun b hb ⟨p,hp,_,hpo⟩=>?_;rcases jL hp with ⟨q,q1,rfl⟩ | ⟨q,q1,rfl⟩
    · exact⟨q,q1,hpo⟩
    · have h2:w.heap.size≤b:=hpo.1;omega) hΦ
   have hl:=nH (P:=P) (ρ:=a.eval) (o:=o) (ty:=T) (X:=X) hop.1 (ha.ev (o:=.tmp x) hvx) (ha.ev (o:=.tmp y) hvy) rfl (by rw[hs];simp[h5]) h3 h6 (by rw[show vy.cells.toList.length=cs.toList.length by simp[h4,h5]];exact Nat.beq_refl _)
   have hmem:(k,mu w.heap.size T,fun _ _=>True)∈fw w.heap.size oc news:=by unfold fw;rw[hk];exact List.mem_append_right _ (List.mem_singleton.2 rfl)
   have hcv:∀X',Kp (fun k'=>k'=b) 0 X X'→sC (fw w.heap.size oc news) k X X':=fun X' hK=>.inr ⟨_,hmem,rfl,hK.1.conv fun b' hb' e=>by
    have e':b'=b:=e;subst e'
    exact⟨h2,cs,(0,0),h3⟩,trivial⟩
   have hR:∀u X',IsBox b T vy.cells.toList.toArray u X'→StoY w.heap.size T x Y a u X':=fun u X' hB=>⟨b,ha.slot x _ hvx,h2,vy,hYa,by simpa [IsBox] using hB⟩;generalize (execOp a.eval o).run P X=r at hl
   cases r with
   | halt e X'=>simp only[fa] at hl
   | ok nx X'=>
    cases nx<;>simp only[fa] at hl<;>simp only[eZ]
    case value u=>exact⟨hcv _ hl.1,hR _ _ hl.2⟩
    case skip=>exact⟨hcv _ hl.1,hR _ _ hl.2⟩
    case enter f args=>exact⟨hl.1,hl.2.mono fun e X'' ⟨v,g1,g2,g3⟩=>⟨v,g1,hcv _ g2,hR _ _ g3⟩⟩
 · have e:aL ops k=none:=by unfold aL;rw[ho];exact hop.2
   show gp P ops (fw w.heap.size oc news) w Q tail nds (a.put (aL ops k) v) _;rw[e];exact k' v
theorem po {Φ:List (Nat × (World→Prop))} (hO:∀p∈oc,∀b,p.2 b→O b) (h:∀X,Grw (fun b _=>O b) w X→dW Φ X→wpList P ops Q tail a X):gp P ops (fw w.heap.size oc news) w Q tail [] a Φ:=fun X hX hΦ=>h X (rE rfl hO hX) hΦ
theorem p6 {deps:List Nat} {u:Value}:∀g' v,(∀j∈deps,∀t,aL ops j=some t→g'.tmps[t]? = a.tmps[t]?)→vC u a v→vC u g' v:=fun g' v hg h=>h
theorem StoY.slot {B:Nat} {T:TypeId} {x y:Nat} {v vx vy:Value} {X:World} (ha:Has ds a N l) (hx:look l x=some vx) (hy:look l y=some vy) (h:StoY B T x (Bw y) a v X):∃b,vx=.pointer (some ⟨b,0,none⟩)∧B≤b∧Box X b vy.cells T:=by
 obtain⟨b,h1,h2,u,h3,h4⟩:=h;have e1:=(ha.slot x _ hx).symm.trans h1;have e2:=(ha.slot y _ hy).symm.trans h3;injection e1 with e1;injection e2 with e2;exact⟨b,e1,h2,by rw[e2];exact h4⟩
theorem StoY.val {B:Nat} {T:TypeId} {x:Nat} {v vx u:Value} {X:World} (ha:Has ds a N l) (hx:look l x=some vx) (h:StoY B T x (vC u) a v X):∃b,vx=.pointer (some ⟨b,0,none⟩)∧B≤b∧Box X b u.cells T:=by
 obtain⟨b,h1,h2,u',h3,h4⟩:=h;have e1:=(ha.slot x _ hx).symm.trans h1;injection e1 with e1;exact⟨b,e1,h2,by rw[show u'=u from h3] at h4;exact h4⟩
theorem IsVal.newT {u:Value} {B:Nat} {T:TypeId} (v:Value) (X X':World) (h:IsVal u v X) (_:Grw (mu B T) X X'):IsVal u v X':=h
theorem PairU.newT {ι:Type} {V:ι→Value} {F:ι→Prop} {B:Nat} {T:TypeId} (v:Value) (X X':World) (h:PairU V F v X) (_:Grw (mu B T) X X'):PairU V F v X':=h
theorem ExtU0.newT {ι:Type} {V:ι→Value} {F:ι→Prop} {B:Nat} {T:TypeId} (v:Value) (X X':World) (h:ExtU0 V F v X) (_:Grw (mu B T) X X'):ExtU0 V F v X':=h
theorem ExtU1.newT {ι:Type} {V:ι→Value} {F:ι→Prop} {B:Nat} {T:TypeId} (v:Value) (X X':World) (h:ExtU1 V F v X) (_:Grw (mu B T) X X'):ExtU1 V F v X':=h
def MovS (src:Nat) (g:Act) (v:Value) (_:World):Prop:=g.tmps[src]? = some v
def ExtS (src i:Nat) (g:Act) (v:Value) (_:World):Prop:=∃vs,g.tmps[src]? = some (.tuple vs)∧vs[i]? = some v
theorem MovS.get {src:Nat} {u v:Value} {X:World} (ha:Has ds a N l) (hu:look l src=some u) (h:MovS src a v X):v=u:=by
 have:=(ha.slot src _ hu).symm.trans h;injection this with this;exact this.symm
theorem ExtS.get {src i:Nat} {vs:Array Value} {v y:Value} {X:World} (ha:Has ds a N l) (hu:look l src=some (.tuple vs)) (hi:vs[i]? = some y) (h:ExtS src i a v X):v=y:=by
 obtain⟨us,h1,h2⟩:=h;have:=(ha.slot src _ hu).symm.trans h1;injection this with this;injection this with this;rw[←this,hi] at h2;exact(Option.some.inj h2).symm
theorem tA {nds:List NdB} {k:Nat} {deps:List Nat} {R:Act→Value→World→Prop} {Φ:List (Nat × (World→Prop))} (ha:Has ds a N l) (ho:ops[k]? = some o) (hd:o.dst=some d) (hN:Nat.blt d N=true)
 (hR:∀g v X X',R g v X→R g v X') (hdep:∀g' v X,(∀j∈deps,∀t,aL ops j=some t→g'.tmps[t]? = a.tmps[t]?)→R a v X→R g' v X) (hx:∀X,told deps Φ X→∃v,(execOp a.eval o).run P X=.ok (.value v) X∧R a v X)
 (k':∀v a',Has ds a' N ((d,v)::l)→gp P ops (fw w.heap.size oc news) w Q tail nds a' ((k,R a v)::Φ)):gp P ops (fw w.heap.size oc news) w Q tail (⟨k,deps,R⟩::nds) a Φ:=by
 refine⟨⟨fun v X X' h _=>hR a v X X' h,fun p hp _ _ v X X' h _=>hR a v X X' h,hdep⟩,fun o' ho' X hX hE hΦ=>?_,fun v=>?_⟩
 · rw[ho] at ho';cases ho'
   obtain⟨v,h1,h2⟩:=hx X hΦ;rw[h1];exact⟨.inl (Below.refl _ _),h2⟩
 · have e:aL ops k=some d:=by unfold aL;rw[ho];exact hd
   show gp P ops (fw w.heap.size oc news) w Q tail nds (a.put (aL ops k) v) _;rw[e];exact k' v _ (ha.put hN v)
theorem l3 {nds:List NdB} {k kx src:Nat} {deps:List Nat} {Φ:List (Nat × (World→Prop))} (ha:Has ds a N l) (ho:ops[k]? = some o) (hop:o.op=.move (.tmp src)∨o.op=.assign (.tmp src)) (hd:o.dst=some d) (hN:Nat.blt d N=true) (hdx:deps.contains kx=true∧aL ops kx=some src) {u:Value} (hu:look l src=some u)
 (k':∀v a',Has ds a' N ((d,v)::l)→gp P ops (fw w.heap.size oc news) w Q tail nds a' ((k,MovS src a v)::Φ)):gp P ops (fw w.heap.size oc news) w Q tail (⟨k,deps,MovS src⟩::nds) a Φ:=
 tA ha ho hd hN (fun _ _ _ _ h=>h) (fun g' v X hg h=>(hg kx (List.contains_iff_mem.1 hdx.1) src hdx.2).trans h) (fun X _=>⟨u,by
  have hev:a.eval (.tmp src)=u:=ha.ev (o:=.tmp src) hu;unfold execOp
  rcases hop with h | h<;>simp[h,hev],ha.slot src _ hu⟩) k'
theorem lP {nds:List NdB} {k kx src i:Nat} {deps:List Nat} {Φ:List (Nat × (World→Prop))} (ha:Has ds a N l) (ho:ops[k]? = some o) (hop:o.op=.extract (.tmp src) i) (hd:o.dst=some d) (hN:Nat.blt d N=true) (hdx:deps.contains kx=true∧aL ops kx=some src) {u:Value} (hu:look l src=some u)
 (hx:∀X,told deps Φ X→∃vs y,u=.tuple vs∧vs[i]? = some y)
 (k':∀v a',Has ds a' N ((d,v)::l)→gp P ops (fw w.heap.size oc news) w Q tail nds a' ((k,ExtS src i a v)::Φ)):gp P ops (fw w.heap.size oc news) w Q tail (⟨k,deps,ExtS src i⟩::nds) a Φ:=
 tA ha ho hd hN (fun _ _ _ _ h=>h) (fun g' v X hg ⟨vs,h,h2⟩=>⟨vs,(hg kx (List.contains_iff_mem.1 hdx.1) src hdx.2).trans h,h2⟩) (fun X hΦ=>by
  obtain⟨vs,y,h1,h2⟩:=hx X hΦ;subst h1;have hev:a.eval (.tmp src)=.tuple vs:=ha.ev (o:=.tmp src) hu;refine⟨y,?_,vs,ha.slot src _ hu,h2⟩;unfold execOp
  simp[hop,hev,Instr.extract,h2]) k'
def BoxY (b:Nat) (T:TypeId) (y:Nat) (g:Act) (_:Value) (X:World):Prop:=∃u,g.tmps[y]? = some u∧Box X b u.cells T
theorem BoxY.get {b:Nat} {T:TypeId} {y:Nat} {v vy:Value} {X:World} (ha:Has ds a N l) (hy:look l y=some vy) (h:BoxY b T y a v X):Box X b vy.cells T:=by
 obtain⟨u,h1,h2⟩:=h;have:=(ha.slot y _ hy).symm.trans h1;injection this with this;rw[this];exact h2
def RowU (V:Option Addr→Nat→Value) (B:Nat) (T:TypeId) (sz n:Nat) (xs:List Value) (v:Value) (X:World):Prop:=∃A c,v=V A c∧X.ownsRow B T sz (.slice A n c) n xs
theorem RowU.stable {V:Option Addr→Nat→Value} {B:Nat} {T:TypeId} {sz n:Nat} {xs:List Value} (v:Value) (X X':World) (h:RowU V B T sz n xs v X) (hb:Below X.heap.size X X'):RowU V B T sz n xs v X':=by
 obtain⟨A,c,h1,h2⟩:=h;exact⟨A,c,h1,gX h2 hb⟩
theorem RowU.newT {V:Option Addr→Nat→Value} {B B':Nat} {T T':TypeId} {sz n:Nat} {xs:List Value} (hT:T≠T') (v:Value) (X X':World) (h:RowU V B T sz n xs v X) (hX:Grw (mu B' T') X X'):RowU V B T sz n xs v X':=by
 obtain⟨A,c,h1,h2,h3⟩:=h;refine⟨A,c,h1,h2,?_⟩;rcases h3 with h3 | ⟨g,cap,cur,e1,e2,e3,e4⟩
 · exact .inl h3
 · refine .inr ⟨g,cap,cur,e1,e2,(hX.block g (Array.getElem?_eq_some_iff.1 e3).1 ?_).trans e3,e4⟩
   rintro ⟨_,cs,fr,e⟩
   rw[e3] at e;injection e with e;injection e with _ e;exact hT e
theorem tE {V:Option Addr→Nat→Value} {f:FuncId} {args:Array Value} {X:World} {B B' n sz:Nat} {T:TypeId} {xs:List Value} {r:Result Next} (hx:r=.ok (.enter f args) X) (hc:Calls P f args X fun e X'=>∃A c,e=.returned (V A c)∧X'.ownsRow B' T sz (.slice A n c) n xs∧Below X.heap.size X X') (hB:B≤B'):cK P (RowU V B T sz n xs) X r:=by
 subst hx;exact⟨rfl,hc.mono fun e X' ⟨A,c,he,ho,hb⟩=>⟨_,he,hb,A,c,rfl,cw ho hB⟩⟩
end
theorem St.addRow {M:List Nat} {w0 w X:World} {L L':List Ent} {T2:TypeId} {sz n:Nat} {v:Value} {xs:List Value} (h:St M w0 w L) (h':St M w0 X L') (hL:∀e∈L',∀b,e.dom b→b<w.heap.size) (hr:X.ownsRow w.heap.size T2 sz v n xs):St M w0 X (.row v n T2 sz xs::L'):=by
 refine⟨h'.os,h'.tape,h'.output,h'.size,h'.block,fun e he=>?_,fun e he k hk=>?_,List.pairwise_cons.2 ⟨fun e he k hk hek=>?_,h'.sep⟩⟩
 · rcases List.mem_cons.1 he with rfl | he
   · exact cw hr (Nat.zero_le _)
   · exact h'.ok e he
 · rcases List.mem_cons.1 he with rfl | he
   · have:=hr.lt k hk
     exact⟨.inl (Nat.le_trans h.size this.1),this.2⟩
   · exact h'.new e he k hk
 · have h1:=(hr.lt k hk).1
   have h2:=hL e he k hek;omega
set_option maxRecDepth 4000
open Go.RowKit Go.Sort
theorem nM {α:Type} {κ:α→Int} {l:List α} {x:α} (h:cu κ (l ++ [x])) (i:Int):ct κ (l ++ [x]) i=if i=κ x then some x else ct κ l i:=by
 unfold ct;rw[List.find?_append];unfold cu at h;rw[List.pairwise_append] at h;by_cases hi:i=κ x
 · rw[if_pos hi]
   have hn:l.find? (fun y=>κ y==i)=none:=by
    rw[List.find?_eq_none];intro y hy;have:=h.2.2 y hy x (List.mem_singleton.2 rfl);simp;omega
   rw[hn,hi];simp
 · rw[if_neg hi]
   have hx:[x].find? (fun y=>κ y==i)=none:=by
    rw[List.find?_eq_none];intro y hy;rw[List.mem_singleton.1 hy];simp;omega
   rw[hx]
   cases l.find? (fun y=>κ y==i)<;>rfl
def mJ (g:Int→Option Trn):Int→Option Value:=fun i=>(g i).map fg
def mY (g:Int→Option Dty):Int→Option Value:=fun i=>(g i).map fR
theorem zG {l:List Trn} {x:Trn} (h:cu Trn.i (l ++ [x])):eN (mJ (eo l)) x.i (some (fg x))=mJ (eo (l ++ [x])):=by
 funext i
 unfold eN mJ eo;rw[nM h]
 split<;>rfl
theorem yC {l:List Dty} {x:Dty} (h:cu Dty.g (l ++ [x])):eN (mY (dH l)) x.g (some (fR x))=mY (dH (l ++ [x])):=by
 funext i
 unfold eN mY dH;rw[nM h]
 split<;>rfl
theorem qM {α:Type} {κ:α→Int} {l:List α} (h:cu κ l) (k:Nat):cu κ (l.take k):=List.Pairwise.sublist (List.take_sublist _ _) h
theorem kW (t:Tbl) (A:Option Addr) (c:Nat) (B:Option Addr) (d:Nat) (w:World) (hr:Rd w w.heap.size A (t.ts.flatMap cA)) (hq:Rd w w.heap.size B (t.ds.flatMap da)) (hs:SrtT t) (hl:t.ts.length≤1000∧t.ds.length≤1000) :
 Calls Tryz.prog 128 #[cR t A c B d] w fun e w'=>∃i:Nat × Nat × Nat,e=.returned (.pointer (some ⟨i.1,0,none⟩))∧St [] w w' [.box i.1 #[.map (some i.2.1),.map (some i.2.2)] 228,cM i.2.2 (mY (dH t.ds)),cM i.2.1 (mJ (eo t.ts))]:=by
 refine aF (N:=43) Tryz.func128 rfl rfl rfl (fun _ Y=>?_);have Z:=St.init w;refine ab (ah ?_);refine nb Y rfl rfl Z fun b1 _ _ gb1 Y Z=>?_;refine ma Y rfl rfl fun _ Y=>?_;refine cm ?_;refine kg Y (wn rfl) rfl rfl rfl Z fun m8 _ _ hm8 Y Z=>?_;refine kg Y (wn rfl) rfl rfl rfl Z fun m9 _ _ hm9 Y Z=>?_;refine sv Y (br (zs:=[.map none,.map none]) (pl:=[(0,1),(1,1)]) (by kernel_rfl) (by kernel_rfl) (Y.evs2 rfl) rfl rfl) fun _ Y=>?_;refine nb Y rfl rfl Z fun b11 _ X6 gb11 Y Z=>?_;refine ma Y rfl rfl fun _ Y=>?_;replace Z:St [] w X6 [.box b11 #[.map (some m8),.map (some m9)] 228,cM m9 (mY (dH (t.ds.take 0))),cM m8 (mJ (eo (t.ts.take 0))),.box b1 (cR t A c B d).cells 25]:=Z;refine ae (aa (ab (ab (ah ?_))));refine vf Y 0 0 rfl rfl rfl fun _ Y=>?_;refine vl Y Z 3 rfl rfl rfl rfl fun _ Y=>?_;refine sv Y (bf Tryz.underlying22 (Y.ev rfl)) fun _ Y=>?_;refine mv Y rfl rfl fun _ Y=>?_;refine ae (aa (wp_block ?_));refine bz Y Z [14,13,3,2,1] (fun (j:Nat)=>[(15,.int .i64 j)]) (fun (j:Nat)=>j≤t.ts.length) (fun j L=>L.set 2 (cM m8 (mJ (eo (t.ts.take j))))) (fun (j:Nat)=>t.ts.length-j) (0) (Nat.zero_le _) ⟨rfl,rfl,rfl,rfl,rfl,rfl,trivial⟩ (Z) ?_;intro j _ _ hF0 Y Z;refine ab (ah ?_);refine sv Y (bq (Y.ev rfl) (Y.ev rfl)) fun _ Y=>?_;refine ae (aa (ab ?_));refine aB (Y.ev rfl) (fun hc0=>?_) (fun hc0=>?_)
 ·
  have hlt:j<t.ts.length:=by have:=of_decide_eq_true hc0;omega
  obtain⟨b,o,rfl,hB,_⟩:=hr.opened (aR cW (by decide) (by omega))
  have hput:eN (mJ (eo (t.ts.take j))) t.ts[j].i (some (fg t.ts[j]))=mJ (eo (t.ts.take (j+1))):=by
   rw[List.take_succ_eq_append_getElem hlt];exact zG (by rw[←List.take_succ_eq_append_getElem hlt];exact qM hs.ts _)
  refine wp_skip (aa (ab (wp_block (ab (ah ?_)))));refine sv Y (aC (i:=j) (sz:=4) Tryz.underlying22 (by kernel_rfl) (Y.ev rfl) (Y.ev rfl) (by omega) (by omega) rfl) fun _ Y=>?_;refine sv (v:=fg t.ts[j]) Y (ay (by kernel_rfl) (by kernel_rfl) (Y.ev rfl) (a7 cW (Z.rd0 hr) hlt)) fun _ Y=>?_;refine na (.agg #[.int .i64 0,.int .i64 0,.int .i64 0,.bool false]) Y rfl Z fun b5 _ _ gb5 Y Z=>?_;refine aG Y (wn rfl) ⟨rfl,rfl⟩ (Y.ev rfl) (Y.ev rfl) rfl (by kernel_rfl) Z (i:=0) rfl rfl rfl fun _ Z=>?_;refine ae (aa ?_);apply bA Y [false,false,false,false,false,false,false] _ (by kernel_rfl)
  case h=>
   refine qv Y (fun X hX=>ak (Y.ev rfl)) fun _ Y=>?_;refine qv Y (fun X hX=>bo (Y.ev rfl)) fun _ Y=>?_;refine qv Y (fun X hX=>aj (off:=0) (j:=0) (by kernel_rfl) (Y.ev rfl) rfl) fun _ Y=>?_;refine qv Y (fun X hX=>aw (by kernel_rfl) (Y.ev rfl) ((Z.grow hX).cell (i:=1) rfl rfl)) fun _ Y=>?_;refine qv Y (fun X hX=>aj (off:=0) (j:=0) (by kernel_rfl) (Y.ev rfl) rfl) fun _ Y=>?_;refine qv Y (fun X hX=>aw (by kernel_rfl) (Y.ev rfl) ((Z.grow hX).cell (i:=0) rfl rfl)) fun _ Y=>?_;refine qv (v:=fg t.ts[j]) Y (fun X hX=>ay (by kernel_rfl) (by kernel_rfl) (Y.ev rfl) ((Z.grow hX).cellsAll (i:=0) rfl)) fun _ Y=>?_;refine aI ?_;refine bF fun _ hX25 hΦ25=>?_;have Z:=Z.grow hX25;refine gr (wn rfl) ⟨rfl,rfl⟩ Tryz.underlying225 Tryz.underlying3 (Y.ev rfl) (Y.ev rfl) (Y.ev rfl) Z (i:=3) rfl fun _ Z=>?_;refine ae (aO (aa (ah ?_)));refine sv Y (aV (Y.ev rfl) (Y.ev rfl) (by omega)) fun _ Y=>?_;refine mv Y rfl rfl fun _ Y=>?_;refine ae (aa ?_);exact⟨j+1,by omega,hlt,Y.re ⟨rfl,rfl,rfl,rfl,rfl,rfl,trivial⟩,(hput▸(Z.sub (.cons _ (.cons_cons _ (.cons_cons _ (.cons_cons _ (.cons_cons _ .slnil)))))))⟩
  case hB=>kernel_rfl
  case hst=>rfl
 ·
  have hge:t.ts.length≤j:=by have:=of_decide_eq_false hc0;omega
  obtain rfl:j=t.ts.length:=by have:=hF0;omega
  rw[List.take_length] at Z;refine wp_exit ?_;refine av ?_;refine av ?_;refine bn ?_;refine aa (ab (ab (ah ?_)));refine vf Y 1 1 rfl rfl rfl fun _ Y=>?_;refine vl Y Z 3 rfl rfl rfl rfl fun _ Y=>?_;refine sv Y (bf Tryz.underlying23 (Y.ev rfl)) fun _ Y=>?_;refine mv Y rfl rfl fun _ Y=>?_;refine ae (aa (wp_block ?_));refine bz Y Z [29,28,3,2] (fun (k:Nat)=>[(30,.int .i64 k)]) (fun (k:Nat)=>k≤t.ds.length) (fun k L=>L.set 1 (cM m9 (mY (dH (t.ds.take k))))) (fun (k:Nat)=>t.ds.length-k) (0) (Nat.zero_le _) ⟨rfl,rfl,rfl,rfl,rfl,trivial⟩ (Z) ?_;intro k _ _ hF1 Y Z;refine ab (ah ?_);refine sv Y (bq (Y.ev rfl) (Y.ev rfl)) fun _ Y=>?_;refine ae (aa (ab ?_));refine aB (Y.ev rfl) (fun hc1=>?_) (fun hc1=>?_)
  ·
   have hlt:k<t.ds.length:=by have:=of_decide_eq_true hc1;omega
   obtain⟨b,o,rfl,hB,_⟩:=hq.opened (aR dD (by decide) (by omega))
   have hput:eN (mY (dH (t.ds.take k))) t.ds[k].g (some (fR t.ds[k]))=mY (dH (t.ds.take (k+1))):=by
    rw[List.take_succ_eq_append_getElem hlt];exact yC (by rw[←List.take_succ_eq_append_getElem hlt];exact qM hs.ds _)
   refine wp_skip (aa (ab (wp_block (ab (ah ?_)))));refine sv Y (aC (i:=k) (sz:=3) Tryz.underlying23 (by kernel_rfl) (Y.ev rfl) (Y.ev rfl) (by omega) (by omega) rfl) fun _ Y=>?_;refine sv (v:=fR t.ds[k]) Y (ay (by kernel_rfl) (by kernel_rfl) (Y.ev rfl) (a7 dD (Z.rd0 hq) hlt)) fun _ Y=>?_;refine na (.agg #[.int .i64 0,.bool false,.int .i64 0]) Y rfl Z fun b7 _ _ gb7 Y Z=>?_;refine aG Y (wn rfl) ⟨rfl,rfl⟩ (Y.ev rfl) (Y.ev rfl) rfl (by kernel_rfl) Z (i:=0) rfl rfl rfl fun _ Z=>?_;refine ae (aa ?_);apply bA Y [false,false,false,false,false,false,false] _ (by kernel_rfl)
   case h=>
    refine qv Y (fun X hX=>ak (Y.ev rfl)) fun _ Y=>?_;refine qv Y (fun X hX=>bo (Y.ev rfl)) fun _ Y=>?_;refine qv Y (fun X hX=>aj (off:=1) (j:=1) (by kernel_rfl) (Y.ev rfl) rfl) fun _ Y=>?_;refine qv Y (fun X hX=>aw (by kernel_rfl) (Y.ev rfl) ((Z.grow hX).cell (i:=1) rfl rfl)) fun _ Y=>?_;refine qv Y (fun X hX=>aj (off:=0) (j:=0) (by kernel_rfl) (Y.ev rfl) rfl) fun _ Y=>?_;refine qv Y (fun X hX=>aw (by kernel_rfl) (Y.ev rfl) ((Z.grow hX).cell (i:=0) rfl rfl)) fun _ Y=>?_;refine qv (v:=fR t.ds[k]) Y (fun X hX=>ay (by kernel_rfl) (by kernel_rfl) (Y.ev rfl) ((Z.grow hX).cellsAll (i:=0) rfl)) fun _ Y=>?_;refine aI ?_;refine bF fun _ hX46 hΦ46=>?_;have Z:=Z.grow hX46;refine gr (wn rfl) ⟨rfl,rfl⟩ Tryz.underlying226 Tryz.underlying3 (Y.ev rfl) (Y.ev rfl) (Y.ev rfl) Z (i:=2) rfl fun _ Z=>?_;refine ae (aO (aa (ah ?_)));refine sv Y (aV (Y.ev rfl) (Y.ev rfl) (by omega)) fun _ Y=>?_;refine mv Y rfl rfl fun _ Y=>?_;refine ae (aa ?_);exact⟨k+1,by omega,hlt,Y.re ⟨rfl,rfl,rfl,rfl,rfl,trivial⟩,(hput▸(Z.sub (.cons _ (.cons_cons _ (.cons_cons _ (.cons_cons _ (.cons_cons _ .slnil)))))))⟩
   case hB=>kernel_rfl
   case hst=>rfl
  ·
   have hge:t.ds.length≤k:=by have:=of_decide_eq_false hc1;omega
   obtain rfl:k=t.ds.length:=by have:=hF1;omega
   rw[List.take_length] at Z;refine wp_exit ?_;refine av ?_;refine av ?_;refine bn ?_;refine aa (ab (ah ?_));refine mv Y rfl rfl fun _ Y=>?_;refine ma Y rfl rfl fun _ Y=>?_;refine ae (aa (wp_ret ?_));refine bm Y rfl rfl ?_;exact⟨(b11,m8,m9),rfl,(Z.sub (.cons_cons _ (.cons_cons _ (.cons_cons _ (.cons _ .slnil)))))⟩
def lx (bt m1 m2:Nat) (t:Tbl):Ent:=.inv (fun b=>b=bt∨b=m1∨b=m2) (fun X=>Box X bt #[.map (some m1),.map (some m2)] 228∧MapF X m1 (mJ (eo t.ts))∧MapF X m2 (mY (dH t.ds))∧m1≠m2)
 (fun X X' ⟨h1,⟨es,ck,h2,h2'⟩,⟨es',ck',h3,h3'⟩,h4⟩ hb=>⟨(hb bt (.inl rfl)).trans h1,⟨es,ck,(hb m1 (.inr (.inl rfl))).trans h2,h2'⟩,⟨es',ck',(hb m2 (.inr (.inr rfl))).trans h3,h3'⟩,h4⟩)
theorem vS {M:List Nat} {w X:World} {bt m1 m2:Nat} {t:Tbl} {L:List Ent} (h:St M w X (.box bt #[.map (some m1),.map (some m2)] 228::cM m2 (mY (dH t.ds))::cM m1 (mJ (eo t.ts))::L)):St M w X (lx bt m1 m2 t::L):=by
 have k1:=h.at_ (i:=0) rfl;have k2:=h.at_ (i:=1) rfl;have k3:=h.at_ (i:=2) rfl
 have hne:m1≠m2:=fun e=>by
  have Y:=(List.pairwise_cons.1 (List.pairwise_cons.1 h.sep).2).1 (cM m1 (mJ (eo t.ts))) (List.mem_cons_self) m2;exact Y rfl e.symm
 have Y:St M w X (.inv (fun b=>b=bt∨b=m2) (fun _=>True) (fun _ _ h _=>h)::cM m1 (mJ (eo t.ts))::L):=h.fuse2 (fun b hb=>hb) trivial
 exact Y.fuse2 (fun b hb=>by
  rcases hb with hb | hb | hb
  · exact .inl (.inl hb)
  · exact .inr hb
  · exact .inl (.inr hb)) ⟨k1,k3,k2,hne⟩
theorem vL {t:Tbl} {r:Rcd} (h5:r.e.k≠5) (h4:r.e.k≠4):eN (mJ (eo t.ts)) r.e.t (some (fg (qG t r)))=mJ (eo (eB t r).ts):=by
 funext i
 unfold eB;rw[if_neg h5];unfold eN mJ;show _=(eo (if r.e.k=4 then pC Trn.i t.ts r.e.t else jk Trn.i t.ts (qG t r)) i).map fg;rw[if_neg h4];unfold eo;rw[pX];show(if i=r.e.t then _ else _)=(if i=r.e.t then _ else _:Option Trn).map fg
 split<;>rfl
theorem wD {t:Tbl} {r:Rcd} (h5:r.e.k≠5) (h4:r.e.k=4):eN (mJ (eo t.ts)) r.e.t none=mJ (eo (eB t r).ts):=by
 funext i
 unfold eB;rw[if_neg h5];unfold eN mJ;show _=(eo (if r.e.k=4 then pC Trn.i t.ts r.e.t else jk Trn.i t.ts (qG t r)) i).map fg;rw[if_pos h4];unfold eo;rw[wb]
 split<;>rfl
theorem tB {t:Tbl} {r:Rcd} (h5:r.e.k≠5):(eB t r).ds=jy t r:=by unfold eB;rw[if_neg h5]
theorem yg {t:Tbl} {r:Rcd} (h1:cd r.e=true) (h2:dH t.ds r.e.g=none):eN (mY (dH t.ds)) r.e.g (some (fR ⟨r.e.g,r.e.f,r.l⟩))=mY (dH (jy t r)):=by
 funext i
 unfold jy;rw[if_pos ⟨h1,h2⟩];unfold eN mY dH;rw[pX]
 split<;>rfl
theorem yV {t:Tbl} {r:Rcd} (h:¬(cd r.e=true∧dH t.ds r.e.g=none)):jy t r=t.ds:=by unfold jy;rw[if_neg h]
theorem yT (t:Tbl) (r:Rcd) (bt m1 m2:Nat) (w:World) (hB:Box w bt #[.map (some m1),.map (some m2)] 228) (hm1:MapF w m1 (mJ (eo t.ts))) (hm2:MapF w m2 (mY (dH t.ds))) (hne:m1≠m2) :
 Calls Tryz.prog 130 #[.pointer (some ⟨bt,0,none⟩),.int .i64 r.l,dz r.e] w fun e w'=>e=.returned (.tuple #[])∧St [m1,m2] w w' [cM m1 (mJ (eo (eB t r).ts)),cM m2 (mY (dH (eB t r).ds))]:=by
 have hmm:jW w [m1,m2]:=fun b hb=>by
  rcases List.mem_cons.1 hb with rfl | hb
  · exact hm1.noCells
  · rw[List.mem_singleton.1 hb];exact hm2.noCells
 refine aF (N:=82) Tryz.func130 rfl rfl rfl (fun _ h0=>?_);have S0:=St.initM2 hm1 hm2 hne;refine ab (ah ?_);refine nb h0 rfl rfl S0 fun b5 _ _ gb5 h1 S1=>?_;refine ae (aa (ab (ab (ah ?_))));refine vf h1 0 0 rfl rfl rfl fun _ h2=>?_;refine vl h2 S1 0 rfl rfl rfl rfl fun _ h3=>?_;refine sv h3 (aX (h3.ev rfl) (h3.ev rfl)) fun _ h4=>?_;refine ae (aa ?_);refine aB (h4.ev rfl) (fun hc0=>?_) (fun hc0=>?_)
 ·
  have r5:r.e.k=5:=by simpa using hc0
  have r5':eB t r=t:=by unfold eB;rw[if_pos r5]
  refine wp_ret (ai ?_);refine zY h4 rfl ?_;exact⟨rfl,by rw[r5'];exact(S1.sub (.cons _ (.cons_cons _ (.cons_cons _ .slnil))))⟩
 ·
  have r5:r.e.k≠5:=by simpa using hc0
  refine wp_skip (aa (ab (ab ?_)));apply jF h4 (fun _=>False) [] [(11,124)] [false,false,false,false,false,false,false,false,false,false,true,true] _ (by kernel_rfl) ep
  case h=>
   refine qv h4 (fun X hX=>ak (h4.ev rfl)) fun _ h5=>?_;refine qv h5 (fun X hX=>bo (h5.ev rfl)) fun _ h6=>?_;refine qv h6 (fun X hX=>aj (off:=1) (by kernel_rfl) (h6.ev rfl) rfl) fun _ h7=>?_;refine qv h7 (fun X hX=>aw (by kernel_rfl) (h7.ev rfl) ((((S1.grow (Grw.below hX)).keptL).box hmm hB).cells 1)) fun _ h8=>?_;refine qv h8 (fun X hX=>aj (off:=4) (j:=4) (by kernel_rfl) (h8.ev rfl) rfl) fun _ h9=>?_;refine qv h9 (fun X hX=>aw (by kernel_rfl) (h9.ev rfl) ((S1.grow (Grw.below hX)).cell (i:=0) rfl rfl)) fun _ h10=>?_;refine qv h10 (fun X hX=>bb (v':=.tuple #[fR ((dH t.ds r.e.g).getD ⟨0,false,0⟩),.bool (dH t.ds r.e.g).isSome]) (by unfold mY;cases dH t.ds r.e.g<;>rfl) (lU (z:=.agg #[.int .i64 0,.bool false,.int .i64 0]) Tryz.underlying226 Tryz.underlying3 (by kernel_rfl) (h10.ev rfl) (h10.ev rfl) ((S1.grow (Grw.below hX)).at_ (i:=2) rfl))) fun _ h11=>?_;refine qv h11 (fun X hX=>ak (h11.ev rfl)) fun _ h12=>?_;refine qv h12 (fun X hX=>bG (h12.ev rfl) rfl) fun _ h13=>?_;refine qv h13 (fun X hX=>bG (h13.ev rfl) rfl) fun _ h14=>?_;refine aI ?_;apply gY (O:=(fun _=>False)) (k:=10) (deps:=[]) (R:=NewAny _ 3 _) h14 rfl rfl rfl ep NewAny.stable ep (Bl NewAny.newT)
   case hx=>exact fun X hX hΦ=>vG (fE (z:=.agg #[.int .i64 0,.bool false,.int .i64 0]) (by kernel_rfl)) hX.size rfl
   intro v6 _ h15;apply qN (k:=11) (deps:=[10]) (kx:=10) (x:=6) (y:=21) (Y:=vC _) h15 rfl ⟨rfl,rfl⟩ rfl ep ⟨rfl,rfl⟩ rfl p6 rfl rfl (n:=3) (by kernel_rfl) ep
   case hx=>
    intro X hX hΦ;exact⟨(cG (k:=10) hΦ rfl rfl),rfl,rfl⟩
   intro vs11;refine po (O:=(fun _=>False)) ep fun _ hX16 hΦ16=>?_;obtain⟨b6,rfl,gb6,qb6⟩:=StoY.val (v:=vs11) h15 rfl (bW hΦ16 (k:=11) rfl);have S16:=S1.add (Grw.below hX16) (e:=.box _ _ _) qb6 (fun b hb=>by cases hb;exact⟨gb6,Box.lt qb6⟩);refine ma h15 rfl rfl fun _ h17=>?_;refine cm ?_;refine sv (v:=dz r.e) h17 (ay (by kernel_rfl) (by kernel_rfl) (h17.ev rfl) (S16.cellsAll (i:=1) rfl)) fun _ h18=>?_;refine aS h18 (wn rfl) (aq (fun _ _=>by kernel_rfl) (h18.evs rfl) rfl) rfl rfl S16 (fO _ _) fun _ _ h19 S19=>?_;refine mv h19 rfl rfl fun _ h20=>?_;apply cq (x:=!(dH t.ds r.e.g).isSome) h20 S19 25 rfl 3 28
   case ht=>
    intro gc25;refine sy h20 rfl rfl rfl gc25 (ak (h20.ev rfl)) rfl rfl fun _ h21=>?_;refine sy h21 rfl rfl rfl gc25 (bL (h21.ev rfl)) rfl rfl fun _ h22=>?_;refine sv h22 (aA (h22.ev rfl) gc25 (h22.ev rfl)) fun _ h23=>?_;exact ae ⟨h23.mid (m:=[(_,_),(_,_)]) rfl,S19⟩
   case hf=>
    intro gc25;refine no h20 rfl rfl rfl gc25 rfl rfl fun _ h24=>?_;refine no h24 rfl rfl rfl gc25 rfl rfl fun _ h25=>?_;refine sv h25 (aD (h25.ev rfl) gc25 (h25.ev rfl)) fun _ h26=>?_;exact ae ⟨h26.mid (m:=[(_,_),(_,_)]) rfl,S19⟩
   case h=>
    rintro a27 X27 ⟨h27,S27⟩
    refine ae (aa ?_);refine qb (F:=True) h27 S27 [] [5,0,1] (fun L=>L.set 3 (cM m2 (mY (dH (jy t r))))) ?_ (fun _ _ h28 S28 hjT=>?_)
    ·
     refine aB (h27.ev rfl) (fun hc1=>?_) (fun hc1=>?_)
     ·
      apply bA h27 [false,false,false,false,false,false,false,false,false,false,false,false] _ (by kernel_rfl)
      case h=>
       refine qv h27 (fun X hX=>ak (h27.ev rfl)) fun _ h29=>?_;refine qv h29 (fun X hX=>bo (h29.ev rfl)) fun _ h30=>?_;refine qv h30 (fun X hX=>aj (off:=1) (by kernel_rfl) (h30.ev rfl) rfl) fun _ h31=>?_;refine qv h31 (fun X hX=>aw (by kernel_rfl) (h31.ev rfl) ((((S27.grow hX).keptL).box hmm hB).cells 1)) fun _ h32=>?_;refine qv h32 (fun X hX=>aj (off:=4) (j:=4) (by kernel_rfl) (h32.ev rfl) rfl) fun _ h33=>?_;refine qv h33 (fun X hX=>aw (by kernel_rfl) (h33.ev rfl) ((S27.grow hX).cell (i:=1) rfl rfl)) fun _ h34=>?_;refine qv h34 (fun X hX=>aj (off:=4) (j:=4) (by kernel_rfl) (h34.ev rfl) rfl) fun _ h35=>?_;refine qv h35 (fun X hX=>aw (by kernel_rfl) (h35.ev rfl) ((S27.grow hX).cell (i:=1) rfl rfl)) fun _ h36=>?_;refine qv h36 (fun X hX=>aj (off:=5) (j:=5) (by kernel_rfl) (h36.ev rfl) rfl) fun _ h37=>?_;refine qv h37 (fun X hX=>aw (by kernel_rfl) (h37.ev rfl) ((S27.grow hX).cell (i:=1) rfl rfl)) fun _ h38=>?_;refine qv h38 (fun X hX=>ak (h38.ev rfl)) fun _ h39=>?_;refine qv (v:=fR ⟨r.e.g,r.e.f,r.l⟩) h39 (fun X hX=>br (zs:=[.int .i64 0,.bool false,.int .i64 0]) (pl:=[(0,1),(1,1),(2,1)]) (by kernel_rfl) (by kernel_rfl) (h39.evs2 rfl) rfl rfl) fun _ h40=>?_;refine aI ?_;refine bF fun _ hX41 hΦ41=>?_;have S41:=S27.grow hX41;refine gr (wn rfl) ⟨rfl,rfl⟩ Tryz.underlying226 Tryz.underlying3 (h40.ev rfl) (h40.ev rfl) (h40.ev rfl) S41 (i:=3) rfl fun _ S42=>?_;refine ae (aa ?_);have hjT:=trivial;obtain⟨u1,u2⟩:=Bool.and_eq_true_iff.1 hc1;rw[yg u1 (by cases hq:dH t.ds r.e.g with | none=>rfl | some y=>rw[hq] at u2;cases u2)] at S42;exact⟨h40.re ⟨rfl,rfl,rfl,trivial⟩,S42,hjT⟩
      case hB=>kernel_rfl
      case hst=>rfl
     ·
      refine wp_skip (aa ?_);have hjT:=trivial;have u0:jy t r=t.ds:=yV (fun ⟨u1,u2⟩=>by rw[u1,u2] at hc1;cases hc1)
      have u1:cM m2 (mY (dH t.ds))=cM m2 (mY (dH (jy t r))):=by rw[u0]
      rw[u1] at S27;exact⟨h27.re ⟨rfl,rfl,rfl,trivial⟩,S27,hjT⟩
    ·
     refine aa (ab (ab (ah ?_)));refine vf h28 0 0 rfl rfl rfl fun _ h43=>?_;refine vl h43 S28 1 rfl rfl rfl rfl fun _ h44=>?_;refine sv h44 (aX (h44.ev rfl) (h44.ev rfl)) fun _ h45=>?_;refine ae (aa ?_);refine aB (h45.ev rfl) (fun hc2=>?_) (fun hc2=>?_)
     ·
      have r4:r.e.k=4:=by simpa using hc2
      refine ab ?_;apply bA h45 [false,false,false,false,false,false] _ (by kernel_rfl)
      case h=>
       refine qv h45 (fun X hX=>ak (h45.ev rfl)) fun _ h46=>?_;refine qv h46 (fun X hX=>bo (h46.ev rfl)) fun _ h47=>?_;refine qv h47 (fun X hX=>aj (off:=0) (by kernel_rfl) (h47.ev rfl) rfl) fun _ h48=>?_;refine qv h48 (fun X hX=>aw (by kernel_rfl) (h48.ev rfl) ((((S28.grow hX).keptL).box hmm hB).cells 0)) fun _ h49=>?_;refine qv h49 (fun X hX=>aj (off:=1) (j:=1) (by kernel_rfl) (h49.ev rfl) rfl) fun _ h50=>?_;refine qv h50 (fun X hX=>aw (by kernel_rfl) (h50.ev rfl) ((S28.grow hX).cell (i:=1) rfl rfl)) fun _ h51=>?_;refine aI ?_;refine bF fun _ hX52 hΦ52=>?_;have S52:=S28.grow hX52;refine uu (wn rfl) ⟨rfl,rfl⟩ Tryz.underlying225 Tryz.underlying3 (h51.ev rfl) (h51.ev rfl) S52 (i:=2) rfl fun _ S53=>?_;refine ae (aa (wp_ret (ai ?_)));refine zY h51 rfl ?_;exact⟨rfl,by rw[←wD r5 r4,tB r5];exact(S53.sub (.cons _ (.cons _ (.cons_cons _ (.cons_cons _ .slnil)))))⟩
      case hB=>kernel_rfl
      case hst=>rfl
     ·
      have r4:r.e.k≠4:=by simpa using hc2
      refine wp_skip (aa (ab ?_));apply bA h45 [false,false,false,false,false,false,false,true] _ (by kernel_rfl)
      case h=>
       refine qv h45 (fun X hX=>ak (h45.ev rfl)) fun _ h54=>?_;refine qv h54 (fun X hX=>bo (h54.ev rfl)) fun _ h55=>?_;refine qv h55 (fun X hX=>aj (off:=0) (by kernel_rfl) (h55.ev rfl) rfl) fun _ h56=>?_;refine qv h56 (fun X hX=>aw (by kernel_rfl) (h56.ev rfl) ((((S28.grow hX).keptL).box hmm hB).cells 0)) fun _ h57=>?_;refine qv h57 (fun X hX=>aj (off:=1) (j:=1) (by kernel_rfl) (h57.ev rfl) rfl) fun _ h58=>?_;refine qv h58 (fun X hX=>aw (by kernel_rfl) (h58.ev rfl) ((S28.grow hX).cell (i:=1) rfl rfl)) fun _ h59=>?_;refine qv h59 (fun X hX=>bb (v':=fg ((eo t.ts r.e.t).getD mo)) (by unfold mJ;cases eo t.ts r.e.t<;>rfl) (wI (z:=.agg #[.int .i64 0,.int .i64 0,.int .i64 0,.bool false]) Tryz.underlying225 Tryz.underlying3 (by kernel_rfl) (h59.ev rfl) (h59.ev rfl) ((S28.grow hX).at_ (i:=2) rfl))) fun _ h60=>?_;refine aI ?_;apply iV (k:=7) (deps:=[]) (R:=NewB _ (fun b=>.pointer (some ⟨b,0,none⟩)) _ _) h60 rfl rfl rfl NewB.stable (fun X hX hΦ=>kF (fE (z:=.agg #[.int .i64 0,.int .i64 0,.int .i64 0,.bool false]) (by kernel_rfl)) hX.size);intro v8 _ h61;refine bF fun _ hX62 hΦ62=>?_;have S62:=S28.grow hX62;have qv8:=bW hΦ62 (k:=7) rfl;obtain⟨b8,rfl,gb8,qv8⟩:=qv8;have S63:=S28.add hX62 (e:=.box _ _ _) qv8 (fun b hb=>by cases hb;exact⟨gb8,Box.lt qv8⟩);refine aG h61 (wn rfl) ⟨rfl,rfl⟩ (h61.ev rfl) (h61.ev rfl) rfl (by kernel_rfl) S63 (i:=0) rfl rfl rfl fun _ S64=>?_;refine cm ?_;refine vf h61 2 2 rfl rfl rfl fun _ h65=>?_;refine vl h65 S64 0 rfl rfl rfl rfl fun _ h66=>?_;refine sv (v:=ll ⟨0,0,((eo t.ts r.e.t).getD mo).u⟩) h66 (br (zs:=[.int .i64 0,.int .i64 0,.int .i64 0]) (pl:=[(0,1),(1,1),(2,1)]) (by kernel_rfl) (by kernel_rfl) (h66.evs2 rfl) rfl rfl) fun _ h67=>?_;refine mv h67 rfl rfl fun _ h68=>?_;refine sv (v:=dz r.e) h68 (ay (by kernel_rfl) (by kernel_rfl) (h68.ev rfl) (S64.cellsAll (i:=2) rfl)) fun _ h69=>?_
       refine aS h69 (wn rfl) (aq (fun _ _=>by kernel_rfl) (h69.evs rfl) rfl) rfl rfl S64 (nq ⟨0,0,((eo t.ts r.e.t).getD mo).u⟩ r.l r.e _) fun _ _ h70 S70=>?_;refine na (.agg #[.int .i64 0,.int .i64 0,.int .i64 0]) h70 rfl S70 fun b9 _ _ gb9 h71 S71=>?_;refine aG h71 (wn rfl) ⟨rfl,rfl⟩ (h71.ev rfl) (h71.ev rfl) rfl (by kernel_rfl) S71 (i:=0) rfl rfl rfl fun _ S72=>?_;refine ae (aa ?_);apply bA h71 [false,false,false,false,false,false,false,false,false,false,false,false,false,false,false,false,false,false,false] _ (by kernel_rfl)
       case h=>
        refine qv h71 (fun X hX=>ak (h71.ev rfl)) fun _ h73=>?_;refine qv h73 (fun X hX=>bo (h73.ev rfl)) fun _ h74=>?_;refine qv h74 (fun X hX=>aj (off:=0) (by kernel_rfl) (h74.ev rfl) rfl) fun _ h75=>?_;refine qv h75 (fun X hX=>aw (by kernel_rfl) (h75.ev rfl) ((((S72.grow hX).keptL).box hmm hB).cells 0)) fun _ h76=>?_;refine qv h76 (fun X hX=>aj (off:=1) (j:=1) (by kernel_rfl) (h76.ev rfl) rfl) fun _ h77=>?_;refine qv h77 (fun X hX=>aw (by kernel_rfl) (h77.ev rfl) ((S72.grow hX).cell (i:=3) rfl rfl)) fun _ h78=>?_;refine qv h78 (fun X hX=>aj (off:=1) (j:=1) (by kernel_rfl) (h78.ev rfl) rfl) fun _ h79=>?_;refine qv h79 (fun X hX=>aw (by kernel_rfl) (h79.ev rfl) ((S72.grow hX).cell (i:=3) rfl rfl)) fun _ h80=>?_;refine qv h80 (fun X hX=>ak (h80.ev rfl)) fun _ h81=>?_;refine qv h81 (fun X hX=>aj (off:=2) (j:=2) (by kernel_rfl) (h81.ev rfl) rfl) fun _ h82=>?_;refine qv h82 (fun X hX=>aw (by kernel_rfl) (h82.ev rfl) ((S72.grow hX).cell (i:=0) rfl rfl)) fun _ h83=>?_;refine qv h83 (fun X hX=>aj (off:=0) (j:=0) (by kernel_rfl) (h83.ev rfl) rfl) fun _ h84=>?_;refine qv h84 (fun X hX=>aw (by kernel_rfl) (h84.ev rfl) ((S72.grow hX).cell (i:=3) rfl rfl)) fun _ h85=>?_;refine qv h85 (fun X hX=>aX (h85.ev rfl) (h85.ev rfl)) fun _ h86=>?_;refine qv h86 (fun X hX=>ak (h86.ev rfl)) fun _ h87=>?_;apply jg (x:=((eo t.ts r.e.t).getD mo).c) h87 77 rfl 3 80
        case hf=>
         intro gc77;refine ax h87 (ag h87 _ rfl rfl rfl gc77) rfl rfl (fun X hX=>(aj (off:=3) (j:=3) (by kernel_rfl) (h87.ev rfl) rfl)) fun _ h88=>?_;refine ax h88 (ag h88 _ rfl rfl rfl gc77) rfl rfl (fun X hX=>(aw (by kernel_rfl) (h88.ev rfl) ((S72.grow hX).cell (i:=1) rfl rfl))) fun _ h89=>?_;refine qv h89 (fun X hX=>aD (h89.ev rfl) gc77 (h89.ev rfl)) fun _ h90=>?_;exact aI (h90.mid (m:=[(_,_),(_,_)]) rfl)
        case ht=>
         intro gc77;refine qo h87 rfl rfl rfl gc77 rfl rfl fun _ h91=>?_;refine qo h91 rfl rfl rfl gc77 rfl rfl fun _ h92=>?_;refine qv h92 (fun X hX=>aA (h92.ev rfl) gc77 (h92.ev rfl)) fun _ h93=>?_;exact aI (h93.mid (m:=[(_,_),(_,_)]) rfl)
        case h=>
         intro _ h94;refine qv (v:=fg (qG t r)) h94 (fun X hX=>br (zs:=[.int .i64 0,.int .i64 0,.int .i64 0,.bool false]) (pl:=[(0,1),(1,1),(2,1),(3,1)]) (by kernel_rfl) (by kernel_rfl) (h94.evs2 rfl) rfl rfl) fun _ h95=>?_;refine aI ?_;refine bF fun _ hX96 hΦ96=>?_;have S96:=S72.grow hX96;refine gr (wn rfl) ⟨rfl,rfl⟩ Tryz.underlying225 Tryz.underlying3 (h95.ev rfl) (h95.ev rfl) (h95.ev rfl) S96 (i:=4) rfl fun _ S97=>?_;refine ae ?_;refine BC h95 rfl ?_;exact⟨rfl,by rw[←vL r5 r4,tB r5];exact(S97.sub (.cons _ (.cons _ (.cons _ (.cons _ (.cons_cons _ (.cons_cons _ .slnil)))))))⟩
       case hB=>kernel_rfl
       case hst=>rfl
      case hB=>kernel_rfl
      case hst=>rfl
  case hB=>kernel_rfl
end Go.Proofs.YtcfdpfmchchkaaaGreatDoor
