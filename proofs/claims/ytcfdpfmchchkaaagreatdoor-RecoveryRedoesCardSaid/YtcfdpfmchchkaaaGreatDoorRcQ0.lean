/-
  Chapter 22: the reference's plan, and the order of undoing.
  Chapter 22: the reference's order of undoing; rows that are told by what can be read of them.
-/
import Derived.Test.YtcfdpfmchchkaaaGreatDoorRcP0
import Derived.Test.YtcfdpfmchchkaaaGreatDoorRc30
namespace Go.Proofs.YtcfdpfmchchkaaaGreatDoor
set_option linter.unusedVariables false
set_option linter.unusedSimpArgs false
set_option maxRecDepth 4000
open Go.RowKit Go.Sort Go.Shelf
def qP (l:List Rcd) (s:Stp):List Value:=[.int .i64 (jb Rcd.l s.r.l l 0),.int .i64 (s.j:Nat),.bool s.z]
theorem qE {l:List Rcd} (s:Stp):(qP l s).length=3:=rfl
theorem w7 {l:List Rcd} (A:List Stp) (s:Stp):(A ++ [s]).flatMap (qP l)=A.flatMap (qP l) ++ [.int .i64 (jb Rcd.l s.r.l l 0),.int .i64 (s.j:Nat),.bool s.z]:=by
 rw[List.flatMap_append];rfl
theorem wM (n:Nat):(List.replicate n [Value.int .i64 0]).flatten=(List.replicate n (0:Int)).map (.int .i64):=by
 induction n with
 | zero=>rfl
 | succ n ih=>rw[List.replicate_succ,List.replicate_succ,List.flatten_cons,ih];rfl
theorem oV {U:List Int} {k:Nat} (hk:k<U.length) (u:Int):(U.set k u).map (Value.int .i64)=(U.map (.int .i64)).take (0+k*1) ++ [.int .i64 u] ++ (U.map (.int .i64)).drop (0+k*1+[Value.int .i64 u].length):=by
 have h1:0+k*1=k:=by omega
 have h2:[Value.int .i64 u].length=1:=rfl;rw[h1,h2,List.set_eq_take_append_cons_drop,if_pos hk,List.map_append,List.map_cons,List.map_take,List.map_drop,List.append_assoc];rfl
structure PlnS where
 U:List Int
 s:List Stp
 A:Option Addr
 c:Nat
def BD (l:List Rcd) (n:Int):Bool:=match cH l n with | some r=>!cB r.e | none=>true
def BU (l:List Rcd) (n i:Int):Bool:=match cH l n with | some r=>r.e.t != i | none=>true
theorem vU {st:List Stp} {s:Stp} {p:List Stp × Int}:sU st (if p.2≠0 then ([],p.2) else (s::p.1,0))=sU (st ++ [s]) p:=by
 unfold sU;by_cases h:p.2≠0
 · rw[if_pos h,if_pos h,if_pos h]
 · rw[if_neg h,if_neg h,if_neg (fun h=>h rfl)];simp
theorem wv (l:List Rcd) (f:Nat) (us:List Los):plnG l f us=sU [] (plnG l f us):=by
 unfold sU;by_cases h:(plnG l f us).2≠0
 · rw[if_pos h,←xD l f us h]
 · rw[if_neg h,List.nil_append,←Classical.not_not.1 h]
theorem Bw (a:Int):(a==0)=decide (a=0):=by by_cases h:a=0<;>simp[h]
theorem xG {l:List Rcd} {i k:Nat} (hv:VldH l i) (hk:k<i):0≤cw (l[k]'(by have:=hv.1;omega)).e:=by
 have:=pJ (hv.e0 hk).2.2;unfold cw
 split<;>omega
theorem vt (l:List Rcd) (B:Option Addr) (d:Nat) (t:Tbl) (TA:Option Addr) (tc:Nat) (TB:Option Addr) (td:Nat) (w:World)
 (hq:Rd w w.heap.size B (l.flatMap cq)) (hr:Rd w w.heap.size TA (t.ts.flatMap cm)) (hl:l.length≤1000) (hk:TblOk t) (hv:VldH l l.length) :
 Calls Tryz.prog 85 #[.slice B l.length d,bW t TA tc TB td] w fun e w'=>∃i:Option Addr × Nat,e=.returned (.tuple #[.slice i.1 (jQ l t).1.length i.2,.int .i64 (jQ l t).2]) ∧
  St [] w w' [.row (.slice i.1 (jQ l t).1.length i.2) (jQ l t).1.length 158 3 ((jQ l t).1.flatMap (qP l))]:=by
 have hn:=hk.n
 have hu0:∀u∈t.ts.map Trn.u,0≤u:=fun u hu=>by
  obtain⟨x,hx,rfl⟩:=List.mem_map.1 hu;obtain⟨k,hk1,rfl⟩:=List.getElem_of_mem hx;exact(hk.ts k hk1).u.1
 refine aD (N:=129) Tryz.func85 rfl rfl rfl (fun _ h0=>?_);have Y:=St.init w;refine ab (ah ?_);refine nb h0 rfl rfl Y fun b3 _ _ gb3 h1 Y=>?_;refine ma h1 rfl rfl fun _ h2=>?_;refine ma h2 rfl rfl fun _ h3=>?_;refine ct ?_;refine ma h3 rfl rfl fun _ h4=>?_;replace Y:=St.nilRow Y 158 3;refine ct ?_;refine vf h4 0 0 rfl rfl rfl fun _ h5=>?_;refine vl h5 Y 1 rfl rfl rfl rfl fun _ h6=>?_;refine sv h6 (a6 Tryz.underlying22 (h6.ev rfl)) fun _ h7=>?_;refine ye (n:=t.ts.length) (z:=.int .i64 0) (zc:=[.int .i64 0]) (sz:=1) (bytes:=8) h7 (wn rfl) ⟨rfl,rfl⟩ rfl Tryz.underlying53 (by kernel_rfl) rfl rfl (h7.ev rfl) (h7.ev rfl) ⟨by omega,by omega,by omega⟩ Y fun b16 _ _ gb16 h8 Y=>?_;refine ma h8 rfl rfl fun _ h9=>?_;rw[wM] at Y;refine ae (aa (ab (ab (ah ?_))));refine ma h9 rfl rfl fun _ h10=>?_;refine ae (aa (wp_block ?_));refine bB h10 Y [7,6,3,0] (fun (q:Nat × List Int)=>[(8,.int .i64 (q.1:Nat))]) (fun (q:Nat × List Int)=>q.1≤t.ts.length∧q.2.length=t.ts.length∧∀k (h1:k<q.2.length) (h2:k<t.ts.length),k<q.1→q.2[k]=t.ts[k].u) (fun q L=>L.set 0 (.row (.slice (some ⟨b16,0,none⟩) t.ts.length t.ts.length) t.ts.length 3 1 (q.2.map (.int .i64)))) (fun (q:Nat × List Int)=>t.ts.length-q.1) ((0,List.replicate t.ts.length 0)) (⟨Nat.zero_le _,List.length_replicate,fun k _ _ h=>absurd h (Nat.not_lt_zero _)⟩) ⟨rfl,rfl,rfl,rfl,rfl,trivial⟩ (Y) ?_;intro q _ _ hF0 h11 Y;refine ab (ab (ah ?_));refine mv h11 rfl rfl fun _ h12=>?_;refine mv h12 rfl rfl fun _ h13=>?_;refine sv h13 (a6 Tryz.underlying53 (h13.ev rfl)) fun _ h14=>?_;refine sv h14 (bm (h14.ev rfl) (h14.ev rfl)) fun _ h15=>?_;refine ae (aa ?_);refine aC (h15.ev rfl) (fun hc0=>?_) (fun hc0=>?_)
 ·
  have hlt:q.1<t.ts.length:=by have:=of_decide_eq_true hc0;omega
  have hUl:q.2.length=t.ts.length:=hF0.2.1;obtain⟨b1,o1,rfl,_⟩:=hr.opened (aO bS (by decide) (by omega));refine wp_skip (aa (ab (wp_block (ah ?_))));refine mv h15 rfl rfl fun _ h16=>?_;refine mv h16 rfl rfl fun _ h17=>?_;refine vf h17 0 0 rfl rfl rfl fun _ h18=>?_;refine vl h18 Y 2 rfl rfl rfl rfl fun _ h19=>?_;refine mv h19 rfl rfl fun _ h20=>?_;refine sv h20 (az (i:=q.1) (sz:=4) Tryz.underlying22 (by kernel_rfl) (h20.ev rfl) (h20.ev rfl) (by omega) (by omega) rfl) fun _ h21=>?_;refine sv h21 (ai (off:=2) (by kernel_rfl) (h21.ev rfl) rfl) fun _ h22=>?_;refine sv h22 (aq (by kernel_rfl) (h22.ev rfl) ((aU bS (Y.rd0 hr) hlt) 2 _ rfl)) fun _ h23=>?_;refine sv h23 (az (i:=q.1) (sz:=1) Tryz.underlying53 (by kernel_rfl) (h23.ev rfl) (h23.ev rfl) (by omega) (by omega) rfl) fun _ h24=>?_;refine fy h24 (wn rfl) ⟨rfl,rfl⟩ (h24.ev rfl) (h24.ev rfl) rfl (by kernel_rfl) Y (i:=0) rfl rfl (by show 0+q.1*1+1≤t.ts.length*1;omega) fun _ Y=>?_;refine ae (aM (aa (ah ?_)));refine mv h24 rfl rfl fun _ h26=>?_;refine sv h26 (aZ (h26.ev rfl) (h26.ev rfl) (by omega)) fun _ h27=>?_;refine ma h27 rfl rfl fun _ h28=>?_;refine ae (aa ?_)
  exact⟨(q.1+1,q.2.set q.1 t.ts[q.1].u),(by show t.ts.length-(q.1+1)<t.ts.length-q.1;omega),⟨hlt,by rw[List.length_set];exact hUl,fun k h1 h2 hki=>by
show(q.2.set q.1 t.ts[q.1].u)[k]=_
rw[List.getElem_set]
by_cases e:q.1=k
· rw[if_pos e];subst e;rfl
· rw[if_neg e];exact hF0.2.2 k _ h2 (by have:k<q.1+1:=hki;omega)⟩,h28.re ⟨rfl,rfl,rfl,rfl,rfl,trivial⟩,(by show St [] w _ [.row _ _ _ _ ((q.2.set q.1 t.ts[q.1].u).map _),_,_];rw[oV (by omega)];exact(Y.sub (.cons_cons _ (.cons_cons _ (.cons_cons _ .slnil)))))⟩
 ·
  have hge:t.ts.length≤q.1:=by have:=of_decide_eq_false hc0;omega
  have hUi:q.2=t.ts.map Trn.u:=List.ext_getElem (by rw[List.length_map];exact hF0.2.1) fun k h1 h2=>by
   rw[List.getElem_map];exact hF0.2.2 k h1 (by rw[List.length_map] at h2;exact h2) (by rw[List.length_map] at h2;omega)
  rw[hUi] at Y;refine wp_exit ?_;refine av ?_;refine av ?_;refine br ?_;refine aa (wp_block ?_);refine bB h15 Y [7,3,0] (fun (p:PlnS)=>[(6,.slice p.A p.s.length p.c)]) (fun (p:PlnS)=>p.U.length=t.ts.length∧(∀u∈p.U,0≤u)∧p.s.length≤100∧jQ l t=sU p.s (plnG l (100-p.s.length) (jC t.ts p.U))) (fun p L=>[.row (.slice (some ⟨b16,0,none⟩) t.ts.length t.ts.length) t.ts.length 3 1 (p.U.map (.int .i64)),.row (.slice p.A p.s.length p.c) p.s.length 158 3 (p.s.flatMap (qP l)),.box b3 #[.slice TA t.ts.length tc,.slice TB t.ds.length td] 25]) (fun (p:PlnS)=>100-p.s.length) (⟨t.ts.map Trn.u,[],none,0⟩) (⟨List.length_map _,hu0,Nat.zero_le _,by rw[ux];exact wv _ _ _⟩) ⟨rfl,rfl,rfl,rfl,trivial⟩ (Y) ?_;intro p _ _ hF1 h29 S29;refine wp_block (ab (ah ?_));refine ma h29 rfl rfl fun _ h30=>?_;refine ma h30 rfl rfl fun _ h31=>?_;refine ae (aa (ab (ab (ah ?_))));refine ma h31 rfl rfl fun _ h32=>?_;refine ae (aa (wp_block ?_));refine bB h32 S29 [6,7,3,0] (fun (m:Nat)=>[(11,.int .i64 (m:Nat)),(9,.int .i64 (fQ t.ts p.U m).1),(10,.int .i64 (fQ t.ts p.U m).2)]) (fun (m:Nat)=>m≤t.ts.length) (fun (m:Nat) L=>L) (fun (m:Nat)=>t.ts.length-m) (0) (Nat.zero_le _) ⟨rfl,rfl,rfl,rfl,rfl,rfl,rfl,trivial⟩ (S29) ?_;intro m _ _ hF2 h33 S33;refine ab (ab (ah ?_));refine mv h33 rfl rfl fun _ h34=>?_;refine mv h34 rfl rfl fun _ h35=>?_;refine sv h35 (a6 Tryz.underlying53 (h35.ev rfl)) fun _ h36=>?_;refine sv h36 (bm (h36.ev rfl) (h36.ev rfl)) fun _ h37=>?_;refine ae (aa ?_);refine aC (h37.ev rfl) (fun hc1=>?_) (fun hc1=>?_)
  ·
   have hlt:m<t.ts.length:=by have:=of_decide_eq_true hc1;omega
   have hUl:=hF1.1
   have hmU:m<p.U.length:=by omega
   have hbg:=xU (U:=p.U) hlt hUl.symm;obtain⟨b1,o1,rfl,_⟩:=hr.opened (aO bS (by decide) (by omega));refine wp_skip (aa (ab (wp_block (ab (ah ?_)))));refine vf h37 0 0 rfl rfl rfl fun _ h38=>?_;refine vl h38 S33 2 rfl rfl rfl rfl fun _ h39=>?_;refine mv h39 rfl rfl fun _ h40=>?_;refine sv h40 (az (i:=m) (sz:=4) Tryz.underlying22 (by kernel_rfl) (h40.ev rfl) (h40.ev rfl) (by omega) (by omega) rfl) fun _ h41=>?_;refine sv h41 (ai (off:=3) (by kernel_rfl) (h41.ev rfl) rfl) fun _ h42=>?_;refine sv h42 (aq (by kernel_rfl) (h42.ev rfl) ((aU bS (S33.rd0 hr) hlt) 3 _ rfl)) fun _ h43=>?_;refine sv h43 (cg (h43.ev rfl)) fun _ h44=>?_;refine mv h44 rfl rfl fun _ h45=>?_;apply cz (x:=decide (p.U[m]>(fQ t.ts p.U m).1)) h45 S33 45 rfl 7 52
   case ht=>
    intro gc45;refine sy h45 rfl rfl rfl gc45 (aj (h45.ev rfl)) rfl rfl fun _ h46=>?_;refine sy h46 rfl rfl rfl gc45 (aj (h46.ev rfl)) rfl rfl fun _ h47=>?_;refine sy h47 rfl rfl rfl gc45 (az (i:=m) (sz:=1) Tryz.underlying53 (by kernel_rfl) (h47.ev rfl) (h47.ev rfl) (by omega) (by omega) rfl) rfl rfl fun _ h48=>?_;refine sy h48 rfl rfl rfl gc45 (aq (by kernel_rfl) (h48.ev rfl) ((qm (S33.rdOf (i:=0) rfl) hmU) 0 _ rfl)) rfl rfl fun _ h49=>?_;refine sy h49 rfl rfl rfl gc45 (aj (h49.ev rfl)) rfl rfl fun _ h50=>?_;refine sy h50 rfl rfl rfl gc45 (cE (h50.ev rfl) (h50.ev rfl)) rfl rfl fun _ h51=>?_;refine sv h51 (aA (h51.ev rfl) gc45 (h51.ev rfl)) fun _ h52=>?_;exact ae ⟨h52.mid (m:=[(_,_),(_,_),(_,_),(_,_),(_,_),(_,_)]) rfl,S33⟩
   case hf=>
    intro gc45;refine no h45 rfl rfl rfl gc45 rfl rfl fun _ h53=>?_;refine no h53 rfl rfl rfl gc45 rfl rfl fun _ h54=>?_;refine no h54 rfl rfl rfl gc45 rfl rfl fun _ h55=>?_;refine no h55 rfl rfl rfl gc45 rfl rfl fun _ h56=>?_;refine no h56 rfl rfl rfl gc45 rfl rfl fun _ h57=>?_;refine no h57 rfl rfl rfl gc45 rfl rfl fun _ h58=>?_;refine sv h58 (aG (h58.ev rfl) gc45 (h58.ev rfl)) fun _ h59=>?_;exact ae ⟨h59.mid (m:=[(_,_),(_,_),(_,_),(_,_),(_,_),(_,_)]) rfl,S33⟩
   case h=>
    rintro a60 X60 ⟨h60,S60⟩
    refine ae (aa ?_);refine aC (h60.ev rfl) (fun hc2=>?_) (fun hc2=>?_)
    ·
     have hb:fQ t.ts p.U (m+1)=(p.U[m],(m:Int)):=by rw[hbg,if_pos hc2]
     refine ah ?_;refine mv h60 rfl rfl fun _ h61=>?_;refine mv h61 rfl rfl fun _ h62=>?_;refine sv h62 (az (i:=m) (sz:=1) Tryz.underlying53 (by kernel_rfl) (h62.ev rfl) (h62.ev rfl) (by omega) (by omega) rfl) fun _ h63=>?_;refine sv h63 (aq (by kernel_rfl) (h63.ev rfl) ((qm (S60.rdOf (i:=0) rfl) hmU) 0 _ rfl)) fun _ h64=>?_;refine mv h64 rfl rfl fun _ h65=>?_;refine ma h65 rfl rfl fun _ h66=>?_;refine ma h66 rfl rfl fun _ h67=>?_;replace h67:=Has.also h67 (t:=9) (v:=.int .i64 (fQ t.ts p.U (m+1)).1) (by rw[hb];rfl);replace h67:=Has.also h67 (t:=10) (v:=.int .i64 (fQ t.ts p.U (m+1)).2) (by rw[hb];rfl);refine ae (aM (aa (ah ?_)));refine mv h67 rfl rfl fun _ h68=>?_;refine sv h68 (aZ (h68.ev rfl) (h68.ev rfl) (by omega)) fun _ h69=>?_;refine ma h69 rfl rfl fun _ h70=>?_;refine ae (aa ?_);exact⟨m+1,(by omega),hlt,h70.re ⟨rfl,rfl,rfl,rfl,rfl,rfl,rfl,trivial⟩,S60⟩
    ·
     have hb:fQ t.ts p.U (m+1)=fQ t.ts p.U m:=by rw[hbg,if_neg (by rw[hc2];decide)]
     replace h60:=Has.also h60 (t:=9) (v:=.int .i64 (fQ t.ts p.U (m+1)).1) (by rw[hb];rfl);replace h60:=Has.also h60 (t:=10) (v:=.int .i64 (fQ t.ts p.U (m+1)).2) (by rw[hb];rfl);refine wp_skip (aM (aa (ah ?_)));refine mv h60 rfl rfl fun _ h71=>?_;refine sv h71 (aZ (h71.ev rfl) (h71.ev rfl) (by omega)) fun _ h72=>?_;refine ma h72 rfl rfl fun _ h73=>?_;refine ae (aa ?_);exact⟨m+1,(by omega),hlt,h73.re ⟨rfl,rfl,rfl,rfl,rfl,rfl,rfl,trivial⟩,S60⟩
  ·
   obtain rfl:m=t.ts.length:=by have:=of_decide_eq_false hc1;omega
   obtain⟨hUl,hU0,hs1,hun⟩:=hF1;have hbst:=xR (ts:=t.ts) hU0 hUl.symm;refine wp_exit ?_;refine av ?_;refine av ?_;refine br ?_;refine aa (ab (ab (ah ?_)));refine mv h37 rfl rfl fun _ h74=>?_;refine sv h74 (bm (h74.ev rfl) (h74.ev rfl)) fun _ h75=>?_;refine ae (aa ?_);refine aC (h75.ev rfl) (fun hc3=>?_) (fun hc3=>?_)
   ·
    have hno:fa (jC t.ts p.U)=none∨∃b,fa (jC t.ts p.U)=some b∧b.u=0:=by
     rcases hbst with h | ⟨b,k,hkl,_,_,_,_,_,he⟩
     · exact h.2
     · rw[he] at hc3;have h3:(k:Int)<0:=of_decide_eq_true hc3;omega
    rw[dX hno] at hun;refine ab (ah ?_);refine mv h75 rfl rfl fun _ h76=>?_;refine ma h76 rfl rfl fun _ h77=>?_;refine ma h77 rfl rfl fun _ h78=>?_;refine ae (aa (wp_ret (ak (aB (ak (aB ?_))))));refine el h78 rfl rfl rfl ?_;refine⟨(p.A,p.c),by rw[hun];show _=Ending.returned (Value.tuple #[Value.slice p.A (p.s ++ []).length p.c,_]);rw[List.append_nil];rfl,?_⟩;rw[hun];show St [] w _ [.row (.slice p.A (p.s ++ []).length p.c) (p.s ++ []).length _ _ ((p.s ++ []).flatMap _)];rw[List.append_nil];exact(S33.sub (.cons _ (.cons_cons _ (.cons _ .slnil))))
   ·
    obtain⟨b,k,hkl,hbb,hb0,hbj,hbi,hbu,hbe⟩:=hbst.resolve_left (fun h=>by have:=of_decide_eq_false hc3;omega);rw[hbe] at h75;refine wp_skip (aa (ab (ah ?_)));refine mv h75 rfl rfl fun _ h79=>?_;refine mv h79 rfl rfl fun _ h80=>?_;refine aW h80 (wn rfl) (ao (fun _ _=>by kernel_rfl) (h80.evs rfl) rfl) rfl rfl S33 (tV l b.u B d _ (S33.rd0 hq) (by omega)) fun _ _ h81 S81=>?_;refine ma h81 rfl rfl fun _ h82=>?_;refine ae (aa (ab (ab ?_)));apply bq h82 [false,false,false,false,false,false,false,false,false,false,false,false,false,false,false,false,false,false,false,false,false,false,false,false,false] _ (by kernel_rfl)
    case h=>
     refine qv h82 (fun X hX=>aj (h82.ev rfl)) fun _ h83=>?_;refine qv h83 (fun X hX=>bm (h83.ev rfl) (h83.ev rfl)) fun _ h84=>?_;refine qv h84 (fun X hX=>aj (h84.ev rfl)) fun _ h85=>?_;apply ij (x:=BD l b.u) h85 66 rfl 8 74
     case hf=>
      intro gc66;obtain⟨x,hxl,hix,hxm,hfx⟩:=eG (κ:=Rcd.l) (n:=b.u) (l:=l) (k:=0) (by have:=of_decide_eq_false gc66;omega);rw[Nat.zero_add] at hix;obtain⟨b5,o5,rfl,_⟩:=hq.opened (aO aJ (by decide) (by omega));have hfx:cH l b.u=some l[x]:=hfx;refine ar h85 (ag h85 _ rfl rfl rfl gc66) rfl rfl (fun X hX=>(aj (h85.ev rfl))) fun _ h86=>?_;refine ar h86 (ag h86 _ rfl rfl rfl gc66) rfl rfl (fun X hX=>(aj (h86.ev rfl))) fun _ h87=>?_;refine ar h87 (ag h87 _ rfl rfl rfl gc66) rfl rfl (fun X hX=>(az (i:=x) (sz:=14) Tryz.underlying41 (by kernel_rfl) (h87.ev rfl) (h87.ev rfl) (by omega) (by omega) rfl)) fun _ h88=>?_;refine ar h88 (ag h88 _ rfl rfl rfl gc66) rfl rfl (fun X hX=>(ai (off:=1) (by kernel_rfl) (h88.ev rfl) rfl)) fun _ h89=>?_;refine ar (v:=ee l[x].e) h89 (ag h89 _ rfl rfl rfl gc66) rfl rfl (fun X hX=>(ay (by kernel_rfl) (by kernel_rfl) (h89.ev rfl) (dY ((S81.grow hX).rd0 hq) hxl))) fun _ h90=>?_;refine dA h90 (ag h90 _ rfl rfl rfl gc66) rfl rfl (fun X=>(ao (fun _ _=>by kernel_rfl) (h90.evs rfl) rfl)) (fun X hX=>ie _ _) fun _ h91=>?_;refine ar h91 (ag h91 _ rfl rfl rfl gc66) rfl rfl (fun X hX=>(bh (v':=.bool (BD l b.u)) (by unfold BD;rw[hfx]) (cg (h91.ev rfl)))) fun _ h92=>?_;refine qv h92 (fun X hX=>aG (h92.ev rfl) gc66 (h92.ev rfl)) fun _ h93=>?_;exact aI (h93.mid (m:=[(_,_),(_,_),(_,_),(_,_),(_,_),(_,_),(_,_)]) rfl)
     case ht=>
      intro gc66;refine qo h85 rfl rfl rfl gc66 rfl rfl fun _ h94=>?_;refine qo h94 rfl rfl rfl gc66 rfl rfl fun _ h95=>?_;refine qo h95 rfl rfl rfl gc66 rfl rfl fun _ h96=>?_;refine qo h96 rfl rfl rfl gc66 rfl rfl fun _ h97=>?_;refine qo h97 rfl rfl rfl gc66 rfl rfl fun _ h98=>?_;refine qo h98 rfl rfl rfl gc66 rfl rfl fun _ h99=>?_;refine qo h99 rfl rfl rfl gc66 rfl rfl fun _ h100=>?_;refine qv h100 (fun X hX=>aA (h100.ev rfl) gc66 (h100.ev rfl)) fun _ h101=>?_;exact aI (h101.mid (m:=[(_,_),(_,_),(_,_),(_,_),(_,_),(_,_),(_,_)]) rfl)
     case h=>
      intro _ h102;refine qv h102 (fun X hX=>aj (h102.ev rfl)) fun _ h103=>?_;apply kj h103 75 rfl 13 88
      case ht=>
       intro gc75;refine qo h103 rfl rfl rfl gc75 rfl rfl fun _ h104=>?_;refine qo h104 rfl rfl rfl gc75 rfl rfl fun _ h105=>?_;refine qo h105 rfl rfl rfl gc75 rfl rfl fun _ h106=>?_;refine qo h106 rfl rfl rfl gc75 rfl rfl fun _ h107=>?_;refine qo h107 rfl rfl rfl gc75 rfl rfl fun _ h108=>?_;refine qo h108 rfl rfl rfl gc75 rfl rfl fun _ h109=>?_;refine qo h109 rfl rfl rfl gc75 rfl rfl fun _ h110=>?_;refine qo h110 rfl rfl rfl gc75 rfl rfl fun _ h111=>?_;refine qo h111 rfl rfl rfl gc75 rfl rfl fun _ h112=>?_;refine qo h112 rfl rfl rfl gc75 rfl rfl fun _ h113=>?_;refine qo h113 rfl rfl rfl gc75 rfl rfl fun _ h114=>?_;refine qo h114 rfl rfl rfl gc75 rfl rfl fun _ h115=>?_;refine qo h115 rfl rfl rfl gc75 rfl rfl fun _ h116=>?_;exact aI ⟨_,h116.mid (m:=[(_,_),(_,_),(_,_),(_,_),(_,_),(_,_),(_,_),(_,_),(_,_),(_,_),(_,_),(_,_)]) rfl⟩
      case hf=>
       intro gc75;obtain⟨x,hxl,hix,hxm,hfx⟩:=eG (κ:=Rcd.l) (n:=b.u) (l:=l) (k:=0) (by have:=of_decide_eq_false (Bool.or_eq_false_iff.1 gc75).1;omega);rw[Nat.zero_add] at hix;obtain⟨b5,o5,rfl,_⟩:=hq.opened (aO aJ (by decide) (by omega));obtain⟨b1,o1,rfl,_⟩:=hr.opened (aO bS (by decide) (by omega));have hfx:cH l b.u=some l[x]:=hfx;refine ar h103 (ag h103 _ rfl rfl rfl gc75) rfl rfl (fun X hX=>(aj (h103.ev rfl))) fun _ h117=>?_;refine ar h117 (ag h117 _ rfl rfl rfl gc75) rfl rfl (fun X hX=>(aj (h117.ev rfl))) fun _ h118=>?_;refine ar h118 (ag h118 _ rfl rfl rfl gc75) rfl rfl (fun X hX=>(az (i:=x) (sz:=14) Tryz.underlying41 (by kernel_rfl) (h118.ev rfl) (h118.ev rfl) (by omega) (by omega) rfl)) fun _ h119=>?_;refine ar h119 (ag h119 _ rfl rfl rfl gc75) rfl rfl (fun X hX=>(ai (off:=1) (by kernel_rfl) (h119.ev rfl) rfl)) fun _ h120=>?_;refine ar h120 (ag h120 _ rfl rfl rfl gc75) rfl rfl (fun X hX=>(ai (off:=1) (by kernel_rfl) (h120.ev rfl) rfl)) fun _ h121=>?_;refine ar h121 (ag h121 _ rfl rfl rfl gc75) rfl rfl (fun X hX=>(aq (by kernel_rfl) (h121.ev rfl) ((aU aJ ((S81.grow hX).rd0 hq) hxl) 2 _ rfl))) fun _ h122=>?_;refine ar h122 (ag h122 _ rfl rfl rfl gc75) rfl rfl (fun X hX=>(ai (off:=0) (j:=0) (by kernel_rfl) (h122.ev rfl) rfl)) fun _ h123=>?_;refine ar h123 (ag h123 _ rfl rfl rfl gc75) rfl rfl (fun X hX=>(aq (by kernel_rfl) (h123.ev rfl) ((S81.grow hX).cell (i:=2) rfl rfl))) fun _ h124=>?_;refine ar h124 (ag h124 _ rfl rfl rfl gc75) rfl rfl (fun X hX=>(aj (h124.ev rfl))) fun _ h125=>?_;refine ar h125 (ag h125 _ rfl rfl rfl gc75) rfl rfl (fun X hX=>(az (i:=k) (sz:=4) Tryz.underlying22 (by kernel_rfl) (h125.ev rfl) (h125.ev rfl) (by omega) (by omega) rfl)) fun _ h126=>?_
       refine ar h126 (ag h126 _ rfl rfl rfl gc75) rfl rfl (fun X hX=>(ai (off:=0) (by kernel_rfl) (h126.ev rfl) rfl)) fun _ h127=>?_;refine ar h127 (ag h127 _ rfl rfl rfl gc75) rfl rfl (fun X hX=>(aq (by kernel_rfl) (h127.ev rfl) ((aU bS ((S81.grow hX).rd0 hr) hkl) 0 _ rfl))) fun _ h128=>?_;refine ar h128 (ag h128 _ rfl rfl rfl gc75) rfl rfl (fun X hX=>(bh (v':=.bool (BU l b.u b.i)) (by unfold BU;rw[hfx,hbi]) (ba (h128.ev rfl) (h128.ev rfl)))) fun _ h129=>?_;exact aI (h129.mid (m:=[(_,_),(_,_),(_,_),(_,_),(_,_),(_,_),(_,_),(_,_),(_,_),(_,_),(_,_),(_,_)]) rfl)
      case h=>
       intro v130 _ hg88 h130;refine aI ?_;refine bF fun _ hX131 hΦ131=>?_;have S131:=S81.grow hX131;refine sv h130 (fA (h130.ev rfl) (h130.ev rfl) (h130.ev rfl) hg88) fun _ h132=>?_;refine ae (aa ?_);refine aC (h132.ev rfl) (fun hc4=>?_) (fun hc4=>?_)
       ·
        have hmi:cH l b.u=none∨∃r,cH l b.u=some r∧¬(cB r.e=true∧r.e.t=b.i):=by
         cases hf:cH l b.u with
         | none=>exact .inl rfl
         | some r=>
          refine .inr ⟨r,rfl,fun hh=>?_⟩;unfold BD BU at hc4;rw[hf] at hc4;simp only[] at hc4;rw[hh.1,show(r.e.t != b.i)=false by simp[hh.2]] at hc4;simp only[Bool.not_true,Bool.or_false] at hc4;rw[show cH l b.u=none from gK (of_decide_eq_true hc4)] at hf
          cases hf
        rw[gJ hbb hb0 hmi] at hun;refine ab (ah ?_);refine ma h132 rfl rfl fun _ h133=>?_;refine ma h133 rfl rfl fun _ h134=>?_;refine ae (aa (wp_ret (ak (aB (ak (aB ?_))))));refine el h134 rfl rfl rfl ?_;refine⟨(none,0),by rw[hun];rfl,?_⟩;rw[hun];exact(S131.sub (List.nil_sublist _)).nilRow 158 3
       ·
        obtain⟨u12,u3⟩:=Bool.or_eq_false_iff.1 hc4;obtain⟨u1,u2⟩:=Bool.or_eq_false_iff.1 u12;obtain⟨x,hxl,hix,hxm,hfx⟩:=eG (κ:=Rcd.l) (n:=b.u) (l:=l) (k:=0) (by have:=of_decide_eq_false u1;omega);have hfx:cH l b.u=some l[x]:=hfx;unfold BD at u2;unfold BU at u3;rw[hfx] at u2 u3;have hrr:cB l[x].e=true∧l[x].e.t=b.i:=⟨by simpa using u2,by simpa using u3⟩;have hix0:=hix;rw[Nat.zero_add] at hix;obtain⟨b5,o5,rfl,_⟩:=hq.opened (aO aJ (by decide) (by omega));have hnu:0≤cw l[x].e:=xG hv hxl
        have hkU:k<p.U.length:=by omega
        refine wp_skip (aa (ab (ab (ah ?_))));refine mv h132 rfl rfl fun _ h135=>?_;refine sv h135 (a6 Tryz.underlying154 (h135.ev rfl)) fun _ h136=>?_;refine sv h136 (iL (h136.ev rfl) (h136.ev rfl)) fun _ h137=>?_;refine ae (aa ?_);refine aC (h137.ev rfl) (fun hc5=>?_) (fun hc5=>?_)
        ·
         have h0:100-p.s.length=0:=by have:=of_decide_eq_true hc5;omega
         rw[h0,kz hbb hb0 hfx hrr] at hun;refine ab (ah ?_);refine ma h137 rfl rfl fun _ h138=>?_;refine ma h138 rfl rfl fun _ h139=>?_;refine ae (aa (wp_ret (ak (aB (ak (aB ?_))))));refine el h139 rfl rfl rfl ?_;refine⟨(none,0),by rw[hun];rfl,?_⟩;rw[hun];exact(S131.sub (List.nil_sublist _)).nilRow 158 3
        ·
         have h0:100-p.s.length=100-(p.s.length+1)+1:=by have:=of_decide_eq_false hc5;omega
         have hun2:jQ l t=sU (p.s ++ [⟨l[x],k,decide (cw l[x].e=0)⟩]) (plnG l (100-(p.s ++ [(⟨l[x],k,decide (cw l[x].e=0)⟩:Stp)]).length) (jC t.ts (p.U.set k (cw l[x].e)))):=by
          rw[hun,h0,kJ hbb hb0 hfx hrr,vU,List.length_append,List.length_singleton,wA hkU,hbj]
         refine wp_skip (aa (ab (ah ?_)));refine mv h137 rfl rfl fun _ h140=>?_;refine mv h140 rfl rfl fun _ h141=>?_;refine mv h141 rfl rfl fun _ h142=>?_;refine mv h142 rfl rfl fun _ h143=>?_;refine sv h143 (az (i:=x) (sz:=14) Tryz.underlying41 (by kernel_rfl) (h143.ev rfl) (h143.ev rfl) (by omega) (by omega) rfl) fun _ h144=>?_;refine sv h144 (ai (off:=1) (by kernel_rfl) (h144.ev rfl) rfl) fun _ h145=>?_;refine sv h145 (ai (off:=2) (by kernel_rfl) (h145.ev rfl) rfl) fun _ h146=>?_;refine sv h146 (aq (by kernel_rfl) (h146.ev rfl) ((aU aJ (S131.rd0 hq) hxl) 3 _ rfl)) fun _ h147=>?_;refine sv h147 (az (i:=k) (sz:=1) Tryz.underlying53 (by kernel_rfl) (h147.ev rfl) (h147.ev rfl) (by omega) (by omega) rfl) fun _ h148=>?_;refine fy h148 (wn rfl) ⟨rfl,rfl⟩ (h148.ev rfl) (h148.ev rfl) rfl (by kernel_rfl) S131 (i:=0) rfl rfl (by show 0+k*1+1≤t.ts.length*1;omega) fun X149 S149=>?_
         replace S149:St [] w X149 [.row (.slice (some ⟨b16,0,none⟩) t.ts.length t.ts.length) t.ts.length 3 1 ((p.U.set k l[x].e.p).map (.int .i64)),.row (.slice p.A p.s.length p.c) p.s.length 158 3 (p.s.flatMap (qP l)),.box b3 #[.slice TA t.ts.length tc,.slice TB t.ds.length td] 25]:=by
          rw[oV hkU];exact S149
         refine ae (aa (ab (ab (ah ?_))));refine mv h148 rfl rfl fun _ h150=>?_;refine mv h150 rfl rfl fun _ h151=>?_;refine sv h151 (az (i:=x) (sz:=14) Tryz.underlying41 (by kernel_rfl) (h151.ev rfl) (h151.ev rfl) (by omega) (by omega) rfl) fun _ h152=>?_;refine sv h152 (ai (off:=1) (by kernel_rfl) (h152.ev rfl) rfl) fun _ h153=>?_;refine sv h153 (ai (off:=0) (by kernel_rfl) (h153.ev rfl) rfl) fun _ h154=>?_;refine sv h154 (aq (by kernel_rfl) (h154.ev rfl) ((aU aJ (S149.rd0 hq) hxl) 1 _ rfl)) fun _ h155=>?_;refine sv h155 (aV (h155.ev rfl) (h155.ev rfl)) fun _ h156=>?_;refine ae (aa ?_);replace h156:=(h156.re ⟨rfl,rfl,rfl,rfl,rfl,rfl,rfl,rfl,rfl,rfl,rfl,rfl,rfl,rfl,rfl,rfl,rfl,rfl,rfl,rfl,rfl,rfl,rfl,rfl,rfl,rfl,rfl,rfl,rfl,rfl,rfl,rfl,rfl,rfl,rfl,rfl,rfl,rfl,rfl,rfl,rfl,rfl,rfl,trivial⟩:Has _ _ _ [(108,_),(107,_),(106,_),(105,_),(104,_),(103,_),(102,_),(101,_),(100,_),(99,_),(98,_),(97,_),(96,_),(95,_),(94,_),(93,_),(92,_),(91,_),(90,_),(89,_),(88,_),(75,_),(74,_),(66,_),(65,_),(64,_),(12,_),(63,_),(62,_),(61,_),(59,_),(58,_),(35,_),(34,_),(33,_),(32,_),(11,_),(9,_),(10,_),(6,_),(7,_),(3,_),(0,_)]);refine mH (F:=True) h156 S149 [] [12,10,6,7,3,0] (fun L=>L.set 0 (.row (.slice (some ⟨b16,0,none⟩) t.ts.length t.ts.length) t.ts.length 3 1 ((p.U.set k (cw l[x].e)).map (.int .i64)))) ?_ (fun _ _ h157 S157 hjT=>?_)
         ·
          refine aC (h156.ev rfl) (fun hc6=>?_) (fun hc6=>?_)
          ·
           refine ah ?_;refine mv h156 rfl rfl fun _ h158=>?_;refine mv h158 rfl rfl fun _ h159=>?_;refine mv h159 rfl rfl fun _ h160=>?_;refine mv h160 rfl rfl fun _ h161=>?_;refine sv h161 (az (i:=x) (sz:=14) Tryz.underlying41 (by kernel_rfl) (h161.ev rfl) (h161.ev rfl) (by omega) (by omega) rfl) fun _ h162=>?_;refine sv h162 (ai (off:=1) (by kernel_rfl) (h162.ev rfl) rfl) fun _ h163=>?_;refine sv h163 (ai (off:=3) (by kernel_rfl) (h163.ev rfl) rfl) fun _ h164=>?_;refine sv h164 (aq (by kernel_rfl) (h164.ev rfl) ((aU aJ (S149.rd0 hq) hxl) 4 _ rfl)) fun _ h165=>?_;refine sv h165 (az (i:=k) (sz:=1) Tryz.underlying53 (by kernel_rfl) (h165.ev rfl) (h165.ev rfl) (by omega) (by omega) rfl) fun _ h166=>?_;refine fy h166 (wn rfl) ⟨rfl,rfl⟩ (h166.ev rfl) (h166.ev rfl) rfl (by kernel_rfl) S149 (i:=0) rfl rfl (by show 0+k*1+1≤t.ts.length*1;omega) fun X167 S167=>?_;refine ae (aa ?_);have hjT:=trivial
           replace S167:St [] w X167 [.row (.slice (some ⟨b16,0,none⟩) t.ts.length t.ts.length) t.ts.length 3 1 (((p.U.set k l[x].e.p).set k l[x].e.x).map (.int .i64)),.row (.slice p.A p.s.length p.c) p.s.length 158 3 (p.s.flatMap (qP l)),.box b3 #[.slice TA t.ts.length tc,.slice TB t.ds.length td] 25]:=by
            rw[oV (U:=p.U.set k l[x].e.p) (by rw[List.length_set];exact hkU)];exact S167
           rw[List.set_set,show l[x].e.x=cw l[x].e by unfold cw;rw[if_pos (by simpa using hc6)]] at S167;exact⟨h166.re ⟨rfl,rfl,rfl,rfl,rfl,rfl,trivial⟩,S167,hjT⟩
          ·
           refine wp_skip (aa ?_);have hjT:=trivial;rw[show l[x].e.p=cw l[x].e by unfold cw;rw[if_neg (by simpa using hc6)]] at S149;exact⟨h156.re ⟨rfl,rfl,rfl,rfl,rfl,rfl,trivial⟩,S149,hjT⟩
         ·
          refine aa (ah ?_);refine mv h157 rfl rfl fun _ h168=>?_;refine mv h168 rfl rfl fun _ h169=>?_;refine mv h169 rfl rfl fun _ h170=>?_;refine mv h170 rfl rfl fun _ h171=>?_;refine mv h171 rfl rfl fun _ h172=>?_;refine sv h172 (az (i:=k) (sz:=1) Tryz.underlying53 (by kernel_rfl) (h172.ev rfl) (h172.ev rfl) (by omega) (by omega) rfl) fun _ h173=>?_;refine sv h173 (aq (by kernel_rfl) (h173.ev rfl) ((qm (S157.rdOf (i:=0) rfl) (show k<(p.U.set k (cw l[x].e)).length by rw[List.length_set];exact hkU)) 0 _ rfl)) fun _ h174=>?_;refine sv h174 (bh (v':=.bool (decide (cw l[x].e=0))) (by rw[List.getElem_set_self,Bw]) (aV (h174.ev rfl) (h174.ev rfl))) fun _ h175=>?_;refine sv h175 (bo (zs:=[.int .i64 0,.int .i64 0,.bool false]) (pl:=[(0,1),(1,1),(2,1)]) (by kernel_rfl) (by kernel_rfl) (h175.evs2 rfl) rfl rfl) fun _ h176=>?_;refine dW (zc:=[.int .i64 0,.int .i64 0,.bool false]) (sz:=3) h176 (wn rfl) ⟨rfl,rfl⟩ rfl Tryz.underlying154 (by kernel_rfl) (by kernel_rfl) rfl rfl rfl (h176.evs2 rfl) rfl rfl rfl S157 fun b127 _ _ gb127 h177 S177=>?_;refine cc (z:=.agg #[.int .i64 0,.int .i64 0,.bool false]) (sz:=3) (bytes:=24) h177 (wn rfl) ⟨rfl,rfl⟩ rfl Tryz.underlying154 (by kernel_rfl) rfl rfl (h177.ev rfl) (h177.ev rfl) S177 (i:=2) rfl (S177.boxRd (i:=0) rfl) rfl (List.all_eq_true.1 rfl) ⟨(by omega),by decide⟩ fun A128 c128 _ _ h178 S178=>?_;refine ma h178 rfl rfl fun _ h179=>?_;replace h179:=Has.also h179 (t:=6) (v:=.slice A128 (p.s ++ [(⟨l[x],k,decide (cw l[x].e=0)⟩:Stp)]).length c128) (by rw[List.length_append,List.length_singleton];rfl);refine ae (aM (aa ?_))
          exact⟨⟨p.U.set k (cw l[x].e),p.s ++ [⟨l[x],k,decide (cw l[x].e=0)⟩],A128,c128⟩,(by show 100-(p.s ++ [_]).length<100-p.s.length;rw[List.length_append,List.length_singleton];omega),⟨by rw[List.length_set];exact hUl,fun u hu=>by rcases List.mem_or_eq_of_mem_set hu with h | h;exact hU0 u h;rw[h];exact hnu,by rw[List.length_append,List.length_singleton];omega,hun2⟩,h179.re ⟨rfl,rfl,rfl,rfl,trivial⟩,(by
show St [] w _ [.row _ _ _ _ ((p.U.set k (cw l[x].e)).map _),.row (.slice A128 (p.s ++ [_]).length c128) (p.s ++ [_]).length _ _ ((p.s ++ [_]).flatMap (qP l)),_]
rw[w7,List.length_append,List.length_singleton,hxm]
exact(S178.sub (.cons _ (.cons_cons _ (.cons_cons _ (.cons_cons _ .slnil))))))⟩
    case hB=>kernel_rfl
    case hst=>rfl
set_option maxRecDepth 4000
open Go.RowKit Go.Sort Go.Shelf
theorem xf (l:List Rcd):∀(f:Nat) (us:List Los) (s:Stp),s∈(plnG l f us).1→s.r∈l:=by
 intro f
 induction f with
 | zero=>
  intro us s h
  cases hb:fa us with
  | none=>rw[dX (.inl hb)] at h;cases h
  | some b=>
   by_cases h0:b.u=0
   · rw[dX (.inr ⟨b,hb,h0⟩)] at h;cases h
   by_cases hr:∃r,cH l b.u=some r∧(cB r.e=true∧r.e.t=b.i)
   · obtain⟨r,hf,hr⟩:=hr
     rw[kz hb h0 hf hr] at h;cases h
   · rw[gJ hb h0 (by
      cases hf:cH l b.u with
      | none=>exact .inl rfl
      | some r=>exact .inr ⟨r,rfl,fun hh=>hr ⟨r,hf,hh⟩⟩)] at h;cases h
 | succ f ih=>
  intro us s h
  cases hb:fa us with
  | none=>rw[dX (.inl hb)] at h;cases h
  | some b=>
   by_cases h0:b.u=0
   · rw[dX (.inr ⟨b,hb,h0⟩)] at h;cases h
   by_cases hr:∃r,cH l b.u=some r∧(cB r.e=true∧r.e.t=b.i)
   · obtain⟨r,hf,hr⟩:=hr
     rw[kJ hb h0 hf hr] at h
     split at h
     · cases h
     · rcases List.mem_cons.1 h with h | h
       · rw[h];exact List.mem_of_find?_eq_some hf
       · exact ih _ s h
   · rw[gJ hb h0 (by
      cases hf:cH l b.u with
      | none=>exact .inl rfl
      | some r=>exact .inr ⟨r,rfl,fun hh=>hr ⟨r,hf,hh⟩⟩)] at h;cases h
theorem AZ {l:List Rcd} (hv:VldH l l.length) {r:Rcd} (hr:r∈l):∃x,∃hx:x<l.length,jb Rcd.l r.l l 0=(x:Int)∧l[x]=r:=by
 obtain⟨m,hm,rfl⟩:=List.getElem_of_mem hr;exact⟨m,hm,lH hm (fun i hi him=>by have:=hv.lt him hm;omega) rfl,rfl⟩
def oL (s:List Stp) (j:Nat):List Int:=((s.take j).filter fun s=>s.r.e.k==0).map fun s=>s.r.l
theorem y8 {s:List Stp} {j:Nat} (hj:j<s.length):oL s (j+1)=if s[j].r.e.k=0 then oL s j ++ [s[j].r.l] else oL s j:=by
 unfold oL;rw[List.take_add_one,List.getElem?_eq_getElem hj,List.filter_append,List.map_append];show _ ++ List.map _ (List.filter _ [s[j]])=_;by_cases h:s[j].r.e.k=0
 · rw[if_pos h,List.filter_cons,if_pos (by simpa using h)];rfl
 · rw[if_neg h,List.filter_cons,if_neg (by simpa using h)];simp
theorem AK (s:List Stp) (j:Nat):(oL s j).length≤j:=by
 unfold oL;rw[List.length_map];exact Nat.le_trans (List.length_filter_le _ _) (by rw[List.length_take];omega)
theorem p6 (l:List Rcd):∀(f:Nat) (us:List Los),(plnG l f us).1.length≤f:=by
 intro f
 induction f with
 | zero=>
  intro us
  cases hb:fa us with
  | none=>rw[dX (.inl hb)];exact Nat.le_refl _
  | some b=>
   by_cases h0:b.u=0
   · rw[dX (.inr ⟨b,hb,h0⟩)];exact Nat.le_refl _
   by_cases hr:∃r,cH l b.u=some r∧(cB r.e=true∧r.e.t=b.i)
   · obtain⟨r,hf,hr⟩:=hr
     rw[kz hb h0 hf hr];exact Nat.le_refl _
   · rw[gJ hb h0 (by
      cases hf:cH l b.u with
      | none=>exact .inl rfl
      | some r=>exact .inr ⟨r,rfl,fun hh=>hr ⟨r,hf,hh⟩⟩)];exact Nat.le_refl _
 | succ f ih=>
  intro us
  cases hb:fa us with
  | none=>rw[dX (.inl hb)];exact Nat.zero_le _
  | some b=>
   by_cases h0:b.u=0
   · rw[dX (.inr ⟨b,hb,h0⟩)];exact Nat.zero_le _
   by_cases hr:∃r,cH l b.u=some r∧(cB r.e=true∧r.e.t=b.i)
   · obtain⟨r,hf,hr⟩:=hr
     rw[kJ hb h0 hf hr]
     split
     · exact Nat.zero_le _
     · exact Nat.succ_le_succ (ih _)
   · rw[gJ hb h0 (by
      cases hf:cH l b.u with
      | none=>exact .inl rfl
      | some r=>exact .inr ⟨r,rfl,fun hh=>hr ⟨r,hf,hh⟩⟩)];exact Nat.zero_le _
theorem xF (l:List Rcd) (t:Tbl):(lu l t).length≤100:=by
 unfold lu;rw[List.length_map];exact Nat.le_trans (List.length_filter_le _ _) (p6 l 100 _)
theorem zg (l:List Rcd) (t:Tbl):(qj l t).length≤100:=by
 unfold qj
 split
 · exact xF l t
 · exact Nat.zero_le _
theorem mL (l:List Rcd) (B:Option Addr) (d:Nat) (t:Tbl) (TA:Option Addr) (tc:Nat) (TB:Option Addr) (td:Nat) (w:World)
 (hq:Rd w w.heap.size B (l.flatMap cq)) (hr:Rd w w.heap.size TA (t.ts.flatMap cm)) (hl:l.length≤1000) (hk:TblOk t) (hv:VldH l l.length) :
 Calls Tryz.prog 32 #[.slice B l.length d,bW t TA tc TB td] w fun e w'=>∃i:Option Addr × Nat,e=.returned (.tuple #[.slice i.1 (lu l t).length i.2,.int .i64 (jQ l t).2]) ∧
  St [] w w' [.row (.slice i.1 (lu l t).length i.2) (lu l t).length 3 1 ((lu l t).map (.int .i64))]:=by
 obtain⟨ss,hss⟩:∃ss,ss=(jQ l t).1:=⟨_,rfl⟩;have hsm:∀s∈ss,s.r∈l:=fun s hs=>xf l 100 _ s (by rw[hss] at hs;exact hs)
 have hsl:ss.length≤100:=by rw[hss];exact p6 l 100 _
 have hord:lu l t=oL ss ss.length:=by unfold lu oL;rw[List.take_length,hss]
 rw[hord];have hP:=fun TA tc TB td w a b=>vt l B d t TA tc TB td w a b hl hk hv;rw[←hss] at hP;refine aD (N:=42) Tryz.func32 rfl rfl rfl (fun _ h0=>?_);have Y:=St.init w;refine ab (ah ?_);refine nb h0 rfl rfl Y fun b3 _ _ gb3 h1 Y=>?_;refine ma h1 rfl rfl fun _ h2=>?_;refine ma h2 rfl rfl fun _ h3=>?_;refine ct ?_;refine mv h3 rfl rfl fun _ h4=>?_;refine sv (v:=bW t TA tc TB td) h4 (ay (by kernel_rfl) (by kernel_rfl) (h4.ev rfl) (Y.cellsAll (i:=0) rfl)) fun _ h5=>?_;refine de h5 (wn rfl) (ao (fun _ _=>by kernel_rfl) (h5.evs rfl) rfl) rfl rfl Y (hP TA tc TB td _ (Y.rd0 hq) (Y.rd0 hr)) fun p14 _ _ h6 Y=>?_;refine mv h6 rfl rfl fun _ h7=>?_;refine vx h7 rfl rfl rfl fun _ h8=>?_;refine vx h8 rfl rfl rfl fun _ h9=>?_;refine ma h9 rfl rfl fun _ h10=>?_;refine ma h10 rfl rfl fun _ h11=>?_;obtain⟨AP,cP⟩:=p14;refine ct ?_;refine ma h11 rfl rfl fun _ h12=>?_;replace Y:=St.nilRow Y 3 1;refine ae (aa (ab (ab (ah ?_))));refine ma h12 rfl rfl fun _ h13=>?_;refine ae (aa (wp_block ?_));refine bB h13 Y [7,6,5,4,0] (fun (q:Nat × Option Addr × Nat)=>[(9,.int .i64 (q.1:Nat)),(8,.slice q.2.1 (oL ss q.1).length q.2.2)]) (fun (q:Nat × Option Addr × Nat)=>q.1≤ss.length) (fun q L=>L.set 0 (.row (.slice q.2.1 (oL ss q.1).length q.2.2) (oL ss q.1).length 3 1 ((oL ss q.1).map (.int .i64)))) (fun (q:Nat × Option Addr × Nat)=>ss.length-q.1) ((0,none,0)) (Nat.zero_le _) ⟨rfl,rfl,rfl,rfl,rfl,rfl,rfl,trivial⟩ (Y) ?_;intro q _ _ hF0 h14 Y;refine ab (ab (ah ?_));refine mv h14 rfl rfl fun _ h15=>?_;refine mv h15 rfl rfl fun _ h16=>?_;refine sv h16 (a6 Tryz.underlying154 (h16.ev rfl)) fun _ h17=>?_;refine sv h17 (bm (h17.ev rfl) (h17.ev rfl)) fun _ h18=>?_;refine ae (aa ?_);refine aC (h18.ev rfl) (fun hc0=>?_) (fun hc0=>?_)
 ·
  have hlt:q.1<ss.length:=by have:=of_decide_eq_true hc0;omega
  obtain⟨x,hxl,hix,hxe⟩:=AZ hv (hsm _ (List.getElem_mem hlt));have hol:=AK ss q.1;have hos:=y8 hlt;obtain⟨b5,o5,rfl,_⟩:=hq.opened (aO aJ (by decide) (by omega));obtain⟨b6,o6,rfl,_⟩:=(Y.rdOf (i:=1) rfl).opened (aO qE (by decide) (by omega));refine wp_skip (aa (ab (wp_block (ab (ah ?_)))));refine mv h18 rfl rfl fun _ h19=>?_;refine mv h19 rfl rfl fun _ h20=>?_;refine mv h20 rfl rfl fun _ h21=>?_;refine sv h21 (az (i:=q.1) (sz:=3) Tryz.underlying154 (by kernel_rfl) (h21.ev rfl) (h21.ev rfl) (by omega) (by omega) rfl) fun _ h22=>?_;refine sv h22 (ai (off:=0) (by kernel_rfl) (h22.ev rfl) rfl) fun _ h23=>?_;refine sv h23 (aq (by kernel_rfl) (h23.ev rfl) ((aU qE (Y.rdOf (i:=1) rfl) hlt) 0 _ rfl)) fun _ h24=>?_;refine sv h24 (az (i:=x) (sz:=14) Tryz.underlying41 (by kernel_rfl) (h24.ev rfl) (h24.ev rfl) (by omega) (by omega) rfl) fun _ h25=>?_;refine sv (v:=gl l[x]) h25 (ay (by kernel_rfl) (by kernel_rfl) (h25.ev rfl) (aU aJ (Y.rd0 hq) hxl)) fun _ h26=>?_;refine na (.agg #[.int .i64 0,.int .i64 0,.int .i64 0,.int .i64 0,.int .i64 0,.int .i64 0,.bool false,.int .i64 0,.int .i64 0,.int .i64 0,.int .i64 0,.string ⟨#[]⟩,.string ⟨#[]⟩,.string ⟨#[]⟩]) h26 rfl Y fun b10 _ _ gb10 h27 Y=>?_;refine aF h27 (wn rfl) ⟨rfl,rfl⟩ (h27.ev rfl) (h27.ev rfl) rfl (by kernel_rfl) Y (i:=0) rfl rfl rfl fun _ Y=>?_;refine ct ?_;refine vf h27 1 1 rfl rfl rfl fun _ h29=>?_;refine vf h29 0 1 rfl rfl rfl fun _ h30=>?_;refine vl h30 Y 0 rfl rfl rfl rfl fun _ h31=>?_;refine sv h31 (aV (h31.ev rfl) (h31.ev rfl)) fun _ h32=>?_;refine ae (aa ?_);refine aC (h32.ev rfl) (fun hc1=>?_) (fun hc1=>?_)
  ·
   have hos1:oL ss (q.1+1)=oL ss q.1 ++ [l[x].l]:=by rw[hos,←hxe,if_pos (by simpa using hc1)]
   refine ah ?_;refine mv h32 rfl rfl fun _ h33=>?_;refine vf h33 0 0 rfl rfl rfl fun _ h34=>?_;refine vl h34 Y 0 rfl rfl rfl rfl fun _ h35=>?_;refine dm h35 (wn rfl) (f:=fun b=>.slice (some ⟨b,0,none⟩) 1 1) (cd Tryz.underlying53 (by kernel_rfl) (by kernel_rfl) (h35.evs2 rfl) rfl rfl rfl (by decide) (by decide)) rfl rfl Y fun b38 _ _ gb38 h36 Y=>?_;refine cc (z:=.int .i64 0) (sz:=1) (bytes:=8) h36 (wn rfl) ⟨rfl,rfl⟩ rfl Tryz.underlying53 (by kernel_rfl) rfl rfl (h36.ev rfl) (h36.ev rfl) Y (i:=2) rfl (Y.boxRd (i:=0) rfl) rfl (List.all_eq_true.1 rfl) ⟨(by omega),by decide⟩ fun A39 c39 _ _ h37 Y=>?_;refine ma h37 rfl rfl fun _ h38=>?_;replace h38:=Has.also h38 (t:=8) (v:=.slice A39 (oL ss (q.1+1)).length c39) (by rw[hos1,List.length_append,List.length_singleton];rfl);refine ae (aM (aa (ah ?_)));refine mv h38 rfl rfl fun _ h39=>?_;refine sv h39 (aZ (h39.ev rfl) (h39.ev rfl) (by omega)) fun _ h40=>?_;refine ma h40 rfl rfl fun _ h41=>?_;refine ae (aa ?_);exact⟨(q.1+1,A39,c39),(by show ss.length-(q.1+1)<ss.length-q.1;omega),hlt,h41.re ⟨rfl,rfl,rfl,rfl,rfl,rfl,rfl,trivial⟩,(by show St [] w _ [.row (.slice A39 (oL ss (q.1+1)).length c39) (oL ss (q.1+1)).length _ _ ((oL ss (q.1+1)).map _),_,_];rw[hos1,List.length_append,List.length_singleton,List.map_append];exact(Y.sub (.cons _ (.cons _ (.cons_cons _ (.cons_cons _ (.cons_cons _ .slnil)))))))⟩
  ·
   have hos1:oL ss (q.1+1)=oL ss q.1:=by rw[hos,←hxe,if_neg (by simpa using hc1)]
   replace h32:=Has.also h32 (t:=8) (v:=.slice q.2.1 (oL ss (q.1+1)).length q.2.2) (by rw[hos1];rfl);refine wp_skip (aM (aa (ah ?_)));refine mv h32 rfl rfl fun _ h42=>?_;refine sv h42 (aZ (h42.ev rfl) (h42.ev rfl) (by omega)) fun _ h43=>?_;refine ma h43 rfl rfl fun _ h44=>?_;refine ae (aa ?_);exact⟨(q.1+1,q.2.1,q.2.2),(by show ss.length-(q.1+1)<ss.length-q.1;omega),hlt,h44.re ⟨rfl,rfl,rfl,rfl,rfl,rfl,rfl,trivial⟩,(by show St [] w _ [.row (.slice q.2.1 (oL ss (q.1+1)).length q.2.2) (oL ss (q.1+1)).length _ _ ((oL ss (q.1+1)).map _),_,_];rw[hos1];exact(Y.sub (.cons _ (.cons_cons _ (.cons_cons _ (.cons_cons _ .slnil))))))⟩
 ·
  obtain⟨n1,A1,c1⟩:=q
  obtain rfl:n1=ss.length:=by have h8:=of_decide_eq_false hc0;have h9:n1≤ss.length:=hF0;change ¬((n1:Int)<_) at h8;omega
  refine wp_exit ?_;refine av ?_;refine av ?_;refine br ?_;refine aa (ab (ah ?_));refine mv h18 rfl rfl fun _ h45=>?_;refine mv h45 rfl rfl fun _ h46=>?_;refine ma h46 rfl rfl fun _ h47=>?_;refine ma h47 rfl rfl fun _ h48=>?_;refine ae (aa (wp_ret ?_));refine el h48 rfl rfl rfl ?_;exact⟨(A1,c1),rfl,(Y.sub (.cons_cons _ (.cons _ (.cons _ .slnil))))⟩
def TelI {ι:Type} (φ:ι→Value) (R:ι→World→Prop) (v:Value) (X:World):Prop:=∃i,v=φ i∧R i X
theorem TelI.stable {ι:Type} {φ:ι→Value} {R:ι→World→Prop} (hR:∀i X X',R i X→Below X.heap.size X X'→R i X') (v:Value) (X X':World) (h:TelI φ R v X) (hb:Below X.heap.size X X'):TelI φ R v X':=by
 obtain⟨i,h1,h2⟩:=h;exact⟨i,h1,hR i X X' h2 hb⟩
theorem jE {ι:Type} {φ:ι→Value} {R:ι→World→Prop} {X:World} {f:FuncId} {args:Array Value} {r:Result Next} (hx:r=.ok (.enter f args) X) (hc:Calls Tryz.prog f args X fun e X'=>∃i,e=.returned (φ i)∧R i X'∧Below X.heap.size X X'):cp Tryz.prog (TelI φ R) X r:=by
 subst hx;exact⟨rfl,hc.mono fun e X' ⟨i,he,hi,hX⟩=>⟨_,he,hX,i,rfl,hi⟩⟩
theorem tH {ι:Type} {φ:ι→Value} {R:ι→World→Prop} {X:World} {u:Value} {r:Result Next} (hx:r=.ok (.value u) X) (h:TelI φ R u X):cp Tryz.prog (TelI φ R) X r:=by
 subst hx;exact⟨Below.refl _ _,h⟩
theorem pP {A:Option Addr} {xs:List Value} {X X':World} (h:Rd X X.heap.size A xs) (hb:Below X.heap.size X X'):Rd X' X'.heap.size A xs:=h.below' hb
def xL (n:Nat) (i:Option Addr × Nat):Value:=.slice i.1 n i.2
def RdN (n:Nat) (xs:List Value) (i:Option Addr × Nat) (X:World):Prop:=n≤i.2∧Rd X X.heap.size i.1 xs
theorem RdN.grow {n:Nat} {xs:List Value} (i:Option Addr × Nat) (X X':World) (h:RdN n xs i X) (hb:Below X.heap.size X X'):RdN n xs i X':=⟨h.1,pP h.2 hb⟩
def RdT (t:Tbl) (i:Option Addr × Nat × Option Addr × Nat) (X:World):Prop:=Rd X X.heap.size i.1 (t.ts.flatMap cm)∧Rd X X.heap.size i.2.2.1 (t.ds.flatMap cD)
theorem RdT.grow {t:Tbl} (i:Option Addr × Nat × Option Addr × Nat) (X X':World) (h:RdT t i X) (hb:Below X.heap.size X X'):RdT t i X':=⟨pP h.1 hb,pP h.2 hb⟩
def Bk (t:Tbl) (i:Option Addr × Nat × Option Addr × Nat):Value:=bW t i.1 i.2.1 i.2.2.1 i.2.2.2
theorem nX (l:List Rcd) (A:Option Addr) (c:Nat) (w:World) (hr:Rd w w.heap.size A (l.flatMap cq)) (hl:l.length≤1000) :
 Calls Tryz.prog 25 #[.slice A l.length c] w fun e w'=>∃i,e=.returned (xL l.length i)∧RdN l.length (l.flatMap cq) i w'∧Below w.heap.size w w':=
 (sc l A c w hr hl).mono fun e w' ⟨A',c',he,ho,hb⟩=>⟨(A',c'),he,⟨iR ho,Rd.of_own ho⟩,hb⟩
theorem uG (l:List Pgp) (A:Option Addr) (c:Nat) (w:World) (hr:Rd w w.heap.size A (l.flatMap bX)) (hl:l.length≤1000) :
 Calls Tryz.prog 30 #[.slice A l.length c] w fun e w'=>∃i,e=.returned (xL l.length i)∧RdN l.length (l.flatMap bX) i w'∧Below w.heap.size w w':=
 (mJ l A c w hr hl).mono fun e w' ⟨A',c',he,ho,hb⟩=>⟨(A',c'),he,⟨iR ho,Rd.of_own ho⟩,hb⟩
theorem nK (t:Tbl) (A:Option Addr) (c:Nat) (B:Option Addr) (d:Nat) (w:World) (hr:Rd w w.heap.size A (t.ts.flatMap cm)) (hs:Rd w w.heap.size B (t.ds.flatMap cD)) (hl:t.ts.length≤1000∧t.ds.length≤1000) :
 Calls Tryz.prog 16 #[bW t A c B d] w fun e w'=>∃i,e=.returned (Bk t i)∧RdT t i w'∧Below w.heap.size w w':=
 (rV t A c B d w hr hs hl).mono fun e w' ⟨i,he,S⟩=>⟨i,he,⟨S.rdOf (i:=0) rfl,S.rdOf (i:=1) rfl⟩,S.below⟩
def BL (l:List Rcd) (t:Tbl) (p:List Pgp) (i:Option Addr × Nat):Value:=.tuple #[.slice i.1 (dZ l t p).1.length i.2,.int .i64 (dZ l t p).2.1,.int .i64 (dZ l t p).2.2]
def RdR (B:Nat) (l:List Rcd) (t:Tbl) (p:List Pgp) (i:Option Addr × Nat) (X:World):Prop:=X.ownsRow B 111 3 (.slice i.1 (dZ l t p).1.length i.2) (dZ l t p).1.length ((dZ l t p).1.flatMap bX)
theorem RdR.grow {B:Nat} {l:List Rcd} {t:Tbl} {p:List Pgp} (i:Option Addr × Nat) (X X':World) (h:RdR B l t p i X) (hb:Below X.heap.size X X'):RdR B l t p i X':=gk h hb
theorem zQ {Q:Value→World→Prop} {X:World} {u:Value} {r:Result Next} (hx:r=.ok (.value u) X) (h:Q u X):cp Tryz.prog Q X r:=by
 subst hx;exact⟨Below.refl _ _,h⟩
def BP (l:List Rcd) (t:Tbl) (i:Option Addr × Nat):Value:=.tuple #[.slice i.1 (gm l t).length i.2,.int .i64 (ly l t)]
def RdO (B:Nat) (l:List Rcd) (t:Tbl) (i:Option Addr × Nat) (X:World):Prop:=X.ownsRow B 3 1 (.slice i.1 (gm l t).length i.2) (gm l t).length ((gm l t).map (.int .i64))
theorem RdO.grow {B:Nat} {l:List Rcd} {t:Tbl} (i:Option Addr × Nat) (X X':World) (h:RdO B l t i X) (hb:Below X.heap.size X X'):RdO B l t i X':=gk h hb
theorem l9 (t:Tbl):∀(l:List Rcd) (p:List Pgp) (n:Int),(ed t p n l).1.length≤p.length
 | [],p,n=>Nat.le_refl _
 | x::r,p,n=>by
  rw[ed]
  split
  · cases hq:gO p x.e.g with
    | none=>exact Nat.zero_le _
    | some q=>
     simp only[]
     split
     · exact Nat.zero_le _
     · exact Nat.le_trans (l9 t r _ _) (by rw[ei];exact Nat.le_refl _)
  · exact l9 t r p n
end Go.Proofs.YtcfdpfmchchkaaaGreatDoor
