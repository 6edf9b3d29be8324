/-
  Chapter 22: undo, over a taker: the walk.
  Chapter 22, plain: undoing over a function that takes, and the plan.
  Chapter 22, plain: the plan of the reference.
  Chapter 22: in which order updates are undone.
  Chapter 22: in which order updates are undone: the walk.
-/
import Derived.Test.YtcfdpfmchchkaaaGreatDoorRcJ
namespace Go.Proofs.YtcfdpfmchchkaaaGreatDoor
set_option linter.unusedVariables false
set_option linter.unusedSimpArgs false
set_option maxRecDepth 4000
open Go.RowKit Go.Sort Go.Shelf
structure UndS (σ:Type) where
 j:Nat
 ls:List (Nat × Lsr)
 s:σ
def AH {σ:Type} (tk:ot σ):Prop:=∀s x r,(tk s x r).2.1.u=x.u∧(tk s x r).2.1.i=x.i
def AI:Rcd:=⟨0,⟨0,0,0,0,0,false,BH,⟨#[]⟩⟩⟩
theorem pB {ls:List (Nat × Lsr)} (hnd:(ls.map Prod.fst).Nodup) {m:Nat × Lsr} (hm:m∈ls) (v:Int):l4 ls m.1 2 v=iD ls m.1 ⟨m.2.i,m.2.l,v⟩:=by
 unfold l4 iD;apply List.map_congr_left;intro x hx;by_cases e:x.1=m.1
 · rw[if_pos e,if_pos e]
   have:x=m:=by
    have key:∀(l:List (Nat × Lsr)),(l.map Prod.fst).Nodup→x∈l→m∈l→x=m:=by
     intro l
     induction l with
     | nil=>intro _ h;cases h
     | cons a l ih=>
      intro h h1 h2;rw[List.map_cons,List.nodup_cons] at h;rcases List.mem_cons.1 h1 with h1 | h1'
      · rcases List.mem_cons.1 h2 with h2 | h2'
        · rw[h1,h2]
        · exact absurd (by rw[←h1,e];exact List.mem_map_of_mem h2') h.1
      · rcases List.mem_cons.1 h2 with h2 | h2'
        · exact absurd (by rw[←h2,←e];exact List.mem_map_of_mem h1') h.1
        · exact ih h.2 h1' h2'
    exact key ls hnd hx hm
   rw[this];rfl
 · rw[if_neg e,if_neg e]
theorem jU {ls:List (Nat × Lsr)} {m:Nat × Lsr} (hm:m∈ls) (x:Lsr):(m.1,x)∈iD ls m.1 x:=by
 unfold iD;exact List.mem_map.2 ⟨m,hm,by rw[if_pos rfl]⟩
theorem iP (ls:List (Nat × Lsr)) (b:Nat) (x y:Lsr):iD (iD ls b x) b y=iD ls b y:=by
 unfold iD;rw[List.map_map];apply List.map_congr_left;intro z _;show(if (if z.1=b then (z.1,x) else z).1=b then ((if z.1=b then (z.1,x) else z).1,y) else (if z.1=b then (z.1,x) else z))=if z.1=b then (z.1,y) else z;by_cases e:z.1=b
 · rw[if_pos e,if_pos (show(z.1,x).1=b from e),if_pos e]
 · rw[if_neg e,if_neg e]
theorem qm {ls:List (Nat × Lsr)} {b:Nat} {x:Lsr} {p:Lsr→Prop} (h:∀y∈ls,p y.2) (hx:p x):∀y∈iD ls b x,p y.2:=fun y hy=>by
 unfold iD at hy;obtain⟨z,hz,rfl⟩:=List.mem_map.1 hy
 split
 · exact hx
 · exact h z hz
theorem Ai {l:List Rcd} {i:Nat} (hv:VldH l i) {k:Nat} (hk:k<i):0≤dM (l[k]'(by have:=hv.1;omega)).e:=by
 have:=sF (hv.e0 hk).2.2;unfold dM
 split<;>omega
theorem we {σ τ:Type} (π:τ→σ) (cbE:τ→Ent) (tk:ot σ) (htk:AH tk) (f:FuncId) (cap:List Value) (l:List Rcd) (B:Option Addr) (d:Nat) (B0:Nat) (A:Option Addr) (c:Nat) (ls0:List (Nat × Lsr)) (s0:τ) (M0:List Nat) (w:World)
 (Kq:Nat→τ→Prop) (hK0:Kq 0 s0)
 (hfc:∀(vs:Array Value) (W:World),(callFunc f vs).run Tryz.prog W=.ok (.enter f vs) W) (hB0:B0≤w.heap.size) (hM:∀b∈M0,B0≤b) (hq:Rd w B0 B (l.flatMap cg)) (hv:VldH l l.length) (hl:l.length≤1000) (hn:ls0.length≤1000) (hu0:∀x∈ls0,0≤x.2.u)
 (hS0:St M0 w w [eX ls0,cbE s0,.row (.slice A ls0.length c) ls0.length 233 1 (ls0.map eY)])
 (hcb:∀(j:Nat) (X:World) (ls:List (Nat × Lsr)) (s:τ) (m:Nat × Lsr) (r:Rcd),j<101→Kq j s→KeptL M0 w X→St (fP X [eX ls,cbE s]) X X [eX ls,cbE s]→m∈ls→r∈l→cd r.e=true→r.e.t=m.2.i→m.2.u=dM r.e →
  Calls Tryz.prog f ([eY m,.int .i64 r.l,dz r.e] ++ cap).toArray X fun e X'=>∃p:List (Nat × Lsr) × τ,e=.returned (.int .i64 (tk (π s) m.2 r).2.2)∧(((tk (π s) m.2 r).2.2=0→p.1=iD ls m.1 (tk (π s) m.2 r).2.1∧π p.2=(tk (π s) m.2 r).1∧Kq (j+1) p.2)∧p.1.map Prod.fst=ls.map Prod.fst)∧St (fP X [eX ls,cbE s]) X X' [eX p.1,cbE p.2]) :
 Calls Tryz.prog 135 #[.slice B l.length d,.slice A ls0.length c,.func (.func f) #[] cap.toArray] w fun e w'=>∃p:List (Nat × Lsr) × τ,e=.returned (.int .i64 (il l tk 101 ls0 (π s0)).2.2)∧(((il l tk 101 ls0 (π s0)).2.2=0→p.1=(il l tk 101 ls0 (π s0)).1∧π p.2=(il l tk 101 ls0 (π s0)).2.1)∧p.1.map Prod.fst=ls0.map Prod.fst)∧St M0 w w' [eX p.1,cbE p.2,.row (.slice A ls0.length c) ls0.length 233 1 (ls0.map eY)]:=by
 have hsl:cu Rcd.l l:=by have:=hv.srt;rwa [List.take_length] at this
 obtain⟨U,hU⟩:∃U,U=il l tk 101 ls0 (π s0):=⟨_,rfl⟩;rw[←hU];refine aF (N:=84) Tryz.func135 rfl rfl rfl (fun _ h0=>?_);have Y:=hS0;refine ab (ah ?_);refine ma h0 rfl rfl fun _ h1=>?_;refine ae (aa (ab (ab (ah ?_))));refine mv h1 rfl rfl fun _ h2=>?_;refine ae (aa (wp_block ?_));refine bz h2 Y [0,1,2] (fun (q:UndS τ)=>[(11,.int .i64 (q.j:Nat))]) (fun (q:UndS τ)=>q.j≤101∧U=il l tk (101-q.j) q.ls (π q.s)∧q.ls.map Prod.fst=ls0.map Prod.fst∧(∀x∈q.ls,0≤x.2.u)∧Kq q.j q.s) (fun q L=>[eX q.ls,cbE q.s,.row (.slice A ls0.length c) ls0.length 233 1 (ls0.map eY)]) (fun (q:UndS τ)=>101-q.j) (⟨0,ls0,s0⟩) (⟨Nat.zero_le _,hU,rfl,hu0,hK0⟩) ⟨rfl,rfl,rfl,rfl,trivial⟩ (Y) ?_;intro q _ _ hF0 h3 Y;refine ab (ah ?_);refine sv h3 (bq (h3.ev rfl) (h3.ev rfl)) fun _ h4=>?_;refine ae (aa (ab ?_));refine aB (h4.ev rfl) (fun hc0=>?_) (fun hc0=>?_)
 ·
  have hlt:q.j<101:=by have:=of_decide_eq_true hc0;omega
  obtain⟨hj1,hun,hfs,hu,hKq⟩:=hF0;obtain⟨g,hg⟩:∃g,101-q.j=g+1:=⟨100-q.j,by omega⟩;rw[hg,il] at hun;have hptr:=y9 hfs;refine wp_skip (aa (ab (wp_block (ab (ah ?_)))));refine mv h4 rfl rfl fun _ h5=>?_;refine sv h5 (br (zs:=[.int .i64 0,.int .i64 0,.int .i64 0]) (pl:=[(0,1),(1,1),(2,1)]) (by kernel_rfl) (by kernel_rfl) (h5.evs2 rfl) rfl rfl) fun _ h6=>?_;refine nb h6 rfl rfl Y fun b15 _ _ gb15 h7 Y=>?_;refine dr h7 (wn rfl) (f:=fun b=>.slice (some ⟨b,0,none⟩) 1 1) (cj Tryz.underlying209 (by kernel_rfl) (by kernel_rfl) (h7.evs2 rfl) rfl rfl rfl (by decide) (by decide)) rfl rfl Y fun b16 _ _ gb16 h8 Y=>?_;refine rW (z:=.pointer none) (sz:=1) (bytes:=8) h8 (wn rfl) ⟨rfl,rfl⟩ rfl Tryz.underlying209 (by kernel_rfl) rfl rfl (h8.ev rfl) (h8.ev rfl) Y (i:=4) rfl (Y.boxRd (i:=0) rfl) rfl (List.all_eq_true.1 rfl) ⟨by omega,by decide⟩ fun A17 c17 _ X9 h9 Y R17=>?_;obtain⟨z,zs,hzz,hcase⟩:=yQ (b:=b15) hu
  have hmp:(z::zs).map eY=ls0.map eY ++ [.pointer (some ⟨b15,0,none⟩)]:=by rw[←hzz,List.map_append,hptr];rfl
  have hml9:(z::zs).length=ls0.length+1:=by have:=congrArg List.length hmp;rw[List.length_map,List.length_append,List.length_map] at this;exact this
  have hbx:∀x∈z::zs,Box X9 x.1 (fp x.2) 273:=fun x hx=>by
   rw[←hzz] at hx;rcases List.mem_append.1 hx with hx | hx
   · exact(Y.at_ (i:=2) rfl).1 x hx
   · rw[List.mem_singleton.1 hx];exact Y.at_ (i:=1) rfl
  refine aS h9 (wn rfl) (aq (fun _ _=>by kernel_rfl) (h9.evs rfl) rfl) rfl rfl Y (hml9▸ry z zs A17 c17 _ (hmp▸R17) hbx (by have:(z::zs).length=zs.length+1:=rfl;omega)) fun _ X10 h10 Y=>?_;obtain⟨m,hmq⟩:∃m,m=zs.foldl jz z:=⟨_,rfl⟩;rw[←hmq] at h10 hcase
  have hbm:Box X10 m.1 (fp m.2) 273:=by
   rcases hcase with ⟨_,h9⟩ | ⟨m',hm',_,h9⟩
   · rw[h9];exact Y.at_ (i:=1) rfl
   · rw[h9];exact(Y.at_ (i:=2) rfl).1 _ hm'
  refine ma h10 rfl rfl fun _ h11=>?_;refine ae (aa (ab (ab (ah ?_))));refine mv h11 rfl rfl fun _ h12=>?_;refine sv h12 (bo (h12.ev rfl)) fun _ h13=>?_;refine sv h13 (aj (off:=2) (by kernel_rfl) (h13.ev rfl) rfl) fun _ h14=>?_;refine sv h14 (aw (by kernel_rfl) (h14.ev rfl) (Box.cells hbm 2)) fun _ h15=>?_;refine sv h15 (aX (h15.ev rfl) (h15.ev rfl)) fun _ h16=>?_;refine ae (aa ?_);refine aB (h16.ev rfl) (fun hc1=>?_) (fun hc1=>?_)
  ·
   have h0:m.2.u=0:=by simpa using hc1
   have hfin:U=(q.ls,π q.s,0):=by
    rcases hcase with ⟨h8,h9⟩ | ⟨m',hm',h8,h9⟩
    · rw[hun,h8]
    · subst h9
      rw[hun,h8];simp only;rw[if_pos h0]
   refine ab (ah ?_);refine ma h16 rfl rfl fun _ h17=>?_;refine ae (aa (wp_ret (ai (az (ai (ai (az (ai ?_))))))));refine bm h17 rfl rfl ?_;exact⟨(q.ls,q.s),by rw[hfin],⟨fun _=>by rw[hfin];exact⟨rfl,rfl⟩,hfs⟩,(Y.sub (.cons _ (.cons _ (.cons_cons _ (.cons_cons _ (.cons_cons _ .slnil))))))⟩
  ·
   have h0:m.2.u≠0:=by simpa using hc1
   obtain⟨hml,hmx⟩:m∈q.ls∧A6 q.ls=some m:=by
    rcases hcase with ⟨h8,h9⟩ | ⟨m',hm',h8,h9⟩
    · exact absurd (by rw[h9];rfl) h0
    · rw[h9];exact⟨hm',h8⟩
   rw[hmx] at hun;simp only at hun;rw[if_neg h0] at hun;refine wp_skip (aa (ab (ah ?_)));refine mv h16 rfl rfl fun _ h18=>?_;refine mv h18 rfl rfl fun _ h19=>?_;refine sv h19 (bo (h19.ev rfl)) fun _ h20=>?_;refine sv h20 (aj (off:=2) (by kernel_rfl) (h20.ev rfl) rfl) fun _ h21=>?_;refine sv h21 (aw (by kernel_rfl) (h21.ev rfl) (Box.cells hbm 2)) fun _ h22=>?_;refine aS h22 (wn rfl) (aq (fun _ _=>by kernel_rfl) (h22.evs rfl) rfl) rfl rfl Y (kB l hsl B d m.2.u _ ((Y.rdBase hM hB0 hq).mono (Nat.le_trans hB0 Y.size)) hl) fun _ _ h23 Y=>?_;refine ma h23 rfl rfl fun _ h24=>?_;refine ae (aa (ab (ab ?_)));apply bA h24 [false,false,false,false,false,false,false,false,false,false,false,false,false,false,false,false,false,false,false] _ (by kernel_rfl)
   case h=>
    refine qv h24 (fun X hX=>ak (h24.ev rfl)) fun _ h25=>?_;refine qv h25 (fun X hX=>lG Tryz.underlying219 (by kernel_rfl) (h25.ev rfl) (h25.ev rfl)) fun _ h26=>?_;refine qv h26 (fun X hX=>ak (h26.ev rfl)) fun _ h27=>?_;apply jg (x:=!cd ((eE l m.2.u).getD AI).e) h27 32 rfl 6 38
    case hf=>
     intro gc32;obtain⟨b',o',rfl,qk,q1,q2,q3⟩:=iM hsl hq gc32;generalize iu Rcd.l l m.2.u=k at qk q1 q2 q3;refine ax h27 (ag h27 _ rfl rfl rfl gc32) rfl rfl (fun X hX=>(bb (v':=.pointer (some ⟨b',o'+k*14+1,none⟩)) (congrArg Value.pointer q3) (ak (h27.ev rfl)))) fun _ h28=>?_;refine ax h28 (ag h28 _ rfl rfl rfl gc32) rfl rfl (fun X hX=>(bo (h28.ev rfl))) fun _ h29=>?_;refine ax (v:=dz l[k].e) h29 (ag h29 _ rfl rfl rfl gc32) rfl rfl (fun X hX=>(ay (by kernel_rfl) (by kernel_rfl) (h29.ev rfl) (dJ ((Y.grow hX).rdBase hM hB0 hq) qk))) fun _ h30=>?_;refine df h30 (ag h30 _ rfl rfl rfl gc32) rfl rfl (fun X=>(aq (fun _ _=>by kernel_rfl) (h30.evs rfl) rfl)) (fun X hX=>fO _ _) fun _ h31=>?_;refine ax h31 (ag h31 _ rfl rfl rfl gc32) rfl rfl (fun X hX=>(bb (v':=.bool (!cd ((eE l m.2.u).getD AI).e)) (by rw[q2];rfl) (bL (h31.ev rfl)))) fun _ h32=>?_;refine qv h32 (fun X hX=>aD (h32.ev rfl) gc32 (h32.ev rfl)) fun _ h33=>?_;exact aI (h33.mid (m:=[(_,_),(_,_),(_,_),(_,_),(_,_)]) rfl)
    case ht=>
     intro gc32;refine qo h27 rfl rfl rfl gc32 rfl rfl fun _ h34=>?_;refine qo h34 rfl rfl rfl gc32 rfl rfl fun _ h35=>?_;refine qo h35 rfl rfl rfl gc32 rfl rfl fun _ h36=>?_;refine qo h36 rfl rfl rfl gc32 rfl rfl fun _ h37=>?_;refine qo h37 rfl rfl rfl gc32 rfl rfl fun _ h38=>?_;refine qv h38 (fun X hX=>aA (h38.ev rfl) gc32 (h38.ev rfl)) fun _ h39=>?_;exact aI (h39.mid (m:=[(_,_),(_,_),(_,_),(_,_),(_,_)]) rfl)
    case h=>
     intro _ h40;refine qv h40 (fun X hX=>ak (h40.ev rfl)) fun _ h41=>?_;apply lD h41 39 rfl 9 48
     case ht=>
      intro gc39;refine qo h41 rfl rfl rfl gc39 rfl rfl fun _ h42=>?_;refine qo h42 rfl rfl rfl gc39 rfl rfl fun _ h43=>?_;refine qo h43 rfl rfl rfl gc39 rfl rfl fun _ h44=>?_;refine qo h44 rfl rfl rfl gc39 rfl rfl fun _ h45=>?_;refine qo h45 rfl rfl rfl gc39 rfl rfl fun _ h46=>?_;refine qo h46 rfl rfl rfl gc39 rfl rfl fun _ h47=>?_;refine qo h47 rfl rfl rfl gc39 rfl rfl fun _ h48=>?_;refine qo h48 rfl rfl rfl gc39 rfl rfl fun _ h49=>?_;refine qo h49 rfl rfl rfl gc39 rfl rfl fun _ h50=>?_;exact aI ⟨_,h50.mid (m:=[(_,_),(_,_),(_,_),(_,_),(_,_),(_,_),(_,_),(_,_)]) rfl⟩
     case hf=>
      intro gc39;obtain⟨b',o',rfl,qk,q1,q2,q3⟩:=iM hsl hq (Bool.or_eq_false_iff.1 gc39).1;generalize iu Rcd.l l m.2.u=k at qk q1 q2 q3;refine ax h41 (ag h41 _ rfl rfl rfl gc39) rfl rfl (fun X hX=>(bb (v':=.pointer (some ⟨b',o'+k*14+1,none⟩)) (congrArg Value.pointer q3) (ak (h41.ev rfl)))) fun _ h51=>?_;refine ax h51 (ag h51 _ rfl rfl rfl gc39) rfl rfl (fun X hX=>(bo (h51.ev rfl))) fun _ h52=>?_;refine ax h52 (ag h52 _ rfl rfl rfl gc39) rfl rfl (fun X hX=>(aj (off:=1) (by kernel_rfl) (h52.ev rfl) rfl)) fun _ h53=>?_;refine ax h53 (ag h53 _ rfl rfl rfl gc39) rfl rfl (fun X hX=>(aw (by kernel_rfl) (h53.ev rfl) ((dJ ((Y.grow hX).rdBase hM hB0 hq) qk) 1 _ rfl))) fun _ h54=>?_;refine ax h54 (ag h54 _ rfl rfl rfl gc39) rfl rfl (fun X hX=>(ak (h54.ev rfl))) fun _ h55=>?_;refine ax h55 (ag h55 _ rfl rfl rfl gc39) rfl rfl (fun X hX=>(bo (h55.ev rfl))) fun _ h56=>?_;refine ax h56 (ag h56 _ rfl rfl rfl gc39) rfl rfl (fun X hX=>(aj (off:=0) (by kernel_rfl) (h56.ev rfl) rfl)) fun _ h57=>?_;refine ax h57 (ag h57 _ rfl rfl rfl gc39) rfl rfl (fun X hX=>(aw (by kernel_rfl) (h57.ev rfl) (Box.cells (((Y.grow hX).at_ (i:=2) rfl).1 _ hml) 0))) fun _ h58=>?_;refine ax h58 (ag h58 _ rfl rfl rfl gc39) rfl rfl (fun X hX=>(bb (v':=.bool (((eE l m.2.u).getD AI).e.t != m.2.i)) (by rw[q2];rfl) (a8 (h58.ev rfl) (h58.ev rfl)))) fun _ h59=>?_;exact aI (h59.mid (m:=[(_,_),(_,_),(_,_),(_,_),(_,_),(_,_),(_,_),(_,_)]) rfl)
     case h=>
      intro v60 _ hg48 h60;refine aI ?_;refine bF fun _ hX61 hΦ61=>?_;have Y:=Y.grow hX61;refine sv h60 (ij (h60.ev rfl) (h60.ev rfl) (h60.ev rfl) hg48) fun _ h62=>?_;refine ae (aa ?_);refine aB (h62.ev rfl) (fun hc2=>?_) (fun hc2=>?_)
      ·
       have hfin:U=(q.ls,π q.s,6):=by
        rw[hun]
        cases hf:eE l m.2.u with
        | none=>rfl
        | some r=>
         simp only;rw[if_neg]
         rintro ⟨u1,u2⟩
         rw[hf] at hc2
         cases hN:(km B l m.2.u).isNone with
         | true=>rw[qt hsl hq hN] at hf;cases hf
         | false=>
          rw[hN,Option.getD_some,u1,u2] at hc2;simp at hc2
       refine ab (ah ?_);refine ma h62 rfl rfl fun _ h63=>?_;refine ae (aa (wp_ret (ai (az (ai (ai (az (ai ?_))))))));refine bm h63 rfl rfl ?_;exact⟨(q.ls,q.s),by rw[hfin],⟨fun h=>absurd h (by rw[hfin];exact(by decide:¬(6:Int)=0)),hfs⟩,(Y.sub (.cons _ (.cons _ (.cons_cons _ (.cons_cons _ (.cons_cons _ .slnil))))))⟩
      ·
       obtain⟨hc2a,hc2c⟩:=Bool.or_eq_false_iff.1 hc2;obtain⟨hc2a,hc2b⟩:=Bool.or_eq_false_iff.1 hc2a;obtain⟨b',o',rfl,qk,q1,q2,q3⟩:=iM hsl hq hc2a;rw[q3] at h62;generalize iu Rcd.l l m.2.u=k at qk q1 q2 q3 h62;rw[q2,Option.getD_some] at hc2b hc2c
       have ho:cd l[k].e=true:=by simpa using hc2b
       have hto:l[k].e.t=m.2.i:=by simpa using hc2c
       rw[q2] at hun;simp only at hun;rw[if_pos ⟨ho,hto⟩] at hun;have hnn:=Ai hv qk;have hnd:=(Y.at_ (i:=2) rfl).2;refine wp_skip (aa (ab (ah ?_)));refine mv h62 rfl rfl fun _ h64=>?_;refine sv h64 (bo (h64.ev rfl)) fun _ h65=>?_;refine sv h65 (aj (off:=2) (by kernel_rfl) (h65.ev rfl) rfl) fun _ h66=>?_;refine sv h66 (aw (by kernel_rfl) (h66.ev rfl) (Box.cells ((Y.at_ (i:=2) rfl).1 _ hml) 2)) fun _ h67=>?_;refine ma h67 rfl rfl fun _ h68=>?_;refine cm ?_;refine mv h68 rfl rfl fun _ h69=>?_;refine mv h69 rfl rfl fun _ h70=>?_;refine sv h70 (bo (h70.ev rfl)) fun _ h71=>?_;refine sv h71 (aj (off:=2) (by kernel_rfl) (h71.ev rfl) rfl) fun _ h72=>?_;refine sv h72 (aw (by kernel_rfl) (h72.ev rfl) ((dJ (Y.rdBase hM hB0 hq) qk) 2 _ rfl)) fun _ h73=>?_;refine sv h73 (bo (h73.ev rfl)) fun _ h74=>?_;refine sv h74 (aj (off:=2) (by kernel_rfl) (h74.ev rfl) rfl) fun _ h75=>?_;refine nG (wn rfl) ⟨rfl,rfl⟩ (h75.ev rfl) (h75.ev rfl) (by kernel_rfl) Y (i:=2) rfl hml (by decide) fun _ Y=>?_;rw[show l4 q.ls m.1 (0+2) l[k].e.p=_ from pB hnd hml l[k].e.p] at Y;refine ae (aa (ab (ab (ah ?_))));refine mv h75 rfl rfl fun _ h77=>?_;refine sv h77 (bo (h77.ev rfl)) fun _ h78=>?_;refine sv h78 (aj (off:=0) (by kernel_rfl) (h78.ev rfl) rfl) fun _ h79=>?_;refine sv h79 (aw (by kernel_rfl) (h79.ev rfl) ((dJ (Y.rdBase hM hB0 hq) qk) 0 _ rfl)) fun _ h80=>?_;refine sv h80 (aX (h80.ev rfl) (h80.ev rfl)) fun _ h81=>?_;refine ae (aa ?_);refine aB (h81.ev rfl) (fun hc3=>?_) (fun hc3=>?_)
       ·
        have hnx:dM l[k].e=l[k].e.x:=by unfold dM;rw[if_pos (by simpa using hc3)]
        refine ah ?_;refine mv h81 rfl rfl fun _ h82=>?_;refine mv h82 rfl rfl fun _ h83=>?_;refine sv h83 (bo (h83.ev rfl)) fun _ h84=>?_;refine sv h84 (aj (off:=3) (by kernel_rfl) (h84.ev rfl) rfl) fun _ h85=>?_;refine sv h85 (aw (by kernel_rfl) (h85.ev rfl) ((dJ (Y.rdBase hM hB0 hq) qk) 3 _ rfl)) fun _ h86=>?_;refine sv h86 (bo (h86.ev rfl)) fun _ h87=>?_;refine sv h87 (aj (off:=2) (by kernel_rfl) (h87.ev rfl) rfl) fun _ h88=>?_;refine nG (wn rfl) ⟨rfl,rfl⟩ (h88.ev rfl) (h88.ev rfl) (by kernel_rfl) Y (i:=2) rfl (jU hml _) (by decide) fun _ Y=>?_;rw[show l4 (iD q.ls m.1 ⟨m.2.i,m.2.l,l[k].e.p⟩) m.1 (0+2) l[k].e.x=iD q.ls m.1 ⟨m.2.i,m.2.l,l[k].e.x⟩ from(pB (m:=(m.1,⟨m.2.i,m.2.l,l[k].e.p⟩)) (by rw[gv];exact hnd) (jU hml _) l[k].e.x).trans (iP _ _ _ _),←hnx] at Y;refine cm ?_;refine mv h88 rfl rfl fun _ h90=>?_;refine mv h90 rfl rfl fun _ h91=>?_;refine sv h91 (bb (v':=.int .i64 l[k].l) (congrArg _ q1.symm) (ak (h91.ev rfl))) fun _ h92=>?_;refine mv h92 rfl rfl fun _ h93=>?_;refine sv h93 (bo (h93.ev rfl)) fun _ h94=>?_;refine sv (v:=dz l[k].e) h94 (ay (by kernel_rfl) (by kernel_rfl) (h94.ev rfl) (dJ (Y.rdBase hM hB0 hq) qk)) fun _ h95=>?_;refine oJ (L1:=[eX _,cbE q.s]) (V:=fun _=>.int .i64 _) h95 (wn rfl) (dx hfc (h95.ev rfl) (h95.evs rfl) rfl) rfl rfl (Y.sub (.cons _ (.cons _ (.cons_cons _ (.cons_cons _ (.cons_cons _ .slnil)))))) (hcb q.j _ _ q.s (m.1,⟨m.2.i,m.2.l,dM l[k].e⟩) l[k] hlt hKq Y.keptL (St.frontL (L2:=[_]) (Y.sub (.cons _ (.cons _ (.cons_cons _ (.cons_cons _ (.cons_cons _ .slnil))))))) (jU hml _) (List.getElem_mem qk) ho hto rfl) fun p79 _ _ h96 hF79 Y=>?_;refine ma h96 rfl rfl fun _ h97=>?_;refine cm ?_;refine mv h97 rfl rfl fun _ h98=>?_;refine sv h98 (a8 (h98.ev rfl) (h98.ev rfl)) fun _ h99=>?_;refine ae (aa ?_);refine aB (h99.ev rfl) (fun hc4=>?_) (fun hc4=>?_)
        ·
         have hne:(tk (π q.s) ⟨m.2.i,m.2.l,dM l[k].e⟩ l[k]).2.2≠0:=by simpa using hc4
         rw[if_pos hne] at hun;refine ab (ah ?_);refine mv h99 rfl rfl fun _ h100=>?_;refine ma h100 rfl rfl fun _ h101=>?_;refine ae (aa (wp_ret (az (ai (ai (az (ai ?_)))))));refine bm h101 rfl rfl ?_;exact⟨p79,by rw[hun],⟨fun h=>absurd h (by rw[hun];exact hne),by rw[hF79.2,gv];exact hfs⟩,Y⟩
        ·
         have hne:(tk (π q.s) ⟨m.2.i,m.2.l,dM l[k].e⟩ l[k]).2.2=0:=by simpa using hc4
         rw[if_neg (fun h=>h hne)] at hun;obtain⟨e1,e2,hK2⟩:=hF79.1 hne;rw[iP] at e1
         have hq2:p79.1.map Prod.fst=ls0.map Prod.fst:=by rw[hF79.2,gv];exact hfs
         have hu2:∀x∈p79.1,0≤x.2.u:=by
          rw[e1];exact qm (p:=fun y=>0≤y.u) hu (by rw[(htk _ _ _).1];exact hnn)
         have hun2:U=il l tk (101-(q.j+1)) p79.1 (π p79.2):=by rw[hun,e1,e2,show 101-(q.j+1)=g by omega];rfl
         refine wp_skip (aO (aa (ah ?_)));refine sv h99 (aV (h99.ev rfl) (h99.ev rfl) (by omega)) fun _ h102=>?_;refine mv h102 rfl rfl fun _ h103=>?_;refine ae (aa ?_);exact⟨⟨q.j+1,p79.1,p79.2⟩,(by show 101-(q.j+1)<101-q.j;omega),⟨hlt,hun2,hq2,hu2,hK2⟩,h103.re ⟨rfl,rfl,rfl,rfl,trivial⟩,Y⟩
       ·
        have hnx:dM l[k].e=l[k].e.p:=by unfold dM;rw[if_neg (by simpa using hc3)]
        rw[←hnx] at Y;refine wp_skip (aa (ab (ah ?_)));refine mv h81 rfl rfl fun _ h104=>?_;refine mv h104 rfl rfl fun _ h105=>?_;refine sv h105 (bb (v':=.int .i64 l[k].l) (congrArg _ q1.symm) (ak (h105.ev rfl))) fun _ h106=>?_;refine mv h106 rfl rfl fun _ h107=>?_;refine sv h107 (bo (h107.ev rfl)) fun _ h108=>?_;refine sv (v:=dz l[k].e) h108 (ay (by kernel_rfl) (by kernel_rfl) (h108.ev rfl) (dJ (Y.rdBase hM hB0 hq) qk)) fun _ h109=>?_;refine oJ (L1:=[eX _,cbE q.s]) (V:=fun _=>.int .i64 _) h109 (wn rfl) (dx hfc (h109.ev rfl) (h109.evs rfl) rfl) rfl rfl (Y.sub (.cons _ (.cons _ (.cons_cons _ (.cons_cons _ (.cons_cons _ .slnil)))))) (hcb q.j _ _ q.s (m.1,⟨m.2.i,m.2.l,dM l[k].e⟩) l[k] hlt hKq Y.keptL (St.frontL (L2:=[_]) (Y.sub (.cons _ (.cons _ (.cons_cons _ (.cons_cons _ (.cons_cons _ .slnil))))))) (jU hml _) (List.getElem_mem qk) ho hto rfl) fun p79 _ _ h110 hF79 Y=>?_;refine ma h110 rfl rfl fun _ h111=>?_;refine cm ?_;refine mv h111 rfl rfl fun _ h112=>?_;refine sv h112 (a8 (h112.ev rfl) (h112.ev rfl)) fun _ h113=>?_;refine ae (aa ?_);refine aB (h113.ev rfl) (fun hc4=>?_) (fun hc4=>?_)
        ·
         have hne:(tk (π q.s) ⟨m.2.i,m.2.l,dM l[k].e⟩ l[k]).2.2≠0:=by simpa using hc4
         rw[if_pos hne] at hun;refine ab (ah ?_);refine mv h113 rfl rfl fun _ h114=>?_;refine ma h114 rfl rfl fun _ h115=>?_;refine ae (aa (wp_ret (az (ai (ai (az (ai ?_)))))));refine bm h115 rfl rfl ?_;exact⟨p79,by rw[hun],⟨fun h=>absurd h (by rw[hun];exact hne),by rw[hF79.2,gv];exact hfs⟩,Y⟩
        ·
         have hne:(tk (π q.s) ⟨m.2.i,m.2.l,dM l[k].e⟩ l[k]).2.2=0:=by simpa using hc4
         rw[if_neg (fun h=>h hne)] at hun;obtain⟨e1,e2,hK2⟩:=hF79.1 hne;rw[iP] at e1
         have hq2:p79.1.map Prod.fst=ls0.map Prod.fst:=by rw[hF79.2,gv];exact hfs
         have hu2:∀x∈p79.1,0≤x.2.u:=by
          rw[e1];exact qm (p:=fun y=>0≤y.u) hu (by rw[(htk _ _ _).1];exact hnn)
         have hun2:U=il l tk (101-(q.j+1)) p79.1 (π p79.2):=by rw[hun,e1,e2,show 101-(q.j+1)=g by omega];rfl
         refine wp_skip (aO (aa (ah ?_)));refine sv h113 (aV (h113.ev rfl) (h113.ev rfl) (by omega)) fun _ h116=>?_;refine mv h116 rfl rfl fun _ h117=>?_;refine ae (aa ?_);exact⟨⟨q.j+1,p79.1,p79.2⟩,(by show 101-(q.j+1)<101-q.j;omega),⟨hlt,hun2,hq2,hu2,hK2⟩,h117.re ⟨rfl,rfl,rfl,rfl,trivial⟩,Y⟩
   case hB=>kernel_rfl
   case hst=>rfl
 ·
  have hge:101≤q.j:=by have:=of_decide_eq_false hc0;omega
  have hun:=hF0.2.1;rw[show 101-q.j=0 by omega,il] at hun;refine wp_exit ?_;refine av ?_;refine av ?_;refine bn ?_;refine aa (ab (ah ?_));refine ma h4 rfl rfl fun _ h118=>?_;refine ae (aa (wp_ret ?_));refine bm h118 rfl rfl ?_;exact⟨(q.ls,q.s),by rw[hun],⟨fun h=>absurd h (by rw[hun];exact(by decide:¬(26:Int)=0)),hF0.2.2.1⟩,Y⟩
open Go.RowKit
abbrev Pr:=(Nat × Lsr) × Los
def mb:List Pr→Option Pr
 | []=>none
 | x::l=>match mb l with
  | none=>some x
  | some y=>if y.1.2.u>x.1.2.u then some y else some x
structure PrOk (ps:List Pr):Prop where
 eq:∀p∈ps,p.1.2.i=p.2.i∧p.1.2.u=p.2.u
 n1:(ps.map fun p=>p.1.1).Nodup
 n2:(ps.map fun p=>p.2.j).Nodup
theorem jR:∀{ps:List Pr} {m:Pr},mb ps=some m→m∈ps
 | [],m,h=>by cases h
 | x::l,m,h=>by
  unfold mb at h
  split at h
  · cases h;exact List.mem_cons_self
  · rename_i y hy
    split at h
    · cases h;exact List.mem_cons_of_mem _ (jR hy)
    · cases h;exact List.mem_cons_self
theorem mz:∀{ps:List Pr},(∀p∈ps,p.1.2.u=p.2.u)→yN (ps.map Prod.snd)=(mb ps).map Prod.snd
 | [],h=>rfl
 | x::l,h=>by
  have ih:=mz (ps:=l) fun p hp=>h p (List.mem_cons_of_mem _ hp);rw[List.map_cons,yN,ih,mb]
  cases hb:mb l with
  | none=>rfl
  | some y=>
   have h1:=h x List.mem_cons_self;have h2:=h y (List.mem_cons_of_mem _ (jR hb));simp only[Option.map_some];rw[←h1,←h2]
   split<;>rfl
def oE:List (Nat × Lsr)→Option (Nat × Lsr)
 | []=>none
 | x::l=>match oE l with
  | none=>some x
  | some y=>if y.2.u>x.2.u then some y else some x
theorem l9:∀(ps:List Pr),oE (ps.map Prod.fst)=(mb ps).map Prod.fst
 | []=>rfl
 | x::l=>by
  rw[List.map_cons,oE,l9 l,mb]
  cases mb l with
  | none=>rfl
  | some y=>
   simp only[Option.map_some]
   split<;>rfl
theorem rm:∀(zs:List (Nat × Lsr)) (z:Nat × Lsr),some (zs.foldl jz z)=oE (z::zs)
 | [],z=>rfl
 | x::r,z=>by
  rw[List.foldl_cons,rm r (jz z x),oE,oE,oE];unfold jz
  cases hb:oE r with
  | none=>simp only;split<;>rfl
  | some y=>
   simp only;by_cases h1:y.2.u>x.2.u
   · rw[if_pos h1]
     simp only;by_cases h2:z.2.u<x.2.u
     · rw[if_pos h2,if_pos h1,if_pos (by omega)]
     · rw[if_neg h2]
   · rw[if_neg h1]
     simp only;by_cases h2:z.2.u<x.2.u
     · rw[if_pos h2,if_neg h1,if_pos (by omega)]
     · rw[if_neg h2,if_neg (by omega),if_neg (by omega)]
theorem s9 (ls:List (Nat × Lsr)):A6 ls=oE ls:=by
 cases ls with
 | nil=>rfl
 | cons z zs=>exact rm zs z
theorem eO {α β:Type} {f:α→β}:∀{l:List α},(l.map f).Nodup→∀{x y:α},x∈l→y∈l→f x=f y→x=y
 | [],_,x,y,hx,_,_=>by cases hx
 | a::l,h,x,y,hx,hy,e=>by
  rw[List.map_cons,List.nodup_cons] at h;rcases List.mem_cons.1 hx with hx | hx'
  · rcases List.mem_cons.1 hy with hy | hy'
    · rw[hx,hy]
    · refine absurd ?_ h.1
      rw[←hx,e];exact List.mem_map_of_mem hy'
  · rcases List.mem_cons.1 hy with hy | hy'
    · refine absurd ?_ h.1
      rw[←hy,←e];exact List.mem_map_of_mem hx'
    · exact eO h.2 hx' hy' e
def lu (ps:List Pr) (m:Pr) (x:Lsr):List Pr:=ps.map fun p=>if p.1.1=m.1.1 then ((p.1.1,x),⟨p.2.j,p.2.i,x.u⟩) else p
theorem w6 (ps:List Pr) (m:Pr) (x:Lsr):(lu ps m x).map Prod.fst=(ps.map Prod.fst).map fun y=>if y.1=m.1.1 then (y.1,x) else y:=by
 unfold lu;rw[List.map_map,List.map_map];apply List.map_congr_left;intro p _;show(if p.1.1=m.1.1 then (((p.1.1,x),(⟨p.2.j,p.2.i,x.u⟩:Los)):Pr) else p).1=if p.1.1=m.1.1 then (p.1.1,x) else p.1
 split<;>rfl
theorem vR {ps:List Pr} (h:PrOk ps) {m:Pr} (hm:m∈ps) (x:Lsr):(lu ps m x).map Prod.snd=ub (ps.map Prod.snd) m.2.j x.u:=by
 unfold lu ub;rw[List.map_map,List.map_map];apply List.map_congr_left;intro p hp;show(if p.1.1=m.1.1 then (((p.1.1,x),(⟨p.2.j,p.2.i,x.u⟩:Los)):Pr) else p).2=if p.2.j=m.2.j then ⟨p.2.j,p.2.i,x.u⟩ else p.2;by_cases e:p.1.1=m.1.1
 · have:=eO h.n1 hp hm e
   subst this;rw[if_pos rfl,if_pos rfl]
 · rw[if_neg e,if_neg]
   intro q;exact e (by rw[eO h.n2 hp hm q])
theorem zC {ps:List Pr} (h:PrOk ps) {m:Pr} (hm:m∈ps) {x:Lsr} (hx:x.i=m.1.2.i):PrOk (lu ps m x):=by
 refine⟨fun p hp=>?_,?_,?_⟩
 · unfold lu at hp
   obtain⟨q,hq,rfl⟩:=List.mem_map.1 hp;by_cases e:q.1.1=m.1.1
   · rw[if_pos e]
     have:=eO h.n1 hq hm e;subst this;exact⟨hx.trans (h.eq _ hq).1,rfl⟩
   · rw[if_neg e];exact h.eq _ hq
 · have e:(lu ps m x).map (fun p=>p.1.1)=ps.map fun p=>p.1.1:=by
    unfold lu;rw[List.map_map];apply List.map_congr_left;intro p _;show(if p.1.1=m.1.1 then (((p.1.1,x),(⟨p.2.j,p.2.i,x.u⟩:Los)):Pr) else p).1.1=p.1.1
    split<;>rfl
   rw[e];exact h.n1
 · have e:(lu ps m x).map (fun p=>p.2.j)=ps.map fun p=>p.2.j:=by
    unfold lu;rw[List.map_map];apply List.map_congr_left;intro p _;show(if p.1.1=m.1.1 then (((p.1.1,x),(⟨p.2.j,p.2.i,x.u⟩:Los)):Pr) else p).2.j=p.2.j
    split<;>rfl
   rw[e];exact h.n2
def u5 {σ:Type} (tk:ot σ):(Nat→Int)→σ→List Stp→σ × Int
 | _,s,[]=>(s,0)
 | g,s,st::r=>if (tk s ⟨st.r.e.t,g st.j,dM st.r.e⟩ st.r).2.2≠0 then (s,(tk s ⟨st.r.e.t,g st.j,dM st.r.e⟩ st.r).2.2)
  else u5 tk (fun k=>if k=st.j then (tk s ⟨st.r.e.t,g st.j,dM st.r.e⟩ st.r).2.1.l else g k) (tk s ⟨st.r.e.t,g st.j,dM st.r.e⟩ st.r).1 r
theorem zu {σ:Type} (l:List Rcd) (tk:ot σ) (htk:AH tk):∀(f:Nat) (ps:List Pr) (s:σ) (g:Nat→Int),PrOk ps→(∀p∈ps,g p.2.j=p.1.2.l) →
 ((nk l f (ps.map Prod.snd)).2=0→(il l tk (f+1) (ps.map Prod.fst) s).2=u5 tk g s (nk l f (ps.map Prod.snd)).1) ∧
 ((∀s x r,(tk s x r).2.2=0)→(il l tk (f+1) (ps.map Prod.fst) s).2.2=(nk l f (ps.map Prod.snd)).2):=by
 intro f
 induction f with
 | zero=>
  intro ps s g hps hg;rw[il,nk,s9,l9,mz fun p hp=>(hps.eq p hp).2]
  cases hb:mb ps with
  | none=>exact⟨fun _=>rfl,fun _=>rfl⟩
  | some m=>
   have hm:=jR hb;obtain⟨e1,e2⟩:=hps.eq m hm;simp only[Option.map_some];rw[←e2,←e1];by_cases h0:m.1.2.u=0
   · rw[if_pos h0,if_pos h0];exact⟨fun _=>rfl,fun _=>rfl⟩
   rw[if_neg h0,if_neg h0]
   cases hf:eE l m.1.2.u with
   | none=>exact⟨fun h=>by simp at h,fun _=>rfl⟩
   | some r=>
    simp only;by_cases hr:cd r.e=true∧r.e.t=m.1.2.i
    · rw[if_pos hr,if_pos hr]
      refine⟨fun h=>by simp at h,fun h=>?_⟩;rw[if_neg (by rw[h];simp),il]
    · rw[if_neg hr,if_neg hr]
      exact⟨fun h=>by simp at h,fun _=>rfl⟩
 | succ f ih=>
  intro ps s g hps hg;rw[il,nk,s9,l9,mz fun p hp=>(hps.eq p hp).2]
  cases hb:mb ps with
  | none=>exact⟨fun _=>rfl,fun _=>rfl⟩
  | some m=>
   have hm:=jR hb;obtain⟨e1,e2⟩:=hps.eq m hm;have hgm:=hg m hm;simp only[Option.map_some];rw[←e2,←e1];by_cases h0:m.1.2.u=0
   · rw[if_pos h0,if_pos h0];exact⟨fun _=>rfl,fun _=>rfl⟩
   rw[if_neg h0,if_neg h0]
   cases hf:eE l m.1.2.u with
   | none=>exact⟨fun h=>by simp at h,fun _=>rfl⟩
   | some r=>
    simp only;by_cases hr:cd r.e=true∧r.e.t=m.1.2.i
    · rw[if_pos hr,if_pos hr]
      obtain⟨hu,hi⟩:=htk s ⟨m.1.2.i,m.1.2.l,dM r.e⟩ r;have hps':=zC hps hm (x:=(tk s ⟨m.1.2.i,m.1.2.l,dM r.e⟩ r).2.1) hi;have es:=vR hps hm (tk s ⟨m.1.2.i,m.1.2.l,dM r.e⟩ r).2.1;have ef:=w6 ps m (tk s ⟨m.1.2.i,m.1.2.l,dM r.e⟩ r).2.1;rw[show(tk s ⟨m.1.2.i,m.1.2.l,dM r.e⟩ r).2.1.u=dM r.e from hu] at es
      obtain⟨i1,i2⟩:=ih (lu ps m (tk s ⟨m.1.2.i,m.1.2.l,dM r.e⟩ r).2.1) (tk s ⟨m.1.2.i,m.1.2.l,dM r.e⟩ r).1 (fun k=>if k=m.2.j then (tk s ⟨m.1.2.i,m.1.2.l,dM r.e⟩ r).2.1.l else g k) hps' (fun p hp=>by
       unfold lu at hp;obtain⟨q,hq,rfl⟩:=List.mem_map.1 hp;by_cases e:q.1.1=m.1.1
       · have:=eO hps.n1 hq hm e
         subst this;rw[if_pos rfl];show(if q.2.j=q.2.j then _ else _)=_;rw[if_pos rfl]
       · rw[if_neg e]
         show(if q.2.j=m.2.j then _ else _)=_;rw[if_neg (fun z=>e (by rw[eO hps.n2 hq hm z]))]
         exact hg q hq)
      rw[es,ef] at i1 i2;refine⟨fun h=>?_,fun h=>?_⟩
      · split at h
        · rename_i hne;exact absurd h hne
        rename_i hz
        have hz:=Classical.not_not.1 hz;rw[if_neg (show ¬(nk l f (ub (ps.map Prod.snd) m.2.j (dM r.e))).2≠0 by rw[hz];simp)];simp only;rw[u5];simp only;rw[hgm,hr.2];by_cases ht:(tk s ⟨m.1.2.i,m.1.2.l,dM r.e⟩ r).2.2≠0
        · rw[if_pos ht,if_pos ht]
        · rw[if_neg ht,if_neg ht]
          exact i1 hz
      · rw[if_neg (by rw[h];simp),i2 h]
        split
        · rfl
        · rename_i hz;exact Classical.not_not.1 hz
    · rw[if_neg hr,if_neg hr]
      exact⟨fun h=>by simp at h,fun _=>rfl⟩
def l5:ot (List Int):=fun s x r=>(if r.e.k=0 then s ++ [r.l] else s,x,0)
theorem te:AH l5:=fun _ _ _=>⟨rfl,rfl⟩
theorem pW:∀(st:List Stp) (g:Nat→Int) (s:List Int),u5 l5 g s st=(s ++ (st.filter fun s=>s.r.e.k==0).map fun s=>s.r.l,0)
 | [],g,s=>by simp[u5]
 | a::r,g,s=>by
  rw[u5];rw[if_neg (by show ¬((0:Int)≠0);simp),pW r,List.filter_cons];unfold l5;by_cases h:a.r.e.k=0
  · rw[if_pos (by simpa using h)];simp[h]
  · rw[if_neg (by simpa using h)];simp[h]
theorem rT:∀(ts:List Trn) (j:Nat) (ls:List (Nat × Lsr)),ls.map Prod.snd=(ts.filter fun x=>!x.c).map (fun x=>(⟨x.i,x.l,x.u⟩:Lsr))→∃ps:List Pr,ps.map Prod.fst=ls∧ps.map Prod.snd=vk j ts∧(∀p∈ps,p.1.2.i=p.2.i∧p.1.2.u=p.2.u∧j≤p.2.j∧∃x,ts[p.2.j-j]? = some x∧x.l=p.1.2.l)∧(ps.map fun p=>p.2.j).Pairwise (·<·)
 | [],j,ls,h=>by
  cases ls with
  | nil=>exact⟨[],rfl,rfl,fun p hp=>(by cases hp),.nil⟩
  | cons _ _=>cases h
 | x::ts,j,ls,h=>by
  cases hc:x.c with
  | true=>
   rw[List.filter_cons,if_neg (by rw[hc];decide)] at h;obtain⟨ps,h1,h2,h3,h4⟩:=rT ts (j+1) ls h;refine⟨ps,h1,?_,fun p hp=>?_,h4⟩
   · rw[vk,hc];exact h2
   · obtain⟨q1,q2,q3,y,hy,q4⟩:=h3 p hp
     refine⟨q1,q2,by omega,y,?_,q4⟩;rw[show p.2.j-j=(p.2.j-(j+1))+1 by omega];exact hy
  | false=>
   rw[List.filter_cons,if_pos (by rw[hc];decide),List.map_cons] at h
   cases ls with
   | nil=>cases h
   | cons z ls=>
    rw[List.map_cons] at h;injection h with hz h;obtain⟨ps,h1,h2,h3,h4⟩:=rT ts (j+1) ls h;refine⟨(z,⟨j,x.i,x.u⟩)::ps,by rw[List.map_cons,h1],?_,fun p hp=>?_,?_⟩
    · rw[vk,hc,List.map_cons,h2];rfl
    · rcases List.mem_cons.1 hp with rfl | hp
      · refine⟨by show z.2.i=x.i;rw[hz],by show z.2.u=x.u;rw[hz],Nat.le_refl _,x,?_,by show x.l=z.2.l;rw[hz]⟩
        show(x::ts)[j-j]? = _;rw[Nat.sub_self];rfl
      · obtain⟨q1,q2,q3,y,hy,q4⟩:=h3 p hp
        refine⟨q1,q2,by omega,y,?_,q4⟩;rw[show p.2.j-j=(p.2.j-(j+1))+1 by omega];exact hy
    · rw[List.map_cons]
      refine List.pairwise_cons.2 ⟨fun k hk=>?_,h4⟩;obtain⟨p,hp,rfl⟩:=List.mem_map.1 hk;have:=(h3 p hp).2.2.1;show j<p.2.j;omega
open Go.RowKit
set_option maxRecDepth 4000
open Go.RowKit Go.Sort Go.Shelf
theorem St.split2 {M:List Nat} {w X:World} {e e1 e2:Ent} {L:List Ent} (h:St M w X (e::L)) (h1:e1.ok X) (h2:e2.ok X) (d1:∀b,e1.dom b→e.dom b) (d2:∀b,e2.dom b→e.dom b) (hd:∀b,e1.dom b→¬e2.dom b):St M w X (e1::e2::L):=by
 obtain⟨s1,s2⟩:=List.pairwise_cons.1 h.sep;refine⟨h.os,h.tape,h.output,h.size,h.block,fun f hf=>?_,fun f hf b hb=>?_,List.pairwise_cons.2 ⟨fun f hf b hb hfb=>?_,List.pairwise_cons.2 ⟨fun f hf b hb hfb=>s1 f hf b (d2 b hb) hfb,s2⟩⟩⟩
 · rcases List.mem_cons.1 hf with rfl | hf
   · exact h1
   · rcases List.mem_cons.1 hf with rfl | hf
     · exact h2
     · exact h.ok f (List.mem_cons_of_mem _ hf)
 · rcases List.mem_cons.1 hf with rfl | hf
   · exact h.new e List.mem_cons_self b (d1 b hb)
   · rcases List.mem_cons.1 hf with rfl | hf
     · exact h.new e List.mem_cons_self b (d2 b hb)
     · exact h.new f (List.mem_cons_of_mem _ hf) b hb
 · rcases List.mem_cons.1 hf with rfl | hf
   · exact hd b hb hfb
   · exact s1 f hf b (d1 b hb) hfb
def mZ (b:Nat) (s:Option Addr × Nat × List Int):Ent:=
 .inv (fun k=>k=b∨(Value.slice s.1 s.2.2.length s.2.1).ownBlock=some k)
  (fun X=>Box X b #[.slice s.1 s.2.2.length s.2.1] 53∧X.ownsRow 0 3 1 (.slice s.1 s.2.2.length s.2.1) s.2.2.length (s.2.2.map (.int .i64))∧(Value.slice s.1 s.2.2.length s.2.1).ownBlock≠some b)
  (fun X X' h hb=>⟨(hb b (.inl rfl)).trans h.1,Ent.ok_of (e:=.row (.slice s.1 s.2.2.length s.2.1) s.2.2.length 3 1 (s.2.2.map (.int .i64))) h.2.1 (fun k hk=>hb k (.inr hk)),h.2.2⟩)
theorem mH {M:List Nat} {w X:World} {b:Nat} {s:Option Addr × Nat × List Int} {L:List Ent} (h:St M w X (mZ b s::L)):St M w X (.box b #[.slice s.1 s.2.2.length s.2.1] 53::.row (.slice s.1 s.2.2.length s.2.1) s.2.2.length 3 1 (s.2.2.map (.int .i64))::L):=by
 have k:=h.at_ (i:=0) rfl;exact h.split2 k.1 k.2.1 (fun q hq=>.inl hq) (fun q hq=>.inr hq) (fun q hq hq'=>k.2.2 (by rw[←(show q=b from hq)];exact hq'))
theorem ky {M:List Nat} {w X:World} {b:Nat} {s:Option Addr × Nat × List Int} {L:List Ent} (h:St M w X (.box b #[.slice s.1 s.2.2.length s.2.1] 53::.row (.slice s.1 s.2.2.length s.2.1) s.2.2.length 3 1 (s.2.2.map (.int .i64))::L)):St M w X (mZ b s::L):=
 h.fuse2 (e:=mZ b s) (fun q hq=>hq) ⟨h.at_ (i:=0) rfl,h.at_ (i:=1) rfl,fun q=>(List.pairwise_cons.1 h.sep).1 _ List.mem_cons_self b rfl q⟩
theorem uw {ls:List (Nat × Lsr)} (hnd:(ls.map Prod.fst).Nodup) {m:Nat × Lsr} (hm:m∈ls):iD ls m.1 m.2=ls:=by
 have:=pB hnd hm m.2.u
 have e:l4 ls m.1 2 m.2.u=ls:=by
  unfold l4
  conv=>rhs;rw[←List.map_id ls]
  apply List.map_congr_left;intro x hx;show(if x.1=m.1 then (x.1,rY x.2 2 m.2.u) else x)=x;by_cases e:x.1=m.1
  · rw[if_pos e,eO (f:=Prod.fst) hnd hx hm e];rfl
  · rw[if_neg e]
 rw[←e,this];exact iP _ _ _ _
theorem yh (ls:List (Nat × Lsr)) (b:Nat) (s:Option Addr × Nat × List Int) (m:Nat × Lsr) (r:Rcd) (M:List Nat) (w:World) (hm:m∈ls) (hl:s.2.2.length≤1000) (hS0:St M w w [mZ b s,eX ls]) :
 Calls Tryz.prog 136 #[eY m,.int .i64 r.l,dz r.e,.pointer (some ⟨b,0,none⟩)] w fun e w'=>∃p:List (Nat × Lsr) × (Option Addr × Nat × List Int),e=.returned (.int .i64 0)∧(p.1=iD ls m.1 m.2∧p.2.2.2=(l5 s.2.2 m.2 r).1)∧St M w w' [eX p.1,mZ b p.2]:=by
 have hnd:=(hS0.at_ (i:=1) rfl).2;have hset:=uw hnd hm;refine aF (N:=15) Tryz.func136 rfl rfl rfl (fun _ Y=>?_);have Z:=mH hS0;refine ab (ah ?_);refine nb Y rfl rfl Z fun b6 _ _ gb6 Y Z=>?_;refine ma Y rfl rfl fun _ Y=>?_;refine ae (aa (ab (ab (ah ?_))));refine vf Y 0 0 rfl rfl rfl fun _ Y=>?_;refine vl Y Z 0 rfl rfl rfl rfl fun _ Y=>?_;refine sv Y (aX (Y.ev rfl) (Y.ev rfl)) fun _ Y=>?_;refine ae (aa ?_);refine aB (Y.ev rfl) (fun hc0=>?_) (fun hc0=>?_)
 ·
  refine ah ?_;refine vl Y Z 1 rfl rfl rfl rfl fun _ Y=>?_;refine mv Y rfl rfl fun _ Y=>?_;refine dr Y (wn rfl) (f:=fun b=>.slice (some ⟨b,0,none⟩) 1 1) (cj Tryz.underlying53 (by kernel_rfl) (by kernel_rfl) (Y.evs2 rfl) rfl rfl rfl (by decide) (by decide)) rfl rfl Z fun b13 _ _ gb13 Y Z=>?_;refine cv (z:=.int .i64 0) (sz:=1) (bytes:=8) Y (wn rfl) ⟨rfl,rfl⟩ rfl Tryz.underlying53 (by kernel_rfl) rfl rfl (Y.ev rfl) (Y.ev rfl) Z (i:=3) rfl (Z.boxRd (i:=0) rfl) rfl (List.all_eq_true.1 rfl) ⟨(by omega),by decide⟩ fun A14 c14 _ _ Y Z=>?_;refine cX Y (wn rfl) ⟨rfl,rfl⟩ (Y.ev rfl) (Y.ev rfl) rfl (by kernel_rfl) Z (i:=2) rfl rfl rfl fun _ Z=>?_;refine cm ?_;refine ma Y rfl rfl fun _ Y=>?_;refine ae (aa (wp_ret ?_));refine bm Y rfl rfl ?_
  have hk:r.e.k=0:=by simpa using hc0
  refine⟨(ls,A14,c14,s.2.2 ++ [r.l]),rfl,⟨hset.symm,by show _=(if r.e.k=0 then s.2.2 ++ [r.l] else s.2.2);rw[if_pos hk]⟩,?_⟩;refine St.perm (L:=[mZ b (A14,c14,s.2.2 ++ [r.l]),eX ls]) (ky ?_) (List.Perm.swap _ _ _);show St M w _ [.box b #[.slice A14 (s.2.2 ++ [r.l]).length c14] _,.row (.slice A14 (s.2.2 ++ [r.l]).length c14) (s.2.2 ++ [r.l]).length _ 1 ((s.2.2 ++ [r.l]).map (.int .i64)),eX ls];rw[List.length_append,List.map_append];exact(Z.sub (.cons _ (.cons _ (.cons_cons _ (.cons_cons _ (.cons_cons _ .slnil))))))
 ·
  refine wp_skip (aa (ab (ah ?_)));refine ma Y rfl rfl fun _ Y=>?_;refine ae (aa (wp_ret ?_));refine bm Y rfl rfl ?_
  have hk:r.e.k≠0:=by simpa using hc0
  refine⟨(ls,s),rfl,⟨hset.symm,by show _=(if r.e.k=0 then s.2.2 ++ [r.l] else s.2.2);rw[if_neg hk]⟩,?_⟩;exact St.perm (L:=[mZ b s,eX ls]) (ky (Z.sub (.cons _ (.cons_cons _ (.cons_cons _ (.cons_cons _ .slnil)))))) (List.Perm.swap _ _ _)
set_option maxRecDepth 4000
open Go.RowKit Go.Sort Go.Shelf
theorem pR (t:Tbl) (A:Option Addr) (c:Nat) (B:Option Addr) (d:Nat) (w:World) (hr:Rd w w.heap.size A (t.ts.flatMap cA)) (hl:t.ts.length≤1000) :
 Calls Tryz.prog 123 #[cR t A c B d] w fun e w'=>∃i:{i:List (Nat × Lsr) × Option Addr × Nat // i.1.map Prod.snd=jv t.ts},e=.returned (.slice i.1.2.1 i.1.1.length i.1.2.2)∧St [] w w' [.row (.slice i.1.2.1 i.1.1.length i.1.2.2) i.1.1.length 233 1 (i.1.1.map eY),eX i.1.1]:=
 (rN t A c B d w hr hl).mono fun e w' ⟨i,h1,h2,h3⟩=>⟨⟨i,h2⟩,h1,h3⟩
theorem ze (l:List Trn):(jv l).length≤l.length:=by
 unfold jv;rw[List.length_map];exact List.length_filter_le _ _
def zy (l:List Rcd) (t:Tbl):Int:=(Ay l t).2
def ya (l:List Rcd) (t:Tbl):List Int:=if zy l t=0 then Bz l t else []
theorem zo {l:List Rcd} {t:Tbl} {ls:List (Nat × Lsr)} (hls:ls.map Prod.snd=jv t.ts) (hnd:(ls.map Prod.fst).Nodup) :
 (il l l5 101 ls []).2.2=zy l t∧(zy l t=0→(il l l5 101 ls []).2.1=ya l t):=by
 obtain⟨ps,h1,h2,h3,h4⟩:=rT t.ts 0 ls hls;have hps:PrOk ps:=⟨fun p hp=>⟨(h3 p hp).1,(h3 p hp).2.1⟩,by rw[←h1,List.map_map] at hnd;exact hnd,h4.imp (fun h q=>by rw[q] at h;exact Nat.lt_irrefl _ h)⟩
 obtain⟨r1,r2⟩:=zu l l5 te 100 ps [] (fun k=>match t.ts[k]? with | some x=>x.l | none=>0) hps (fun p hp=>by
  obtain⟨_,_,_,x,hx,e⟩:=h3 p hp;rw[Nat.sub_zero] at hx;show(match t.ts[p.2.j]? with | some x=>x.l | none=>0)=_
  rw[hx];exact e)
 rw[h1,h2] at r1 r2;have e2:(il l l5 101 ls []).2.2=zy l t:=r2 fun _ _ _=>rfl;refine⟨e2,fun hz=>?_⟩;have e1:=r1 hz;rw[pW] at e1;unfold ya Bz Ay;rw[if_pos hz,e1];rfl
theorem St.pull {M:List Nat} {w X:World} {L:List Ent} {e:Ent} (h:St M w X L) (i:Nat) (hi:L[i]? = some e):St M w X (e::L.eraseIdx i):=by
 obtain⟨hlt,rfl⟩:=List.getElem?_eq_some_iff.1 hi;refine h.perm ?_
 have e:L=L.take i ++ L[i]::L.drop (i+1):=by rw[←List.drop_eq_getElem_cons hlt,List.take_append_drop]
 rw[List.eraseIdx_eq_take_drop_succ]
 conv=>rhs;rw[e]
 exact List.perm_middle.symm
theorem St.fresh {w X:World} {L L':List Ent} (h:St [] w X L) (hs:L'.Sublist L):∀b∈fP X L',w.heap.size≤b:=fun b hb=>by
 obtain⟨_,e,he,hd⟩:=mem_domsL.1 hb;rcases (h.new e (hs.subset he) b hd).1 with h1 | h1
 · exact h1
 · cases h1
theorem Bi {ls:List (Nat × Lsr)} {ts:List Trn} (h:ls.map Prod.snd=jv ts) (hu:∀x∈ts,0≤x.u):∀x∈ls,0≤x.2.u:=fun x hx=>by
 have:x.2∈jv ts:=by rw[←h];exact List.mem_map_of_mem hx
 unfold jv at this;obtain⟨y,hy,e⟩:=List.mem_map.1 this;rw[←e];exact hu y (List.mem_filter.1 hy).1
theorem vZ (s:List Int) (x:Lsr) (r:Rcd):(l5 s x r).1.length≤s.length+1:=by
 unfold l5;simp only
 split
 · rw[List.length_append];exact Nat.le_refl _
 · omega
theorem mU (l:List Rcd) (B:Option Addr) (d:Nat) (t:Tbl) (TA:Option Addr) (tc:Nat) (TB:Option Addr) (td:Nat) (w:World)
 (hq:Rd w w.heap.size B (l.flatMap cg)) (ht1:Rd w w.heap.size TA (t.ts.flatMap cA)) (hv:VldH l l.length) (hl:l.length≤1000) (htl:t.ts.length≤999) (htu:∀x∈t.ts,0≤x.u) :
 Calls Tryz.prog 84 #[.slice B l.length d,cR t TA tc TB td] w fun e w'=>∃i:Option Addr × Nat,e=.returned (.tuple #[.slice i.1 (ya l t).length i.2,.int .i64 (zy l t)])∧St [] w w' [.row (.slice i.1 (ya l t).length i.2) (ya l t).length 3 1 ((ya l t).map (.int .i64))]:=by
 refine aF (N:=17) Tryz.func84 rfl rfl rfl (fun _ h0=>?_);have Y:=St.init w;refine ab (ah ?_);refine nb h0 rfl rfl Y fun b3 _ _ gb3 h1 Y=>?_;refine ma h1 rfl rfl fun _ h2=>?_;refine ma h2 rfl rfl fun _ h3=>?_;refine cm ?_;refine na (.slice none 0 0) h3 rfl Y fun b6 _ _ gb6 h4 Y=>?_;refine ae (aa (ab (ab (ah ?_))));refine mv h4 rfl rfl fun _ h5=>?_;refine sv (v:=cR t TA tc TB td) h5 (ay (by kernel_rfl) (by kernel_rfl) (h5.ev rfl) (Y.cellsAll (i:=1) rfl)) fun _ h6=>?_;refine dp h6 (wn rfl) (aq (fun _ _=>by kernel_rfl) (h6.evs rfl) rfl) rfl rfl Y (pR t TA tc TB td _ (Y.rd0 ht1) (by omega)) fun p10 _ X7 h7 Y=>?_;refine sv h7 (gi (h7.evs rfl) (h7.evs rfl)) fun _ h8=>?_;have hls:=p10.2
 have hlen:p10.1.1.length≤t.ts.length:=by have:=ze t.ts;rw[←hls,List.length_map] at this;exact this
 have hnd:=(Y.at_ (i:=1) rfl).2;obtain⟨u1,u2⟩:=zo hls hnd;replace Y:St [] w X7 (eX p10.1.1::mZ b6 (none,0,[])::.row (.slice p10.1.2.1 p10.1.1.length p10.1.2.2) p10.1.1.length 233 1 (p10.1.1.map eY)::[.box b3 (cR t TA tc TB td).cells 25]):=St.pull (ky (s:=(none,0,[])) (St.pull (Y.nilRow 3 1) 3 rfl)) 2 rfl;refine oJ (L1:=[eX p10.1.1,mZ b6 (none,0,[]),.row (.slice p10.1.2.1 p10.1.1.length p10.1.2.2) p10.1.1.length 233 1 (p10.1.1.map eY)]) (V:=fun _=>.int .i64 _) h8 (wn rfl) (aq (fun _ _=>by kernel_rfl) (h8.evs rfl) rfl) rfl rfl Y (we (σ:=List Int) (τ:=Option Addr × Nat × List Int) (fun s=>s.2.2) (mZ b6) l5 te 136 [.pointer (some ⟨b6,0,none⟩)] l B d w.heap.size p10.1.2.1 p10.1.2.2 p10.1.1 (none,0,[]) _ _ (fun j s=>s.2.2.length≤j) (Nat.le_refl 0) (fun _ _=>by kernel_rfl) Y.size (Y.fresh (.cons_cons _ (.cons_cons _ (.cons_cons _ (.cons _ .slnil))))) (hq.below Y.below) hv hl (by omega) (Bi hls htu) (St.frontL (L2:=[_]) Y) (fun j X ls s m r hj hK hkl hS hm hr ho ht hu=>(yh ls b6 s m r _ X hm (by omega) (hS.swap)).mono fun e X' ⟨p,h1,⟨h2,h3⟩,h4⟩=>⟨p,h1,⟨fun _=>⟨h2,h3,by show p.2.2.2.length≤j+1;rw[h3];have:=vZ s.2.2 m.2 r;omega⟩,by rw[h2,gv]⟩,h4⟩)) fun p12 _ _ h9 hF12 Y=>?_;refine ma h9 rfl rfl fun _ h10=>?_;rw[u1] at hF12 h10;obtain⟨hF12a,hF12b⟩:=hF12;refine cm ?_;refine mv h10 rfl rfl fun _ h11=>?_;refine sv h11 (a8 (h11.ev rfl) (h11.ev rfl)) fun _ h12=>?_;refine ae (aa ?_);refine aB (h12.ev rfl) (fun hc0=>?_) (fun hc0=>?_)
 ·
  have hne:zy l t≠0:=by simpa using hc0
  have e1:ya l t=[]:=by unfold ya;rw[if_neg hne]
  refine ab (ah ?_);refine mv h12 rfl rfl fun _ h13=>?_;refine ma h13 rfl rfl fun _ h14=>?_;refine ma h14 rfl rfl fun _ h15=>?_;refine ae (aa (wp_ret (ai ?_)));refine eh h15 rfl rfl rfl ?_;refine⟨(none,0),by rw[e1];rfl,?_⟩;rw[e1];exact(Y.sub (List.nil_sublist _)).nilRow 3 1
 ·
  have hz:zy l t=0:=by simpa using hc0
  have e1:p12.2.2.2=ya l t:=(hF12a hz).2.trans (u2 hz);refine wp_skip (aa (ab (ah ?_)));refine sv h12 (aw (by kernel_rfl) (h12.ev rfl) (Box.cells (Y.at_ (i:=1) rfl).1 0)) fun _ h16=>?_;refine ma h16 rfl rfl fun _ h17=>?_;refine ma h17 rfl rfl fun _ h18=>?_;refine ae (aa (wp_ret ?_));refine eh h18 rfl rfl rfl ?_;refine⟨(p12.2.1,p12.2.2.1),by rw[←e1,hz];rfl,?_⟩;rw[←e1];exact(mH (L:=[_,_,_]) (St.pull Y 1 rfl)).sub (.cons _ (.cons_cons _ (.cons _ (.cons _ (.cons _ .slnil)))))
def oO (l:List Rcd) (t:Tbl):Int:=aP [(dI l).2,dR t]
def lj (l:List Rcd) (t:Tbl):List Int:=if oO l t=0 then ya l t else []
def uT (l:List Rcd) (t:Tbl):Int:=if oO l t=0 then zy l t else oO l t
theorem mS (l:List Rcd) (B:Option Addr) (d:Nat) (t:Tbl) (TA:Option Addr) (tc:Nat) (TB:Option Addr) (td:Nat) (w:World)
 (hq:Rd w w.heap.size B (l.flatMap cg)) (ht1:Rd w w.heap.size TA (t.ts.flatMap cA)) (ht2:Rd w w.heap.size TB (t.ds.flatMap da)) (hl:l.length≤1000) (hc:l.length≤d) (hF:FolT w) (hx:∀x∈l,FewE x.e) :
 Calls Tryz.prog 31 #[.slice B l.length d,cR t TA tc TB td] w fun e w'=>∃i:Option Addr × Nat,e=.returned (.tuple #[.slice i.1 (lj l t).length i.2,.int .i64 (uT l t)])∧St [] w w' [.row (.slice i.1 (lj l t).length i.2) (lj l t).length 3 1 ((lj l t).map (.int .i64))]:=by
 refine aF (N:=21) Tryz.func31 rfl rfl rfl (fun _ Y=>?_);have Z:=St.init w;refine ab (ah ?_);refine nb Y rfl rfl Z fun b3 _ _ gb3 Y Z=>?_;refine ma Y rfl rfl fun _ Y=>?_;refine ma Y rfl rfl fun _ Y=>?_;refine ae (aa (ab (ab ?_)));apply bA Y [false,false,false] _ (by kernel_rfl)
 case h=>
  refine qv Y (fun X hX=>ak (Y.ev rfl)) fun _ Y=>?_;refine df Y (wn rfl) rfl rfl (fun X=>(aq (fun _ _=>by kernel_rfl) (Y.evs rfl) rfl)) (fun X hX=>dP l B d _ ((Z.grow hX).rd0 hq) hl hc (hF.below (Z.grow hX).below) hx) fun _ Y=>?_;refine qv (v:=cR t TA tc TB td) Y (fun X hX=>ay (by kernel_rfl) (by kernel_rfl) (Y.ev rfl) ((Z.grow hX).cellsAll (i:=0) rfl)) fun _ Y=>?_;refine aI ?_;refine bF fun _ hX7 hΦ7=>?_;have Z:=Z.grow hX7;refine aS Y (wn rfl) (aq (fun _ _=>by kernel_rfl) (Y.evs rfl) rfl) rfl rfl Z (dt t TA tc TB td _ (Z.rd0 ht1) (Z.rd0 ht2)) fun _ _ Y Z=>?_;refine dr Y (wn rfl) (f:=fun b=>.slice (some ⟨b,0,none⟩) 2 2) (cj Tryz.underlying214 (by kernel_rfl) (by kernel_rfl) (Y.evs2 rfl) rfl rfl rfl (by decide) (by decide)) rfl rfl Z fun b11 _ _ gb11 Y Z=>?_;refine bD Y (wn rfl) (aq (fun _ _=>by kernel_rfl) (Y.evs rfl) rfl) rfl rfl (dC (Z.at_ (i:=0) rfl)) fun _ Y=>?_;refine ma Y rfl rfl fun _ Y=>?_;refine cm ?_;refine mv Y rfl rfl fun _ Y=>?_;refine sv Y (a8 (Y.ev rfl) (Y.ev rfl)) fun _ Y=>?_;refine ae (aa ?_);refine aB (Y.ev rfl) (fun hc0=>?_) (fun hc0=>?_)
  ·
   have hne:oO l t≠0:=by unfold oO;simpa using hc0
   have e1:lj l t=[]:=by unfold lj;rw[if_neg hne]
   have e2:uT l t=oO l t:=by unfold uT;rw[if_neg hne]
   refine ab (ah ?_);refine mv Y rfl rfl fun _ Y=>?_;refine ma Y rfl rfl fun _ Y=>?_;refine ma Y rfl rfl fun _ Y=>?_;refine ae (aa (wp_ret (ai ?_)));refine eh Y rfl rfl rfl ?_;refine⟨(none,0),by rw[e1,e2];rfl,?_⟩;rw[e1];exact(Z.sub (List.nil_sublist _)).nilRow 3 1
  ·
   have hz:oO l t=0:=by unfold oO;simpa using hc0
   have e1:lj l t=ya l t:=by unfold lj;rw[if_pos hz]
   have e2:uT l t=zy l t:=by unfold uT;rw[if_pos hz]
   have hz2:=hz;unfold oO at hz2;rw[bw] at hz2;have htk:=tblE_zero.1 (hz2 (dR t) (by simp));have htn:=htk.n;have hvl:=(j9 (hz2 (dI l).2 (by simp))).2;refine wp_skip (aa (ab (ah ?_)));refine mv Y rfl rfl fun _ Y=>?_;refine sv (v:=cR t TA tc TB td) Y (ay (by kernel_rfl) (by kernel_rfl) (Y.ev rfl) (Z.cellsAll (i:=1) rfl)) fun _ Y=>?_;refine dp Y (wn rfl) (aq (fun _ _=>by kernel_rfl) (Y.evs rfl) rfl) rfl rfl Z (mU l B d t TA tc TB td _ (Z.rd0 hq) (Z.rd0 ht1) hvl hl (by omega) (fun x hx=>by obtain⟨k,hk,rfl⟩:=List.getElem_of_mem hx;exact(htk.ts k hk).u.1)) fun p18 _ _ Y Z=>?_;refine vx Y rfl rfl rfl fun _ Y=>?_;refine vx Y rfl rfl rfl fun _ Y=>?_;refine ma Y rfl rfl fun _ Y=>?_;refine ma Y rfl rfl fun _ Y=>?_;refine ae (aa (wp_ret ?_));refine eh Y rfl rfl rfl ?_;refine⟨p18,by rw[e1,e2];rfl,?_⟩;rw[e1];exact(Z.sub (.cons_cons _ (.cons _ (.cons _ .slnil))))
 case hB=>kernel_rfl
 case hst=>rfl
end Go.Proofs.YtcfdpfmchchkaaaGreatDoor
