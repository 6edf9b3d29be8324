/-
  Chapter 22: the reference's error of a record, and of a history.
  Chapter 22: the reference's strictness and meaning.
-/
import Derived.Test.YtcfdpfmchchkaaaGreatDoorRcN0
namespace Go.Proofs.YtcfdpfmchchkaaaGreatDoor
set_option linter.unusedVariables false
set_option linter.unusedSimpArgs false
set_option maxRecDepth 4000
open Go.RowKit Go.Sort Go.Shelf
def s8 (l:List Rcd) (n:Int):Bool:=decide (n<0)||(ed l n.toNat==4)
theorem kJ {l:List Rcd} {i:Nat} {t:Int} (h:s8 l (cZ l i t)=false):∃k,k<i∧cZ l i t=(k:Int)∧bP l t i=some k∧ed l k≠4:=by
 unfold s8 at h;obtain⟨h1,h2⟩:=Bool.or_eq_false_iff.1 h;obtain⟨k,q1,q2,q3⟩:=gO (by have:=of_decide_eq_false h1;omega:0≤cZ l i t);rw[q2] at h2;exact⟨k,q1,q2,q3,by simpa using h2⟩
theorem Ah (l:List Rcd) (i:Nat) (t p:Int):jE l (bP l t i) p=(((decide (cZ l i t<0)&&decide (p≥dE l))&&(p != 0))||(((decide (cZ l i t≥0)&&s8 l (cZ l i t))&&(p != 0))||(!s8 l (cZ l i t)&&(p != i6 l (cZ l i t).toNat)))):=by
 unfold cZ s8 jE
 cases bP l t i with
 | none=>simp
 | some k=>
  have e1:decide ((k:Int)<0)=false:=decide_eq_false (by omega);have e2:decide ((k:Int)≥0)=true:=decide_eq_true (by omega);simp only[e1,e2,Int.toNat_natCast,Bool.false_and,Bool.false_or,Bool.true_and];by_cases h:ed l k=4
  · rw[if_pos h,show(ed l k==4)=true by simpa using h];simp
  · rw[if_neg h,show(ed l k==4)=false by simpa using h];simp
theorem zq (l:List Rcd) (i:Nat) (t:Int):cH l (bP l t i)=if s8 l (cZ l i t)=true then 0 else ed l (cZ l i t).toNat:=by
 unfold cZ s8 cH
 cases bP l t i with
 | none=>simp
 | some k=>
  have e1:decide ((k:Int)<0)=false:=decide_eq_false (by omega);simp only[e1,Int.toNat_natCast,Bool.false_or,beq_iff_eq]
theorem yI (l:List Rcd) (i:Nat) (t p:Int):jK l (bP l t i) p=if s8 l (cZ l i t)=true then (if p=0 then 0 else -1) else gW l (cZ l i t).toNat:=by
 unfold cZ s8 jK
 cases bP l t i with
 | none=>simp
 | some k=>
  have e1:decide ((k:Int)<0)=false:=decide_eq_false (by omega);simp only[e1,Int.toNat_natCast,Bool.false_or,beq_iff_eq]
theorem AL {l:List Rcd} {i:Nat} (hv:VldH l i) {n:Int} (hn:n≤0):lA Rcd.l n (l.take i) 0 = -1:=jP fun k hk=>by
 have hki:k<i:=by rw[List.length_take] at hk;omega
 have:=(hv.e0 hki).1;rw[List.getElem_take];omega
def xv (x u:Lge):Bool:=(((((u.k != 0)||(u.t != x.t))||(x.x != u.p))||(x.g != u.g))||(x.f != u.f))||!(decide (x.o=jb u.o))
theorem vW {l:List Rcd} {i:Nat} {n:Int} {x:Lge} {u:Rcd} (h0:n≠0) (h:eE (l.take i) n=some u):kp l i n x=if xv x u.e=true then 13 else 0:=by
 unfold kp;rw[if_neg h0,h];simp only[];by_cases q:u.e.k=0∧u.e.t=x.t∧x.x=u.e.p∧x.g=u.e.g∧x.f=u.e.f∧x.o=jb u.e.o
 · rw[if_pos q,if_neg]
   obtain⟨q1,q2,q3,q4,q5,q6⟩:=q;unfold xv;rw[←q6];simp[q1,q2,q3,q4,q5]
 · rw[if_neg q,if_pos]
   unfold xv;refine Classical.byContradiction fun hc=>q ?_;simp only[Bool.or_eq_true,not_or,Bool.not_eq_true,bne_eq_false_iff_eq,Bool.not_eq_false',decide_eq_true_eq] at hc;obtain⟨⟨⟨⟨⟨q1,q2⟩,q3⟩,q4⟩,q5⟩,q6⟩:=hc;exact⟨q1,q2,q3,q4,q5,q6⟩
set_option maxHeartbeats 2000000 in
theorem mg (l:List Rcd) (i:Nat) (hi:i<l.length) (A:Option Addr) (c:Nat) (w:World) (hr:Rd w w.heap.size A (l.flatMap cg)) (hl:l.length≤1000) (hc:l.length≤c) (hv:VldH l i) (hx:∀x∈l,FewE x.e) :
 Calls Tryz.prog 108 #[.slice A l.length c,.int .i64 (i:Nat)] w fun e w'=>e=.returned (.int .i64 (xz l i l[i].e))∧Below w.heap.size w w':=by
 obtain⟨b,o,rfl,hB,_⟩:=hr.opened (aR aJ (by decide) (by omega));have hxi:=hx _ (List.getElem_mem hi);have hfst:=fA (l:=l) (by omega);obtain⟨E,hE⟩:∃E,E=xz l i l[i].e:=⟨_,rfl⟩;rw[←hE];unfold xz at hE;have hgap:=Ah l i l[i].e.t l[i].e.p;have hlst:=zq l i l[i].e.t;have hund:=yI l i l[i].e.t l[i].e.p;simp only[s8] at hgap
 have hlti:(l.take i).length=i:=by rw[List.length_take];omega
 have hrt:Rd w w.heap.size (some ⟨b,o,none⟩) ((l.take i).flatMap cg):=hr.takeF aJ i;refine aF (N:=190) Tryz.func108 rfl rfl rfl (fun _ h0=>?_);have S0:=St.init w;refine ab (ah ?_);refine ma h0 rfl rfl fun _ h1=>?_;refine ae (aa (ab ?_));apply jF h1 (fun _=>False) [] [(10,143)] [false,false,false,false,false,false,false,false,false,true,true] _ (by kernel_rfl) ep
 case h=>
  refine qv h1 (fun X hX=>ak (h1.ev rfl)) fun _ h2=>?_;refine qv h2 (fun X hX=>ak (h2.ev rfl)) fun _ h3=>?_;refine qv h3 (fun X hX=>aC (i:=i) (sz:=14) Tryz.underlying41 (by kernel_rfl) (h3.ev rfl) (h3.ev rfl) (by omega) (by omega) rfl) fun _ h4=>?_;refine qv h4 (fun X hX=>aj (off:=1) (by kernel_rfl) (h4.ev rfl) rfl) fun _ h5=>?_;refine qv (v:=dz l[i].e) h5 (fun X hX=>ay (by kernel_rfl) (by kernel_rfl) (h5.ev rfl) (dJ ((S0.grow (Grw.below hX)).rd0 hr) hi)) fun _ h6=>?_;refine qv h6 (fun X hX=>ak (h6.ev rfl)) fun _ h7=>?_;refine qv h7 (fun X hX=>aC (i:=0) (sz:=14) Tryz.underlying41 (by kernel_rfl) (h7.ev rfl) (h7.ev rfl) (by omega) (by omega) rfl) fun _ h8=>?_;refine qv h8 (fun X hX=>aj (off:=0) (by kernel_rfl) (h8.ev rfl) rfl) fun _ h9=>?_;refine qv h9 (fun X hX=>bb (v':=.int .i64 (dE l)) (congrArg _ hfst.symm) (aw (by kernel_rfl) (h9.ev rfl) ((a7 aJ ((S0.grow (Grw.below hX)).rd0 hr) (show 0<l.length by omega)) 0 _ rfl))) fun _ h10=>?_;refine aI ?_;apply gY (O:=(fun _=>False)) (k:=9) (deps:=[]) (R:=NewAny _ 13 _) h10 rfl rfl rfl ep NewAny.stable ep (Bl NewAny.newT)
  case hx=>exact fun X hX hΦ=>vG (fE (z:=.agg #[.int .i64 0,.int .i64 0,.int .i64 0,.int .i64 0,.int .i64 0,.bool false,.int .i64 0,.int .i64 0,.int .i64 0,.int .i64 0,.string ⟨#[]⟩,.string ⟨#[]⟩,.string ⟨#[]⟩]) (by kernel_rfl)) hX.size rfl
  intro v5 _ h11;apply qN (k:=10) (deps:=[9]) (kx:=9) (x:=5) (y:=19) (Y:=vC _) h11 rfl ⟨rfl,rfl⟩ rfl ep ⟨rfl,rfl⟩ rfl p6 rfl rfl (n:=13) (by kernel_rfl) ep
  case hx=>
   intro X hX hΦ;exact⟨(cG (k:=9) hΦ rfl rfl),rfl,rfl⟩
  intro vs10;refine po (O:=(fun _=>False)) ep fun _ hX12 hΦ12=>?_;obtain⟨b5,rfl,gb5,qb5⟩:=StoY.val (v:=vs10) h11 rfl (bW hΦ12 (k:=10) rfl);have S12:=S0.add (Grw.below hX12) (e:=.box _ _ _) qb5 (fun b hb=>by cases hb;exact⟨gb5,Box.lt qb5⟩);refine ma h11 rfl rfl fun _ h13=>?_;refine ae (aa (ab (ab (ah ?_))));refine vf h13 0 0 rfl rfl rfl fun _ h14=>?_;refine vl h14 S12 0 rfl rfl rfl rfl fun _ h15=>?_;refine sv h15 (aX (h15.ev rfl) (h15.ev rfl)) fun _ h16=>?_;refine ae (aa ?_);refine aB (h16.ev rfl) (fun hc0=>?_) (fun hc0=>?_)
  ·
   rw[if_pos (by simpa using hc0)] at hE;unfold z7 at hE;refine ab (ab (ah ?_));refine vf h16 1 1 rfl rfl rfl fun _ h17=>?_;refine vl h17 S12 0 rfl rfl rfl rfl fun _ h18=>?_;refine sv h18 (a8 (h18.ev rfl) (h18.ev rfl)) fun _ h19=>?_;refine mv h19 rfl rfl fun _ h20=>?_;apply dw h20 S12 30 rfl 4 34
   case hf=>
    intro gc30;refine sy h20 rfl rfl rfl gc30 (aj (off:=2) (j:=2) (by kernel_rfl) (h20.ev rfl) rfl) rfl rfl fun _ h21=>?_;refine sy h21 rfl rfl rfl gc30 (aw (by kernel_rfl) (h21.ev rfl) (S12.cell (i:=0) rfl rfl)) rfl rfl fun _ h22=>?_;refine sy h22 rfl rfl rfl gc30 (a8 (h22.ev rfl) (h22.ev rfl)) rfl rfl fun _ h23=>?_;refine sv h23 (aD (h23.ev rfl) gc30 (h23.ev rfl)) fun _ h24=>?_;exact ae ⟨h24.mid (m:=[(_,_),(_,_),(_,_)]) rfl,S12⟩
   case ht=>
    intro gc30;refine no h20 rfl rfl rfl gc30 rfl rfl fun _ h25=>?_;refine no h25 rfl rfl rfl gc30 rfl rfl fun _ h26=>?_;refine no h26 rfl rfl rfl gc30 rfl rfl fun _ h27=>?_;refine sv h27 (aA (h27.ev rfl) gc30 (h27.ev rfl)) fun _ h28=>?_;exact ae ⟨h28.mid (m:=[(_,_),(_,_),(_,_)]) rfl,S12⟩
   case h=>
    rintro a29 X29 ⟨h29,S29⟩
    refine ae (aa ?_);refine aB (h29.ev rfl) (fun hc1=>?_) (fun hc1=>?_)
    ·
     rw[if_pos (by simpa using hc1)] at hE;refine ab (ah ?_);refine ma h29 rfl rfl fun _ h30=>?_;refine ae (aa (wp_ret (ai (ai ?_))));refine bm h30 rfl rfl ?_;exact⟨by first | (rw[hE];done) | (rw[hE];rfl),S29.below⟩
    ·
     rw[if_neg (by simpa using hc1)] at hE;refine wp_skip (aa (ab (ah ?_)));refine vf h29 12 12 rfl rfl rfl fun _ h31=>?_;refine vl h31 S29 0 rfl rfl rfl rfl fun _ h32=>?_;refine dp h32 (wn rfl) (aq (fun _ _=>by kernel_rfl) (h32.evs rfl) rfl) rfl rfl S29 (pI (bl l[i].e.d) _ hxi.d) fun p38 _ _ h33 S33=>?_;refine mv h33 rfl rfl fun _ h34=>?_;refine sv (v:=cR (di (bl l[i].e.d)) p38.1 p38.2.1 p38.2.2.1 p38.2.2.2) h34 (bG (h34.ev rfl) rfl) fun _ h35=>?_;refine vx h35 rfl rfl rfl fun _ h36=>?_;refine na (.agg #[.slice none 0 0,.slice none 0 0]) h36 rfl S33 fun b7 _ _ gb7 h37 S37=>?_;refine aG h37 (wn rfl) ⟨rfl,rfl⟩ (h37.ev rfl) (h37.ev rfl) rfl (by kernel_rfl) S37 (i:=0) rfl rfl rfl fun _ S38=>?_;refine ma h37 rfl rfl fun _ h39=>?_;refine cm ?_;refine mv h39 rfl rfl fun _ h40=>?_;refine ma h40 rfl rfl fun _ h41=>?_;refine ae (aa (wp_ret (ai ?_)));refine bm h41 rfl rfl ?_;exact⟨by first | (rw[hE];done) | (rw[hE];rfl),S38.below⟩
  ·
   rw[if_neg (by simpa using hc0)] at hE;refine wp_skip (aa (ab (ab (ah ?_))));refine vf h16 1 1 rfl rfl rfl fun _ h42=>?_;refine vl h42 S12 0 rfl rfl rfl rfl fun _ h43=>?_;refine sv h43 (aX (h43.ev rfl) (h43.ev rfl)) fun _ h44=>?_;refine ae (aa ?_);refine aB (h44.ev rfl) (fun hc2=>?_) (fun hc2=>?_)
   ·
    rw[if_pos (by simpa using hc2)] at hE;refine ab (ah ?_);refine ma h44 rfl rfl fun _ h45=>?_;refine ae (aa (wp_ret (ai ?_)));refine bm h45 rfl rfl ?_;exact⟨by first | (rw[hE];done) | (rw[hE];rfl),S12.below⟩
   ·
    rw[if_neg (by simpa using hc2)] at hE;unfold xW at hE;refine wp_skip (aa (ab (ah ?_)));refine mv h44 rfl rfl fun _ h46=>?_;refine mv h46 rfl rfl fun _ h47=>?_;refine aS h47 (wn rfl) (aq (fun _ _=>by kernel_rfl) (h47.evs rfl) rfl) rfl rfl S12 (kU l i hi _ c _ (S12.rd0 hr) (by omega)) fun _ _ h48 S48=>?_;refine ma h48 rfl rfl fun _ h49=>?_;refine cm ?_;refine mv h49 rfl rfl fun _ h50=>?_;refine sv h50 (bq (h50.ev rfl) (h50.ev rfl)) fun _ h51=>?_;refine mv h51 rfl rfl fun _ h52=>?_;apply dw (x:=ed l (cZ l i l[i].e.t).toNat==4) h52 S48 50 rfl 8 58
    case hf=>
     intro gc50;obtain⟨k,hki,hbk,hbh⟩:=gO (l:=l) (i:=i) (t:=l[i].e.t) (by have:=of_decide_eq_false gc50;omega)
     have hkl:k<l.length:=by omega
     have hkk:ed l (cZ l i l[i].e.t).toNat=l[k].e.k:=by rw[hbk];exact gC hkl
     refine sy h52 rfl rfl rfl gc50 (ak (h52.ev rfl)) rfl rfl fun _ h53=>?_;refine sy h53 rfl rfl rfl gc50 (ak (h53.ev rfl)) rfl rfl fun _ h54=>?_;refine sy h54 rfl rfl rfl gc50 (aC (i:=k) (sz:=14) Tryz.underlying41 (by kernel_rfl) (h54.ev rfl) (h54.ev rfl) (by omega) (by omega) rfl) rfl rfl fun _ h55=>?_;refine sy h55 rfl rfl rfl gc50 (aj (off:=1) (by kernel_rfl) (h55.ev rfl) rfl) rfl rfl fun _ h56=>?_;refine sy h56 rfl rfl rfl gc50 (aj (off:=0) (by kernel_rfl) (h56.ev rfl) rfl) rfl rfl fun _ h57=>?_;refine sy h57 rfl rfl rfl gc50 (aw (by kernel_rfl) (h57.ev rfl) ((a7 aJ (S48.rd0 hr) hkl) 1 _ rfl)) rfl rfl fun _ h58=>?_;refine sy h58 rfl rfl rfl gc50 (bb (v':=.bool (ed l (cZ l i l[i].e.t).toNat==4)) (by rw[hkk]) (aX (h58.ev rfl) (h58.ev rfl))) rfl rfl fun _ h59=>?_;refine sv h59 (aD (h59.ev rfl) gc50 (h59.ev rfl)) fun _ h60=>?_;exact ae ⟨h60.mid (m:=[(_,_),(_,_),(_,_),(_,_),(_,_),(_,_),(_,_)]) rfl,S48⟩
    case ht=>
     intro gc50;refine no h52 rfl rfl rfl gc50 rfl rfl fun _ h61=>?_;refine no h61 rfl rfl rfl gc50 rfl rfl fun _ h62=>?_;refine no h62 rfl rfl rfl gc50 rfl rfl fun _ h63=>?_;refine no h63 rfl rfl rfl gc50 rfl rfl fun _ h64=>?_;refine no h64 rfl rfl rfl gc50 rfl rfl fun _ h65=>?_;refine no h65 rfl rfl rfl gc50 rfl rfl fun _ h66=>?_;refine no h66 rfl rfl rfl gc50 rfl rfl fun _ h67=>?_;refine sv h67 (aA (h67.ev rfl) gc50 (h67.ev rfl)) fun _ h68=>?_;exact ae ⟨h68.mid (m:=[(_,_),(_,_),(_,_),(_,_),(_,_),(_,_),(_,_)]) rfl,S48⟩
    case h=>
     rintro a69 X69 ⟨h69,S69⟩
     refine ma h69 rfl rfl fun _ h70=>?_;refine ae (aa (ab (wp_block (ab (ab (ah ?_))))));refine mv h70 rfl rfl fun _ h71=>?_;refine sv h71 (bq (h71.ev rfl) (h71.ev rfl)) fun _ h72=>?_;refine mv h72 rfl rfl fun _ h73=>?_;apply cq h73 S69 62 rfl 5 67
     case ht=>
      intro gc62;refine sy h73 rfl rfl rfl gc62 (aj (off:=2) (j:=2) (by kernel_rfl) (h73.ev rfl) rfl) rfl rfl fun _ h74=>?_;refine sy h74 rfl rfl rfl gc62 (aw (by kernel_rfl) (h74.ev rfl) (S69.cell (i:=0) rfl rfl)) rfl rfl fun _ h75=>?_;refine sy h75 rfl rfl rfl gc62 (ak (h75.ev rfl)) rfl rfl fun _ h76=>?_;refine sy h76 rfl rfl rfl gc62 (jx (h76.ev rfl) (h76.ev rfl)) rfl rfl fun _ h77=>?_;refine sv h77 (aA (h77.ev rfl) gc62 (h77.ev rfl)) fun _ h78=>?_;exact ae ⟨h78.mid (m:=[(_,_),(_,_),(_,_),(_,_)]) rfl,S69⟩
     case hf=>
      intro gc62;refine no h73 rfl rfl rfl gc62 rfl rfl fun _ h79=>?_;refine no h79 rfl rfl rfl gc62 rfl rfl fun _ h80=>?_;refine no h80 rfl rfl rfl gc62 rfl rfl fun _ h81=>?_;refine no h81 rfl rfl rfl gc62 rfl rfl fun _ h82=>?_;refine sv h82 (aD (h82.ev rfl) gc62 (h82.ev rfl)) fun _ h83=>?_;exact ae ⟨h83.mid (m:=[(_,_),(_,_),(_,_),(_,_)]) rfl,S69⟩
     case h=>
      rintro a84 X84 ⟨h84,S84⟩
      refine mv h84 rfl rfl fun _ h85=>?_;apply cq h85 S84 68 rfl 4 72
      case ht=>
       intro gc68;refine sy h85 rfl rfl rfl gc68 (aj (off:=2) (j:=2) (by kernel_rfl) (h85.ev rfl) rfl) rfl rfl fun _ h86=>?_;refine sy h86 rfl rfl rfl gc68 (aw (by kernel_rfl) (h86.ev rfl) (S84.cell (i:=0) rfl rfl)) rfl rfl fun _ h87=>?_;refine sy h87 rfl rfl rfl gc68 (a8 (h87.ev rfl) (h87.ev rfl)) rfl rfl fun _ h88=>?_;refine sv h88 (aA (h88.ev rfl) gc68 (h88.ev rfl)) fun _ h89=>?_;exact ae ⟨h89.mid (m:=[(_,_),(_,_),(_,_)]) rfl,S84⟩
      case hf=>
       intro gc68;refine no h85 rfl rfl rfl gc68 rfl rfl fun _ h90=>?_;refine no h90 rfl rfl rfl gc68 rfl rfl fun _ h91=>?_;refine no h91 rfl rfl rfl gc68 rfl rfl fun _ h92=>?_;refine sv h92 (aD (h92.ev rfl) gc68 (h92.ev rfl)) fun _ h93=>?_;exact ae ⟨h93.mid (m:=[(_,_),(_,_),(_,_)]) rfl,S84⟩
      case h=>
       rintro a94 X94 ⟨h94,S94⟩
       refine ma h94 rfl rfl fun _ h95=>?_;refine ae (aa ?_);replace h95:=(h95.re ⟨rfl,rfl,rfl,rfl,rfl,rfl,rfl,rfl,trivial⟩:Has _ _ _ [(59,_),(10,_),(9,_),(6,_),(5,_),(4,_),(0,_),(1,_)]);refine eH h95 S94 [(59,.bool (jE l (bP l l[i].e.t i) l[i].e.p))] [10,9,6,5,4,0,1] ?_ (fun _ _ h96 S96=>?_)
       ·
        refine aB (h95.ev rfl) (fun hc3=>?_) (fun hc3=>?_)
        ·
         refine wp_skip (aa ?_)
         have hg:jE l (bP l l[i].e.t i) l[i].e.p=true:=by rw[hgap,hc3];rfl
         replace h95:=Has.also h95 (t:=59) (v:=.bool (jE l (bP l l[i].e.t i) l[i].e.p)) (by rw[hg];exact congrArg (fun b=>some (Value.bool b)) hc3);exact⟨h95.re ⟨rfl,rfl,rfl,rfl,rfl,rfl,rfl,rfl,trivial⟩,S94⟩
        ·
         refine ab (ah ?_);refine mv h95 rfl rfl fun _ h97=>?_;refine sv h97 (jx (h97.ev rfl) (h97.ev rfl)) fun _ h98=>?_;refine mv h98 rfl rfl fun _ h99=>?_;apply cq h99 S94 75 rfl 2 77
         case ht=>
          intro gc75;refine sy h99 rfl rfl rfl gc75 (ak (h99.ev rfl)) rfl rfl fun _ h100=>?_;refine sv h100 (aA (h100.ev rfl) gc75 (h100.ev rfl)) fun _ h101=>?_;exact ae ⟨h101.mid (m:=[(_,_)]) rfl,S94⟩
         case hf=>
          intro gc75;refine no h99 rfl rfl rfl gc75 rfl rfl fun _ h102=>?_;refine sv h102 (aD (h102.ev rfl) gc75 (h102.ev rfl)) fun _ h103=>?_;exact ae ⟨h103.mid (m:=[(_,_)]) rfl,S94⟩
         case h=>
          rintro a104 X104 ⟨h104,S104⟩
          refine mv h104 rfl rfl fun _ h105=>?_;apply cq h105 S104 78 rfl 4 82
          case ht=>
           intro gc78;refine sy h105 rfl rfl rfl gc78 (aj (off:=2) (j:=2) (by kernel_rfl) (h105.ev rfl) rfl) rfl rfl fun _ h106=>?_;refine sy h106 rfl rfl rfl gc78 (aw (by kernel_rfl) (h106.ev rfl) (S104.cell (i:=0) rfl rfl)) rfl rfl fun _ h107=>?_;refine sy h107 rfl rfl rfl gc78 (a8 (h107.ev rfl) (h107.ev rfl)) rfl rfl fun _ h108=>?_;refine sv h108 (aA (h108.ev rfl) gc78 (h108.ev rfl)) fun _ h109=>?_;exact ae ⟨h109.mid (m:=[(_,_),(_,_),(_,_)]) rfl,S104⟩
          case hf=>
           intro gc78;refine no h105 rfl rfl rfl gc78 rfl rfl fun _ h110=>?_;refine no h110 rfl rfl rfl gc78 rfl rfl fun _ h111=>?_;refine no h111 rfl rfl rfl gc78 rfl rfl fun _ h112=>?_;refine sv h112 (aD (h112.ev rfl) gc78 (h112.ev rfl)) fun _ h113=>?_;exact ae ⟨h113.mid (m:=[(_,_),(_,_),(_,_)]) rfl,S104⟩
          case h=>
           rintro a114 X114 ⟨h114,S114⟩
           refine ma h114 rfl rfl fun _ h115=>?_;refine ae (aa ?_);refine aB (h115.ev rfl) (fun hc4=>?_) (fun hc4=>?_)
           ·
            refine wp_skip (aa ?_)
            have hg:jE l (bP l l[i].e.t i) l[i].e.p=true:=by rw[hgap,hc3,hc4];rfl
            replace h115:=Has.also h115 (t:=59) (v:=.bool (jE l (bP l l[i].e.t i) l[i].e.p)) (by rw[hg];exact congrArg (fun b=>some (Value.bool b)) hc4);exact⟨h115.re ⟨rfl,rfl,rfl,rfl,rfl,rfl,rfl,rfl,trivial⟩,S114⟩
           ·
            apply bA h115 [false,false,false,false,false,false,false,false,false,false,false,false] _ (by kernel_rfl)
            case h=>
             refine qv h115 (fun X hX=>ak (h115.ev rfl)) fun _ h116=>?_;refine qv h116 (fun X hX=>bL (h116.ev rfl)) fun _ h117=>?_;refine qv h117 (fun X hX=>ak (h117.ev rfl)) fun _ h118=>?_;apply kG (x:=l[i].e.p != i6 l (cZ l i l[i].e.t).toNat) h118 85 rfl 9 94
             case ht=>
              intro gc85;obtain⟨k,hki,hbk,hbh,_⟩:=kJ (l:=l) (i:=i) (t:=l[i].e.t) ((Bool.not_eq_true' _).mp gc85)
              have hkl:k<l.length:=by omega
              have hkk:i6 l (cZ l i l[i].e.t).toNat=l[k].l:=by rw[hbk];exact ml hkl
              refine ax h118 (ag h118 _ rfl rfl rfl gc85) rfl rfl (fun X hX=>(aj (off:=2) (j:=2) (by kernel_rfl) (h118.ev rfl) rfl)) fun _ h119=>?_;refine ax h119 (ag h119 _ rfl rfl rfl gc85) rfl rfl (fun X hX=>(aw (by kernel_rfl) (h119.ev rfl) ((S114.grow hX).cell (i:=0) rfl rfl))) fun _ h120=>?_;refine ax h120 (ag h120 _ rfl rfl rfl gc85) rfl rfl (fun X hX=>(ak (h120.ev rfl))) fun _ h121=>?_;refine ax h121 (ag h121 _ rfl rfl rfl gc85) rfl rfl (fun X hX=>(ak (h121.ev rfl))) fun _ h122=>?_;refine ax h122 (ag h122 _ rfl rfl rfl gc85) rfl rfl (fun X hX=>(aC (i:=k) (sz:=14) Tryz.underlying41 (by kernel_rfl) (h122.ev rfl) (h122.ev rfl) (by omega) (by omega) rfl)) fun _ h123=>?_;refine ax h123 (ag h123 _ rfl rfl rfl gc85) rfl rfl (fun X hX=>(aj (off:=0) (by kernel_rfl) (h123.ev rfl) rfl)) fun _ h124=>?_;refine ax h124 (ag h124 _ rfl rfl rfl gc85) rfl rfl (fun X hX=>(aw (by kernel_rfl) (h124.ev rfl) ((a7 aJ ((S114.grow hX).rd0 hr) hkl) 0 _ rfl))) fun _ h125=>?_;refine ax h125 (ag h125 _ rfl rfl rfl gc85) rfl rfl (fun X hX=>(bb (v':=.bool (l[i].e.p != i6 l (cZ l i l[i].e.t).toNat)) (by rw[hkk]) (a8 (h125.ev rfl) (h125.ev rfl)))) fun _ h126=>?_;refine qv h126 (fun X hX=>aA (h126.ev rfl) gc85 (h126.ev rfl)) fun _ h127=>?_;exact aI (h127.mid (m:=[(_,_),(_,_),(_,_),(_,_),(_,_),(_,_),(_,_),(_,_)]) rfl)
             case hf=>
              intro gc85;refine qo h118 rfl rfl rfl gc85 rfl rfl fun _ h128=>?_;refine qo h128 rfl rfl rfl gc85 rfl rfl fun _ h129=>?_;refine qo h129 rfl rfl rfl gc85 rfl rfl fun _ h130=>?_;refine qo h130 rfl rfl rfl gc85 rfl rfl fun _ h131=>?_;refine qo h131 rfl rfl rfl gc85 rfl rfl fun _ h132=>?_;refine qo h132 rfl rfl rfl gc85 rfl rfl fun _ h133=>?_;refine qo h133 rfl rfl rfl gc85 rfl rfl fun _ h134=>?_;refine qo h134 rfl rfl rfl gc85 rfl rfl fun _ h135=>?_;refine qv h135 (fun X hX=>aD (h135.ev rfl) gc85 (h135.ev rfl)) fun _ h136=>?_;exact aI (h136.mid (m:=[(_,_),(_,_),(_,_),(_,_),(_,_),(_,_),(_,_),(_,_)]) rfl)
             case h=>
              intro _ h137;refine aI ?_;refine bF fun _ hX138 hΦ138=>?_;have S138:=S114.grow hX138;refine ma h137 rfl rfl fun _ h139=>?_;refine ae (aa ?_)
              have hg:jE l (bP l l[i].e.t i) l[i].e.p=(!(decide (cZ l i l[i].e.t<0)||(ed l (cZ l i l[i].e.t).toNat==4))&&(l[i].e.p != i6 l (cZ l i l[i].e.t).toNat)):=by rw[hgap,hc3,hc4];rfl
              replace h139:=Has.also h139 (t:=59) (v:=.bool (jE l (bP l l[i].e.t i) l[i].e.p)) (by rw[hg];rfl);exact⟨h139.re ⟨rfl,rfl,rfl,rfl,rfl,rfl,rfl,rfl,trivial⟩,S138⟩
            case hB=>kernel_rfl
            case hst=>rfl
       ·
        refine aa ?_;refine aB (h96.ev rfl) (fun hc5=>?_) (fun hc5=>?_)
        ·
         rw[if_pos hc5] at hE;refine ab (ah ?_);refine ma h96 rfl rfl fun _ h140=>?_;refine ae (aa (wp_ret (az (ai ?_))));refine bm h140 rfl rfl ?_;exact⟨by first | (rw[hE];done) | (rw[hE];rfl),S96.below⟩
        ·
         rw[if_neg (by rw[hc5];decide)] at hE;refine wp_skip (aO (aa (ab (ah ?_))));refine ma h96 rfl rfl fun _ h141=>?_;refine ae (aa (ab (ab (ah ?_))));refine mv h141 rfl rfl fun _ h142=>?_;refine sv h142 (bL (h142.ev rfl)) fun _ h143=>?_;refine ae (aa ?_);replace h143:=(h143.re ⟨rfl,rfl,rfl,rfl,rfl,rfl,rfl,rfl,rfl,trivial⟩:Has _ _ _ [(96,_),(11,_),(10,_),(9,_),(6,_),(5,_),(4,_),(0,_),(1,_)]);refine eH h143 S96 [(11,.int .i64 (cH l (bP l l[i].e.t i)))] [10,9,6,5,4,0,1] ?_ (fun _ _ h144 S144=>?_)
         ·
          refine aB (h143.ev rfl) (fun hc6=>?_) (fun hc6=>?_)
          ·
           have hfr:s8 l (cZ l i l[i].e.t)=false:=(Bool.not_eq_true' _).mp hc6;obtain⟨k,hki,hbk,hbh,_⟩:=kJ (l:=l) (i:=i) (t:=l[i].e.t) hfr
           have hkl:k<l.length:=by omega
           refine ah ?_;refine mv h143 rfl rfl fun _ h145=>?_;refine mv h145 rfl rfl fun _ h146=>?_;refine sv h146 (aC (i:=k) (sz:=14) Tryz.underlying41 (by kernel_rfl) (h146.ev rfl) (h146.ev rfl) (by omega) (by omega) rfl) fun _ h147=>?_;refine sv h147 (aj (off:=1) (by kernel_rfl) (h147.ev rfl) rfl) fun _ h148=>?_;refine sv h148 (aj (off:=0) (by kernel_rfl) (h148.ev rfl) rfl) fun _ h149=>?_;refine sv h149 (aw (by kernel_rfl) (h149.ev rfl) ((a7 aJ (S96.rd0 hr) hkl) 1 _ rfl)) fun _ h150=>?_;refine ma h150 rfl rfl fun _ h151=>?_;refine ae (aa ?_)
           have hq:cH l (bP l l[i].e.t i)=l[k].e.k:=by rw[hlst,hfr,hbk,Int.toNat_natCast,if_neg (by decide),gC hkl]
           replace h151:=Has.also h151 (t:=11) (v:=.int .i64 (cH l (bP l l[i].e.t i))) (by rw[hq];rfl);exact⟨h151.re ⟨rfl,rfl,rfl,rfl,rfl,rfl,rfl,rfl,trivial⟩,S96⟩
          ·
           have hfr:s8 l (cZ l i l[i].e.t)=true:=(Bool.not_eq_false' _).mp hc6;refine wp_skip (aa ?_)
           have hq:cH l (bP l l[i].e.t i)=0:=by rw[hlst,hfr];rfl
           replace h143:=Has.also h143 (t:=11) (v:=.int .i64 (cH l (bP l l[i].e.t i))) (by rw[hq];rfl);exact⟨h143.re ⟨rfl,rfl,rfl,rfl,rfl,rfl,rfl,rfl,trivial⟩,S96⟩
         ·
          refine aa (ab (ab (ah ?_)));refine mv h144 rfl rfl fun _ h152=>?_;refine ae (aa (wp_block (ab (ah ?_))));refine sv h152 (aX (h152.ev rfl) (h152.ev rfl)) fun _ h153=>?_;refine ma h153 rfl rfl fun _ h154=>?_;refine ae (aa ?_);replace h154:=(h154.re ⟨rfl,rfl,rfl,rfl,rfl,rfl,rfl,rfl,rfl,trivial⟩:Has _ _ _ [(104,_),(103,_),(10,_),(9,_),(6,_),(5,_),(4,_),(0,_),(1,_)]);refine xa (F:=¬(cH l (bP l l[i].e.t i)=2∧l[i].e.k≠4)∧¬((cH l (bP l l[i].e.t i)=3∨cH l (bP l l[i].e.t i)=1)∧l[i].e.k≠1∧l[i].e.k≠4)) h154 S144 [] [10,9,6,5,0,1] ?_ (fun _ _ h155 S155 hst=>?_)
          ·
           refine aB (h154.ev rfl) (fun hc7=>?_) (fun hc7=>?_)
           ·
            have h2:cH l (bP l l[i].e.t i)=2:=by simpa using hc7
            refine ab (ah ?_);refine vf h154 0 0 rfl rfl rfl fun _ h156=>?_;refine vl h156 S144 0 rfl rfl rfl rfl fun _ h157=>?_;refine sv h157 (a8 (h157.ev rfl) (h157.ev rfl)) fun _ h158=>?_;refine ae (aa ?_);refine aB (h158.ev rfl) (fun hc8=>?_) (fun hc8=>?_)
            ·
             rw[if_pos ⟨h2,by simpa using hc8⟩] at hE;refine ab (ah ?_);refine ma h158 rfl rfl fun _ h159=>?_;refine ae (aa (wp_ret (ai (az (ai ?_)))));refine bm h159 rfl rfl ?_;exact⟨by first | (rw[hE];done) | (rw[hE];rfl),S144.below⟩
            ·
             refine wp_skip (aa ?_);have hst:¬(cH l (bP l l[i].e.t i)=2∧l[i].e.k≠4)∧¬((cH l (bP l l[i].e.t i)=3∨cH l (bP l l[i].e.t i)=1)∧l[i].e.k≠1∧l[i].e.k≠4):=⟨fun q=>q.2 (by simpa using hc8),fun q=>by omega⟩;exact⟨h158.re ⟨rfl,rfl,rfl,rfl,rfl,rfl,trivial⟩,S144,hst⟩
           ·
            have h2:cH l (bP l l[i].e.t i)≠2:=by simpa using hc7
            refine ab (ab (ah ?_));refine sv h154 (aX (h154.ev rfl) (h154.ev rfl)) fun _ h160=>?_;refine ma h160 rfl rfl fun _ h161=>?_;refine ae (aa ?_);replace h161:=(h161.re ⟨rfl,rfl,rfl,rfl,rfl,rfl,rfl,rfl,rfl,trivial⟩:Has _ _ _ [(109,_),(103,_),(10,_),(9,_),(6,_),(5,_),(4,_),(0,_),(1,_)]);refine eH h161 S144 [(109,.bool (cH l (bP l l[i].e.t i)==3||cH l (bP l l[i].e.t i)==1))] [10,9,6,5,4,0,1] ?_ (fun _ _ h162 S162=>?_)
            ·
             refine aB (h161.ev rfl) (fun hc9=>?_) (fun hc9=>?_)
             ·
              refine wp_skip (aa ?_);replace h161:=Has.also h161 (t:=109) (v:=.bool (cH l (bP l l[i].e.t i)==3||cH l (bP l l[i].e.t i)==1)) (by rw[hc9];rfl);exact⟨h161.re ⟨rfl,rfl,rfl,rfl,rfl,rfl,rfl,rfl,trivial⟩,S144⟩
             ·
              refine ah ?_;refine sv h161 (aX (h161.ev rfl) (h161.ev rfl)) fun _ h163=>?_;refine ma h163 rfl rfl fun _ h164=>?_;refine ae (aa ?_);replace h164:=Has.also h164 (t:=109) (v:=.bool (cH l (bP l l[i].e.t i)==3||cH l (bP l l[i].e.t i)==1)) (by rw[hc9];rfl);exact⟨h164.re ⟨rfl,rfl,rfl,rfl,rfl,rfl,rfl,rfl,trivial⟩,S144⟩
            ·
             refine aa ?_;refine aB (h162.ev rfl) (fun hc10=>?_) (fun hc10=>?_)
             ·
              refine ab (ah ?_);refine vf h162 0 0 rfl rfl rfl fun _ h165=>?_;refine vl h165 S162 0 rfl rfl rfl rfl fun _ h166=>?_;refine sv h166 (a8 (h166.ev rfl) (h166.ev rfl)) fun _ h167=>?_;refine mv h167 rfl rfl fun _ h168=>?_;apply cq h168 S162 115 rfl 4 119
              case ht=>
               intro gc115;refine sy h168 rfl rfl rfl gc115 (aj (off:=0) (j:=0) (by kernel_rfl) (h168.ev rfl) rfl) rfl rfl fun _ h169=>?_;refine sy h169 rfl rfl rfl gc115 (aw (by kernel_rfl) (h169.ev rfl) (S162.cell (i:=0) rfl rfl)) rfl rfl fun _ h170=>?_;refine sy h170 rfl rfl rfl gc115 (a8 (h170.ev rfl) (h170.ev rfl)) rfl rfl fun _ h171=>?_;refine sv h171 (aA (h171.ev rfl) gc115 (h171.ev rfl)) fun _ h172=>?_;exact ae ⟨h172.mid (m:=[(_,_),(_,_),(_,_)]) rfl,S162⟩
              case hf=>
               intro gc115;refine no h168 rfl rfl rfl gc115 rfl rfl fun _ h173=>?_;refine no h173 rfl rfl rfl gc115 rfl rfl fun _ h174=>?_;refine no h174 rfl rfl rfl gc115 rfl rfl fun _ h175=>?_;refine sv h175 (aD (h175.ev rfl) gc115 (h175.ev rfl)) fun _ h176=>?_;exact ae ⟨h176.mid (m:=[(_,_),(_,_),(_,_)]) rfl,S162⟩
              case h=>
               rintro a177 X177 ⟨h177,S177⟩
               refine ae (aa ?_);refine aB (h177.ev rfl) (fun hc11=>?_) (fun hc11=>?_)
               ·
                rw[if_neg (fun q=>h2 q.1),if_pos ⟨by simpa using hc10,by simpa using hc11⟩] at hE;refine ab (ah ?_);refine ma h177 rfl rfl fun _ h178=>?_;refine ae (aa (wp_ret (ai (az (ai ?_)))));refine bm h178 rfl rfl ?_;exact⟨by first | (rw[hE];done) | (rw[hE];rfl),S177.below⟩
               ·
                refine wp_skip (aa ?_)
                have hst:¬(cH l (bP l l[i].e.t i)=2∧l[i].e.k≠4)∧¬((cH l (bP l l[i].e.t i)=3∨cH l (bP l l[i].e.t i)=1)∧l[i].e.k≠1∧l[i].e.k≠4):=⟨fun q=>h2 q.1,fun q=>by
                 rw[show(l[i].e.k != 1)=true by simpa using q.2.1,show(l[i].e.k != 4)=true by simpa using q.2.2] at hc11
                 cases hc11⟩
                exact⟨h177.re ⟨rfl,rfl,rfl,rfl,rfl,rfl,trivial⟩,S177,hst⟩
             ·
              refine wp_skip (aa ?_)
              have hst:¬(cH l (bP l l[i].e.t i)=2∧l[i].e.k≠4)∧¬((cH l (bP l l[i].e.t i)=3∨cH l (bP l l[i].e.t i)=1)∧l[i].e.k≠1∧l[i].e.k≠4):=⟨fun q=>h2 q.1,fun q=>by
               have:=q.1;simp only[Bool.or_eq_false_iff,beq_eq_false_iff_ne] at hc10;rcases this with h | h
               · exact hc10.1 h
               · exact hc10.2 h⟩
              exact⟨h162.re ⟨rfl,rfl,rfl,rfl,rfl,rfl,trivial⟩,S162,hst⟩
          ·
           rw[if_neg hst.1,if_neg hst.2] at hE;refine aO (aa (ab (ab (ah ?_))));refine vf h155 0 0 rfl rfl rfl fun _ h179=>?_;refine vl h179 S155 0 rfl rfl rfl rfl fun _ h180=>?_;refine sv h180 (a8 (h180.ev rfl) (h180.ev rfl)) fun _ h181=>?_;refine ae (aa ?_);refine aB (h181.ev rfl) (fun hc12=>?_) (fun hc12=>?_)
           ·
            rw[if_pos (by simpa using hc12)] at hE;refine ab (ah ?_);refine ma h181 rfl rfl fun _ h182=>?_;refine ae (aa (wp_ret (ai ?_)));refine bm h182 rfl rfl ?_;exact⟨by first | (rw[hE];done) | (rw[hE];rfl),S155.below⟩
           ·
            rw[if_neg (by simpa using hc12)] at hE;refine wp_skip (aa (ab (ah ?_)));refine ma h181 rfl rfl fun _ h183=>?_;refine ae (aa (ab (ab (ah ?_))));refine mv h183 rfl rfl fun _ h184=>?_;refine sv h184 (bL (h184.ev rfl)) fun _ h185=>?_;refine ae (aa ?_);replace h185:=(h185.re ⟨rfl,rfl,rfl,rfl,rfl,rfl,rfl,trivial⟩:Has _ _ _ [(124,_),(12,_),(9,_),(6,_),(5,_),(0,_),(1,_)]);refine eH h185 S155 [(12,.int .i64 (jK l (bP l l[i].e.t i) l[i].e.p))] [6,5,0,1] ?_ (fun _ _ h186 S186=>?_)
            ·
             refine aB (h185.ev rfl) (fun hc13=>?_) (fun hc13=>?_)
             ·
              have hfr:s8 l (cZ l i l[i].e.t)=false:=(Bool.not_eq_true' _).mp hc13;obtain⟨k,hki,hbk,hbh,_⟩:=kJ (l:=l) (i:=i) (t:=l[i].e.t) hfr
              have hkl:k<l.length:=by omega
              refine ah ?_;refine mv h185 rfl rfl fun _ h187=>?_;refine sv h187 (bb (v':=.int .i64 (k:Nat)) (by rw[hbk]) (ak (h187.ev rfl))) fun _ h188=>?_;refine aS h188 (wn rfl) (aq (fun _ _=>by kernel_rfl) (h188.evs rfl) rfl) rfl rfl S155 (tZ l k hkl _ c _ (S155.rd0 hr) (by omega)) fun _ _ h189 S189=>?_;refine ma h189 rfl rfl fun _ h190=>?_;refine ae (aa ?_)
              have hq:jK l (bP l l[i].e.t i) l[i].e.p=gW l k:=by rw[hund,hfr,hbk,Int.toNat_natCast,if_neg (by decide)]
              replace h190:=Has.also h190 (t:=12) (v:=.int .i64 (jK l (bP l l[i].e.t i) l[i].e.p)) (by rw[hq];rfl);exact⟨h190.re ⟨rfl,rfl,rfl,rfl,rfl,trivial⟩,S189⟩
             ·
              have hfr:s8 l (cZ l i l[i].e.t)=true:=(Bool.not_eq_false' _).mp hc13;refine ab (ah ?_);refine vf h185 2 2 rfl rfl rfl fun _ h191=>?_;refine vl h191 S155 0 rfl rfl rfl rfl fun _ h192=>?_;refine sv h192 (aX (h192.ev rfl) (h192.ev rfl)) fun _ h193=>?_;refine ae (aa ?_);refine aB (h193.ev rfl) (fun hc14=>?_) (fun hc14=>?_)
              ·
               refine ah ?_;refine ma h193 rfl rfl fun _ h194=>?_;refine ae (aa ?_)
               have hq:jK l (bP l l[i].e.t i) l[i].e.p=0:=by rw[hund,hfr,if_pos rfl,if_pos (by simpa using hc14)]
               replace h194:=Has.also h194 (t:=12) (v:=.int .i64 (jK l (bP l l[i].e.t i) l[i].e.p)) (by rw[hq];rfl);exact⟨h194.re ⟨rfl,rfl,rfl,rfl,rfl,trivial⟩,S155⟩
              ·
               refine wp_skip (aa ?_)
               have hq:jK l (bP l l[i].e.t i) l[i].e.p = -1:=by rw[hund,hfr,if_pos rfl,if_neg (by simpa using hc14)]
               replace h193:=Has.also h193 (t:=12) (v:=.int .i64 (jK l (bP l l[i].e.t i) l[i].e.p)) (by rw[hq];rfl);exact⟨h193.re ⟨rfl,rfl,rfl,rfl,rfl,trivial⟩,S155⟩
            ·
             clear hund;generalize jK l (bP l l[i].e.t i) l[i].e.p=n at h186 hE;refine aa (ab (ab (ah ?_)));refine mv h186 rfl rfl fun _ h195=>?_;refine sv h195 (aX (h195.ev rfl) (h195.ev rfl)) fun _ h196=>?_;refine ae (aa ?_);refine aB (h196.ev rfl) (fun hc15=>?_) (fun hc15=>?_)
             ·
              have hn0:n=0:=by simpa using hc15
              have hE:E=13:=by rw[hE];unfold kp;rw[if_pos hn0]
              refine ab (ah ?_);refine ma h196 rfl rfl fun _ h197=>?_;refine ae (aa (wp_ret (ai ?_)));refine bm h197 rfl rfl ?_;exact⟨by first | (rw[hE];done) | (rw[hE];rfl),S186.below⟩
             ·
              have hn0:n≠0:=by simpa using hc15
              refine wp_skip (aa (ab (ah ?_)));refine ma h196 rfl rfl fun _ h198=>?_;refine ae (aa (ab (ab (ah ?_))));refine mv h198 rfl rfl fun _ h199=>?_;refine sv h199 (a8 (h199.ev rfl) (h199.ev rfl)) fun _ h200=>?_;refine ae (aa ?_);replace h200:=(h200.re ⟨rfl,rfl,rfl,rfl,rfl,rfl,rfl,trivial⟩:Has _ _ _ [(134,_),(13,_),(12,_),(6,_),(5,_),(0,_),(1,_)]);refine eH h200 S186 [(13,.int .i64 (lA Rcd.l n (l.take i) 0))] [6,5,0] ?_ (fun _ _ h201 S201=>?_)
              ·
               refine aB (h200.ev rfl) (fun hc16=>?_) (fun hc16=>?_)
               ·
                refine ah ?_;refine mv h200 rfl rfl fun _ h202=>?_;refine mv h202 rfl rfl fun _ h203=>?_;refine sv h203 (gH (l:=0) (h:=i) (sz:=14) Tryz.underlying41 (by kernel_rfl) (h203.ev rfl) rfl (h203.ev rfl) (by omega) (by omega) (.inr rfl) rfl) fun _ h204=>?_;refine mv h204 rfl rfl fun _ h205=>?_;refine aS h205 (wn rfl) (aq (fun _ _=>by kernel_rfl) (h205.evs rfl) rfl) rfl rfl S186 (hlti▸zF (l.take i) n _ c _ (S186.rd0 hrt) (by omega)) fun _ _ h206 S206=>?_;refine ma h206 rfl rfl fun _ h207=>?_;refine ae (aa ?_);exact⟨h207.re ⟨rfl,rfl,rfl,rfl,trivial⟩,S206⟩
               ·
                refine wp_skip (aa ?_)
                have hn1:n = -1:=by simpa using hc16
                replace h200:=Has.also h200 (t:=13) (v:=.int .i64 (lA Rcd.l n (l.take i) 0)) (by rw[AL hv (by omega)];rfl);exact⟨h200.re ⟨rfl,rfl,rfl,rfl,trivial⟩,S186⟩
              ·
               refine aa (ab (ab (ah ?_)));refine mv h201 rfl rfl fun _ h208=>?_;refine sv h208 (bq (h208.ev rfl) (h208.ev rfl)) fun _ h209=>?_;refine ae (aa ?_);refine aB (h209.ev rfl) (fun hc17=>?_) (fun hc17=>?_)
               ·
                have hnf:eE (l.take i) n=none:=jM (of_decide_eq_true hc17);unfold kp at hE;rw[if_neg hn0,hnf] at hE;simp only[] at hE;refine ab (ab (ah ?_));refine vf h209 3 3 rfl rfl rfl fun _ h210=>?_;refine vl h210 S201 0 rfl rfl rfl rfl fun _ h211=>?_;refine mv h211 rfl rfl fun _ h212=>?_;refine sv h212 (jx (h212.ev rfl) (h212.ev rfl)) fun _ h213=>?_;refine ae (aa ?_);refine aB (h213.ev rfl) (fun hc18=>?_) (fun hc18=>?_)
                ·
                 rw[if_pos (by have:=of_decide_eq_true hc18;omega)] at hE;refine ab (ah ?_);refine ma h213 rfl rfl fun _ h214=>?_;refine ae (aa (wp_ret (ai (ai ?_))));refine bm h214 rfl rfl ?_;exact⟨by first | (rw[hE];done) | (rw[hE];rfl),S201.below⟩
                ·
                 rw[if_neg (by have:=of_decide_eq_false hc18;omega)] at hE;refine wp_skip (aa (ab (ah ?_)));refine ma h213 rfl rfl fun _ h215=>?_;refine ae (aa (wp_ret (ai ?_)));refine bm h215 rfl rfl ?_;exact⟨by first | (rw[hE];done) | (rw[hE];rfl),S201.below⟩
               ·
                obtain⟨k,hk,hik,_,hfk⟩:=jI (of_decide_eq_false hc17);rw[Nat.zero_add] at hik
                have hki:k<i:=by omega
                have hkl:k<l.length:=by omega
                have hge:(l.take i)[k]=l[k]:=List.getElem_take ..;have hE:=hE.trans (vW (u:=l[k]) hn0 (hge▸hfk));have hoE:dq l[k].e.o=0:=px (hv.e0 hki).2.2;refine wp_skip (aa (ab (ah ?_)));refine mv h209 rfl rfl fun _ h216=>?_;refine mv h216 rfl rfl fun _ h217=>?_;refine sv h217 (aC (i:=k) (sz:=14) Tryz.underlying41 (by kernel_rfl) (h217.ev rfl) (h217.ev rfl) (by omega) (by omega) rfl) fun _ h218=>?_;refine sv h218 (aj (off:=1) (by kernel_rfl) (h218.ev rfl) rfl) fun _ h219=>?_;refine sv (v:=dz l[k].e) h219 (ay (by kernel_rfl) (by kernel_rfl) (h219.ev rfl) (dJ (S201.rd0 hr) hkl)) fun _ h220=>?_;refine na (.agg #[.int .i64 0,.int .i64 0,.int .i64 0,.int .i64 0,.int .i64 0,.bool false,.int .i64 0,.int .i64 0,.int .i64 0,.int .i64 0,.string ⟨#[]⟩,.string ⟨#[]⟩,.string ⟨#[]⟩]) h220 rfl S201 fun b14 _ _ gb14 h221 S221=>?_;refine aG h221 (wn rfl) ⟨rfl,rfl⟩ (h221.ev rfl) (h221.ev rfl) rfl (by kernel_rfl) S221 (i:=0) rfl rfl rfl fun _ S222=>?_;refine ae (aa (ab (ab ?_)));apply bA h221 [false,false,false,false,false,false,false,false,false,false,false,false,false,false,false,false,false,false,false,false,false,false,false,false,false,false,false,false,false,false,false,false,false,false,false,false,false,false] _ (by kernel_rfl)
                case h=>
                 refine qv h221 (fun X hX=>aj (off:=0) (j:=0) (by kernel_rfl) (h221.ev rfl) rfl) fun _ h223=>?_;refine qv h223 (fun X hX=>aw (by kernel_rfl) (h223.ev rfl) ((S222.grow hX).cell (i:=0) rfl rfl)) fun _ h224=>?_;refine qv h224 (fun X hX=>a8 (h224.ev rfl) (h224.ev rfl)) fun _ h225=>?_;refine qv h225 (fun X hX=>ak (h225.ev rfl)) fun _ h226=>?_;apply jg (x:=l[k].e.t != l[i].e.t) h226 154 rfl 6 160
                 case hf=>
                  intro gc154;refine ax h226 (ag h226 _ rfl rfl rfl gc154) rfl rfl (fun X hX=>(aj (off:=1) (j:=1) (by kernel_rfl) (h226.ev rfl) rfl)) fun _ h227=>?_;refine ax h227 (ag h227 _ rfl rfl rfl gc154) rfl rfl (fun X hX=>(aw (by kernel_rfl) (h227.ev rfl) ((S222.grow hX).cell (i:=0) rfl rfl))) fun _ h228=>?_;refine ax h228 (ag h228 _ rfl rfl rfl gc154) rfl rfl (fun X hX=>(aj (off:=1) (j:=1) (by kernel_rfl) (h228.ev rfl) rfl)) fun _ h229=>?_;refine ax h229 (ag h229 _ rfl rfl rfl gc154) rfl rfl (fun X hX=>(aw (by kernel_rfl) (h229.ev rfl) ((S222.grow hX).cell (i:=1) rfl rfl))) fun _ h230=>?_;refine ax h230 (ag h230 _ rfl rfl rfl gc154) rfl rfl (fun X hX=>(a8 (h230.ev rfl) (h230.ev rfl))) fun _ h231=>?_;refine qv h231 (fun X hX=>aD (h231.ev rfl) gc154 (h231.ev rfl)) fun _ h232=>?_;exact aI (h232.mid (m:=[(_,_),(_,_),(_,_),(_,_),(_,_)]) rfl)
                 case ht=>
                  intro gc154;refine qo h226 rfl rfl rfl gc154 rfl rfl fun _ h233=>?_;refine qo h233 rfl rfl rfl gc154 rfl rfl fun _ h234=>?_;refine qo h234 rfl rfl rfl gc154 rfl rfl fun _ h235=>?_;refine qo h235 rfl rfl rfl gc154 rfl rfl fun _ h236=>?_;refine qo h236 rfl rfl rfl gc154 rfl rfl fun _ h237=>?_;refine qv h237 (fun X hX=>aA (h237.ev rfl) gc154 (h237.ev rfl)) fun _ h238=>?_;exact aI (h238.mid (m:=[(_,_),(_,_),(_,_),(_,_),(_,_)]) rfl)
                 case h=>
                  intro _ h239;refine qv h239 (fun X hX=>ak (h239.ev rfl)) fun _ h240=>?_;apply jg (x:=l[i].e.x != l[k].e.p) h240 161 rfl 6 167
                  case hf=>
                   intro gc161;refine ax h240 (ag h240 _ rfl rfl rfl gc161) rfl rfl (fun X hX=>(aj (off:=3) (j:=3) (by kernel_rfl) (h240.ev rfl) rfl)) fun _ h241=>?_;refine ax h241 (ag h241 _ rfl rfl rfl gc161) rfl rfl (fun X hX=>(aw (by kernel_rfl) (h241.ev rfl) ((S222.grow hX).cell (i:=1) rfl rfl))) fun _ h242=>?_;refine ax h242 (ag h242 _ rfl rfl rfl gc161) rfl rfl (fun X hX=>(aj (off:=2) (j:=2) (by kernel_rfl) (h242.ev rfl) rfl)) fun _ h243=>?_;refine ax h243 (ag h243 _ rfl rfl rfl gc161) rfl rfl (fun X hX=>(aw (by kernel_rfl) (h243.ev rfl) ((S222.grow hX).cell (i:=0) rfl rfl))) fun _ h244=>?_;refine ax h244 (ag h244 _ rfl rfl rfl gc161) rfl rfl (fun X hX=>(a8 (h244.ev rfl) (h244.ev rfl))) fun _ h245=>?_;refine qv h245 (fun X hX=>aD (h245.ev rfl) gc161 (h245.ev rfl)) fun _ h246=>?_;exact aI (h246.mid (m:=[(_,_),(_,_),(_,_),(_,_),(_,_)]) rfl)
                  case ht=>
                   intro gc161;refine qo h240 rfl rfl rfl gc161 rfl rfl fun _ h247=>?_;refine qo h247 rfl rfl rfl gc161 rfl rfl fun _ h248=>?_;refine qo h248 rfl rfl rfl gc161 rfl rfl fun _ h249=>?_;refine qo h249 rfl rfl rfl gc161 rfl rfl fun _ h250=>?_;refine qo h250 rfl rfl rfl gc161 rfl rfl fun _ h251=>?_;refine qv h251 (fun X hX=>aA (h251.ev rfl) gc161 (h251.ev rfl)) fun _ h252=>?_;exact aI (h252.mid (m:=[(_,_),(_,_),(_,_),(_,_),(_,_)]) rfl)
                  case h=>
                   intro _ h253;refine qv h253 (fun X hX=>ak (h253.ev rfl)) fun _ h254=>?_;apply jg (x:=l[i].e.g != l[k].e.g) h254 168 rfl 6 174
                   case hf=>
                    intro gc168;refine ax h254 (ag h254 _ rfl rfl rfl gc168) rfl rfl (fun X hX=>(aj (off:=4) (j:=4) (by kernel_rfl) (h254.ev rfl) rfl)) fun _ h255=>?_;refine ax h255 (ag h255 _ rfl rfl rfl gc168) rfl rfl (fun X hX=>(aw (by kernel_rfl) (h255.ev rfl) ((S222.grow hX).cell (i:=1) rfl rfl))) fun _ h256=>?_;refine ax h256 (ag h256 _ rfl rfl rfl gc168) rfl rfl (fun X hX=>(aj (off:=4) (j:=4) (by kernel_rfl) (h256.ev rfl) rfl)) fun _ h257=>?_;refine ax h257 (ag h257 _ rfl rfl rfl gc168) rfl rfl (fun X hX=>(aw (by kernel_rfl) (h257.ev rfl) ((S222.grow hX).cell (i:=0) rfl rfl))) fun _ h258=>?_;refine ax h258 (ag h258 _ rfl rfl rfl gc168) rfl rfl (fun X hX=>(a8 (h258.ev rfl) (h258.ev rfl))) fun _ h259=>?_;refine qv h259 (fun X hX=>aD (h259.ev rfl) gc168 (h259.ev rfl)) fun _ h260=>?_;exact aI (h260.mid (m:=[(_,_),(_,_),(_,_),(_,_),(_,_)]) rfl)
                   case ht=>
                    intro gc168;refine qo h254 rfl rfl rfl gc168 rfl rfl fun _ h261=>?_;refine qo h261 rfl rfl rfl gc168 rfl rfl fun _ h262=>?_;refine qo h262 rfl rfl rfl gc168 rfl rfl fun _ h263=>?_;refine qo h263 rfl rfl rfl gc168 rfl rfl fun _ h264=>?_;refine qo h264 rfl rfl rfl gc168 rfl rfl fun _ h265=>?_;refine qv h265 (fun X hX=>aA (h265.ev rfl) gc168 (h265.ev rfl)) fun _ h266=>?_;exact aI (h266.mid (m:=[(_,_),(_,_),(_,_),(_,_),(_,_)]) rfl)
                   case h=>
                    intro _ h267;refine qv h267 (fun X hX=>ak (h267.ev rfl)) fun _ h268=>?_;apply jg (x:=l[i].e.f != l[k].e.f) h268 175 rfl 6 181
                    case hf=>
                     intro gc175;refine ax h268 (ag h268 _ rfl rfl rfl gc175) rfl rfl (fun X hX=>(aj (off:=5) (j:=5) (by kernel_rfl) (h268.ev rfl) rfl)) fun _ h269=>?_;refine ax h269 (ag h269 _ rfl rfl rfl gc175) rfl rfl (fun X hX=>(aw (by kernel_rfl) (h269.ev rfl) ((S222.grow hX).cell (i:=1) rfl rfl))) fun _ h270=>?_;refine ax h270 (ag h270 _ rfl rfl rfl gc175) rfl rfl (fun X hX=>(aj (off:=5) (j:=5) (by kernel_rfl) (h270.ev rfl) rfl)) fun _ h271=>?_;refine ax h271 (ag h271 _ rfl rfl rfl gc175) rfl rfl (fun X hX=>(aw (by kernel_rfl) (h271.ev rfl) ((S222.grow hX).cell (i:=0) rfl rfl))) fun _ h272=>?_;refine ax h272 (ag h272 _ rfl rfl rfl gc175) rfl rfl (fun X hX=>(jV Tryz.underlying4 (h272.ev rfl) (h272.ev rfl))) fun _ h273=>?_;refine qv h273 (fun X hX=>aD (h273.ev rfl) gc175 (h273.ev rfl)) fun _ h274=>?_;exact aI (h274.mid (m:=[(_,_),(_,_),(_,_),(_,_),(_,_)]) rfl)
                    case ht=>
                     intro gc175;refine qo h268 rfl rfl rfl gc175 rfl rfl fun _ h275=>?_;refine qo h275 rfl rfl rfl gc175 rfl rfl fun _ h276=>?_;refine qo h276 rfl rfl rfl gc175 rfl rfl fun _ h277=>?_;refine qo h277 rfl rfl rfl gc175 rfl rfl fun _ h278=>?_;refine qo h278 rfl rfl rfl gc175 rfl rfl fun _ h279=>?_;refine qv h279 (fun X hX=>aA (h279.ev rfl) gc175 (h279.ev rfl)) fun _ h280=>?_;exact aI (h280.mid (m:=[(_,_),(_,_),(_,_),(_,_),(_,_)]) rfl)
                    case h=>
                     intro _ h281;refine qv h281 (fun X hX=>ak (h281.ev rfl)) fun _ h282=>?_;apply lD h282 182 rfl 6 188
                     case ht=>
                      intro gc182;refine qo h282 rfl rfl rfl gc182 rfl rfl fun _ h283=>?_;refine qo h283 rfl rfl rfl gc182 rfl rfl fun _ h284=>?_;refine qo h284 rfl rfl rfl gc182 rfl rfl fun _ h285=>?_;refine qo h285 rfl rfl rfl gc182 rfl rfl fun _ h286=>?_;refine qo h286 rfl rfl rfl gc182 rfl rfl fun _ h287=>?_;refine qo h287 rfl rfl rfl gc182 rfl rfl fun _ h288=>?_;exact aI ⟨_,h288.mid (m:=[(_,_),(_,_),(_,_),(_,_),(_,_)]) rfl⟩
                     case hf=>
                      intro gc182;refine ax h282 (ag h282 _ rfl rfl rfl gc182) rfl rfl (fun X hX=>(aj (off:=6) (j:=6) (by kernel_rfl) (h282.ev rfl) rfl)) fun _ h289=>?_;refine ax (v:=eQ l[i].e.o) h289 (ag h289 _ rfl rfl rfl gc182) rfl rfl (fun X hX=>(ay (by kernel_rfl) (by kernel_rfl) (h289.ev rfl) ((S222.grow hX).cellsOf (i:=1) rfl 6 6))) fun _ h290=>?_;refine ax h290 (ag h290 _ rfl rfl rfl gc182) rfl rfl (fun X hX=>(aj (off:=6) (j:=6) (by kernel_rfl) (h290.ev rfl) rfl)) fun _ h291=>?_;refine ax (v:=eQ l[k].e.o) h291 (ag h291 _ rfl rfl rfl gc182) rfl rfl (fun X hX=>(ay (by kernel_rfl) (by kernel_rfl) (h291.ev rfl) ((S222.grow hX).cellsOf (i:=0) rfl 6 6))) fun _ h292=>?_;refine df h292 (ag h292 _ rfl rfl rfl gc182) rfl rfl (fun X=>(aq (fun _ _=>by kernel_rfl) (h292.evs rfl) rfl)) (fun X hX=>mN l[k].e.o _ hoE) fun _ h293=>?_;refine ax h293 (ag h293 _ rfl rfl rfl gc182) rfl rfl (fun X hX=>(bb (v':=.bool (!(decide (l[i].e.o=jb l[k].e.o)))) (by rw[←xe]) (ti (ks:=[.i .i64,.i .i64,.i .i64,.i .i64,.s,.s]) (by kernel_rfl) Tryz.underlying141 (by kernel_rfl) (h293.ev rfl) (h293.ev rfl) rfl rfl))) fun _ h294=>?_;exact aI (h294.mid (m:=[(_,_),(_,_),(_,_),(_,_),(_,_)]) rfl)
                     case h=>
                      intro v295 _ hg188 h295;refine aI ?_;refine bF fun _ hX296 hΦ296=>?_;have S296:=S222.grow hX296;refine sv h295 (ij (h295.ev rfl) (h295.ev rfl) (h295.ev rfl) hg188) fun _ h297=>?_;refine ae (aa ?_);refine aB (h297.ev rfl) (fun hc19=>?_) (fun hc19=>?_)
                      ·
                       rw[if_pos (show xv l[i].e l[k].e=true from hc19)] at hE;refine ab (ah ?_);refine ma h297 rfl rfl fun _ h298=>?_;refine ae (aa (wp_ret (ai ?_)));refine bm h298 rfl rfl ?_;exact⟨by first | (rw[hE];done) | (rw[hE];rfl),S296.below⟩
                      ·
                       rw[if_neg (by rw[show xv l[i].e l[k].e=false from hc19];decide)] at hE;refine wp_skip (aa (ab (ah ?_)));refine ma h297 rfl rfl fun _ h299=>?_;refine ae (aa (wp_ret ?_));refine bm h299 rfl rfl ?_;exact⟨by first | (rw[hE];done) | (rw[hE];rfl),S296.below⟩
                case hB=>kernel_rfl
                case hst=>rfl
 case hB=>kernel_rfl
theorem v7 {l:List Rcd} {j:Nat} (hj:j<l.length) (h:bE l[j].l 1 2147483647=false):dL l j (cc l j) l[j]=2:=by
 have Y:ei l j l[j]=2:=by unfold ei;rw[h];rfl
 unfold dL;rw[Y];rfl
theorem w5 {l:List Rcd} {j:Nat} (hj:j<l.length) (h:bE l[j].l 1 2147483647=true) {y:Rcd} (hy:cB l j=some y) (hle:l[j].l≤y.l):dL l j (cc l j) l[j]=9:=by
 have Y:ei l j l[j]=9:=by unfold ei;rw[h,hy];simp only[];rw[decide_eq_false (by omega)];rfl
 unfold dL;rw[Y];rfl
theorem vV {l:List Rcd} {j:Nat} (hj:j<l.length) (h:bE l[j].l 1 2147483647=true) (hy:∀y,cB l j=some y→y.l<l[j].l):ei l j l[j]=eC l[j].e:=by
 unfold ei;rw[h]
 cases hb:cB l j with
 | none=>
  show aP [0,0,eC l[j].e]=_
  by_cases q:eC l[j].e=0<;>simp[aP,q]
 | some y=>
  simp only[];rw[decide_eq_true (hy y hb)];show aP [0,0,eC l[j].e]=_
  by_cases q:eC l[j].e=0<;>simp[aP,q]
theorem j6 (l:List Rcd) (A:Option Addr) (c:Nat) (w:World) (hr:Rd w w.heap.size A (l.flatMap cg)) (hl:l.length≤1000) (hc:l.length≤c) (hx:∀x∈l,FewE x.e) :
 Calls Tryz.prog 45 #[.slice A l.length c] w fun e w'=>e=.returned (.tuple #[.int .i64 (dI l).1,.int .i64 (dI l).2])∧Below w.heap.size w w':=by
 obtain⟨E,hE⟩:∃E,E=dI l:=⟨_,rfl⟩;rw[←hE];unfold dI at hE;refine aF (N:=58) Tryz.func45 rfl rfl rfl (fun _ h0=>?_);have Y:=St.init w;refine ab (ah ?_);refine ma h0 rfl rfl fun _ h1=>?_;refine ma h1 rfl rfl fun _ h2=>?_;refine ae (aa (ab (ab (ah ?_))));refine mv h2 rfl rfl fun _ h3=>?_;refine sv h3 (bf Tryz.underlying41 (h3.ev rfl)) fun _ h4=>?_;refine sv h4 (cD (h4.ev rfl) (h4.ev rfl)) fun _ h5=>?_;refine ae (aa ?_);refine aB (h5.ev rfl) (fun hc0=>?_) (fun hc0=>?_)
 ·
  rw[if_pos (by have:=of_decide_eq_true hc0;omega)] at hE;refine ab (ah ?_);refine ma h5 rfl rfl fun _ h6=>?_;refine ma h6 rfl rfl fun _ h7=>?_;refine ae (aa (wp_ret (ai ?_)));refine eh h7 rfl rfl rfl ?_;exact⟨by first | (rw[hE];done) | (rw[hE];rfl),Y.below⟩
 ·
  rw[if_neg (by have:=of_decide_eq_false hc0;omega)] at hE;refine wp_skip (aa (ab (ab (ah ?_))));refine ma h5 rfl rfl fun _ h8=>?_;refine ae (aa (wp_block ?_));refine bz h8 Y [0] (fun (j:Nat)=>[(4,.int .i64 (j:Nat))]) (fun (j:Nat)=>VldH l j) (fun (j:Nat) L=>L) (fun (j:Nat)=>l.length-j) (0) (⟨Nat.zero_le _,fun k _ h=>absurd h (Nat.not_lt_zero _)⟩) ⟨rfl,rfl,trivial⟩ (Y) ?_;intro j _ _ hF0 h9 Y;refine ab (ab (ah ?_));refine mv h9 rfl rfl fun _ h10=>?_;refine mv h10 rfl rfl fun _ h11=>?_;refine sv h11 (bf Tryz.underlying41 (h11.ev rfl)) fun _ h12=>?_;refine sv h12 (bq (h12.ev rfl) (h12.ev rfl)) fun _ h13=>?_;refine ae (aa ?_);refine aB (h13.ev rfl) (fun hc1=>?_) (fun hc1=>?_)
  ·
   have hlt:j<l.length:=by have:=of_decide_eq_true hc1;omega
   have hxj:=hx _ (List.getElem_mem hlt)
   have hhit:dL l j (cc l j) l[j]≠0→E=((j:Int),dL l j (cc l j) l[j]):=fun h0=>by
    rw[hE,ey (fun i x=>dL l i (cc l i) x) l 0 j hlt (fun k hk hkj=>by rw[Nat.zero_add];exact hF0.2 k hk hkj) (by rw[Nat.zero_add];exact h0),Nat.zero_add]
   obtain⟨b,o,rfl,hB,_⟩:=hr.opened (aR aJ (by decide) (by omega));refine wp_skip (aa (ab (wp_block (ab (ab (ah ?_))))));refine mv h13 rfl rfl fun _ h14=>?_;refine mv h14 rfl rfl fun _ h15=>?_;refine sv h15 (aC (i:=j) (sz:=14) Tryz.underlying41 (by kernel_rfl) (h15.ev rfl) (h15.ev rfl) (by omega) (by omega) rfl) fun _ h16=>?_;refine sv h16 (aj (off:=0) (by kernel_rfl) (h16.ev rfl) rfl) fun _ h17=>?_;refine sv h17 (aw (by kernel_rfl) (h17.ev rfl) ((a7 aJ (Y.rd0 hr) hlt) 0 _ rfl)) fun _ h18=>?_;refine bD h18 (wn rfl) (aq (fun _ _=>by kernel_rfl) (h18.evs rfl) rfl) rfl rfl (aT _ _ _ _) fun _ h19=>?_;refine sv h19 (bL (h19.ev rfl)) fun _ h20=>?_;refine ae (aa ?_);refine aB (h20.ev rfl) (fun hc2=>?_) (fun hc2=>?_)
   ·
    have hbad:bE l[j].l 1 2147483647=false:=by simpa using hc2
    have he:=v7 hlt hbad;rw[he] at hhit;have hE:=hhit (by decide);refine ab (ah ?_);refine mv h20 rfl rfl fun _ h21=>?_;refine ma h21 rfl rfl fun _ h22=>?_;refine ma h22 rfl rfl fun _ h23=>?_;refine ae (aa (wp_ret (ai (az (ai (ai (az (ai ?_))))))));refine eh h23 rfl rfl rfl ?_;exact⟨by first | (rw[hE];done) | (rw[hE];rfl),Y.below⟩
   ·
    have hgood:bE l[j].l 1 2147483647=true:=by simpa using hc2
    refine wp_skip (aa (ab (ab ?_)));apply bA h20 [false,false,false,false,false,false,false,false,false,false,false,false,false,false,false] _ (by kernel_rfl)
    case h=>
     refine qv h20 (fun X hX=>ak (h20.ev rfl)) fun _ h24=>?_;refine qv h24 (fun X hX=>cD (h24.ev rfl) (h24.ev rfl)) fun _ h25=>?_;refine qv h25 (fun X hX=>ak (h25.ev rfl)) fun _ h26=>?_;apply kA h26 26 rfl 12 38
     case ht=>
      intro gc26
      have hj0:0<j:=by have:=of_decide_eq_true gc26;omega
      refine ax h26 (ag h26 _ rfl rfl rfl gc26) rfl rfl (fun X hX=>(ak (h26.ev rfl))) fun _ h27=>?_;refine ax h27 (ag h27 _ rfl rfl rfl gc26) rfl rfl (fun X hX=>(ak (h27.ev rfl))) fun _ h28=>?_;refine ax h28 (ag h28 _ rfl rfl rfl gc26) rfl rfl (fun X hX=>(aC (i:=j) (sz:=14) Tryz.underlying41 (by kernel_rfl) (h28.ev rfl) (h28.ev rfl) (by omega) (by omega) rfl)) fun _ h29=>?_;refine ax h29 (ag h29 _ rfl rfl rfl gc26) rfl rfl (fun X hX=>(aj (off:=0) (by kernel_rfl) (h29.ev rfl) rfl)) fun _ h30=>?_;refine ax h30 (ag h30 _ rfl rfl rfl gc26) rfl rfl (fun X hX=>(aw (by kernel_rfl) (h30.ev rfl) ((a7 aJ ((Y.grow hX).rd0 hr) hlt) 0 _ rfl))) fun _ h31=>?_;refine ax h31 (ag h31 _ rfl rfl rfl gc26) rfl rfl (fun X hX=>(ak (h31.ev rfl))) fun _ h32=>?_;refine ax h32 (ag h32 _ rfl rfl rfl gc26) rfl rfl (fun X hX=>(ak (h32.ev rfl))) fun _ h33=>?_;refine ax h33 (ag h33 _ rfl rfl rfl gc26) rfl rfl (fun X hX=>(fH (h33.ev rfl) (h33.ev rfl) (by omega))) fun _ h34=>?_;refine ax h34 (ag h34 _ rfl rfl rfl gc26) rfl rfl (fun X hX=>(aC (i:=j-1) (sz:=14) Tryz.underlying41 (by kernel_rfl) (h34.ev rfl) (h34.ev rfl) (by omega) (by omega) rfl)) fun _ h35=>?_;refine ax h35 (ag h35 _ rfl rfl rfl gc26) rfl rfl (fun X hX=>(aj (off:=0) (by kernel_rfl) (h35.ev rfl) rfl)) fun _ h36=>?_;refine ax h36 (ag h36 _ rfl rfl rfl gc26) rfl rfl (fun X hX=>(aw (by kernel_rfl) (h36.ev rfl) ((a7 aJ ((Y.grow hX).rd0 hr) (show j-1<l.length by omega)) 0 _ rfl))) fun _ h37=>?_;refine ax h37 (ag h37 _ rfl rfl rfl gc26) rfl rfl (fun X hX=>(bb (v':=.bool (decide (l[j].l≤((cB l j).getD l[j]).l))) (by rw[de hj0 hlt,Option.getD_some]) (gq (h37.ev rfl) (h37.ev rfl)))) fun _ h38=>?_;exact aI (h38.mid (m:=[(_,_),(_,_),(_,_),(_,_),(_,_),(_,_),(_,_),(_,_),(_,_),(_,_),(_,_)]) rfl)
     case hf=>
      intro gc26;refine qo h26 rfl rfl rfl gc26 rfl rfl fun _ h39=>?_;refine qo h39 rfl rfl rfl gc26 rfl rfl fun _ h40=>?_;refine qo h40 rfl rfl rfl gc26 rfl rfl fun _ h41=>?_;refine qo h41 rfl rfl rfl gc26 rfl rfl fun _ h42=>?_;refine qo h42 rfl rfl rfl gc26 rfl rfl fun _ h43=>?_;refine qo h43 rfl rfl rfl gc26 rfl rfl fun _ h44=>?_;refine qo h44 rfl rfl rfl gc26 rfl rfl fun _ h45=>?_;refine qo h45 rfl rfl rfl gc26 rfl rfl fun _ h46=>?_;refine qo h46 rfl rfl rfl gc26 rfl rfl fun _ h47=>?_;refine qo h47 rfl rfl rfl gc26 rfl rfl fun _ h48=>?_;refine qo h48 rfl rfl rfl gc26 rfl rfl fun _ h49=>?_;refine qo h49 rfl rfl rfl gc26 rfl rfl fun _ h50=>?_;exact aI ⟨_,h50.mid (m:=[(_,_),(_,_),(_,_),(_,_),(_,_),(_,_),(_,_),(_,_),(_,_),(_,_),(_,_)]) rfl⟩
     case h=>
      intro v51 _ hg38 h51;refine aI ?_;refine bF fun _ hX52 hΦ52=>?_;have Y:=Y.grow hX52;refine sv h51 (eu (h51.ev rfl) (h51.ev rfl) hg38 (h51.ev rfl)) fun _ h53=>?_;refine ae (aa ?_);refine aB (h53.ev rfl) (fun hc3=>?_) (fun hc3=>?_)
      ·
       obtain⟨u1,u2⟩:=Bool.and_eq_true_iff.1 hc3
       have hj0:0<j:=by have:=of_decide_eq_true u1;omega
       rw[de hj0 hlt] at u2;have he:=w5 hlt hgood (de hj0 hlt) (of_decide_eq_true u2);rw[he] at hhit;have hE:=hhit (by decide);refine ab (ah ?_);refine mv h53 rfl rfl fun _ h54=>?_;refine ma h54 rfl rfl fun _ h55=>?_;refine ma h55 rfl rfl fun _ h56=>?_;refine ae (aa (wp_ret (ai (az (ai (ai (az (ai ?_))))))));refine eh h56 rfl rfl rfl ?_;exact⟨by first | (rw[hE];done) | (rw[hE];rfl),Y.below⟩
      ·
       have hord:∀y,cB l j=some y→y.l<l[j].l:=fun y hy=>by
        rcases Nat.eq_zero_or_pos j with h0 | h0
        · subst h0;cases hy
        · rw[decide_eq_true (by omega:(j:Int)>0),Bool.true_and,hy] at hc3
          have:=of_decide_eq_false hc3
          change ¬l[j].l≤y.l at this
          omega
       have hr0:=vV hlt hgood hord;refine wp_skip (aa (ab (ab (ah ?_))));refine mv h53 rfl rfl fun _ h57=>?_;refine mv h57 rfl rfl fun _ h58=>?_;refine sv h58 (aC (i:=j) (sz:=14) Tryz.underlying41 (by kernel_rfl) (h58.ev rfl) (h58.ev rfl) (by omega) (by omega) rfl) fun _ h59=>?_;refine sv h59 (aj (off:=1) (by kernel_rfl) (h59.ev rfl) rfl) fun _ h60=>?_;refine sv (v:=dz l[j].e) h60 (ay (by kernel_rfl) (by kernel_rfl) (h60.ev rfl) (dJ (Y.rd0 hr) hlt)) fun _ h61=>?_;refine aS h61 (wn rfl) (aq (fun _ _=>by kernel_rfl) (h61.evs rfl) rfl) rfl rfl Y (lh l[j].e _ hxj.o hxj.n (by have:=hxj.d;unfold maxLen;omega)) fun _ _ h62 Y=>?_;refine ma h62 rfl rfl fun _ h63=>?_;refine cm ?_;refine mv h63 rfl rfl fun _ h64=>?_;refine sv h64 (a8 (h64.ev rfl) (h64.ev rfl)) fun _ h65=>?_;refine ae (aa ?_);refine aB (h65.ev rfl) (fun hc4=>?_) (fun hc4=>?_)
       ·
        have hne:eC l[j].e≠0:=by simpa using hc4
        have he:dL l j (cc l j) l[j]=eC l[j].e:=by unfold dL;rw[hr0,if_pos hne]
        rw[he] at hhit;have hE:=hhit hne;refine ab (ah ?_);refine mv h65 rfl rfl fun _ h66=>?_;refine mv h66 rfl rfl fun _ h67=>?_;refine ma h67 rfl rfl fun _ h68=>?_;refine ma h68 rfl rfl fun _ h69=>?_;refine ae (aa (wp_ret (ai (az (ai (ai (az (ai ?_))))))));refine eh h69 rfl rfl rfl ?_;exact⟨by first | (rw[hE];done) | (rw[hE];rfl),Y.below⟩
       ·
        have hez:eC l[j].e=0:=by simpa using hc4
        have he:=yz hlt hF0 (hr0.trans hez);rw[he] at hhit;refine wp_skip (aa (ab (ah ?_)));refine mv h65 rfl rfl fun _ h70=>?_;refine mv h70 rfl rfl fun _ h71=>?_;refine aS h71 (wn rfl) (aq (fun _ _=>by kernel_rfl) (h71.evs rfl) rfl) rfl rfl Y (mg l j hlt _ c _ (Y.rd0 hr) hl hc hF0 hx) fun _ _ h72 Y=>?_;refine ma h72 rfl rfl fun _ h73=>?_;refine cm ?_;refine mv h73 rfl rfl fun _ h74=>?_;refine sv h74 (a8 (h74.ev rfl) (h74.ev rfl)) fun _ h75=>?_;refine ae (aa ?_);refine aB (h75.ev rfl) (fun hc5=>?_) (fun hc5=>?_)
        ·
         have hE:=hhit (by simpa using hc5);refine ab (ah ?_);refine mv h75 rfl rfl fun _ h76=>?_;refine mv h76 rfl rfl fun _ h77=>?_;refine ma h77 rfl rfl fun _ h78=>?_;refine ma h78 rfl rfl fun _ h79=>?_;refine ae (aa (wp_ret (az (ai (ai (az (ai ?_)))))));refine eh h79 rfl rfl rfl ?_;exact⟨by first | (rw[hE];done) | (rw[hE];rfl),Y.below⟩
        ·
         have hz:dL l j (cc l j) l[j]=0:=by rw[he];simpa using hc5
         refine wp_skip (aO (aa (ah ?_)));refine mv h75 rfl rfl fun _ h80=>?_;refine sv h80 (aV (h80.ev rfl) (h80.ev rfl) (by omega)) fun _ h81=>?_;refine ma h81 rfl rfl fun _ h82=>?_;refine ae (aa ?_);exact⟨j+1,(by omega),⟨hlt,fun k hk hkj=>by rcases Nat.lt_or_eq_of_le (show k≤j by omega) with q | q;exact hF0.2 k hk q;subst q;exact hz⟩,h82.re ⟨rfl,rfl,trivial⟩,Y⟩
    case hB=>kernel_rfl
    case hst=>rfl
  ·
   have hge:l.length≤j:=by have:=of_decide_eq_false hc1;omega
   have hz0:(dk (fun i x=>dL l i (cc l i) x) 0 l).2=0:=(cQ _ _).2 fun k hk=>hF0.2 k hk (by omega);have hE:E=(0,0):=hE.trans (dV _ l 0 fun k hk=>by rw[Nat.zero_add];exact hF0.2 k hk (by omega));refine wp_exit ?_;refine av ?_;refine av ?_;refine bn ?_;refine aa (ab (ah ?_));refine ma h13 rfl rfl fun _ h83=>?_;refine ma h83 rfl rfl fun _ h84=>?_;refine ae (aa (wp_ret ?_));refine eh h84 rfl rfl rfl ?_;exact⟨by first | (rw[hE];done) | (rw[hE];rfl),Y.below⟩
theorem la (l:List Rcd) (A:Option Addr) (c:Nat) (w:World) (hr:Rd w w.heap.size A (l.flatMap cg)) (hl:l.length≤1000) (hc:l.length≤c) (hx:∀x∈l,FewE x.e) :
 Calls Tryz.prog 26 #[.slice A l.length c] w fun e w'=>e=.returned (.int .i64 (dI l).2)∧Below w.heap.size w w':=by
 refine aF (N:=11) Tryz.func26 rfl rfl rfl (fun _ Y=>?_);have Z:=St.init w;refine ab (ah ?_);refine ma Y rfl rfl fun _ Y=>?_;refine cm ?_;refine mv Y rfl rfl fun _ Y=>?_;refine aS Y (wn rfl) (aq (fun _ _=>by kernel_rfl) (Y.evs rfl) rfl) rfl rfl Z (j6 l A c _ (Z.rd0 hr) hl hc hx) fun _ _ Y Z=>?_;refine mv Y rfl rfl fun _ Y=>?_;refine vx Y rfl rfl rfl fun _ Y=>?_;refine vx Y rfl rfl rfl fun _ Y=>?_;refine ma Y rfl rfl fun _ Y=>?_;refine ma Y rfl rfl fun _ Y=>?_;refine cm ?_;refine mv Y rfl rfl fun _ Y=>?_;refine ma Y rfl rfl fun _ Y=>?_;refine ae (aa (wp_ret ?_));refine bm Y rfl rfl ?_;exact⟨rfl,Z.below⟩
set_option maxRecDepth 4000
open Go.RowKit Go.Sort Go.Shelf
theorem wH {l:List Pgp} {g:Int} {q:Pgp} (h:gT l g=some q):∃k,∃hk:k<l.length,lA Pgp.g g l 0=(k:Int)∧l[k].g=g∧l[k]=q:=by
 obtain⟨k,hk,e1,e2,e3⟩:=jI (κ:=Pgp.g) (n:=g) (l:=l) (k:=0) (fun h1=>by rw[show gT l g=none from jM h1] at h;cases h);rw[show gT l g=some l[k] from e3] at h;injection h with h;exact⟨k,hk,by rw[e1,Nat.zero_add],e2,h⟩
theorem py (l:List Rcd) (B:Option Addr) (d:Nat) (p:List Pgp) (A:Option Addr) (c:Nat) (w:World)
 (hr:Rd w w.heap.size A (p.flatMap ca)) (hq:Rd w w.heap.size B (l.flatMap cg)) (hl:l.length≤1000) (hc:l.length≤d) (hp:PgsOk p) (hx:∀x∈l,FewE x.e) (hf:∀x∈l,eL p x=0) (hvl:VldH l l.length) :
 Calls Tryz.prog 40 #[.slice B l.length d,.slice A p.length c] w fun e w'=>∃i:Option Addr × Nat,e=.returned (.tuple #[.slice i.1 (ff p 0 l).1.length i.2,.int .i64 (ff p 0 l).2.1,.int .i64 (ff p 0 l).2.2]) ∧
  St [] w w' [.row (.slice i.1 (ff p 0 l).1.length i.2) (ff p 0 l).1.length 111 3 ((ff p 0 l).1.flatMap ca)]:=by
 have hpn:=hp.n;refine aF (N:=78) Tryz.func40 rfl rfl rfl (fun _ h0=>?_);have S0:=St.init w;refine ab (ah ?_);refine ma h0 rfl rfl fun _ h1=>?_;refine ma h1 rfl rfl fun _ h2=>?_;refine ma h2 rfl rfl fun _ h3=>?_;refine cm ?_;refine mv h3 rfl rfl fun _ h4=>?_;refine gV h4 (wn rfl) (aq (fun _ _=>by kernel_rfl) (h4.evs rfl) rfl) rfl rfl S0 (mq p A c _ (S0.rd0 hr) (by omega)) (Nat.le_refl _) fun A15 c15 _ _ h5 S5=>?_;refine ma h5 rfl rfl fun _ h6=>?_;refine cm ?_;refine ma h6 rfl rfl fun _ h7=>?_;refine ae (aa (ab (ab (ah ?_))));refine ma h7 rfl rfl fun _ h8=>?_;refine ae (aa (wp_block ?_));refine bz h8 S5 [7,0] (fun (q:RdoS)=>[(9,.int .i64 (q.j:Nat)),(8,.int .i64 q.n)]) (fun (q:RdoS)=>q.j≤l.length∧ff p 0 l=ff q.p q.n (l.drop q.j)∧PgsOk q.p∧q.p.length=p.length∧0≤q.n∧q.n≤q.j∧(∀x∈l,eL q.p x=0)) (fun q L=>L.set 0 (.row (.slice A15 p.length c15) p.length 111 3 (q.p.flatMap ca))) (fun (q:RdoS)=>l.length-q.j) (⟨0,p,0⟩) (⟨Nat.zero_le _,rfl,hp,rfl,Int.le_refl 0,Int.le_refl 0,hf⟩) ⟨rfl,rfl,rfl,rfl,trivial⟩ (S5) ?_;intro q _ _ hF0 h9 S9;refine ab (ab (ah ?_));refine mv h9 rfl rfl fun _ h10=>?_;refine mv h10 rfl rfl fun _ h11=>?_;refine sv h11 (bf Tryz.underlying41 (h11.ev rfl)) fun _ h12=>?_;refine sv h12 (bq (h12.ev rfl) (h12.ev rfl)) fun _ h13=>?_;refine ae (aa ?_);refine aB (h13.ev rfl) (fun hc0=>?_) (fun hc0=>?_)
 ·
  have hlt:q.j<l.length:=by have:=of_decide_eq_true hc0;omega
  obtain⟨b5,o5,rfl,hB5,_⟩:=hq.opened (aR aJ (by decide) (by omega));have hdr:l.drop q.j=l[q.j]::l.drop (q.j+1):=List.drop_eq_getElem_cons hlt;have hxe:=hx _ (List.getElem_mem hlt);obtain⟨-,hun,hpo,hple,hn0,hnj,hfo⟩:=hF0;rw[hdr,ff] at hun;have hlx:=hvl.e0 hlt;have hrl:(l.drop (q.j+1)).length=l.length-(q.j+1):=List.length_drop ..
  have hrdJ:Rd w w.heap.size (some ⟨b5,eV o5 d (q.j+1) 14,none⟩) ((l.drop (q.j+1)).flatMap cg):=by
   rcases Nat.lt_or_ge (q.j+1) l.length with h | h
   · rw[lB (by omega)];exact hq.dropF aJ (q.j+1)
   · rw[List.drop_of_length_le h];exact Rd.nil _ _ _
  refine wp_skip (aa (ab (wp_block (ab (ah ?_)))));refine mv h13 rfl rfl fun _ h14=>?_;refine mv h14 rfl rfl fun _ h15=>?_;refine sv h15 (aC (i:=q.j) (sz:=14) Tryz.underlying41 (by kernel_rfl) (h15.ev rfl) (h15.ev rfl) (by omega) (by omega) rfl) fun _ h16=>?_;refine sv h16 (aj (off:=1) (by kernel_rfl) (h16.ev rfl) rfl) fun _ h17=>?_;refine sv (v:=dz l[q.j].e) h17 (ay (by kernel_rfl) (by kernel_rfl) (h17.ev rfl) (dJ (S9.rd0 hq) hlt)) fun _ h18=>?_;refine na (.agg #[.int .i64 0,.int .i64 0,.int .i64 0,.int .i64 0,.int .i64 0,.bool false,.int .i64 0,.int .i64 0,.int .i64 0,.int .i64 0,.string ⟨#[]⟩,.string ⟨#[]⟩,.string ⟨#[]⟩]) h18 rfl S9 fun b10 _ _ gb10 h19 S19=>?_;refine aG h19 (wn rfl) ⟨rfl,rfl⟩ (h19.ev rfl) (h19.ev rfl) rfl (by kernel_rfl) S19 (i:=0) rfl rfl rfl fun _ S20=>?_;refine ae (aa (ab (ab ?_)));apply bA h19 [false,false,false,false,false,false,false,false,false,false,false,false] _ (by kernel_rfl)
  case h=>
   refine qv (v:=dz l[q.j].e) h19 (fun X hX=>ay (by kernel_rfl) (by kernel_rfl) (h19.ev rfl) ((S20.grow hX).cellsAll (i:=0) rfl)) fun _ h21=>?_;refine df h21 (wn rfl) rfl rfl (fun X=>(aq (fun _ _=>by kernel_rfl) (h21.evs rfl) rfl)) (fun X hX=>fq _ _) fun _ h22=>?_;refine qv h22 (fun X hX=>bL (h22.ev rfl)) fun _ h23=>?_;refine qv h23 (fun X hX=>ak (h23.ev rfl)) fun _ h24=>?_;apply lD h24 30 rfl 8 38
   case ht=>
    intro gc30;refine qo h24 rfl rfl rfl gc30 rfl rfl fun _ h25=>?_;refine qo h25 rfl rfl rfl gc30 rfl rfl fun _ h26=>?_;refine qo h26 rfl rfl rfl gc30 rfl rfl fun _ h27=>?_;refine qo h27 rfl rfl rfl gc30 rfl rfl fun _ h28=>?_;refine qo h28 rfl rfl rfl gc30 rfl rfl fun _ h29=>?_;refine qo h29 rfl rfl rfl gc30 rfl rfl fun _ h30=>?_;refine qo h30 rfl rfl rfl gc30 rfl rfl fun _ h31=>?_;refine qo h31 rfl rfl rfl gc30 rfl rfl fun _ h32=>?_;exact aI ⟨_,h32.mid (m:=[(_,_),(_,_),(_,_),(_,_),(_,_),(_,_),(_,_)]) rfl⟩
   case hf=>
    intro gc30;refine ax h24 (ag h24 _ rfl rfl rfl gc30) rfl rfl (fun X hX=>(ak (h24.ev rfl))) fun _ h33=>?_;refine ax h33 (ag h33 _ rfl rfl rfl gc30) rfl rfl (fun X hX=>(ak (h33.ev rfl))) fun _ h34=>?_;refine ax h34 (ag h34 _ rfl rfl rfl gc30) rfl rfl (fun X hX=>(bb (v':=.int .i64 ((q.j+1:Nat):Int)) (congrArg _ (by omega)) (aV (h34.ev rfl) (h34.ev rfl) (by omega)))) fun _ h35=>?_;refine ax h35 (ag h35 _ rfl rfl rfl gc30) rfl rfl (fun X hX=>(fy (l:=q.j+1) (h:=l.length) (sz:=14) Tryz.underlying41 (by kernel_rfl) (h35.ev rfl) (h35.ev rfl) rfl (by omega) (by omega))) fun _ h36=>?_;refine ax h36 (ag h36 _ rfl rfl rfl gc30) rfl rfl (fun X hX=>(aj (off:=1) (j:=1) (by kernel_rfl) (h36.ev rfl) rfl)) fun _ h37=>?_;refine ax h37 (ag h37 _ rfl rfl rfl gc30) rfl rfl (fun X hX=>(aw (by kernel_rfl) (h37.ev rfl) ((S20.grow hX).cell (i:=0) rfl rfl))) fun _ h38=>?_;refine df h38 (ag h38 _ rfl rfl rfl gc30) rfl rfl (fun X=>(aq (fun _ _=>by kernel_rfl) (h38.evs rfl) rfl)) (fun X hX=>hrl▸jG (l.drop (q.j+1)) l[q.j].e.t _ (d-(q.j+1)) _ ((S20.grow hX).rd0 hrdJ) (by omega)) fun _ h39=>?_;refine ax h39 (ag h39 _ rfl rfl rfl gc30) rfl rfl (fun X hX=>(bL (h39.ev rfl))) fun _ h40=>?_;exact aI (h40.mid (m:=[(_,_),(_,_),(_,_),(_,_),(_,_),(_,_),(_,_)]) rfl)
   case h=>
    intro v41 _ hg38 h41;refine aI ?_;refine bF fun _ hX42 hΦ42=>?_;have S42:=S20.grow hX42;refine sv h41 (ij (h41.ev rfl) (h41.ev rfl) (h41.ev rfl) hg38) fun _ h43=>?_;refine ae (aa ?_);refine aB (h43.ev rfl) (fun hc1=>?_) (fun hc1=>?_)
    ·
     have hno:¬(cd l[q.j].e&&iK (l.drop (q.j+1)) l[q.j].e.t)=true:=fun h=>by
      obtain⟨u1,u2⟩:=Bool.and_eq_true_iff.1 h;rw[u1,u2] at hc1;cases hc1
     rw[if_neg hno] at hun;refine wp_exit ?_;refine av ?_;refine bn ?_;refine aa (ah ?_);refine mv h43 rfl rfl fun _ h44=>?_;refine sv h44 (aV (h44.ev rfl) (h44.ev rfl) (by omega)) fun _ h45=>?_;refine ma h45 rfl rfl fun _ h46=>?_;refine ae (aa ?_);exact⟨⟨q.j+1,q.p,q.n⟩,(by show l.length-(q.j+1)<l.length-q.j;omega),⟨hlt,hun,hpo,hple,hn0,by show q.n≤((q.j+1:Nat):Int);omega,hfo⟩,h46.re ⟨rfl,rfl,rfl,rfl,trivial⟩,(S42.sub (.cons _ (.cons_cons _ .slnil)))⟩
    ·
     obtain⟨u1,u2⟩:=Bool.or_eq_false_iff.1 hc1
     have hyes:(cd l[q.j].e&&iK (l.drop (q.j+1)) l[q.j].e.t)=true:=by rw[Bool.and_eq_true];exact⟨by simpa using u1,by simpa using u2⟩
     rw[if_pos hyes] at hun;obtain⟨qq,hqq,hqf⟩:=pA (hfo _ (List.getElem_mem hlt)) (by simpa using u1);obtain⟨k,qk,hik,q1,hq9⟩:=wH hqq;subst hq9;rw[hqq] at hun;simp only[] at hun;have h512:=(hpo.all k qk).b;refine wp_skip (aa (ab (ah ?_)));refine mv h43 rfl rfl fun _ h47=>?_;refine vf h47 4 4 rfl rfl rfl fun _ h48=>?_;refine vl h48 S42 0 rfl rfl rfl rfl fun _ h49=>?_;refine aS h49 (wn rfl) (aq (fun _ _=>by kernel_rfl) (h49.evs rfl) rfl) rfl rfl S42 (hple▸kO q.p l[q.j].e.g A15 c15 _ (S42.rdOf (i:=1) rfl) (by omega)) fun _ _ h50 S50=>?_;refine ma h50 rfl rfl fun _ h51=>?_;obtain⟨b',o',rfl,_⟩:=(S50.rdOf (i:=1) rfl).opened (aR bc (by decide) (by omega));obtain rfl:o'=0:=pw (S50.at_ (i:=1) rfl);refine ae (aa (ab ?_));apply bA h51 [false,false,false,false,false,false,false,false,false,false,false,false] _ (by kernel_rfl)
     case h=>
      refine qv h51 (fun X hX=>ak (h51.ev rfl)) fun _ h52=>?_;refine qv h52 (fun X hX=>ak (h52.ev rfl)) fun _ h53=>?_;refine qv h53 (fun X hX=>aC (i:=k) (sz:=3) Tryz.underlying48 (by kernel_rfl) (h53.ev rfl) (h53.ev rfl) (by omega) (by omega) rfl) fun _ h54=>?_;refine qv h54 (fun X hX=>aj (off:=2) (by kernel_rfl) (h54.ev rfl) rfl) fun _ h55=>?_;refine qv h55 (fun X hX=>aw (by kernel_rfl) (h55.ev rfl) ((a7 bc ((S50.grow hX).rdOf (i:=1) rfl) qk) 2 _ rfl)) fun _ h56=>?_;refine qv h56 (fun X hX=>aj (off:=6) (j:=6) (by kernel_rfl) (h56.ev rfl) rfl) fun _ h57=>?_;refine qv (v:=eQ l[q.j].e.o) h57 (fun X hX=>ay (by kernel_rfl) (by kernel_rfl) (h57.ev rfl) ((S50.grow hX).cellsOf (i:=0) rfl 6 6)) fun _ h58=>?_;refine df h58 (wn rfl) rfl rfl (fun X=>(aq (fun _ _=>by kernel_rfl) (h58.evs rfl) rfl)) (fun X hX=>y8 q.p[k].b l[q.j].e.o _ h512 hxe.o hxe.n) fun _ h59=>?_;refine qv h59 (fun X hX=>ak (h59.ev rfl)) fun _ h60=>?_;refine qv h60 (fun X hX=>bG (h60.ev rfl) rfl) fun _ h61=>?_;refine qv h61 (fun X hX=>bG (h61.ev rfl) rfl) fun _ h62=>?_;refine qv h62 (fun X hX=>fx (h62.ev rfl)) fun _ h63=>?_;refine aI ?_;refine bF fun _ hX64 hΦ64=>?_;have S64:=S50.grow hX64;refine ma h63 rfl rfl fun _ h65=>?_;refine ae (aa (ab (ab (ah ?_))));refine mv h65 rfl rfl fun _ h66=>?_;refine sv h66 (a8 (h66.ev rfl) (h66.ev rfl)) fun _ h67=>?_;refine ae (aa ?_);refine aB (h67.ev rfl) (fun hc2=>?_) (fun hc2=>?_)
      ·
       have he:(bQ q.p[k].b l[q.j].e.o).2≠0:=by simpa using hc2
       rw[if_pos he] at hun;refine ab (ah ?_);refine mv h67 rfl rfl fun _ h68=>?_;refine ma h68 rfl rfl fun _ h69=>?_;refine ma h69 rfl rfl fun _ h70=>?_;refine ma h70 rfl rfl fun _ h71=>?_;refine ae (aa (wp_ret (ai (az (ai (ai (az (ai ?_))))))));refine ql h71 rfl rfl rfl rfl ?_;refine⟨(none,0),by rw[hun];(try rfl),?_⟩;rw[hun];exact(S64.sub (List.nil_sublist _)).nilRow 111 3
      ·
       have he:(bQ q.p[k].b l[q.j].e.o).2=0:=by simpa using hc2
       rw[if_neg (fun h=>h he)] at hun;have hT5:=jr h512 he;obtain⟨S9,hS9⟩:∃S9,S9=Ag q.p[k] (bQ q.p[k].b l[q.j].e.o).1 l[q.j].l:=⟨_,rfl⟩;rw[←hS9] at hun
       have hs5:S9.size=512:=by
        rw[hS9];unfold Ag;split
        · exact hT5
        · exact kq hT5
       have hpo2:=oZ hpo l[q.j].e.g S9 hs5;have hfl:=ki hpo.srt qk S9;rw[q1,←Nat.zero_add (k*3)] at hfl;refine wp_skip (aa (ab (ab (ah ?_))));refine vf h67 5 5 rfl rfl rfl fun _ h72=>?_;refine vl h72 S64 0 rfl rfl rfl rfl fun _ h73=>?_;refine sv h73 (bL (h73.ev rfl)) fun _ h74=>?_;refine ae (aa ?_);refine eH h74 S64 [(12,.string S9)] [60,59,58,56,55,13,54,53,44,52,51,50,49,48,47,46,45,11,43,42,41,40,39,38,30,29,28,27,10,26,25,24,23,22,19,18,17,16,9,8,7,0] ?_ (fun _ _ h75 S75=>?_)
       ·
        refine aB (h74.ev rfl) (fun hc3=>?_) (fun hc3=>?_)
        ·
         refine ah ?_;refine mv h74 rfl rfl fun _ h76=>?_;refine mv h76 rfl rfl fun _ h77=>?_;refine mv h77 rfl rfl fun _ h78=>?_;refine sv h78 (aC (i:=q.j) (sz:=14) Tryz.underlying41 (by kernel_rfl) (h78.ev rfl) (h78.ev rfl) (by omega) (by omega) rfl) fun _ h79=>?_;refine sv h79 (aj (off:=0) (by kernel_rfl) (h79.ev rfl) rfl) fun _ h80=>?_;refine sv h80 (aw (by kernel_rfl) (h80.ev rfl) ((a7 aJ (S64.rd0 hq) hlt) 0 _ rfl)) fun _ h81=>?_;refine aS h81 (wn rfl) (aq (fun _ _=>by kernel_rfl) (h81.evs rfl) rfl) rfl rfl S64 (rG l[q.j].l 4 (by omega) (by omega) (by decide) _) fun _ _ h82 S82=>?_;refine aS h82 (wn rfl) (aq (fun _ _=>by kernel_rfl) (h82.evs rfl) rfl) rfl rfl S82 (nA (bQ q.p[k].b l[q.j].e.o).1 (bs (lit l[q.j].l 4)) 8 _ (by rw[hT5];decide) (by rw[hT5,en,jo];decide)) fun _ _ h83 S83=>?_;refine ma h83 rfl rfl fun _ h84=>?_;refine ae (aa ?_);rw[show oL (bQ q.p[k].b l[q.j].e.o).1 8 (bs (lit l[q.j].l 4))=S9 by rw[hS9];unfold Ag;rw[if_neg (by rw[hqf];simpa using hc3)];rfl] at h84;exact⟨h84.re ⟨rfl,rfl,rfl,rfl,rfl,rfl,rfl,rfl,rfl,rfl,rfl,rfl,rfl,rfl,rfl,rfl,rfl,rfl,rfl,rfl,rfl,rfl,rfl,rfl,rfl,rfl,rfl,rfl,rfl,rfl,rfl,rfl,rfl,rfl,rfl,rfl,rfl,rfl,rfl,rfl,rfl,rfl,rfl,trivial⟩,S83⟩
        ·
         refine wp_skip (aa ?_);replace h74:=Has.also h74 (t:=12) (v:=.string S9) ((show look _ 12=some (.string (bQ q.p[k].b l[q.j].e.o).1) from rfl).trans (by rw[hS9];unfold Ag;rw[if_pos (by rw[hqf];simpa using hc3)]));exact⟨h74.re ⟨rfl,rfl,rfl,rfl,rfl,rfl,rfl,rfl,rfl,rfl,rfl,rfl,rfl,rfl,rfl,rfl,rfl,rfl,rfl,rfl,rfl,rfl,rfl,rfl,rfl,rfl,rfl,rfl,rfl,rfl,rfl,rfl,rfl,rfl,rfl,rfl,rfl,rfl,rfl,rfl,rfl,rfl,rfl,trivial⟩,S64⟩
       ·
        refine aa (ab (ah ?_));refine mv h75 rfl rfl fun _ h85=>?_;refine mv h85 rfl rfl fun _ h86=>?_;refine mv h86 rfl rfl fun _ h87=>?_;refine sv h87 (aC (i:=k) (sz:=3) Tryz.underlying48 (by kernel_rfl) (h87.ev rfl) (h87.ev rfl) (by omega) (by omega) rfl) fun _ h88=>?_;refine sv h88 (aj (off:=2) (by kernel_rfl) (h88.ev rfl) rfl) fun _ h89=>?_;refine kj h89 (wn rfl) ⟨rfl,rfl⟩ (h89.ev rfl) (h89.ev rfl) rfl (by kernel_rfl) S75 (i:=1) rfl rfl (by show 0+k*3+2+1≤p.length*3;omega) fun _ S90=>?_;refine ae (aa (ah ?_));refine mv h89 rfl rfl fun _ h91=>?_;refine sv h91 (aV (h91.ev rfl) (h91.ev rfl) (by omega)) fun _ h92=>?_;refine ma h92 rfl rfl fun _ h93=>?_;refine ae (aO (aa (ah ?_)));refine mv h93 rfl rfl fun _ h94=>?_;refine sv h94 (aV (h94.ev rfl) (h94.ev rfl) (by omega)) fun _ h95=>?_;refine ma h95 rfl rfl fun _ h96=>?_;refine ae (aa ?_);exact⟨⟨q.j+1,fG q.p l[q.j].e.g S9,q.n+1⟩,(by show l.length-(q.j+1)<l.length-q.j;omega),⟨hlt,hun,hpo2,by rw[ee];exact hple,by show 0≤q.n+1;omega,by show q.n+1≤((q.j+1:Nat):Int);omega,fun x hx=>by rw[iX];exact hfo x hx⟩,h96.re ⟨rfl,rfl,rfl,rfl,trivial⟩,(by show St _ w _ [.row _ _ _ _ ((fG q.p l[q.j].e.g S9).flatMap ca)];rw[hfl];exact(S90.sub (.cons _ (.cons_cons _ .slnil))))⟩
     case hB=>kernel_rfl
     case hst=>rfl
  case hB=>kernel_rfl
  case hst=>rfl
 ·
  have hge:l.length≤q.j:=by have:=of_decide_eq_false hc0;omega
  obtain⟨-,hun,hpo,hple,-,-,-⟩:=hF0;rw[List.drop_of_length_le hge,ff] at hun;refine wp_exit ?_;refine av ?_;refine av ?_;refine bn ?_;refine aa (ab (ah ?_));refine mv h13 rfl rfl fun _ h97=>?_;refine mv h97 rfl rfl fun _ h98=>?_;refine ma h98 rfl rfl fun _ h99=>?_;refine ma h99 rfl rfl fun _ h100=>?_;refine ma h100 rfl rfl fun _ h101=>?_;refine ae (aa (wp_ret ?_));refine ql h101 rfl rfl rfl rfl ?_;refine⟨(A15,c15),by rw[hun,←hple];(try rfl),?_⟩;rw[hun];show St [] w _ [.row (.slice A15 q.p.length c15) q.p.length _ _ _];rw[hple];exact(S9.sub (.cons_cons _ .slnil))
end Go.Proofs.YtcfdpfmchchkaaaGreatDoor
