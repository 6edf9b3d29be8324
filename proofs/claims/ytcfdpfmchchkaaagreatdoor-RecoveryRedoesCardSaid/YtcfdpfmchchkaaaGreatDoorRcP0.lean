/-
  Chapter 22: the reference's error of a record, and of a history.
  Chapter 22: the reference's strictness and meaning.
-/
import Derived.Test.YtcfdpfmchchkaaaGreatDoorRcN0
namespace Go.Proofs.YtcfdpfmchchkaaaGreatDoor
set_option linter.unusedVariables false
set_option linter.unusedSimpArgs false
set_option maxRecDepth 4000
open Go.RowKit Go.Sort Go.Shelf
def tx (l:List Rcd) (n:Int):Bool:=decide (n<0)||(ec l n.toNat==4)
theorem kC {l:List Rcd} {i:Nat} {t:Int} (h:tx l (db l i t)=false):∃k,k<i∧db l i t=(k:Int)∧bP l t i=some k∧ec l k≠4:=by
 unfold tx at h;obtain⟨h1,h2⟩:=Bool.or_eq_false_iff.1 h;obtain⟨k,q1,q2,q3⟩:=gC (by have:=of_decide_eq_false h1;omega:0≤db l i t);rw[q2] at h2;exact⟨k,q1,q2,q3,by simpa using h2⟩
theorem AE (l:List Rcd) (i:Nat) (t p:Int):jG l (bP l t i) p=(((decide (db l i t<0)&&decide (p≥dB l))&&(p != 0))||(((decide (db l i t≥0)&&tx l (db l i t))&&(p != 0))||(!tx l (db l i t)&&(p != je l (db l i t).toNat)))):=by
 unfold db tx jG
 cases bP l t i with
 | none=>simp
 | some k=>
  have e1:decide ((k:Int)<0)=false:=decide_eq_false (by omega);have e2:decide ((k:Int)≥0)=true:=decide_eq_true (by omega);simp only[e1,e2,Int.toNat_natCast,Bool.false_and,Bool.false_or,Bool.true_and];by_cases h:ec l k=4
  · rw[if_pos h,show(ec l k==4)=true by simpa using h];simp
  · rw[if_neg h,show(ec l k==4)=false by simpa using h];simp
theorem yX (l:List Rcd) (i:Nat) (t:Int):cN l (bP l t i)=if tx l (db l i t)=true then 0 else ec l (db l i t).toNat:=by
 unfold db tx cN
 cases bP l t i with
 | none=>simp
 | some k=>
  have e1:decide ((k:Int)<0)=false:=decide_eq_false (by omega);simp only[e1,Int.toNat_natCast,Bool.false_or,beq_iff_eq]
theorem zT (l:List Rcd) (i:Nat) (t p:Int):jW l (bP l t i) p=if tx l (db l i t)=true then (if p=0 then 0 else -1) else gZ l (db l i t).toNat:=by
 unfold db tx jW
 cases bP l t i with
 | none=>simp
 | some k=>
  have e1:decide ((k:Int)<0)=false:=decide_eq_false (by omega);simp only[e1,Int.toNat_natCast,Bool.false_or,beq_iff_eq]
theorem AI {l:List Rcd} {i:Nat} (hv:VldH l i) {n:Int} (hn:n≤0):jb Rcd.l n (l.take i) 0 = -1:=iE fun k hk=>by
 have hki:k<i:=by rw[List.length_take] at hk;omega
 have:=(hv.e0 hki).1;rw[List.getElem_take];omega
def xI (x u:Lge):Bool:=(((((u.k != 0)||(u.t != x.t))||(x.x != u.p))||(x.g != u.g))||(x.f != u.f))||!(decide (x.o=jh u.o))
theorem xg {l:List Rcd} {i:Nat} {n:Int} {x:Lge} {u:Rcd} (h0:n≠0) (h:cH (l.take i) n=some u):ku l i n x=if xI x u.e=true then 13 else 0:=by
 unfold ku;rw[if_neg h0,h];simp only[];by_cases q:u.e.k=0∧u.e.t=x.t∧x.x=u.e.p∧x.g=u.e.g∧x.f=u.e.f∧x.o=jh u.e.o
 · rw[if_pos q,if_neg]
   obtain⟨q1,q2,q3,q4,q5,q6⟩:=q;unfold xI;rw[←q6];simp[q1,q2,q3,q4,q5]
 · rw[if_neg q,if_pos]
   unfold xI;refine Classical.byContradiction fun hc=>q ?_;simp only[Bool.or_eq_true,not_or,Bool.not_eq_true,bne_eq_false_iff_eq,Bool.not_eq_false',decide_eq_true_eq] at hc;obtain⟨⟨⟨⟨⟨q1,q2⟩,q3⟩,q4⟩,q5⟩,q6⟩:=hc;exact⟨q1,q2,q3,q4,q5,q6⟩
set_option maxHeartbeats 2000000 in
theorem lT (l:List Rcd) (i:Nat) (hi:i<l.length) (A:Option Addr) (c:Nat) (w:World) (hr:Rd w w.heap.size A (l.flatMap cq)) (hl:l.length≤1000) (hc:l.length≤c) (hv:VldH l i) (hx:∀x∈l,FewE x.e) :
 Calls Tryz.prog 108 #[.slice A l.length c,.int .i64 (i:Nat)] w fun e w'=>e=.returned (.int .i64 (yy l i l[i].e))∧Below w.heap.size w w':=by
 obtain⟨b,o,rfl,hB,_⟩:=hr.opened (aO aJ (by decide) (by omega));have hxi:=hx _ (List.getElem_mem hi);have hfst:=fL (l:=l) (by omega);obtain⟨E,hE⟩:∃E,E=yy l i l[i].e:=⟨_,rfl⟩;rw[←hE];unfold yy at hE;have hgap:=AE l i l[i].e.t l[i].e.p;have hlst:=yX l i l[i].e.t;have hund:=zT l i l[i].e.t l[i].e.p;simp only[tx] at hgap
 have hlti:(l.take i).length=i:=by rw[List.length_take];omega
 have hrt:Rd w w.heap.size (some ⟨b,o,none⟩) ((l.take i).flatMap cq):=hr.takeF aJ i;refine aD (N:=190) Tryz.func108 rfl rfl rfl (fun _ h0=>?_);have S0:=St.init w;refine ab (ah ?_);refine ma h0 rfl rfl fun _ h1=>?_;refine ae (aa (ab ?_));apply ke h1 (fun _=>False) [] [(10,143)] [false,false,false,false,false,false,false,false,false,true,true] _ (by kernel_rfl) ez
 case h=>
  refine qv h1 (fun X hX=>aj (h1.ev rfl)) fun _ h2=>?_;refine qv h2 (fun X hX=>aj (h2.ev rfl)) fun _ h3=>?_;refine qv h3 (fun X hX=>az (i:=i) (sz:=14) Tryz.underlying41 (by kernel_rfl) (h3.ev rfl) (h3.ev rfl) (by omega) (by omega) rfl) fun _ h4=>?_;refine qv h4 (fun X hX=>ai (off:=1) (by kernel_rfl) (h4.ev rfl) rfl) fun _ h5=>?_;refine qv (v:=ee l[i].e) h5 (fun X hX=>ay (by kernel_rfl) (by kernel_rfl) (h5.ev rfl) (dY ((S0.grow (Grw.below hX)).rd0 hr) hi)) fun _ h6=>?_;refine qv h6 (fun X hX=>aj (h6.ev rfl)) fun _ h7=>?_;refine qv h7 (fun X hX=>az (i:=0) (sz:=14) Tryz.underlying41 (by kernel_rfl) (h7.ev rfl) (h7.ev rfl) (by omega) (by omega) rfl) fun _ h8=>?_;refine qv h8 (fun X hX=>ai (off:=0) (by kernel_rfl) (h8.ev rfl) rfl) fun _ h9=>?_;refine qv h9 (fun X hX=>bh (v':=.int .i64 (dB l)) (congrArg _ hfst.symm) (aq (by kernel_rfl) (h9.ev rfl) ((aU aJ ((S0.grow (Grw.below hX)).rd0 hr) (show 0<l.length by omega)) 0 _ rfl))) fun _ h10=>?_;refine aI ?_;apply gS (O:=(fun _=>False)) (k:=9) (deps:=[]) (R:=NewAny _ 13 _) h10 rfl rfl rfl ez NewAny.stable ez (BN NewAny.newT)
  case hx=>exact fun X hX hΦ=>wg (iB (z:=.agg #[.int .i64 0,.int .i64 0,.int .i64 0,.int .i64 0,.int .i64 0,.bool false,.int .i64 0,.int .i64 0,.int .i64 0,.int .i64 0,.string ⟨#[]⟩,.string ⟨#[]⟩,.string ⟨#[]⟩]) (by kernel_rfl)) hX.size rfl
  intro v5 _ h11;apply qR (k:=10) (deps:=[9]) (kx:=9) (x:=5) (y:=19) (Y:=yd _) h11 rfl ⟨rfl,rfl⟩ rfl ez ⟨rfl,rfl⟩ rfl qg rfl rfl (n:=13) (by kernel_rfl) ez
  case hx=>
   intro X hX hΦ;exact⟨(bD (k:=9) hΦ rfl rfl),rfl,rfl⟩
  intro vs10;refine pr (O:=(fun _=>False)) ez fun _ hX12 hΦ12=>?_;obtain⟨b5,rfl,gb5,qb5⟩:=StoY.val (v:=vs10) h11 rfl (bc hΦ12 (k:=10) rfl);have S12:=S0.add (Grw.below hX12) (e:=.box _ _ _) qb5 (fun b hb=>by cases hb;exact⟨gb5,Box.lt qb5⟩);refine ma h11 rfl rfl fun _ h13=>?_;refine ae (aa (ab (ab (ah ?_))));refine vf h13 0 0 rfl rfl rfl fun _ h14=>?_;refine vl h14 S12 0 rfl rfl rfl rfl fun _ h15=>?_;refine sv h15 (aV (h15.ev rfl) (h15.ev rfl)) fun _ h16=>?_;refine ae (aa ?_);refine aC (h16.ev rfl) (fun hc0=>?_) (fun hc0=>?_)
  ·
   rw[if_pos (by simpa using hc0)] at hE;unfold Az at hE;refine ab (ab (ah ?_));refine vf h16 1 1 rfl rfl rfl fun _ h17=>?_;refine vl h17 S12 0 rfl rfl rfl rfl fun _ h18=>?_;refine sv h18 (ba (h18.ev rfl) (h18.ev rfl)) fun _ h19=>?_;refine mv h19 rfl rfl fun _ h20=>?_;apply dL h20 S12 30 rfl 4 34
   case hf=>
    intro gc30;refine sy h20 rfl rfl rfl gc30 (ai (off:=2) (j:=2) (by kernel_rfl) (h20.ev rfl) rfl) rfl rfl fun _ h21=>?_;refine sy h21 rfl rfl rfl gc30 (aq (by kernel_rfl) (h21.ev rfl) (S12.cell (i:=0) rfl rfl)) rfl rfl fun _ h22=>?_;refine sy h22 rfl rfl rfl gc30 (ba (h22.ev rfl) (h22.ev rfl)) rfl rfl fun _ h23=>?_;refine sv h23 (aG (h23.ev rfl) gc30 (h23.ev rfl)) fun _ h24=>?_;exact ae ⟨h24.mid (m:=[(_,_),(_,_),(_,_)]) rfl,S12⟩
   case ht=>
    intro gc30;refine no h20 rfl rfl rfl gc30 rfl rfl fun _ h25=>?_;refine no h25 rfl rfl rfl gc30 rfl rfl fun _ h26=>?_;refine no h26 rfl rfl rfl gc30 rfl rfl fun _ h27=>?_;refine sv h27 (aA (h27.ev rfl) gc30 (h27.ev rfl)) fun _ h28=>?_;exact ae ⟨h28.mid (m:=[(_,_),(_,_),(_,_)]) rfl,S12⟩
   case h=>
    rintro a29 X29 ⟨h29,S29⟩
    refine ae (aa ?_);refine aC (h29.ev rfl) (fun hc1=>?_) (fun hc1=>?_)
    ·
     rw[if_pos (by simpa using hc1)] at hE;refine ab (ah ?_);refine ma h29 rfl rfl fun _ h30=>?_;refine ae (aa (wp_ret (ak (ak ?_))));refine bj h30 rfl rfl ?_;exact⟨by first | (rw[hE];done) | (rw[hE];rfl),S29.below⟩
    ·
     rw[if_neg (by simpa using hc1)] at hE;refine wp_skip (aa (ab (ah ?_)));refine vf h29 12 12 rfl rfl rfl fun _ h31=>?_;refine vl h31 S29 0 rfl rfl rfl rfl fun _ h32=>?_;refine de h32 (wn rfl) (ao (fun _ _=>by kernel_rfl) (h32.evs rfl) rfl) rfl rfl S29 (o3 (bl l[i].e.d) _ hxi.d) fun p38 _ _ h33 S33=>?_;refine mv h33 rfl rfl fun _ h34=>?_;refine sv (v:=bW (dh (bl l[i].e.d)) p38.1 p38.2.1 p38.2.2.1 p38.2.2.2) h34 (bA (h34.ev rfl) rfl) fun _ h35=>?_;refine vx h35 rfl rfl rfl fun _ h36=>?_;refine na (.agg #[.slice none 0 0,.slice none 0 0]) h36 rfl S33 fun b7 _ _ gb7 h37 S37=>?_;refine aF h37 (wn rfl) ⟨rfl,rfl⟩ (h37.ev rfl) (h37.ev rfl) rfl (by kernel_rfl) S37 (i:=0) rfl rfl rfl fun _ S38=>?_;refine ma h37 rfl rfl fun _ h39=>?_;refine ct ?_;refine mv h39 rfl rfl fun _ h40=>?_;refine ma h40 rfl rfl fun _ h41=>?_;refine ae (aa (wp_ret (ak ?_)));refine bj h41 rfl rfl ?_;exact⟨by first | (rw[hE];done) | (rw[hE];rfl),S38.below⟩
  ·
   rw[if_neg (by simpa using hc0)] at hE;refine wp_skip (aa (ab (ab (ah ?_))));refine vf h16 1 1 rfl rfl rfl fun _ h42=>?_;refine vl h42 S12 0 rfl rfl rfl rfl fun _ h43=>?_;refine sv h43 (aV (h43.ev rfl) (h43.ev rfl)) fun _ h44=>?_;refine ae (aa ?_);refine aC (h44.ev rfl) (fun hc2=>?_) (fun hc2=>?_)
   ·
    rw[if_pos (by simpa using hc2)] at hE;refine ab (ah ?_);refine ma h44 rfl rfl fun _ h45=>?_;refine ae (aa (wp_ret (ak ?_)));refine bj h45 rfl rfl ?_;exact⟨by first | (rw[hE];done) | (rw[hE];rfl),S12.below⟩
   ·
    rw[if_neg (by simpa using hc2)] at hE;unfold yz at hE;refine wp_skip (aa (ab (ah ?_)));refine mv h44 rfl rfl fun _ h46=>?_;refine mv h46 rfl rfl fun _ h47=>?_;refine aW h47 (wn rfl) (ao (fun _ _=>by kernel_rfl) (h47.evs rfl) rfl) rfl rfl S12 (k8 l i hi _ c _ (S12.rd0 hr) (by omega)) fun _ _ h48 S48=>?_;refine ma h48 rfl rfl fun _ h49=>?_;refine ct ?_;refine mv h49 rfl rfl fun _ h50=>?_;refine sv h50 (bm (h50.ev rfl) (h50.ev rfl)) fun _ h51=>?_;refine mv h51 rfl rfl fun _ h52=>?_;apply dL (x:=ec l (db l i l[i].e.t).toNat==4) h52 S48 50 rfl 8 58
    case hf=>
     intro gc50;obtain⟨k,hki,hbk,hbh⟩:=gC (l:=l) (i:=i) (t:=l[i].e.t) (by have:=of_decide_eq_false gc50;omega)
     have hkl:k<l.length:=by omega
     have hkk:ec l (db l i l[i].e.t).toNat=l[k].e.k:=by rw[hbk];exact gL hkl
     refine sy h52 rfl rfl rfl gc50 (aj (h52.ev rfl)) rfl rfl fun _ h53=>?_;refine sy h53 rfl rfl rfl gc50 (aj (h53.ev rfl)) rfl rfl fun _ h54=>?_;refine sy h54 rfl rfl rfl gc50 (az (i:=k) (sz:=14) Tryz.underlying41 (by kernel_rfl) (h54.ev rfl) (h54.ev rfl) (by omega) (by omega) rfl) rfl rfl fun _ h55=>?_;refine sy h55 rfl rfl rfl gc50 (ai (off:=1) (by kernel_rfl) (h55.ev rfl) rfl) rfl rfl fun _ h56=>?_;refine sy h56 rfl rfl rfl gc50 (ai (off:=0) (by kernel_rfl) (h56.ev rfl) rfl) rfl rfl fun _ h57=>?_;refine sy h57 rfl rfl rfl gc50 (aq (by kernel_rfl) (h57.ev rfl) ((aU aJ (S48.rd0 hr) hkl) 1 _ rfl)) rfl rfl fun _ h58=>?_;refine sy h58 rfl rfl rfl gc50 (bh (v':=.bool (ec l (db l i l[i].e.t).toNat==4)) (by rw[hkk]) (aV (h58.ev rfl) (h58.ev rfl))) rfl rfl fun _ h59=>?_;refine sv h59 (aG (h59.ev rfl) gc50 (h59.ev rfl)) fun _ h60=>?_;exact ae ⟨h60.mid (m:=[(_,_),(_,_),(_,_),(_,_),(_,_),(_,_),(_,_)]) rfl,S48⟩
    case ht=>
     intro gc50;refine no h52 rfl rfl rfl gc50 rfl rfl fun _ h61=>?_;refine no h61 rfl rfl rfl gc50 rfl rfl fun _ h62=>?_;refine no h62 rfl rfl rfl gc50 rfl rfl fun _ h63=>?_;refine no h63 rfl rfl rfl gc50 rfl rfl fun _ h64=>?_;refine no h64 rfl rfl rfl gc50 rfl rfl fun _ h65=>?_;refine no h65 rfl rfl rfl gc50 rfl rfl fun _ h66=>?_;refine no h66 rfl rfl rfl gc50 rfl rfl fun _ h67=>?_;refine sv h67 (aA (h67.ev rfl) gc50 (h67.ev rfl)) fun _ h68=>?_;exact ae ⟨h68.mid (m:=[(_,_),(_,_),(_,_),(_,_),(_,_),(_,_),(_,_)]) rfl,S48⟩
    case h=>
     rintro a69 X69 ⟨h69,S69⟩
     refine ma h69 rfl rfl fun _ h70=>?_;refine ae (aa (ab (wp_block (ab (ab (ah ?_))))));refine mv h70 rfl rfl fun _ h71=>?_;refine sv h71 (bm (h71.ev rfl) (h71.ev rfl)) fun _ h72=>?_;refine mv h72 rfl rfl fun _ h73=>?_;apply cz h73 S69 62 rfl 5 67
     case ht=>
      intro gc62;refine sy h73 rfl rfl rfl gc62 (ai (off:=2) (j:=2) (by kernel_rfl) (h73.ev rfl) rfl) rfl rfl fun _ h74=>?_;refine sy h74 rfl rfl rfl gc62 (aq (by kernel_rfl) (h74.ev rfl) (S69.cell (i:=0) rfl rfl)) rfl rfl fun _ h75=>?_;refine sy h75 rfl rfl rfl gc62 (aj (h75.ev rfl)) rfl rfl fun _ h76=>?_;refine sy h76 rfl rfl rfl gc62 (iL (h76.ev rfl) (h76.ev rfl)) rfl rfl fun _ h77=>?_;refine sv h77 (aA (h77.ev rfl) gc62 (h77.ev rfl)) fun _ h78=>?_;exact ae ⟨h78.mid (m:=[(_,_),(_,_),(_,_),(_,_)]) rfl,S69⟩
     case hf=>
      intro gc62;refine no h73 rfl rfl rfl gc62 rfl rfl fun _ h79=>?_;refine no h79 rfl rfl rfl gc62 rfl rfl fun _ h80=>?_;refine no h80 rfl rfl rfl gc62 rfl rfl fun _ h81=>?_;refine no h81 rfl rfl rfl gc62 rfl rfl fun _ h82=>?_;refine sv h82 (aG (h82.ev rfl) gc62 (h82.ev rfl)) fun _ h83=>?_;exact ae ⟨h83.mid (m:=[(_,_),(_,_),(_,_),(_,_)]) rfl,S69⟩
     case h=>
      rintro a84 X84 ⟨h84,S84⟩
      refine mv h84 rfl rfl fun _ h85=>?_;apply cz h85 S84 68 rfl 4 72
      case ht=>
       intro gc68;refine sy h85 rfl rfl rfl gc68 (ai (off:=2) (j:=2) (by kernel_rfl) (h85.ev rfl) rfl) rfl rfl fun _ h86=>?_;refine sy h86 rfl rfl rfl gc68 (aq (by kernel_rfl) (h86.ev rfl) (S84.cell (i:=0) rfl rfl)) rfl rfl fun _ h87=>?_;refine sy h87 rfl rfl rfl gc68 (ba (h87.ev rfl) (h87.ev rfl)) rfl rfl fun _ h88=>?_;refine sv h88 (aA (h88.ev rfl) gc68 (h88.ev rfl)) fun _ h89=>?_;exact ae ⟨h89.mid (m:=[(_,_),(_,_),(_,_)]) rfl,S84⟩
      case hf=>
       intro gc68;refine no h85 rfl rfl rfl gc68 rfl rfl fun _ h90=>?_;refine no h90 rfl rfl rfl gc68 rfl rfl fun _ h91=>?_;refine no h91 rfl rfl rfl gc68 rfl rfl fun _ h92=>?_;refine sv h92 (aG (h92.ev rfl) gc68 (h92.ev rfl)) fun _ h93=>?_;exact ae ⟨h93.mid (m:=[(_,_),(_,_),(_,_)]) rfl,S84⟩
      case h=>
       rintro a94 X94 ⟨h94,S94⟩
       refine ma h94 rfl rfl fun _ h95=>?_;refine ae (aa ?_);replace h95:=(h95.re ⟨rfl,rfl,rfl,rfl,rfl,rfl,rfl,rfl,trivial⟩:Has _ _ _ [(59,_),(10,_),(9,_),(6,_),(5,_),(4,_),(0,_),(1,_)]);refine eI h95 S94 [(59,.bool (jG l (bP l l[i].e.t i) l[i].e.p))] [10,9,6,5,4,0,1] ?_ (fun _ _ h96 S96=>?_)
       ·
        refine aC (h95.ev rfl) (fun hc3=>?_) (fun hc3=>?_)
        ·
         refine wp_skip (aa ?_)
         have hg:jG l (bP l l[i].e.t i) l[i].e.p=true:=by rw[hgap,hc3];rfl
         replace h95:=Has.also h95 (t:=59) (v:=.bool (jG l (bP l l[i].e.t i) l[i].e.p)) (by rw[hg];exact congrArg (fun b=>some (Value.bool b)) hc3);exact⟨h95.re ⟨rfl,rfl,rfl,rfl,rfl,rfl,rfl,rfl,trivial⟩,S94⟩
        ·
         refine ab (ah ?_);refine mv h95 rfl rfl fun _ h97=>?_;refine sv h97 (iL (h97.ev rfl) (h97.ev rfl)) fun _ h98=>?_;refine mv h98 rfl rfl fun _ h99=>?_;apply cz h99 S94 75 rfl 2 77
         case ht=>
          intro gc75;refine sy h99 rfl rfl rfl gc75 (aj (h99.ev rfl)) rfl rfl fun _ h100=>?_;refine sv h100 (aA (h100.ev rfl) gc75 (h100.ev rfl)) fun _ h101=>?_;exact ae ⟨h101.mid (m:=[(_,_)]) rfl,S94⟩
         case hf=>
          intro gc75;refine no h99 rfl rfl rfl gc75 rfl rfl fun _ h102=>?_;refine sv h102 (aG (h102.ev rfl) gc75 (h102.ev rfl)) fun _ h103=>?_;exact ae ⟨h103.mid (m:=[(_,_)]) rfl,S94⟩
         case h=>
          rintro a104 X104 ⟨h104,S104⟩
          refine mv h104 rfl rfl fun _ h105=>?_;apply cz h105 S104 78 rfl 4 82
          case ht=>
           intro gc78;refine sy h105 rfl rfl rfl gc78 (ai (off:=2) (j:=2) (by kernel_rfl) (h105.ev rfl) rfl) rfl rfl fun _ h106=>?_;refine sy h106 rfl rfl rfl gc78 (aq (by kernel_rfl) (h106.ev rfl) (S104.cell (i:=0) rfl rfl)) rfl rfl fun _ h107=>?_;refine sy h107 rfl rfl rfl gc78 (ba (h107.ev rfl) (h107.ev rfl)) rfl rfl fun _ h108=>?_;refine sv h108 (aA (h108.ev rfl) gc78 (h108.ev rfl)) fun _ h109=>?_;exact ae ⟨h109.mid (m:=[(_,_),(_,_),(_,_)]) rfl,S104⟩
          case hf=>
           intro gc78;refine no h105 rfl rfl rfl gc78 rfl rfl fun _ h110=>?_;refine no h110 rfl rfl rfl gc78 rfl rfl fun _ h111=>?_;refine no h111 rfl rfl rfl gc78 rfl rfl fun _ h112=>?_;refine sv h112 (aG (h112.ev rfl) gc78 (h112.ev rfl)) fun _ h113=>?_;exact ae ⟨h113.mid (m:=[(_,_),(_,_),(_,_)]) rfl,S104⟩
          case h=>
           rintro a114 X114 ⟨h114,S114⟩
           refine ma h114 rfl rfl fun _ h115=>?_;refine ae (aa ?_);refine aC (h115.ev rfl) (fun hc4=>?_) (fun hc4=>?_)
           ·
            refine wp_skip (aa ?_)
            have hg:jG l (bP l l[i].e.t i) l[i].e.p=true:=by rw[hgap,hc3,hc4];rfl
            replace h115:=Has.also h115 (t:=59) (v:=.bool (jG l (bP l l[i].e.t i) l[i].e.p)) (by rw[hg];exact congrArg (fun b=>some (Value.bool b)) hc4);exact⟨h115.re ⟨rfl,rfl,rfl,rfl,rfl,rfl,rfl,rfl,trivial⟩,S114⟩
           ·
            apply bq h115 [false,false,false,false,false,false,false,false,false,false,false,false] _ (by kernel_rfl)
            case h=>
             refine qv h115 (fun X hX=>aj (h115.ev rfl)) fun _ h116=>?_;refine qv h116 (fun X hX=>cg (h116.ev rfl)) fun _ h117=>?_;refine qv h117 (fun X hX=>aj (h117.ev rfl)) fun _ h118=>?_;apply mj (x:=l[i].e.p != je l (db l i l[i].e.t).toNat) h118 85 rfl 9 94
             case ht=>
              intro gc85;obtain⟨k,hki,hbk,hbh,_⟩:=kC (l:=l) (i:=i) (t:=l[i].e.t) ((Bool.not_eq_true' _).mp gc85)
              have hkl:k<l.length:=by omega
              have hkk:je l (db l i l[i].e.t).toNat=l[k].l:=by rw[hbk];exact mh hkl
              refine ar h118 (ag h118 _ rfl rfl rfl gc85) rfl rfl (fun X hX=>(ai (off:=2) (j:=2) (by kernel_rfl) (h118.ev rfl) rfl)) fun _ h119=>?_;refine ar h119 (ag h119 _ rfl rfl rfl gc85) rfl rfl (fun X hX=>(aq (by kernel_rfl) (h119.ev rfl) ((S114.grow hX).cell (i:=0) rfl rfl))) fun _ h120=>?_;refine ar h120 (ag h120 _ rfl rfl rfl gc85) rfl rfl (fun X hX=>(aj (h120.ev rfl))) fun _ h121=>?_;refine ar h121 (ag h121 _ rfl rfl rfl gc85) rfl rfl (fun X hX=>(aj (h121.ev rfl))) fun _ h122=>?_;refine ar h122 (ag h122 _ rfl rfl rfl gc85) rfl rfl (fun X hX=>(az (i:=k) (sz:=14) Tryz.underlying41 (by kernel_rfl) (h122.ev rfl) (h122.ev rfl) (by omega) (by omega) rfl)) fun _ h123=>?_;refine ar h123 (ag h123 _ rfl rfl rfl gc85) rfl rfl (fun X hX=>(ai (off:=0) (by kernel_rfl) (h123.ev rfl) rfl)) fun _ h124=>?_;refine ar h124 (ag h124 _ rfl rfl rfl gc85) rfl rfl (fun X hX=>(aq (by kernel_rfl) (h124.ev rfl) ((aU aJ ((S114.grow hX).rd0 hr) hkl) 0 _ rfl))) fun _ h125=>?_;refine ar h125 (ag h125 _ rfl rfl rfl gc85) rfl rfl (fun X hX=>(bh (v':=.bool (l[i].e.p != je l (db l i l[i].e.t).toNat)) (by rw[hkk]) (ba (h125.ev rfl) (h125.ev rfl)))) fun _ h126=>?_;refine qv h126 (fun X hX=>aA (h126.ev rfl) gc85 (h126.ev rfl)) fun _ h127=>?_;exact aI (h127.mid (m:=[(_,_),(_,_),(_,_),(_,_),(_,_),(_,_),(_,_),(_,_)]) rfl)
             case hf=>
              intro gc85;refine qo h118 rfl rfl rfl gc85 rfl rfl fun _ h128=>?_;refine qo h128 rfl rfl rfl gc85 rfl rfl fun _ h129=>?_;refine qo h129 rfl rfl rfl gc85 rfl rfl fun _ h130=>?_;refine qo h130 rfl rfl rfl gc85 rfl rfl fun _ h131=>?_;refine qo h131 rfl rfl rfl gc85 rfl rfl fun _ h132=>?_;refine qo h132 rfl rfl rfl gc85 rfl rfl fun _ h133=>?_;refine qo h133 rfl rfl rfl gc85 rfl rfl fun _ h134=>?_;refine qo h134 rfl rfl rfl gc85 rfl rfl fun _ h135=>?_;refine qv h135 (fun X hX=>aG (h135.ev rfl) gc85 (h135.ev rfl)) fun _ h136=>?_;exact aI (h136.mid (m:=[(_,_),(_,_),(_,_),(_,_),(_,_),(_,_),(_,_),(_,_)]) rfl)
             case h=>
              intro _ h137;refine aI ?_;refine bF fun _ hX138 hΦ138=>?_;have S138:=S114.grow hX138;refine ma h137 rfl rfl fun _ h139=>?_;refine ae (aa ?_)
              have hg:jG l (bP l l[i].e.t i) l[i].e.p=(!(decide (db l i l[i].e.t<0)||(ec l (db l i l[i].e.t).toNat==4))&&(l[i].e.p != je l (db l i l[i].e.t).toNat)):=by rw[hgap,hc3,hc4];rfl
              replace h139:=Has.also h139 (t:=59) (v:=.bool (jG l (bP l l[i].e.t i) l[i].e.p)) (by rw[hg];rfl);exact⟨h139.re ⟨rfl,rfl,rfl,rfl,rfl,rfl,rfl,rfl,trivial⟩,S138⟩
            case hB=>kernel_rfl
            case hst=>rfl
       ·
        refine aa ?_;refine aC (h96.ev rfl) (fun hc5=>?_) (fun hc5=>?_)
        ·
         rw[if_pos hc5] at hE;refine ab (ah ?_);refine ma h96 rfl rfl fun _ h140=>?_;refine ae (aa (wp_ret (aB (ak ?_))));refine bj h140 rfl rfl ?_;exact⟨by first | (rw[hE];done) | (rw[hE];rfl),S96.below⟩
        ·
         rw[if_neg (by rw[hc5];decide)] at hE;refine wp_skip (aM (aa (ab (ah ?_))));refine ma h96 rfl rfl fun _ h141=>?_;refine ae (aa (ab (ab (ah ?_))));refine mv h141 rfl rfl fun _ h142=>?_;refine sv h142 (cg (h142.ev rfl)) fun _ h143=>?_;refine ae (aa ?_);replace h143:=(h143.re ⟨rfl,rfl,rfl,rfl,rfl,rfl,rfl,rfl,rfl,trivial⟩:Has _ _ _ [(96,_),(11,_),(10,_),(9,_),(6,_),(5,_),(4,_),(0,_),(1,_)]);refine eI h143 S96 [(11,.int .i64 (cN l (bP l l[i].e.t i)))] [10,9,6,5,4,0,1] ?_ (fun _ _ h144 S144=>?_)
         ·
          refine aC (h143.ev rfl) (fun hc6=>?_) (fun hc6=>?_)
          ·
           have hfr:tx l (db l i l[i].e.t)=false:=(Bool.not_eq_true' _).mp hc6;obtain⟨k,hki,hbk,hbh,_⟩:=kC (l:=l) (i:=i) (t:=l[i].e.t) hfr
           have hkl:k<l.length:=by omega
           refine ah ?_;refine mv h143 rfl rfl fun _ h145=>?_;refine mv h145 rfl rfl fun _ h146=>?_;refine sv h146 (az (i:=k) (sz:=14) Tryz.underlying41 (by kernel_rfl) (h146.ev rfl) (h146.ev rfl) (by omega) (by omega) rfl) fun _ h147=>?_;refine sv h147 (ai (off:=1) (by kernel_rfl) (h147.ev rfl) rfl) fun _ h148=>?_;refine sv h148 (ai (off:=0) (by kernel_rfl) (h148.ev rfl) rfl) fun _ h149=>?_;refine sv h149 (aq (by kernel_rfl) (h149.ev rfl) ((aU aJ (S96.rd0 hr) hkl) 1 _ rfl)) fun _ h150=>?_;refine ma h150 rfl rfl fun _ h151=>?_;refine ae (aa ?_)
           have hq:cN l (bP l l[i].e.t i)=l[k].e.k:=by rw[hlst,hfr,hbk,Int.toNat_natCast,if_neg (by decide),gL hkl]
           replace h151:=Has.also h151 (t:=11) (v:=.int .i64 (cN l (bP l l[i].e.t i))) (by rw[hq];rfl);exact⟨h151.re ⟨rfl,rfl,rfl,rfl,rfl,rfl,rfl,rfl,trivial⟩,S96⟩
          ·
           have hfr:tx l (db l i l[i].e.t)=true:=(Bool.not_eq_false' _).mp hc6;refine wp_skip (aa ?_)
           have hq:cN l (bP l l[i].e.t i)=0:=by rw[hlst,hfr];rfl
           replace h143:=Has.also h143 (t:=11) (v:=.int .i64 (cN l (bP l l[i].e.t i))) (by rw[hq];rfl);exact⟨h143.re ⟨rfl,rfl,rfl,rfl,rfl,rfl,rfl,rfl,trivial⟩,S96⟩
         ·
          refine aa (ab (ab (ah ?_)));refine mv h144 rfl rfl fun _ h152=>?_;refine ae (aa (wp_block (ab (ah ?_))));refine sv h152 (aV (h152.ev rfl) (h152.ev rfl)) fun _ h153=>?_;refine ma h153 rfl rfl fun _ h154=>?_;refine ae (aa ?_);replace h154:=(h154.re ⟨rfl,rfl,rfl,rfl,rfl,rfl,rfl,rfl,rfl,trivial⟩:Has _ _ _ [(104,_),(103,_),(10,_),(9,_),(6,_),(5,_),(4,_),(0,_),(1,_)]);refine w4 (F:=¬(cN l (bP l l[i].e.t i)=2∧l[i].e.k≠4)∧¬((cN l (bP l l[i].e.t i)=3∨cN l (bP l l[i].e.t i)=1)∧l[i].e.k≠1∧l[i].e.k≠4)) h154 S144 [] [10,9,6,5,0,1] ?_ (fun _ _ h155 S155 hst=>?_)
          ·
           refine aC (h154.ev rfl) (fun hc7=>?_) (fun hc7=>?_)
           ·
            have h2:cN l (bP l l[i].e.t i)=2:=by simpa using hc7
            refine ab (ah ?_);refine vf h154 0 0 rfl rfl rfl fun _ h156=>?_;refine vl h156 S144 0 rfl rfl rfl rfl fun _ h157=>?_;refine sv h157 (ba (h157.ev rfl) (h157.ev rfl)) fun _ h158=>?_;refine ae (aa ?_);refine aC (h158.ev rfl) (fun hc8=>?_) (fun hc8=>?_)
            ·
             rw[if_pos ⟨h2,by simpa using hc8⟩] at hE;refine ab (ah ?_);refine ma h158 rfl rfl fun _ h159=>?_;refine ae (aa (wp_ret (ak (aB (ak ?_)))));refine bj h159 rfl rfl ?_;exact⟨by first | (rw[hE];done) | (rw[hE];rfl),S144.below⟩
            ·
             refine wp_skip (aa ?_);have hst:¬(cN l (bP l l[i].e.t i)=2∧l[i].e.k≠4)∧¬((cN l (bP l l[i].e.t i)=3∨cN l (bP l l[i].e.t i)=1)∧l[i].e.k≠1∧l[i].e.k≠4):=⟨fun q=>q.2 (by simpa using hc8),fun q=>by omega⟩;exact⟨h158.re ⟨rfl,rfl,rfl,rfl,rfl,rfl,trivial⟩,S144,hst⟩
           ·
            have h2:cN l (bP l l[i].e.t i)≠2:=by simpa using hc7
            refine ab (ab (ah ?_));refine sv h154 (aV (h154.ev rfl) (h154.ev rfl)) fun _ h160=>?_;refine ma h160 rfl rfl fun _ h161=>?_;refine ae (aa ?_);replace h161:=(h161.re ⟨rfl,rfl,rfl,rfl,rfl,rfl,rfl,rfl,rfl,trivial⟩:Has _ _ _ [(109,_),(103,_),(10,_),(9,_),(6,_),(5,_),(4,_),(0,_),(1,_)]);refine eI h161 S144 [(109,.bool (cN l (bP l l[i].e.t i)==3||cN l (bP l l[i].e.t i)==1))] [10,9,6,5,4,0,1] ?_ (fun _ _ h162 S162=>?_)
            ·
             refine aC (h161.ev rfl) (fun hc9=>?_) (fun hc9=>?_)
             ·
              refine wp_skip (aa ?_);replace h161:=Has.also h161 (t:=109) (v:=.bool (cN l (bP l l[i].e.t i)==3||cN l (bP l l[i].e.t i)==1)) (by rw[hc9];rfl);exact⟨h161.re ⟨rfl,rfl,rfl,rfl,rfl,rfl,rfl,rfl,trivial⟩,S144⟩
             ·
              refine ah ?_;refine sv h161 (aV (h161.ev rfl) (h161.ev rfl)) fun _ h163=>?_;refine ma h163 rfl rfl fun _ h164=>?_;refine ae (aa ?_);replace h164:=Has.also h164 (t:=109) (v:=.bool (cN l (bP l l[i].e.t i)==3||cN l (bP l l[i].e.t i)==1)) (by rw[hc9];rfl);exact⟨h164.re ⟨rfl,rfl,rfl,rfl,rfl,rfl,rfl,rfl,trivial⟩,S144⟩
            ·
             refine aa ?_;refine aC (h162.ev rfl) (fun hc10=>?_) (fun hc10=>?_)
             ·
              refine ab (ah ?_);refine vf h162 0 0 rfl rfl rfl fun _ h165=>?_;refine vl h165 S162 0 rfl rfl rfl rfl fun _ h166=>?_;refine sv h166 (ba (h166.ev rfl) (h166.ev rfl)) fun _ h167=>?_;refine mv h167 rfl rfl fun _ h168=>?_;apply cz h168 S162 115 rfl 4 119
              case ht=>
               intro gc115;refine sy h168 rfl rfl rfl gc115 (ai (off:=0) (j:=0) (by kernel_rfl) (h168.ev rfl) rfl) rfl rfl fun _ h169=>?_;refine sy h169 rfl rfl rfl gc115 (aq (by kernel_rfl) (h169.ev rfl) (S162.cell (i:=0) rfl rfl)) rfl rfl fun _ h170=>?_;refine sy h170 rfl rfl rfl gc115 (ba (h170.ev rfl) (h170.ev rfl)) rfl rfl fun _ h171=>?_;refine sv h171 (aA (h171.ev rfl) gc115 (h171.ev rfl)) fun _ h172=>?_;exact ae ⟨h172.mid (m:=[(_,_),(_,_),(_,_)]) rfl,S162⟩
              case hf=>
               intro gc115;refine no h168 rfl rfl rfl gc115 rfl rfl fun _ h173=>?_;refine no h173 rfl rfl rfl gc115 rfl rfl fun _ h174=>?_;refine no h174 rfl rfl rfl gc115 rfl rfl fun _ h175=>?_;refine sv h175 (aG (h175.ev rfl) gc115 (h175.ev rfl)) fun _ h176=>?_;exact ae ⟨h176.mid (m:=[(_,_),(_,_),(_,_)]) rfl,S162⟩
              case h=>
               rintro a177 X177 ⟨h177,S177⟩
               refine ae (aa ?_);refine aC (h177.ev rfl) (fun hc11=>?_) (fun hc11=>?_)
               ·
                rw[if_neg (fun q=>h2 q.1),if_pos ⟨by simpa using hc10,by simpa using hc11⟩] at hE;refine ab (ah ?_);refine ma h177 rfl rfl fun _ h178=>?_;refine ae (aa (wp_ret (ak (aB (ak ?_)))));refine bj h178 rfl rfl ?_;exact⟨by first | (rw[hE];done) | (rw[hE];rfl),S177.below⟩
               ·
                refine wp_skip (aa ?_)
                have hst:¬(cN l (bP l l[i].e.t i)=2∧l[i].e.k≠4)∧¬((cN l (bP l l[i].e.t i)=3∨cN l (bP l l[i].e.t i)=1)∧l[i].e.k≠1∧l[i].e.k≠4):=⟨fun q=>h2 q.1,fun q=>by
                 rw[show(l[i].e.k != 1)=true by simpa using q.2.1,show(l[i].e.k != 4)=true by simpa using q.2.2] at hc11
                 cases hc11⟩
                exact⟨h177.re ⟨rfl,rfl,rfl,rfl,rfl,rfl,trivial⟩,S177,hst⟩
             ·
              refine wp_skip (aa ?_)
              have hst:¬(cN l (bP l l[i].e.t i)=2∧l[i].e.k≠4)∧¬((cN l (bP l l[i].e.t i)=3∨cN l (bP l l[i].e.t i)=1)∧l[i].e.k≠1∧l[i].e.k≠4):=⟨fun q=>h2 q.1,fun q=>by
               have:=q.1;simp only[Bool.or_eq_false_iff,beq_eq_false_iff_ne] at hc10;rcases this with h | h
               · exact hc10.1 h
               · exact hc10.2 h⟩
              exact⟨h162.re ⟨rfl,rfl,rfl,rfl,rfl,rfl,trivial⟩,S162,hst⟩
          ·
           rw[if_neg hst.1,if_neg hst.2] at hE;refine aM (aa (ab (ab (ah ?_))));refine vf h155 0 0 rfl rfl rfl fun _ h179=>?_;refine vl h179 S155 0 rfl rfl rfl rfl fun _ h180=>?_;refine sv h180 (ba (h180.ev rfl) (h180.ev rfl)) fun _ h181=>?_;refine ae (aa ?_);refine aC (h181.ev rfl) (fun hc12=>?_) (fun hc12=>?_)
           ·
            rw[if_pos (by simpa using hc12)] at hE;refine ab (ah ?_);refine ma h181 rfl rfl fun _ h182=>?_;refine ae (aa (wp_ret (ak ?_)));refine bj h182 rfl rfl ?_;exact⟨by first | (rw[hE];done) | (rw[hE];rfl),S155.below⟩
           ·
            rw[if_neg (by simpa using hc12)] at hE;refine wp_skip (aa (ab (ah ?_)));refine ma h181 rfl rfl fun _ h183=>?_;refine ae (aa (ab (ab (ah ?_))));refine mv h183 rfl rfl fun _ h184=>?_;refine sv h184 (cg (h184.ev rfl)) fun _ h185=>?_;refine ae (aa ?_);replace h185:=(h185.re ⟨rfl,rfl,rfl,rfl,rfl,rfl,rfl,trivial⟩:Has _ _ _ [(124,_),(12,_),(9,_),(6,_),(5,_),(0,_),(1,_)]);refine eI h185 S155 [(12,.int .i64 (jW l (bP l l[i].e.t i) l[i].e.p))] [6,5,0,1] ?_ (fun _ _ h186 S186=>?_)
            ·
             refine aC (h185.ev rfl) (fun hc13=>?_) (fun hc13=>?_)
             ·
              have hfr:tx l (db l i l[i].e.t)=false:=(Bool.not_eq_true' _).mp hc13;obtain⟨k,hki,hbk,hbh,_⟩:=kC (l:=l) (i:=i) (t:=l[i].e.t) hfr
              have hkl:k<l.length:=by omega
              refine ah ?_;refine mv h185 rfl rfl fun _ h187=>?_;refine sv h187 (bh (v':=.int .i64 (k:Nat)) (by rw[hbk]) (aj (h187.ev rfl))) fun _ h188=>?_;refine aW h188 (wn rfl) (ao (fun _ _=>by kernel_rfl) (h188.evs rfl) rfl) rfl rfl S155 (uo l k hkl _ c _ (S155.rd0 hr) (by omega)) fun _ _ h189 S189=>?_;refine ma h189 rfl rfl fun _ h190=>?_;refine ae (aa ?_)
              have hq:jW l (bP l l[i].e.t i) l[i].e.p=gZ l k:=by rw[hund,hfr,hbk,Int.toNat_natCast,if_neg (by decide)]
              replace h190:=Has.also h190 (t:=12) (v:=.int .i64 (jW l (bP l l[i].e.t i) l[i].e.p)) (by rw[hq];rfl);exact⟨h190.re ⟨rfl,rfl,rfl,rfl,rfl,trivial⟩,S189⟩
             ·
              have hfr:tx l (db l i l[i].e.t)=true:=(Bool.not_eq_false' _).mp hc13;refine ab (ah ?_);refine vf h185 2 2 rfl rfl rfl fun _ h191=>?_;refine vl h191 S155 0 rfl rfl rfl rfl fun _ h192=>?_;refine sv h192 (aV (h192.ev rfl) (h192.ev rfl)) fun _ h193=>?_;refine ae (aa ?_);refine aC (h193.ev rfl) (fun hc14=>?_) (fun hc14=>?_)
              ·
               refine ah ?_;refine ma h193 rfl rfl fun _ h194=>?_;refine ae (aa ?_)
               have hq:jW l (bP l l[i].e.t i) l[i].e.p=0:=by rw[hund,hfr,if_pos rfl,if_pos (by simpa using hc14)]
               replace h194:=Has.also h194 (t:=12) (v:=.int .i64 (jW l (bP l l[i].e.t i) l[i].e.p)) (by rw[hq];rfl);exact⟨h194.re ⟨rfl,rfl,rfl,rfl,rfl,trivial⟩,S155⟩
              ·
               refine wp_skip (aa ?_)
               have hq:jW l (bP l l[i].e.t i) l[i].e.p = -1:=by rw[hund,hfr,if_pos rfl,if_neg (by simpa using hc14)]
               replace h193:=Has.also h193 (t:=12) (v:=.int .i64 (jW l (bP l l[i].e.t i) l[i].e.p)) (by rw[hq];rfl);exact⟨h193.re ⟨rfl,rfl,rfl,rfl,rfl,trivial⟩,S155⟩
            ·
             clear hund;generalize jW l (bP l l[i].e.t i) l[i].e.p=n at h186 hE;refine aa (ab (ab (ah ?_)));refine mv h186 rfl rfl fun _ h195=>?_;refine sv h195 (aV (h195.ev rfl) (h195.ev rfl)) fun _ h196=>?_;refine ae (aa ?_);refine aC (h196.ev rfl) (fun hc15=>?_) (fun hc15=>?_)
             ·
              have hn0:n=0:=by simpa using hc15
              have hE:E=13:=by rw[hE];unfold ku;rw[if_pos hn0]
              refine ab (ah ?_);refine ma h196 rfl rfl fun _ h197=>?_;refine ae (aa (wp_ret (ak ?_)));refine bj h197 rfl rfl ?_;exact⟨by first | (rw[hE];done) | (rw[hE];rfl),S186.below⟩
             ·
              have hn0:n≠0:=by simpa using hc15
              refine wp_skip (aa (ab (ah ?_)));refine ma h196 rfl rfl fun _ h198=>?_;refine ae (aa (ab (ab (ah ?_))));refine mv h198 rfl rfl fun _ h199=>?_;refine sv h199 (ba (h199.ev rfl) (h199.ev rfl)) fun _ h200=>?_;refine ae (aa ?_);replace h200:=(h200.re ⟨rfl,rfl,rfl,rfl,rfl,rfl,rfl,trivial⟩:Has _ _ _ [(134,_),(13,_),(12,_),(6,_),(5,_),(0,_),(1,_)]);refine eI h200 S186 [(13,.int .i64 (jb Rcd.l n (l.take i) 0))] [6,5,0] ?_ (fun _ _ h201 S201=>?_)
              ·
               refine aC (h200.ev rfl) (fun hc16=>?_) (fun hc16=>?_)
               ·
                refine ah ?_;refine mv h200 rfl rfl fun _ h202=>?_;refine mv h202 rfl rfl fun _ h203=>?_;refine sv h203 (gy (l:=0) (h:=i) (sz:=14) Tryz.underlying41 (by kernel_rfl) (h203.ev rfl) rfl (h203.ev rfl) (by omega) (by omega) (.inr rfl) rfl) fun _ h204=>?_;refine mv h204 rfl rfl fun _ h205=>?_;refine aW h205 (wn rfl) (ao (fun _ _=>by kernel_rfl) (h205.evs rfl) rfl) rfl rfl S186 (hlti▸tV (l.take i) n _ c _ (S186.rd0 hrt) (by omega)) fun _ _ h206 S206=>?_;refine ma h206 rfl rfl fun _ h207=>?_;refine ae (aa ?_);exact⟨h207.re ⟨rfl,rfl,rfl,rfl,trivial⟩,S206⟩
               ·
                refine wp_skip (aa ?_)
                have hn1:n = -1:=by simpa using hc16
                replace h200:=Has.also h200 (t:=13) (v:=.int .i64 (jb Rcd.l n (l.take i) 0)) (by rw[AI hv (by omega)];rfl);exact⟨h200.re ⟨rfl,rfl,rfl,rfl,trivial⟩,S186⟩
              ·
               refine aa (ab (ab (ah ?_)));refine mv h201 rfl rfl fun _ h208=>?_;refine sv h208 (bm (h208.ev rfl) (h208.ev rfl)) fun _ h209=>?_;refine ae (aa ?_);refine aC (h209.ev rfl) (fun hc17=>?_) (fun hc17=>?_)
               ·
                have hnf:cH (l.take i) n=none:=gK (of_decide_eq_true hc17);unfold ku at hE;rw[if_neg hn0,hnf] at hE;simp only[] at hE;refine ab (ab (ah ?_));refine vf h209 3 3 rfl rfl rfl fun _ h210=>?_;refine vl h210 S201 0 rfl rfl rfl rfl fun _ h211=>?_;refine mv h211 rfl rfl fun _ h212=>?_;refine sv h212 (iL (h212.ev rfl) (h212.ev rfl)) fun _ h213=>?_;refine ae (aa ?_);refine aC (h213.ev rfl) (fun hc18=>?_) (fun hc18=>?_)
                ·
                 rw[if_pos (by have:=of_decide_eq_true hc18;omega)] at hE;refine ab (ah ?_);refine ma h213 rfl rfl fun _ h214=>?_;refine ae (aa (wp_ret (ak (ak ?_))));refine bj h214 rfl rfl ?_;exact⟨by first | (rw[hE];done) | (rw[hE];rfl),S201.below⟩
                ·
                 rw[if_neg (by have:=of_decide_eq_false hc18;omega)] at hE;refine wp_skip (aa (ab (ah ?_)));refine ma h213 rfl rfl fun _ h215=>?_;refine ae (aa (wp_ret (ak ?_)));refine bj h215 rfl rfl ?_;exact⟨by first | (rw[hE];done) | (rw[hE];rfl),S201.below⟩
               ·
                obtain⟨k,hk,hik,_,hfk⟩:=eG (of_decide_eq_false hc17);rw[Nat.zero_add] at hik
                have hki:k<i:=by omega
                have hkl:k<l.length:=by omega
                have hge:(l.take i)[k]=l[k]:=List.getElem_take ..;have hE:=hE.trans (xg (u:=l[k]) hn0 (hge▸hfk));have hoE:dJ l[k].e.o=0:=tM (hv.e0 hki).2.2;refine wp_skip (aa (ab (ah ?_)));refine mv h209 rfl rfl fun _ h216=>?_;refine mv h216 rfl rfl fun _ h217=>?_;refine sv h217 (az (i:=k) (sz:=14) Tryz.underlying41 (by kernel_rfl) (h217.ev rfl) (h217.ev rfl) (by omega) (by omega) rfl) fun _ h218=>?_;refine sv h218 (ai (off:=1) (by kernel_rfl) (h218.ev rfl) rfl) fun _ h219=>?_;refine sv (v:=ee l[k].e) h219 (ay (by kernel_rfl) (by kernel_rfl) (h219.ev rfl) (dY (S201.rd0 hr) hkl)) fun _ h220=>?_;refine na (.agg #[.int .i64 0,.int .i64 0,.int .i64 0,.int .i64 0,.int .i64 0,.bool false,.int .i64 0,.int .i64 0,.int .i64 0,.int .i64 0,.string ⟨#[]⟩,.string ⟨#[]⟩,.string ⟨#[]⟩]) h220 rfl S201 fun b14 _ _ gb14 h221 S221=>?_;refine aF h221 (wn rfl) ⟨rfl,rfl⟩ (h221.ev rfl) (h221.ev rfl) rfl (by kernel_rfl) S221 (i:=0) rfl rfl rfl fun _ S222=>?_;refine ae (aa (ab (ab ?_)));apply bq h221 [false,false,false,false,false,false,false,false,false,false,false,false,false,false,false,false,false,false,false,false,false,false,false,false,false,false,false,false,false,false,false,false,false,false,false,false,false,false] _ (by kernel_rfl)
                case h=>
                 refine qv h221 (fun X hX=>ai (off:=0) (j:=0) (by kernel_rfl) (h221.ev rfl) rfl) fun _ h223=>?_;refine qv h223 (fun X hX=>aq (by kernel_rfl) (h223.ev rfl) ((S222.grow hX).cell (i:=0) rfl rfl)) fun _ h224=>?_;refine qv h224 (fun X hX=>ba (h224.ev rfl) (h224.ev rfl)) fun _ h225=>?_;refine qv h225 (fun X hX=>aj (h225.ev rfl)) fun _ h226=>?_;apply ij (x:=l[k].e.t != l[i].e.t) h226 154 rfl 6 160
                 case hf=>
                  intro gc154;refine ar h226 (ag h226 _ rfl rfl rfl gc154) rfl rfl (fun X hX=>(ai (off:=1) (j:=1) (by kernel_rfl) (h226.ev rfl) rfl)) fun _ h227=>?_;refine ar h227 (ag h227 _ rfl rfl rfl gc154) rfl rfl (fun X hX=>(aq (by kernel_rfl) (h227.ev rfl) ((S222.grow hX).cell (i:=0) rfl rfl))) fun _ h228=>?_;refine ar h228 (ag h228 _ rfl rfl rfl gc154) rfl rfl (fun X hX=>(ai (off:=1) (j:=1) (by kernel_rfl) (h228.ev rfl) rfl)) fun _ h229=>?_;refine ar h229 (ag h229 _ rfl rfl rfl gc154) rfl rfl (fun X hX=>(aq (by kernel_rfl) (h229.ev rfl) ((S222.grow hX).cell (i:=1) rfl rfl))) fun _ h230=>?_;refine ar h230 (ag h230 _ rfl rfl rfl gc154) rfl rfl (fun X hX=>(ba (h230.ev rfl) (h230.ev rfl))) fun _ h231=>?_;refine qv h231 (fun X hX=>aG (h231.ev rfl) gc154 (h231.ev rfl)) fun _ h232=>?_;exact aI (h232.mid (m:=[(_,_),(_,_),(_,_),(_,_),(_,_)]) rfl)
                 case ht=>
                  intro gc154;refine qo h226 rfl rfl rfl gc154 rfl rfl fun _ h233=>?_;refine qo h233 rfl rfl rfl gc154 rfl rfl fun _ h234=>?_;refine qo h234 rfl rfl rfl gc154 rfl rfl fun _ h235=>?_;refine qo h235 rfl rfl rfl gc154 rfl rfl fun _ h236=>?_;refine qo h236 rfl rfl rfl gc154 rfl rfl fun _ h237=>?_;refine qv h237 (fun X hX=>aA (h237.ev rfl) gc154 (h237.ev rfl)) fun _ h238=>?_;exact aI (h238.mid (m:=[(_,_),(_,_),(_,_),(_,_),(_,_)]) rfl)
                 case h=>
                  intro _ h239;refine qv h239 (fun X hX=>aj (h239.ev rfl)) fun _ h240=>?_;apply ij (x:=l[i].e.x != l[k].e.p) h240 161 rfl 6 167
                  case hf=>
                   intro gc161;refine ar h240 (ag h240 _ rfl rfl rfl gc161) rfl rfl (fun X hX=>(ai (off:=3) (j:=3) (by kernel_rfl) (h240.ev rfl) rfl)) fun _ h241=>?_;refine ar h241 (ag h241 _ rfl rfl rfl gc161) rfl rfl (fun X hX=>(aq (by kernel_rfl) (h241.ev rfl) ((S222.grow hX).cell (i:=1) rfl rfl))) fun _ h242=>?_;refine ar h242 (ag h242 _ rfl rfl rfl gc161) rfl rfl (fun X hX=>(ai (off:=2) (j:=2) (by kernel_rfl) (h242.ev rfl) rfl)) fun _ h243=>?_;refine ar h243 (ag h243 _ rfl rfl rfl gc161) rfl rfl (fun X hX=>(aq (by kernel_rfl) (h243.ev rfl) ((S222.grow hX).cell (i:=0) rfl rfl))) fun _ h244=>?_;refine ar h244 (ag h244 _ rfl rfl rfl gc161) rfl rfl (fun X hX=>(ba (h244.ev rfl) (h244.ev rfl))) fun _ h245=>?_;refine qv h245 (fun X hX=>aG (h245.ev rfl) gc161 (h245.ev rfl)) fun _ h246=>?_;exact aI (h246.mid (m:=[(_,_),(_,_),(_,_),(_,_),(_,_)]) rfl)
                  case ht=>
                   intro gc161;refine qo h240 rfl rfl rfl gc161 rfl rfl fun _ h247=>?_;refine qo h247 rfl rfl rfl gc161 rfl rfl fun _ h248=>?_;refine qo h248 rfl rfl rfl gc161 rfl rfl fun _ h249=>?_;refine qo h249 rfl rfl rfl gc161 rfl rfl fun _ h250=>?_;refine qo h250 rfl rfl rfl gc161 rfl rfl fun _ h251=>?_;refine qv h251 (fun X hX=>aA (h251.ev rfl) gc161 (h251.ev rfl)) fun _ h252=>?_;exact aI (h252.mid (m:=[(_,_),(_,_),(_,_),(_,_),(_,_)]) rfl)
                  case h=>
                   intro _ h253;refine qv h253 (fun X hX=>aj (h253.ev rfl)) fun _ h254=>?_;apply ij (x:=l[i].e.g != l[k].e.g) h254 168 rfl 6 174
                   case hf=>
                    intro gc168;refine ar h254 (ag h254 _ rfl rfl rfl gc168) rfl rfl (fun X hX=>(ai (off:=4) (j:=4) (by kernel_rfl) (h254.ev rfl) rfl)) fun _ h255=>?_;refine ar h255 (ag h255 _ rfl rfl rfl gc168) rfl rfl (fun X hX=>(aq (by kernel_rfl) (h255.ev rfl) ((S222.grow hX).cell (i:=1) rfl rfl))) fun _ h256=>?_;refine ar h256 (ag h256 _ rfl rfl rfl gc168) rfl rfl (fun X hX=>(ai (off:=4) (j:=4) (by kernel_rfl) (h256.ev rfl) rfl)) fun _ h257=>?_;refine ar h257 (ag h257 _ rfl rfl rfl gc168) rfl rfl (fun X hX=>(aq (by kernel_rfl) (h257.ev rfl) ((S222.grow hX).cell (i:=0) rfl rfl))) fun _ h258=>?_;refine ar h258 (ag h258 _ rfl rfl rfl gc168) rfl rfl (fun X hX=>(ba (h258.ev rfl) (h258.ev rfl))) fun _ h259=>?_;refine qv h259 (fun X hX=>aG (h259.ev rfl) gc168 (h259.ev rfl)) fun _ h260=>?_;exact aI (h260.mid (m:=[(_,_),(_,_),(_,_),(_,_),(_,_)]) rfl)
                   case ht=>
                    intro gc168;refine qo h254 rfl rfl rfl gc168 rfl rfl fun _ h261=>?_;refine qo h261 rfl rfl rfl gc168 rfl rfl fun _ h262=>?_;refine qo h262 rfl rfl rfl gc168 rfl rfl fun _ h263=>?_;refine qo h263 rfl rfl rfl gc168 rfl rfl fun _ h264=>?_;refine qo h264 rfl rfl rfl gc168 rfl rfl fun _ h265=>?_;refine qv h265 (fun X hX=>aA (h265.ev rfl) gc168 (h265.ev rfl)) fun _ h266=>?_;exact aI (h266.mid (m:=[(_,_),(_,_),(_,_),(_,_),(_,_)]) rfl)
                   case h=>
                    intro _ h267;refine qv h267 (fun X hX=>aj (h267.ev rfl)) fun _ h268=>?_;apply ij (x:=l[i].e.f != l[k].e.f) h268 175 rfl 6 181
                    case hf=>
                     intro gc175;refine ar h268 (ag h268 _ rfl rfl rfl gc175) rfl rfl (fun X hX=>(ai (off:=5) (j:=5) (by kernel_rfl) (h268.ev rfl) rfl)) fun _ h269=>?_;refine ar h269 (ag h269 _ rfl rfl rfl gc175) rfl rfl (fun X hX=>(aq (by kernel_rfl) (h269.ev rfl) ((S222.grow hX).cell (i:=1) rfl rfl))) fun _ h270=>?_;refine ar h270 (ag h270 _ rfl rfl rfl gc175) rfl rfl (fun X hX=>(ai (off:=5) (j:=5) (by kernel_rfl) (h270.ev rfl) rfl)) fun _ h271=>?_;refine ar h271 (ag h271 _ rfl rfl rfl gc175) rfl rfl (fun X hX=>(aq (by kernel_rfl) (h271.ev rfl) ((S222.grow hX).cell (i:=0) rfl rfl))) fun _ h272=>?_;refine ar h272 (ag h272 _ rfl rfl rfl gc175) rfl rfl (fun X hX=>(tA Tryz.underlying4 (h272.ev rfl) (h272.ev rfl))) fun _ h273=>?_;refine qv h273 (fun X hX=>aG (h273.ev rfl) gc175 (h273.ev rfl)) fun _ h274=>?_;exact aI (h274.mid (m:=[(_,_),(_,_),(_,_),(_,_),(_,_)]) rfl)
                    case ht=>
                     intro gc175;refine qo h268 rfl rfl rfl gc175 rfl rfl fun _ h275=>?_;refine qo h275 rfl rfl rfl gc175 rfl rfl fun _ h276=>?_;refine qo h276 rfl rfl rfl gc175 rfl rfl fun _ h277=>?_;refine qo h277 rfl rfl rfl gc175 rfl rfl fun _ h278=>?_;refine qo h278 rfl rfl rfl gc175 rfl rfl fun _ h279=>?_;refine qv h279 (fun X hX=>aA (h279.ev rfl) gc175 (h279.ev rfl)) fun _ h280=>?_;exact aI (h280.mid (m:=[(_,_),(_,_),(_,_),(_,_),(_,_)]) rfl)
                    case h=>
                     intro _ h281;refine qv h281 (fun X hX=>aj (h281.ev rfl)) fun _ h282=>?_;apply kj h282 182 rfl 6 188
                     case ht=>
                      intro gc182;refine qo h282 rfl rfl rfl gc182 rfl rfl fun _ h283=>?_;refine qo h283 rfl rfl rfl gc182 rfl rfl fun _ h284=>?_;refine qo h284 rfl rfl rfl gc182 rfl rfl fun _ h285=>?_;refine qo h285 rfl rfl rfl gc182 rfl rfl fun _ h286=>?_;refine qo h286 rfl rfl rfl gc182 rfl rfl fun _ h287=>?_;refine qo h287 rfl rfl rfl gc182 rfl rfl fun _ h288=>?_;exact aI ⟨_,h288.mid (m:=[(_,_),(_,_),(_,_),(_,_),(_,_)]) rfl⟩
                     case hf=>
                      intro gc182;refine ar h282 (ag h282 _ rfl rfl rfl gc182) rfl rfl (fun X hX=>(ai (off:=6) (j:=6) (by kernel_rfl) (h282.ev rfl) rfl)) fun _ h289=>?_;refine ar (v:=fS l[i].e.o) h289 (ag h289 _ rfl rfl rfl gc182) rfl rfl (fun X hX=>(ay (by kernel_rfl) (by kernel_rfl) (h289.ev rfl) ((S222.grow hX).cellsOf (i:=1) rfl 6 6))) fun _ h290=>?_;refine ar h290 (ag h290 _ rfl rfl rfl gc182) rfl rfl (fun X hX=>(ai (off:=6) (j:=6) (by kernel_rfl) (h290.ev rfl) rfl)) fun _ h291=>?_;refine ar (v:=fS l[k].e.o) h291 (ag h291 _ rfl rfl rfl gc182) rfl rfl (fun X hX=>(ay (by kernel_rfl) (by kernel_rfl) (h291.ev rfl) ((S222.grow hX).cellsOf (i:=0) rfl 6 6))) fun _ h292=>?_;refine dA h292 (ag h292 _ rfl rfl rfl gc182) rfl rfl (fun X=>(ao (fun _ _=>by kernel_rfl) (h292.evs rfl) rfl)) (fun X hX=>nv l[k].e.o _ hoE) fun _ h293=>?_;refine ar h293 (ag h293 _ rfl rfl rfl gc182) rfl rfl (fun X hX=>(bh (v':=.bool (!(decide (l[i].e.o=jh l[k].e.o)))) (by rw[←wN]) (tF (ks:=[.i .i64,.i .i64,.i .i64,.i .i64,.s,.s]) (by kernel_rfl) Tryz.underlying141 (by kernel_rfl) (h293.ev rfl) (h293.ev rfl) rfl rfl))) fun _ h294=>?_;exact aI (h294.mid (m:=[(_,_),(_,_),(_,_),(_,_),(_,_)]) rfl)
                     case h=>
                      intro v295 _ hg188 h295;refine aI ?_;refine bF fun _ hX296 hΦ296=>?_;have S296:=S222.grow hX296;refine sv h295 (fA (h295.ev rfl) (h295.ev rfl) (h295.ev rfl) hg188) fun _ h297=>?_;refine ae (aa ?_);refine aC (h297.ev rfl) (fun hc19=>?_) (fun hc19=>?_)
                      ·
                       rw[if_pos (show xI l[i].e l[k].e=true from hc19)] at hE;refine ab (ah ?_);refine ma h297 rfl rfl fun _ h298=>?_;refine ae (aa (wp_ret (ak ?_)));refine bj h298 rfl rfl ?_;exact⟨by first | (rw[hE];done) | (rw[hE];rfl),S296.below⟩
                      ·
                       rw[if_neg (by rw[show xI l[i].e l[k].e=false from hc19];decide)] at hE;refine wp_skip (aa (ab (ah ?_)));refine ma h297 rfl rfl fun _ h299=>?_;refine ae (aa (wp_ret ?_));refine bj h299 rfl rfl ?_;exact⟨by first | (rw[hE];done) | (rw[hE];rfl),S296.below⟩
                case hB=>kernel_rfl
                case hst=>rfl
 case hB=>kernel_rfl
theorem wE {l:List Rcd} {j:Nat} (hj:j<l.length) (h:bH l[j].l 1 2147483647=false):dH l j (cj l j) l[j]=2:=by
 have Y:ep l j l[j]=2:=by unfold ep;rw[h];rfl
 unfold dH;rw[Y];rfl
theorem yD {l:List Rcd} {j:Nat} (hj:j<l.length) (h:bH l[j].l 1 2147483647=true) {y:Rcd} (hy:cI l j=some y) (hle:l[j].l≤y.l):dH l j (cj l j) l[j]=9:=by
 have Y:ep l j l[j]=9:=by unfold ep;rw[h,hy];simp only[];rw[decide_eq_false (by omega)];rfl
 unfold dH;rw[Y];rfl
theorem x9 {l:List Rcd} {j:Nat} (hj:j<l.length) (h:bH l[j].l 1 2147483647=true) (hy:∀y,cI l j=some y→y.l<l[j].l):ep l j l[j]=eK l[j].e:=by
 unfold ep;rw[h]
 cases hb:cI l j with
 | none=>
  show aP [0,0,eK l[j].e]=_
  by_cases q:eK l[j].e=0<;>simp[aP,q]
 | some y=>
  simp only[];rw[decide_eq_true (hy y hb)];show aP [0,0,eK l[j].e]=_
  by_cases q:eK l[j].e=0<;>simp[aP,q]
theorem jR (l:List Rcd) (A:Option Addr) (c:Nat) (w:World) (hr:Rd w w.heap.size A (l.flatMap cq)) (hl:l.length≤1000) (hc:l.length≤c) (hx:∀x∈l,FewE x.e) :
 Calls Tryz.prog 45 #[.slice A l.length c] w fun e w'=>e=.returned (.tuple #[.int .i64 (eQ l).1,.int .i64 (eQ l).2])∧Below w.heap.size w w':=by
 obtain⟨E,hE⟩:∃E,E=eQ l:=⟨_,rfl⟩;rw[←hE];unfold eQ at hE;refine aD (N:=58) Tryz.func45 rfl rfl rfl (fun _ h0=>?_);have Y:=St.init w;refine ab (ah ?_);refine ma h0 rfl rfl fun _ h1=>?_;refine ma h1 rfl rfl fun _ h2=>?_;refine ae (aa (ab (ab (ah ?_))));refine mv h2 rfl rfl fun _ h3=>?_;refine sv h3 (a6 Tryz.underlying41 (h3.ev rfl)) fun _ h4=>?_;refine sv h4 (cE (h4.ev rfl) (h4.ev rfl)) fun _ h5=>?_;refine ae (aa ?_);refine aC (h5.ev rfl) (fun hc0=>?_) (fun hc0=>?_)
 ·
  rw[if_pos (by have:=of_decide_eq_true hc0;omega)] at hE;refine ab (ah ?_);refine ma h5 rfl rfl fun _ h6=>?_;refine ma h6 rfl rfl fun _ h7=>?_;refine ae (aa (wp_ret (ak ?_)));refine el h7 rfl rfl rfl ?_;exact⟨by first | (rw[hE];done) | (rw[hE];rfl),Y.below⟩
 ·
  rw[if_neg (by have:=of_decide_eq_false hc0;omega)] at hE;refine wp_skip (aa (ab (ab (ah ?_))));refine ma h5 rfl rfl fun _ h8=>?_;refine ae (aa (wp_block ?_));refine bB h8 Y [0] (fun (j:Nat)=>[(4,.int .i64 (j:Nat))]) (fun (j:Nat)=>VldH l j) (fun (j:Nat) L=>L) (fun (j:Nat)=>l.length-j) (0) (⟨Nat.zero_le _,fun k _ h=>absurd h (Nat.not_lt_zero _)⟩) ⟨rfl,rfl,trivial⟩ (Y) ?_;intro j _ _ hF0 h9 Y;refine ab (ab (ah ?_));refine mv h9 rfl rfl fun _ h10=>?_;refine mv h10 rfl rfl fun _ h11=>?_;refine sv h11 (a6 Tryz.underlying41 (h11.ev rfl)) fun _ h12=>?_;refine sv h12 (bm (h12.ev rfl) (h12.ev rfl)) fun _ h13=>?_;refine ae (aa ?_);refine aC (h13.ev rfl) (fun hc1=>?_) (fun hc1=>?_)
  ·
   have hlt:j<l.length:=by have:=of_decide_eq_true hc1;omega
   have hxj:=hx _ (List.getElem_mem hlt)
   have hhit:dH l j (cj l j) l[j]≠0→E=((j:Int),dH l j (cj l j) l[j]):=fun h0=>by
    rw[hE,eB (fun i x=>dH l i (cj l i) x) l 0 j hlt (fun k hk hkj=>by rw[Nat.zero_add];exact hF0.2 k hk hkj) (by rw[Nat.zero_add];exact h0),Nat.zero_add]
   obtain⟨b,o,rfl,hB,_⟩:=hr.opened (aO aJ (by decide) (by omega));refine wp_skip (aa (ab (wp_block (ab (ab (ah ?_))))));refine mv h13 rfl rfl fun _ h14=>?_;refine mv h14 rfl rfl fun _ h15=>?_;refine sv h15 (az (i:=j) (sz:=14) Tryz.underlying41 (by kernel_rfl) (h15.ev rfl) (h15.ev rfl) (by omega) (by omega) rfl) fun _ h16=>?_;refine sv h16 (ai (off:=0) (by kernel_rfl) (h16.ev rfl) rfl) fun _ h17=>?_;refine sv h17 (aq (by kernel_rfl) (h17.ev rfl) ((aU aJ (Y.rd0 hr) hlt) 0 _ rfl)) fun _ h18=>?_;refine bG h18 (wn rfl) (ao (fun _ _=>by kernel_rfl) (h18.evs rfl) rfl) rfl rfl (aS _ _ _ _) fun _ h19=>?_;refine sv h19 (cg (h19.ev rfl)) fun _ h20=>?_;refine ae (aa ?_);refine aC (h20.ev rfl) (fun hc2=>?_) (fun hc2=>?_)
   ·
    have hbad:bH l[j].l 1 2147483647=false:=by simpa using hc2
    have he:=wE hlt hbad;rw[he] at hhit;have hE:=hhit (by decide);refine ab (ah ?_);refine mv h20 rfl rfl fun _ h21=>?_;refine ma h21 rfl rfl fun _ h22=>?_;refine ma h22 rfl rfl fun _ h23=>?_;refine ae (aa (wp_ret (ak (aB (ak (ak (aB (ak ?_))))))));refine el h23 rfl rfl rfl ?_;exact⟨by first | (rw[hE];done) | (rw[hE];rfl),Y.below⟩
   ·
    have hgood:bH l[j].l 1 2147483647=true:=by simpa using hc2
    refine wp_skip (aa (ab (ab ?_)));apply bq h20 [false,false,false,false,false,false,false,false,false,false,false,false,false,false,false] _ (by kernel_rfl)
    case h=>
     refine qv h20 (fun X hX=>aj (h20.ev rfl)) fun _ h24=>?_;refine qv h24 (fun X hX=>cE (h24.ev rfl) (h24.ev rfl)) fun _ h25=>?_;refine qv h25 (fun X hX=>aj (h25.ev rfl)) fun _ h26=>?_;apply mn h26 26 rfl 12 38
     case ht=>
      intro gc26
      have hj0:0<j:=by have:=of_decide_eq_true gc26;omega
      refine ar h26 (ag h26 _ rfl rfl rfl gc26) rfl rfl (fun X hX=>(aj (h26.ev rfl))) fun _ h27=>?_;refine ar h27 (ag h27 _ rfl rfl rfl gc26) rfl rfl (fun X hX=>(aj (h27.ev rfl))) fun _ h28=>?_;refine ar h28 (ag h28 _ rfl rfl rfl gc26) rfl rfl (fun X hX=>(az (i:=j) (sz:=14) Tryz.underlying41 (by kernel_rfl) (h28.ev rfl) (h28.ev rfl) (by omega) (by omega) rfl)) fun _ h29=>?_;refine ar h29 (ag h29 _ rfl rfl rfl gc26) rfl rfl (fun X hX=>(ai (off:=0) (by kernel_rfl) (h29.ev rfl) rfl)) fun _ h30=>?_;refine ar h30 (ag h30 _ rfl rfl rfl gc26) rfl rfl (fun X hX=>(aq (by kernel_rfl) (h30.ev rfl) ((aU aJ ((Y.grow hX).rd0 hr) hlt) 0 _ rfl))) fun _ h31=>?_;refine ar h31 (ag h31 _ rfl rfl rfl gc26) rfl rfl (fun X hX=>(aj (h31.ev rfl))) fun _ h32=>?_;refine ar h32 (ag h32 _ rfl rfl rfl gc26) rfl rfl (fun X hX=>(aj (h32.ev rfl))) fun _ h33=>?_;refine ar h33 (ag h33 _ rfl rfl rfl gc26) rfl rfl (fun X hX=>(fE (h33.ev rfl) (h33.ev rfl) (by omega))) fun _ h34=>?_;refine ar h34 (ag h34 _ rfl rfl rfl gc26) rfl rfl (fun X hX=>(az (i:=j-1) (sz:=14) Tryz.underlying41 (by kernel_rfl) (h34.ev rfl) (h34.ev rfl) (by omega) (by omega) rfl)) fun _ h35=>?_;refine ar h35 (ag h35 _ rfl rfl rfl gc26) rfl rfl (fun X hX=>(ai (off:=0) (by kernel_rfl) (h35.ev rfl) rfl)) fun _ h36=>?_;refine ar h36 (ag h36 _ rfl rfl rfl gc26) rfl rfl (fun X hX=>(aq (by kernel_rfl) (h36.ev rfl) ((aU aJ ((Y.grow hX).rd0 hr) (show j-1<l.length by omega)) 0 _ rfl))) fun _ h37=>?_;refine ar h37 (ag h37 _ rfl rfl rfl gc26) rfl rfl (fun X hX=>(bh (v':=.bool (decide (l[j].l≤((cI l j).getD l[j]).l))) (by rw[dc hj0 hlt,Option.getD_some]) (fo (h37.ev rfl) (h37.ev rfl)))) fun _ h38=>?_;exact aI (h38.mid (m:=[(_,_),(_,_),(_,_),(_,_),(_,_),(_,_),(_,_),(_,_),(_,_),(_,_),(_,_)]) rfl)
     case hf=>
      intro gc26;refine qo h26 rfl rfl rfl gc26 rfl rfl fun _ h39=>?_;refine qo h39 rfl rfl rfl gc26 rfl rfl fun _ h40=>?_;refine qo h40 rfl rfl rfl gc26 rfl rfl fun _ h41=>?_;refine qo h41 rfl rfl rfl gc26 rfl rfl fun _ h42=>?_;refine qo h42 rfl rfl rfl gc26 rfl rfl fun _ h43=>?_;refine qo h43 rfl rfl rfl gc26 rfl rfl fun _ h44=>?_;refine qo h44 rfl rfl rfl gc26 rfl rfl fun _ h45=>?_;refine qo h45 rfl rfl rfl gc26 rfl rfl fun _ h46=>?_;refine qo h46 rfl rfl rfl gc26 rfl rfl fun _ h47=>?_;refine qo h47 rfl rfl rfl gc26 rfl rfl fun _ h48=>?_;refine qo h48 rfl rfl rfl gc26 rfl rfl fun _ h49=>?_;refine qo h49 rfl rfl rfl gc26 rfl rfl fun _ h50=>?_;exact aI ⟨_,h50.mid (m:=[(_,_),(_,_),(_,_),(_,_),(_,_),(_,_),(_,_),(_,_),(_,_),(_,_),(_,_)]) rfl⟩
     case h=>
      intro v51 _ hg38 h51;refine aI ?_;refine bF fun _ hX52 hΦ52=>?_;have Y:=Y.grow hX52;refine sv h51 (fh (h51.ev rfl) (h51.ev rfl) hg38 (h51.ev rfl)) fun _ h53=>?_;refine ae (aa ?_);refine aC (h53.ev rfl) (fun hc3=>?_) (fun hc3=>?_)
      ·
       obtain⟨u1,u2⟩:=Bool.and_eq_true_iff.1 hc3
       have hj0:0<j:=by have:=of_decide_eq_true u1;omega
       rw[dc hj0 hlt] at u2;have he:=yD hlt hgood (dc hj0 hlt) (of_decide_eq_true u2);rw[he] at hhit;have hE:=hhit (by decide);refine ab (ah ?_);refine mv h53 rfl rfl fun _ h54=>?_;refine ma h54 rfl rfl fun _ h55=>?_;refine ma h55 rfl rfl fun _ h56=>?_;refine ae (aa (wp_ret (ak (aB (ak (ak (aB (ak ?_))))))));refine el h56 rfl rfl rfl ?_;exact⟨by first | (rw[hE];done) | (rw[hE];rfl),Y.below⟩
      ·
       have hord:∀y,cI l j=some y→y.l<l[j].l:=fun y hy=>by
        rcases Nat.eq_zero_or_pos j with h0 | h0
        · subst h0;cases hy
        · rw[decide_eq_true (by omega:(j:Int)>0),Bool.true_and,hy] at hc3
          have:=of_decide_eq_false hc3
          change ¬l[j].l≤y.l at this
          omega
       have hr0:=x9 hlt hgood hord;refine wp_skip (aa (ab (ab (ah ?_))));refine mv h53 rfl rfl fun _ h57=>?_;refine mv h57 rfl rfl fun _ h58=>?_;refine sv h58 (az (i:=j) (sz:=14) Tryz.underlying41 (by kernel_rfl) (h58.ev rfl) (h58.ev rfl) (by omega) (by omega) rfl) fun _ h59=>?_;refine sv h59 (ai (off:=1) (by kernel_rfl) (h59.ev rfl) rfl) fun _ h60=>?_;refine sv (v:=ee l[j].e) h60 (ay (by kernel_rfl) (by kernel_rfl) (h60.ev rfl) (dY (Y.rd0 hr) hlt)) fun _ h61=>?_;refine aW h61 (wn rfl) (ao (fun _ _=>by kernel_rfl) (h61.evs rfl) rfl) rfl rfl Y (lC l[j].e _ hxj.o hxj.n (by have:=hxj.d;unfold maxLen;omega)) fun _ _ h62 Y=>?_;refine ma h62 rfl rfl fun _ h63=>?_;refine ct ?_;refine mv h63 rfl rfl fun _ h64=>?_;refine sv h64 (ba (h64.ev rfl) (h64.ev rfl)) fun _ h65=>?_;refine ae (aa ?_);refine aC (h65.ev rfl) (fun hc4=>?_) (fun hc4=>?_)
       ·
        have hne:eK l[j].e≠0:=by simpa using hc4
        have he:dH l j (cj l j) l[j]=eK l[j].e:=by unfold dH;rw[hr0,if_pos hne]
        rw[he] at hhit;have hE:=hhit hne;refine ab (ah ?_);refine mv h65 rfl rfl fun _ h66=>?_;refine mv h66 rfl rfl fun _ h67=>?_;refine ma h67 rfl rfl fun _ h68=>?_;refine ma h68 rfl rfl fun _ h69=>?_;refine ae (aa (wp_ret (ak (aB (ak (ak (aB (ak ?_))))))));refine el h69 rfl rfl rfl ?_;exact⟨by first | (rw[hE];done) | (rw[hE];rfl),Y.below⟩
       ·
        have hez:eK l[j].e=0:=by simpa using hc4
        have he:=Ae hlt hF0 (hr0.trans hez);rw[he] at hhit;refine wp_skip (aa (ab (ah ?_)));refine mv h65 rfl rfl fun _ h70=>?_;refine mv h70 rfl rfl fun _ h71=>?_;refine aW h71 (wn rfl) (ao (fun _ _=>by kernel_rfl) (h71.evs rfl) rfl) rfl rfl Y (lT l j hlt _ c _ (Y.rd0 hr) hl hc hF0 hx) fun _ _ h72 Y=>?_;refine ma h72 rfl rfl fun _ h73=>?_;refine ct ?_;refine mv h73 rfl rfl fun _ h74=>?_;refine sv h74 (ba (h74.ev rfl) (h74.ev rfl)) fun _ h75=>?_;refine ae (aa ?_);refine aC (h75.ev rfl) (fun hc5=>?_) (fun hc5=>?_)
        ·
         have hE:=hhit (by simpa using hc5);refine ab (ah ?_);refine mv h75 rfl rfl fun _ h76=>?_;refine mv h76 rfl rfl fun _ h77=>?_;refine ma h77 rfl rfl fun _ h78=>?_;refine ma h78 rfl rfl fun _ h79=>?_;refine ae (aa (wp_ret (aB (ak (ak (aB (ak ?_)))))));refine el h79 rfl rfl rfl ?_;exact⟨by first | (rw[hE];done) | (rw[hE];rfl),Y.below⟩
        ·
         have hz:dH l j (cj l j) l[j]=0:=by rw[he];simpa using hc5
         refine wp_skip (aM (aa (ah ?_)));refine mv h75 rfl rfl fun _ h80=>?_;refine sv h80 (aZ (h80.ev rfl) (h80.ev rfl) (by omega)) fun _ h81=>?_;refine ma h81 rfl rfl fun _ h82=>?_;refine ae (aa ?_);exact⟨j+1,(by omega),⟨hlt,fun k hk hkj=>by rcases Nat.lt_or_eq_of_le (show k≤j by omega) with q | q;exact hF0.2 k hk q;subst q;exact hz⟩,h82.re ⟨rfl,rfl,trivial⟩,Y⟩
    case hB=>kernel_rfl
    case hst=>rfl
  ·
   have hge:l.length≤j:=by have:=of_decide_eq_false hc1;omega
   have hz0:(dp (fun i x=>dH l i (cj l i) x) 0 l).2=0:=(cW _ _).2 fun k hk=>hF0.2 k hk (by omega);have hE:E=(0,0):=hE.trans (dP _ l 0 fun k hk=>by rw[Nat.zero_add];exact hF0.2 k hk (by omega));refine wp_exit ?_;refine av ?_;refine av ?_;refine br ?_;refine aa (ab (ah ?_));refine ma h13 rfl rfl fun _ h83=>?_;refine ma h83 rfl rfl fun _ h84=>?_;refine ae (aa (wp_ret ?_));refine el h84 rfl rfl rfl ?_;exact⟨by first | (rw[hE];done) | (rw[hE];rfl),Y.below⟩
theorem lv (l:List Rcd) (A:Option Addr) (c:Nat) (w:World) (hr:Rd w w.heap.size A (l.flatMap cq)) (hl:l.length≤1000) (hc:l.length≤c) (hx:∀x∈l,FewE x.e) :
 Calls Tryz.prog 26 #[.slice A l.length c] w fun e w'=>e=.returned (.int .i64 (eQ l).2)∧Below w.heap.size w w':=by
 refine aD (N:=11) Tryz.func26 rfl rfl rfl (fun _ Y=>?_);have Z:=St.init w;refine ab (ah ?_);refine ma Y rfl rfl fun _ Y=>?_;refine ct ?_;refine mv Y rfl rfl fun _ Y=>?_;refine aW Y (wn rfl) (ao (fun _ _=>by kernel_rfl) (Y.evs rfl) rfl) rfl rfl Z (jR l A c _ (Z.rd0 hr) hl hc hx) fun _ _ Y Z=>?_;refine mv Y rfl rfl fun _ Y=>?_;refine vx Y rfl rfl rfl fun _ Y=>?_;refine vx Y rfl rfl rfl fun _ Y=>?_;refine ma Y rfl rfl fun _ Y=>?_;refine ma Y rfl rfl fun _ Y=>?_;refine ct ?_;refine mv Y rfl rfl fun _ Y=>?_;refine ma Y rfl rfl fun _ Y=>?_;refine ae (aa (wp_ret ?_));refine bj Y rfl rfl ?_;exact⟨rfl,Z.below⟩
set_option maxRecDepth 4000
open Go.RowKit Go.Sort Go.Shelf
theorem xe {l:List Pgp} {g:Int} {q:Pgp} (h:gO l g=some q):∃k,∃hk:k<l.length,jb Pgp.g g l 0=(k:Int)∧l[k].g=g∧l[k]=q:=by
 obtain⟨k,hk,e1,e2,e3⟩:=eG (κ:=Pgp.g) (n:=g) (l:=l) (k:=0) (fun h1=>by rw[show gO l g=none from gK h1] at h;cases h);rw[show gO l g=some l[k] from e3] at h;injection h with h;exact⟨k,hk,by rw[e1,Nat.zero_add],e2,h⟩
theorem wY (b:Bool):0≤ka b∧ka b≤1:=by cases b<;>decide
theorem tJ (t:Tbl) (x:Rcd):((!cB x.e||decide (jb Dty.g x.e.g t.ds 0<0))||decide (x.l<((dg t.ds x.e.g).getD ⟨0,false,0⟩).l))=!nh t x:=by
 rw[←sV]
 congr 2
 by_cases h:jb Dty.g x.e.g t.ds 0<0
 · rw[decide_eq_true h,show dg t.ds x.e.g=none from gK h];rfl
 · obtain⟨j,hj,_,_,e⟩:=eG h
   rw[decide_eq_false h,show dg t.ds x.e.g=some t.ds[j] from e];rfl
theorem qL (t:Tbl) (TA:Option Addr) (tc:Nat) (TB:Option Addr) (td:Nat) (l:List Rcd) (B:Option Addr) (d:Nat) (p:List Pgp) (A:Option Addr) (c:Nat) (w:World)
 (hr:Rd w w.heap.size A (p.flatMap bX)) (hq:Rd w w.heap.size B (l.flatMap cq)) (ht2:Rd w w.heap.size TB (t.ds.flatMap cD)) (htl:t.ds.length≤1000) (hl:l.length≤1000) (hp:PgsOk p) (hx:∀x∈l,FewE x.e) (hf:∀x∈l,eP p x=0) :
 Calls Tryz.prog 35 #[.slice B l.length d,bW t TA tc TB td,.slice A p.length c] w fun e w'=>∃i:Option Addr × Nat,e=.returned (.tuple #[.slice i.1 (ed t p 0 l).1.length i.2,.int .i64 (ed t p 0 l).2.1,.int .i64 (ed t p 0 l).2.2]) ∧
  St [] w w' [.row (.slice i.1 (ed t p 0 l).1.length i.2) (ed t p 0 l).1.length 111 3 ((ed t p 0 l).1.flatMap bX)]:=by
 have hpn:=hp.n;refine aD (N:=93) Tryz.func35 rfl rfl rfl (fun _ h0=>?_);have Y:=St.init w;refine ab (ah ?_);refine nb h0 rfl rfl Y fun b4 _ _ gb4 h1 Y=>?_;refine ma h1 rfl rfl fun _ h2=>?_;refine ma h2 rfl rfl fun _ h3=>?_;refine ma h3 rfl rfl fun _ h4=>?_;refine ct ?_;refine mv h4 rfl rfl fun _ h5=>?_;refine kK h5 (wn rfl) (ao (fun _ _=>by kernel_rfl) (h5.evs rfl) rfl) rfl rfl Y (mJ p A c _ (Y.rd0 hr) (by omega)) (Nat.le_refl _) fun A19 c19 _ _ h6 Y=>?_;refine ma h6 rfl rfl fun _ h7=>?_;refine ct ?_;refine ma h7 rfl rfl fun _ h8=>?_;refine ae (aa (ab (ab (ah ?_))));refine ma h8 rfl rfl fun _ h9=>?_;refine ae (aa (wp_block ?_));refine bB h9 Y [9,4,0] (fun (q:RdoS)=>[(11,.int .i64 (q.j:Nat)),(10,.int .i64 q.n)]) (fun (q:RdoS)=>q.j≤l.length∧ed t p 0 l=ed t q.p q.n (l.drop q.j)∧PgsOk q.p∧q.p.length=p.length∧0≤q.n∧q.n≤q.j∧(∀x∈l,eP q.p x=0)) (fun q L=>L.set 0 (.row (.slice A19 p.length c19) p.length 111 3 (q.p.flatMap bX))) (fun (q:RdoS)=>l.length-q.j) (⟨0,p,0⟩) (⟨Nat.zero_le _,rfl,hp,rfl,Int.le_refl 0,Int.le_refl 0,hf⟩) ⟨rfl,rfl,rfl,rfl,rfl,trivial⟩ (Y) ?_;intro q _ _ hF0 h10 Y;refine ab (ab (ah ?_));refine mv h10 rfl rfl fun _ h11=>?_;refine mv h11 rfl rfl fun _ h12=>?_;refine sv h12 (a6 Tryz.underlying41 (h12.ev rfl)) fun _ h13=>?_;refine sv h13 (bm (h13.ev rfl) (h13.ev rfl)) fun _ h14=>?_;refine ae (aa ?_);refine aC (h14.ev rfl) (fun hc0=>?_) (fun hc0=>?_)
 ·
  have hlt:q.j<l.length:=by have:=of_decide_eq_true hc0;omega
  obtain⟨b5,o5,rfl,hB5,_⟩:=hq.opened (aO aJ (by decide) (by omega));have hdr:l.drop q.j=l[q.j]::l.drop (q.j+1):=List.drop_eq_getElem_cons hlt;have hxe:=hx _ (List.getElem_mem hlt);obtain⟨-,hun,hpo,hple,hn0,hnj,hfo⟩:=hF0;rw[hdr,ed] at hun;refine wp_skip (aa (ab (wp_block (ab (ah ?_)))));refine mv h14 rfl rfl fun _ h15=>?_;refine mv h15 rfl rfl fun _ h16=>?_;refine sv h16 (az (i:=q.j) (sz:=14) Tryz.underlying41 (by kernel_rfl) (h16.ev rfl) (h16.ev rfl) (by omega) (by omega) rfl) fun _ h17=>?_;refine sv h17 (ai (off:=1) (by kernel_rfl) (h17.ev rfl) rfl) fun _ h18=>?_;refine sv (v:=ee l[q.j].e) h18 (ay (by kernel_rfl) (by kernel_rfl) (h18.ev rfl) (dY (Y.rd0 hq) hlt)) fun _ h19=>?_;refine na (.agg #[.int .i64 0,.int .i64 0,.int .i64 0,.int .i64 0,.int .i64 0,.bool false,.int .i64 0,.int .i64 0,.int .i64 0,.int .i64 0,.string ⟨#[]⟩,.string ⟨#[]⟩,.string ⟨#[]⟩]) h19 rfl Y fun b12 _ _ gb12 h20 Y=>?_;refine aF h20 (wn rfl) ⟨rfl,rfl⟩ (h20.ev rfl) (h20.ev rfl) rfl (by kernel_rfl) Y (i:=0) rfl rfl rfl fun _ Y=>?_;refine ct ?_;refine sv (v:=bW t TA tc TB td) h20 (ay (by kernel_rfl) (by kernel_rfl) (h20.ev rfl) (Y.cellsAll (i:=2) rfl)) fun _ h22=>?_;refine vf h22 4 4 rfl rfl rfl fun _ h23=>?_;refine vl h23 Y 0 rfl rfl rfl rfl fun _ h24=>?_;refine aW h24 (wn rfl) (ao (fun _ _=>by kernel_rfl) (h24.evs rfl) rfl) rfl rfl Y (r6 t l[q.j].e.g TA tc TB td _ (Y.rd0 ht2) (by omega)) fun _ _ h25 Y=>?_;refine ma h25 rfl rfl fun _ h26=>?_;refine ae (aa (ab (ab ?_)));apply bq h26 [false,false,false,false,false,false,false,false,false,false,false,false,false,false,false,false,false,false,false,false] _ (by kernel_rfl)
  case h=>
   refine qv (v:=ee l[q.j].e) h26 (fun X hX=>ay (by kernel_rfl) (by kernel_rfl) (h26.ev rfl) ((Y.grow hX).cellsAll (i:=0) rfl)) fun _ h27=>?_;refine dA h27 (wn rfl) rfl rfl (fun X=>(ao (fun _ _=>by kernel_rfl) (h27.evs rfl) rfl)) (fun X hX=>ie _ _) fun _ h28=>?_;refine qv h28 (fun X hX=>cg (h28.ev rfl)) fun _ h29=>?_;refine qv h29 (fun X hX=>aj (h29.ev rfl)) fun _ h30=>?_;apply ij (x:=decide (jb Dty.g l[q.j].e.g t.ds 0<0)) h30 38 rfl 3 41
   case hf=>
    intro gc38;refine ar h30 (ag h30 _ rfl rfl rfl gc38) rfl rfl (fun X hX=>(aj (h30.ev rfl))) fun _ h31=>?_;refine ar h31 (ag h31 _ rfl rfl rfl gc38) rfl rfl (fun X hX=>(bm (h31.ev rfl) (h31.ev rfl))) fun _ h32=>?_;refine qv h32 (fun X hX=>aG (h32.ev rfl) gc38 (h32.ev rfl)) fun _ h33=>?_;exact aI (h33.mid (m:=[(_,_),(_,_)]) rfl)
   case ht=>
    intro gc38;refine qo h30 rfl rfl rfl gc38 rfl rfl fun _ h34=>?_;refine qo h34 rfl rfl rfl gc38 rfl rfl fun _ h35=>?_;refine qv h35 (fun X hX=>aA (h35.ev rfl) gc38 (h35.ev rfl)) fun _ h36=>?_;exact aI (h36.mid (m:=[(_,_),(_,_)]) rfl)
   case h=>
    intro _ h37;refine qv h37 (fun X hX=>aj (h37.ev rfl)) fun _ h38=>?_;apply kj h38 42 rfl 12 54
    case ht=>
     intro gc42;refine qo h38 rfl rfl rfl gc42 rfl rfl fun _ h39=>?_;refine qo h39 rfl rfl rfl gc42 rfl rfl fun _ h40=>?_;refine qo h40 rfl rfl rfl gc42 rfl rfl fun _ h41=>?_;refine qo h41 rfl rfl rfl gc42 rfl rfl fun _ h42=>?_;refine qo h42 rfl rfl rfl gc42 rfl rfl fun _ h43=>?_;refine qo h43 rfl rfl rfl gc42 rfl rfl fun _ h44=>?_;refine qo h44 rfl rfl rfl gc42 rfl rfl fun _ h45=>?_;refine qo h45 rfl rfl rfl gc42 rfl rfl fun _ h46=>?_;refine qo h46 rfl rfl rfl gc42 rfl rfl fun _ h47=>?_;refine qo h47 rfl rfl rfl gc42 rfl rfl fun _ h48=>?_;refine qo h48 rfl rfl rfl gc42 rfl rfl fun _ h49=>?_;refine qo h49 rfl rfl rfl gc42 rfl rfl fun _ h50=>?_;exact aI ⟨_,h50.mid (m:=[(_,_),(_,_),(_,_),(_,_),(_,_),(_,_),(_,_),(_,_),(_,_),(_,_),(_,_)]) rfl⟩
    case hf=>
     intro gc42;obtain⟨kd,hkd,hid,_,hfd⟩:=eG (of_decide_eq_false (Bool.or_eq_false_iff.1 gc42).2);rw[Nat.zero_add] at hid;obtain⟨b6,o6,rfl,_⟩:=ht2.opened (aO cy (by decide) (by omega));refine ar h38 (ag h38 _ rfl rfl rfl gc42) rfl rfl (fun X hX=>(aj (h38.ev rfl))) fun _ h51=>?_;refine ar h51 (ag h51 _ rfl rfl rfl gc42) rfl rfl (fun X hX=>(aj (h51.ev rfl))) fun _ h52=>?_;refine ar h52 (ag h52 _ rfl rfl rfl gc42) rfl rfl (fun X hX=>(az (i:=q.j) (sz:=14) Tryz.underlying41 (by kernel_rfl) (h52.ev rfl) (h52.ev rfl) (by omega) (by omega) rfl)) fun _ h53=>?_;refine ar h53 (ag h53 _ rfl rfl rfl gc42) rfl rfl (fun X hX=>(ai (off:=0) (by kernel_rfl) (h53.ev rfl) rfl)) fun _ h54=>?_;refine ar h54 (ag h54 _ rfl rfl rfl gc42) rfl rfl (fun X hX=>(aq (by kernel_rfl) (h54.ev rfl) ((aU aJ ((Y.grow hX).rd0 hq) hlt) 0 _ rfl))) fun _ h55=>?_;refine ar h55 (ag h55 _ rfl rfl rfl gc42) rfl rfl (fun X hX=>(ai (off:=1) (j:=1) (by kernel_rfl) (h55.ev rfl) rfl)) fun _ h56=>?_;refine ar h56 (ag h56 _ rfl rfl rfl gc42) rfl rfl (fun X hX=>(aq (by kernel_rfl) (h56.ev rfl) ((Y.grow hX).cell (i:=2) rfl rfl))) fun _ h57=>?_;refine ar h57 (ag h57 _ rfl rfl rfl gc42) rfl rfl (fun X hX=>(aj (h57.ev rfl))) fun _ h58=>?_;refine ar h58 (ag h58 _ rfl rfl rfl gc42) rfl rfl (fun X hX=>(az (i:=kd) (sz:=3) Tryz.underlying23 (by kernel_rfl) (h58.ev rfl) (h58.ev rfl) (by omega) (by omega) rfl)) fun _ h59=>?_;refine ar h59 (ag h59 _ rfl rfl rfl gc42) rfl rfl (fun X hX=>(ai (off:=2) (by kernel_rfl) (h59.ev rfl) rfl)) fun _ h60=>?_;refine ar h60 (ag h60 _ rfl rfl rfl gc42) rfl rfl (fun X hX=>(aq (by kernel_rfl) (h60.ev rfl) ((aU cy ((Y.grow hX).rd0 ht2) hkd) 2 _ rfl))) fun _ h61=>?_;refine ar h61 (ag h61 _ rfl rfl rfl gc42) rfl rfl (fun X hX=>(bh (v':=.bool (decide (l[q.j].l<((dg t.ds l[q.j].e.g).getD ⟨0,false,0⟩).l))) (by first | (rw[show dg t.ds l[q.j].e.g=some t.ds[kd] from hfd];done) | (rw[show dg t.ds l[q.j].e.g=some t.ds[kd] from hfd];rfl)) (bm (h61.ev rfl) (h61.ev rfl)))) fun _ h62=>?_
     exact aI (h62.mid (m:=[(_,_),(_,_),(_,_),(_,_),(_,_),(_,_),(_,_),(_,_),(_,_),(_,_),(_,_)]) rfl)
    case h=>
     intro v63 _ hg54 h63;refine aI ?_;refine bF fun _ hX64 hΦ64=>?_;have Y:=Y.grow hX64;refine sv h63 (fA (h63.ev rfl) (h63.ev rfl) (h63.ev rfl) hg54) fun _ h65=>?_;refine ae (aa ?_);refine aC (h65.ev rfl) (fun hc1=>?_) (fun hc1=>?_)
     ·
      have hdue:nh t l[q.j]=false:=by rw[tJ] at hc1;simpa using hc1
      rw[if_neg (by rw[hdue];decide)] at hun;refine wp_exit ?_;refine av ?_;refine br ?_;refine aa (ah ?_);refine mv h65 rfl rfl fun _ h66=>?_;refine sv h66 (aZ (h66.ev rfl) (h66.ev rfl) (by omega)) fun _ h67=>?_;refine ma h67 rfl rfl fun _ h68=>?_;refine ae (aa ?_);exact⟨⟨q.j+1,q.p,q.n⟩,(by show l.length-(q.j+1)<l.length-q.j;omega),⟨hlt,hun,hpo,hple,hn0,by show q.n≤((q.j+1:Nat):Int);omega,hfo⟩,h68.re ⟨rfl,rfl,rfl,rfl,rfl,trivial⟩,(Y.sub (.cons _ (.cons_cons _ (.cons_cons _ .slnil))))⟩
     ·
      have hdue:nh t l[q.j]=true:=by rw[tJ] at hc1;simpa using hc1
      rw[if_pos hdue] at hun;obtain⟨qq,hqq,hqf⟩:=oU (hfo _ (List.getElem_mem hlt)) (ui hdue);obtain⟨k,qk,hik,q1,hq9⟩:=xe hqq;subst hq9;rw[hqq] at hun;simp only[] at hun;rw[hqf] at hun;have h512:=(hpo.all k qk).b;refine wp_skip (aa (ab (ah ?_)));refine mv h65 rfl rfl fun _ h69=>?_;refine vf h69 4 4 rfl rfl rfl fun _ h70=>?_;refine vl h70 Y 0 rfl rfl rfl rfl fun _ h71=>?_;refine aW h71 (wn rfl) (ao (fun _ _=>by kernel_rfl) (h71.evs rfl) rfl) rfl rfl Y (hple▸kU q.p l[q.j].e.g A19 c19 _ (Y.rdOf (i:=1) rfl) (by omega)) fun _ _ h72 Y=>?_;refine ma h72 rfl rfl fun _ h73=>?_;obtain⟨b',o',rfl,_⟩:=(Y.rdOf (i:=1) rfl).opened (aO bf (by decide) (by omega));obtain rfl:o'=0:=pB (Y.at_ (i:=1) rfl);refine ae (aa (ab ?_));apply bq h73 [false,false,false,false,false,false,false,false,false,false,false,false,false,false,false,false,false,false,false,false,false] _ (by kernel_rfl)
      case h=>
       refine qv h73 (fun X hX=>aj (h73.ev rfl)) fun _ h74=>?_;refine qv h74 (fun X hX=>aj (h74.ev rfl)) fun _ h75=>?_;refine qv h75 (fun X hX=>az (i:=k) (sz:=3) Tryz.underlying48 (by kernel_rfl) (h75.ev rfl) (h75.ev rfl) (by omega) (by omega) rfl) fun _ h76=>?_;refine qv h76 (fun X hX=>ai (off:=2) (by kernel_rfl) (h76.ev rfl) rfl) fun _ h77=>?_;refine qv h77 (fun X hX=>aq (by kernel_rfl) (h77.ev rfl) ((aU bf ((Y.grow hX).rdOf (i:=1) rfl) qk) 2 _ rfl)) fun _ h78=>?_;refine qv h78 (fun X hX=>ai (off:=5) (j:=5) (by kernel_rfl) (h78.ev rfl) rfl) fun _ h79=>?_;refine qv h79 (fun X hX=>aq (by kernel_rfl) (h79.ev rfl) ((Y.grow hX).cell (i:=0) rfl rfl)) fun _ h80=>?_;refine qv h80 (fun X hX=>aj (h80.ev rfl)) fun _ h81=>?_;refine qv h81 (fun X hX=>aj (h81.ev rfl)) fun _ h82=>?_;refine qv h82 (fun X hX=>az (i:=q.j) (sz:=14) Tryz.underlying41 (by kernel_rfl) (h82.ev rfl) (h82.ev rfl) (by omega) (by omega) rfl) fun _ h83=>?_;refine qv h83 (fun X hX=>ai (off:=0) (by kernel_rfl) (h83.ev rfl) rfl) fun _ h84=>?_;refine qv h84 (fun X hX=>aq (by kernel_rfl) (h84.ev rfl) ((aU aJ ((Y.grow hX).rd0 hq) hlt) 0 _ rfl)) fun _ h85=>?_;refine qv h85 (fun X hX=>ai (off:=6) (j:=6) (by kernel_rfl) (h85.ev rfl) rfl) fun _ h86=>?_;refine qv (v:=fS l[q.j].e.o) h86 (fun X hX=>ay (by kernel_rfl) (by kernel_rfl) (h86.ev rfl) ((Y.grow hX).cellsOf (i:=0) rfl 6 6)) fun _ h87=>?_;refine dA h87 (wn rfl) rfl rfl (fun X=>(ao (fun _ _=>by kernel_rfl) (h87.evs rfl) rfl)) (fun X hX=>nf q.p[k].b l[q.j].e.f l[q.j].l l[q.j].e.o _ (by rw[h512];decide) hxe.o hxe.n) fun _ h88=>?_;refine qv h88 (fun X hX=>aj (h88.ev rfl)) fun _ h89=>?_;refine qv h89 (fun X hX=>bA (h89.ev rfl) rfl) fun _ h90=>?_;refine qv h90 (fun X hX=>bA (h90.ev rfl) rfl) fun _ h91=>?_;refine qv h91 (fun X hX=>bA (h91.ev rfl) rfl) fun _ h92=>?_
       refine qv h92 (fun X hX=>dF (h92.ev rfl)) fun _ h93=>?_;refine qv h93 (fun X hX=>dF (h93.ev rfl)) fun _ h94=>?_;refine aI ?_;refine bF fun _ hX95 hΦ95=>?_;have Y:=Y.grow hX95;refine ma h94 rfl rfl fun _ h96=>?_;refine ae (aa (ab (ab (ah ?_))));refine mv h96 rfl rfl fun _ h97=>?_;refine sv h97 (ba (h97.ev rfl) (h97.ev rfl)) fun _ h98=>?_;refine ae (aa ?_);refine aC (h98.ev rfl) (fun hc2=>?_) (fun hc2=>?_)
       ·
        have he:(fj q.p[k].b l[q.j].e.f l[q.j].l l[q.j].e.o).2.2≠0:=by simpa using hc2
        rw[if_pos he] at hun;refine ab (ah ?_);refine mv h98 rfl rfl fun _ h99=>?_;refine ma h99 rfl rfl fun _ h100=>?_;refine ma h100 rfl rfl fun _ h101=>?_;refine ma h101 rfl rfl fun _ h102=>?_;refine ae (aa (wp_ret (ak (aB (ak (ak (aB (ak ?_))))))));refine qi h102 rfl rfl rfl rfl ?_;refine⟨(none,0),by rw[hun];(try rfl),?_⟩;rw[hun];exact(Y.sub (List.nil_sublist _)).nilRow 111 3
       ·
        have he:(fj q.p[k].b l[q.j].e.f l[q.j].l l[q.j].e.o).2.2=0:=by simpa using hc2
        rw[if_neg (fun h=>h he)] at hun;obtain⟨s,hsq⟩:∃s,s=(fj q.p[k].b l[q.j].e.f l[q.j].l l[q.j].e.o).1:=⟨_,rfl⟩
        have hs5:s.size=512:=by rw[hsq];exact n0 h512 he
        have hpo2:=oS hpo l[q.j].e.g s hs5;have hfl:=kv hpo.srt qk s;rw[q1,←Nat.zero_add (k*3)] at hfl;rw[←hsq] at hun h98;have hb1:=wY (fj q.p[k].b l[q.j].e.f l[q.j].l l[q.j].e.o).2.1;refine wp_skip (aa (ab (ah ?_)));refine mv h98 rfl rfl fun _ h103=>?_;refine mv h103 rfl rfl fun _ h104=>?_;refine mv h104 rfl rfl fun _ h105=>?_;refine sv h105 (az (i:=k) (sz:=3) Tryz.underlying48 (by kernel_rfl) (h105.ev rfl) (h105.ev rfl) (by omega) (by omega) rfl) fun _ h106=>?_;refine sv h106 (ai (off:=2) (by kernel_rfl) (h106.ev rfl) rfl) fun _ h107=>?_;refine fy h107 (wn rfl) ⟨rfl,rfl⟩ (h107.ev rfl) (h107.ev rfl) rfl (by kernel_rfl) Y (i:=1) rfl rfl (by show 0+k*3+2+1≤p.length*3;omega) fun _ Y=>?_;refine ae (aa (ah ?_));refine mv h107 rfl rfl fun _ h109=>?_;refine mv h109 rfl rfl fun _ h110=>?_;refine bG h110 (wn rfl) (ao (fun _ _=>by kernel_rfl) (h110.evs rfl) rfl) rfl rfl (yw _ _) fun _ h111=>?_;refine sv h111 (aZ (h111.ev rfl) (h111.ev rfl) (by omega)) fun _ h112=>?_;refine ma h112 rfl rfl fun _ h113=>?_;refine ae (aM (aa (ah ?_)));refine mv h113 rfl rfl fun _ h114=>?_;refine sv h114 (aZ (h114.ev rfl) (h114.ev rfl) (by omega)) fun _ h115=>?_;refine ma h115 rfl rfl fun _ h116=>?_;refine ae (aa ?_);exact⟨⟨q.j+1,fN q.p l[q.j].e.g s,q.n+ka (fj q.p[k].b l[q.j].e.f l[q.j].l l[q.j].e.o).2.1⟩,(by show l.length-(q.j+1)<l.length-q.j;omega),⟨hlt,hun,hpo2,by rw[ei];exact hple,by show 0≤q.n+_;omega,by show q.n+_≤((q.j+1:Nat):Int);omega,fun x hx=>by rw[iV];exact hfo x hx⟩,h116.re ⟨rfl,rfl,rfl,rfl,rfl,trivial⟩,(by show St _ w _ [.row _ _ _ _ ((fN q.p l[q.j].e.g s).flatMap bX),_];rw[hfl];exact(Y.sub (.cons _ (.cons_cons _ (.cons_cons _ .slnil)))))⟩
      case hB=>kernel_rfl
      case hst=>rfl
  case hB=>kernel_rfl
  case hst=>rfl
 ·
  have hge:l.length≤q.j:=by have:=of_decide_eq_false hc0;omega
  obtain⟨-,hun,hpo,hple,-,-,-⟩:=hF0;rw[List.drop_of_length_le hge,ed] at hun;refine wp_exit ?_;refine av ?_;refine av ?_;refine br ?_;refine aa (ab (ah ?_));refine mv h14 rfl rfl fun _ h117=>?_;refine mv h117 rfl rfl fun _ h118=>?_;refine ma h118 rfl rfl fun _ h119=>?_;refine ma h119 rfl rfl fun _ h120=>?_;refine ma h120 rfl rfl fun _ h121=>?_;refine ae (aa (wp_ret ?_));refine qi h121 rfl rfl rfl rfl ?_;refine⟨(A19,c19),by rw[hun,←hple];(try rfl),?_⟩;rw[hun];show St [] w _ [.row (.slice A19 q.p.length c19) q.p.length _ _ _];rw[hple];exact(Y.sub (.cons_cons _ (.cons _ .slnil)))
end Go.Proofs.YtcfdpfmchchkaaaGreatDoor
