/-
  Chapter 22: the walk of RecoveryMeans.
-/
import Derived.Test.YtcfdpfmchchkaaaGreatDoorRcY1
import Derived.Test.YtcfdpfmchchkaaaGreatDoorRcQ0
namespace Go.Proofs.YtcfdpfmchchkaaaGreatDoor
set_option linter.unusedVariables false
set_option linter.unusedSimpArgs false
set_option maxRecDepth 4000
open Go.RowKit Go.Sort Go.Shelf
theorem zh {l:List Rcd} {p:List Pgp} (h:(dI l).2≠0):fi l p=([],0,(dI l).2):=by
 have e:ln l p=(dI l).2:=by unfold ln;simp[aP,h]
 unfold fi;rw[e,if_pos h]
theorem Au {l:List Rcd} {p:List Pgp} (h:(dI l).2=0):fi l p=if fK l p≠0 then ([],0,fK l p) else ff p 0 l:=by
 have e:ln l p=fK l p:=by unfold ln;by_cases h2:fK l p=0<;>simp[aP,h,h2]
 unfold fi;rw[e]
theorem l7:∀(l:List Rcd) (p:List Pgp) (n:Int),(ff p n l).1.length≤p.length
 | [],p,n=>by rw[ff];exact Nat.le_refl _
 | x::l,p,n=>by
  rw[ff]
  repeat' split
  all_goals first | exact Nat.zero_le _ | exact l7 _ _ _ | (refine Nat.le_trans (l7 _ _ _) ?_;rw[ee];exact Nat.le_refl _)
theorem jQ (l:List Rcd) (A:Option Addr) (c:Nat) (p:List Pgp) (B:Option Addr) (d:Nat) (w:World) (hll:l.length≤maxLen∧l.length≤c) (hr:Rd w w.heap.size A (l.flatMap cg)) (hxg:∀x∈l,lO x.e∧I6 x.e.g)
 (hpl:p.length≤maxLen) (hp:Rd w w.heap.size B (p.flatMap ca)) (hpx:∀x∈p,I6 x.g∧x.b.size≤maxLen) (hF:FolT w) :
 Calls Tryz.prog 6 #[.slice A l.length c,.slice B p.length d] w fun e w'=>e=.returned (.bool true)∧Below w.heap.size w w':=by
 refine aF (N:=97) Tryz.func6 rfl rfl rfl (fun _ h0=>?_);have S0:=St.init w;refine ab (ah ?_);refine ma h0 rfl rfl fun _ h1=>?_;refine ae (aa (ab (ab (ah ?_))));refine aS h1 (wn rfl) (aq (fun _ _=>by kernel_rfl) (h1.evs rfl) rfl) rfl rfl S0 (qf _ (hF.below S0.below)) fun _ _ h2 S2=>?_;refine sv h2 (bL (h2.ev rfl)) fun _ h3=>?_;refine ae (aa ?_);refine iQ (h3.ev rfl) (rfl) ?_;refine wp_skip (aa (ab (ab (ah ?_))));refine mv h3 rfl rfl fun _ h4=>?_;refine aS h4 (wn rfl) (aq (fun _ _=>by kernel_rfl) (h4.evs rfl) rfl) rfl rfl S2 (pK l A c _ (S2.rd0 hr) hll.1) fun _ _ h5 S5=>?_;refine sv h5 (bL (h5.ev rfl)) fun _ h6=>?_;refine mv h6 rfl rfl fun _ h7=>?_;apply dw (x:=!(sf p)) h7 S5 19 rfl 4 23
 case hf=>
  intro gc19;refine sy h7 rfl rfl rfl gc19 (ak (h7.ev rfl)) rfl rfl fun _ h8=>?_;refine aS h8 (ag h8 _ rfl rfl rfl gc19) (aq (fun _ _=>by kernel_rfl) (h8.evs rfl) rfl) rfl rfl S5 (rF p B d _ (S5.rd0 hp) hpl) fun _ _ h9 S9=>?_;refine sy h9 rfl rfl rfl gc19 (bL (h9.ev rfl)) rfl rfl fun _ h10=>?_;refine sv h10 (aD (h10.ev rfl) gc19 (h10.ev rfl)) fun _ h11=>?_;exact ae ⟨h11.mid (m:=[(_,_),(_,_),(_,_)]) rfl,S9⟩
 case ht=>
  intro gc19;refine no h7 rfl rfl rfl gc19 rfl rfl fun _ h12=>?_;refine no h12 rfl rfl rfl gc19 rfl rfl fun _ h13=>?_;refine no h13 rfl rfl rfl gc19 rfl rfl fun _ h14=>?_;refine sv h14 (aA (h14.ev rfl) gc19 (h14.ev rfl)) fun _ h15=>?_;exact ae ⟨h15.mid (m:=[(_,_),(_,_),(_,_)]) rfl,S5⟩
 case h=>
  rintro a16 X16 ⟨h16,S16⟩
  refine ae (aa ?_);refine aB (h16.ev rfl) (fun hc1=>?_) (fun hc1=>?_)
  ·
   refine ab (ah ?_);refine ma h16 rfl rfl fun _ h17=>?_;refine ae (aa (wp_ret (ai ?_)));refine bm h17 rfl rfl ?_
   first | exact⟨rfl,S16.below⟩ | exact⟨by simp,S16.below⟩
  ·
   obtain⟨u1,u2⟩:=Bool.or_eq_false_iff.1 hc1;obtain⟨hl1,hxe⟩:=AJ (l:=l) (by simpa using u1);have hpn:=zp (l:=p) (by simpa using u2);have hx2:∀x∈l,FewE x.e∧I6 x.e.g:=fun x hx=>⟨hxe x hx,(hxg x hx).2⟩;refine wp_skip (aa (ab (ah ?_)));refine mv h16 rfl rfl fun _ h18=>?_;refine gV h18 (wn rfl) (aq (fun _ _=>by kernel_rfl) (h18.evs rfl) rfl) rfl rfl S16 (lT l A c _ (S16.rd0 hr) (by omega)) (Nat.le_refl _) fun A26 c26 _ _ h19 S19=>?_;refine aS h19 (wn rfl) (aq (fun _ _=>by kernel_rfl) (h19.evs rfl) rfl) rfl rfl S19 (pJ l A26 c26 _ (S19.rdOf (i:=0) rfl) (by omega) (iT (S19.at_ (i:=0) rfl)) (hF.below S19.below) hxe) fun _ _ h20 S20=>?_;refine mv h20 rfl rfl fun _ h21=>?_;refine vx h21 rfl rfl rfl fun _ h22=>?_;refine vx h22 rfl rfl rfl fun _ h23=>?_;refine ma h23 rfl rfl fun _ h24=>?_;refine ma h24 rfl rfl fun _ h25=>?_;refine cm ?_;refine mv h25 rfl rfl fun _ h26=>?_;refine gV h26 (wn rfl) (aq (fun _ _=>by kernel_rfl) (h26.evs rfl) rfl) rfl rfl S20 (lT l A c _ (S20.rd0 hr) (by omega)) (Nat.le_refl _) fun A32 c32 _ _ h27 S27=>?_;refine mv h27 rfl rfl fun _ h28=>?_;refine gV h28 (wn rfl) (aq (fun _ _=>by kernel_rfl) (h28.evs rfl) rfl) rfl rfl S27 (mq p B d _ (S27.rd0 hp) (by omega)) (Nat.le_refl _) fun A34 c34 _ _ h29 S29=>?_;refine dp h29 (wn rfl) (aq (fun _ _=>by kernel_rfl) (h29.evs rfl) rfl) rfl rfl S29 (je l A32 c32 p A34 c34 _ (S29.rdOf (i:=0) rfl) (S29.rdOf (i:=1) rfl) (by omega) (iT (S29.at_ (i:=1) rfl)) (by omega) (hF.below S29.below) hx2) fun p35 _ _ h30 S30=>?_;refine mv h30 rfl rfl fun _ h31=>?_;refine vx h31 rfl rfl rfl fun _ h32=>?_;refine vx h32 rfl rfl rfl fun _ h33=>?_;refine vx h33 rfl rfl rfl fun _ h34=>?_;refine ma h34 rfl rfl fun _ h35=>?_;refine ma h35 rfl rfl fun _ h36=>?_;refine ma h36 rfl rfl fun _ h37=>?_;refine ae (aa (ab (ab (ah ?_))))
   refine mv h37 rfl rfl fun _ h38=>?_;refine aS h38 (wn rfl) (aq (fun _ _=>by kernel_rfl) (h38.evs rfl) rfl) rfl rfl S30 (la l A c _ (S30.rd0 hr) (by omega) hll.2 hxe) fun _ _ h39 S39=>?_;refine ma h39 rfl rfl fun _ h40=>?_;refine cm ?_;refine mv h40 rfl rfl fun _ h41=>?_;refine sv h41 (a8 (h41.ev rfl) (h41.ev rfl)) fun _ h42=>?_;refine ae (aa ?_);refine aB (h42.ev rfl) (fun hc2=>?_) (fun hc2=>?_)
   ·
    have hne:(dI l).2≠0:=by simpa using hc2
    have hb:((dI l).2==0&&j8 l)=false:=by rw[show((dI l).2==0)=false by simpa using hne];rfl
    rw[zh hne,hb] at h42;refine ab (ah ?_);refine mv h42 rfl rfl fun _ h43=>?_;refine mv h43 rfl rfl fun _ h44=>?_;refine sv h44 (aX (h44.ev rfl) (h44.ev rfl)) fun _ h45=>?_;refine mv h45 rfl rfl fun _ h46=>?_;refine aU h46 (ag h46 _ rfl rfl rfl ((by simp))) (ak (h46.ev rfl)) rfl rfl fun _ h47=>?_;refine aU h47 (ag h47 _ rfl rfl rfl ((by simp))) (ak (h47.ev rfl)) rfl rfl fun _ h48=>?_;refine aU h48 (ag h48 _ rfl rfl rfl ((by simp))) (aX (h48.ev rfl) (h48.ev rfl)) rfl rfl fun _ h49=>?_;refine sv h49 (aA (h49.ev rfl) ((by simp)) (h49.ev rfl)) fun _ h50=>?_;refine mv h50 rfl rfl fun _ h51=>?_;refine aU h51 (ag h51 _ rfl rfl rfl ((by simp))) (ak (h51.ev rfl)) rfl rfl fun _ h52=>?_;refine aU h52 (ag h52 _ rfl rfl rfl ((by simp))) (bL (h52.ev rfl)) rfl rfl fun _ h53=>?_;refine sv h53 (aA (h53.ev rfl) ((by simp)) (h53.ev rfl)) fun _ h54=>?_;refine mv h54 rfl rfl fun _ h55=>?_;refine aU h55 (ag h55 _ rfl rfl rfl (rfl)) (ak (h55.ev rfl)) rfl rfl fun _ h56=>?_;refine aU h56 (ag h56 _ rfl rfl rfl (rfl)) (bf Tryz.underlying48 (h56.ev rfl)) rfl rfl fun _ h57=>?_;refine aU h57 (ag h57 _ rfl rfl rfl (rfl)) (aX (h57.ev rfl) (h57.ev rfl)) rfl rfl fun _ h58=>?_;refine sv h58 (aA (h58.ev rfl) (rfl) (h58.ev rfl)) fun _ h59=>?_;refine mv h59 rfl rfl fun _ h60=>?_;refine aU h60 (ag h60 _ rfl rfl rfl (rfl)) (ak (h60.ev rfl)) rfl rfl fun _ h61=>?_;refine aU h61 (ag h61 _ rfl rfl rfl (rfl)) (aX (h61.ev rfl) (h61.ev rfl)) rfl rfl fun _ h62=>?_;refine sv h62 (aA (h62.ev rfl) (rfl) (h62.ev rfl)) fun _ h63=>?_;refine ma h63 rfl rfl fun _ h64=>?_;refine ae (aa (wp_ret (ai ?_)));refine bm h64 rfl rfl ?_
    first | exact⟨rfl,S39.below⟩ | exact⟨by simp,S39.below⟩
   ·
    have hz:(dI l).2=0:=by simpa using hc2
    have hb:((dI l).2==0&&j8 l)=j8 l:=by rw[show((dI l).2==0)=true by simpa using hz];rfl
    have hm:=Au (p:=p) hz;rw[hb] at h42;obtain⟨hl2,hvl⟩:=j9 hz
    have hop:∀x∈l,dq x.e.o=0:=fun x hx=>by
     obtain⟨k,hk,rfl⟩:=List.getElem_of_mem hx;have h9:=(hvl.e0 hk).2.2;unfold eC at h9;rw[bw] at h9;exact h9 _ (by simp)
    refine wp_skip (aa (ab (ab (ah ?_))));refine mv h42 rfl rfl fun _ h65=>?_;refine sv h65 (a8 (h65.ev rfl) (h65.ev rfl)) fun _ h66=>?_;refine mv h66 rfl rfl fun _ h67=>?_;refine aU h67 (ag h67 _ rfl rfl rfl ((by simp[hz]))) (ak (h67.ev rfl)) rfl rfl fun _ h68=>?_;refine aU h68 (ag h68 _ rfl rfl rfl ((by simp[hz]))) (ak (h68.ev rfl)) rfl rfl fun _ h69=>?_;refine aS h69 (ag h69 _ rfl rfl rfl ((by simp[hz]))) (aq (fun _ _=>by kernel_rfl) (h69.evs rfl) rfl) rfl rfl S39 (mL l A c _ (S39.rd0 hr) (by omega) hll.2 hop) fun _ _ h70 S70=>?_;refine aU h70 (ag h70 _ rfl rfl rfl ((by simp[hz]))) (jV Tryz.underlying4 (h70.ev rfl) (h70.ev rfl)) rfl rfl fun _ h71=>?_;refine sv h71 (aD (h71.ev rfl) ((by simp[hz])) (h71.ev rfl)) fun _ h72=>?_;refine ae (aa ?_);refine iQ (h72.ev rfl) ((by simp)) ?_;refine wp_skip (aa (ab (ah ?_)));refine mv h72 rfl rfl fun _ h73=>?_;refine mv h73 rfl rfl fun _ h74=>?_;refine aS h74 (wn rfl) (aq (fun _ _=>by kernel_rfl) (h74.evs rfl) rfl) rfl rfl S70 (nf l p A c B d _ (S70.rd0 hr) (S70.rd0 hp) (by omega) (by omega)) fun _ _ h75 S75=>?_;refine ma h75 rfl rfl fun _ h76=>?_;refine cm ?_;refine ma h76 rfl rfl fun _ h77=>?_;have S78:=S75.nilRow 111 3;refine cm ?_;refine ma h77 rfl rfl fun _ h79=>?_;refine ae (aa (ab (ab (ah ?_))));refine mv h79 rfl rfl fun _ h80=>?_;refine sv h80 (aX (h80.ev rfl) (h80.ev rfl)) fun _ h81=>?_;refine ae (aa ?_);replace h81:=(h81.re ⟨rfl,rfl,rfl,rfl,rfl,rfl,rfl,rfl,rfl,rfl,trivial⟩:Has _ _ _ [(76,_),(13,_),(12,_),(11,_),(9,_),(8,_),(7,_),(4,_),(0,_),(1,_)]);refine xb h81 S78 (fun (i:(List Pgp × Int × Int) × Option Addr × Nat)=>[(12,.slice i.2.1 i.1.1.length i.2.2),(13,.int .i64 i.1.2.1),(11,.int .i64 i.1.2.2)]) [9,8,7,4] (fun (i:(List Pgp × Int × Int) × Option Addr × Nat)=>fun L=>[.row (.slice i.2.1 i.1.1.length i.2.2) i.1.1.length 111 3 (i.1.1.flatMap ca),.row (.slice p35.1 (fi l p).1.length p35.2) (fi l p).1.length 111 3 ((fi l p).1.flatMap ca)]) (fun (i:(List Pgp × Int × Int) × Option Addr × Nat)=>i.1.1.length≤100∧fi l p=i.1) ?_ (fun i _ _ h82 S82 hi=>?_)
    ·
     refine aB (h81.ev rfl) (fun hc4=>?_) (fun hc4=>?_)
     ·
      have hzp:fK l p=0:=by simpa using hc4
      obtain⟨g1,g2⟩:=sO hzp
      have hre:fi l p=ff p 0 l:=by rw[hm,if_neg (fun h=>h hzp)]
      have hlen:=l7 l p 0;refine ah ?_;refine mv h81 rfl rfl fun _ h83=>?_;refine mv h83 rfl rfl fun _ h84=>?_;refine dp h84 (wn rfl) (aq (fun _ _=>by kernel_rfl) (h84.evs rfl) rfl) rfl rfl S78 (py l A c p B d _ (S78.rd0 hp) (S78.rd0 hr) (by omega) hll.2 g1 hxe g2 hvl) fun p80 _ _ h85 S85=>?_;refine mv h85 rfl rfl fun _ h86=>?_;refine vx h86 rfl rfl rfl fun _ h87=>?_;refine vx h87 rfl rfl rfl fun _ h88=>?_;refine vx h88 rfl rfl rfl fun _ h89=>?_;refine ma h89 rfl rfl fun _ h90=>?_;refine ma h90 rfl rfl fun _ h91=>?_;refine ma h91 rfl rfl fun _ h92=>?_;refine ae (aa ?_);have hi:(ff p 0 l).1.length≤100∧fi l p=ff p 0 l:=⟨by omega,hre⟩;exact⟨(ff p 0 l,p80),h92.re ⟨rfl,rfl,rfl,rfl,rfl,rfl,rfl,trivial⟩,(St.pull' (St.pull' (S85.sub (.cons_cons _ (.cons _ (.cons_cons _ (.cons _ (.cons _ (.cons _ .slnil))))))) 1 rfl) 1 rfl),hi⟩
     ·
      have hnp:fK l p≠0:=by simpa using hc4
      have hre:fi l p=([],0,fK l p):=by rw[hm,if_pos hnp]
      refine wp_skip (aa ?_);have hi:([]:List Pgp).length≤100∧fi l p=([],0,fK l p):=⟨Nat.zero_le _,hre⟩;exact⟨(([],0,fK l p),(none,0)),h81.re ⟨rfl,rfl,rfl,rfl,rfl,rfl,rfl,trivial⟩,(St.pull' (St.pull' (S78.sub (.cons_cons _ (.cons_cons _ (.cons _ (.cons _ (.cons _ .slnil)))))) 1 rfl) 1 rfl),hi⟩
    ·
     rw[hi.2] at h82 S82;have hi1:=hi.1;refine aa (ab (ah ?_));refine mv h82 rfl rfl fun _ h93=>?_;refine mv h93 rfl rfl fun _ h94=>?_;refine sv h94 (aX (h94.ev rfl) (h94.ev rfl)) fun _ h95=>?_;refine mv h95 rfl rfl fun _ h96=>?_;refine aU h96 (ag h96 _ rfl rfl rfl ((by simp))) (ak (h96.ev rfl)) rfl rfl fun _ h97=>?_;refine aU h97 (ag h97 _ rfl rfl rfl ((by simp))) (ak (h97.ev rfl)) rfl rfl fun _ h98=>?_;refine aS h98 (ag h98 _ rfl rfl rfl ((by simp))) (aq (fun _ _=>by kernel_rfl) (h98.evs rfl) rfl) rfl rfl S82 (rR i.1.1 p35.1 p35.2 i.2.1 i.2.2 _ (S82.rdOf (i:=1) rfl) (S82.rdOf (i:=0) rfl) (by omega)) fun _ _ h99 S99=>?_;refine sv h99 (aA (h99.ev rfl) ((by simp)) (h99.ev rfl)) fun _ h100=>?_;refine mv h100 rfl rfl fun _ h101=>?_;apply cq h101 S99 92 rfl 4 96
     case ht=>
      intro gc92;refine sy h101 rfl rfl rfl gc92 (ak (h101.ev rfl)) rfl rfl fun _ h102=>?_;refine sy h102 rfl rfl rfl gc92 (ak (h102.ev rfl)) rfl rfl fun _ h103=>?_;refine sy h103 rfl rfl rfl gc92 (aX (h103.ev rfl) (h103.ev rfl)) rfl rfl fun _ h104=>?_;refine sv h104 (aA (h104.ev rfl) gc92 (h104.ev rfl)) fun _ h105=>?_;exact ae ⟨h105.mid (m:=[(_,_),(_,_),(_,_)]) rfl,S99⟩
     case hf=>
      intro gc92;refine no h101 rfl rfl rfl gc92 rfl rfl fun _ h106=>?_;refine no h106 rfl rfl rfl gc92 rfl rfl fun _ h107=>?_;refine no h107 rfl rfl rfl gc92 rfl rfl fun _ h108=>?_;refine sv h108 (aD (h108.ev rfl) gc92 (h108.ev rfl)) fun _ h109=>?_;exact ae ⟨h109.mid (m:=[(_,_),(_,_),(_,_)]) rfl,S99⟩
     case h=>
      rintro a110 X110 ⟨h110,S110⟩
      refine ma h110 rfl rfl fun _ h111=>?_;refine ae (aa (wp_ret ?_));refine bm h111 rfl rfl ?_
      first | exact⟨rfl,S110.below⟩ | exact⟨by simp,S110.below⟩
end Go.Proofs.YtcfdpfmchchkaaaGreatDoor
