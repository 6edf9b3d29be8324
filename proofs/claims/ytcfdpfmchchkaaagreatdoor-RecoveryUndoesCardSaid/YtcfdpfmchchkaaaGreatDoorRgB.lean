/- Chapter 20 -/
import Derived.Test.YtcfdpfmchchkaaaGreatDoorRgA
import Derived.Test.YtcfdpfmchchkaaaGreatDoorSplD
import Derived.Test.YtcfdpfmchchkaaaGreatDoorOpB
namespace Go.Proofs.YtcfdpfmchchkaaaGreatDoor
set_option maxHeartbeats 1000000
set_option maxRecDepth 4000
set_option linter.unusedVariables false
set_option linter.unusedSimpArgs false
open Go.RowKit Go.Sort
theorem s7 (l:List RecP):∀u∈aW l,u.oneCell'=true:=by
 intro u a;obtain⟨x,_,hx⟩:=List.mem_flatMap.1 a;simp only[recC,List.mem_cons,List.not_mem_nil,or_false] at hx
 rcases hx with rfl | rfl | rfl<;>rfl
theorem hZ (l m:List RecP):aW (l ++ m)=aW l ++ aW m:=by unfold aW;rw[List.flatMap_append]
theorem sm (A:Option Addr) (c:Nat) (w:World) :
 Calls Tryz.prog 112 #[.slice A 0 c] w fun e b=>∃a,e=.returned (.slice a 0 0)∧b.ownsRow w.heap.size 177 3 (.slice a 0 0) 0 []∧Below w.heap.size w b:=by
 refine an (N:=8) Tryz.func112 rfl rfl rfl (fun _ Y=>?_);have Z:=St.init w;refine GO 9 ?_;intro _ Y;refine sv Y (pN dv aa (Y.ev rfl) (Y.ev rfl)) fun _ Y=>?_;refine ag (ai ?_);refine ak (Y.ev rfl) (fun d=>?_) (fun d=>?_)
 ·
  refine GO 7 ?_;intro _ Y;refine aC Y rfl rfl ?_;exact⟨none,rfl,World.ownsRow_nil _ _ _ _,Z.below⟩
 ·
  refine wp_skip (ai (aj (aq ?_)));refine dc (zc:=oU) (sz:=3) Y (wn rfl) ⟨rfl,rfl⟩ rfl dv aa aa rfl rfl rfl (Y.evs2 rfl) rfl rfl rfl Z fun g _ _ f Y Z=>GO 1 ?_;intro _ Y;refine lT (sz:=3) Y (wn rfl) ⟨rfl,rfl⟩ rfl dv aa (Y.ev rfl) (Y.ev rfl) fun _ Y=>GO 4 ?_;intro _ Y;refine aC Y rfl rfl ?_;have Z:=Z.toRow (i:=0) (n:=0) (sz:=3) rfl rfl au;exact⟨_,rfl,Z.ownB (i:=0) rfl,Z.below⟩
theorem mm (l:List RecP) (A:Option Addr) (c:Nat) (w:World) (hr:Rd w w.heap.size A (aW l)) (k:l.length≤1000) :
 Calls Tryz.prog 112 #[.slice A l.length c] w fun e f=>∃d c',e=.returned (.slice d l.length c')∧(l.length=0→c'=0)∧f.ownsRow w.heap.size 177 3 (.slice d l.length c') l.length (aW l)∧Below w.heap.size w f:=by
 rcases Nat.eq_zero_or_pos l.length with g | g
 · have a:l=[]:=List.eq_nil_of_length_eq_zero g
   subst a;exact(sm A c w).mono fun e f ⟨d,p,r,m⟩=>⟨d,0,p,fun _=>rfl,r,m⟩
 refine an (N:=8) Tryz.func112 rfl rfl rfl (fun _ g=>?_);have Z:=St.init w;refine GO 9 ?_;intro _ Y;refine sv Y (pN dv aa (Y.ev rfl) (Y.ev rfl)) fun _ Y=>?_;refine ag (ai ?_);refine ak (Y.ev rfl) (fun j=>?_) (fun j=>?_)
 ·
  exfalso
  obtain⟨b,o,rfl,_⟩:=hr.opened (by rw[bF];omega)
  cases j
 ·
  refine wp_skip (ai (aj (aq ?_)));refine dc (zc:=oU) (sz:=3) Y (wn rfl) ⟨rfl,rfl⟩ rfl dv aa aa rfl rfl rfl (Y.evs2 rfl) rfl rfl rfl Z fun t _ _ u Y Z=>GO 1 ?_;intro _ Y;have Z:=Z.toRow (i:=0) (n:=0) (sz:=3) rfl rfl au;refine bS (z:=.agg kr) (sz:=3) (bytes:=32) Y (wn rfl) ⟨rfl,rfl⟩ rfl dv aa rfl rfl (Y.ev rfl) (Y.ev rfl) Z (i:=0) rfl (Z.rd0 hr) (bF l) (s7 l) ⟨ab,by decide⟩ fun v s _ _ Y Z=>?_;refine GO 4 ?_;intro _ Y;refine aC Y rfl rfl ?_;have q:=Z.ownB (i:=0) rfl;rw[Nat.zero_add] at q;exact⟨_,_,by rw[Nat.zero_add],fun h=>by omega,q,Z.below⟩
theorem OkP.tl {r:RngP} (h:OkP r):gK r=0∧(r.r.c=0∨pF r.rs r.r.c=true)∧(eL r).2≤r.pg-2:=by
 have a:=h.t;unfold kS at a;rw[aN] at a;have b:=a (bQ (r.r.c==0||pF r.rs r.r.c) 6) bw;have h3:=a (bQ (decide ((eL r).2≤r.pg-2)) 16) bw;rw[aH au] at b h3;refine⟨a (gK r) bw,?_,of_decide_eq_true h3⟩;rw[Bool.or_eq_true,beq_iff_eq] at b;exact b
theorem OkP.o1 {r:RngP} (h:OkP r):1≤r.r.o∧r.r.o≤100000000:=by
 rcases h.o with b | b
 · have a:=h.tl.1
   unfold gK at a;rw[b] at a;simp only[List.getLast?_nil] at a;rw[aH au,Bool.and_eq_true,beq_iff_eq] at a;have:=h.h.nx;have:=h.h.rr.2.2;omega
 · exact b
theorem uf (r:RngP) (s:ByteArray) (e:Int):av [e,bQ (!decide (s=⟨#[]⟩)) 17,bQ (decide ((s.size:Int)≤3000)) 8,bQ (decide ((r.rs.length:Int)<100)) 8]=if e≠0 then e else if s.size=0 then 17 else if 3000<s.size then 8 else if 100≤r.rs.length then 8 else 0:=by
 have b:decide ((s.size:Int)≤3000)=decide (s.size≤3000):=decide_eq_decide.2 ab;have f:decide ((r.rs.length:Int)<100)=decide (r.rs.length<100):=decide_eq_decide.2 ab;have h3:decide (s=⟨#[]⟩)=decide (s.size=0):=decide_eq_decide.2 nF;rw[b,f,h3];simp only[av,bQ]
 by_cases c:e=0<;>by_cases g:s.size=0<;>by_cases a:s.size≤3000<;>by_cases d:r.rs.length<100<;>simp[c,g,a,d]<;>omega
theorem uo (r:RngP) (A:Option Addr) (c:Nat) (s:ByteArray) (w:World) (hr:Rd w w.heap.size A (aW r.rs)) (u:r.rs.length≤1000) (hx:∀x∈r.rs,I6 x.l) :
 Calls Tryz.prog 184 #[bm r A c,.string s] w fun e V=>∃W c',e=.returned (.tuple #[bm (if (cn r).2=0 then fT r s else eF) W c',ae (if (cn r).2=0∧fw r s=0 then r.nx+1 else 0),ae (if (cn r).2=0 then fw r s else (cn r).2)])∧V.ownsRow w.heap.size 177 3 (.slice W (if (cn r).2=0 then fT r s else eF).rs.length c') (if (cn r).2=0 then fT r s else eF).rs.length (aW (if (cn r).2=0 then fT r s else eF).rs)∧Below w.heap.size w V:=by
 refine an (N:=70) Tryz.func184 rfl rfl rfl (fun _ Y=>?_);have Z:=St.init w;refine aj (aq ?_);refine nb Y rfl rfl Z fun b2 I _ Zr j Z=>na (.agg gU) j rfl Z fun b4 a2 _ Zs n Z=>GO 1 ?_;intro L Y;refine GO 4 ?_;intro _ Y;apply aK Y (fK 13) _ aa
 case h=>
  refine qv Y (fun X a=>ah aa aa (Y.ev rfl) ((Z.grow a).cellsAll (i:=1) rfl)) fun _ Y=>?_;refine nH Y rfl (fun X a=>xq r A c _ ((Z.grow a).rd0 hr) u hx) fun _ Y=>?_;refine GO 2 ?_;intro _ Y;refine iW Y rfl (fun X a=>aP _ _ _) fun _ Y=>?_;refine GO 3 ?_;intro _ Y;refine iW Y rfl (fun X a=>aP _ _ _) fun _ Y=>?_;refine qv Y (fun X a=>fx 7 7 (Y.ev rfl)) fun _ Y=>?_;refine GO 4 ?_;intro _ Y;refine aT fun _ Zi Zn=>?_;have Z:=Z.grow Zi;refine dn Y rfl (aP _ _ _) fun _ Y=>?_;refine bV Y (wn rfl) (f:=fun b=>.slice (some ⟨b,0,none⟩) 4 4) (ba dt aa aa (Y.evs2 rfl) rfl rfl rfl au au) rfl rfl Z fun Jz _ _ Zo Y Z=>dn Y rfl (qp (Z.at_ (i:=0) rfl)) fun _ Y=>?_;refine GO 10 ?_;intro _ Y;refine ak (Y.ev rfl) (fun d=>?_) (fun d=>?_)
  ·
   rw[uf] at d
   have hne:¬((cn r).2=0∧fw r s=0):=fun ⟨j,n⟩=>by
    rw[if_neg (al j)] at d;unfold fw at n;simp only[bne_iff_ne,ne_eq] at d
    split at n
    · cases n
    · rename_i I
      rw[if_neg I] at d
      split at n
      · cases n
      · rename_i a2
        rw[if_neg a2] at d
        split at n
        · cases n
        · rename_i L
          rw[if_neg L] at d;exact d rfl
   have Q:(if (cn r).2=0 then fw r s else (cn r).2)=av [(cn r).2,bQ (!decide (s=⟨#[]⟩)) 17,bQ (decide ((s.size:Int)≤3000)) 8,bQ (decide ((r.rs.length:Int)<100)) 8]:=by
    rw[uf];by_cases j:(cn r).2=0
    · rw[if_pos j,if_neg (al j)]
      rw[if_neg (al j)] at d;unfold fw
      split
      · rfl
      · rename_i I
        rw[if_neg I] at d
        split
        · rfl
        · rename_i a2
          rw[if_neg a2] at d
          split
          · rfl
          · rename_i L
            rw[if_neg L] at d;simp at d
    · rw[if_neg j,if_pos j]
   have F:(if (cn r).2=0 then fT r s else eF)=eF:=by
    split
    · rename_i j
      unfold fT;rw[if_neg (fun n=>hne ⟨j,n⟩)]
    · rfl
   refine aj (aq ?_);refine sv Y (az (zs:=pk) (pl:=pr) aa aa (Y.evs2 rfl) rfl rfl) fun _ Y=>?_;refine GO 1 ?_;intro _ Y;refine sw Y Z 1 fun _ Z=>?_;refine GO 6 ?_;intro _ Y;refine l6 Y rfl rfl rfl rfl Z (i:=1) rfl aa aa ?_;refine⟨none,0,?_,?_,Z.below⟩
   · rw[F,if_neg hne,Q];rfl
   · rw[F];exact World.ownsRow_nil _ _ _ _
  ·
   rw[uf] at d
   have g:(cn r).2=0∧s.size≠0∧s.size≤3000∧r.rs.length<100:=by
    simp only[bne_eq_false_iff_eq] at d
    split at d
    · omega
    split at d
    · omega
    split at d
    · omega
    split at d<;>omega
   have T:=ok_iff.1 g.1;have Jw:=T.h.nx;have ho:=T.o1;have Jx:=T.h.pg;have Jy:=mb g.2.2.1;have o:Bfr ⟨r.nx+1,r.r.s,s⟩:=⟨by show 1≤r.nx+1;omega,by show r.nx+1≤500000000;omega,g.2.2.1⟩
   have e1:r.rs.length+1=(r.rs ++ [(⟨r.nx+1,r.r.s,s⟩:RecP)]).length:=by simp
   have e2:fb ⟨r.nx+1,r.r.s,s⟩=r.nx+kQ s.size:=by show r.nx+1-1+kQ s.size=_;omega
   refine wp_skip (ai (aj (aq ?_)));refine vf Y 8 8 fun _ Y=>?_;refine GO 3 ?_;intro _ Y;refine vf Y 0 1 fun _ Y=>?_;refine GO 2 ?_;intro _ Y;refine sv (v:=l8 ⟨r.nx+1,r.r.s,s⟩) Y (az (zs:=oU) (pl:=fY) aa aa (Y.evs2 rfl) rfl rfl) fun _ Y=>?_;refine na (.agg kr) Y rfl Z fun b8 _ _ Zt Y Z=>sw Y Z 0 fun _ Z=>?_;refine rV ?_;refine sv (v:=bm r A c) Y (ah aa aa (Y.ev rfl) (Z.cellsAll (i:=3) rfl)) fun _ Y=>?_;refine na (.agg gU) Y rfl Z fun b9 _ _ Zu Y Z=>sw Y Z 0 fun J C=>?_;refine ag (ai (aj ?_));apply gB (m:=5) Y (fun b=>J.heap.size≤b) (max r.rs.length 1*3) [false,false,true,false,true,true,false,false,false] _ aa
   case h=>
    refine qv Y (fun X a=>fx 7 7 (Y.ev rfl)) fun _ Y=>?_;refine qv Y (fun X a=>lx (Y.ev rfl) ((C.grow (jw a)).cell (i:=4) rfl rfl)) fun _ Y=>?_;refine qv (v:=l8 ⟨r.nx+1,r.r.s,s⟩) Y (fun X a=>ah aa aa (Y.ev rfl) ((C.grow (jw a)).cellsAll (i:=1) rfl)) fun _ Y=>?_;refine qv (v:=l8 ⟨r.nx+1,r.r.s,s⟩) Y (fun X a=>ah aa aa (Y.ev rfl) ((C.grow (jw a)).cellsAll (i:=1) rfl)) fun _ Y=>?_;refine nH Y rfl (fun X a=>kf ⟨r.nx+1,r.r.s,s⟩ _ o.1 (by have:=o.2.1;omega) (by have:=o.2.2;omega)) fun _ Y=>?_;refine qv Y (fun X a=>fx 7 7 (Y.ev rfl)) fun _ Y=>?_;refine ax ?_;apply zp (O:=fun b=>J.heap.size≤b) (K:=max r.rs.length 1*3) (k:=2) (deps:=[]) (R:=OwnC _ _ _ _ _) Y rfl rfl rfl OwnC.stable (hx:=fun X a E=>F3 (aw a6 (Y.evs rfl) rfl) (mm r.rs A c _ ((C.grow (jw a)).rd0 hr) u) a.size)
    case hst2=>exact(OwnC.kpK ab)
    intro Va _ Y;apply zp (O:=fun b=>J.heap.size≤b) (K:=max r.rs.length 1*3) (k:=4) (deps:=[]) (R:=NewB _ (fun b=>.slice (some ⟨b,0,none⟩) 1 1) _ _) Y rfl rfl rfl NewB.stable (hx:=fun X a E=>jm (ec (cs:=recC ⟨r.nx+1,r.r.s,s⟩) (zc:=oU) (sz:=3) rfl dv aa aa rfl rfl rfl (Y.evs2 rfl) rfl rfl rfl) a.size)
    case hst2=>exact(NewB.kpK (by show 3≤_;omega))
    intro Vc _ Y;apply GX (O:=fun b=>J.heap.size≤b) (K:=max r.rs.length 1*3) (k:=5) (deps:=[2,4]) (R:=OwnB _ _ _ _ _) Y rfl rfl rfl OwnB.stable (fun X a E=>Hj (z:=.agg kr) (sz:=3) (bytes:=32) rfl dv aa rfl rfl (Y.ev rfl) (Y.ev rfl) (aM (k:=2) E rfl rfl) (NewB.rd (aM (k:=4) E rfl rfl)) rfl (List.all_eq_true.1 rfl) ⟨ab,by decide⟩ a.size ab);intro Jv _ Y;refine k5 fun _ H P=>?_;replace H:=jw H;have Z:=C.grow H;have Zp:=aD P (k:=2) rfl;have Zq:=aD P (k:=4) rfl;have G:=aD P (k:=5) rfl;obtain⟨p,t,rfl,G⟩:=G;have Z:=C.add H (e:=.row _ _ _ _ _) (aZ G (Nat.zero_le _)) (fun b hb=>G.lt b hb);refine aS Y (wn rfl) ⟨rfl,rfl⟩ (Y.ev rfl) (Y.ev rfl) rfl aa Z (i:=1) rfl rfl rfl fun _ Z=>?_;refine vf Y 8 8 fun _ Y=>?_;refine aS Y (wn rfl) ⟨rfl,rfl⟩ (Y.ev rfl) (Y.ev rfl) rfl aa Z (i:=1) rfl rfl rfl fun _ Z=>?_;rw[e1] at Y Z;rw[e2] at Y Z;refine ag (ai (aj (aj (aq ?_))));refine sv (v:=bm (de r s) p t) Y (ah aa aa (Y.ev rfl) (Z.cellsAll (i:=1) rfl)) fun _ Y=>?_;refine cQ Y rfl Z (sY (de r s) p t _ (by have q:=Z.rdOf (i:=0) rfl;exact(by unfold de;rw[hZ];exact q)) (fun y U=>by(have:y=⟨r.nx+1,r.r.s,s⟩:=by unfold de at U;simpa using U.symm);rw[this];exact o) (.inr ho) (by unfold de;simp;omega)) fun _ _ Y Z=>?_;refine GO 15 ?_;intro _ Y;apply bI Y Z 61 rfl 4 65
    case hf=>
     intro Zj;refine sy Y (fx 8 8 (Y.ev rfl)) fun _ Y=>?_;refine GO 3 ?_;intro _ Y;exact ag ⟨Y.midE 3,Z⟩
    case ht=>
     intro Zj;refine GO 4 ?_;intro _ Y;exact ag ⟨Y.midE 3,Z⟩
    case h=>
     rintro Vb Zv ⟨D,B⟩
     refine ag (ai ?_);refine ak (D.ev rfl) (fun S=>?_) (fun S=>?_)
     ·
      have hf:fw r s=16:=by
       unfold fw;rw[if_neg g.2.1,if_neg ab,if_neg ab];exact if_pos (show r.pg-2<(eL (de r s)).2∨100000000<r.nx+kQ s.size by simpa [Bool.or_eq_true] using S)
      refine aj (aq ?_);refine sv D (az (zs:=pk) (pl:=pr) aa aa (D.evs2 rfl) rfl rfl) fun _ Y=>?_;refine sw Y B 4 fun _ Z=>?_;refine GO 6 ?_;intro _ Y;refine l6 Y rfl rfl rfl rfl Z (i:=4) rfl aa aa ?_;refine⟨none,0,?_,?_,Z.below⟩
      · rw[if_pos g.1,if_pos g.1,if_neg (by rw[hf];simp),hf];unfold fT;rw[if_neg (by rw[hf];decide)];rfl
      · rw[if_pos g.1];unfold fT;rw[if_neg (by rw[hf];decide)];exact World.ownsRow_nil _ _ _ _
     ·
      have hf:fw r s=0:=by
       unfold fw;rw[if_neg g.2.1,if_neg ab,if_neg ab];exact if_neg (show ¬(r.pg-2<(eL (de r s)).2∨100000000<r.nx+kQ s.size) by simpa [Bool.or_eq_false_iff,not_or] using S)
      refine wp_skip (ai (aj ?_));apply gB (m:=3) D (St.domAt B (i:=4) rfl) 0 [false,false,false,true] _ aa
      case h=>
       refine qv (v:=bm (de r s) p t) D (fun X a=>ah aa aa (D.ev rfl) ((B.growO (i:=4) rfl a).cellsAll (i:=1) rfl)) fun _ Y=>?_;refine GO 1 ?_;intro _ Y;refine qv Y (fun X a=>lx (Y.ev rfl) ((B.growO (i:=4) rfl a).cell (i:=2) rfl rfl)) fun _ Y=>?_;refine ax ?_;apply iw (k:=3) (deps:=[]) (R:=IsBox _ _ _) Y rfl rfl IsBox.stable (fun X a E=>ij rfl (Y.ev rfl) (Y.ev rfl) rfl aa ((B.grow a).at_ (i:=4) rfl) rfl rfl);intro M;refine k5 fun _ Zl Zm=>?_;have Z:=B.growBox (i:=4) (v:=M) rfl Zl (aD Zm (k:=3) rfl);refine GO 5 ?_;intro _ Y;refine l6 Y rfl rfl rfl rfl Z (i:=4) rfl aa aa ?_
       have e3:fT r s=de r s:=by unfold fT;rw[if_pos hf]
       refine⟨p,t,?_,?_,Z.below⟩
       · rw[if_pos g.1,if_pos g.1,if_pos ⟨g.1,hf⟩,hf,e3];rfl
       · rw[if_pos g.1,e3]
         have q:=Z.ownB (i:=0) rfl;have e4:aW (de r s).rs=aW r.rs ++ aW [(⟨r.nx+1,r.r.s,s⟩:RecP)]:=hZ _ _;rw[e4];exact q
      case hB=>kernel_rfl
      case hst=>rfl
   case hB=>kernel_rfl
   case hst=>rfl
 case hB=>kernel_rfl
 case hst=>rfl
open Go.RowKit Go.Sort
open Go.RowKit
open Go.RowKit Go.Sort
theorem kR {m:Int}:IntKind.u16.wrap m=m % 65536:=by
 have:=wrap_u16 (n:=m % 65536) ab;rw[←this];simp[IntKind.wrap,IntKind.bits,IntKind.signed]
theorem mA {m:Int}:IntKind.u32.wrap m=m % 4294967296:=by
 have:=wrap_u32 (n:=m % 4294967296) ab;rw[←this];simp[IntKind.wrap,IntKind.bits,IntKind.signed]
theorem xY (m:Int):[Value.int .u8 (IntKind.u8.wrap m),.int .u8 (IntKind.u8.wrap (m / 2 ^ 8))]=(lit m 2).map bA:=by
 rw[ou,ou];rfl
theorem rO (m:Int):lit m 4=lit (m % 65536) 2 ++ [UInt8.ofNat (m / 2 ^ 16 % 256).toNat,UInt8.ofNat (m / 2 ^ 24 % 256).toNat]:=by
 have b:m % 65536 % 256=m % 256:=by omega
 have c:m % 65536 / 256 % 256=m / 256 % 256:=by omega
 have h3:m / 256 / 256 % 256=m / 2 ^ 16 % 256:=by omega
 have a:m / 256 / 256 / 256 % 256=m / 2 ^ 24 % 256:=by omega
 simp only[lit,List.cons_append,List.nil_append,b,c,h3,a]
def g16 (l:List UInt8) (o:Nat):Int:=(l.getD o 0).toNat+256*(l.getD (o+1) 0).toNat
def y9 (l:List UInt8) (o:Nat):Int:=g16 l o+65536*g16 l (o+2)
theorem n3 (l:List UInt8) (o:Nat):0≤g16 l o∧g16 l o<65536:=by
 have Y:=(l.getD o 0).toNat_lt;have Y:=(l.getD (o+1) 0).toNat_lt;unfold g16;omega
theorem xH (l:List UInt8) (o:Nat):0≤y9 l o∧y9 l o<4294967296:=by
 have Y:=n3 l o;have Y:=n3 l (o+2);unfold y9;omega
theorem pR {l:List UInt8} {o:Nat} (h:o+2≤l.length):g16 l o=gY l o 2:=by
 unfold gY g16;rw[xJ l o h];simp[num]
theorem vO (m:Int):lit m 4=lit (m % 65536) 2 ++ lit (m / 2 ^ 16 % 65536) 2:=by
 rw[rO]
 congr 1
 have b:m / 2 ^ 16 % 65536 % 256=m / 2 ^ 16 % 256:=by omega
 have a:m / 2 ^ 16 % 65536 / 256 % 256=m / 2 ^ 24 % 256:=by omega
 simp only[lit,b,a]
open Go.RowKit
theorem xb {x:RecP} (h:x.b.size≤3000):((B4 x).length:Int)=kQ x.b.size:=by
 have:=mb h;unfold B4;simp only[List.length_append,cu,lO,aO,List.length_cons,List.length_nil];omega
def yQ (q:Int) (x:RecP):Int:=max (q*448) (x.l-1)
def yT (q:Int) (x:RecP):Int:=min ((q+1)*448) (fb x)
def ER (q:Int) (x:RecP):List UInt8:=((B4 x).drop (yQ q x-(x.l-1)).toNat).take (yT q x-yQ q x).toNat
theorem kE (q:Int) (st:List UInt8 × Int × Int) (x:RecP):By q st x=if yT q x≤yQ q x then st else (n5 st.1 (yQ q x-q*448).toNat (ER q x),yT q x-q*448,x.s):=rfl
theorem oZ {q:Int} {x:RecP} (h:x.b.size≤3000) (c:¬yT q x≤yQ q x):((ER q x).length:Int)=yT q x-yQ q x:=by
 have Y:=xb h
 have a:yT q x≤fb x:=by unfold yT;omega
 have Y:x.l-1≤yQ q x:=by unfold yQ;omega
 unfold fb at a;unfold ER;rw[List.length_take,List.length_drop];omega
theorem pU {q:Int} {x:RecP} (a:¬yT q x≤yQ q x):0≤yQ q x-q*448∧yT q x-q*448≤448:=by
 unfold yQ yT at *;omega
theorem uL {q:Int} {st:List UInt8 × Int × Int} {x:RecP} (c:st.1.length=448) (h:x.b.size≤3000):(By q st x).1.length=448:=by
 rw[kE]
 split
 · exact c
 · rename_i a
   have Y:=oZ h a;have Y:=pU a;show(n5 st.1 _ _).length=448;rw[xe ab,c]
structure PgI (q:Int) (st:List UInt8 × Int × Int) (e:Int):Prop where
 len:st.1.length=448
 u0:0≤st.2.1
 u1:st.2.1≤448
 ue:st.2.1≤max 0 (e-q*448)
 z:∀i:Nat,st.2.1≤i→st.1.getD i 0=0
theorem PgI.zero (q e:Int):PgI q (cp 448,0,0) e:=⟨lO 448,Int.le_refl _,by decide,by show(0:Int)≤_;omega,fun i _=>xy 448 i⟩
theorem PgI.step {q e:Int} {st:List UInt8 × Int × Int} {x:RecP} (h:PgI q st e) (d:x.b.size≤3000) (j:e≤x.l-1):PgI q (By q st x) (fb x):=by
 have k:=mb d
 have g:x.l-1≤fb x:=by unfold fb;omega
 have Y:=h.ue;refine⟨uL h.len d,?_,?_,?_,?_⟩
 · rw[kE];split
   · exact h.u0
   · rename_i a;have:=pU a;show 0≤yT q x-q*448;omega
 · rw[kE];split
   · exact h.u1
   · rename_i a;exact(pU a).2
 · rw[kE];split
   · omega
   · show yT q x-q*448≤_
     unfold yT;omega
 · intro i c
   rw[kE] at c ⊢
   split
   · rename_i a;rw[if_pos a] at c;exact h.z i c
   · rename_i a
     rw[if_neg a] at c;have Y:=oZ d a;have Y:=pU a;have f:yT q x-q*448≤i:=c;show(n5 st.1 (yQ q x-q*448).toNat (ER q x)).getD i 0=0;rw[zX (by rw[h.len];omega),if_neg ab];apply h.z
     have:x.l-1≤yQ q x:=by unfold yQ;omega
     omega
theorem yB {r:RngP} (h:∀m (hm:m<r.rs.length),fe r.r.o r.r.s (cd r.rs m) r.rs[m]=0) (c:r.r.o≤100000000) (k:Nat) (b:k+1<r.rs.length):fb r.rs[k]≤r.rs[k+1].l-1:=by
 have a:=(recE_zero.1 (h (k+1) b)).2.2.1;rw[oG b] at a;unfold gR at a;simp only[Bool.or_eq_true,beq_iff_eq] at a;have:=pQ (p:=fb r.rs[k]);omega
open Go.RowKit Go.Sort
open Go.RowKit Go.Sort
attribute [local irreducible] gY Bw IL IW
open Go.RowKit Go.Sort
open Go.RowKit Go.Sort
open Go.RowKit Go.Sort
end Go.Proofs.YtcfdpfmchchkaaaGreatDoor
