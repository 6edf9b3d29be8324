/-
  Chapter 20: logs with a record more, closed, restarted.
  Chapter 20: logs restarted.
  Chapter 20: plain words: the reference's way of reading is the program's. No program in sight.
  Chapter 20: numbers in bytes, the bytes of a record.
-/
import Derived.Test.YtcfdpfmchchkaaaGreatDoorRgA
import Derived.Test.YtcfdpfmchchkaaaGreatDoorSplD
import Derived.Test.YtcfdpfmchchkaaaGreatDoorOpB
namespace Go.Proofs.YtcfdpfmchchkaaaGreatDoor
set_option maxHeartbeats 1000000
set_option maxRecDepth 4000
set_option linter.unusedVariables false
set_option linter.unusedSimpArgs false
open Go.RowKit Go.Sort
theorem wy (l:List RecP):∀u∈cu l,u.oneCell'=true:=by
 intro u hu;obtain⟨x,_,hx⟩:=List.mem_flatMap.1 hu;simp only[recC,List.mem_cons,List.not_mem_nil,or_false] at hx
 rcases hx with rfl | rfl | rfl<;>rfl
theorem OkP.tl {r:RngP} (h:OkP r):fN r=0∧(r.r.c=0∨oC r.rs r.r.c=true)∧(fQ r).2≤r.pg-2:=by
 have h1:=h.t;unfold jv at h1;rw[aX] at h1;have h2:=h1 (aS (r.r.c==0||oC r.rs r.r.c) 6) a6;have h3:=h1 (aS (decide ((fQ r).2≤r.pg-2)) 16) a6;rw[aQ aq] at h2 h3;refine⟨h1 (fN r) a6,?_,of_decide_eq_true h3⟩;rw[Bool.or_eq_true,beq_iff_eq] at h2;exact h2
theorem OkP.o1 {r:RngP} (h:OkP r):1≤r.r.o∧r.r.o≤100000000:=by
 rcases h.o with h1 | h1
 · have h2:=h.tl.1
   unfold fN at h2;rw[h1] at h2;simp only[List.getLast?_nil] at h2;rw[aQ aq,Bool.and_eq_true,beq_iff_eq] at h2;have:=h.h.nx;have:=h.h.rr.2.2;omega
 · exact h1
open Go.RowKit Go.Sort
theorem St.other {M:List Nat} {w X X':World} {L L':List Ent} {i j b n sz:Nat} {cs:Array Value} {T T':TypeId} {v:Value} {xs:List Value} (h:St M w X L) (hi:L[i]? = some (.box b cs T)) (hj:L[j]? = some (.row v n T' sz xs)) (hij:i≠j) (hX:St v.ownBlock.toList X X' L'):Box X' b cs T:=by
 have hb:Box X b cs T:=h.at_ hi;refine(hX.block b hb.lt (fun hm=>?_)).trans hb
 have hm':v.ownBlock=some b:=by simpa using hm
 obtain⟨hli,hi2⟩:=List.getElem?_eq_some_iff.1 hi;obtain⟨hlj,hj2⟩:=List.getElem?_eq_some_iff.1 hj;have hp:=List.pairwise_iff_getElem.1 h.sep;rcases Nat.lt_or_gt_of_ne hij with h1 | h1
 · exact hp i j hli hlj h1 b (by rw[hi2];rfl) (by rw[hj2];exact hm')
 · exact hp j i hlj hli h1 b (by rw[hj2];exact hm') (by rw[hi2];rfl)
open Go.RowKit
open Go.RowKit Go.Sort
theorem iX {m:Int}:IntKind.u16.wrap m=m % 65536:=by
 have:=wrap_u16 (n:=m % 65536) ab;rw[←this];simp[IntKind.wrap,IntKind.bits,IntKind.signed]
theorem ky {m:Int}:IntKind.u32.wrap m=m % 4294967296:=by
 have:=wrap_u32 (n:=m % 4294967296) ab;rw[←this];simp[IntKind.wrap,IntKind.bits,IntKind.signed]
theorem ua (m:Int):[Value.int .u8 (IntKind.u8.wrap m),.int .u8 (IntKind.u8.wrap (m / 2 ^ 8))]=(lit m 2).map bA:=by
 rw[lA,lA];rfl
theorem nM (m:Int):lit m 4=lit (m % 65536) 2 ++ [UInt8.ofNat (m / 2 ^ 16 % 256).toNat,UInt8.ofNat (m / 2 ^ 24 % 256).toNat]:=by
 have h1:m % 65536 % 256=m % 256:=by omega
 have h2:m % 65536 / 256 % 256=m / 256 % 256:=by omega
 have h3:m / 256 / 256 % 256=m / 2 ^ 16 % 256:=by omega
 have h4:m / 256 / 256 / 256 % 256=m / 2 ^ 24 % 256:=by omega
 simp only[lit,List.cons_append,List.nil_append,h1,h2,h3,h4]
def g16 (l:List UInt8) (o:Nat):Int:=(l.getD o 0).toNat+256*(l.getD (o+1) 0).toNat
def uE (l:List UInt8) (o:Nat):Int:=g16 l o+65536*g16 l (o+2)
theorem lj (l:List UInt8) (o:Nat):0≤g16 l o∧g16 l o<65536:=by
 have Y:=(l.getD o 0).toNat_lt;have Y:=(l.getD (o+1) 0).toNat_lt;unfold g16;omega
theorem ub (l:List UInt8) (o:Nat):0≤uE l o∧uE l o<4294967296:=by
 have Y:=lj l o;have Y:=lj l (o+2);unfold uE;omega
theorem mo {l:List UInt8} {o:Nat} (h:o+2≤l.length):g16 l o=fv l o 2:=by
 unfold fv g16;rw[sY l o h];simp[num]
theorem rL (m:Int):lit m 4=lit (m % 65536) 2 ++ lit (m / 2 ^ 16 % 65536) 2:=by
 rw[nM]
 congr 1
 have h1:m / 2 ^ 16 % 65536 % 256=m / 2 ^ 16 % 256:=by omega
 have h2:m / 2 ^ 16 % 65536 / 256 % 256=m / 2 ^ 24 % 256:=by omega
 simp only[lit,h1,h2]
end Go.Proofs.YtcfdpfmchchkaaaGreatDoor
