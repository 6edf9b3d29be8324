/-
  Chapter 20: logs with a record more, closed, restarted.
  Chapter 20: logs restarted.
  Chapter 20: plain words: the reference's way of reading is the program's. No program in sight.
  Chapter 20: numbers in bytes, the bytes of a record.
-/
import Derived.Test.YtcfdpfmchchkaaaGreatDoorRgA
import Derived.Test.YtcfdpfmchchkaaaGreatDoorSplD
import Derived.Test.YtcfdpfmchchkaaaGreatDoorOpB
namespace Go.Proofs.YtcfdpfmchchkaaaGreatDoor
set_option maxHeartbeats 1000000
set_option maxRecDepth 4000
set_option linter.unusedVariables false
set_option linter.unusedSimpArgs false
open Go.RowKit Go.Sort
theorem uW (l:List RecP):∀u∈cc l,u.oneCell'=true:=by
 intro u hu;obtain⟨x,_,hx⟩:=List.mem_flatMap.1 hu;simp only[recC,List.mem_cons,List.not_mem_nil,or_false] at hx
 rcases hx with rfl | rfl | rfl<;>rfl
theorem OkP.tl {r:RngP} (h:OkP r):fA r=0∧(r.r.c=0∨nX r.rs r.r.c=true)∧(fz r).2≤r.pg-2:=by
 have h1:=h.t;unfold jf at h1;rw[aQ] at h1;have h2:=h1 (bn (r.r.c==0||nX r.rs r.r.c) 6) a7;have h3:=h1 (bn (decide ((fz r).2≤r.pg-2)) 16) a7;rw[aL aq] at h2 h3;refine⟨h1 (fA r) a7,?_,of_decide_eq_true h3⟩;rw[Bool.or_eq_true,beq_iff_eq] at h2;exact h2
theorem OkP.o1 {r:RngP} (h:OkP r):1≤r.r.o∧r.r.o≤100000000:=by
 rcases h.o with h1 | h1
 · have h2:=h.tl.1
   unfold fA at h2;rw[h1] at h2;simp only[List.getLast?_nil] at h2;rw[aL aq,Bool.and_eq_true,beq_iff_eq] at h2;have:=h.h.nx;have:=h.h.rr.2.2;omega
 · exact h1
open Go.RowKit Go.Sort
open Go.RowKit
open Go.RowKit Go.Sort
theorem iM {m:Int}:IntKind.u16.wrap m=m % 65536:=by
 have:=wrap_u16 (n:=m % 65536) ab;rw[←this];simp[IntKind.wrap,IntKind.bits,IntKind.signed]
theorem j9 {m:Int}:IntKind.u32.wrap m=m % 4294967296:=by
 have:=wrap_u32 (n:=m % 4294967296) ab;rw[←this];simp[IntKind.wrap,IntKind.bits,IntKind.signed]
theorem tf (m:Int):[Value.int .u8 (IntKind.u8.wrap m),.int .u8 (IntKind.u8.wrap (m / 2 ^ 8))]=(lit m 2).map bb:=by
 rw[k9,k9];rfl
theorem ny (m:Int):lit m 4=lit (m % 65536) 2 ++ [UInt8.ofNat (m / 2 ^ 16 % 256).toNat,UInt8.ofNat (m / 2 ^ 24 % 256).toNat]:=by
 have h1:m % 65536 % 256=m % 256:=by omega
 have h2:m % 65536 / 256 % 256=m / 256 % 256:=by omega
 have h3:m / 256 / 256 % 256=m / 2 ^ 16 % 256:=by omega
 have h4:m / 256 / 256 / 256 % 256=m / 2 ^ 24 % 256:=by omega
 simp only[lit,List.cons_append,List.nil_append,h1,h2,h3,h4]
def g16 (l:List UInt8) (o:Nat):Int:=(l.getD o 0).toNat+256*(l.getD (o+1) 0).toNat
def ua (l:List UInt8) (o:Nat):Int:=g16 l o+65536*g16 l (o+2)
theorem ky (l:List UInt8) (o:Nat):0≤g16 l o∧g16 l o<65536:=by
 have Y:=(l.getD o 0).toNat_lt;have Y:=(l.getD (o+1) 0).toNat_lt;unfold g16;omega
theorem tL (l:List UInt8) (o:Nat):0≤ua l o∧ua l o<4294967296:=by
 have Y:=ky l o;have Y:=ky l (o+2);unfold ua;omega
theorem l0 {l:List UInt8} {o:Nat} (h:o+2≤l.length):g16 l o=fe l o 2:=by
 unfold fe g16;rw[tI l o h];simp[num]
theorem rI (m:Int):lit m 4=lit (m % 65536) 2 ++ lit (m / 2 ^ 16 % 65536) 2:=by
 rw[ny]
 congr 1
 have h1:m / 2 ^ 16 % 65536 % 256=m / 2 ^ 16 % 256:=by omega
 have h2:m / 2 ^ 16 % 65536 / 256 % 256=m / 2 ^ 24 % 256:=by omega
 simp only[lit,h1,h2]
end Go.Proofs.YtcfdpfmchchkaaaGreatDoor
