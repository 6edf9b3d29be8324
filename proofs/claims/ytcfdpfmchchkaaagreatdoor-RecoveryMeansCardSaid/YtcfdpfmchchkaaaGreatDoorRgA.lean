/-
  Chapter 20: small functions of logs.
  Chapter 20: the error of a record, of the next position; whether a log has a record.
  Chapter 20: logs checked.
  Chapter 20: logs checked.
-/
import Derived.Test.YtcfdpfmchchkaaaGreatDoorOpA
namespace Go.Proofs.YtcfdpfmchchkaaaGreatDoor
set_option linter.unusedVariables false
set_option linter.unusedSimpArgs false
open Go.RowKit Go.Sort
open Go.RowKit Go.Sort
theorem dC {X:World} {b:Nat} {e1 e2:Int} {T:TypeId} (hb:Box X b #[.int .i64 e1,.int .i64 e2] T):Calls Tryz.prog 63 #[.slice (some ⟨b,0,none⟩) 2 2] X fun e w'=>e=.returned (.int .i64 (aP [e1,e2]))∧X=w':=
 fC b 0 [e1,e2] X (by simp) (fun k hk=>by
  rw[Nat.zero_add,Box.cells hb k]
  have:k=0∨k=1:=by simp at hk;omega
  rcases this with rfl | rfl<;>rfl)
theorem fk {X:World} {b:Nat} {e1 e2 e3:Int} {T:TypeId} (hb:Box X b #[.int .i64 e1,.int .i64 e2,.int .i64 e3] T):Calls Tryz.prog 63 #[.slice (some ⟨b,0,none⟩) 3 3] X fun e w'=>e=.returned (.int .i64 (aP [e1,e2,e3]))∧X=w':=
 fC b 0 [e1,e2,e3] X (by simp) (fun k hk=>by
  rw[Nat.zero_add,Box.cells hb k]
  have:k=0∨k=1∨k=2:=by simp at hk;omega
  rcases this with rfl | rfl | rfl<;>rfl)
def Bfr (y:RecP):Prop:=1≤y.l∧y.l≤500000000∧y.b.size≤3000
theorem Bfr.bd {y:RecP} (h:Bfr y):0≤xx y∧xx y≤600000000∧0≤wF (xx y)∧wF (xx y)≤700000000∧1≤xx y:=by
 obtain⟨h1,h2,h3⟩:=h;unfold wF xx BG;omega
open Go.RowKit Go.Sort
open Go.RowKit Go.Sort
theorem Ad (r:RngP) (h:∀m (hm:m<r.rs.length),zM r.r.o r.r.s (Ax r.rs m) r.rs[m]=0):r.rs=[]∨1≤r.r.o:=by
 rcases Nat.eq_zero_or_pos r.rs.length with h0 | h0
 · exact .inl (List.eq_nil_of_length_eq_zero h0)
 · right
   have h1:=(recE_zero.1 (h 0 h0)).2.2.1;unfold Ax zx at h1;simp only[if_true,Bool.and_eq_true,beq_iff_eq,decide_eq_true_eq] at h1;omega
structure OkP (r:RngP):Prop where
 h:HeadP r
 all:∀m (hm:m<r.rs.length),zM r.r.o r.r.s (Ax r.rs m) r.rs[m]=0
 t:zX r=0
theorem OkP.o {r:RngP} (h:OkP r):r.rs=[]∨(1≤r.r.o∧r.r.o≤100000000):=(Ad r h.all).imp_right fun q=>⟨q,h.h.rr.2.2.2⟩
end Go.Proofs.YtcfdpfmchchkaaaGreatDoor
