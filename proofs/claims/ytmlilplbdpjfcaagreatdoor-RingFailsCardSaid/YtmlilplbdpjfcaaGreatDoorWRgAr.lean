/-
  RingAreas: the walk.
-/
import Derived.Test.YtmlilplbdpjfcaaGreatDoorRg28
import Derived.Test.YtmlilplbdpjfcaaGreatDoorArgA
namespace Go.Proofs.YtmlilplbdpjfcaaGreatDoor
set_option linter.unusedVariables false
set_option linter.unusedSimpArgs false
set_option maxRecDepth 4000
open Go.RowKit Go.Sort
theorem rsp_ok {x : RstP} {pg : Int} (h1 : rstE x = 0) (h2 : pgsE pg = 0) : rsoE (rsL x pg) pg = 0 ∧ rsoR (rsL x pg) pg = x := by
 have hrb := (unl_zero (by decide)).1 h1
 have hb := rstB_bd hrb
 have hpg := inB_true.1 ((unl_zero (by decide)).1 h2)
 have hl := rsH_length x pg
 have hlen : (rsL x pg).length = 512 := prL_length hl _
 have hop : opB (rsL x pg) = true := op_pr_ok hl (by omega) (by omega)
 have hoe : opL (rsL x pg) = rsH x pg := op_pr hl fun i h3 h4 => rsH_zero x pg i (by omega)
 have key : rsoV (rsH x pg) = x := by
  have e8 : nAt (rsH x pg) 8 4 = x.s := by
   have e : rsH x pg = ([82, 83, 84, 82] ++ zerosL 4) ++ (lit x.s 4 ++ (lit x.c 4 ++ (lit x.o 4 ++ (lit pg 2 ++ zerosL 490)))) := by unfold rsH; simp only [List.append_assoc]
   have h := nAt_app ([82, 83, 84, 82] ++ zerosL 4) (lit x.s 4) (lit x.c 4 ++ (lit x.o 4 ++ (lit pg 2 ++ zerosL 490)))
   rw [lit_length, ← e] at h
   exact h.trans (by rw [num_lit]; omega)
  have e12 : nAt (rsH x pg) 12 4 = x.c := by
   have e : rsH x pg = ([82, 83, 84, 82] ++ (zerosL 4 ++ lit x.s 4)) ++ (lit x.c 4 ++ (lit x.o 4 ++ (lit pg 2 ++ zerosL 490))) := by unfold rsH; simp only [List.append_assoc]
   have h := nAt_app ([82, 83, 84, 82] ++ (zerosL 4 ++ lit x.s 4)) (lit x.c 4) (lit x.o 4 ++ (lit pg 2 ++ zerosL 490))
   rw [lit_length, ← e] at h
   exact h.trans (by rw [num_lit]; omega)
  have e16 : nAt (rsH x pg) 16 4 = x.o := by
   have e : rsH x pg = ([82, 83, 84, 82] ++ (zerosL 4 ++ (lit x.s 4 ++ lit x.c 4))) ++ (lit x.o 4 ++ (lit pg 2 ++ zerosL 490)) := by unfold rsH; simp only [List.append_assoc]
   have h := nAt_app ([82, 83, 84, 82] ++ (zerosL 4 ++ (lit x.s 4 ++ lit x.c 4))) (lit x.o 4) (lit pg 2 ++ zerosL 490)
   rw [lit_length, ← e] at h
   exact h.trans (by rw [num_lit]; omega)
  unfold rsoV
  rw [e8, e12, e16]
 have hE : rsoE (rsL x pg) pg = 0 := by
  unfold rsoE
  rw [if_neg (by simpa using hlen), if_neg (by simpa using h2), if_neg (by rw [hop]; decide), hoe, key, if_neg (by simpa using h1), if_neg (by simp)]
 refine ⟨hE, ?_⟩
 unfold rsoR
 rw [if_pos hE, hoe, key]
end Go.Proofs.YtmlilplbdpjfcaaGreatDoor
