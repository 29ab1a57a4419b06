/- The law CellSums over the printed functions: sums, differences, products, quotients and rests are the reference's, or its errors, for any two values. -/
import Derived.Test.YtefpnnljflcmbaaCRefs
import Derived.Test.YtefpnnljflcmbaaCAlive
import Derived.Test.YtefpnnljflcmbaaPCex40
namespace Go.Proofs.Ytefpnnljflcmbaa.Pure
set_option linter.unusedVariables false
set_option linter.unusedSimpArgs false
open Go.RowKit Go.Proofs.Ytefpnnljflcmbaa.PCe Go.Proofs.Ytefpnnljflcmbaa.CMath Go.Proofs.Ytefpnnljflcmbaa.CFuns Go.Proofs.Ytefpnnljflcmbaa.CRefs Go.Proofs.Ytefpnnljflcmbaa.CAlive Go.Proofs.YtefpnnljflcmbaaW.PrintWords Go.Proofs.YtefpnnljflcmbaaW.PrintLast Go.Proofs.YtefpnnljflcmbaaW.PrintMore
theorem CellSums : hindsightlaw02_CellSums.Pure := by
  intro k i s l j t hk hi hs hl hj ht
  have hi' := wf_i64 hi
  have hj' := wf_i64 hj
  refine ⟨20, ?_⟩
  unfold hindsightlaw02_CellSums.f
  rw [great_tells, alive_tells 20 (by decide)]
  simp only [Option.bind_some]
  by_cases hg : s.size > 1000 ∨ t.size > 1000
  · rw [if_pos (decide_eq_true hg)]
  rw [if_neg (by simpa using hg), add_tells 18 k i s l j t hi' hj', radd_tells 18 k i s l j t hi' hj']
  simp only [Option.bind_some]
  rw [if_neg (by rw [same_no]; decide), bne_self_eq_false]
  simp only [hindsightlaw02_CellSums.j0, Bool.false_eq_true, if_false]
  rw [sub_tells 17 k i s l j t hi' hj', rsub_tells 17 k i s l j t hi' hj']
  simp only [Option.bind_some]
  rw [if_neg (by rw [same_no]; decide), bne_self_eq_false]
  simp only [hindsightlaw02_CellSums.j1, Bool.false_eq_true, if_false]
  rw [mul_tells 15 k i s l j t hi' hj', rmul_tells 15 k i s l j t hi' hj']
  simp only [Option.bind_some]
  rw [if_neg (by rw [same_no]; decide), bne_self_eq_false]
  simp only [hindsightlaw02_CellSums.j2, Bool.false_eq_true, if_false]
  rw [div_tells 14 k i s l j t hi' hj', rdiv_tells 14 k i s l j t false hi' hj', if_neg (by decide)]
  simp only [Option.bind_some]
  rw [if_neg (by rw [same_no]; decide), bne_self_eq_false]
  simp only [hindsightlaw02_CellSums.j3, Bool.false_eq_true, if_false]
  rw [mod_tells 13 k i s l j t, rdiv_tells 13 k i s l j t true hi' hj', if_pos rfl]
  simp only [Option.bind_some]
  rw [if_neg (by rw [same_no]; decide), bne_self_eq_false]
  simp only [hindsightlaw02_CellSums.j4, Bool.false_eq_true, if_false]
  rw [neg_tells 13 k i s hi', alive_tells 15 (by decide)]
  simp only [hindsightref02_Number.f, Option.bind_some]
  rw [rsub_tells 13 1 0 _ k i s (by decide) hi']
  simp only [Option.bind_some, if_true]
  rw [same_yes]
  simp
end Go.Proofs.Ytefpnnljflcmbaa.Pure
