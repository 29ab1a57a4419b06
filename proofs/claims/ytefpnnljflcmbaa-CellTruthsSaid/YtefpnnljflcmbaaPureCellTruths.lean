/- The law CellTruths over the printed functions: joins and truths are the reference's, or its errors, for any two values. -/
import Derived.Test.YtefpnnljflcmbaaCRTruth
import Derived.Test.YtefpnnljflcmbaaCAlive
import Derived.Test.YtefpnnljflcmbaaPCex29
namespace Go.Proofs.Ytefpnnljflcmbaa.Pure
set_option linter.unusedVariables false
set_option linter.unusedSimpArgs false
open Go.RowKit Go.Proofs.Ytefpnnljflcmbaa.PCe Go.Proofs.Ytefpnnljflcmbaa.CMath Go.Proofs.Ytefpnnljflcmbaa.CFuns Go.Proofs.Ytefpnnljflcmbaa.CRefs Go.Proofs.Ytefpnnljflcmbaa.CTruth Go.Proofs.Ytefpnnljflcmbaa.CRTruth Go.Proofs.Ytefpnnljflcmbaa.CAlive Go.Proofs.YtefpnnljflcmbaaW.PrintWords Go.Proofs.YtefpnnljflcmbaaW.PrintLast Go.Proofs.YtefpnnljflcmbaaW.PrintMore
theorem CellTruths : hindsightlaw02_CellTruths.Pure := by
  intro k i s l j t hk hi hs hl hj ht
  refine ⟨20, ?_⟩
  unfold hindsightlaw02_CellTruths.f
  rw [great_tells, alive_tells 20 (by decide)]
  simp only [Option.bind_some]
  by_cases hg : s.size > 1000 ∨ t.size > 1000
  · rw [if_pos (decide_eq_true hg)]
  obtain ⟨r, h1, h2⟩ := join_same 17 k i s l j t (by omega)
  rw [if_neg (by simpa using hg), h1, h2]
  simp only [Option.bind_some]
  rw [if_neg (by rw [same_no]; decide), bne_self_eq_false]
  simp only [hindsightlaw02_CellTruths.j0, Bool.false_eq_true, if_false]
  rw [and_tells 17 k i s l j t, rand_tells 17 k i s l j t]
  simp only [Option.bind_some]
  rw [if_neg (by rw [same_no]; decide), bne_self_eq_false]
  simp only [hindsightlaw02_CellTruths.j1, Bool.false_eq_true, if_false]
  rw [or_tells 16 k i s l j t, ror_tells 16 k i s l j t]
  simp only [Option.bind_some]
  rw [if_neg (by rw [same_no]; decide), bne_self_eq_false]
  simp only [hindsightlaw02_CellTruths.j2, Bool.false_eq_true, if_false]
  rw [not_tells, rnot_tells, truth_tells, rtruth_tells, alive_tells 17 (by decide)]
  simp only [Option.bind_some, if_true]
  rw [same_yes]
  simp only [if_true]
  rcases cls_le k i s with h | h | h | h | h <;> rw [h] <;> simp [tcell, tref]
end Go.Proofs.Ytefpnnljflcmbaa.Pure
