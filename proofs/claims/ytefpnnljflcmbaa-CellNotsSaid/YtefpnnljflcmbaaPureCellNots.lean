/- The law CellNots over the printed functions: Not of And is Or of the Nots, and the other way round, where all are truths. -/
import Derived.Test.YtefpnnljflcmbaaCTruth
import Derived.Test.YtefpnnljflcmbaaCAlive
import Derived.Test.YtefpnnljflcmbaaPCex22
namespace Go.Proofs.Ytefpnnljflcmbaa.Pure
set_option linter.unusedVariables false
set_option linter.unusedSimpArgs false
open Go.RowKit Go.Proofs.Ytefpnnljflcmbaa.PCe Go.Proofs.Ytefpnnljflcmbaa.CMath Go.Proofs.Ytefpnnljflcmbaa.CFuns Go.Proofs.Ytefpnnljflcmbaa.CTruth Go.Proofs.Ytefpnnljflcmbaa.CAlive Go.Proofs.YtefpnnljflcmbaaW.PrintWords Go.Proofs.YtefpnnljflcmbaaW.PrintLast Go.Proofs.YtefpnnljflcmbaaW.PrintMore
theorem CellNots : hindsightlaw02_CellNots.Pure := by
  intro k i s l j t hk hi hs hl hj ht
  refine ⟨20, ?_⟩
  unfold hindsightlaw02_CellNots.f
  rw [great_tells, alive_tells 20 (by decide)]
  simp only [Option.bind_some]
  by_cases hg : s.size > 1000 ∨ t.size > 1000
  · rw [if_pos (decide_eq_true hg)]
  rw [if_neg (by simpa using hg), and_tells 18 k i s l j t, not_tells, not_tells]
  simp only [Option.bind_some, hindsightlaw02_CellNots.j0]
  rw [alive_tells 19 (by decide)]
  simp only [Option.bind_some, if_true, not_tells]
  rw [or_tells 17, or_tells 17, and_tells 17]
  simp only [Option.bind_some]
  have v0 : cls 1 0 ⟨#[]⟩ = 3 := cls_val 0
  have v1 : cls 1 1 ⟨#[]⟩ = 4 := cls_val 1
  have e : cls 0 0 ⟨#[]⟩ = 2 := cls_err 0
  rcases cls_le k i s with h | h | h | h | h <;> rcases cls_le l j t with h' | h' | h' | h' | h' <;> rw [h, h'] <;> simp [andC, orC, notC, val, err, v0, v1, e]
end Go.Proofs.Ytefpnnljflcmbaa.Pure
