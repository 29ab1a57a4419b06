/- The fixed calls of the statements of cell tell true. -/
import Derived.Test.YtefpnnljflcmbaaCTruth
import Derived.Test.YtefpnnljflcmbaaCOrd
import Derived.Test.YtefpnnljflcmbaaPCex14
import Derived.Test.YtefpnnljflcmbaaPCex2
namespace Go.Proofs.Ytefpnnljflcmbaa.CAlive
set_option linter.unusedVariables false
set_option linter.unusedSimpArgs false
open Go.RowKit Go.Proofs.Ytefpnnljflcmbaa.PCe Go.Proofs.Ytefpnnljflcmbaa.CMath Go.Proofs.Ytefpnnljflcmbaa.CFuns Go.Proofs.Ytefpnnljflcmbaa.CTruth Go.Proofs.Ytefpnnljflcmbaa.COrd Go.Proofs.YtefpnnljflcmbaaW.PrintWords Go.Proofs.YtefpnnljflcmbaaW.PrintLast Go.Proofs.YtefpnnljflcmbaaW.PrintMore
theorem alive_tells (k : Nat) (hk : 5 ≤ k) : hindsightlaw02_alive.f k = some true := by
  obtain ⟨m, rfl⟩ : ∃ m, k = m + 3 := ⟨k - 3, by omega⟩
  unfold hindsightlaw02_alive.f
  simp only [hindsightref02_Number.f, Option.bind_some]
  rw [add_tells (m + 1) _ _ _ _ _ _ (by decide) (by decide), and_tells (m + 1), mul_tells m _ _ _ _ _ _ (by decide) (by decide), compare_tells m]
  have z : (⟨#[]⟩ : ByteArray).size = 0 := rfl
  rw [numz_one _ _ _ _ z z, numz_one _ _ _ _ z z]
  have e1 : fits (9223372036854775807 + 1) = err 21 := by unfold fits; rw [if_neg (by decide)]
  have e2 : fits (-3 * 5) = val (-15) := by unfold fits; rw [if_pos (by decide)]; rfl
  have c0 : cls 0 0 ⟨#[]⟩ = 2 := cls_err 0
  have c1 : cls 1 0 ⟨#[]⟩ = 3 := cls_val 0
  have o1 : cmpr 1 1 ⟨#[]⟩ 1 2 ⟨#[]⟩ = (-1, true, 0) := by
    have h1 : rgt 1 1 ⟨#[]⟩ = true := by unfold rgt; exact decide_eq_true (Or.inr (Or.inl ⟨rfl, rfl⟩))
    have h2 : rgt 1 2 ⟨#[]⟩ = true := by unfold rgt; exact decide_eq_true (Or.inr (Or.inl ⟨rfl, rfl⟩))
    unfold cmpr ord
    rw [h1, h2]; decide
  rw [e1, e2, c0, c1, o1]
  simp [op2, andC, val, err]
theorem great_tells (k i : Int) (s : ByteArray) (l j : Int) (t : ByteArray) : hindsightlaw02_great.f k i s l j t = some (decide (s.size > 1000 ∨ t.size > 1000)) := by
  unfold hindsightlaw02_great.f
  by_cases h : (s.size : Int) > 1000
  · rw [if_pos h]; simp; omega
  · rw [if_neg h]; congr 1; rw [decide_eq_decide]; omega
/-- What is equal isn't told apart. -/
theorem same_no (r : Int × Int × ByteArray × Int) : (!(r.1 == r.1) || (!(r.2.1 == r.2.1) || (!(r.2.2.1.toList == r.2.2.1.toList)))) = false := by simp
theorem same_yes (r : Int × Int × ByteArray × Int) : (r.1 == r.1 && (r.2.1 == r.2.1 && (r.2.2.1.toList == r.2.2.1.toList))) = true := by simp
end Go.Proofs.Ytefpnnljflcmbaa.CAlive
