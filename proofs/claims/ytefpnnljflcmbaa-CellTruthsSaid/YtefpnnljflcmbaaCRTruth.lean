/- What the printed functions of cell's reference on truths and joins come to. -/
import Derived.Test.YtefpnnljflcmbaaCTruth
import Derived.Test.YtefpnnljflcmbaaPCex25
import Derived.Test.YtefpnnljflcmbaaPCex26
import Derived.Test.YtefpnnljflcmbaaPCex27
import Derived.Test.YtefpnnljflcmbaaPCex28
import Derived.Test.YtefpnnljflcmbaaPCex23
import Derived.Test.YtefpnnljflcmbaaPCex24
namespace Go.Proofs.Ytefpnnljflcmbaa.CRTruth
set_option linter.unusedVariables false
set_option linter.unusedSimpArgs false
open Go.RowKit Go.Proofs.Ytefpnnljflcmbaa.PCe Go.Proofs.Ytefpnnljflcmbaa.CMath Go.Proofs.Ytefpnnljflcmbaa.CFuns Go.Proofs.Ytefpnnljflcmbaa.CRefs Go.Proofs.Ytefpnnljflcmbaa.CTruth Go.Proofs.YtefpnnljflcmbaaW.PrintWords Go.Proofs.YtefpnnljflcmbaaW.PrintLast Go.Proofs.YtefpnnljflcmbaaW.PrintMore
def tref : Nat → Int × Int
  | 0 => (0, 3)
  | 1 => (0, 20)
  | 2 => (2, 0)
  | 3 => (0, 0)
  | _ => (1, 0)
theorem rtruth_tells (k i : Int) (s : ByteArray) : hindsightref02_Truth.f k i s = some (tref (cls k i s)) := by
  unfold hindsightref02_Truth.f cls
  rw [rright_tells]
  simp only [Option.bind_some]
  cases h : rgt k i s
  · simp [tref]
  · simp only [if_true]
    by_cases h1 : k > 1
    · simp [h1, tref]
    · rw [if_neg h1, if_neg h1]
      by_cases h0 : k = 0
      · simp [h0, tref]
      · rw [if_neg h0, if_neg h0]
        by_cases hi : i = 0 <;> simp [hi, tref]
theorem rand_tells (n : Nat) (k i : Int) (s : ByteArray) (l j : Int) (t : ByteArray) : hindsightref02_And.f (n + 2) k i s l j t = some (andC (cls k i s) (cls l j t)) := by
  unfold hindsightref02_And.f
  rw [rright_tells, rright_tells, rgt_cls, rgt_cls]
  simp only [Option.bind_some, hindsightref02_And.j0]
  rw [rtruth_tells, rtruth_tells]
  simp only [Option.bind_some]
  rcases cls_le k i s with h | h | h | h | h <;> rcases cls_le l j t with h' | h' | h' | h' | h' <;> simp [h, h', tref, andC, val, err, wrap64, rd, hindsightref02_Of.f, hindsightref02_Number.f]
theorem ror_tells (n : Nat) (k i : Int) (s : ByteArray) (l j : Int) (t : ByteArray) : hindsightref02_Or.f (n + 2) k i s l j t = some (orC (cls k i s) (cls l j t)) := by
  unfold hindsightref02_Or.f
  rw [rright_tells, rright_tells, rgt_cls, rgt_cls]
  simp only [Option.bind_some, hindsightref02_Or.j0]
  rw [rtruth_tells, rtruth_tells]
  simp only [Option.bind_some]
  rcases cls_le k i s with h | h | h | h | h <;> rcases cls_le l j t with h' | h' | h' | h' | h' <;> simp [h, h', tref, orC, val, err, wrap64, rd, hindsightref02_Of.f, hindsightref02_Number.f]
theorem rnot_tells (k i : Int) (s : ByteArray) : hindsightref02_Not.f k i s = some (notC (cls k i s)) := by
  unfold hindsightref02_Not.f
  rw [rtruth_tells]
  simp only [Option.bind_some]
  rcases cls_le k i s with h | h | h | h | h <;> simp [h, tref, notC, val, err, rd, hindsightref02_Of.f, hindsightref02_Number.f]
/-- joins: both tell the same -/
theorem join_same (n : Nat) (k i : Int) (s : ByteArray) (l j : Int) (t : ByteArray) (hs : s.size + t.size ≤ 9223372036854775807) : ∃ r, cell_Join.f (n + 3) k i s l j t = some r ∧ hindsightref02_Join.f (n + 3) k i s l j t = some r := by
  unfold cell_Join.f hindsightref02_Join.f
  rw [right_tells, right_tells, rright_tells, rright_tells]
  simp only [Option.bind_some]
  have bad : ∃ r, cell_Join.j0 (n + 3) true k i s l j t = some r ∧ hindsightref02_Join.j0 (n + 3) true k i s l j t = some r := ⟨err 3, by simp only [cell_Join.j0, if_true]; rfl, by simp only [hindsightref02_Join.j0, if_true]; rfl⟩
  cases rgt k i s
  · simpa using bad
  · cases rgt l j t
    · simpa using bad
    · simp only [if_true, Bool.not_true]
      simp only [cell_Join.j0, hindsightref02_Join.j0, Bool.false_eq_true, if_false]
      have one : ∃ r, cell_Join.j1 (n + 2) true k i s l j t = some r ∧ hindsightref02_Join.j1 (n + 2) true k i s l j t = some r := ⟨err 0, by simp only [cell_Join.j1, if_true]; rfl, by simp only [hindsightref02_Join.j1, if_true]; rfl⟩
      by_cases h0 : k = 0
      · rw [if_pos h0, if_pos h0]; exact one
      · rw [if_neg h0, if_neg h0]
        by_cases hl : l = 0
        · rw [show (l == 0) = true by rw [hl]; rfl]; exact one
        · rw [show (l == 0) = false from beq_eq_false_iff_ne.2 hl]
          simp only [cell_Join.j1, hindsightref02_Join.j1]
          by_cases hkl : k = l
          · by_cases h1 : k = 1
            · exact ⟨err 20, by simp [hkl, h1, err] <;> (try (subst hkl; simp [h1])), by simp [hkl, h1, err] <;> (try (subst hkl; simp [h1]))⟩
            · exact ⟨(k, 0, s ++ t, 0), by simp [hkl, h1, hs] <;> (try (subst hkl; simp [h1, hs])), by simp [hkl, h1, hs] <;> (try (subst hkl; simp [h1, hs]))⟩
          · exact ⟨err 20, by simp [hkl, err], by simp [hkl, err] <;> (intros; omega)⟩
end Go.Proofs.Ytefpnnljflcmbaa.CRTruth
