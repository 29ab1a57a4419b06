/- What the printed functions of cell on orders come to. -/
import Derived.Test.YtefpnnljflcmbaaCFuns
import Derived.Test.YtefpnnljflcmbaaPCex5
import Derived.Test.YtefpnnljflcmbaaPCex6
namespace Go.Proofs.Ytefpnnljflcmbaa.COrd
set_option linter.unusedVariables false
set_option linter.unusedSimpArgs false
open Go.RowKit Go.Proofs.Ytefpnnljflcmbaa.PCe Go.Proofs.Ytefpnnljflcmbaa.CMath Go.Proofs.Ytefpnnljflcmbaa.CFuns Go.Proofs.YtefpnnljflcmbaaW.PrintWords Go.Proofs.YtefpnnljflcmbaaW.PrintLast Go.Proofs.YtefpnnljflcmbaaW.PrintMore
theorem cmp64 (a b : Int) : cmp_Compare_int64.f a b = some (if a < b then -1 else if a > b then 1 else 0) := by
  simp only [cmp_Compare_int64.f, cmp_isNaN_int64.f, Option.bind_some, bne_self_eq_false, Bool.false_eq_true, if_false]
  (repeat' split) <;> rfl
theorem cmp8 (a b : Int) : cmp_Compare_uint8.f a b = some (if a < b then -1 else if a > b then 1 else 0) := by
  simp only [cmp_Compare_uint8.f, cmp_isNaN_uint8.f, Option.bind_some, bne_self_eq_false, Bool.false_eq_true, if_false]
  (repeat' split) <;> rfl
theorem order_tells (n : Nat) (k i : Int) (s : ByteArray) (l j : Int) (t : ByteArray) : cell_Order.f (n + 1) k i s l j t = some (ord k i s l j t) := by
  unfold cell_Order.f ord
  rw [right_tells, right_tells]
  simp only [Option.bind_some, cell_Order.j0]
  rw [cmp64, cmp8]
  cases rgt k i s <;> cases rgt l j t <;> simp
  by_cases h : k = l
  · subst h
    by_cases h1 : k = 1
    · simp [h1]
    · simp [h1, strings_Compare.f, cmpB]
  · simp [h]
    rcases Int.lt_or_lt_of_ne h with h1 | h1
    · simp [h1]
    · simp [h1, show ¬ k < l by omega]
/-- Compare: the order where both are there and of one kind. -/
def cmpr (k i : Int) (s : ByteArray) (l j : Int) (t : ByteArray) : Int × Bool × Int :=
  if rgt k i s = true ∧ rgt l j t = true then (if k = 0 ∨ l = 0 then (0, false, 0) else if k = l then (ord k i s l j t, true, 0) else (0, false, 20)) else (0, false, 3)
theorem compare_tells (n : Nat) (k i : Int) (s : ByteArray) (l j : Int) (t : ByteArray) : cell_Compare.f (n + 3) k i s l j t = some (cmpr k i s l j t) := by
  unfold cell_Compare.f cmpr
  rw [right_tells, right_tells]
  simp only [Option.bind_some, cell_Compare.j0, cell_Compare.j1]
  rw [order_tells]
  cases rgt k i s <;> cases rgt l j t <;> simp
  by_cases h0 : k = 0
  · simp [h0]
  · by_cases hl : l = 0
    · simp [h0, hl]
    · by_cases hkl : k = l <;> simp [h0, hl, hkl] <;> (try (subst hkl; simp [h0]))
end Go.Proofs.Ytefpnnljflcmbaa.COrd
