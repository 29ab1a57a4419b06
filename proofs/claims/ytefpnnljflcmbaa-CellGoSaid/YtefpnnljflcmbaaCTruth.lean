/- What the printed functions of cell on truths and joins come to, and their reference's. -/
import Derived.Test.YtefpnnljflcmbaaCRefs
import Derived.Test.YtefpnnljflcmbaaPCex7
import Derived.Test.YtefpnnljflcmbaaPCex8
import Derived.Test.YtefpnnljflcmbaaPCex9
import Derived.Test.YtefpnnljflcmbaaPCex21
import Derived.Test.YtefpnnljflcmbaaPCex20
import Derived.Test.YtefpnnljflcmbaaPCex7
namespace Go.Proofs.Ytefpnnljflcmbaa.CTruth
set_option linter.unusedVariables false
set_option linter.unusedSimpArgs false
open Go.RowKit Go.Proofs.Ytefpnnljflcmbaa.PCe Go.Proofs.Ytefpnnljflcmbaa.CMath Go.Proofs.Ytefpnnljflcmbaa.CFuns Go.Proofs.YtefpnnljflcmbaaW.PrintWords Go.Proofs.YtefpnnljflcmbaaW.PrintLast Go.Proofs.YtefpnnljflcmbaaW.PrintMore
/-- A value's class: 0 may not be, 1 no number, 2 nothing, 3 nought, 4 another number. -/
def cls (k i : Int) (s : ByteArray) : Nat := if rgt k i s = true then (if k > 1 then 1 else if k = 0 then 2 else if i = 0 then 3 else 4) else 0
theorem cls_le (k i : Int) (s : ByteArray) : cls k i s = 0 ∨ cls k i s = 1 ∨ cls k i s = 2 ∨ cls k i s = 3 ∨ cls k i s = 4 := by
  unfold cls; (repeat' split) <;> simp
theorem rgt_cls (k i : Int) (s : ByteArray) : rgt k i s = decide (cls k i s ≠ 0) := by
  unfold cls; cases rgt k i s <;> simp; (repeat' split) <;> simp
def tcell : Nat → Bool × Bool × Int
  | 0 => (false, false, 3)
  | 1 => (false, false, 20)
  | 2 => (false, false, 0)
  | 3 => (false, true, 0)
  | _ => (true, true, 0)
def of3 : Nat → Int × Int × ByteArray × Int
  | 0 => val 0
  | 1 => val 1
  | _ => err 0
/-- the truth of a class: 0, 1, 2: not known -/
def tr : Nat → Nat
  | 3 => 0
  | 4 => 1
  | _ => 2
def andC (c d : Nat) : Int × Int × ByteArray × Int := if c = 0 ∨ d = 0 then err 3 else if c = 1 ∨ d = 1 then err 20 else if c = 3 ∨ d = 3 then val 0 else if c = 2 ∨ d = 2 then err 0 else val 1
def orC (c d : Nat) : Int × Int × ByteArray × Int := if c = 0 ∨ d = 0 then err 3 else if c = 1 ∨ d = 1 then err 20 else if c = 4 ∨ d = 4 then val 1 else if c = 2 ∨ d = 2 then err 0 else val 0
def notC (c : Nat) : Int × Int × ByteArray × Int := if c = 0 then err 3 else if c = 1 then err 20 else if c = 2 then err 0 else if c = 3 then val 1 else val 0
theorem truth_tells (k i : Int) (s : ByteArray) : cell_Truth.f k i s = some (tcell (cls k i s)) := by
  unfold cell_Truth.f cls
  rw [right_tells]
  simp only [Option.bind_some]
  cases h : rgt k i s
  · simp [tcell]
  · simp only [if_true]
    unfold rgt at h
    simp at h
    by_cases h1 : k > 1
    · simp [h1, tcell]
    · rw [if_neg h1, if_neg h1]
      by_cases h0 : k = 0
      · have : i = 0 := by omega
        subst h0; simp [this, tcell]
      · have hk : k = 1 := by omega
        subst hk
        by_cases hi : i = 0 <;> simp [hi, tcell]
theorem two_tells (n : Nat) (k i : Int) (s : ByteArray) (l j : Int) (t : ByteArray) : cell_two.f (n + 1) k i s l j t =
    some (if cls k i s = 0 ∨ cls l j t = 0 then (false, false, false, false, 3) else if cls k i s = 1 then (false, false, false, false, 20) else ((tcell (cls k i s)).1, (tcell (cls k i s)).2.1, (tcell (cls l j t)).1, (tcell (cls l j t)).2.1, (tcell (cls l j t)).2.2)) := by
  unfold cell_two.f
  rw [right_tells, right_tells, rgt_cls, rgt_cls]
  simp only [Option.bind_some, cell_two.j0]
  rw [truth_tells, truth_tells]
  simp only [Option.bind_some]
  rcases cls_le k i s with h | h | h | h | h <;> rcases cls_le l j t with h' | h' | h' | h' | h' <;> simp [h, h', tcell]
theorem and_tells (n : Nat) (k i : Int) (s : ByteArray) (l j : Int) (t : ByteArray) : cell_And.f (n + 2) k i s l j t = some (andC (cls k i s) (cls l j t)) := by
  unfold cell_And.f
  rw [two_tells]
  simp only [Option.bind_some, cell_And.j0, cell_Bool.f, cell_number.f]
  rcases cls_le k i s with h | h | h | h | h <;> rcases cls_le l j t with h' | h' | h' | h' | h' <;> simp [h, h', tcell, andC, val, err]
theorem or_tells (n : Nat) (k i : Int) (s : ByteArray) (l j : Int) (t : ByteArray) : cell_Or.f (n + 2) k i s l j t = some (orC (cls k i s) (cls l j t)) := by
  unfold cell_Or.f
  rw [two_tells]
  simp only [Option.bind_some, cell_Or.j0, cell_Bool.f, cell_number.f]
  rcases cls_le k i s with h | h | h | h | h <;> rcases cls_le l j t with h' | h' | h' | h' | h' <;> simp [h, h', tcell, orC, val, err]
theorem not_tells (k i : Int) (s : ByteArray) : cell_Not.f k i s = some (notC (cls k i s)) := by
  unfold cell_Not.f
  rw [truth_tells]
  simp only [Option.bind_some, cell_Bool.f, cell_number.f]
  rcases cls_le k i s with h | h | h | h | h <;> simp [h, tcell, notC, val, err]
/-- the class of what they tell -/
theorem cls_val (v : Int) : cls (val v).1 (val v).2.1 (val v).2.2.1 = if v = 0 then 3 else 4 := by
  have h : rgt 1 v ⟨#[]⟩ = true := by unfold rgt; exact decide_eq_true (Or.inr (Or.inl ⟨rfl, rfl⟩))
  unfold cls val
  simp only [h, if_true]
  rw [if_neg (by decide), if_neg (by decide)]
theorem cls_err (e : Int) : cls (err e).1 (err e).2.1 (err e).2.2.1 = 2 := by
  have h : rgt 0 0 ⟨#[]⟩ = true := by unfold rgt; exact decide_eq_true (Or.inl ⟨rfl, rfl, rfl⟩)
  unfold cls err
  simp only [h, if_true]
  rw [if_neg (by decide)]
end Go.Proofs.Ytefpnnljflcmbaa.CTruth
