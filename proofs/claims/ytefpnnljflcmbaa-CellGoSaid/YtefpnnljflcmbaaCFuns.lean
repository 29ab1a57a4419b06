/- What the printed functions of cell come to: plain, over CMath. -/
import Derived.Test.YtefpnnljflcmbaaCMath
import Derived.Test.YtefpnnljflcmbaaPCex2
import Derived.Test.YtefpnnljflcmbaaPCex10
import Derived.Test.YtefpnnljflcmbaaPCex11
import Derived.Test.YtefpnnljflcmbaaPCex32
import Derived.Test.YtefpnnljflcmbaaPCex13
import Derived.Test.YtefpnnljflcmbaaPCex37
import Derived.Test.YtefpnnljflcmbaaPCex39
import Derived.Test.YtefpnnljflcmbaaPCex35
namespace Go.Proofs.Ytefpnnljflcmbaa.CFuns
set_option linter.unusedVariables false
set_option linter.unusedSimpArgs false
open Go.RowKit Go.Proofs.Ytefpnnljflcmbaa.PCe Go.Proofs.Ytefpnnljflcmbaa.CMath Go.Proofs.YtefpnnljflcmbaaW.PrintWords Go.Proofs.YtefpnnljflcmbaaW.PrintLast Go.Proofs.YtefpnnljflcmbaaW.PrintMore

theorem right_tells (k i : Int) (s : ByteArray) : cell_Right.f k i s = some (rgt k i s) := by
  unfold cell_Right.f rgt
  have h := tl_nil s
  by_cases hs : s.size = 0
  · have h' := h.2 hs
    by_cases h0 : k = 0
    · subst h0; by_cases hi : i = 0 <;> simp [hs, h', hi]
    · by_cases h1 : k = 1
      · subst h1; simp [hs, h']
      · by_cases h2 : k = 2
        · subst h2; by_cases hi : i = 0 <;> simp [hs, h', hi]
        · by_cases h3 : k = 3
          · subst h3; by_cases hi : i = 0 <;> simp [hs, h', hi]
          · simp [h0, h1, h2, h3]
  · have h' : ¬ (s.toList = []) := fun e => hs (h.1 e)
    by_cases h0 : k = 0
    · subst h0; by_cases hi : i = 0 <;> simp [hs, h', hi]
    · by_cases h1 : k = 1
      · subst h1; simp [hs, h']
      · by_cases h2 : k = 2
        · subst h2; by_cases hi : i = 0 <;> simp [hs, h', hi]
        · by_cases h3 : k = 3
          · subst h3; by_cases hi : i = 0 <;> simp [hs, h', hi]
          · simp [h0, h1, h2, h3]
theorem numbers_tells (n : Nat) (k i : Int) (s : ByteArray) (l j : Int) (t : ByteArray) : cell_numbers.f (n + 1) k i s l j t = some (numz k i s l j t) := by
  unfold cell_numbers.f numz
  rw [right_tells, right_tells]
  simp only [Option.bind_some, cell_numbers.j0]
  cases rgt k i s <;> cases rgt l j t <;> simp
  by_cases h1 : 1 < k
  · simp [h1]
  · by_cases h2 : 1 < l
    · simp [h1, h2]
    · by_cases h3 : k = 0
      · simp [h1, h2, h3]
      · simp [h1, h2, h3]; rfl
/-- An operation behind 'numbers'. -/
theorem op2_of {q : Bool × Int} {r : Int × Int × ByteArray × Int} {f : Bool → Option (Int × Int × ByteArray × Int)} (hq : q.2 = 0 ∨ q.1 = false) (h1 : f true = some (err q.2)) (h0 : q.2 = 0 → q.1 = false → f false = some r) :
    (if q.2 = 0 then f q.1 else f true) = some (op2 q r) := by
  obtain ⟨b, e⟩ := q
  unfold op2
  by_cases h : e = 0
  · subst h
    cases b
    · simpa using h0 rfl rfl
    · simpa using h1
  · simp only [h, if_false]; exact h1
theorem add_tells (n : Nat) (k i : Int) (s : ByteArray) (l j : Int) (t : ByteArray) (hi : -9223372036854775808 ≤ i ∧ i < 9223372036854775808) (hj : -9223372036854775808 ≤ j ∧ j < 9223372036854775808) :
    cell_Add.f (n + 2) k i s l j t = some (op2 (numz k i s l j t) (fits (i + j))) := by
  unfold cell_Add.f
  rw [numbers_tells]
  simp only [Option.bind_some]
  refine op2_of (f := fun b => cell_Add.j0 (n + 2) (numz k i s l j t).2 b k i s l j t) (numz_err ..) ?_ ?_
  · simp [cell_Add.j0, err]
  · intro h0 h1
    simp only [cell_Add.j0, cell_number.f, Option.bind_some]
    rw [if_neg (by decide)]
    unfold fits
    by_cases h : -9223372036854775808 ≤ i + j ∧ i + j < 9223372036854775808
    · rw [if_pos h, wrapi _ h.1 h.2, if_neg]
      · rfl
      · simp; omega
    · rw [if_neg h, if_pos]
      · rfl
      · have : wrap64 (i + j) = i + j + 18446744073709551616 ∨ wrap64 (i + j) = i + j - 18446744073709551616 := by unfold wrap64; omega
        have hw : -9223372036854775808 ≤ wrap64 (i + j) ∧ wrap64 (i + j) < 9223372036854775808 := by unfold wrap64; omega
        simp; omega
theorem sub_tells (n : Nat) (k i : Int) (s : ByteArray) (l j : Int) (t : ByteArray) (hi : -9223372036854775808 ≤ i ∧ i < 9223372036854775808) (hj : -9223372036854775808 ≤ j ∧ j < 9223372036854775808) :
    cell_Sub.f (n + 2) k i s l j t = some (op2 (numz k i s l j t) (fits (i - j))) := by
  unfold cell_Sub.f
  rw [numbers_tells]
  simp only [Option.bind_some]
  refine op2_of (f := fun b => cell_Sub.j0 (n + 2) (numz k i s l j t).2 b k i s l j t) (numz_err ..) ?_ ?_
  · simp [cell_Sub.j0, err]
  · intro h0 h1
    simp only [cell_Sub.j0, cell_number.f, Option.bind_some]
    rw [if_neg (by decide)]
    unfold fits
    by_cases h : -9223372036854775808 ≤ i - j ∧ i - j < 9223372036854775808
    · rw [if_pos h, wrapi _ h.1 h.2, if_neg]
      · rfl
      · simp; omega
    · rw [if_neg h, if_pos]
      · rfl
      · have : wrap64 (i - j) = i - j + 18446744073709551616 ∨ wrap64 (i - j) = i - j - 18446744073709551616 := by unfold wrap64; omega
        have hw : -9223372036854775808 ≤ wrap64 (i - j) ∧ wrap64 (i - j) < 9223372036854775808 := by unfold wrap64; omega
        simp; omega
theorem size_tells (i : Int) (hi : -9223372036854775808 ≤ i ∧ i < 9223372036854775808) : cell_size.f i = some (i.natAbs : Int) := by
  unfold cell_size.f
  by_cases h : i < 0
  · rw [if_pos h, show IntKind.u64.wrap (-(IntKind.u64.wrap i)) = -i by rw [wrapu_eq, wrapu_eq]; omega]
    congr 1; omega
  · rw [if_neg h, wrapu i (by omega) (by omega)]
    congr 1; omega
theorem mul64 (x y : Int) (hx : 0 ≤ x) (hx' : x < 18446744073709551616) (hy : 0 ≤ y) (hy' : y < 18446744073709551616) : bits_Mul64.f x y = some (x * y / 18446744073709551616, x * y % 18446744073709551616) := by
  unfold bits_Mul64.f
  rw [if_pos hx, if_pos hx', if_pos hy, if_pos hy']
theorem mul_tells (n : Nat) (k i : Int) (s : ByteArray) (l j : Int) (t : ByteArray) (hi : -9223372036854775808 ≤ i ∧ i < 9223372036854775808) (hj : -9223372036854775808 ≤ j ∧ j < 9223372036854775808) :
    cell_Mul.f (n + 3) k i s l j t = some (op2 (numz k i s l j t) (fits (i * j))) := by
  unfold cell_Mul.f
  rw [numbers_tells]
  simp only [Option.bind_some]
  refine op2_of (f := fun b => cell_Mul.j0 (n + 3) (numz k i s l j t).2 b k i s l j t) (numz_err ..) ?_ ?_
  · simp [cell_Mul.j0, err]
  · intro h0 h1
    simp only [cell_Mul.j0]
    rw [if_neg (by decide), size_tells i hi, size_tells j hj]
    rw [Option.bind_some, Option.bind_some, mul64 _ _ (by omega) (by omega) (by omega) (by omega), Option.bind_some]
    have hp : (i.natAbs : Int) * j.natAbs = ((i * j).natAbs : Int) := by rw [Int.natAbs_mul]; simp
    rw [hp]
    have hs : (i < 0 ∧ j < 0 → 0 < i * j) ∧ (i < 0 ∧ 0 ≤ j → i * j ≤ 0) ∧ (0 ≤ i ∧ j < 0 → i * j ≤ 0) ∧ (0 ≤ i ∧ 0 ≤ j → 0 ≤ i * j) := by
      refine ⟨fun h => Int.mul_pos_of_neg_of_neg h.1 h.2, fun h => Int.mul_nonpos_of_nonpos_of_nonneg (by omega) h.2, fun h => Int.mul_nonpos_of_nonneg_of_nonpos h.1 (by omega), fun h => Int.mul_nonneg h.1 h.2⟩
    generalize i * j = p at *
    -- by the sign
    by_cases hb : ((decide (i < 0)) != (decide (j < 0))) = true
    · rw [if_pos hb]
      have hp0 : p ≤ 0 := by simp at hb; omega
      simp only [cell_Mul.j1]
      by_cases h2 : (p.natAbs : Int) / 18446744073709551616 = 0
      · rw [if_pos h2]
        by_cases h3 : (p.natAbs : Int) % 18446744073709551616 > 9223372036854775807 + 1
        · rw [decide_eq_true h3]; simp only [cell_Mul.j2, if_true]
          unfold fits; rw [if_neg (by omega)]; rfl
        · rw [decide_eq_false h3]; simp only [cell_Mul.j2]
          rw [if_neg (by decide), if_pos hb]
          simp only [cell_number.f, Option.bind_some]
          unfold fits; rw [if_pos (by omega)]
          rw [show wrap64 (IntKind.u64.wrap (-((p.natAbs : Int) % 18446744073709551616))) = p by rw [wrapu_eq]; unfold wrap64; omega]
          rfl
      · rw [if_neg h2]; simp only [cell_Mul.j2, if_true]
        unfold fits; rw [if_neg (by omega)]; rfl
    · rw [if_neg hb]
      have hp0 : 0 ≤ p := by simp at hb; omega
      simp only [cell_Mul.j1]
      by_cases h2 : (p.natAbs : Int) / 18446744073709551616 = 0
      · rw [if_pos h2]
        by_cases h3 : (p.natAbs : Int) % 18446744073709551616 > 9223372036854775807
        · rw [decide_eq_true h3]; simp only [cell_Mul.j2, if_true]
          unfold fits; rw [if_neg (by omega)]; rfl
        · rw [decide_eq_false h3]; simp only [cell_Mul.j2]
          rw [if_neg (by decide), if_neg hb]
          simp only [cell_number.f, Option.bind_some]
          unfold fits; rw [if_pos (by omega)]
          rw [show wrap64 ((p.natAbs : Int) % 18446744073709551616) = p by unfold wrap64; omega]
          rfl
      · rw [if_neg h2]; simp only [cell_Mul.j2, if_true]
        unfold fits; rw [if_neg (by omega)]; rfl
/-- what Neg tells, and the operands of a quotient -/
theorem neg_tells (n : Nat) (k i : Int) (s : ByteArray) (hi : -9223372036854775808 ≤ i ∧ i < 9223372036854775808) : cell_Neg.f (n + 2) k i s = some (op2 (numz 1 0 ⟨#[]⟩ k i s) (fits (0 - i))) := by
  unfold cell_Neg.f
  simp only [cell_number.f, Option.bind_some]
  rw [sub_tells n 1 0 _ k i s (by decide) hi]
  rfl
def divs (k i : Int) (s : ByteArray) (l j : Int) (t : ByteArray) : Bool × Int :=
  if (numz k i s l j t).2 = 0 then (if (numz k i s l j t).1 = true then (true, 0) else (if j = 0 then (false, 22) else (false, 0))) else (false, (numz k i s l j t).2)
theorem divides_tells (n : Nat) (k i : Int) (s : ByteArray) (l j : Int) (t : ByteArray) : cell_divides.f (n + 1) k i s l j t = some (divs k i s l j t) := by
  unfold cell_divides.f divs
  rw [numbers_tells]
  simp only [Option.bind_some]
  have h := numz_err k i s l j t
  generalize numz k i s l j t = q at *
  obtain ⟨b, e⟩ := q
  by_cases he : e = 0
  · subst he; cases b <;> simp <;> split <;> rfl
  · have hb : b = false := by simpa [he] using h
    subst hb
    simp [he]
theorem divs_err (k i : Int) (s : ByteArray) (l j : Int) (t : ByteArray) : (divs k i s l j t).2 = 0 ∨ (divs k i s l j t).1 = false := by
  unfold divs; (repeat' split) <;> simp
theorem divs_nz {k i : Int} {s : ByteArray} {l j : Int} {t : ByteArray} (h : (divs k i s l j t).2 = 0) (h' : (divs k i s l j t).1 = false) : (numz k i s l j t).2 = 0 ∧ (numz k i s l j t).1 = false ∧ j ≠ 0 := by
  unfold divs at h h'
  by_cases h1 : (numz k i s l j t).2 = 0
  · rw [if_pos h1] at h h'
    by_cases h2 : (numz k i s l j t).1 = true
    · rw [if_pos h2] at h'; cases h'
    · rw [if_neg h2] at h
      by_cases h3 : j = 0
      · rw [if_pos h3] at h; cases h
      · exact ⟨h1, by simpa using h2, h3⟩
  · rw [if_neg h1] at h; exact absurd h h1
/-- both are numbers -/
theorem numz_yes {k i : Int} {s : ByteArray} {l j : Int} {t : ByteArray} (h : (numz k i s l j t).2 = 0) (h' : (numz k i s l j t).1 = false) : k = 1 ∧ l = 1 ∧ s.size = 0 ∧ t.size = 0 := by
  unfold numz at h h'
  by_cases h1 : rgt k i s = true
  · by_cases h2 : rgt l j t = true
    · rw [if_pos h1, if_pos h2] at h h'
      by_cases h3 : k > 1 ∨ l > 1
      · rw [if_pos h3] at h; cases h
      · rw [if_neg h3] at h'
        unfold rgt at h1 h2
        simp only [decide_eq_true_eq] at h1 h2
        simp only [decide_eq_false_iff_not] at h'
        omega
    · rw [if_pos h1, if_neg h2] at h; cases h
  · rw [if_neg h1] at h; cases h
theorem numz_one (i j : Int) (s t : ByteArray) (hs : s.size = 0) (ht : t.size = 0) : numz 1 i s 1 j t = (false, 0) := by
  unfold numz rgt; simp [hs, ht]
def quo (i j : Int) : Int × Int × ByteArray × Int := if j = -1 then fits (0 - i) else val (Int.tdiv i j)
def rest (i j : Int) : Int × Int × ByteArray × Int := if j = -1 then val 0 else val (Int.tmod i j)
theorem div_tells (n : Nat) (k i : Int) (s : ByteArray) (l j : Int) (t : ByteArray) (hi : -9223372036854775808 ≤ i ∧ i < 9223372036854775808) (hj : -9223372036854775808 ≤ j ∧ j < 9223372036854775808) :
    cell_Div.f (n + 3) k i s l j t = some (op2 (divs k i s l j t) (quo i j)) := by
  unfold cell_Div.f
  rw [divides_tells]
  simp only [Option.bind_some]
  refine op2_of (f := fun b => cell_Div.j0 (n + 3) (divs k i s l j t).2 b k i s l j t) (divs_err ..) ?_ ?_
  · simp [cell_Div.j0, err]
  · intro h0 h1
    obtain ⟨h2, h3, hj0⟩ := divs_nz h0 h1
    obtain ⟨rfl, rfl, hs, ht⟩ := numz_yes h2 h3
    simp only [cell_Div.j0]
    rw [if_neg (by decide)]
    unfold quo
    by_cases h : j = -1
    · rw [if_pos h, if_pos h, neg_tells n 1 i s hi, numz_one 0 i _ s rfl hs]
      simp only [Option.bind_some]
      rfl
    · rw [if_neg h, if_neg h, if_neg hj0]
      have := tdiv_range i j hi hj0 h
      rw [wrapi _ this.1 this.2]
      rfl
theorem mod_tells (n : Nat) (k i : Int) (s : ByteArray) (l j : Int) (t : ByteArray) :
    cell_Mod.f (n + 3) k i s l j t = some (op2 (divs k i s l j t) (rest i j)) := by
  unfold cell_Mod.f
  rw [divides_tells]
  simp only [Option.bind_some]
  refine op2_of (f := fun b => cell_Mod.j0 (n + 3) (divs k i s l j t).2 b k i s l j t) (divs_err ..) ?_ ?_
  · simp [cell_Mod.j0, err]
  · intro h0 h1
    obtain ⟨h2, h3, hj0⟩ := divs_nz h0 h1
    simp only [cell_Mod.j0]
    rw [if_neg (by decide)]
    unfold rest
    by_cases h : j = -1
    · rw [if_pos h, if_pos h]; rfl
    · rw [if_neg h, if_neg h, if_neg hj0]; rfl
end Go.Proofs.Ytefpnnljflcmbaa.CFuns
