/- What the printed functions of cell's reference on sums come to. -/
import Derived.Test.YtefpnnljflcmbaaCFuns
import Derived.Test.YtefpnnljflcmbaaPCex15
import Derived.Test.YtefpnnljflcmbaaPCex30
import Derived.Test.YtefpnnljflcmbaaPCex31
import Derived.Test.YtefpnnljflcmbaaPCex33
import Derived.Test.YtefpnnljflcmbaaPCex34
import Derived.Test.YtefpnnljflcmbaaPCex38
namespace Go.Proofs.Ytefpnnljflcmbaa.CRefs
set_option linter.unusedVariables false
set_option linter.unusedSimpArgs false
open Go.RowKit Go.Proofs.Ytefpnnljflcmbaa.PCe Go.Proofs.Ytefpnnljflcmbaa.CMath Go.Proofs.Ytefpnnljflcmbaa.CFuns Go.Proofs.YtefpnnljflcmbaaW.PrintWords Go.Proofs.YtefpnnljflcmbaaW.PrintLast Go.Proofs.YtefpnnljflcmbaaW.PrintMore
theorem rright_tells (k i : Int) (s : ByteArray) : hindsightref02_Right.f k i s = some (rgt k i s) := by
  unfold hindsightref02_Right.f rgt
  by_cases hs : s.size = 0
  · by_cases h0 : k = 0
    · subst h0; by_cases hi : i = 0 <;> simp [hs, hi]
    · by_cases h1 : k = 1
      · subst h1; simp [hs]
      · by_cases h2 : k = 2
        · subst h2; by_cases hi : i = 0 <;> simp [hs, hi]
        · by_cases h3 : k = 3
          · subst h3; by_cases hi : i = 0 <;> simp [hs, hi]
          · simp [h0, h1, h2, h3]
  · have hs' : ¬ ((s.size : Int) = 0) := by omega
    by_cases h0 : k = 0
    · subst h0; by_cases hi : i = 0 <;> simp [hs, hi, hs']
    · by_cases h1 : k = 1
      · subst h1; simp [hs, hs']
      · by_cases h2 : k = 2
        · subst h2; by_cases hi : i = 0 <;> simp [hs, hi, hs']
        · by_cases h3 : k = 3
          · subst h3; by_cases hi : i = 0 <;> simp [hs, hi, hs']
          · simp [h0, h1, h2, h3]
theorem asked_tells (n : Nat) (k i : Int) (s : ByteArray) (l j : Int) (t : ByteArray) : hindsightref02_asked.f (n + 1) k i s l j t = some (numz k i s l j t) := by
  unfold hindsightref02_asked.f numz
  rw [rright_tells, rright_tells]
  simp only [Option.bind_some, hindsightref02_asked.j0]
  cases rgt k i s <;> cases rgt l j t <;> simp
  by_cases h1 : 1 < k
  · simp [h1]
  · by_cases h2 : 1 < l
    · simp [h1, h2]
    · by_cases h3 : k = 0
      · simp [h1, h2, h3]
      · simp [h1, h2, h3]; rfl
theorem radd_tells (n : Nat) (k i : Int) (s : ByteArray) (l j : Int) (t : ByteArray) (hi : -9223372036854775808 ≤ i ∧ i < 9223372036854775808) (hj : -9223372036854775808 ≤ j ∧ j < 9223372036854775808) :
    hindsightref02_Add.f (n + 2) k i s l j t = some (op2 (numz k i s l j t) (fits (i + j))) := by
  unfold hindsightref02_Add.f
  rw [asked_tells]
  simp only [Option.bind_some]
  refine op2_of (f := fun b => hindsightref02_Add.j0 (n + 2) (numz k i s l j t).2 b k i s l j t) (numz_err ..) ?_ ?_
  · simp [hindsightref02_Add.j0, err]
  · intro h0 h1
    simp only [hindsightref02_Add.j0, hindsightref02_Number.f, Option.bind_some, h0]
    rw [if_neg (by decide)]
    unfold fits
    by_cases hp : j > 0
    · rw [if_pos hp, wrapi (9223372036854775807 - j) (by omega) (by omega)]
      by_cases h : -9223372036854775808 ≤ i + j ∧ i + j < 9223372036854775808
      · rw [if_pos h, if_neg (by omega), if_neg (by omega), wrapi _ h.1 h.2]; rfl
      · rw [if_neg h, if_pos (by omega)]; rfl
    · rw [if_neg hp]
      by_cases hn : j < 0
      · rw [if_pos hn, wrapi (-9223372036854775808 - j) (by omega) (by omega)]
        by_cases h : -9223372036854775808 ≤ i + j ∧ i + j < 9223372036854775808
        · rw [if_pos h, if_neg (by omega), wrapi _ h.1 h.2]; rfl
        · rw [if_neg h, if_pos (by omega)]; rfl
      · rw [if_neg hn, if_pos (by omega), wrapi _ (by omega) (by omega)]; rfl
theorem rsub_tells (n : Nat) (k i : Int) (s : ByteArray) (l j : Int) (t : ByteArray) (hi : -9223372036854775808 ≤ i ∧ i < 9223372036854775808) (hj : -9223372036854775808 ≤ j ∧ j < 9223372036854775808) :
    hindsightref02_Sub.f (n + 2) k i s l j t = some (op2 (numz k i s l j t) (fits (i - j))) := by
  unfold hindsightref02_Sub.f
  rw [asked_tells]
  simp only [Option.bind_some]
  refine op2_of (f := fun b => hindsightref02_Sub.j0 (n + 2) (numz k i s l j t).2 b k i s l j t) (numz_err ..) ?_ ?_
  · simp [hindsightref02_Sub.j0, err]
  · intro h0 h1
    simp only [hindsightref02_Sub.j0, hindsightref02_Number.f, Option.bind_some, h0]
    rw [if_neg (by decide)]
    unfold fits
    by_cases hp : j < 0
    · rw [if_pos hp, wrapi (9223372036854775807 + j) (by omega) (by omega)]
      by_cases h : -9223372036854775808 ≤ i - j ∧ i - j < 9223372036854775808
      · rw [if_pos h, if_neg (by omega), if_neg (by omega), wrapi _ h.1 h.2]; rfl
      · rw [if_neg h, if_pos (by omega)]; rfl
    · rw [if_neg hp]
      by_cases hn : j > 0
      · rw [if_pos hn, wrapi (-9223372036854775808 + j) (by omega) (by omega)]
        by_cases h : -9223372036854775808 ≤ i - j ∧ i - j < 9223372036854775808
        · rw [if_pos h, if_neg (by omega), wrapi _ h.1 h.2]; rfl
        · rw [if_neg h, if_pos (by omega)]; rfl
      · rw [if_neg hn, if_pos (by omega), wrapi _ (by omega) (by omega)]; rfl
theorem rmul_tells (n : Nat) (k i : Int) (s : ByteArray) (l j : Int) (t : ByteArray) (hi : -9223372036854775808 ≤ i ∧ i < 9223372036854775808) (hj : -9223372036854775808 ≤ j ∧ j < 9223372036854775808) :
    hindsightref02_Mul.f (n + 3) k i s l j t = some (op2 (numz k i s l j t) (fits (i * j))) := by
  unfold hindsightref02_Mul.f
  rw [asked_tells]
  simp only [Option.bind_some]
  refine op2_of (f := fun b => hindsightref02_Mul.j0 (n + 3) (numz k i s l j t).2 b k i s l j t) (numz_err ..) ?_ ?_
  · simp [hindsightref02_Mul.j0, err]
  · intro h0 h1
    simp only [hindsightref02_Mul.j0, h0]
    rw [if_neg (by decide)]
    have zero : hindsightref02_Mul.j1 (n + 2) 0 i j true = some (val 0) := by
      simp only [hindsightref02_Mul.j1, hindsightref02_Number.f, Option.bind_some, if_true]; rfl
    by_cases hi0 : i = 0
    · rw [if_pos hi0, zero, hi0]; simp [fits]
    · rw [if_neg hi0]
      by_cases hj0 : j = 0
      · rw [show (j == 0) = true by rw [hj0]; rfl, zero, hj0]; simp [fits]
      · rw [show (j == 0) = false from beq_eq_false_iff_ne.2 hj0]
        have full : ∀ b : Bool, (b = true ↔ ((i = -1 ∧ j = -9223372036854775808) ∨ (j = -1 ∧ i = -9223372036854775808))) → hindsightref02_Mul.j2 (n + 1) 0 i j b = some (fits (i * j)) := by
          intro b hb
          simp only [hindsightref02_Mul.j2]
          by_cases hbt : b = true
          · rw [if_pos hbt]
            have : i * j = 9223372036854775808 := by
              rcases hb.1 hbt with ⟨rfl, rfl⟩ | ⟨rfl, rfl⟩ <;> decide
            rw [this]; rfl
          · rw [if_neg hbt, if_neg hj0]
            have hno : ¬ ((i = -1 ∧ j = -9223372036854775808) ∨ (j = -1 ∧ i = -9223372036854775808)) := fun h => hbt (hb.2 h)
            by_cases h : -9223372036854775808 ≤ i * j ∧ i * j < 9223372036854775808
            · rw [wrapi _ h.1 h.2, tdiv_back i j hj0, wrapi i hi.1 hi.2, if_pos rfl]
              have hs : (i < 0 ∧ j < 0 → 0 < i * j) ∧ (i < 0 ∧ 0 < j → i * j < 0) ∧ (0 < i ∧ j < 0 → i * j < 0) ∧ (0 < i ∧ 0 < j → 0 < i * j) :=
                ⟨fun h => Int.mul_pos_of_neg_of_neg h.1 h.2, fun h => Int.mul_neg_of_neg_of_pos h.1 h.2, fun h => Int.mul_neg_of_pos_of_neg h.1 h.2, fun h => Int.mul_pos h.1 h.2⟩
              rw [if_neg]
              · unfold fits; rw [if_pos h]; rfl
              · generalize i * j = p at *
                rcases Int.lt_or_lt_of_ne hi0 with h1 | h1 <;> rcases Int.lt_or_lt_of_ne hj0 with h2 | h2
                · have := hs.1 ⟨h1, h2⟩; simp [decide_eq_true h1, decide_eq_true h2]; omega
                · have := hs.2.1 ⟨h1, h2⟩; simp [decide_eq_true h1, decide_eq_false (show ¬ j < 0 by omega)]; omega
                · have := hs.2.2.1 ⟨h1, h2⟩; simp [decide_eq_true h2, decide_eq_false (show ¬ i < 0 by omega)]; omega
                · have := hs.2.2.2 ⟨h1, h2⟩; simp [decide_eq_false (show ¬ i < 0 by omega), decide_eq_false (show ¬ j < 0 by omega)]; omega
            · rw [if_neg (mul_seen i j hi hj hj0 (fun h => hno (Or.inr h)) (fun h => hno (Or.inl h)) h)]
              unfold fits; rw [if_neg h]; rfl
        simp only [hindsightref02_Mul.j1]
        rw [if_neg (by decide)]
        by_cases hi1 : i = -1
        · rw [if_pos hi1]
          by_cases hjm : j = -9223372036854775808
          · rw [if_pos hjm]; exact full true (by simp [hi1, hjm])
          · rw [if_neg hjm]
            by_cases hj1 : j = -1
            · rw [if_pos hj1]; exact full _ (by simp [hi1, hj1])
            · rw [if_neg hj1]; exact full _ (by simp [hi1, hj1, hjm])
        · rw [if_neg hi1]
          by_cases hj1 : j = -1
          · rw [if_pos hj1]; exact full _ (by simp [hi1, hj1])
          · rw [if_neg hj1]; exact full _ (by simp [hi1, hj1])
theorem rdiv_tells (n : Nat) (k i : Int) (s : ByteArray) (l j : Int) (t : ByteArray) (b : Bool) (hi : -9223372036854775808 ≤ i ∧ i < 9223372036854775808) (hj : -9223372036854775808 ≤ j ∧ j < 9223372036854775808) :
    hindsightref02_Div.f (n + 3) k i s l j t b = some (op2 (divs k i s l j t) (if b = true then rest i j else quo i j)) := by
  unfold hindsightref02_Div.f
  rw [asked_tells]
  simp only [Option.bind_some]
  have hq := numz_err k i s l j t
  unfold divs
  by_cases h0 : (numz k i s l j t).2 = 0
  · rw [if_pos h0, if_pos h0]
    simp only [hindsightref02_Div.j0]
    by_cases h1 : (numz k i s l j t).1 = true
    · rw [if_pos h1, if_pos h1, h0]; rfl
    · rw [if_neg h1, if_neg h1]
      by_cases hj0 : j = 0
      · rw [if_pos hj0, if_pos hj0]; rfl
      · rw [if_neg hj0, if_neg hj0]
        obtain ⟨rfl, rfl, hs, ht⟩ := numz_yes h0 (by simpa using h1)
        have hop : ∀ r, op2 (false, 0) r = r := fun r => rfl
        rw [hop, h0]
        simp only [hindsightref02_Number.f, Option.bind_some]
        by_cases hj1 : j = -1
        · rw [if_pos hj1]
          cases b
          · rw [if_neg (by decide), if_neg (by decide), rsub_tells n 1 0 _ 1 i s (by decide) hi, numz_one 0 i _ s rfl hs]
            simp only [Option.bind_some]
            unfold quo; rw [if_pos hj1]; rfl
          · rw [if_pos rfl, if_pos rfl]
            unfold rest; rw [if_pos hj1]; rfl
        · rw [if_neg hj1]
          have hd := tdiv_range i j hi hj0 hj1
          cases b
          · rw [if_neg (by decide), if_neg (by decide), wrapi _ hd.1 hd.2]
            unfold quo; rw [if_neg hj1]; rfl
          · rw [if_pos rfl, if_pos rfl]
            have hm := tmod_range i j hi
            have hid := Int.tmod_add_mul_tdiv i j
            rw [show wrap64 (i - wrap64 (wrap64 (Int.tdiv i j) * j)) = Int.tmod i j by
              rw [wrapi _ hd.1 hd.2, Int.mul_comm]
              generalize j * Int.tdiv i j = p at *
              unfold wrap64; omega]
            unfold rest; rw [if_neg hj1]; rfl
  · rw [if_neg h0, if_neg h0]
    simp only [hindsightref02_Div.j0, if_true]
    unfold op2; rw [if_neg h0]; rfl
end Go.Proofs.Ytefpnnljflcmbaa.CRefs
