/- What the printed functions on single values come to: which may be, and their order, the code's and the reference's. -/
import Derived.Test.YtefpnnljflcmbaaCMath
import Derived.Test.YtefpnnljflcmbaaPRex3
import Derived.Test.YtefpnnljflcmbaaPRex29
import Derived.Test.YtefpnnljflcmbaaPRex14
import Derived.Test.YtefpnnljflcmbaaPRex32
namespace Go.Proofs.Ytefpnnljflcmbaa.CRight
set_option linter.unusedVariables false
set_option linter.unusedSimpArgs false
open Go.RowKit Go.Proofs.Ytefpnnljflcmbaa.PRe Go.Proofs.Ytefpnnljflcmbaa.CMath Go.Proofs.YtefpnnljflcmbaaW.PrintWords Go.Proofs.YtefpnnljflcmbaaW.PrintLast Go.Proofs.YtefpnnljflcmbaaW.PrintMore
theorem right_tells (k i : Int) (s : ByteArray) : cell_Right.f k i s = some (rgt k i s) := by
  unfold cell_Right.f rgt
  have h := tl_nil s
  by_cases hs : s.size = 0
  · have h' := h.2 hs
    by_cases h0 : k = 0
    · subst h0; by_cases hi : i = 0 <;> simp [hs, h', hi]
    · by_cases h1 : k = 1
      · subst h1; simp [hs, h']
      · by_cases h2 : k = 2
        · subst h2; by_cases hi : i = 0 <;> simp [hs, h', hi]
        · by_cases h3 : k = 3
          · subst h3; by_cases hi : i = 0 <;> simp [hs, h', hi]
          · simp [h0, h1, h2, h3]
  · have h' : ¬ (s.toList = []) := fun e => hs (h.1 e)
    by_cases h0 : k = 0
    · subst h0; by_cases hi : i = 0 <;> simp [hs, h', hi]
    · by_cases h1 : k = 1
      · subst h1; simp [hs, h']
      · by_cases h2 : k = 2
        · subst h2; by_cases hi : i = 0 <;> simp [hs, h', hi]
        · by_cases h3 : k = 3
          · subst h3; by_cases hi : i = 0 <;> simp [hs, h', hi]
          · simp [h0, h1, h2, h3]
theorem rright_tells (k i : Int) (s : ByteArray) : hindsightref02_Right.f k i s = some (rgt k i s) := by
  unfold hindsightref02_Right.f rgt
  by_cases hs : s.size = 0
  · by_cases h0 : k = 0
    · subst h0; by_cases hi : i = 0 <;> simp [hs, hi]
    · by_cases h1 : k = 1
      · subst h1; simp [hs]
      · by_cases h2 : k = 2
        · subst h2; by_cases hi : i = 0 <;> simp [hs, hi]
        · by_cases h3 : k = 3
          · subst h3; by_cases hi : i = 0 <;> simp [hs, hi]
          · simp [h0, h1, h2, h3]
  · have hs' : ¬ ((s.size : Int) = 0) := by omega
    by_cases h0 : k = 0
    · subst h0; by_cases hi : i = 0 <;> simp [hs, hi, hs']
    · by_cases h1 : k = 1
      · subst h1; simp [hs, hs']
      · by_cases h2 : k = 2
        · subst h2; by_cases hi : i = 0 <;> simp [hs, hi, hs']
        · by_cases h3 : k = 3
          · subst h3; by_cases hi : i = 0 <;> simp [hs, hi, hs']
          · simp [h0, h1, h2, h3]
theorem cmp64 (a b : Int) : cmp_Compare_int64.f a b = some (if a < b then -1 else if a > b then 1 else 0) := by
  simp only [cmp_Compare_int64.f, cmp_isNaN_int64.f, Option.bind_some, bne_self_eq_false, Bool.false_eq_true, if_false]
  (repeat' split) <;> rfl
theorem cmp8 (a b : Int) : cmp_Compare_uint8.f a b = some (if a < b then -1 else if a > b then 1 else 0) := by
  simp only [cmp_Compare_uint8.f, cmp_isNaN_uint8.f, Option.bind_some, bne_self_eq_false, Bool.false_eq_true, if_false]
  (repeat' split) <;> rfl
theorem order_tells (n : Nat) (k i : Int) (s : ByteArray) (l j : Int) (t : ByteArray) : cell_Order.f (n + 1) k i s l j t = some (ord k i s l j t) := by
  unfold cell_Order.f ord
  rw [right_tells, right_tells]
  simp only [Option.bind_some, cell_Order.j0]
  rw [cmp64, cmp8]
  cases rgt k i s <;> cases rgt l j t <;> simp
  by_cases h : k = l
  · subst h
    by_cases h1 : k = 1
    · simp [h1]
    · simp [h1, strings_Compare.f, cmpB]
  · simp [h]
    rcases Int.lt_or_lt_of_ne h with h1 | h1
    · simp [h1]
    · simp [h1, show ¬ k < l by omega]
theorem rgt_num {k i : Int} {s : ByteArray} (h : rgt k i s = true) : (k = 1 → s.size = 0) ∧ (k ≠ 1 → i = 0) := by
  unfold rgt at h; simp only [decide_eq_true_eq] at h; omega
theorem rorder_tells (n : Nat) (k i : Int) (s : ByteArray) (l j : Int) (t : ByteArray) : hindsightref02_Order.f (n + 1) k i s l j t = some (ord k i s l j t) := by
  unfold hindsightref02_Order.f ord
  rw [rright_tells, rright_tells]
  simp only [Option.bind_some]
  cases h1 : rgt k i s
  · simp [hindsightref02_Order.j0]
  cases h2 : rgt l j t
  · simp [hindsightref02_Order.j0]
  simp only [if_true]
  have g1 := rgt_num h1
  have g2 := rgt_num h2
  by_cases he : k = l ∧ i = j ∧ s = t
  · obtain ⟨rfl, rfl, rfl⟩ := he
    simp [hindsightref02_Order.j0]
    intro _
    unfold cmpB
    exact ((cb_zero _ _).2 rfl).symm
  · have hb : (k == l && (i == j && (s.toList == t.toList))) = false := by
      rw [Bool.eq_false_iff]
      intro h
      simp only [Bool.and_eq_true, beq_iff_eq] at h
      exact he ⟨h.1, h.2.1, tl_inj h.2.2⟩
    rw [hb]
    simp only [hindsightref02_Order.j0, Bool.false_eq_true, if_false]
    by_cases hkl : k = l
    · rw [if_pos hkl, if_pos hkl]
      subst hkl
      by_cases h1' : k = 1
      · rw [if_pos h1', if_pos h1']
        have hst : s = t := by rw [size0 s (g1.1 h1'), size0 t (g2.1 h1')]
        have hij : i ≠ j := fun h => he ⟨rfl, h, hst⟩
        by_cases hlt : i < j
        · rw [if_pos hlt, if_pos hlt]
        · rw [if_neg hlt, if_neg hlt, if_pos (by omega)]
      · rw [if_neg h1', if_neg h1']
        have hij : i = j := by rw [g1.2 h1', g2.2 h1']
        have hst : s ≠ t := fun h => he ⟨rfl, hij, h⟩
        have hne : cmpB s t ≠ 0 := by
          intro h
          have := (cb_zero _ _).1 h
          exact hst (tl_inj (by rw [tl, tl, this]))
        have hs := cb_sgn s.data.toList t.data.toList
        have hl := cb_less s.data.toList t.data.toList
        rw [tl, tl]
        unfold cmpB at hne ⊢
        by_cases hb : Op.bytesLess s.data.toList t.data.toList = true
        · rw [if_pos hb, hl.1 hb]
        · rw [if_neg hb]
          rcases hs with h | h | h
          · exact absurd (hl.2 h) hb
          · exact absurd h hne
          · rw [h]
    · rw [if_neg hkl, if_neg hkl]
      by_cases hlt : k < l
      · rw [if_pos hlt, if_pos hlt]
      · rw [if_neg hlt, if_neg hlt]
end Go.Proofs.Ytefpnnljflcmbaa.CRight
