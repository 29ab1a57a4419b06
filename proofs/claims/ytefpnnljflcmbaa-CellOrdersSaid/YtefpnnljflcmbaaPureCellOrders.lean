/- The law CellOrders over the printed functions: which values may be, how they compare, and their order, are the reference's. -/
import Derived.Test.YtefpnnljflcmbaaCRefs
import Derived.Test.YtefpnnljflcmbaaCAlive
import Derived.Test.YtefpnnljflcmbaaPCex16
import Derived.Test.YtefpnnljflcmbaaPCex17
import Derived.Test.YtefpnnljflcmbaaPCex18
namespace Go.Proofs.Ytefpnnljflcmbaa.Pure
set_option linter.unusedVariables false
set_option linter.unusedSimpArgs false
open Go.RowKit Go.Proofs.Ytefpnnljflcmbaa.PCe Go.Proofs.Ytefpnnljflcmbaa.CMath Go.Proofs.Ytefpnnljflcmbaa.CFuns Go.Proofs.Ytefpnnljflcmbaa.CRefs Go.Proofs.Ytefpnnljflcmbaa.COrd Go.Proofs.Ytefpnnljflcmbaa.CAlive Go.Proofs.YtefpnnljflcmbaaW.PrintWords Go.Proofs.YtefpnnljflcmbaaW.PrintLast Go.Proofs.YtefpnnljflcmbaaW.PrintMore
theorem rgt_num {k i : Int} {s : ByteArray} (h : rgt k i s = true) : (k = 1 → s.size = 0) ∧ (k ≠ 1 → i = 0) := by
  unfold rgt at h; simp only [decide_eq_true_eq] at h; omega
theorem rorder_tells (n : Nat) (k i : Int) (s : ByteArray) (l j : Int) (t : ByteArray) : hindsightref02_Order.f (n + 1) k i s l j t = some (ord k i s l j t) := by
  unfold hindsightref02_Order.f ord
  rw [rright_tells, rright_tells]
  simp only [Option.bind_some]
  cases h1 : rgt k i s
  · simp [hindsightref02_Order.j0]
  cases h2 : rgt l j t
  · simp [hindsightref02_Order.j0]
  simp only [if_true]
  have g1 := rgt_num h1
  have g2 := rgt_num h2
  by_cases he : k = l ∧ i = j ∧ s = t
  · obtain ⟨rfl, rfl, rfl⟩ := he
    simp [hindsightref02_Order.j0]
    intro _
    unfold cmpB
    exact ((cb_zero _ _).2 rfl).symm
  · have hb : (k == l && (i == j && (s.toList == t.toList))) = false := by
      rw [Bool.eq_false_iff]
      intro h
      simp only [Bool.and_eq_true, beq_iff_eq] at h
      exact he ⟨h.1, h.2.1, tl_inj h.2.2⟩
    rw [hb]
    simp only [hindsightref02_Order.j0, Bool.false_eq_true, if_false]
    by_cases hkl : k = l
    · rw [if_pos hkl, if_pos hkl]
      subst hkl
      by_cases h1' : k = 1
      · rw [if_pos h1', if_pos h1']
        have hst : s = t := by rw [size0 s (g1.1 h1'), size0 t (g2.1 h1')]
        have hij : i ≠ j := fun h => he ⟨rfl, h, hst⟩
        by_cases hlt : i < j
        · rw [if_pos hlt, if_pos hlt]
        · rw [if_neg hlt, if_neg hlt, if_pos (by omega)]
      · rw [if_neg h1', if_neg h1']
        have hij : i = j := by rw [g1.2 h1', g2.2 h1']
        have hst : s ≠ t := fun h => he ⟨rfl, hij, h⟩
        have hne : cmpB s t ≠ 0 := by
          intro h
          have := (cb_zero _ _).1 h
          exact hst (tl_inj (by rw [tl, tl, this]))
        have hs := cb_sgn s.data.toList t.data.toList
        have hl := cb_less s.data.toList t.data.toList
        rw [tl, tl]
        unfold cmpB at hne ⊢
        by_cases hb : Op.bytesLess s.data.toList t.data.toList = true
        · rw [if_pos hb, hl.1 hb]
        · rw [if_neg hb]
          rcases hs with h | h | h
          · exact absurd (hl.2 h) hb
          · exact absurd h hne
          · rw [h]
    · rw [if_neg hkl, if_neg hkl]
      by_cases hlt : k < l
      · rw [if_pos hlt, if_pos hlt]
      · rw [if_neg hlt, if_neg hlt]
theorem rcompare_tells (n : Nat) (k i : Int) (s : ByteArray) (l j : Int) (t : ByteArray) : hindsightref02_Compare.f (n + 3) k i s l j t = some (cmpr k i s l j t) := by
  unfold hindsightref02_Compare.f cmpr
  rw [rright_tells, rright_tells]
  simp only [Option.bind_some, hindsightref02_Compare.j0, hindsightref02_Compare.j1]
  rw [rorder_tells]
  cases rgt k i s <;> cases rgt l j t <;> simp
  by_cases h0 : k = 0
  · simp [h0]
  · by_cases hl : l = 0
    · simp [h0, hl]
    · by_cases hkl : k = l <;> simp [h0, hl, hkl] <;> (try (subst hkl; simp [h0]))
theorem CellOrders : hindsightlaw02_CellOrders.Pure := by
  intro k i s l j t hk hi hs hl hj ht
  refine ⟨20, ?_⟩
  unfold hindsightlaw02_CellOrders.f
  rw [great_tells, alive_tells 20 (by decide)]
  simp only [Option.bind_some]
  by_cases hg : s.size > 1000 ∨ t.size > 1000
  · rw [if_pos (decide_eq_true hg)]
  rw [if_neg (by simpa using hg), compare_tells 17, rcompare_tells 17, right_tells, rright_tells, order_tells 19, rorder_tells 19]
  simp [cell_Bool.f, cell_number.f, hindsightref02_Number.f]
end Go.Proofs.Ytefpnnljflcmbaa.Pure
