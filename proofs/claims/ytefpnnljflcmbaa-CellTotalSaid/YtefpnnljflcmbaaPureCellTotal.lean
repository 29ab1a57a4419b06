/- The law CellTotal over the printed functions: the order is total, tells nought of equal values alone, and Compare agrees with it. -/
import Derived.Test.YtefpnnljflcmbaaCAlive
import Derived.Test.YtefpnnljflcmbaaPCex19
namespace Go.Proofs.Ytefpnnljflcmbaa.Pure
set_option linter.unusedVariables false
set_option linter.unusedSimpArgs false
open Go.RowKit Go.Proofs.Ytefpnnljflcmbaa.PCe Go.Proofs.Ytefpnnljflcmbaa.CMath Go.Proofs.Ytefpnnljflcmbaa.CFuns Go.Proofs.Ytefpnnljflcmbaa.COrd Go.Proofs.Ytefpnnljflcmbaa.CAlive Go.Proofs.YtefpnnljflcmbaaW.PrintWords Go.Proofs.YtefpnnljflcmbaaW.PrintLast Go.Proofs.YtefpnnljflcmbaaW.PrintMore
theorem rgt_num {k i : Int} {s : ByteArray} (h : rgt k i s = true) : (k = 1 → s.size = 0) ∧ (k ≠ 1 → i = 0) := by
  unfold rgt at h; simp only [decide_eq_true_eq] at h; omega
/-- the order of two values that may be -/
def od (k i : Int) (s : ByteArray) (l j : Int) (t : ByteArray) : Int := if k = l then (if k = 1 then (if i < j then -1 else if i > j then 1 else 0) else cmpB s t) else (if k < l then -1 else 1)
theorem ord_od {k i : Int} {s : ByteArray} {l j : Int} {t : ByteArray} (h1 : rgt k i s = true) (h2 : rgt l j t = true) : ord k i s l j t = od k i s l j t := by
  unfold ord od; rw [if_pos h1, if_pos h2]
theorem od_sgn (k i : Int) (s : ByteArray) (l j : Int) (t : ByteArray) : sgn (od k i s l j t) := by
  unfold od
  split
  · split
    · unfold sgn; (repeat' split) <;> simp
    · exact cb_sgn _ _
  · unfold sgn; split <;> simp
theorem od_neg (k i : Int) (s : ByteArray) (l j : Int) (t : ByteArray) : od k i s l j t = -od l j t k i s := by
  unfold od
  by_cases h : k = l
  · subst h
    rw [if_pos rfl, if_pos rfl]
    by_cases h1 : k = 1
    · rw [if_pos h1, if_pos h1]; (repeat' split) <;> omega
    · rw [if_neg h1, if_neg h1]; unfold cmpB; rw [cb_neg]
  · rw [if_neg h, if_neg (Ne.symm h)]; (repeat' split) <;> omega
theorem od_zero {k i : Int} {s : ByteArray} {l j : Int} {t : ByteArray} (h1 : rgt k i s = true) (h2 : rgt l j t = true) : od k i s l j t = 0 ↔ (k = l ∧ i = j ∧ s = t) := by
  have g1 := rgt_num h1
  have g2 := rgt_num h2
  unfold od
  by_cases h : k = l
  · subst h
    rw [if_pos rfl]
    by_cases h1' : k = 1
    · rw [if_pos h1']
      have hst : s = t := by rw [size0 s (g1.1 h1'), size0 t (g2.1 h1')]
      constructor
      · intro h; refine ⟨rfl, ?_, hst⟩; revert h; (repeat' split) <;> omega
      · rintro ⟨_, rfl, _⟩; simp
    · rw [if_neg h1']
      have hij : i = j := by rw [g1.2 h1', g2.2 h1']
      constructor
      · intro h; exact ⟨rfl, hij, tl_inj (by rw [tl, tl]; exact (cb_zero _ _).1 h)⟩
      · rintro ⟨_, _, rfl⟩; exact (cb_zero _ _).2 rfl
  · rw [if_neg h]
    constructor
    · intro h'; revert h'; split <;> omega
    · rintro ⟨h', _⟩; exact absurd h' h
theorem od_trans (k i : Int) (s : ByteArray) (l j : Int) (t : ByteArray) (m o : Int) (u : ByteArray) (h1 : od k i s l j t ≤ 0) (h2 : od l j t m o u ≤ 0) : od k i s m o u ≤ 0 ∧ ((od k i s l j t < 0 ∨ od l j t m o u < 0) → od k i s m o u < 0) := by
  unfold od at h1 h2 ⊢
  by_cases hkl : k = l
  · subst hkl
    rw [if_pos rfl] at h1
    rw [if_pos rfl]
    by_cases hkm : k = m
    · subst hkm
      rw [if_pos rfl] at h2
      rw [if_pos rfl, if_pos rfl]
      by_cases h1' : k = 1
      · rw [if_pos h1'] at h1 h2
        rw [if_pos h1', if_pos h1', if_pos h1']
        revert h1 h2
        (repeat' split) <;> omega
      · rw [if_neg h1'] at h1 h2
        rw [if_neg h1', if_neg h1', if_neg h1']
        exact cb_trans _ _ _ h1 h2
    · rw [if_neg hkm] at h2 ⊢
      revert h2; split <;> simp
  · rw [if_neg hkl] at h1
    rw [if_neg hkl]
    have hlt : k < l := by revert h1; split <;> simp <;> omega
    by_cases hlm : l = m
    · subst hlm
      rw [if_neg hkl, if_pos hlt]; simp
    · rw [if_neg hlm] at h2
      have hlt' : l < m := by revert h2; split <;> simp <;> omega
      rw [if_neg (show ¬ k = m by omega), if_pos (show k < m by omega)]; simp
theorem CellTotal : hindsightlaw02_CellTotal.Pure := by
  intro k i s l j t m o u hk hi hs hl hj ht hm ho hu
  refine ⟨20, ?_⟩
  unfold hindsightlaw02_CellTotal.f
  rw [great_tells, great_tells, right_tells, right_tells, right_tells]
  simp only [Option.bind_some]
  have out : ∀ b, b = true → hindsightlaw02_CellTotal.j0 20 b k i s l j t m o u = some true := by
    rintro b rfl
    simp only [hindsightlaw02_CellTotal.j0, if_true]
    rw [alive_tells 19 (by decide)]; rfl
  by_cases hg : s.size > 1000 ∨ t.size > 1000
  · rw [if_pos (decide_eq_true hg)]; exact out _ rfl
  rw [if_neg (by simpa using hg)]
  by_cases hg' : u.size > 1000 ∨ u.size > 1000
  · rw [if_pos (decide_eq_true hg')]; exact out _ rfl
  rw [if_neg (by simpa using hg')]
  cases h1 : rgt k i s
  · exact out _ rfl
  cases h2 : rgt l j t
  · exact out _ rfl
  simp only [if_true]
  cases h3 : rgt m o u
  · exact out _ rfl
  simp only [hindsightlaw02_CellTotal.j0, Bool.not_true, Bool.false_eq_true, if_false]
  rw [order_tells 18, order_tells 18, order_tells 18, order_tells 18, compare_tells 16]
  simp only [Option.bind_some]
  rw [ord_od h1 h2, ord_od h2 h3, ord_od h1 h3, ord_od h2 h1]
  have hsg := od_sgn l j t k i s
  have hneg := od_neg k i s l j t
  have hz := od_zero h1 h2
  have htr := od_trans k i s l j t m o u
  have e1 : wrap64 (-od l j t k i s) = od k i s l j t := by rw [← hneg]; exact wrapi _ (by rcases hsg with h | h | h <;> omega) (by rcases hsg with h | h | h <;> omega)
  rw [e1, if_pos rfl]
  have e2 : ((od k i s l j t == 0) != (k == l && (i == j && (s.toList == t.toList)))) = false := by
    rw [bne_eq_false_iff_eq, Bool.eq_iff_iff]
    simp only [beq_iff_eq, Bool.and_eq_true]
    rw [hz]
    constructor
    · rintro ⟨a, b, rfl⟩; exact ⟨a, b, rfl⟩
    · rintro ⟨a, b, c⟩; exact ⟨a, b, tl_inj c⟩
  rw [e2]
  simp only [Bool.false_eq_true, if_false]
  -- the last part
  have last : hindsightlaw02_CellTotal.j1 19 (od k i s l j t) (cmpr k i s l j t).1 (cmpr k i s l j t).2.1 (cmpr k i s l j t).2.2 false k i s l j t = some true := by
    simp only [hindsightlaw02_CellTotal.j1, Bool.false_eq_true, if_false]
    rw [alive_tells 18 (by decide)]
    simp only [Option.bind_some, if_true]
    by_cases ha : k = 0 ∨ l = 0
    · have hc : cmpr k i s l j t = (0, false, 0) := by unfold cmpr; rw [if_pos ⟨h1, h2⟩, if_pos ha]
      rw [hc]; simp
    · by_cases hb : k = l
      · have hc : cmpr k i s l j t = (od k i s l j t, true, 0) := by unfold cmpr; rw [if_pos ⟨h1, h2⟩, if_neg ha, if_pos hb, ord_od h1 h2]
        rw [hc]; simp [hb]
      · have hc : cmpr k i s l j t = (0, false, 20) := by unfold cmpr; rw [if_pos ⟨h1, h2⟩, if_neg ha, if_neg hb]
        rw [hc]; simp
  by_cases c1 : od k i s l j t < 0
  · rw [if_pos c1]
    by_cases c2 : od l j t m o u < 0
    · rw [if_pos c2]
      have := (htr (by omega) (by omega)).2 (Or.inl c1)
      rw [if_neg (by omega), if_pos (by omega), if_pos (by omega), decide_eq_false (by omega)]; exact last
    · rw [if_neg c2, if_pos (by omega)]
      by_cases c3 : od l j t m o u ≤ 0
      · have := (htr (by omega) c3).1
        rw [if_pos c3, decide_eq_false (by omega)]; exact last
      · rw [if_neg c3]; exact last
  · rw [if_neg c1]
    by_cases c2 : od k i s l j t ≤ 0
    · rw [if_pos c2]
      by_cases c3 : od l j t m o u ≤ 0
      · have := (htr c2 c3).1
        rw [if_pos c3, decide_eq_false (by omega)]; exact last
      · rw [if_neg c3]; exact last
    · rw [if_neg c2]; exact last
end Go.Proofs.Ytefpnnljflcmbaa.Pure
