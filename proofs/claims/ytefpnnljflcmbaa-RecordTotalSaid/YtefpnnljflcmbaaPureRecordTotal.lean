/- The law RecordTotal over the printed functions: the order of rows is total. -/
import Derived.Test.YtefpnnljflcmbaaROrd
import Derived.Test.YtefpnnljflcmbaaPRex35
namespace Go.Proofs.Ytefpnnljflcmbaa.Pure
set_option linter.unusedVariables false
set_option linter.unusedSimpArgs false
open Go.RowKit Go.Proofs.Ytefpnnljflcmbaa.PRe Go.Proofs.Ytefpnnljflcmbaa.VFuns Go.Proofs.Ytefpnnljflcmbaa.VRefs Go.Proofs.Ytefpnnljflcmbaa.VText Go.Proofs.Ytefpnnljflcmbaa.RSpec Go.Proofs.Ytefpnnljflcmbaa.RFuns Go.Proofs.Ytefpnnljflcmbaa.RRefs Go.Proofs.Ytefpnnljflcmbaa.RAlive Go.Proofs.Ytefpnnljflcmbaa.CRight Go.Proofs.Ytefpnnljflcmbaa.ROrd Go.Proofs.YtefpnnljflcmbaaW.PrintWords Go.Proofs.YtefpnnljflcmbaaW.PrintLast Go.Proofs.YtefpnnljflcmbaaW.PrintMore
open Go.Proofs.Ytefpnnljflcmbaa.VMath (enc enc_len enc_pos enc_ten enc_byte enc_lt spec specAt spec_enc specAt_range specAt_next wrapi wrapu wf_i64 wf_u8 cnt val val_snoc val_nonneg cnt_end str_toList)
open Go.Proofs.Ytefpnnljflcmbaa.CMath (rgt ord tl tl_inj tl_nil tl_len size0 cmpB sgn cb_sgn cb_neg cb_zero cb_less cb_trans)
/-- the order of two values that may be -/
def od (k i : Int) (s : ByteArray) (l j : Int) (t : ByteArray) : Int := if k = l then (if k = 1 then (if i < j then -1 else if i > j then 1 else 0) else cmpB s t) else (if k < l then -1 else 1)
theorem ord_od {k i : Int} {s : ByteArray} {l j : Int} {t : ByteArray} (h1 : rgt k i s = true) (h2 : rgt l j t = true) : ord k i s l j t = od k i s l j t := by
  unfold ord od; rw [if_pos h1, if_pos h2]
theorem od_sgn (k i : Int) (s : ByteArray) (l j : Int) (t : ByteArray) : sgn (od k i s l j t) := by
  unfold od
  split
  · split
    · unfold sgn; (repeat' split) <;> simp
    · exact cb_sgn _ _
  · unfold sgn; split <;> simp
theorem od_neg (k i : Int) (s : ByteArray) (l j : Int) (t : ByteArray) : od k i s l j t = -od l j t k i s := by
  unfold od
  by_cases h : k = l
  · subst h
    rw [if_pos rfl, if_pos rfl]
    by_cases h1 : k = 1
    · rw [if_pos h1, if_pos h1]; (repeat' split) <;> omega
    · rw [if_neg h1, if_neg h1]; unfold cmpB; rw [cb_neg]
  · rw [if_neg h, if_neg (Ne.symm h)]; (repeat' split) <;> omega
theorem od_zero {k i : Int} {s : ByteArray} {l j : Int} {t : ByteArray} (h1 : rgt k i s = true) (h2 : rgt l j t = true) : od k i s l j t = 0 ↔ (k = l ∧ i = j ∧ s = t) := by
  have g1 := rgt_num h1
  have g2 := rgt_num h2
  unfold od
  by_cases h : k = l
  · subst h
    rw [if_pos rfl]
    by_cases h1' : k = 1
    · rw [if_pos h1']
      have hst : s = t := by rw [size0 s (g1.1 h1'), size0 t (g2.1 h1')]
      constructor
      · intro h; refine ⟨rfl, ?_, hst⟩; revert h; (repeat' split) <;> omega
      · rintro ⟨_, rfl, _⟩; simp
    · rw [if_neg h1']
      have hij : i = j := by rw [g1.2 h1', g2.2 h1']
      constructor
      · intro h; exact ⟨rfl, hij, tl_inj (by rw [tl, tl]; exact (cb_zero _ _).1 h)⟩
      · rintro ⟨_, _, rfl⟩; exact (cb_zero _ _).2 rfl
  · rw [if_neg h]
    constructor
    · intro h'; revert h'; split <;> omega
    · rintro ⟨h', _⟩; exact absurd h' h
theorem od_trans (k i : Int) (s : ByteArray) (l j : Int) (t : ByteArray) (m o : Int) (u : ByteArray) (h1 : od k i s l j t ≤ 0) (h2 : od l j t m o u ≤ 0) : od k i s m o u ≤ 0 ∧ ((od k i s l j t < 0 ∨ od l j t m o u < 0) → od k i s m o u < 0) := by
  unfold od at h1 h2 ⊢
  by_cases hkl : k = l
  · subst hkl
    rw [if_pos rfl] at h1
    rw [if_pos rfl]
    by_cases hkm : k = m
    · subst hkm
      rw [if_pos rfl] at h2
      rw [if_pos rfl, if_pos rfl]
      by_cases h1' : k = 1
      · rw [if_pos h1'] at h1 h2
        rw [if_pos h1', if_pos h1', if_pos h1']
        revert h1 h2
        (repeat' split) <;> omega
      · rw [if_neg h1'] at h1 h2
        rw [if_neg h1', if_neg h1', if_neg h1']
        exact cb_trans _ _ _ h1 h2
    · rw [if_neg hkm] at h2 ⊢
      revert h2; split <;> simp
  · rw [if_neg hkl] at h1
    rw [if_neg hkl]
    have hlt : k < l := by revert h1; split <;> simp <;> omega
    by_cases hlm : l = m
    · subst hlm
      rw [if_neg hkl, if_pos hlt]; simp
    · rw [if_neg hlm] at h2
      have hlt' : l < m := by revert h2; split <;> simp <;> omega
      rw [if_neg (show ¬ k = m by omega), if_pos (show k < m by omega)]; simp
theorem ordv_od {v w : S35} (h1 : rv v = true) (h2 : rv w = true) : ordv v w = od v.f0 v.f1 v.f2 w.f0 w.f1 w.f2 := ord_od h1 h2
theorem all_cons {v : S35} {l : List S35} (h : (v :: l).all rv = true) : rv v = true ∧ l.all rv = true := by rw [List.all_cons, Bool.and_eq_true] at h; exact h
theorem ordL_sgn : ∀ l m : List S35, l.all rv = true → m.all rv = true → sgn (ordL l m)
  | [], [], _, _ => by simp [ordL, sgn]
  | [], _ :: _, _, _ => by simp [ordL, sgn]
  | _ :: _, [], _, _ => by simp [ordL, sgn]
  | v :: l, w :: m, h1, h2 => by
    have g1 := all_cons h1
    have g2 := all_cons h2
    rw [ordL]
    split
    · exact ordL_sgn l m g1.2 g2.2
    · rw [ordv_od g1.1 g2.1]; exact od_sgn _ _ _ _ _ _
theorem ordL_neg : ∀ l m : List S35, l.all rv = true → m.all rv = true → ordL m l = - ordL l m
  | [], [], _, _ => by simp [ordL]
  | [], _ :: _, _, _ => by simp [ordL]
  | _ :: _, [], _, _ => by simp [ordL]
  | v :: l, w :: m, h1, h2 => by
    have g1 := all_cons h1
    have g2 := all_cons h2
    have hn : ordv w v = - ordv v w := by
      rw [ordv_od g1.1 g2.1, ordv_od g2.1 g1.1]; exact od_neg _ _ _ _ _ _
    rw [ordL, ordL, hn]
    by_cases h : ordv v w = 0
    · rw [if_pos (by omega), if_pos h]; exact ordL_neg l m g1.2 g2.2
    · rw [if_neg (by omega), if_neg h]
theorem ordv_zero {v w : S35} (h1 : rv v = true) (h2 : rv w = true) : ordv v w = 0 ↔ v = w := by
  rw [ordv_od h1 h2, od_zero h1 h2]
  obtain ⟨a, b, c⟩ := v
  obtain ⟨a', b', c'⟩ := w
  simp
theorem ordL_zero : ∀ l m : List S35, l.all rv = true → m.all rv = true → (ordL l m = 0 ↔ l = m)
  | [], [], _, _ => by simp [ordL]
  | [], _ :: _, _, _ => by simp [ordL]
  | _ :: _, [], _, _ => by simp [ordL]
  | v :: l, w :: m, h1, h2 => by
    have g1 := all_cons h1
    have g2 := all_cons h2
    have hz := ordv_zero g1.1 g2.1
    rw [ordL]
    by_cases h : ordv v w = 0
    · rw [if_pos h, ordL_zero l m g1.2 g2.2, hz.1 h]; simp
    · rw [if_neg h]
      constructor
      · intro h3; exact absurd h3 h
      · intro h3; injection h3 with h4 _; exact absurd (hz.2 h4) h
theorem ordL_trans : ∀ l m p : List S35, l.all rv = true → m.all rv = true → p.all rv = true → ordL l m ≤ 0 → ordL m p ≤ 0 → ordL l p ≤ 0 ∧ ((ordL l m < 0 ∨ ordL m p < 0) → ordL l p < 0)
  | [], [], [], _, _, _, _, _ => by simp [ordL]
  | [], [], _ :: _, _, _, _, _, _ => by simp [ordL]
  | [], _ :: _, [], _, _, _, _, h => by simp [ordL] at h
  | [], _ :: _, _ :: _, _, _, _, _, _ => by simp [ordL]
  | _ :: _, [], _, _, _, _, h, _ => by simp [ordL] at h
  | _ :: _, _ :: _, [], _, _, _, _, h => by simp [ordL] at h
  | v :: l, w :: m, x :: p, h1, h2, h3, a1, a2 => by
    have g1 := all_cons h1
    have g2 := all_cons h2
    have g3 := all_cons h3
    have ih := ordL_trans l m p g1.2 g2.2 g3.2
    have ht := od_trans v.f0 v.f1 v.f2 w.f0 w.f1 w.f2 x.f0 x.f1 x.f2
    rw [← ordv_od g1.1 g2.1, ← ordv_od g2.1 g3.1, ← ordv_od g1.1 g3.1] at ht
    have z1 := ordv_zero g1.1 g2.1
    have z2 := ordv_zero g2.1 g3.1
    have z3 := ordv_zero g1.1 g3.1
    rw [ordL] at a1 a2
    rw [ordL, ordL, ordL]
    by_cases c1 : ordv v w = 0
    · rw [if_pos c1] at a1
      simp only [if_pos c1]
      have e1 := z1.1 c1
      subst e1
      by_cases c2 : ordv v x = 0
      · rw [if_pos c2] at a2
        simp only [if_pos c2]
        exact ih a1 a2
      · rw [if_neg c2] at a2
        simp only [if_neg c2]
        omega
    · rw [if_neg c1] at a1
      simp only [if_neg c1]
      by_cases c2 : ordv w x = 0
      · rw [if_pos c2] at a2
        simp only [if_pos c2]
        have e1 := z2.1 c2
        subst e1
        simp only [if_neg c1]
        omega
      · rw [if_neg c2] at a2
        simp only [if_neg c2]
        have := ht a1 a2
        rw [if_neg (by omega)]
        omega
theorem wr_zero (l : List S35) (hw : ((wr l).2 == 0) = true) : l.all rv = true := by
  unfold wr at hw
  split at hw
  · simp at hw
  · rename_i g
    cases hq : l.all rv
    · exact absurd (Or.inl hq) g
    · rfl
theorem RecordTotal : hindsightlaw03_RecordTotal.Pure := by
  intro a b c ha hb hc
  refine ⟨4 * a.length + 4 * b.length + 4 * c.length + 1000, ?_⟩
  generalize hk : 4 * a.length + 4 * b.length + 4 * c.length + 1000 = k
  obtain ⟨g1, h1, i1⟩ := great_tells a ha k (by omega)
  obtain ⟨g2, h2, i2⟩ := great_tells b hb k (by omega)
  obtain ⟨g3, h3, i3⟩ := great_tells c hc k (by omega)
  obtain ⟨k, rfl⟩ : ∃ m, k = m + 1 := ⟨k - 1, by omega⟩
  have hal : hindsightlaw03_RecordTotal.j0 (k + 1) a b c true = some true := by
    rw [hindsightlaw03_RecordTotal.j0, if_pos rfl, alive_tells k (by omega)]; rfl
  unfold hindsightlaw03_RecordTotal.f
  rw [h1, Option.bind_some]
  cases g1
  case true => exact hal
  rw [if_neg (by simp), h2, Option.bind_some]
  cases g2
  case true => exact hal
  rw [if_neg (by simp), h3, Option.bind_some]
  cases g3
  case true => exact hal
  rw [if_neg (by simp), right_row a ha.1 (i1 rfl).2 (k + 1) (by omega), Option.bind_some]
  cases r1 : ((wr a).2 == 0)
  case false => exact hal
  rw [if_pos rfl, right_row b hb.1 (i2 rfl).2 (k + 1) (by omega), Option.bind_some]
  cases r2 : ((wr b).2 == 0)
  case false => exact hal
  rw [if_pos rfl, right_row c hc.1 (i3 rfl).2 (k + 1) (by omega), Option.bind_some]
  cases r3 : ((wr c).2 == 0)
  case false => exact hal
  have q1 := wr_zero a r1
  have q2 := wr_zero b r2
  have q3 := wr_zero c r3
  have s1 := ordL_sgn a b q1 q2
  have s2 := ordL_sgn b c q2 q3
  have n1 := ordL_neg a b q1 q2
  have z1 := ordL_zero a b q1 q2
  have t1 := ordL_trans a b c q1 q2 q3
  rw [Bool.not_true, hindsightlaw03_RecordTotal.j0, if_neg (by simp), rorder a b ha.1 k (by omega), Option.bind_some, rorder b c hb.1 k (by omega), Option.bind_some, rorder a c ha.1 k (by omega), Option.bind_some, alive_tells k (by omega), Option.bind_some, if_pos rfl, rorder b a hb.1 k (by omega), Option.bind_some]
  unfold sgn at s1 s2
  rw [if_pos (by rw [n1, wrapi _ (by omega) (by omega)]; omega), same_tells a b ha.1 k (by omega), Option.bind_some]
  have hs : ((ordL a b == 0) == sameL a b) = true := by
    by_cases h : a = b
    · rw [(sameL_iff a b).2 h, z1.2 h]; rfl
    · have g : sameL a b = false := by rw [Bool.eq_false_iff]; exact fun z => h ((sameL_iff a b).1 z)
      have g' : ordL a b ≠ 0 := fun z => h (z1.1 z)
      rw [g]; simp [g']
  rw [if_pos hs]
  generalize ordL a b = x at *
  generalize ordL b c = y at *
  generalize ordL a c = z at *
  (repeat' split) <;> first | rfl | (simp; omega) | (exfalso; omega)
end Go.Proofs.Ytefpnnljflcmbaa.Pure
