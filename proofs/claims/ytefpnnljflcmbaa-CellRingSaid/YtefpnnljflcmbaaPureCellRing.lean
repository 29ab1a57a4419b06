/- The law CellRing over the printed functions: sums and products do not hang on their order, a sum less one of both is the other, a quotient and what it leaves make what was divided: for any two numbers. -/
import Derived.Test.YtefpnnljflcmbaaCAlive
import Derived.Test.YtefpnnljflcmbaaPCex41
namespace Go.Proofs.Ytefpnnljflcmbaa.Pure
set_option linter.unusedVariables false
set_option linter.unusedSimpArgs false
open Go.RowKit Go.Proofs.Ytefpnnljflcmbaa.PCe Go.Proofs.Ytefpnnljflcmbaa.CMath Go.Proofs.Ytefpnnljflcmbaa.CFuns Go.Proofs.Ytefpnnljflcmbaa.CAlive Go.Proofs.YtefpnnljflcmbaaW.PrintWords Go.Proofs.YtefpnnljflcmbaaW.PrintLast Go.Proofs.YtefpnnljflcmbaaW.PrintMore
theorem z0 : (⟨#[]⟩ : ByteArray).size = 0 := rfl
theorem op2_one (r : Int × Int × ByteArray × Int) : op2 (false, 0) r = r := rfl
theorem divs_one (i j : Int) : divs 1 i ⟨#[]⟩ 1 j ⟨#[]⟩ = if j = 0 then (false, 22) else (false, 0) := by
  unfold divs; rw [numz_one i j _ _ z0 z0]; rfl
theorem mul_bound (i j : Int) (hi : -9223372036854775808 ≤ i ∧ i < 9223372036854775808) (hj0 : j ≠ 0) : -9223372036854775808 ≤ Int.tdiv i j * j ∧ Int.tdiv i j * j < 9223372036854775808 := by
  have h1 : (Int.tdiv i j * j).natAbs ≤ i.natAbs := by
    rw [Int.natAbs_mul, Int.natAbs_tdiv]; exact Nat.div_mul_le_self _ _
  by_cases h : Int.tdiv i j * j < 9223372036854775808
  · omega
  · have hid := Int.tmod_add_mul_tdiv i j
    rw [Int.mul_comm] at hid
    have hs := tmod_lt i j hj0
    have h2 : i = -9223372036854775808 := by omega
    -- a negative number's part has its sign
    have h3 : Int.tdiv i j * j ≤ 0 := by
      rw [h2, Int.neg_tdiv, Int.neg_mul]
      have : 0 ≤ Int.tdiv 9223372036854775808 j * j := by
        rcases Int.lt_or_lt_of_ne hj0 with hn | hn
        · have e : j = -(-j) := by omega
          rw [e, Int.tdiv_neg, Int.neg_mul_neg]
          exact Int.mul_nonneg (Int.tdiv_nonneg (by decide) (by omega)) (by omega)
        · exact Int.mul_nonneg (Int.tdiv_nonneg (by decide) (by omega)) (by omega)
      omega
    omega
theorem CellRing : hindsightlaw02_CellRing.Pure := by
  intro i j hi hj
  have hi' := wf_i64 hi
  have hj' := wf_i64 hj
  refine ⟨20, ?_⟩
  unfold hindsightlaw02_CellRing.f
  rw [add_tells 18 _ _ _ _ _ _ hi' hj', add_tells 18 _ _ _ _ _ _ hj' hi', mul_tells 17 _ _ _ _ _ _ hi' hj', mul_tells 17 _ _ _ _ _ _ hj' hi', numz_one i j _ _ z0 z0, numz_one j i _ _ z0 z0, op2_one, op2_one, op2_one, op2_one, Int.add_comm j i, Int.mul_comm j i]
  simp only [Option.bind_some]
  rw [if_neg (by rw [same_no]; decide), if_pos trivial, if_neg (by rw [same_no]; decide), bne_self_eq_false]
  -- the quotient's part
  have quot : hindsightlaw02_CellRing.j1 18 i j 1 i ⟨#[]⟩ 1 j ⟨#[]⟩ = some true ∧ hindsightlaw02_CellRing.j1 19 i j 1 i ⟨#[]⟩ 1 j ⟨#[]⟩ = some true := by
    have one : ∀ n, hindsightlaw02_CellRing.j1 (n + 9) i j 1 i ⟨#[]⟩ 1 j ⟨#[]⟩ = some true := by
      intro n
      simp only [hindsightlaw02_CellRing.j1]
      rw [div_tells (n + 5) _ _ _ _ _ _ hi' hj', mod_tells (n + 5), divs_one, alive_tells (n + 8) (by omega)]
      simp only [Option.bind_some]
      by_cases h0 : j = 0
      · subst h0
        simp [op2, err]
      · rw [if_neg h0, op2_one, op2_one]
        unfold quo rest
        by_cases h1 : j = -1
        · subst h1
          rw [if_pos rfl, if_pos rfl]
          by_cases hm : i = -9223372036854775808
          · subst hm
            have : fits (0 - -9223372036854775808) = err 21 := by unfold fits; rw [if_neg (by decide)]
            rw [this]; simp [err, val]
          · have hf : fits (0 - i) = val (-i) := by unfold fits; rw [if_pos (by omega)]; congr 1; omega
            rw [hf]
            simp only [val, if_true]
            rw [mul_tells (n + 5) _ _ _ _ _ _ (by omega) (by decide), numz_one _ _ _ _ z0 z0, op2_one, show -i * -1 = i by omega]
            have hg : fits i = val i := by unfold fits; rw [if_pos hi']
            rw [hg]
            simp only [val, Option.bind_some]
            rw [add_tells (n + 6) _ _ _ _ _ _ hi' (by decide), numz_one _ _ _ _ z0 z0, op2_one, Int.add_zero, hg]
            simp [val]
        · rw [if_neg h1, if_neg h1]
          have hd := tdiv_range i j hi' h0 h1
          have hb := mul_bound i j hi' h0
          have hr := tmod_range i j hi'
          have hid := Int.tmod_add_mul_tdiv i j
          simp only [val, if_true]
          rw [mul_tells (n + 5) _ _ _ _ _ _ hd hj', numz_one _ _ _ _ z0 z0, op2_one]
          have hf : fits (Int.tdiv i j * j) = val (Int.tdiv i j * j) := by unfold fits; rw [if_pos hb]
          rw [hf]
          simp only [val, Option.bind_some]
          rw [add_tells (n + 6) _ _ _ _ _ _ hb hr, numz_one _ _ _ _ z0 z0, op2_one, show Int.tdiv i j * j + Int.tmod i j = i by rw [Int.mul_comm]; omega]
          have hg : fits i = val i := by unfold fits; rw [if_pos hi']
          rw [hg]
          simp [val]
    exact ⟨one 9, one 10⟩
  simp only [hindsightlaw02_CellRing.j0, Bool.false_eq_true, if_false]
  by_cases he : -9223372036854775808 ≤ i + j ∧ i + j < 9223372036854775808
  · have hf : fits (i + j) = val (i + j) := by unfold fits; rw [if_pos he]
    rw [hf]
    simp only [val, if_true]
    rw [sub_tells 17 _ _ _ _ _ _ he hj', numz_one _ _ _ _ z0 z0, op2_one, show i + j - j = i by omega]
    have hg : fits i = val i := by unfold fits; rw [if_pos hi']
    rw [hg]
    simp only [val, Option.bind_some, if_true]
    first | (rw [if_neg (by simp)]; first | exact quot.1 | exact quot.2) | (simp; first | exact quot.1 | exact quot.2)
  · have hf : fits (i + j) = err 21 := by unfold fits; rw [if_neg he]
    rw [hf, if_neg (show ¬ (err 21).2.2.2 = 0 by decide)]
    first | exact quot.1 | exact quot.2
end Go.Proofs.Ytefpnnljflcmbaa.Pure
