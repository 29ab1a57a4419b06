/- What the printed functions of varint's reference come to. -/
import Derived.Test.YtefpnnljflcmbaaVFuns
import Derived.Test.YtefpnnljflcmbaaPRex15
import Derived.Test.YtefpnnljflcmbaaPRex15
import Derived.Test.YtefpnnljflcmbaaPRex18
import Derived.Test.YtefpnnljflcmbaaPRex17
namespace Go.Proofs.Ytefpnnljflcmbaa.VRefs
set_option linter.unusedVariables false
set_option linter.unusedSimpArgs false
open Go.RowKit Go.Proofs.Ytefpnnljflcmbaa.PRe Go.Proofs.Ytefpnnljflcmbaa.VMath Go.Proofs.Ytefpnnljflcmbaa.VFuns Go.Proofs.YtefpnnljflcmbaaW.PrintWords Go.Proofs.YtefpnnljflcmbaaW.PrintLast Go.Proofs.YtefpnnljflcmbaaW.PrintMore

theorem rput_l0 (d : Nat) : ∀ (v : Nat), v < 128 ^ (d + 1) → v < 18446744073709551616 → ∀ (k : Nat) (acc : List Int), d < k → acc.length + d + 1 < 140737488355328 → hindsightref01_Put.l0 k (v : Int) acc = some (acc ++ enc v) := by
  induction d with
  | zero =>
    intro v hv hv' k acc hk hl
    obtain ⟨k, rfl⟩ : ∃ m, k = m + 1 := ⟨k - 1, by omega⟩
    simp only [hindsightref01_Put.l0]
    rw [if_neg (by omega), if_pos (by omega), enc_lt (by omega)]
    rw [show (v : Int) % 256 = v by omega]
  | succ d ih =>
    intro v hv hv' k acc hk hl
    obtain ⟨k, rfl⟩ : ∃ m, k = m + 1 := ⟨k - 1, by omega⟩
    simp only [hindsightref01_Put.l0]
    by_cases h : v < 128
    · rw [if_neg (by omega), if_pos (by omega), enc_lt h]
      rw [show (v : Int) % 256 = v by omega]
    · rw [if_pos (by omega), if_pos (by omega), Int.tdiv_eq_ediv_of_nonneg (by omega), Int.tmod_eq_emod_of_nonneg (by omega), wrapu ((v : Int) / 128) (by omega) (by omega), wrapu (128 + (v : Int) % 128) (by omega) (by omega)]
      rw [show (v : Int) / 128 = ((v / 128 : Nat) : Int) by omega, ih (v / 128) (by rw [Nat.pow_succ] at hv; omega) (by omega) k _ (by omega) (by simp; omega), enc_ge h]
      simp only [List.append_assoc, List.singleton_append, Option.some.injEq, List.append_cancel_left_eq, List.cons.injEq, and_true]
      omega
theorem rput_tells (v : Int) (h0 : 0 ≤ v) (h1 : v < 18446744073709551616) (k : Nat) (hk : 10 ≤ k) : hindsightref01_Put.f k v = some (enc v.toNat) := by
  unfold hindsightref01_Put.f
  have := rput_l0 9 v.toNat (by omega) (by omega) k [] (by omega) (by simp)
  rw [Int.toNat_of_nonneg h0] at this
  simpa using this
theorem rzig_tells (i : Int) (h0 : -9223372036854775808 ≤ i) (h1 : i < 9223372036854775808) : hindsightref01_Zig.f i = some (zig i) := by
  unfold hindsightref01_Zig.f zig
  by_cases h : 0 ≤ i
  · rw [if_pos h, if_pos h, wrapu i h (by omega), wrapu (2 * i) (by omega) (by omega)]
  · rw [if_neg h, if_neg h, wrapi (i + 1) (by omega) (by omega), wrapi (-(i + 1)) (by omega) (by omega), wrapu (-(i + 1)) (by omega) (by omega), wrapu (2 * -(i + 1)) (by omega) (by omega), wrapu _ (by omega) (by omega)]
    congr 1; omega
theorem rzag_tells (v : Int) (h0 : 0 ≤ v) (h1 : v < 18446744073709551616) : hindsightref01_Zag.f v = some (zag v) := by
  unfold hindsightref01_Zag.f zag
  rw [Int.tmod_eq_emod_of_nonneg h0, Int.tdiv_eq_ediv_of_nonneg h0, wrapu (v / 2) (by omega) (by omega), wrapi (v / 2) (by omega) (by omega)]
  by_cases h : v % 2 = 0
  · rw [if_pos h, if_pos h]
  · rw [if_neg h, if_neg h, wrapi (-(v / 2)) (by omega) (by omega), wrapi _ (by omega) (by omega)]
    congr 1; omega

theorem rd_drop (b : List Int) (x : Int) (i : Nat) (h : 0 ≤ x) : rd b (x + i) = (b.drop x.toNat).getD i 0 := by
  unfold rd
  rw [show (x + (i : Int)).toNat = x.toNat + i by omega]
  simp [List.getD_eq_getElem?_getD, List.getElem?_drop]
theorem rget_l1 (n : Nat) (b s : List Int) (x1 : Int) (hs : s = b.drop x1.toNat) (hx : 0 ≤ x1) (hx' : x1 ≤ b.length) (hl : b.length ≤ 140737488355328) (hn : n < s.length) (h9 : n ≤ 8 ∨ n = 9 ∧ s.getD 9 0 ≤ 1) (hb : ∀ c ∈ s, 0 ≤ c ∧ c ≤ 255) (j : Nat) :
    ∀ k, j < k → j ≤ n + 1 → hindsightref01_Get.l1 k b x1 n (val (n + 1 - j) (s.drop j)) ((j : Int) - 1) = some (val (n + 1) s, x1 + ((n : Int) + 1), 0) := by
  have hsl : s.length + x1.toNat = b.length := by rw [hs]; simp; omega
  induction j with
  | zero =>
    intro k hk hj
    obtain ⟨k, rfl⟩ : ∃ m, k = m + 1 := ⟨k - 1, by omega⟩
    simp only [hindsightref01_Get.l1]
    rw [if_neg (by omega), wrapi (x1 + n) (by omega) (by omega), wrapi _ (by omega) (by omega)]
    simp; omega
  | succ j ih =>
    intro k hk hj
    obtain ⟨k, rfl⟩ : ∃ m, k = m + 1 := ⟨k - 1, by omega⟩
    simp only [hindsightref01_Get.l1]
    have e1 : ((j + 1 : Nat) : Int) - 1 = j := by omega
    rw [e1, wrapi (x1 + (j : Int)) (by omega) (by omega), if_pos (by omega), if_pos (by omega), if_pos (by omega), rd_drop b x1 j hx, ← hs, wrapi _ (by omega) (by omega)]
    have hm : s.getD j 0 ∈ s := by rw [List.getD_eq_getElem?_getD, List.getElem?_eq_getElem (by omega)]; simp
    have hby := hb _ hm
    have h1 := val_drop j (n + 1 - (j + 1)) s (by omega)
    rw [show n + 1 - (j + 1) + 1 = n + 1 - j by omega] at h1
    have h2 := val_room n j s hn h9 hb (by omega)
    have h3 := val_nonneg (n + 1 - (j + 1)) (s.drop (j + 1))
    rw [Int.tmod_eq_emod_of_nonneg hby.1, wrapu (s.getD j 0 % 128) (by omega) (by omega), wrapu (128 * _) (by omega) (by omega), wrapu _ (by omega) (by omega), Int.add_comm, ← h1]
    exact ih k (by omega) (by omega)
theorem rget_l0 (b s : List Int) (x1 : Int) (hs : s = b.drop x1.toNat) (hx : 0 ≤ x1) (hx' : x1 ≤ b.length) (hl : b.length ≤ 140737488355328) (d : Nat) :
    ∀ (n k : Nat), n + d = min (cnt s) 10 → hindsightref01_Get.l0 (k + d + 1) b x1 n = hindsightref01_Get.j2 k b x1 ((min (cnt s) 10 : Nat) : Int) := by
  have hsl : s.length + x1.toNat = b.length := by rw [hs]; simp; omega
  have hcl := cnt_le s
  induction d with
  | zero =>
    intro n k h
    have hn : n = min (cnt s) 10 := by omega
    simp only [hindsightref01_Get.l0]
    rw [← hn, wrapi (x1 + (n : Int)) (by omega) (by omega)]
    by_cases h1 : x1 + (n : Int) < (b.length : Int)
    · rw [if_pos h1]
      by_cases h2 : (n : Int) < 10
      · rw [if_pos h2, if_pos (by omega), rd_drop b x1 n hx, ← hs, if_neg]
        have hc : cnt s = n := by omega
        have := cnt_end s (by omega)
        rw [hc] at this
        omega
      · rw [if_neg h2]
    · rw [if_neg h1]
  | succ d ih =>
    intro n k h
    have hn : n < cnt s := by omega
    rw [show k + (d + 1) + 1 = (k + d + 1) + 1 by omega, hindsightref01_Get.l0]
    rw [wrapi (x1 + (n : Int)) (by omega) (by omega), if_pos (by omega), if_pos (by omega), if_pos (by omega), rd_drop b x1 n hx, ← hs, if_pos (cnt_at s n hn), wrapi _ (by omega) (by omega)]
    exact_mod_cast ih (n + 1) k (by omega)
theorem rget_tells (b : List Int) (at_ : Int) (hb : ∀ c ∈ b, 0 ≤ c ∧ c ≤ 255) (hl : b.length ≤ 140737488355328) (k : Nat) (hk : 40 ≤ k) : hindsightref01_Get.f k b at_ = some (specAt b at_) := by
  obtain ⟨k, rfl⟩ : ∃ m, k = m + 1 := ⟨k - 1, by omega⟩
  unfold hindsightref01_Get.f specAt
  by_cases h0 : at_ < 0
  · rw [if_pos h0, if_pos (Or.inl h0)]; simp only [hindsightref01_Get.j0, if_true]
  · rw [if_neg h0]
    by_cases h1 : at_ > (b.length : Int)
    · rw [if_pos (Or.inr h1), show decide (at_ > (b.length : Int)) = true from decide_eq_true h1]; simp only [hindsightref01_Get.j0, if_true]
    · rw [if_neg (by omega), show decide (at_ > (b.length : Int)) = false from decide_eq_false h1]
      simp only [hindsightref01_Get.j0]
      rw [if_neg (by decide)]
      generalize hs : b.drop at_.toNat = s
      have hsl : s.length + at_.toNat = b.length := by rw [← hs]; simp; omega
      have hsb : ∀ c ∈ s, 0 ≤ c ∧ c ≤ 255 := fun c hc => hb c (List.mem_of_mem_drop (hs ▸ hc))
      have hcl := cnt_le s
      obtain ⟨k', hk'⟩ : ∃ k', k = (k' + 4) + (min (cnt s) 10) + 1 := ⟨k - min (cnt s) 10 - 5, by omega⟩
      have hl0 := rget_l0 b s at_ hs.symm (by omega) (by omega) hl (min (cnt s) 10) 0 (k' + 4) (by omega)
      rw [show ((0 : Nat) : Int) = 0 from rfl] at hl0
      rw [hk', hl0]
      generalize hm : min (cnt s) 10 = m at *
      -- what follows the ninth byte's test
      have rest : ¬ (9 ≤ cnt s ∧ 9 < s.length ∧ s.getD 9 0 > 1) → hindsightref01_Get.j3 (k' + 3) b at_ m false = some (tell at_ s) := by
        intro hno
        have h10 : cnt s < 10 := by
          rcases Nat.lt_or_ge (cnt s) 10 with h | h
          · omega
          · exact absurd ⟨by omega, by omega, by have := cnt_at s 9 (by omega); omega⟩ hno
        have hmc : m = cnt s := by omega
        simp only [hindsightref01_Get.j3]
        rw [if_neg (by decide), wrapi (at_ + (m : Int)) (by omega) (by omega)]
        by_cases h2 : at_ + (m : Int) ≥ (b.length : Int)
        · rw [if_pos h2]
          have : spec s = (0, 0, 10) := by
            unfold spec
            rw [if_neg hno, if_pos (by omega)]
          unfold tell; rw [this]; rfl
        · rw [if_neg h2]
          have hlt : m < s.length := by omega
          have h9 : m ≤ 8 ∨ m = 9 ∧ s.getD 9 0 ≤ 1 := by
            rcases Nat.lt_or_ge m 9 with h | h
            · exact Or.inl (by omega)
            · obtain rfl : m = 9 := by omega
              refine Or.inr ⟨rfl, ?_⟩
              rcases Int.lt_or_le 1 (s.getD 9 0) with h3 | h3
              · exact absurd ⟨by omega, hlt, h3⟩ hno
              · exact h3
          have fin : ¬ (0 < cnt s ∧ s.getD (cnt s) 0 = 0) → hindsightref01_Get.j4 (k' + 2) b at_ m false = some (tell at_ s) := by
            intro hz
            simp only [hindsightref01_Get.j4]
            rw [if_neg (by decide)]
            have h5 := rget_l1 m b s at_ hs.symm (by omega) (by omega) hl hlt h9 hsb (m + 1) (k' + 1) (by omega) (by omega)
            rw [show m + 1 - (m + 1) = 0 by omega, show ((m + 1 : Nat) : Int) - 1 = m by omega] at h5
            simp only [val] at h5
            rw [h5]
            have : spec s = (val (m + 1) s, (m : Int) + 1, 0) := by
              unfold spec
              rw [if_neg hno, if_neg (by omega), if_neg hz, ← hmc]
            unfold tell; rw [this]; rfl
          by_cases h3 : (m : Int) > 0
          · rw [if_pos h3, if_pos (by omega), if_pos (by omega), rd_drop b at_ m (by omega), hs]
            by_cases hz : s.getD m 0 = 0
            · rw [show (s.getD m 0 == 0) = true from by rw [hz]; rfl]
              simp only [hindsightref01_Get.j4]
              rw [if_pos trivial]
              have : spec s = (0, 0, 3) := by
                unfold spec
                rw [if_neg hno, if_neg (by omega), if_pos ⟨by omega, by rw [← hmc]; exact hz⟩]
              unfold tell; rw [this]; rfl
            · rw [show (s.getD m 0 == 0) = false from beq_eq_false_iff_ne.2 hz]
              exact fin (by rintro ⟨_, h⟩; rw [← hmc] at h; exact hz h)
          · rw [if_neg h3]
            exact fin (by omega)
      simp only [hindsightref01_Get.j2]
      by_cases h2 : (m : Int) ≥ 9
      · rw [if_pos h2, wrapi (at_ + 9) (by omega) (by omega)]
        by_cases h3 : at_ + 9 < (b.length : Int)
        · have e9 := rd_drop b at_ 9 (by omega)
          rw [hs] at e9
          rw [if_pos h3, if_pos (by omega), show at_ + 9 = at_ + ((9 : Nat) : Int) from rfl, e9]
          by_cases h4 : s.getD 9 0 > 1
          · rw [show decide (s.getD 9 0 > 1) = true from decide_eq_true h4]
            simp only [hindsightref01_Get.j3]
            rw [if_pos trivial]
            have : spec s = (0, 0, 3) := by
              unfold spec
              rw [if_pos ⟨by omega, by omega, h4⟩]
            rw [this]; rfl
          · rw [show decide (s.getD 9 0 > 1) = false from decide_eq_false h4]
            exact rest (by rintro ⟨_, _, h⟩; exact h4 h)
        · rw [if_neg h3]
          exact rest (by rintro ⟨_, h, _⟩; omega)
      · rw [if_neg h2]
        exact rest (by rintro ⟨h, _, _⟩; omega)
end Go.Proofs.Ytefpnnljflcmbaa.VRefs
