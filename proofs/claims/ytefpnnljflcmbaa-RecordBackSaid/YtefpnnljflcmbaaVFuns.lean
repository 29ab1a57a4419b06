/- What the printed functions of varint come to: plain, over VMath. -/
import Derived.Test.YtefpnnljflcmbaaVMath
import Derived.Test.YtefpnnljflcmbaaPRex5
import Derived.Test.YtefpnnljflcmbaaPRex5
import Derived.Test.YtefpnnljflcmbaaPRex9
import Derived.Test.YtefpnnljflcmbaaPRex8
namespace Go.Proofs.Ytefpnnljflcmbaa.VFuns
set_option linter.unusedVariables false
set_option linter.unusedSimpArgs false
open Go.RowKit Go.Proofs.Ytefpnnljflcmbaa.PRe Go.Proofs.Ytefpnnljflcmbaa.VMath Go.Proofs.YtefpnnljflcmbaaW.PrintWords Go.Proofs.YtefpnnljflcmbaaW.PrintLast Go.Proofs.YtefpnnljflcmbaaW.PrintMore

theorem put_l0 (n : Nat) : ∀ (v : Nat), v < n → ∀ (k : Nat) (acc : List Int), v < k → acc.length + (enc v).length < 140737488355328 → varint_Put.l0 k (v : Int) acc = some (acc ++ enc v) := by
  induction n with
  | zero => intro v h; omega
  | succ n ih =>
    intro v hv k acc hk hl
    obtain ⟨k, rfl⟩ : ∃ m, k = m + 1 := ⟨k - 1, by omega⟩
    simp only [varint_Put.l0]
    by_cases h : v < 128
    · rw [if_neg (by omega), if_pos (by have := enc_pos v; omega), enc_lt h]
      rw [show (v : Int) % 256 = v by omega]
    · rw [if_pos (by omega), if_pos (by have := enc_pos v; omega), or128 _ (by omega)]
      rw [enc_ge h] at hl
      simp only [List.length_cons] at hl
      rw [show (v : Int) / 128 = ((v / 128 : Nat) : Int) by omega, ih (v / 128) (by omega) k _ (by omega) (by simp; omega), enc_ge h]
      simp
theorem put_l0_few (d : Nat) : ∀ (v : Nat), v < 128 ^ (d + 1) → ∀ (k : Nat) (acc : List Int), d < k → acc.length + d + 1 < 140737488355328 → varint_Put.l0 k (v : Int) acc = some (acc ++ enc v) := by
  induction d with
  | zero =>
    intro v hv k acc hk hl
    obtain ⟨k, rfl⟩ : ∃ m, k = m + 1 := ⟨k - 1, by omega⟩
    simp only [varint_Put.l0]
    rw [if_neg (by omega), if_pos (by omega), enc_lt (by omega)]
    rw [show (v : Int) % 256 = v by omega]
  | succ d ih =>
    intro v hv k acc hk hl
    obtain ⟨k, rfl⟩ : ∃ m, k = m + 1 := ⟨k - 1, by omega⟩
    simp only [varint_Put.l0]
    by_cases h : v < 128
    · rw [if_neg (by omega), if_pos (by omega), enc_lt h]
      rw [show (v : Int) % 256 = v by omega]
    · rw [if_pos (by omega), if_pos (by omega), or128 _ (by omega)]
      rw [show (v : Int) / 128 = ((v / 128 : Nat) : Int) by omega, ih (v / 128) (by rw [Nat.pow_succ] at hv; omega) k _ (by omega) (by simp; omega), enc_ge h]
      simp
/-- Put: with ten rounds. -/
theorem put_tells (v : Int) (h0 : 0 ≤ v) (h1 : v < 18446744073709551616) (k : Nat) (hk : 10 ≤ k) : varint_Put.f k v = some (enc v.toNat) := by
  unfold varint_Put.f
  have := put_l0_few 9 v.toNat (by omega) k [] (by omega) (by simp)
  rw [Int.toNat_of_nonneg h0] at this
  simpa using this

theorem xor0u (x : Int) (h0 : 0 ≤ x) (h1 : x < 18446744073709551616) : Go.bits .xor .u64 x 0 = x := by
  obtain ⟨a, rfl⟩ := Int.eq_ofNat_of_zero_le h0
  show IntKind.u64.wrap ((BitVec.ofInt 64 ((a : Nat) : Int) ^^^ BitVec.ofInt 64 0).toNat : Int) = _
  rw [show BitVec.ofInt 64 0 = 0#64 from rfl, BitVec.xor_zero, BitVec.ofInt_natCast, BitVec.toNat_ofNat, wrapu_eq]
  omega
theorem xor1u (x : Int) (h0 : 0 ≤ x) (h1 : x < 18446744073709551616) : Go.bits .xor .u64 x 18446744073709551615 = 18446744073709551615 - x := by
  obtain ⟨a, rfl⟩ := Int.eq_ofNat_of_zero_le h0
  show IntKind.u64.wrap ((BitVec.ofInt 64 ((a : Nat) : Int) ^^^ BitVec.ofInt 64 18446744073709551615).toNat : Int) = _
  rw [show BitVec.ofInt 64 18446744073709551615 = BitVec.allOnes 64 from by decide, BitVec.xor_allOnes, BitVec.ofInt_natCast, BitVec.toNat_not, BitVec.toNat_ofNat, wrapu_eq]
  omega
theorem xor0i (x : Int) (h0 : 0 ≤ x) (h1 : x < 9223372036854775808) : Go.bits .xor .i64 x 0 = x := by
  obtain ⟨a, rfl⟩ := Int.eq_ofNat_of_zero_le h0
  show IntKind.i64.wrap ((BitVec.ofInt 64 ((a : Nat) : Int) ^^^ BitVec.ofInt 64 0).toNat : Int) = _
  rw [show BitVec.ofInt 64 0 = 0#64 from rfl, BitVec.xor_zero, BitVec.ofInt_natCast, BitVec.toNat_ofNat, IntKind.wrap_i64]
  omega
theorem xor1i (x : Int) (h0 : 0 ≤ x) (h1 : x < 9223372036854775808) : Go.bits .xor .i64 x (-1) = -1 - x := by
  obtain ⟨a, rfl⟩ := Int.eq_ofNat_of_zero_le h0
  show IntKind.i64.wrap ((BitVec.ofInt 64 ((a : Nat) : Int) ^^^ BitVec.ofInt 64 (-1)).toNat : Int) = _
  rw [show BitVec.ofInt 64 (-1) = BitVec.allOnes 64 from by decide, BitVec.xor_allOnes, BitVec.ofInt_natCast, BitVec.toNat_not, BitVec.toNat_ofNat, IntKind.wrap_i64]
  omega
/-- zigzag, and back -/
def zig (i : Int) : Int := if 0 ≤ i then 2 * i else -2 * i - 1
def zag (v : Int) : Int := if v % 2 = 0 then v / 2 else -1 - v / 2
theorem zig_tells (i : Int) (h0 : -9223372036854775808 ≤ i) (h1 : i < 9223372036854775808) : varint_Zig.f i = some (zig i) := by
  unfold varint_Zig.f zig
  congr 1
  by_cases h : 0 ≤ i
  · rw [if_pos h, show i / 9223372036854775808 = 0 by omega, wrapu i h (by omega), wrapu (i * 2) (by omega) (by omega), wrapu 0 (by omega) (by omega), xor0u _ (by omega) (by omega)]
    omega
  · rw [if_neg h, show i / 9223372036854775808 = -1 by omega, show IntKind.u64.wrap (IntKind.u64.wrap i * 2) = 2 * i + 18446744073709551616 by rw [wrapu_eq, wrapu_eq]; omega, show IntKind.u64.wrap (-1) = 18446744073709551615 by rw [wrapu_eq]; omega, xor1u _ (by omega) (by omega)]
    omega
theorem zag_tells (v : Int) (h0 : 0 ≤ v) (h1 : v < 18446744073709551616) : varint_Zag.f v = some (zag v) := by
  unfold varint_Zag.f zag
  congr 1
  rw [and1 v h0 h1, wrapi (v / 2) (by omega) (by omega)]
  by_cases h : v % 2 = 0
  · rw [if_pos h, h, show wrap64 (-(wrap64 0)) = 0 by unfold wrap64; omega, xor0i _ (by omega) (by omega)]
  · rw [if_neg h, show v % 2 = 1 by omega, show wrap64 (-(wrap64 1)) = -1 by unfold wrap64; omega, xor1i _ (by omega) (by omega)]
theorem zig_range (i : Int) (h0 : -9223372036854775808 ≤ i) (h1 : i < 9223372036854775808) : 0 ≤ zig i ∧ zig i < 18446744073709551616 := by unfold zig; split <;> omega
theorem zag_range (v : Int) (h0 : 0 ≤ v) (h1 : v < 18446744073709551616) : -9223372036854775808 ≤ zag v ∧ zag v < 9223372036854775808 := by unfold zag; split <;> omega
theorem zag_zig (i : Int) : zag (zig i) = i := by unfold zag zig; split <;> split <;> omega
theorem zig_zag (v : Int) (h0 : 0 ≤ v) : zig (zag v) = v := by unfold zag zig; split <;> split <;> omega

/-! ### Get -/
/-- what Get tells of bytes that begin at x1: 's' -/
def tell (x1 : Int) (s : List Int) : Int × Int × Int := if (spec s).2.2 = 0 then ((spec s).1, x1 + (spec s).2.1, 0) else (0, 0, (spec s).2.2)
theorem get_l0 (d : Nat) : ∀ (k n : Nat) (x1 : Int) (s : List Int), s.length = n + d → 2 * d < k → n ≤ cnt s → n ≤ 9 → (∀ c ∈ s, 0 ≤ c ∧ c ≤ 255) → s.length ≤ 140737488355328 → 0 ≤ x1 → x1 ≤ 140737488355328 →
    varint_Get.l0 k x1 (val n s) n false s (s.length : Int) n = some (tell x1 s) := by
  induction d with
  | zero =>
    intro k n x1 s hd hk hn h9 hb hl hx hx'
    obtain ⟨k, rfl⟩ : ∃ m, k = m + 1 := ⟨k - 1, by omega⟩
    simp only [varint_Get.l0]
    rw [if_neg (by omega), if_neg (by decide)]
    have hc := cnt_le s
    have : spec s = (0, 0, 10) := by
      unfold spec
      rw [if_neg (by rintro ⟨_, h, _⟩; omega), if_pos (by omega)]
    unfold tell
    rw [this]; rfl
  | succ d ih =>
    intro k n x1 s hd hk hn h9 hb hl hx hx'
    obtain ⟨k, rfl⟩ : ∃ m, k = m + 2 := ⟨k - 2, by omega⟩
    have hlt : n < s.length := by omega
    have hrd : rd s n = s.getD n 0 := by unfold rd; simp
    have hmem : s.getD n 0 ∈ s := by rw [List.getD_eq_getElem?_getD, List.getElem?_eq_getElem hlt]; simp
    have hby := hb _ hmem
    have hv0 := val_nonneg n s
    have hv1 := val_lt n s
    simp only [varint_Get.l0]
    rw [if_pos (by omega), if_pos (by omega), if_pos (by omega), hrd]
    generalize hc : s.getD n 0 = c at *
    have hp : (1 : Int) ≤ 128 ^ n := Int.pow_pos (by decide)
    have hp9 : (128 : Int) ^ n ≤ 9223372036854775808 := by
      rcases (show n = 0 ∨ n = 1 ∨ n = 2 ∨ n = 3 ∨ n = 4 ∨ n = 5 ∨ n = 6 ∨ n = 7 ∨ n = 8 ∨ n = 9 by omega) with h | h | h | h | h | h | h | h | h | h <;> subst h <;> decide
    -- the round's second half
    have step : ¬ (n = 9 ∧ c > 1) → varint_Get.j2 (k + 1) x1 (val n s) n false c s (s.length : Int) n false = some (tell x1 s) := by
      intro hno
      simp only [varint_Get.j2]
      rw [if_neg (by decide), wrapi (7 * (n : Int)) (by omega) (by omega), if_pos (by omega), wrapi ((n : Int) + 1) (by omega) (by omega), and127 c (by omega) (by omega), wrapu (c % 128) (by omega) (by omega)]
      have hd128 : (2 : Int) ^ (7 * n) = 128 ^ n := by rw [Int.pow_mul]; rfl
      have hshl : shl .u64 (c % 128) (7 * (n : Int)) = 128 ^ n * (c % 128) := by
        unfold shl
        rw [show min (7 * (n : Int)).toNat IntKind.u64.bits = 7 * n from by simp [IntKind.bits]; omega, hd128, Int.mul_comm]
        have h1 : 0 ≤ 128 ^ n * (c % 128) := Int.mul_nonneg (by omega) (by omega)
        have h2 : 128 ^ n * (c % 128) < 18446744073709551616 := by
          by_cases h9' : n = 9
          · subst h9'
            rw [show (128 : Int) ^ 9 = 9223372036854775808 by decide]
            omega
          · have h8 : (128 : Int) ^ n ≤ 72057594037927936 := by
              rcases (show n = 0 ∨ n = 1 ∨ n = 2 ∨ n = 3 ∨ n = 4 ∨ n = 5 ∨ n = 6 ∨ n = 7 ∨ n = 8 by omega) with h | h | h | h | h | h | h | h | h <;> subst h <;> decide
            have : 128 ^ n * (c % 128) ≤ 72057594037927936 * 127 := Int.mul_le_mul h8 (by omega) (by omega) (by omega)
            omega
        exact wrapu _ h1 h2
      have hsn := val_snoc n s hlt
      rw [hc] at hsn
      have hor : Go.bits .or .u64 (val n s) (shl .u64 (c % 128) (7 * (n : Int))) = val (n + 1) s := by
        rw [hshl, hsn]
        have h1 : 0 ≤ 128 ^ n * (c % 128) := Int.mul_nonneg (by omega) (by omega)
        refine or_low _ _ (7 * n) (by omega) hv0 (by rw [hd128]; exact hv1) h1 (by rw [hd128]; exact Int.mul_emod_right _ _) ?_
        have : shl .u64 (c % 128) (7 * (n : Int)) < 18446744073709551616 := by unfold shl; rw [wrapu_eq]; omega
        rw [hshl] at this
        simpa using this
      rw [hor]
      by_cases hlow : c < 128
      · rw [if_pos hlow]
        have hcn : cnt s = n := cnt_eq s n hlt (by omega) hn
        have h3 : ¬ (9 ≤ cnt s ∧ 9 < s.length ∧ s.getD 9 0 > 1) := by
          rintro ⟨h1, h2, h3⟩
          obtain rfl : n = 9 := by omega
          rw [hc] at h3
          exact hno ⟨rfl, h3⟩
        by_cases hz : c = 0
        · rw [if_pos hz]
          by_cases hn1 : (n : Int) + 1 > 1
          · rw [if_pos hn1]
            have : spec s = (0, 0, 3) := by
              unfold spec
              rw [if_neg h3, if_neg (by omega), if_pos ⟨by omega, by rw [hcn, hc, hz]⟩]
            unfold tell; rw [this]; rfl
          · rw [if_neg hn1]
            have : spec s = (val (n + 1) s, (n : Int) + 1, 0) := by
              unfold spec
              rw [if_neg h3, if_neg (by omega), if_neg (by omega), hcn]
            unfold tell; rw [this, wrapi _ (by omega) (by omega)]; rfl
        · rw [if_neg hz]
          have : spec s = (val (n + 1) s, (n : Int) + 1, 0) := by
            unfold spec
            rw [if_neg h3, if_neg (by omega), if_neg (by rw [hcn, hc]; rintro ⟨_, h⟩; exact hz h), hcn]
          unfold tell; rw [this, wrapi _ (by omega) (by omega)]; rfl
      · rw [if_neg hlow]
        have hcn : n + 1 ≤ cnt s := by
          rcases Nat.lt_or_ge n (cnt s) with h | h
          · omega
          · have h1 : cnt s = n := by omega
            have := cnt_end s (by omega)
            rw [h1, hc] at this
            omega
        have := ih k (n + 1) x1 s (by omega) (by omega) hcn (by omega) hb hl hx hx'
        simpa using this
    by_cases h9' : (n : Int) = 9
    · rw [if_pos h9']
      by_cases h1 : c > 1
      · rw [show decide (c > 1) = true from decide_eq_true h1]
        simp only [varint_Get.j2]
        rw [if_pos trivial]
        obtain rfl : n = 9 := by omega
        have : spec s = (0, 0, 3) := by
          unfold spec
          rw [if_pos ⟨hn, hlt, by rw [hc]; exact h1⟩]
        unfold tell; rw [this]; rfl
      · rw [show decide (c > 1) = false from decide_eq_false h1]
        exact step (by rintro ⟨_, h⟩; exact h1 h)
    · rw [if_neg h9']
      exact step (by rintro ⟨h, _⟩; omega)
/-- Get, of bytes. -/
theorem get_tells (b : List Int) (at_ : Int) (hb : ∀ c ∈ b, 0 ≤ c ∧ c ≤ 255) (hl : b.length ≤ 140737488355328) (k : Nat) (hk : 2 * b.length + 3 ≤ k) : varint_Get.f k b at_ = some (specAt b at_) := by
  obtain ⟨k, rfl⟩ : ∃ m, k = m + 1 := ⟨k - 1, by omega⟩
  unfold varint_Get.f specAt
  by_cases h0 : at_ < 0
  · rw [if_pos h0, if_pos (Or.inl h0)]; simp only [varint_Get.j0, if_true]
  · rw [if_neg h0]
    by_cases h1 : at_ > (b.length : Int)
    · rw [if_pos (Or.inr h1), show decide (at_ > (b.length : Int)) = true from decide_eq_true h1]; simp only [varint_Get.j0, if_true]
    · rw [if_neg (by omega), show decide (at_ > (b.length : Int)) = false from decide_eq_false h1]
      simp only [varint_Get.j0]
      rw [if_neg (by decide), if_pos (by omega), if_pos (by omega)]
      simp only [Option.bind_some]
      have hd : (b.drop at_.toNat).length = 0 + (b.length - at_.toNat) := by simp
      have := get_l0 (b.length - at_.toNat) k 0 at_ (b.drop at_.toNat) hd (by omega) (by omega) (by omega) (fun c hc => hb c (List.mem_of_mem_drop hc)) (by omega) (by omega) (by omega)
      simp only [val] at this
      exact this
end Go.Proofs.Ytefpnnljflcmbaa.VFuns
