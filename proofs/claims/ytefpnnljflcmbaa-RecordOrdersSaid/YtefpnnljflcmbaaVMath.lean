/- Numbers' digits in base 128, least first: their bytes, and what bytes say: plain, without the program. -/
import Derived.Test.YtefpnnljflcmbaaURe0
import Derived.Laws.BitsLemmas
namespace Go.Proofs.Ytefpnnljflcmbaa.VMath
set_option linter.unusedVariables false
set_option linter.unusedSimpArgs false
open Go.RowKit Go.Proofs.YtefpnnljflcmbaaW.PrintWords Go.Proofs.YtefpnnljflcmbaaW.PrintLast Go.Proofs.YtefpnnljflcmbaaW.PrintMore

/-! ### wraps and bits -/
theorem wrapu (x : Int) (h0 : 0 ≤ x) (h1 : x < 18446744073709551616) : IntKind.u64.wrap x = x := by
  simp [IntKind.wrap, IntKind.bits, IntKind.signed]; omega
theorem wrapu_eq (x : Int) : IntKind.u64.wrap x = x % 18446744073709551616 := by
  simp [IntKind.wrap, IntKind.bits, IntKind.signed]
theorem wrapi (x : Int) (h0 : -9223372036854775808 ≤ x) (h1 : x < 9223372036854775808) : wrap64 x = x := by
  unfold wrap64; omega
theorem u64k (n : Int) (h0 : 0 ≤ n) (h1 : n < 2 ^ 64) : IntKind.u64.wrap n = n := wrapu n h0 (by simpa using h1)
theorem or_low (x y : Int) (i : Nat) (hi : i ≤ 64) (hx0 : 0 ≤ x) (hx : x < 2 ^ i) (hy0 : 0 ≤ y) (hy : y % 2 ^ i = 0) (hy1 : y < 2 ^ 64) : Go.bits .or .u64 x y = x + y := by
  obtain ⟨a, rfl⟩ := Int.eq_ofNat_of_zero_le hx0
  obtain ⟨b, rfl⟩ := Int.eq_ofNat_of_zero_le hy0
  have ha' : a < 2 ^ i := by exact_mod_cast hx
  have ha : a < 2 ^ 64 := Nat.lt_of_lt_of_le ha' (Nat.pow_le_pow_right (by decide) hi)
  have hb : b < 2 ^ 64 := by exact_mod_cast hy1
  have hd : b % 2 ^ i = 0 := by exact_mod_cast hy
  have hq : b = 2 ^ i * (b / 2 ^ i) := by
    have := Nat.div_add_mod b (2 ^ i)
    omega
  rw [(bits_nat .u64 64 (by decide) u64k a b ha hb).2]
  rw [hq, Nat.or_comm, ← Nat.two_pow_add_eq_or_of_lt ha' (b / 2 ^ i)]
  simp [Int.add_comm]
theorem or128 (x : Int) (h0 : 0 ≤ x) : Go.bits .or .u8 (x % 256) 128 = x % 128 + 128 := by
  obtain ⟨a, rfl⟩ := Int.eq_ofNat_of_zero_le h0
  have h1 : a % 256 < 256 := Nat.mod_lt _ (by decide)
  have hh : Go.bits .or .u8 ((a % 256 : Nat) : Int) ((128 : Nat) : Int) = (((a % 256) ||| 128 : Nat) : Int) := (bits_nat .u8 8 (by decide) wraps_u8 (a % 256) 128 h1 (by decide)).2
  have h3 : ∀ m, m < 256 → m ||| 128 = m % 128 + 128 := by decide +kernel
  have h4 : a % 256 % 128 = a % 128 := by omega
  rw [h3 _ h1, h4] at hh
  simpa using hh
theorem and127 (x : Int) (h0 : 0 ≤ x) (h1 : x < 256) : Go.bits .and .u8 x 127 = x % 128 := bits_mask .u8 8 (by decide) wraps_u8 7 (by decide) x h0 h1
theorem and1 (x : Int) (h0 : 0 ≤ x) (h1 : x < 18446744073709551616) : Go.bits .and .u64 x 1 = x % 2 := bits_mask .u64 64 (by decide) u64k 1 (by decide) x h0 h1

/-! ### a number's bytes -/
def enc (v : Nat) : List Int := if v < 128 then [(v : Int)] else (((v % 128 : Nat) : Int) + 128) :: enc (v / 128)
  termination_by v
  decreasing_by omega
theorem enc_lt {v : Nat} (h : v < 128) : enc v = [(v : Int)] := by rw [enc, if_pos h]
theorem enc_ge {v : Nat} (h : ¬ v < 128) : enc v = (((v % 128 : Nat) : Int) + 128) :: enc (v / 128) := by rw [enc, if_neg h]
theorem enc_len (d : Nat) : ∀ v, v < 128 ^ (d + 1) → 1 ≤ (enc v).length ∧ (enc v).length ≤ d + 1 := by
  induction d with
  | zero => intro v h; rw [enc_lt (by omega)]; simp
  | succ d ih =>
    intro v h
    by_cases hv : v < 128
    · rw [enc_lt hv]; simp
    · rw [enc_ge hv]
      have := ih (v / 128) (by rw [Nat.pow_succ] at h; omega)
      simp; omega
theorem enc_pos (v : Nat) : 1 ≤ (enc v).length := by
  by_cases hv : v < 128
  · rw [enc_lt hv]; simp
  · rw [enc_ge hv]; simp
theorem enc_ten {v : Nat} (h : v < 18446744073709551616) : 1 ≤ (enc v).length ∧ (enc v).length ≤ 10 := enc_len 9 v (by omega)
theorem enc_mono (n : Nat) : ∀ a b, b < n → a ≤ b → (enc a).length ≤ (enc b).length := by
  induction n with
  | zero => intro a b h; omega
  | succ n ih =>
    intro a b hb hab
    by_cases ha : a < 128
    · rw [enc_lt ha]; exact enc_pos b
    · rw [enc_ge ha, enc_ge (show ¬ b < 128 by omega)]
      have := ih (a / 128) (b / 128) (by omega) (by omega)
      simp; omega
theorem enc_byte (n : Nat) : ∀ v, v < n → ∀ c ∈ enc v, 0 ≤ c ∧ c ≤ 255 := by
  induction n with
  | zero => intro v h; omega
  | succ n ih =>
    intro v hv c hc
    by_cases h : v < 128
    · rw [enc_lt h] at hc; simp at hc; omega
    · rw [enc_ge h] at hc
      rcases List.mem_cons.1 hc with rfl | hc
      · omega
      · exact ih (v / 128) (by omega) c hc

/-! ### what bytes say -/
def cnt : List Int → Nat
  | [] => 0
  | c :: s => if c > 127 then cnt s + 1 else 0
def val : Nat → List Int → Int
  | 0, _ => 0
  | _, [] => 0
  | n + 1, c :: s => c % 128 + 128 * val n s
def spec (s : List Int) : Int × Int × Int :=
  if 9 ≤ cnt s ∧ 9 < s.length ∧ s.getD 9 0 > 1 then (0, 0, 3)
  else if s.length ≤ cnt s then (0, 0, 10)
  else if 0 < cnt s ∧ s.getD (cnt s) 0 = 0 then (0, 0, 3)
  else (val (cnt s + 1) s, (cnt s : Int) + 1, 0)
def specAt (b : List Int) (at_ : Int) : Int × Int × Int :=
  if at_ < 0 ∨ at_ > b.length then (0, 0, 1)
  else if (spec (b.drop at_.toNat)).2.2 = 0 then ((spec (b.drop at_.toNat)).1, at_ + (spec (b.drop at_.toNat)).2.1, 0)
  else (0, 0, (spec (b.drop at_.toNat)).2.2)

theorem val_nonneg : ∀ n s, 0 ≤ val n s := by
  intro n
  induction n with
  | zero => intro s; simp [val]
  | succ n ih =>
    intro s
    cases s with
    | nil => simp [val]
    | cons c s => simp only [val]; have := ih s; omega
theorem val_lt : ∀ n s, val n s < 128 ^ n := by
  intro n
  induction n with
  | zero => intro s; simp [val]
  | succ n ih =>
    intro s
    have hp : (0 : Int) < 128 ^ n := Int.pow_pos (by decide)
    cases s with
    | nil => simp only [val]; rw [Int.pow_succ]; omega
    | cons c s => simp only [val]; have := ih s; rw [Int.pow_succ]; omega
theorem val_snoc : ∀ n (s : List Int), n < s.length → val (n + 1) s = val n s + 128 ^ n * (s.getD n 0 % 128) := by
  intro n
  induction n with
  | zero =>
    intro s h
    cases s with
    | nil => simp at h
    | cons c s => simp [val]
  | succ n ih =>
    intro s h
    cases s with
    | nil => simp at h
    | cons c s =>
      have := ih s (by simpa using h)
      have e : (c :: s).getD (n + 1) 0 = s.getD n 0 := by simp
      rw [show val (n + 1 + 1) (c :: s) = c % 128 + 128 * val (n + 1) s from rfl, this, e, Int.pow_succ, show val (n + 1) (c :: s) = c % 128 + 128 * val n s from rfl, Int.mul_add, ← Int.mul_assoc, Int.mul_comm 128 (128 ^ n), Int.add_assoc]
theorem val_drop : ∀ (i n : Nat) (s : List Int), i < s.length → val (n + 1) (s.drop i) = s.getD i 0 % 128 + 128 * val n (s.drop (i + 1)) := by
  intro i n s h
  rw [List.drop_eq_getElem_cons h]
  simp [val, List.getD_eq_getElem?_getD, List.getElem?_eq_getElem h]
theorem cnt_le (s : List Int) : cnt s ≤ s.length := by
  induction s with
  | nil => simp [cnt]
  | cons c s ih => simp only [cnt]; split <;> simp <;> omega
theorem cnt_at (s : List Int) : ∀ i, i < cnt s → s.getD i 0 > 127 := by
  induction s with
  | nil => intro i h; simp [cnt] at h
  | cons c s ih =>
    intro i h
    simp only [cnt] at h
    split at h
    · cases i with
      | zero => simpa
      | succ i => simpa using ih i (by omega)
    · omega
theorem cnt_end (s : List Int) (h : cnt s < s.length) : s.getD (cnt s) 0 ≤ 127 := by
  induction s with
  | nil => simp at h
  | cons c s ih =>
    simp only [cnt] at h ⊢
    split
    · rename_i hc
      rw [if_pos hc] at h
      simpa using ih (by simpa using h)
    · simp; omega
theorem cnt_ge (s : List Int) : ∀ i, i ≤ s.length → (∀ j, j < i → s.getD j 0 > 127) → i ≤ cnt s := by
  induction s with
  | nil => intro i h _; simp at h; omega
  | cons c s ih =>
    intro i h hj
    cases i with
    | zero => omega
    | succ i =>
      have h0 := hj 0 (by omega)
      simp at h0
      simp only [cnt]
      rw [if_pos h0]
      have := ih i (by simpa using h) (fun j hj' => by simpa using hj (j + 1) (by omega))
      omega
theorem cnt_eq (s : List Int) (n : Nat) (h : n < s.length) (hc : s.getD n 0 ≤ 127) (hn : n ≤ cnt s) : cnt s = n := by
  rcases Nat.lt_or_ge n (cnt s) with h1 | h1
  · have := cnt_at s n h1; omega
  · omega

/-! ### there and back -/
theorem cnt_enc (n : Nat) : ∀ v, v < n → ∀ t, cnt (enc v ++ t) + 1 = (enc v).length := by
  induction n with
  | zero => intro v h; omega
  | succ n ih =>
    intro v hv t
    by_cases h : v < 128
    · rw [enc_lt h]; simp [cnt]; omega
    · rw [enc_ge h]
      have := ih (v / 128) (by omega) t
      simp only [List.cons_append, cnt]
      rw [if_pos (by omega)]
      simp; omega
theorem val_enc (n : Nat) : ∀ v, v < n → ∀ t, val (enc v).length (enc v ++ t) = v := by
  induction n with
  | zero => intro v h; omega
  | succ n ih =>
    intro v hv t
    by_cases h : v < 128
    · rw [enc_lt h]; simp [val]; omega
    · rw [enc_ge h]
      have := ih (v / 128) (by omega) t
      simp only [List.cons_append, List.length_cons, val, this]
      omega
theorem last_enc (n : Nat) : ∀ v, v < n → ∀ t, 1 < (enc v).length → (enc v ++ t).getD ((enc v).length - 1) 0 ≠ 0 := by
  induction n with
  | zero => intro v h; omega
  | succ n ih =>
    intro v hv t hl
    by_cases h : v < 128
    · rw [enc_lt h] at hl; simp at hl
    · rw [enc_ge h]
      by_cases h2 : v / 128 < 128
      · rw [enc_lt h2]; simp; omega
      · have h3 := ih (v / 128) (by omega) t (by rw [enc_ge h2]; have := enc_pos (v / 128 / 128); simp; omega)
        have h4 := enc_pos (v / 128)
        obtain ⟨m, hm⟩ : ∃ m, (enc (v / 128)).length = m + 1 := ⟨(enc (v / 128)).length - 1, by omega⟩
        rw [hm] at h3
        simpa [hm] using h3
theorem nine_enc (v : Nat) (hv : v < 18446744073709551616) (t : List Int) (h : (enc v).length = 10) : (enc v ++ t).getD 9 0 ≤ 1 := by
  have h1 : val 10 (enc v ++ t) = v := by rw [← h]; exact val_enc (v + 1) v (by omega) t
  have hc := cnt_enc (v + 1) v (by omega) t
  have hl : 9 < (enc v ++ t).length := by simp; omega
  rw [val_snoc 9 _ hl] at h1
  have h2 := val_nonneg 9 (enc v ++ t)
  have h3 : (enc v ++ t).getD 9 0 ≤ 127 := by
    have := cnt_end (enc v ++ t) (by omega)
    rwa [show cnt (enc v ++ t) = 9 by omega] at this
  have h4 : 0 ≤ (enc v ++ t).getD 9 0 := by
    have hm : (enc v ++ t).getD 9 0 ∈ enc v := by
      rw [List.getD_eq_getElem?_getD, List.getElem?_append_left (by omega), List.getElem?_eq_getElem (by omega)]
      simp
    exact (enc_byte (v + 1) v (by omega) _ hm).1
  have h5 : (enc v ++ t).getD 9 0 % 128 = (enc v ++ t).getD 9 0 := by omega
  rw [h5, show (128 : Int) ^ 9 = 9223372036854775808 by decide] at h1
  omega
theorem spec_enc (v : Nat) (hv : v < 18446744073709551616) (t : List Int) : spec (enc v ++ t) = ((v : Int), ((enc v).length : Int), 0) := by
  have hc := cnt_enc (v + 1) v (by omega) t
  have hl := enc_ten hv
  unfold spec
  rw [if_neg, if_neg, if_neg]
  · rw [hc, val_enc (v + 1) v (by omega) t]
    simp; omega
  · rintro ⟨h1, h2⟩
    have := last_enc (v + 1) v (by omega) t (by omega)
    rw [show (enc v).length - 1 = cnt (enc v ++ t) by omega] at this
    exact this h2
  · simp; omega
  · rintro ⟨h1, _, h3⟩
    have := nine_enc v hv t (by omega)
    omega
/-- bytes that are a number's are its very bytes -/
theorem enc_val (n : Nat) : ∀ s : List Int, cnt s = n → n < s.length → (∀ c ∈ s, 0 ≤ c ∧ c ≤ 255) → (0 < n → s.getD n 0 ≠ 0) → enc (val (n + 1) s).toNat = s.take (n + 1) := by
  induction n with
  | zero =>
    intro s hc hl hb _
    cases s with
    | nil => simp at hl
    | cons c s =>
      have h0 := hb c (by simp)
      have h1 : c ≤ 127 := by
        have := cnt_end (c :: s) (by simp [hc])
        simpa [hc] using this
      have : val (0 + 1) (c :: s) = c := by simp [val]; omega
      rw [this, enc_lt (by omega)]
      simp; omega
  | succ n ih =>
    intro s hc hl hb hz
    cases s with
    | nil => simp at hl
    | cons c s =>
      have h0 := hb c (by simp)
      have hgt : c > 127 := by have := cnt_at (c :: s) 0 (by omega); simpa using this
      have hc' : cnt s = n := by simp only [cnt] at hc; rw [if_pos hgt] at hc; omega
      have hl' : n < s.length := by simpa using hl
      have hz' : s.getD n 0 ≠ 0 := by simpa using hz (by omega)
      have h2 := ih s hc' hl' (fun x hx => hb x (by simp [hx])) (fun _ => hz')
      have hv : val (n + 1 + 1) (c :: s) = c % 128 + 128 * val (n + 1) s := rfl
      have hpos : 1 ≤ val (n + 1) s := by
        rw [val_snoc n s hl']
        have h3 := val_nonneg n s
        have h4 : s.getD n 0 ≤ 127 := by have := cnt_end s (by omega); rwa [hc'] at this
        have h5 : 0 ≤ s.getD n 0 := by
          have hm : s.getD n 0 ∈ s := by rw [List.getD_eq_getElem?_getD, List.getElem?_eq_getElem hl']; simp
          exact (hb _ (List.mem_cons_of_mem _ hm)).1
        have h6 : s.getD n 0 % 128 = s.getD n 0 := by omega
        rw [h6]
        have h7 : (0 : Int) < 128 ^ n := Int.pow_pos (by decide)
        have h8 : (1 : Int) * 1 ≤ 128 ^ n * s.getD n 0 := Int.mul_le_mul (by omega) (by omega) (by omega) (by omega)
        omega
      have hn := val_nonneg (n + 1) s
      rw [hv, enc_ge (by omega)]
      rw [show (c % 128 + 128 * val (n + 1) s).toNat / 128 = (val (n + 1) s).toNat by omega, h2]
      simp; omega
theorem str_toList (xs : List Int) : (strOfNums xs).toList = xs.map fun n => UInt8.ofNat n.toNat := by rw [ByteArray.toList_eq]; rfl
theorem val_room (n j : Nat) (s : List Int) (hn : n < s.length) (h9 : n ≤ 8 ∨ n = 9 ∧ s.getD 9 0 ≤ 1) (hb : ∀ c ∈ s, 0 ≤ c ∧ c ≤ 255) (hj : j ≤ n + 1) : val (n + 1 - j) (s.drop j) < 18446744073709551616 := by
  have hp : ∀ m : Nat, m ≤ 9 → (128 : Int) ^ m ≤ 9223372036854775808 := by
    intro m hm
    rcases (show m = 0 ∨ m = 1 ∨ m = 2 ∨ m = 3 ∨ m = 4 ∨ m = 5 ∨ m = 6 ∨ m = 7 ∨ m = 8 ∨ m = 9 by omega) with h | h | h | h | h | h | h | h | h | h <;> subst h <;> decide
  by_cases hm : n + 1 - j ≤ 9
  · have := val_lt (n + 1 - j) (s.drop j)
    have := hp _ hm
    omega
  · obtain ⟨rfl, h1⟩ : n = 9 ∧ s.getD 9 0 ≤ 1 := by rcases h9 with h | h <;> omega
    obtain rfl : j = 0 := by omega
    have h2 := val_snoc 9 s hn
    have h3 := val_lt 9 s
    rw [show (128 : Int) ^ 9 = 9223372036854775808 by decide] at h2 h3
    simp only [List.drop_zero, Nat.sub_zero]
    have h4 : s.getD 9 0 % 128 ≤ 1 := by
      have hm : s.getD 9 0 ∈ s := by rw [List.getD_eq_getElem?_getD, List.getElem?_eq_getElem hn]; simp
      have := hb _ hm
      omega
    rw [h2]
    have h5 : 9223372036854775808 * (s.getD 9 0 % 128) ≤ 9223372036854775808 * 1 := Int.mul_le_mul_of_nonneg_left h4 (by decide)
    omega
theorem spec_range (s : List Int) (hb : ∀ c ∈ s, 0 ≤ c ∧ c ≤ 255) : 0 ≤ (spec s).1 ∧ (spec s).1 < 18446744073709551616 ∧ 0 ≤ (spec s).2.1 ∧ (spec s).2.1 ≤ s.length := by
  unfold spec
  by_cases h1 : 9 ≤ cnt s ∧ 9 < s.length ∧ s.getD 9 0 > 1
  · rw [if_pos h1]; simp
  rw [if_neg h1]
  by_cases h2 : s.length ≤ cnt s
  · rw [if_pos h2]; simp
  rw [if_neg h2]
  by_cases h3 : 0 < cnt s ∧ s.getD (cnt s) 0 = 0
  · rw [if_pos h3]; simp
  rw [if_neg h3]
  have h10 : cnt s < 10 := by
    rcases Nat.lt_or_ge (cnt s) 10 with h | h
    · omega
    · exact absurd ⟨by omega, by omega, by have := cnt_at s 9 (by omega); omega⟩ h1
  have h9 : cnt s ≤ 8 ∨ cnt s = 9 ∧ s.getD 9 0 ≤ 1 := by
    rcases Nat.lt_or_ge (cnt s) 9 with h | h
    · exact Or.inl (by omega)
    · have hc : cnt s = 9 := by omega
      refine Or.inr ⟨hc, ?_⟩
      rcases Int.lt_or_le 1 (s.getD 9 0) with h3 | h3
      · exact absurd ⟨by omega, by omega, h3⟩ h1
      · exact h3
  have := val_room (cnt s) 0 s (by omega) h9 hb (by omega)
  exact ⟨val_nonneg _ _, by simpa using this, by simp; omega, by simp; omega⟩
theorem specAt_range (b : List Int) (at_ : Int) (hb : ∀ c ∈ b, 0 ≤ c ∧ c ≤ 255) : 0 ≤ (specAt b at_).1 ∧ (specAt b at_).1 < 18446744073709551616 := by
  unfold specAt
  by_cases h : at_ < 0 ∨ at_ > b.length
  · rw [if_pos h]; simp
  rw [if_neg h]
  have := spec_range (b.drop at_.toNat) (fun c hc => hb c (List.mem_of_mem_drop hc))
  split
  · exact ⟨this.1, this.2.1⟩
  · simp
theorem specAt_next (b : List Int) (at_ : Int) (hb : ∀ c ∈ b, 0 ≤ c ∧ c ≤ 255) : 0 ≤ (specAt b at_).2.1 ∧ (specAt b at_).2.1 ≤ b.length := by
  unfold specAt
  by_cases h : at_ < 0 ∨ at_ > b.length
  · rw [if_pos h]; simp
  rw [if_neg h]
  have := spec_range (b.drop at_.toNat) (fun c hc => hb c (List.mem_of_mem_drop hc))
  simp only [List.length_drop] at this
  split
  · constructor
    · show 0 ≤ at_ + _; omega
    · show at_ + _ ≤ _; omega
  · simp
theorem specAt_zero (b : List Int) (at_ : Int) (h : (specAt b at_).2.2 ≠ 0) : specAt b at_ = (0, 0, (specAt b at_).2.2) := by
  unfold specAt at h ⊢
  split
  · rfl
  · rename_i h1
    rw [if_neg h1] at h
    split
    · rename_i h2
      rw [if_pos h2] at h; exact absurd rfl h
    · rfl
theorem wf_u64 {x : Int} (h : (Lit.int .u64 x).wf = true) : 0 ≤ x ∧ x < 18446744073709551616 := by
  simp [Lit.wf, IntKind.min, IntKind.max, IntKind.signed, IntKind.bits] at h; omega
theorem wf_i64 {x : Int} (h : (Lit.int .i64 x).wf = true) : -9223372036854775808 ≤ x ∧ x < 9223372036854775808 := by
  simp [Lit.wf, IntKind.min, IntKind.max, IntKind.signed, IntKind.bits] at h; omega
theorem wf_u8 {x : Int} (h : (Lit.int .u8 x).wf = true) : 0 ≤ x ∧ x ≤ 255 := by
  simp [Lit.wf, IntKind.min, IntKind.max, IntKind.signed, IntKind.bits] at h; omega
end Go.Proofs.Ytefpnnljflcmbaa.VMath
