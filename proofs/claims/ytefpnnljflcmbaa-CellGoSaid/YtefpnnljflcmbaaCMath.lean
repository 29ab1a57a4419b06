/- Values' plain law: which may be, sums within their type, truths, the order of texts: without the program. -/
import Derived.Test.YtefpnnljflcmbaaUCe0
import Derived.Lib.Bytealg
namespace Go.Proofs.Ytefpnnljflcmbaa.CMath
set_option linter.unusedVariables false
set_option linter.unusedSimpArgs false
open Go.RowKit Go.Proofs.YtefpnnljflcmbaaW.PrintWords Go.Proofs.YtefpnnljflcmbaaW.PrintLast Go.Proofs.YtefpnnljflcmbaaW.PrintMore

theorem wrapu (x : Int) (h0 : 0 ≤ x) (h1 : x < 18446744073709551616) : IntKind.u64.wrap x = x := by
  simp [IntKind.wrap, IntKind.bits, IntKind.signed]; omega
theorem wrapu_eq (x : Int) : IntKind.u64.wrap x = x % 18446744073709551616 := by
  simp [IntKind.wrap, IntKind.bits, IntKind.signed]
theorem wrapi (x : Int) (h0 : -9223372036854775808 ≤ x) (h1 : x < 9223372036854775808) : wrap64 x = x := by
  unfold wrap64; omega
theorem wf_i64 {x : Int} (h : (Lit.int .i64 x).wf = true) : -9223372036854775808 ≤ x ∧ x < 9223372036854775808 := by
  simp [Lit.wf, IntKind.min, IntKind.max, IntKind.signed, IntKind.bits] at h; omega
theorem wf_u8 {x : Int} (h : (Lit.int .u8 x).wf = true) : 0 ≤ x ∧ x ≤ 255 := by
  simp [Lit.wf, IntKind.min, IntKind.max, IntKind.signed, IntKind.bits] at h; omega
def e0 : ByteArray := ⟨#[]⟩
theorem tl (s : ByteArray) : s.toList = s.data.toList := ByteArray.toList_eq s
theorem tl_len (s : ByteArray) : s.toList.length = s.size := by rw [tl, Array.length_toList]; rfl
theorem tl_nil (s : ByteArray) : (s.toList = []) ↔ s.size = 0 := by rw [← List.length_eq_zero_iff, tl_len]
theorem tl_e0 : (⟨#[]⟩ : ByteArray).toList = [] := by rw [tl]
theorem tl_inj {a b : ByteArray} (h : a.toList = b.toList) : a = b := by
  rw [tl, tl] at h
  cases a; cases b
  simp only at h
  congr 1
  exact Array.toList_inj.1 h
theorem size0 (s : ByteArray) (h : s.size = 0) : s = e0 := tl_inj (by rw [(tl_nil s).2 h, e0, tl_e0])

/-- Which values may be. -/
def rgt (k i : Int) (s : ByteArray) : Bool := decide ((k = 0 ∧ i = 0 ∧ s.size = 0) ∨ (k = 1 ∧ s.size = 0) ∨ ((k = 2 ∨ k = 3) ∧ i = 0))
/-- What two operands are: whether one is nothing; an error. -/
def numz (k i : Int) (s : ByteArray) (l j : Int) (t : ByteArray) : Bool × Int :=
  if rgt k i s = true then (if rgt l j t = true then (if k > 1 ∨ l > 1 then (false, 20) else (decide (k = 0 ∨ l = 0), 0)) else (false, 3)) else (false, 3)
def val (v : Int) : Int × Int × ByteArray × Int := (1, v, ⟨#[]⟩, 0)
def err (e : Int) : Int × Int × ByteArray × Int := (0, 0, ⟨#[]⟩, e)
def fits (x : Int) : Int × Int × ByteArray × Int := if -9223372036854775808 ≤ x ∧ x < 9223372036854775808 then val x else err 21
/-- An operation of two operands. -/
def op2 (q : Bool × Int) (r : Int × Int × ByteArray × Int) : Int × Int × ByteArray × Int := if q.2 = 0 then (if q.1 = true then err 0 else r) else err q.2
theorem numz_err (k i : Int) (s : ByteArray) (l j : Int) (t : ByteArray) : (numz k i s l j t).2 = 0 ∨ (numz k i s l j t).1 = false := by
  unfold numz; (repeat' split) <;> simp

/-! ### products -/
theorem tdiv_back (x y : Int) (h : y ≠ 0) : Int.tdiv (x * y) y = x := Int.mul_tdiv_cancel x h
theorem abs_le_of_dvd {d m : Int} (hm : m ≠ 0) (h : d ∣ m) (hd : 0 < d) : d ≤ m ∨ d ≤ -m := by
  obtain ⟨c, rfl⟩ := h
  rcases Int.lt_trichotomy c 0 with hc | hc | hc
  · right
    have : d * 1 ≤ d * (-c) := Int.mul_le_mul_of_nonneg_left (by omega) (by omega)
    rw [Int.mul_neg] at this; omega
  · subst hc; simp at hm
  · left
    have : d * 1 ≤ d * c := Int.mul_le_mul_of_nonneg_left (by omega) (by omega)
    omega
theorem tmod_lt (p y : Int) (hy : y ≠ 0) : (0 < y → -y < Int.tmod p y ∧ Int.tmod p y < y) ∧ (y < 0 → y < Int.tmod p y ∧ Int.tmod p y < -y) := by
  constructor
  · intro h
    have h1 := Int.tmod_lt_of_pos p h
    have h2 := Int.tmod_lt_of_pos (-p) h
    rw [Int.neg_tmod] at h2
    omega
  · intro h
    have h1 := Int.tmod_lt_of_pos p (show 0 < -y by omega)
    have h2 := Int.tmod_lt_of_pos (-p) (show 0 < -y by omega)
    rw [Int.neg_tmod] at h2
    rw [Int.tmod_neg] at h1 h2
    omega
/-- A product that leaves its type is seen by dividing. -/
theorem mul_seen (x y : Int) (hx : -9223372036854775808 ≤ x ∧ x < 9223372036854775808) (hy : -9223372036854775808 ≤ y ∧ y < 9223372036854775808) (hy0 : y ≠ 0) (hm : ¬ (y = -1 ∧ x = -9223372036854775808)) (hm' : ¬ (x = -1 ∧ y = -9223372036854775808)) (h : ¬ (-9223372036854775808 ≤ x * y ∧ x * y < 9223372036854775808)) :
    wrap64 (Int.tdiv (wrap64 (x * y)) y) ≠ x := by
  intro hc
  have hy1 : y ≠ -1 := by rintro rfl; omega
  have hp : -9223372036854775808 ≤ wrap64 (x * y) ∧ wrap64 (x * y) < 9223372036854775808 := by unfold wrap64; omega
  have hdv : (18446744073709551616 : Int) ∣ (x * y - wrap64 (x * y)) := by unfold wrap64; omega
  have hne : x * y - wrap64 (x * y) ≠ 0 := by omega
  generalize hq : wrap64 (x * y) = p at *
  have hid := Int.tmod_add_mul_tdiv p y
  have hr := tmod_lt p y hy0
  -- the quotient is within its type
  have hqb : -9223372036854775808 ≤ Int.tdiv p y ∧ Int.tdiv p y < 9223372036854775808 := by
    have hn : (Int.tdiv p y).natAbs = p.natAbs / y.natAbs := Int.natAbs_tdiv p y
    have hle : p.natAbs / y.natAbs ≤ p.natAbs := Nat.div_le_self _ _
    by_cases h2 : y = 1
    · subst h2; rw [Int.tdiv_one]; exact hp
    · have : p.natAbs / y.natAbs ≤ p.natAbs / 2 := Nat.div_le_div_left (by omega) (by omega)
      omega
  rw [wrapi _ hqb.1 hqb.2] at hc
  rw [hc, Int.mul_comm y x] at hid
  have h1 := abs_le_of_dvd hne hdv (by decide)
  rcases Int.lt_or_lt_of_ne hy0 with hn | hn
  · have := hr.2 hn; omega
  · have := hr.1 hn; omega
theorem tdiv_range (x y : Int) (hx : -9223372036854775808 ≤ x ∧ x < 9223372036854775808) (hy0 : y ≠ 0) (hy1 : y ≠ -1) : -9223372036854775808 ≤ Int.tdiv x y ∧ Int.tdiv x y < 9223372036854775808 := by
  have hn : (Int.tdiv x y).natAbs = x.natAbs / y.natAbs := Int.natAbs_tdiv x y
  by_cases h2 : y = 1
  · subst h2; rw [Int.tdiv_one]; exact hx
  · have : x.natAbs / y.natAbs ≤ x.natAbs / 2 := Nat.div_le_div_left (by omega) (by omega)
    omega
theorem tmod_range (x y : Int) (hx : -9223372036854775808 ≤ x ∧ x < 9223372036854775808) : -9223372036854775808 ≤ Int.tmod x y ∧ Int.tmod x y < 9223372036854775808 := by
  have hn : (Int.tmod x y).natAbs = x.natAbs % y.natAbs := Int.natAbs_tmod x y
  have h1 : x.natAbs % y.natAbs ≤ x.natAbs := Nat.mod_le _ _
  by_cases h : Int.tmod x y < 9223372036854775808
  · omega
  · have h3 : x.natAbs ≤ 9223372036854775808 := by omega
    have h4 : x = -9223372036854775808 := by omega
    subst h4
    have h5 : Int.tmod (-9223372036854775808) y = -Int.tmod 9223372036854775808 y := by rw [← Int.neg_tmod]
    have h6 : 0 ≤ Int.tmod 9223372036854775808 y := Int.tmod_nonneg _ (by decide)
    omega

/-! ### the order of texts -/
def cmpB (a b : ByteArray) : Int := Lib.compareBytes a.data.toList b.data.toList
def sgn (x : Int) : Prop := x = -1 ∨ x = 0 ∨ x = 1
open Lib in
theorem cb_sgn : ∀ a b : List UInt8, sgn (compareBytes a b) := by
  intro a
  induction a with
  | nil => intro b; cases b <;> simp [compareBytes, sgn]
  | cons x a ih =>
    intro b
    cases b with
    | nil => simp [compareBytes, sgn]
    | cons y b =>
      simp only [compareBytes]
      split
      · exact Or.inl rfl
      · split
        · exact Or.inr (Or.inr rfl)
        · exact ih b
open Lib in
theorem cb_neg : ∀ a b : List UInt8, compareBytes b a = -compareBytes a b := by
  intro a
  induction a with
  | nil => intro b; cases b <;> simp [compareBytes]
  | cons x a ih =>
    intro b
    cases b with
    | nil => simp [compareBytes]
    | cons y b =>
      simp only [compareBytes, UInt8.lt_iff_toNat_lt]
      by_cases h1 : x.toNat < y.toNat
      · rw [if_pos h1, if_neg (by omega), if_pos h1]; rfl
      · by_cases h2 : y.toNat < x.toNat
        · rw [if_pos h2, if_neg h1, if_pos h2]
        · rw [if_neg h2, if_neg h1, if_neg h1, if_neg h2]; exact ih b
open Lib in
theorem cb_zero : ∀ a b : List UInt8, compareBytes a b = 0 ↔ a = b := by
  intro a
  induction a with
  | nil => intro b; cases b <;> simp [compareBytes]
  | cons x a ih =>
    intro b
    cases b with
    | nil => simp [compareBytes]
    | cons y b =>
      simp only [compareBytes, UInt8.lt_iff_toNat_lt]
      by_cases h1 : x.toNat < y.toNat
      · rw [if_pos h1]
        constructor
        · intro h; cases h
        · intro h; injection h with h _; subst h; omega
      · by_cases h2 : y.toNat < x.toNat
        · rw [if_neg h1, if_pos h2]
          constructor
          · intro h; cases h
          · intro h; injection h with h _; subst h; omega
        · have : x = y := UInt8.toNat_inj.1 (by omega)
          subst this
          rw [if_neg h1, if_neg h2, ih b]; simp
open Lib in
theorem cb_less : ∀ a b : List UInt8, Op.bytesLess a b = true ↔ compareBytes a b = -1 := by
  intro a
  induction a with
  | nil => intro b; cases b <;> simp [compareBytes, Op.bytesLess]
  | cons x a ih =>
    intro b
    cases b with
    | nil => simp [compareBytes, Op.bytesLess]
    | cons y b =>
      simp only [compareBytes, Op.bytesLess, Bool.or_eq_true, Bool.and_eq_true, decide_eq_true_eq, beq_iff_eq]
      by_cases h1 : x < y
      · simp [h1]
      · by_cases h2 : y < x
        · have h3 : x ≠ y := by rintro rfl; exact h1 h2
          simp [h1, h2, h3]
        · have h3 : x = y := by
            rw [UInt8.lt_iff_toNat_lt] at h1 h2
            exact UInt8.toNat_inj.1 (by omega)
          subst h3
          simp [h1, ih b]
open Lib in
/-- 'not greater' goes on. -/
theorem cb_trans : ∀ a b c : List UInt8, compareBytes a b ≤ 0 → compareBytes b c ≤ 0 → compareBytes a c ≤ 0 ∧ ((compareBytes a b < 0 ∨ compareBytes b c < 0) → compareBytes a c < 0) := by
  intro a
  induction a with
  | nil =>
    intro b c h1 h2
    cases c with
    | nil =>
      cases b with
      | nil => simp [compareBytes]
      | cons y b => simp [compareBytes] at h2
    | cons z c => simp [compareBytes]
  | cons x a ih =>
    intro b c h1 h2
    cases b with
    | nil => simp [compareBytes] at h1
    | cons y b =>
      cases c with
      | nil => simp [compareBytes] at h2
      | cons z c =>
        simp only [compareBytes, UInt8.lt_iff_toNat_lt] at h1 h2 ⊢
        by_cases g1 : x.toNat < y.toNat
        · rw [if_pos g1] at h1 ⊢
          by_cases g2 : y.toNat < z.toNat
          · rw [if_pos (by omega)]; simp
          · by_cases g3 : z.toNat < y.toNat
            · rw [if_neg g2, if_pos g3] at h2; omega
            · rw [if_pos (by omega)]; simp
        · by_cases g1' : y.toNat < x.toNat
          · rw [if_neg g1, if_pos g1'] at h1; omega
          · rw [if_neg g1, if_neg g1'] at h1 ⊢
            by_cases g2 : y.toNat < z.toNat
            · rw [if_pos (by omega)]; simp
            · by_cases g3 : z.toNat < y.toNat
              · rw [if_neg g2, if_pos g3] at h2; omega
              · rw [if_neg g2, if_neg g3] at h2 ⊢
                rw [if_neg (by omega), if_neg (by omega)]
                exact ih b c h1 h2
/-- the order of values of which both may be -/
def ord (k i : Int) (s : ByteArray) (l j : Int) (t : ByteArray) : Int :=
  if rgt k i s = true then (if rgt l j t = true then (if k = l then (if k = 1 then (if i < j then -1 else if i > j then 1 else 0) else cmpB s t) else (if k < l then -1 else 1)) else 0) else 0
end Go.Proofs.Ytefpnnljflcmbaa.CMath
