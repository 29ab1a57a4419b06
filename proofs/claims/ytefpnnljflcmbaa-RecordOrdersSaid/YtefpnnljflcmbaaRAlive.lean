/- The fixed calls of the statements on rows tell true; what is too great is left out; rows are compared; orders. -/
import Derived.Test.YtefpnnljflcmbaaRRefs
import Derived.Test.YtefpnnljflcmbaaPRex2
import Derived.Test.YtefpnnljflcmbaaPRex13
import Derived.Test.YtefpnnljflcmbaaPRex24
import Derived.Test.YtefpnnljflcmbaaPRex21
import Derived.Test.YtefpnnljflcmbaaPRexo
namespace Go.Proofs.Ytefpnnljflcmbaa.RAlive
set_option linter.unusedVariables false
set_option linter.unusedSimpArgs false
open Go.RowKit Go.Proofs.Ytefpnnljflcmbaa.PRe Go.Proofs.Ytefpnnljflcmbaa.VFuns Go.Proofs.Ytefpnnljflcmbaa.VRefs Go.Proofs.Ytefpnnljflcmbaa.VText Go.Proofs.Ytefpnnljflcmbaa.RSpec Go.Proofs.Ytefpnnljflcmbaa.RFuns Go.Proofs.Ytefpnnljflcmbaa.RRefs Go.Proofs.Ytefpnnljflcmbaa.CRight Go.Proofs.YtefpnnljflcmbaaW.PrintWords Go.Proofs.YtefpnnljflcmbaaW.PrintLast Go.Proofs.YtefpnnljflcmbaaW.PrintMore
open Go.Proofs.Ytefpnnljflcmbaa.VMath (enc enc_len enc_pos enc_ten enc_byte enc_lt spec specAt spec_enc specAt_range specAt_next wrapi wrapu wf_i64 wf_u8 cnt val val_snoc val_nonneg cnt_end)
open Go.Proofs.Ytefpnnljflcmbaa.CMath (rgt ord tl tl_inj tl_nil tl_len)
theorem alive_tells (k : Nat) (hk : 300 ≤ k) : hindsightlaw03_alive.f k = some true := by
  unfold hindsightlaw03_alive.f
  have b1 : ∀ c ∈ ([2, 0, 2, 1, 97] : List Int), 0 ≤ c ∧ c ≤ 255 := by decide
  have b2 : ∀ c ∈ ([1, 4] : List Int), 0 ≤ c ∧ c ≤ 255 := by decide
  have v1 : ∀ v ∈ ([(⟨1, 1, (⟨#[]⟩ : ByteArray)⟩ : S35)] : List S35), vok v := by
    intro v hv
    rw [List.mem_singleton.1 hv]
    unfold vok
    decide
  rw [write_tells _ (by simp) v1 k (by simp; omega), Option.bind_some, read_tells _ b1 k (by simp; omega) (by simp), Option.bind_some, read_tells _ b2 k (by simp; omega) (by simp), Option.bind_some]
  have w1 : wr [(⟨1, 1, (⟨#[]⟩ : ByteArray)⟩ : S35)] = ([1, 1, 2], 0) := by
    have hr : ([(⟨1, 1, (⟨#[]⟩ : ByteArray)⟩ : S35)] : List S35).all rv = true := by decide
    unfold wr
    rw [if_neg (by rw [hr]; simp)]
    have hz : (zig (1 : Int)).toNat = 2 := by decide
    have hbd : bodies [(⟨1, 1, (⟨#[]⟩ : ByteArray)⟩ : S35)] = [1, 2] := by
      unfold bodies body
      simp only [if_true, hz, bodies]
      rw [enc_lt (by decide)]; rfl
    rw [hbd]; rfl
  have w2 : rdr [2, 0, 2, 1, 97] = ([(⟨0, 0, (⟨#[]⟩ : ByteArray)⟩ : S35), ⟨2, 0, strOfNums [97]⟩], 0) := by
    have s0 : specAt [2, 0, 2, 1, 97] 0 = (2, 1, 0) := by decide
    have s3 : specAt [2, 0, 2, 1, 97] 3 = (1, 4, 0) := by decide
    have t3 : textAt [2, 0, 2, 1, 97] 3 = (strOfNums [97], 5, 0) := by unfold textAt; rw [s3]; rfl
    have a1 : valAt [2, 0, 2, 1, 97] 1 = (0, 0, ⟨#[]⟩, 2, 0) := by unfold valAt; rfl
    have a2 : valAt [2, 0, 2, 1, 97] 2 = (2, 0, strOfNums [97], 5, 0) := by
      unfold valAt
      rw [show ((2 : Int) + 1) = 3 from rfl, t3]
      rfl
    have hv : vals 2 [2, 0, 2, 1, 97] 1 = some [(⟨0, 0, (⟨#[]⟩ : ByteArray)⟩ : S35), ⟨2, 0, strOfNums [97]⟩] := by
      rw [vals, a1]; simp only [if_true]; rw [vals, a2]; simp [vals]
    have hr : ([(⟨0, 0, (⟨#[]⟩ : ByteArray)⟩ : S35), ⟨2, 0, strOfNums [97]⟩] : List S35).all rv = true := by decide
    have hs : (strOfNums [97]).size = 1 := by decide
    have hb : bytesOf (strOfNums [97]) = [97] := by decide
    have hw : wr [(⟨0, 0, (⟨#[]⟩ : ByteArray)⟩ : S35), ⟨2, 0, strOfNums [97]⟩] = ([2, 0, 2, 1, 97], 0) := by
      unfold wr
      rw [if_neg (by rw [hr]; simp)]
      have hbd : bodies [(⟨0, 0, (⟨#[]⟩ : ByteArray)⟩ : S35), ⟨2, 0, strOfNums [97]⟩] = [0, 2, 1, 97] := by
        have he : enc 1 = [(1 : Int)] := enc_lt (by decide)
        simp [bodies, body, hs, hb, he]
      rw [hbd]; rfl
    unfold rdr
    rw [s0]
    simp only [List.length_cons, List.length_nil]
    rw [if_neg (by decide), if_pos (by decide), show ((2 : Int)).toNat = 2 from rfl, hv]
    simp only
    unfold back same
    rw [hw]
    simp
  have w3 : rdr [1, 4] = ([], 3) := by
    have s0 : specAt [1, 4] 0 = (1, 1, 0) := by decide
    have a1 : valAt [1, 4] 1 = (4, 0, ⟨#[]⟩, 2, 0) := by unfold valAt; rfl
    have hv : vals 1 [1, 4] 1 = some [(⟨4, 0, (⟨#[]⟩ : ByteArray)⟩ : S35)] := by rw [vals, a1]; simp [vals]
    unfold rdr
    rw [s0]
    simp only [List.length_cons, List.length_nil]
    rw [if_neg (by decide), if_pos (by decide), show ((1 : Int)).toNat = 1 from rfl, hv]
    simp only
    exact back_wrong _ _ ⟨4, 0, ⟨#[]⟩⟩ (by simp) (by decide)
  rw [w1, w2, w3]
  have ht : (strOfNums [1, 1, 2]).toList = ([1, 1, 2] : List UInt8) := by rw [tl]; rfl
  have hu : (strOfNums [97]).toList = ([97] : List UInt8) := by rw [tl]; rfl
  have hd : rd_T35 [(⟨0, 0, (⟨#[]⟩ : ByteArray)⟩ : S35), ⟨2, 0, strOfNums [97]⟩] 1 = ⟨2, 0, strOfNums [97]⟩ := rfl
  simp only [hd, ht, hu]
  simp
theorem great_l0 (l : List S35) (hl : l.length ≤ 9223372036854775807) (hs : ∀ v ∈ l, v.f2.size ≤ 140737488351232) (d : Nat) : ∀ (k n : Nat) (a : Int), n + d = l.length → 2 * d + 2 ≤ k → 0 ≤ a → a ≤ 30000 →
    ∃ g, hindsightlaw03_Great.l0 k l a (n : Int) = some g ∧ (g = false → (n < l.length → l.length ≤ 40) ∧ ∀ v ∈ l.drop n, v.f2.size ≤ 9000) := by
  induction d with
  | zero =>
    intro k n a hn hk h0 h1
    obtain ⟨k, rfl⟩ : ∃ m, k = m + 1 := ⟨k - 1, by omega⟩
    rw [hindsightlaw03_Great.l0, if_neg (by omega), List.drop_eq_nil_of_le (by omega)]
    exact ⟨_, rfl, fun _ => ⟨fun h => by omega, by simp⟩⟩
  | succ d ih =>
    intro k n a hn hk h0 h1
    obtain ⟨k, rfl⟩ : ∃ m, k = m + 2 := ⟨k - 2, by omega⟩
    have hm := hs _ (rd_mem l n (by omega))
    rw [hindsightlaw03_Great.l0, if_pos (by omega)]
    by_cases c1 : (l.length : Int) > 40
    · rw [if_pos c1, hindsightlaw03_Great.j1, if_pos rfl]
      exact ⟨_, rfl, fun h => by cases h⟩
    rw [if_neg c1, if_pos (by omega), hindsightlaw03_Great.j1]
    by_cases c2 : ((rd_T35 l n).f2.size : Int) > 9000
    · rw [if_pos (by simpa using c2)]
      exact ⟨_, rfl, fun h => by cases h⟩
    rw [if_neg (by simpa using c2), if_pos (by omega), if_pos (by omega), wrapi (a + _) (by omega) (by omega)]
    by_cases c3 : a + ((rd_T35 l n).f2.size : Int) > 30000
    · rw [if_pos c3]
      exact ⟨_, rfl, fun h => by cases h⟩
    rw [if_neg c3, next_at n (by omega)]
    obtain ⟨g, h2, h3⟩ := ih k (n + 1) (a + ((rd_T35 l n).f2.size : Int)) (by omega) (by omega) (by omega) (by omega)
    refine ⟨g, h2, fun hg => ⟨fun _ => by omega, ?_⟩⟩
    rw [drop_at l n (by omega)]
    intro v hv
    rcases List.mem_cons.1 hv with rfl | hv
    · omega
    · exact (h3 hg).2 v hv
/-- a row that isn't too great lies within bounds -/
theorem great_tells (l : List S35) (hl : l.length ≤ 9223372036854775807 ∧ l.length * 32 ≤ 140737488351232 ∧ ∀ y_ ∈ l, good35 y_) (k : Nat) (hk : 2 * l.length + 2 ≤ k) :
    ∃ g, hindsightlaw03_Great.f k l = some g ∧ (g = false → l.length ≤ 40 ∧ ∀ v ∈ l, vok v) := by
  obtain ⟨g, h1, h2⟩ := great_l0 l hl.1 (fun v hv => (hl.2.2 v hv).2.2) l.length k 0 0 (by omega) hk (by omega) (by omega)
  refine ⟨g, h1, fun hg => ?_⟩
  obtain ⟨h3, h4⟩ := h2 hg
  rw [List.drop_zero] at h4
  refine ⟨by omega, fun v hv => ?_⟩
  have q := hl.2.2 v hv
  have q1 := wf_u8 q.1
  have q2 := wf_i64 q.2.1
  have q3 := h4 v hv
  exact ⟨q1.1, q1.2, q2.1, q2.2, by omega⟩
/-! ### rows that are equal -/
def eqv (v w : S35) : Bool := v.f0 == w.f0 && (v.f1 == w.f1 && v.f2.toList == w.f2.toList)
def sameL : List S35 → List S35 → Bool
  | [], [] => true
  | v :: l, w :: m => eqv v w && sameL l m
  | _, _ => false
theorem eqv_iff (v w : S35) : eqv v w = true ↔ v = w := by
  obtain ⟨a, b, c⟩ := v
  obtain ⟨a', b', c'⟩ := w
  unfold eqv
  simp only [Bool.and_eq_true, beq_iff_eq, S35.mk.injEq]
  constructor
  · rintro ⟨h1, h2, h3⟩; exact ⟨h1, h2, tl_inj h3⟩
  · rintro ⟨h1, h2, h3⟩; exact ⟨h1, h2, by rw [h3]⟩
theorem sameL_iff : ∀ l m : List S35, sameL l m = true ↔ l = m
  | [], [] => by simp [sameL]
  | [], _ :: _ => by simp [sameL]
  | _ :: _, [] => by simp [sameL]
  | v :: l, w :: m => by simp [sameL, eqv_iff, sameL_iff l m]
theorem sameL_len : ∀ l m : List S35, l.length ≠ m.length → sameL l m = false := by
  intro l m h
  rw [Bool.eq_false_iff]
  intro h2
  rw [(sameL_iff l m).1 h2] at h
  exact h rfl
theorem neqv (v w : S35) : (!(v.f0 == w.f0) || (!(v.f1 == w.f1) || (!(v.f2.toList == w.f2.toList)))) = !eqv v w := by
  unfold eqv; simp only [Bool.not_and]
theorem same_l0 (l m : List S35) (hlm : l.length = m.length) (hl : l.length ≤ 9223372036854775807) (d : Nat) : ∀ (k n : Nat), n + d = l.length → d < k → api_Value_70.l0 k l m (l.length : Int) (n : Int) = some (sameL (l.drop n) (m.drop n)) := by
  induction d with
  | zero =>
    intro k n hn hk
    obtain ⟨k, rfl⟩ : ∃ m, k = m + 1 := ⟨k - 1, by omega⟩
    rw [api_Value_70.l0, if_neg (by omega), List.drop_eq_nil_of_le (by omega), List.drop_eq_nil_of_le (by omega)]; rfl
  | succ d ih =>
    intro k n hn hk
    obtain ⟨k, rfl⟩ : ∃ m, k = m + 1 := ⟨k - 1, by omega⟩
    rw [api_Value_70.l0, if_pos (by omega), if_pos (by omega), if_pos (by omega), if_pos (by omega), neqv, drop_at l n (by omega), drop_at m n (by omega), sameL]
    cases h : eqv (rd_T35 l n) (rd_T35 m n)
    · simp
    · simp only [Bool.not_true, Bool.false_eq_true, if_false, Bool.true_and]
      rw [next_at n (by omega), ih k (n + 1) (by omega) (by omega)]
theorem same_tells (l m : List S35) (hl : l.length ≤ 9223372036854775807) (k : Nat) (hk : l.length + 1 ≤ k) : record_Same.f k l m = some (sameL l m) := by
  unfold record_Same.f api_Value_70.f
  by_cases h : (l.length : Int) = m.length
  · have := same_l0 l m (by omega) hl l.length k 0 (by omega) (by omega)
    rw [show ((0 : Nat) : Int) = 0 from rfl] at this
    rw [if_pos h, this]; simp
  · rw [if_neg h, sameL_len l m (by omega)]; rfl
theorem rsame_l0 (l m : List S35) (hlm : l.length = m.length) (hl : l.length ≤ 9223372036854775807) (d : Nat) : ∀ (k n : Nat), n + d = l.length → d < k → hindsightref03_Same.l0 k l m (n : Int) = some (sameL (l.drop n) (m.drop n)) := by
  induction d with
  | zero =>
    intro k n hn hk
    obtain ⟨k, rfl⟩ : ∃ m, k = m + 1 := ⟨k - 1, by omega⟩
    rw [hindsightref03_Same.l0, if_neg (by omega), List.drop_eq_nil_of_le (by omega), List.drop_eq_nil_of_le (by omega)]; rfl
  | succ d ih =>
    intro k n hn hk
    obtain ⟨k, rfl⟩ : ∃ m, k = m + 1 := ⟨k - 1, by omega⟩
    rw [hindsightref03_Same.l0, if_pos (by omega), if_pos (by omega), if_pos (by omega), neqv, drop_at l n (by omega), drop_at m n (by omega), sameL]
    cases h : eqv (rd_T35 l n) (rd_T35 m n)
    · simp
    · simp only [Bool.not_true, Bool.false_eq_true, if_false, Bool.true_and]
      rw [next_at n (by omega), ih k (n + 1) (by omega) (by omega)]
theorem rsame_tells (l m : List S35) (hl : l.length ≤ 9223372036854775807) (k : Nat) (hk : l.length + 1 ≤ k) : hindsightref03_Same.f k l m = some (sameL l m) := by
  unfold hindsightref03_Same.f
  by_cases h : (l.length : Int) = m.length
  · have := rsame_l0 l m (by omega) hl l.length k 0 (by omega) (by omega)
    rw [show ((0 : Nat) : Int) = 0 from rfl] at this
    rw [if_pos h, this]; simp
  · rw [if_neg h, sameL_len l m (by omega)]
/-- what is read lies within bounds -/
theorem rdr_ok (b : List Int) (hb : ∀ c ∈ b, 0 ≤ c ∧ c ≤ 255) : (rdr b).1.length ≤ 16 ∧ (∀ v ∈ (rdr b).1, vok v) ∧ ((rdr b).2 = 0 → wr (rdr b).1 = ((wr (rdr b).1).1, 0) ∧ same (wr (rdr b).1).1 b = true) := by
  have hr := specAt_range b 0 hb
  have hn := specAt_next b 0 hb
  unfold rdr
  by_cases hl : 8192 < b.length
  · rw [if_pos hl]; simp
  rw [if_neg hl]
  by_cases h : (specAt b 0).2.2 = 0 ∧ (specAt b 0).1 ≤ 16
  · rw [if_pos h]
    cases hv : vals (specAt b 0).1.toNat b (specAt b 0).2.1 with
    | none => simp
    | some l =>
      have hk := vals_ok b hb (by omega) _ _ hn.1 hn.2 l hv
      simp only
      unfold back
      by_cases g : (wr l).2 = 0 ∧ same (wr l).1 b = true
      · rw [if_pos g]
        exact ⟨by simp only; omega, hk.2, fun _ => ⟨by simp only; rw [← g.1], g.2⟩⟩
      · rw [if_neg g]; simp
  · rw [if_neg h]; simp
end Go.Proofs.Ytefpnnljflcmbaa.RAlive
