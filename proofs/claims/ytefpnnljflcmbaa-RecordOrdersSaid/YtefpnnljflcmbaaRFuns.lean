/- What the printed functions of record come to. -/
import Derived.Test.YtefpnnljflcmbaaRSpec
import Derived.Test.YtefpnnljflcmbaaCRight
import Derived.Test.YtefpnnljflcmbaaPRex7
import Derived.Test.YtefpnnljflcmbaaPRex12
import Derived.Test.YtefpnnljflcmbaaPRex22
import Derived.Test.YtefpnnljflcmbaaPRex24
namespace Go.Proofs.Ytefpnnljflcmbaa.RFuns
set_option linter.unusedVariables false
set_option linter.unusedSimpArgs false
open Go.RowKit Go.Proofs.Ytefpnnljflcmbaa.PRe Go.Proofs.Ytefpnnljflcmbaa.VFuns Go.Proofs.Ytefpnnljflcmbaa.VText Go.Proofs.Ytefpnnljflcmbaa.RSpec Go.Proofs.Ytefpnnljflcmbaa.CRight Go.Proofs.YtefpnnljflcmbaaW.PrintWords Go.Proofs.YtefpnnljflcmbaaW.PrintLast Go.Proofs.YtefpnnljflcmbaaW.PrintMore
open Go.Proofs.Ytefpnnljflcmbaa.VMath (enc enc_len enc_pos enc_ten enc_byte enc_lt spec specAt spec_enc specAt_range specAt_next wrapi wrapu wf_i64 wf_u8)
open Go.Proofs.Ytefpnnljflcmbaa.CMath (rgt ord tl tl_inj tl_nil tl_len)
theorem next_at (n : Nat) (h : n < 9223372036854775807) : wrap64 ((n : Int) + 1) = ((n + 1 : Nat) : Int) := by rw [wrapi _ (by omega) (by omega)]; rfl
theorem idx_l0 (l : List S35) (hl : l.length ≤ 9223372036854775807) (d : Nat) : ∀ (k n : Nat), n + d = l.length → d < k →
    ∃ r, api_Value_83.l0 k l (l.length : Int) (n : Int) = some r ∧ (decide (r ≥ 0) = (l.drop n).any (fun v => !rv v)) := by
  induction d with
  | zero =>
    intro k n hn hk
    obtain ⟨k, rfl⟩ : ∃ m, k = m + 1 := ⟨k - 1, by omega⟩
    refine ⟨-1, ?_, ?_⟩
    · rw [api_Value_83.l0, if_neg (by omega)]
    · rw [List.drop_eq_nil_of_le (by omega)]; rfl
  | succ d ih =>
    intro k n hn hk
    obtain ⟨k, rfl⟩ : ∃ m, k = m + 1 := ⟨k - 1, by omega⟩
    rw [api_Value_83.l0, if_pos (by omega), if_pos (by omega), if_pos (by omega)]
    unfold record_Write_1.f
    rw [right_tells, drop_at l n (by omega)]
    simp only [Option.bind_some, List.any_cons]
    cases h : rgt (rd_T35 l n).f0 (rd_T35 l n).f1 (rd_T35 l n).f2
    · refine ⟨n, by simp, ?_⟩
      simp [rv, h]
    · obtain ⟨r, h1, h2⟩ := ih k (n + 1) (by omega) (by omega)
      refine ⟨r, ?_, ?_⟩
      · simp only [Bool.not_true, Bool.false_eq_true, if_false]
        rw [next_at n (by omega)]; exact h1
      · rw [h2]; simp [rv, h]
theorem any_tells (l : List S35) (hl : l.length ≤ 9223372036854775807) (k : Nat) (hk : l.length < k) (u : Unit) : api_Value_59.f k l u = some (!(l.all rv)) := by
  obtain ⟨r, h1, h2⟩ := idx_l0 l hl l.length k 0 (by omega) hk
  unfold api_Value_59.f api_Value_83.f
  have h0 : ((0 : Nat) : Int) = 0 := rfl
  rw [h0] at h1
  rw [h1, Option.bind_some, h2, List.drop_zero, List.not_all_eq_any_not]
theorem putint (i : Int) (h : -9223372036854775808 ≤ i ∧ i < 9223372036854775808) (k : Nat) (hk : 10 ≤ k) : varint_PutInt.f k i = some (enc (zig i).toNat) := by
  have hz := zig_range i h.1 h.2
  unfold varint_PutInt.f
  rw [zig_tells i h.1 h.2, Option.bind_some, put_tells _ hz.1 hz.2 k hk, Option.bind_some]
theorem write_l0 (l : List S35) (hl : l.length ≤ 16) (hv : ∀ v ∈ l, vok v) (hr : l.all rv = true) (d : Nat) : ∀ (k n : Nat) (acc : List Int), n + d = l.length → d + 10 < k → acc.length ≤ 1 + 2000011 * n →
    record_Write.l0 k acc l (l.length : Int) (n : Int) = some (fin (acc ++ bodies (l.drop n))) := by
  induction d with
  | zero =>
    intro k n acc hn hk ha
    obtain ⟨k, rfl⟩ : ∃ m, k = m + 1 := ⟨k - 1, by omega⟩
    rw [record_Write.l0, if_neg (by omega), List.drop_eq_nil_of_le (by omega), bodies, List.append_nil]
    unfold fin
    by_cases h : 8192 < acc.length
    · rw [if_pos (by omega), if_pos h]
    · rw [if_neg (by omega), if_neg h]
  | succ d ih =>
    intro k n acc hn hk ha
    obtain ⟨k, rfl⟩ : ∃ m, k = m + 1 := ⟨k - 1, by omega⟩
    have hm := rd_mem l n (by omega)
    have hvo := hv _ hm
    have hri := List.all_eq_true.1 hr _ hm
    have hb := body_len _ hvo
    rw [record_Write.l0, if_pos (by omega), if_pos (by omega), if_pos (by omega), drop_at l n (by omega), bodies]
    generalize rd_T35 l n = v at *
    by_cases h1 : (v.f2.size : Int) > 8192
    · rw [if_pos h1]
      have h2 : v.f0 = 2 ∨ v.f0 = 3 := by rcases rv_text hri with h | h | h <;> omega
      have := body_text h2
      rw [fin_long]
      simp only [List.length_append]; omega
    rw [if_neg h1, if_pos (by omega), Option.bind_some, next_at n (by omega)]
    have hl2 : (acc ++ body v).length ≤ 1 + 2000011 * (n + 1) := by rw [List.length_append]; omega
    have hz := enc_ten (zig_nat v hvo)
    have ht := enc_ten (v := v.f2.size) (by have := hvo.2.2.2.2; omega)
    have hs := hvo.2.2.2.2
    by_cases k1 : v.f0 = 1
    · have e : body v = v.f0 :: enc (zig v.f1).toNat := by unfold body; rw [if_pos k1]
      rw [if_pos k1, putint v.f1 ⟨hvo.2.2.1, hvo.2.2.2.1⟩ k (by omega), Option.bind_some, if_pos (by simp; omega)]
      rw [show acc ++ [v.f0] ++ enc (zig v.f1).toNat = acc ++ body v by rw [e]; simp]
      rw [ih k (n + 1) _ (by omega) (by omega) hl2, List.append_assoc]
    rw [if_neg k1]
    by_cases k2 : v.f0 = 2
    · have e : body v = v.f0 :: (enc v.f2.size ++ bytesOf v.f2) := by unfold body; rw [if_neg k1, if_pos k2]
      rw [if_pos k2, puttext_tells v.f2 k hs (by omega), Option.bind_some, if_pos (by simp [bytesOf_length]; omega)]
      rw [show acc ++ [v.f0] ++ (enc v.f2.size ++ bytesOf v.f2) = acc ++ body v by rw [e]; simp]
      rw [ih k (n + 1) _ (by omega) (by omega) hl2, List.append_assoc]
    rw [if_neg k2]
    by_cases k3 : v.f0 = 3
    · have e : body v = v.f0 :: (enc v.f2.size ++ bytesOf v.f2) := by unfold body; rw [if_neg k1, if_neg k2, if_pos k3]
      rw [if_pos k3, puttext_tells v.f2 k hs (by omega), Option.bind_some, if_pos (by simp [bytesOf_length]; omega)]
      rw [show acc ++ [v.f0] ++ (enc v.f2.size ++ bytesOf v.f2) = acc ++ body v by rw [e]; simp]
      rw [ih k (n + 1) _ (by omega) (by omega) hl2, List.append_assoc]
    · have e : body v = [v.f0] := by unfold body; rw [if_neg k1, if_neg k2, if_neg k3]
      rw [if_neg k3]
      rw [show acc ++ [v.f0] = acc ++ body v by rw [e]]
      rw [ih k (n + 1) _ (by omega) (by omega) hl2, List.append_assoc]
theorem write_tells (l : List S35) (hl : l.length ≤ 9223372036854775807) (hv : ∀ v ∈ l, vok v) (k : Nat) (hk : l.length + 30 ≤ k) : record_Write.f k l = some (wr l) := by
  obtain ⟨k, rfl⟩ : ∃ m, k = m + 1 := ⟨k - 1, by omega⟩
  unfold record_Write.f wr
  rw [any_tells l hl (k + 1) (by omega), Option.bind_some]
  cases hr : l.all rv
  · simp [record_Write.j0]
  · simp only [Bool.not_true, Bool.false_eq_true, if_false, false_or, record_Write.j0, decide_eq_true_eq, Bool.true_eq_false]
    by_cases h : (l.length : Int) > 16
    · rw [if_pos h, if_pos (by omega)]
    · rw [if_neg h, if_neg (by omega), wrapu _ (by omega) (by omega), put_tells _ (by omega) (by omega) k (by omega), Option.bind_some, Int.toNat_natCast, enc_lt (by omega)]
      have := write_l0 l (by omega) hv hr l.length k 0 [(l.length : Int)] (by omega) (by omega) (by simp)
      rw [show ((0 : Nat) : Int) = 0 from rfl] at this
      rw [this]; simp
theorem value_tells (b : List Int) (hb : ∀ c ∈ b, 0 ≤ c ∧ c ≤ 255) (hl : b.length ≤ 8192) (at_ : Int) (h0 : 0 ≤ at_) (h1 : at_ ≤ b.length) (k : Nat) (hk : 2 * b.length + 3 ≤ k) : record_value.f k b at_ = some (valAt b at_) := by
  unfold record_value.f valAt
  by_cases c0 : at_ ≥ (b.length : Int)
  · rw [if_pos c0, if_pos c0]
  rw [if_neg c0, if_neg c0, if_pos h0, if_pos (by omega), wrapi (at_ + 1) (by omega) (by omega)]
  by_cases c1 : rd b at_ = 1
  · rw [if_pos c1, if_pos c1]
    unfold varint_GetInt.f
    rw [get_tells b _ hb (by omega) k hk, Option.bind_some]
    have hr := specAt_range b (at_ + 1) hb
    by_cases c2 : (specAt b (at_ + 1)).2.2 = 0
    · rw [if_pos c2, if_pos c2, zag_tells _ hr.1 hr.2]; simp [c1]
    · rw [if_neg c2, if_neg c2]; simp [c1]
  rw [if_neg c1, if_neg c1]
  by_cases c2 : rd b at_ = 2
  · rw [if_pos c2, if_pos c2, get_text b _ hb (by omega) k hk]; simp [c2]
  rw [if_neg c2, if_neg c2]
  by_cases c3 : rd b at_ = 3
  · rw [if_pos c3, if_pos c3, get_text b _ hb (by omega) k hk]; simp [c3]
  rw [if_neg c3, if_neg c3]
theorem back_tells (b : List Int) (l : List S35) (hl : l.length ≤ 16) (hv : ∀ v ∈ l, vok v) (k : Nat) (hk : l.length + 30 ≤ k) :
    ((record_Write.f k l).bind fun bt192 => (if bt192.2 = 0 then ((bytes_Equal.f bt192.1 b).bind fun t196 => (if t196 = true then (some (l, (0 : Int))) else (some (([] : List (S35)), (3 : Int))))) else (some (([] : List (S35)), 3)))) = some (back b l) := by
  rw [write_tells l (by omega) hv k hk, Option.bind_some]
  unfold back bytes_Equal.f same
  by_cases h : (wr l).2 = 0
  · rw [if_pos h, Option.bind_some]
    by_cases h2 : ((strOfNums (wr l).1).toList == (strOfNums b).toList) = true
    · rw [if_pos h2, if_pos ⟨h, h2⟩]
    · rw [if_neg h2, if_neg (fun z => h2 z.2)]
  · rw [if_neg h, if_neg (fun z => h z.1)]
theorem read_l0 (b : List Int) (hb : ∀ c ∈ b, 0 ≤ c ∧ c ≤ 255) (hl : b.length ≤ 8192) (n : Nat) (hn : n ≤ 16) (d : Nat) : ∀ (k i : Nat) (acc : List S35) (at_ : Int), i + d = n → acc.length = i → (∀ v ∈ acc, vok v) → 0 ≤ at_ → at_ ≤ b.length → d + 2 * b.length + 60 ≤ k →
    record_Read.l0 k b at_ acc (n : Int) (i : Int) = some (match vals d b at_ with | none => ([], 3) | some l => back b (acc ++ l)) := by
  induction d with
  | zero =>
    intro k i acc at_ hi ha hv h0 h1 hk
    obtain ⟨k, rfl⟩ : ∃ m, k = m + 1 := ⟨k - 1, by omega⟩
    rw [record_Read.l0, if_neg (by omega), back_tells b acc (by omega) hv k (by omega)]
    simp [vals]
  | succ d ih =>
    intro k i acc at_ hi ha hv h0 h1 hk
    obtain ⟨k, rfl⟩ : ∃ m, k = m + 1 := ⟨k - 1, by omega⟩
    have ho := val_ok b at_ hb hl h0 h1
    rw [record_Read.l0, if_pos (by omega), value_tells b hb hl at_ h0 h1 k (by omega), Option.bind_some, vals]
    by_cases h : (valAt b at_).2.2.2.2 = 0
    · rw [if_pos h, if_pos h, if_pos (by omega), wrapu _ (by omega) (by omega)]
      rw [show ((i : Int) + 1) = ((i + 1 : Nat) : Int) from rfl]
      rw [ih k (i + 1) _ _ (by omega) (by simp [ha]) (by
        intro v hv2
        rcases List.mem_append.1 hv2 with h2 | h2
        · exact hv v h2
        · rw [List.mem_singleton.1 h2]; exact ho.1) ho.2.1 ho.2.2 (by omega)]
      cases vals d b (valAt b at_).2.2.2.1 <;> simp
    · rw [if_neg h, if_neg h]
theorem read_tells (b : List Int) (hb : ∀ c ∈ b, 0 ≤ c ∧ c ≤ 255) (k : Nat) (hk : 2 * b.length + 100 ≤ k) (hl0 : b.length ≤ 140737488355328) : record_Read.f k b = some (rdr b) := by
  obtain ⟨k, rfl⟩ : ∃ m, k = m + 1 := ⟨k - 1, by omega⟩
  unfold record_Read.f rdr
  by_cases hl : 8192 < b.length
  · rw [if_pos (by omega), if_pos hl]
  rw [if_neg (by omega), if_neg hl, get_tells b 0 hb (by omega) (k + 1) (by omega), Option.bind_some]
  have hr := specAt_range b 0 hb
  have hn := specAt_next b 0 hb
  by_cases h : (specAt b 0).2.2 = 0
  · rw [if_pos h]
    by_cases h2 : (specAt b 0).1 ≤ 16
    · rw [if_pos ⟨h, h2⟩, record_Read.j0, if_neg (by simp; omega)]
      have := read_l0 b hb (by omega) (specAt b 0).1.toNat (by omega) (specAt b 0).1.toNat k 0 [] (specAt b 0).2.1 (by omega) rfl (by simp) hn.1 hn.2 (by omega)
      rw [show ((0 : Nat) : Int) = 0 from rfl, Int.toNat_of_nonneg hr.1] at this
      rw [this]
      cases vals (specAt b 0).1.toNat b (specAt b 0).2.1 <;> rfl
    · rw [if_neg (fun z => h2 z.2), record_Read.j0, if_pos (by simp; omega)]
  · rw [if_neg h, if_neg (fun z => h z.1), record_Read.j0, if_pos rfl]
theorem right_row (l : List S35) (hl : l.length ≤ 9223372036854775807) (hv : ∀ v ∈ l, vok v) (k : Nat) (hk : l.length + 30 ≤ k) : record_Right.f k l = some ((wr l).2 == 0) := by
  unfold record_Right.f; rw [write_tells l hl hv k hk, Option.bind_some]
end Go.Proofs.Ytefpnnljflcmbaa.RFuns
