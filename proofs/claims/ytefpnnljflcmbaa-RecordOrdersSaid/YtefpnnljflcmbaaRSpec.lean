/- Rows of values: their bytes, their reading, their order: plain, without the program's functions. -/
import Derived.Test.YtefpnnljflcmbaaVFuns
import Derived.Test.YtefpnnljflcmbaaVText
import Derived.Test.YtefpnnljflcmbaaCMath
import Derived.Test.YtefpnnljflcmbaaPRex3
import Derived.Test.YtefpnnljflcmbaaPRex4
namespace Go.Proofs.Ytefpnnljflcmbaa.RSpec
set_option linter.unusedVariables false
set_option linter.unusedSimpArgs false
open Go.RowKit Go.Proofs.Ytefpnnljflcmbaa.PRe Go.Proofs.Ytefpnnljflcmbaa.VFuns Go.Proofs.Ytefpnnljflcmbaa.VText Go.Proofs.YtefpnnljflcmbaaW.PrintWords Go.Proofs.YtefpnnljflcmbaaW.PrintLast Go.Proofs.YtefpnnljflcmbaaW.PrintMore
open Go.Proofs.Ytefpnnljflcmbaa.VMath (enc enc_len enc_pos enc_ten enc_byte enc_lt spec specAt spec_enc specAt_range specAt_next wrapi wrapu wf_i64 wf_u8)
open Go.Proofs.Ytefpnnljflcmbaa.CMath (rgt ord tl tl_inj tl_nil tl_len)
theorem rd_at (l : List S35) (n : Nat) (h : n < l.length) : rd_T35 l n = l[n] := by
  unfold rd_T35; simp [List.getD_eq_getElem?_getD, h]
theorem drop_at (l : List S35) (n : Nat) (h : n < l.length) : l.drop n = rd_T35 l n :: l.drop (n + 1) := by
  rw [rd_at l n h]; exact List.drop_eq_getElem_cons h
theorem rd_mem (l : List S35) (n : Nat) (h : n < l.length) : rd_T35 l n ∈ l := by
  rw [rd_at l n h]; exact List.getElem_mem h
/-- may the value be? -/
def rv (v : S35) : Bool := rgt v.f0 v.f1 v.f2
/-- a value's numbers lie in their types, its text isn't too long for arithmetic -/
def vok (v : S35) : Prop := 0 ≤ v.f0 ∧ v.f0 ≤ 255 ∧ -9223372036854775808 ≤ v.f1 ∧ v.f1 < 9223372036854775808 ∧ v.f2.size ≤ 2000000
def body (v : S35) : List Int :=
  v.f0 :: (if v.f0 = 1 then enc (zig v.f1).toNat else if v.f0 = 2 then enc v.f2.size ++ bytesOf v.f2 else if v.f0 = 3 then enc v.f2.size ++ bytesOf v.f2 else [])
def bodies : List S35 → List Int
  | [] => []
  | v :: l => body v ++ bodies l
def fin (acc : List Int) : List Int × Int := if 8192 < acc.length then ([], 2) else (acc, 0)
/-- a row's bytes -/
def wr (l : List S35) : List Int × Int := if l.all rv = false ∨ 16 < l.length then ([], 3) else fin ((l.length : Int) :: bodies l)
theorem zig_nat (v : S35) (h : vok v) : (zig v.f1).toNat < 18446744073709551616 := by
  have := zig_range v.f1 h.2.2.1 h.2.2.2.1
  omega
theorem body_len (v : S35) (h : vok v) : (body v).length ≤ 2000011 := by
  have h1 := enc_ten (zig_nat v h)
  have h2 := enc_ten (v := v.f2.size) (by have := h.2.2.2.2; omega)
  have h3 := h.2.2.2.2
  unfold body
  split
  · simp; omega
  · split
    · simp [bytesOf_length]; omega
    · split
      · simp [bytesOf_length]; omega
      · simp
theorem rv_text {v : S35} (h : rv v = true) : v.f0 = 2 ∨ v.f0 = 3 ∨ v.f2.size = 0 := by
  unfold rv rgt at h; simp only [decide_eq_true_eq] at h; omega
theorem rv_kind {v : S35} (h : rv v = true) : v.f0 = 0 ∨ v.f0 = 1 ∨ v.f0 = 2 ∨ v.f0 = 3 := by
  unfold rv rgt at h; simp only [decide_eq_true_eq] at h; omega
theorem body_text {v : S35} (h : v.f0 = 2 ∨ v.f0 = 3) : v.f2.size < (body v).length := by
  have := enc_pos v.f2.size
  unfold body
  rcases h with h | h <;> simp [h, bytesOf_length] <;> omega
theorem fin_long (acc : List Int) (h : 8192 < acc.length) : fin acc = ([], 2) := by unfold fin; rw [if_pos h]
/-- a value that is read: kind, number, text, the place behind it, the error -/
def valAt (b : List Int) (at_ : Int) : Int × Int × ByteArray × Int × Int :=
  if at_ ≥ (b.length : Int) then (0, 0, ⟨#[]⟩, 0, 10)
  else if rd b at_ = 1 then (if (specAt b (at_ + 1)).2.2 = 0 then (1, zag (specAt b (at_ + 1)).1, ⟨#[]⟩, (specAt b (at_ + 1)).2.1, 0) else (1, 0, ⟨#[]⟩, 0, (specAt b (at_ + 1)).2.2))
  else if rd b at_ = 2 then (2, 0, (textAt b (at_ + 1)).1, (textAt b (at_ + 1)).2.1, (textAt b (at_ + 1)).2.2)
  else if rd b at_ = 3 then (3, 0, (textAt b (at_ + 1)).1, (textAt b (at_ + 1)).2.1, (textAt b (at_ + 1)).2.2)
  else (rd b at_, 0, ⟨#[]⟩, at_ + 1, 0)
/-- as many values, one behind another -/
def vals : Nat → List Int → Int → Option (List S35)
  | 0, _, _ => some []
  | n + 1, b, at_ => if (valAt b at_).2.2.2.2 = 0 then (vals n b (valAt b at_).2.2.2.1).map (fun l => (⟨(valAt b at_).1, (valAt b at_).2.1, (valAt b at_).2.2.1⟩ : S35) :: l) else none
def same (a b : List Int) : Bool := (strOfNums a).toList == (strOfNums b).toList
/-- what is read, if it is written so -/
def back (b : List Int) (l : List S35) : List S35 × Int := if (wr l).2 = 0 ∧ same (wr l).1 b = true then (l, 0) else ([], 3)
def rdr (b : List Int) : List S35 × Int :=
  if 8192 < b.length then ([], 2)
  else if (specAt b 0).2.2 = 0 ∧ (specAt b 0).1 ≤ 16 then (match vals (specAt b 0).1.toNat b (specAt b 0).2.1 with | none => ([], 3) | some l => back b l)
  else ([], 3)
theorem text_size (b : List Int) (at_ : Int) (hb : ∀ c ∈ b, 0 ≤ c ∧ c ≤ 255) : (textAt b at_).1.size ≤ b.length := by
  unfold textAt
  have z : (⟨#[]⟩ : ByteArray).size = 0 := rfl
  split
  · split
    · simp [z]
    · simp only [strOfNums, ByteArray.size, List.size_toArray, List.length_map, List.length_drop, List.length_take]; omega
  · simp [z]
theorem text_next (b : List Int) (at_ : Int) (hb : ∀ c ∈ b, 0 ≤ c ∧ c ≤ 255) : 0 ≤ (textAt b at_).2.1 ∧ (textAt b at_).2.1 ≤ b.length := by
  have h := specAt_next b at_ hb
  have h2 := specAt_range b at_ hb
  unfold textAt
  split
  · split
    · simp
    · simp only; omega
  · simp
theorem rd_byte (b : List Int) (i : Int) (hb : ∀ c ∈ b, 0 ≤ c ∧ c ≤ 255) : 0 ≤ rd b i ∧ rd b i ≤ 255 := by
  unfold rd
  rw [List.getD_eq_getElem?_getD]
  cases h : b[i.toNat]? with
  | none => simp
  | some c => exact hb c (List.mem_of_getElem? h)
theorem val_ok (b : List Int) (at_ : Int) (hb : ∀ c ∈ b, 0 ≤ c ∧ c ≤ 255) (hl : b.length ≤ 8192) (h0 : 0 ≤ at_) (h1 : at_ ≤ b.length) :
    vok (⟨(valAt b at_).1, (valAt b at_).2.1, (valAt b at_).2.2.1⟩ : S35) ∧ 0 ≤ (valAt b at_).2.2.2.1 ∧ (valAt b at_).2.2.2.1 ≤ b.length := by
  have hr := specAt_range b (at_ + 1) hb
  have hn := specAt_next b (at_ + 1) hb
  have ht := text_size b (at_ + 1) hb
  have hm := text_next b (at_ + 1) hb
  have hk := rd_byte b at_ hb
  have z : (⟨#[]⟩ : ByteArray).size = 0 := rfl
  unfold valAt vok
  by_cases c0 : at_ ≥ (b.length : Int)
  · rw [if_pos c0]; simp [z]
  rw [if_neg c0]
  by_cases c1 : rd b at_ = 1
  · rw [if_pos c1]
    by_cases c2 : (specAt b (at_ + 1)).2.2 = 0
    · have := zag_range _ hr.1 hr.2
      rw [if_pos c2]; simp only [z]; omega
    · rw [if_neg c2]; simp [z]
  rw [if_neg c1]
  by_cases c2 : rd b at_ = 2
  · rw [if_pos c2]; simp only; omega
  rw [if_neg c2]
  by_cases c3 : rd b at_ = 3
  · rw [if_pos c3]; simp only; omega
  rw [if_neg c3]
  simp only [z]; omega
theorem vals_ok (b : List Int) (hb : ∀ c ∈ b, 0 ≤ c ∧ c ≤ 255) (hl : b.length ≤ 8192) : ∀ (n : Nat) (at_ : Int), 0 ≤ at_ → at_ ≤ b.length → ∀ l, vals n b at_ = some l → l.length = n ∧ ∀ v ∈ l, vok v
  | 0, at_, _, _, l, h => by simp only [vals, Option.some.injEq] at h; subst h; simp
  | n + 1, at_, h0, h1, l, h => by
    have hv := val_ok b at_ hb hl h0 h1
    rw [vals] at h
    split at h
    · rw [Option.map_eq_some_iff] at h
      obtain ⟨l2, h2, rfl⟩ := h
      have ih := vals_ok b hb hl n _ hv.2.1 hv.2.2 l2 h2
      refine ⟨by simp [ih.1], fun v hv2 => ?_⟩
      rcases List.mem_cons.1 hv2 with rfl | hv2
      · exact hv.1
      · exact ih.2 v hv2
    · cases h
end Go.Proofs.Ytefpnnljflcmbaa.RSpec
