/- The order of rows: what the printed functions come to. -/
import Derived.Test.YtefpnnljflcmbaaRAlive
import Derived.Test.YtefpnnljflcmbaaPRex31
import Derived.Test.YtefpnnljflcmbaaPRex33
namespace Go.Proofs.Ytefpnnljflcmbaa.ROrd
set_option linter.unusedVariables false
set_option linter.unusedSimpArgs false
open Go.RowKit Go.Proofs.Ytefpnnljflcmbaa.PRe Go.Proofs.Ytefpnnljflcmbaa.VFuns Go.Proofs.Ytefpnnljflcmbaa.VRefs Go.Proofs.Ytefpnnljflcmbaa.VText Go.Proofs.Ytefpnnljflcmbaa.RSpec Go.Proofs.Ytefpnnljflcmbaa.RFuns Go.Proofs.Ytefpnnljflcmbaa.RRefs Go.Proofs.Ytefpnnljflcmbaa.RAlive Go.Proofs.Ytefpnnljflcmbaa.CRight Go.Proofs.YtefpnnljflcmbaaW.PrintWords Go.Proofs.YtefpnnljflcmbaaW.PrintLast Go.Proofs.YtefpnnljflcmbaaW.PrintMore
open Go.Proofs.Ytefpnnljflcmbaa.VMath (enc enc_len enc_pos enc_ten enc_byte enc_lt spec specAt spec_enc specAt_range specAt_next wrapi wrapu wf_i64 wf_u8 cnt val val_snoc val_nonneg cnt_end str_toList)
open Go.Proofs.Ytefpnnljflcmbaa.CMath (rgt ord tl tl_inj tl_nil tl_len size0 cmpB sgn cb_sgn cb_neg cb_zero cb_less cb_trans)
def ordv (v w : S35) : Int := ord v.f0 v.f1 v.f2 w.f0 w.f1 w.f2
/-- the order of rows -/
def ordL : List S35 → List S35 → Int
  | [], [] => 0
  | [], _ :: _ => -1
  | _ :: _, [] => 1
  | v :: l, w :: m => if ordv v w = 0 then ordL l m else ordv v w
theorem order_l0 (l m : List S35) (hl : l.length ≤ 9223372036854775807) (d : Nat) : ∀ (k n : Nat), n + d = l.length → n ≤ m.length → d + 1 < k → api_Value_77.l0 k l m l (l.length : Int) (n : Int) = some (ordL (l.drop n) (m.drop n)) := by
  induction d with
  | zero =>
    intro k n hn hnm hk
    obtain ⟨k, rfl⟩ : ∃ m, k = m + 1 := ⟨k - 1, by omega⟩
    rw [api_Value_77.l0, if_neg (by omega), List.drop_eq_nil_of_le (by omega : l.length ≤ n)]
    by_cases h : (l.length : Int) < m.length
    · rw [if_pos h, drop_at m n (by omega)]; rfl
    · rw [if_neg h, List.drop_eq_nil_of_le (by omega : m.length ≤ n)]; rfl
  | succ d ih =>
    intro k n hn hnm hk
    obtain ⟨k, rfl⟩ : ∃ m, k = m + 2 := ⟨k - 2, by omega⟩
    rw [api_Value_77.l0, if_pos (by omega), if_pos (by omega), if_pos (by omega), drop_at l n (by omega)]
    by_cases h : (n : Int) ≥ m.length
    · rw [if_pos h, List.drop_eq_nil_of_le (by omega : m.length ≤ n)]; rfl
    · rw [if_neg h, if_pos (by omega), order_tells k, Option.bind_some, drop_at m n (by omega), ordL]
      unfold ordv
      by_cases h0 : ord (rd_T35 l n).f0 (rd_T35 l n).f1 (rd_T35 l n).f2 (rd_T35 m n).f0 (rd_T35 m n).f1 (rd_T35 m n).f2 = 0
      · rw [if_pos h0, if_pos h0, next_at n (by omega), ih (k + 1) (n + 1) (by omega) (by omega) (by omega)]
      · rw [if_neg h0, if_neg h0]
theorem rorder (l m : List S35) (hl : l.length ≤ 9223372036854775807) (k : Nat) (hk : l.length + 2 ≤ k) : record_Order.f k l m = some (ordL l m) := by
  unfold record_Order.f api_Value_77.f
  have := order_l0 l m hl l.length k 0 (by omega) (by omega) (by omega)
  rw [show ((0 : Nat) : Int) = 0 from rfl] at this
  rw [this]; rfl
theorem reforder_l0 (l m : List S35) (hl : l.length ≤ 9223372036854775807) (d : Nat) : ∀ (k n : Nat), n + d = l.length → n ≤ m.length → 2 * d + 3 < k → hindsightref03_Order.l0 k l m (n : Int) = some (ordL (l.drop n) (m.drop n)) := by
  induction d with
  | zero =>
    intro k n hn hnm hk
    obtain ⟨k, rfl⟩ : ∃ m, k = m + 2 := ⟨k - 2, by omega⟩
    rw [hindsightref03_Order.l0, if_neg (by omega), hindsightref03_Order.j1, if_neg (by simp), List.drop_eq_nil_of_le (by omega : l.length ≤ n)]
    by_cases h : (l.length : Int) < m.length
    · rw [if_pos h, drop_at m n (by omega)]; rfl
    · rw [if_neg h, if_neg (by omega), List.drop_eq_nil_of_le (by omega : m.length ≤ n)]; rfl
  | succ d ih =>
    intro k n hn hnm hk
    obtain ⟨k, rfl⟩ : ∃ m, k = m + 3 := ⟨k - 3, by omega⟩
    rw [hindsightref03_Order.l0, if_pos (by omega), hindsightref03_Order.j1, drop_at l n (by omega)]
    by_cases h : (n : Int) < m.length
    · rw [decide_eq_true h, if_pos rfl, if_pos (by omega), if_pos (by omega), if_pos h, rorder_tells k, Option.bind_some, drop_at m n (by omega), ordL]
      unfold ordv
      by_cases h0 : ord (rd_T35 l n).f0 (rd_T35 l n).f1 (rd_T35 l n).f2 (rd_T35 m n).f0 (rd_T35 m n).f1 (rd_T35 m n).f2 = 0
      · rw [if_pos h0, if_pos h0, next_at n (by omega), ih (k + 1) (n + 1) (by omega) (by omega) (by omega)]
      · rw [if_neg h0, if_neg h0]
    · rw [decide_eq_false h, if_neg (by simp), if_neg (by omega), if_pos (by omega), List.drop_eq_nil_of_le (by omega : m.length ≤ n)]; rfl
theorem reforder (l m : List S35) (hl : l.length ≤ 9223372036854775807) (k : Nat) (hk : 2 * l.length + 4 ≤ k) : hindsightref03_Order.f k l m = some (ordL l m) := by
  unfold hindsightref03_Order.f
  have := reforder_l0 l m hl l.length k 0 (by omega) (by omega) (by omega)
  rw [show ((0 : Nat) : Int) = 0 from rfl] at this
  rw [this]; rfl
end Go.Proofs.Ytefpnnljflcmbaa.ROrd
