/- The law RecordBytes over the printed functions. -/
import Derived.Test.YtefpnnljflcmbaaRAlive
import Derived.Test.YtefpnnljflcmbaaPRex25
namespace Go.Proofs.Ytefpnnljflcmbaa.Pure
set_option linter.unusedVariables false
set_option linter.unusedSimpArgs false
open Go.RowKit Go.Proofs.Ytefpnnljflcmbaa.PRe Go.Proofs.Ytefpnnljflcmbaa.VFuns Go.Proofs.Ytefpnnljflcmbaa.VRefs Go.Proofs.Ytefpnnljflcmbaa.VText Go.Proofs.Ytefpnnljflcmbaa.RSpec Go.Proofs.Ytefpnnljflcmbaa.RFuns Go.Proofs.Ytefpnnljflcmbaa.RRefs Go.Proofs.Ytefpnnljflcmbaa.RAlive Go.Proofs.Ytefpnnljflcmbaa.CRight Go.Proofs.YtefpnnljflcmbaaW.PrintWords Go.Proofs.YtefpnnljflcmbaaW.PrintLast Go.Proofs.YtefpnnljflcmbaaW.PrintMore
open Go.Proofs.Ytefpnnljflcmbaa.VMath (enc enc_len enc_pos enc_ten enc_byte enc_lt spec specAt spec_enc specAt_range specAt_next wrapi wrapu wf_i64 wf_u8 cnt val val_snoc val_nonneg cnt_end str_toList)
open Go.Proofs.Ytefpnnljflcmbaa.CMath (rgt ord tl tl_inj tl_nil tl_len size0 cmpB sgn cb_sgn cb_neg cb_zero cb_less cb_trans)
theorem bytes_l0 (l m : List S35) (b : List Int) (hl : l.length ≤ 9223372036854775807) (hm : ∀ v ∈ l, vok v) (hb : ∀ c ∈ b, 0 ≤ c ∧ c ≤ 255) (K : Nat) (hK : l.length + m.length + 2 * b.length + 400 ≤ K) (d : Nat) : ∀ (k n : Nat) (own : List Int), n + d = own.length → own.length ≤ 140737488355328 → d + K < k →
    hindsightlaw03_RecordBytes.l0 k l m b (wr l).1 (wr l).2 (wr l).1 (wr l).2 own (rdr b).1 (rdr b).2 (n : Int) = some true := by
  induction d with
  | zero =>
    intro k n own hn ho hk
    obtain ⟨k, rfl⟩ : ∃ m, k = m + 1 := ⟨k - 1, by omega⟩
    have hq := rdr_ok b hb
    rw [hindsightlaw03_RecordBytes.l0, if_neg (by omega), rread_tells b hb k (by omega), Option.bind_some, alive_tells k (by omega), Option.bind_some, if_pos rfl, if_pos rfl, if_pos rfl, rsame_tells _ _ (by omega) k (by omega), Option.bind_some, if_pos ((sameL_iff _ _).2 rfl), if_pos rfl, right_row l hl hm k (by omega), Option.bind_some, if_pos (by simp), same_tells l m hl k (by omega), Option.bind_some, rsame_tells l m hl k (by omega), Option.bind_some]
    simp
  | succ d ih =>
    intro k n own hn ho hk
    obtain ⟨k, rfl⟩ : ∃ m, k = m + 1 := ⟨k - 1, by omega⟩
    rw [hindsightlaw03_RecordBytes.l0, if_pos (by omega), if_pos (by omega), next_at n (by omega)]
    exact ih k (n + 1) _ (by rw [List.length_set]; omega) (by rw [List.length_set]; omega) (by omega)
theorem RecordBytes : hindsightlaw03_RecordBytes.Pure := by
  intro l m b hl hm hb
  have hb2 : ∀ c ∈ b, 0 ≤ c ∧ c ≤ 255 := fun c hc => wf_u8 (hb.2.2 c hc)
  refine ⟨2 * l.length + 2 * m.length + 4 * b.length + 1000, ?_⟩
  generalize hk : 2 * l.length + 2 * m.length + 4 * b.length + 1000 = k
  obtain ⟨g, h1, h2⟩ := great_tells l hl k (by omega)
  obtain ⟨g2, h3, h4⟩ := great_tells m hm k (by omega)
  obtain ⟨k, rfl⟩ : ∃ m, k = m + 1 := ⟨k - 1, by omega⟩
  unfold hindsightlaw03_RecordBytes.f
  rw [h1, Option.bind_some]
  have ha : hindsightlaw03_RecordBytes.j0 (k + 1) l m b true = some true := by
    rw [hindsightlaw03_RecordBytes.j0, if_pos rfl, alive_tells k (by omega)]; rfl
  cases g
  case true => exact ha
  rw [if_neg (by simp), h3, Option.bind_some]
  cases g2
  case true => exact ha
  rw [if_neg (by simp)]
  by_cases h5 : (b.length : Int) > 9000
  · rw [decide_eq_true h5]; exact ha
  rw [decide_eq_false h5, hindsightlaw03_RecordBytes.j0, if_neg (by simp), write_tells l hl.1 (h2 rfl).2 k (by omega), Option.bind_some, rwrite_tells l hl.1 (h2 rfl).2 k (by omega), Option.bind_some, Option.bind_some, if_pos (by simp; omega), Option.bind_some, List.nil_append, read_tells b hb2 k (by omega) (by omega), Option.bind_some]
  have := bytes_l0 l m b hl.1 (h2 rfl).2 hb2 (l.length + m.length + 2 * b.length + 400) (by omega) b.length k 0 b (by omega) (by omega) (by omega)
  rw [show ((0 : Nat) : Int) = 0 from rfl] at this
  exact this
end Go.Proofs.Ytefpnnljflcmbaa.Pure
