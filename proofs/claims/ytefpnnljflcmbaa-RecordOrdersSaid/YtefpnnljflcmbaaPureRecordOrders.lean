/- The law RecordOrders over the printed functions. -/
import Derived.Test.YtefpnnljflcmbaaROrd
import Derived.Test.YtefpnnljflcmbaaPRex34
namespace Go.Proofs.Ytefpnnljflcmbaa.Pure
set_option linter.unusedVariables false
set_option linter.unusedSimpArgs false
open Go.RowKit Go.Proofs.Ytefpnnljflcmbaa.PRe Go.Proofs.Ytefpnnljflcmbaa.VFuns Go.Proofs.Ytefpnnljflcmbaa.VRefs Go.Proofs.Ytefpnnljflcmbaa.VText Go.Proofs.Ytefpnnljflcmbaa.RSpec Go.Proofs.Ytefpnnljflcmbaa.RFuns Go.Proofs.Ytefpnnljflcmbaa.RRefs Go.Proofs.Ytefpnnljflcmbaa.RAlive Go.Proofs.Ytefpnnljflcmbaa.CRight Go.Proofs.YtefpnnljflcmbaaW.PrintWords Go.Proofs.YtefpnnljflcmbaaW.PrintLast Go.Proofs.YtefpnnljflcmbaaW.PrintMore
open Go.Proofs.Ytefpnnljflcmbaa.VMath (enc enc_len enc_pos enc_ten enc_byte enc_lt spec specAt spec_enc specAt_range specAt_next wrapi wrapu wf_i64 wf_u8 cnt val val_snoc val_nonneg cnt_end str_toList)
open Go.Proofs.Ytefpnnljflcmbaa.CMath (rgt ord tl tl_inj tl_nil tl_len size0 cmpB sgn cb_sgn cb_neg cb_zero cb_less cb_trans)
open Go.Proofs.Ytefpnnljflcmbaa.ROrd
theorem RecordOrders : hindsightlaw03_RecordOrders.Pure := by
  intro l m hl hm
  refine ⟨2 * l.length + 2 * m.length + 1000, ?_⟩
  generalize hk : 2 * l.length + 2 * m.length + 1000 = k
  obtain ⟨g, h1, h2⟩ := great_tells l hl k (by omega)
  obtain ⟨g2, h3, h4⟩ := great_tells m hm k (by omega)
  obtain ⟨k, rfl⟩ : ∃ m, k = m + 1 := ⟨k - 1, by omega⟩
  unfold hindsightlaw03_RecordOrders.f
  rw [h1, Option.bind_some]
  have ha : hindsightlaw03_RecordOrders.j0 (k + 1) l m true = some true := by
    rw [hindsightlaw03_RecordOrders.j0, if_pos rfl, alive_tells k (by omega)]; rfl
  cases g
  case true => exact ha
  rw [if_neg (by simp), h3, Option.bind_some]
  cases g2
  case true => exact ha
  rw [hindsightlaw03_RecordOrders.j0, if_neg (by simp), alive_tells k (by omega), Option.bind_some, if_pos rfl, rorder l m hl.1 k (by omega), Option.bind_some, reforder l m hl.1 k (by omega), Option.bind_some]
  simp
end Go.Proofs.Ytefpnnljflcmbaa.Pure
