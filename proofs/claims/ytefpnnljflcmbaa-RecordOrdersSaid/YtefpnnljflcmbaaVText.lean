/- What the printed functions of varint on texts come to. -/
import Derived.Test.YtefpnnljflcmbaaVFuns
import Derived.Test.YtefpnnljflcmbaaPRex6
import Derived.Test.YtefpnnljflcmbaaPRex10
namespace Go.Proofs.Ytefpnnljflcmbaa.VText
set_option linter.unusedVariables false
set_option linter.unusedSimpArgs false
open Go.RowKit Go.Proofs.Ytefpnnljflcmbaa.PRe Go.Proofs.Ytefpnnljflcmbaa.VMath Go.Proofs.Ytefpnnljflcmbaa.VFuns Go.Proofs.YtefpnnljflcmbaaW.PrintWords Go.Proofs.YtefpnnljflcmbaaW.PrintLast Go.Proofs.YtefpnnljflcmbaaW.PrintMore

theorem puttext_tells (s : ByteArray) (k : Nat) (hs : s.size ≤ 2000000) (hk : 10 ≤ k) : varint_PutText.f k s = some (enc s.size ++ bytesOf s) := by
  unfold varint_PutText.f
  rw [wrapu _ (by omega) (by omega), put_tells _ (by omega) (by omega) k hk]
  simp only [Option.bind_some, Int.toNat_natCast]
  have := enc_ten (v := s.size) (by omega)
  rw [if_pos (by omega)]
/-- what GetText tells -/
def textAt (b : List Int) (at_ : Int) : ByteArray × Int × Int :=
  if (specAt b at_).2.2 = 0 then
    if (specAt b at_).1 > (b.length : Int) - (specAt b at_).2.1 then (⟨#[]⟩, 0, 10)
    else (strOfNums ((b.take ((specAt b at_).2.1 + (specAt b at_).1).toNat).drop (specAt b at_).2.1.toNat), (specAt b at_).2.1 + (specAt b at_).1, 0)
  else (⟨#[]⟩, 0, (specAt b at_).2.2)
theorem get_text (b : List Int) (at_ : Int) (hb : ∀ c ∈ b, 0 ≤ c ∧ c ≤ 255) (hl : b.length ≤ 140737488355328) (k : Nat) (hk : 2 * b.length + 3 ≤ k) : varint_GetText.f k b at_ = some (textAt b at_) := by
  have hr := specAt_range b at_ hb
  have hn := specAt_next b at_ hb
  unfold varint_GetText.f textAt
  rw [get_tells b at_ hb hl k hk]
  simp only [Option.bind_some]
  generalize specAt b at_ = q at *
  by_cases he : q.2.2 = 0
  · rw [if_pos he, if_pos he, wrapi ((b.length : Int) - q.2.1) (by omega) (by omega), wrapu _ (by omega) (by omega)]
    by_cases h1 : q.1 > (b.length : Int) - q.2.1
    · rw [if_pos h1, if_pos h1]
    · rw [if_neg h1, if_neg h1, wrapi q.1 (by omega) (by omega), wrapi (q.2.1 + q.1) (by omega) (by omega), if_pos (by omega), if_pos (by omega), if_pos (by omega)]
  · rw [if_neg he, if_neg he]
end Go.Proofs.Ytefpnnljflcmbaa.VText
