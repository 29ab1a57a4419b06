/- What the printed functions of the reference on texts come to. -/
import Derived.Test.YtbicfijohjijhaaVText
import Derived.Test.YtbicfijohjijhaaVRefs
import Derived.Test.YtbicfijohjijhaaPVix17
import Derived.Test.YtbicfijohjijhaaPVix15
namespace Go.Proofs.Ytbicfijohjijhaa.VRText
set_option linter.unusedVariables false
set_option linter.unusedSimpArgs false
open Go.RowKit Go.Proofs.Ytbicfijohjijhaa.PVi Go.Proofs.Ytbicfijohjijhaa.VMath Go.Proofs.Ytbicfijohjijhaa.VFuns Go.Proofs.Ytbicfijohjijhaa.VRefs Go.Proofs.Ytbicfijohjijhaa.VText Go.Proofs.YtbicfijohjijhaaW.PrintWords Go.Proofs.YtbicfijohjijhaaW.PrintLast Go.Proofs.YtbicfijohjijhaaW.PrintMore

theorem rputtext_l0 (s : ByteArray) (hs : s.size ≤ 2000000) (hd : List Int) (hh : hd.length ≤ 10) (d : Nat) : ∀ (k n : Nat), n + d = s.size → d < k → hindsightref01_PutText.l0 k s (hd ++ (bytesOf s).take n) n = some (hd ++ bytesOf s) := by
  induction d with
  | zero =>
    intro k n h hk
    obtain ⟨k, rfl⟩ : ∃ m, k = m + 1 := ⟨k - 1, by omega⟩
    simp only [hindsightref01_PutText.l0]
    rw [if_neg (by omega), List.take_of_length_le (by rw [bytesOf_length]; omega)]
  | succ d ih =>
    intro k n h hk
    obtain ⟨k, rfl⟩ : ∃ m, k = m + 1 := ⟨k - 1, by omega⟩
    simp only [hindsightref01_PutText.l0]
    rw [if_pos (by omega), if_pos (by omega), if_pos (by simp [bytesOf_length]; omega), wrapi _ (by omega) (by omega), List.append_assoc, ← bytesOf_take s n (by omega)]
    exact_mod_cast ih k (n + 1) (by omega) (by omega)
theorem rputtext_tells (s : ByteArray) (k : Nat) (hs : s.size ≤ 2000000) (hk : s.size + 10 ≤ k) : hindsightref01_PutText.f k s = some (enc s.size ++ bytesOf s) := by
  unfold hindsightref01_PutText.f
  rw [wrapu _ (by omega) (by omega), rput_tells _ (by omega) (by omega) k (by omega)]
  simp only [Option.bind_some, Int.toNat_natCast]
  have := rputtext_l0 s hs (enc s.size) (enc_ten (by omega)).2 s.size k 0 (by omega) (by omega)
  simpa using this
theorem rget_text (b : List Int) (at_ : Int) (hb : ∀ c ∈ b, 0 ≤ c ∧ c ≤ 255) (hl : b.length ≤ 140737488355328) (k : Nat) (hk : 40 ≤ k) : hindsightref01_GetText.f k b at_ = some (textAt b at_) := by
  have hr := specAt_range b at_ hb
  have hn := specAt_next b at_ hb
  unfold hindsightref01_GetText.f textAt
  rw [rget_tells b at_ hb hl k hk]
  simp only [Option.bind_some]
  generalize specAt b at_ = q at *
  by_cases he : q.2.2 = 0
  · rw [if_pos he, if_pos he, wrapi ((b.length : Int) - q.2.1) (by omega) (by omega), wrapu _ (by omega) (by omega)]
    by_cases h1 : q.1 > (b.length : Int) - q.2.1
    · rw [if_pos h1, if_pos h1]
    · rw [if_neg h1, if_neg h1, wrapi q.1 (by omega) (by omega), wrapi (q.2.1 + q.1) (by omega) (by omega), if_pos (by omega), if_pos (by omega), if_pos (by omega), he]
  · rw [if_neg he, if_neg he]
theorem gettext_tells (b : List Int) (at_ : Int) (hb : ∀ c ∈ b, 0 ≤ c ∧ c ≤ 255) (hl : b.length ≤ 140737488355328) (k : Nat) (hk : 2 * b.length + 40 ≤ k) : ∃ r, varint_GetText.f k b at_ = some r ∧ hindsightref01_GetText.f k b at_ = some r :=
  ⟨_, get_text b at_ hb hl k (by omega), rget_text b at_ hb hl k (by omega)⟩
end Go.Proofs.Ytbicfijohjijhaa.VRText
