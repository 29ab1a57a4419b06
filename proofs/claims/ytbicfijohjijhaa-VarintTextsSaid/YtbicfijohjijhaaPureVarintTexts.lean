/- The law VarintTexts over the printed functions: the bytes of texts, and the text of any bytes at any place, are the reference's. -/
import Derived.Test.YtbicfijohjijhaaVAlive
import Derived.Test.YtbicfijohjijhaaVRText
import Derived.Test.YtbicfijohjijhaaPVix18
namespace Go.Proofs.Ytbicfijohjijhaa.Pure
set_option linter.unusedVariables false
open Go.RowKit Go.Proofs.Ytbicfijohjijhaa.PVi Go.Proofs.Ytbicfijohjijhaa.VMath Go.Proofs.Ytbicfijohjijhaa.VFuns Go.Proofs.Ytbicfijohjijhaa.VAlive Go.Proofs.Ytbicfijohjijhaa.VRefs Go.Proofs.Ytbicfijohjijhaa.VText Go.Proofs.Ytbicfijohjijhaa.VRText Go.Proofs.YtbicfijohjijhaaW.PrintWords Go.Proofs.YtbicfijohjijhaaW.PrintLast
theorem VarintTexts : hindsightlaw01_VarintTexts.Pure := by
  intro s b at_ hs hm hl hb ha
  have hb' : ∀ c ∈ b, 0 ≤ c ∧ c ≤ 255 := fun c hc => wf_u8 (hb c hc)
  refine ⟨2 * b.length + s.size + 60, ?_⟩
  unfold hindsightlaw01_VarintTexts.f
  have hal : ∀ c, c = true → hindsightlaw01_VarintTexts.j0 (2 * b.length + s.size + 60) s b at_ c = some true := by
    rintro c rfl
    rw [show 2 * b.length + s.size + 60 = (2 * b.length + s.size + 59) + 1 by omega]
    simp only [hindsightlaw01_VarintTexts.j0]
    rw [if_pos trivial, alive_tells _ (by omega)]; rfl
  by_cases h1 : (s.size : Int) > 2000
  · rw [if_pos h1]; exact hal _ rfl
  rw [if_neg h1]
  by_cases h2 : (b.length : Int) > 2000
  · exact hal _ (decide_eq_true h2)
  rw [decide_eq_false h2]
  obtain ⟨r, h3, h4⟩ := gettext_tells b at_ hb' (by omega) (2 * b.length + s.size + 59) (by omega)
  rw [show 2 * b.length + s.size + 60 = (2 * b.length + s.size + 59) + 1 by omega]
  simp only [hindsightlaw01_VarintTexts.j0]
  rw [if_neg (by decide), h3, h4]
  simp only [Option.bind_some]
  rw [alive_tells _ (by omega), puttext_tells s _ (by omega) (by omega), rputtext_tells s _ (by omega) (by omega)]
  simp
end Go.Proofs.Ytbicfijohjijhaa.Pure
