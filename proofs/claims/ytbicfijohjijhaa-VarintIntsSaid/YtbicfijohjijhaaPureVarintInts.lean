/- The law VarintInts over the printed functions: zigzags and the bytes of whole numbers are the reference's, for any numbers, any bytes and any place. -/
import Derived.Test.YtbicfijohjijhaaVAlive
import Derived.Test.YtbicfijohjijhaaVRefs
import Derived.Test.YtbicfijohjijhaaPVix13
import Derived.Test.YtbicfijohjijhaaPVix7
import Derived.Test.YtbicfijohjijhaaPVix11
namespace Go.Proofs.Ytbicfijohjijhaa.Pure
set_option linter.unusedVariables false
open Go.RowKit Go.Proofs.Ytbicfijohjijhaa.PVi Go.Proofs.Ytbicfijohjijhaa.VMath Go.Proofs.Ytbicfijohjijhaa.VFuns Go.Proofs.Ytbicfijohjijhaa.VAlive Go.Proofs.Ytbicfijohjijhaa.VRefs Go.Proofs.YtbicfijohjijhaaW.PrintWords Go.Proofs.YtbicfijohjijhaaW.PrintLast
theorem VarintInts : hindsightlaw01_VarintInts.Pure := by
  intro i v b at_ hi hv hm hl hb ha
  obtain ⟨i0, i1⟩ := wf_i64 hi
  obtain ⟨v0, v1⟩ := wf_u64 hv
  have hb' : ∀ c ∈ b, 0 ≤ c ∧ c ≤ 255 := fun c hc => wf_u8 (hb c hc)
  refine ⟨2 * b.length + 50, ?_⟩
  unfold hindsightlaw01_VarintInts.f
  rw [alive_tells _ (by omega)]
  simp only [Option.bind_some]
  by_cases h2 : (b.length : Int) > 2000
  · rw [if_pos h2]
  rw [if_neg h2]
  have hz := zig_range i i0 i1
  have hr := specAt_range b at_ hb'
  unfold varint_GetInt.f
  rw [get_tells b at_ hb' (by omega) _ (by omega), rget_tells b at_ hb' (by omega) _ (by omega)]
  simp only [Option.bind_some]
  rw [zag_tells _ hr.1 hr.2, rzag_tells _ hr.1 hr.2]
  simp only [Option.bind_some]
  -- the last part, whatever was got
  have last : ∀ x n e : Int, hindsightlaw01_VarintInts.j0 (2 * b.length + 50) i v x n e n e x = some true := by
    intro x n e
    rw [show 2 * b.length + 50 = (2 * b.length + 49) + 1 by omega]
    simp only [hindsightlaw01_VarintInts.j0]
    unfold varint_PutInt.f
    rw [alive_tells _ (by omega), zig_tells i i0 i1, rzig_tells i i0 i1, zag_tells v v0 v1, rzag_tells v v0 v1]
    simp only [Option.bind_some]
    rw [put_tells _ hz.1 hz.2 _ (by omega), rput_tells _ hz.1 hz.2 _ (by omega)]
    simp
  by_cases he : (specAt b at_).2.2 = 0
  · rw [if_pos he]
    simp only [Option.bind_some]
    rw [if_pos he, he]
    exact last _ _ _
  · rw [if_neg he]
    simp only [Option.bind_some]
    rw [if_neg he, show (specAt b at_).2.1 = 0 by rw [specAt_zero b at_ he]]
    exact last _ _ _
end Go.Proofs.Ytbicfijohjijhaa.Pure
