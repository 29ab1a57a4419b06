/- The law VarintSizes over the printed functions: larger numbers have no shorter encodings, none has more than ten bytes, zigzags go there and back: for every three numbers. -/
import Derived.Test.YtbicfijohjijhaaVAlive
import Derived.Test.YtbicfijohjijhaaPVix6
namespace Go.Proofs.Ytbicfijohjijhaa.Pure
set_option linter.unusedVariables false
open Go.RowKit Go.Proofs.Ytbicfijohjijhaa.PVi Go.Proofs.Ytbicfijohjijhaa.VMath Go.Proofs.Ytbicfijohjijhaa.VFuns Go.Proofs.Ytbicfijohjijhaa.VAlive Go.Proofs.YtbicfijohjijhaaW.PrintWords Go.Proofs.YtbicfijohjijhaaW.PrintLast
theorem VarintSizes : hindsightlaw01_VarintSizes.Pure := by
  intro a b i ha hb hi
  obtain ⟨a0, a1⟩ := wf_u64 ha
  obtain ⟨b0, b1⟩ := wf_u64 hb
  obtain ⟨i0, i1⟩ := wf_i64 hi
  refine ⟨40, ?_⟩
  unfold hindsightlaw01_VarintSizes.f
  have hl := enc_ten (v := a.toNat) (by omega)
  have hz := zig_range i i0 i1
  have hg := zag_range a a0 a1
  rw [put_tells a a0 a1 40 (by omega), put_tells b b0 b1 40 (by omega), alive_tells 40 (by omega), zig_tells i i0 i1, zag_tells a a0 a1]
  simp only [Option.bind_some]
  rw [zag_tells _ hz.1 hz.2, zig_tells _ hg.1 hg.2, zag_zig, zig_zag a a0]
  simp only [Option.bind_some]
  simp only [if_true]
  rw [if_pos (show ((enc a.toNat).length : Int) ≥ 1 by omega), if_pos (show ((enc a.toNat).length : Int) ≤ 10 by omega)]
  by_cases h : a > b
  · rw [if_pos h]; simp
  · rw [if_neg h]
    have := enc_mono (b.toNat + 1) a.toNat b.toNat (by omega) (by omega)
    rw [if_pos (by omega)]; simp
end Go.Proofs.Ytbicfijohjijhaa.Pure
