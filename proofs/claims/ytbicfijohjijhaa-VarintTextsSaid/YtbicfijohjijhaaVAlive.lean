/- The fixed calls of the statements of varint tell true. -/
import Derived.Test.YtbicfijohjijhaaVFuns
import Derived.Test.YtbicfijohjijhaaPVix5
namespace Go.Proofs.Ytbicfijohjijhaa.VAlive
set_option linter.unusedVariables false
set_option linter.unusedSimpArgs false
open Go.RowKit Go.Proofs.Ytbicfijohjijhaa.PVi Go.Proofs.Ytbicfijohjijhaa.VMath Go.Proofs.Ytbicfijohjijhaa.VFuns Go.Proofs.YtbicfijohjijhaaW.PrintWords Go.Proofs.YtbicfijohjijhaaW.PrintLast Go.Proofs.YtbicfijohjijhaaW.PrintMore

theorem alive_tells (k : Nat) (hk : 40 ≤ k) : hindsightlaw01_alive.f k = some true := by
  unfold hindsightlaw01_alive.f
  have e300 : enc (300 : Int).toNat = [172, 2] := by
    rw [show (300 : Int).toNat = 300 from rfl, enc_ge (by decide), enc_lt (by decide)]; rfl
  rw [put_tells 300 (by decide) (by decide) k (by omega), e300]
  simp only [Option.bind_some]
  rw [get_tells [172, 2] 0 (by decide) (by decide) k (by simp; omega), show specAt [172, 2] 0 = (300, 2, 0) by decide]
  simp only [Option.bind_some]
  rw [get_tells [128] 0 (by decide) (by decide) k (by simp; omega), show specAt [128] 0 = (0, 0, 10) by decide]
  simp only [Option.bind_some]
  rw [zig_tells (-1) (by decide) (by decide), zag_tells 1 (by decide) (by decide)]
  simp only [Option.bind_some]
  rw [str_toList, if_pos (by decide), if_pos (by decide), if_pos (by decide), if_pos (by decide), if_pos (by decide), if_pos (by decide)]
  decide
end Go.Proofs.Ytbicfijohjijhaa.VAlive
