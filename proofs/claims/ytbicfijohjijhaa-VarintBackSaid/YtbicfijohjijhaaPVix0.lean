-- Written by a program of this session (wip/tool), which goes by the kit's print.
import Derived.Test.YtbicfijohjijhaaProg
import Derived.Below
import Derived.Deep.Draws
import Derived.Deep.AppendLies
import Derived.Maps.AppendAt
import Derived.OwnWalk
import Derived.Laws.BytesArg
import Derived.Laws.MakeOwn
import Derived.Laws.OwnMore
import Derived.Deep.OwnRows
import Derived.Tactics
import Derived.Lib.ConvBytes
import Derived.Laws.Slices
import Derived.WalkKit
import Derived.KernelRfl
import Derived.RowKit3
import Derived.Deep.LoopGhost
import Derived.Deep.QuietTactic
import Derived.BigQuiet
import Derived.WideLaws
import Derived.Deep.DeepCutAuto
import Derived.Deep.CutBlock
import Derived.Deep.RegionHeld3
import Derived.Laws.Rows
import Derived.Lib.AppendStr
import Derived.ArgAppend
import Derived.Laws.IdiomCopy
import Derived.OrdersHeld
import Derived.Laws.BitsLemmas
import Derived.RowKit
import Derived.Test.YtbicfijohjijhaaWWords
import Derived.Test.YtbicfijohjijhaaWLast
import Derived.Test.YtbicfijohjijhaaWTab
import Derived.Test.YtbicfijohjijhaaWFour
import Derived.Test.YtbicfijohjijhaaWQPut
import Derived.Test.YtbicfijohjijhaaWApart
import Derived.Test.YtbicfijohjijhaaWArr
import Derived.Test.YtbicfijohjijhaaWZeros
import Derived.Test.YtbicfijohjijhaaWFoot
import Derived.Test.YtbicfijohjijhaaWKept
import Derived.Test.YtbicfijohjijhaaWShare
import Derived.Test.YtbicfijohjijhaaWN
import Derived.Test.YtbicfijohjijhaaWFootNe
import Derived.Test.YtbicfijohjijhaaWAt
import Derived.Test.YtbicfijohjijhaaWEqStruct
import Derived.Test.YtbicfijohjijhaaWRepsOne
import Derived.Test.YtbicfijohjijhaaWInv
import Derived.Test.YtbicfijohjijhaaWInvWords
import Derived.Test.YtbicfijohjijhaaWGuard
import Derived.Test.YtbicfijohjijhaaWNEv
import Derived.Test.YtbicfijohjijhaaWMore
namespace Go.Proofs.Ytbicfijohjijhaa.PVi
open Go.RowKit Go.Proofs.YtbicfijohjijhaaW.PrintWords Go.Proofs.YtbicfijohjijhaaW.PrintLast Go.Proofs.YtbicfijohjijhaaW.PrintMore
attribute [local go_sem] max2_int min2_int max_two min_two max_three min_three max_four min_four   -- for this text's walks alone
set_option linter.unusedVariables false
set_option linter.unusedSimpArgs false



def errW : Option Int → Value
  | none => .nilIface
  | some c => .iface 0 (.int .i64 c)
theorem errW_none : errW none = .nilIface := rfl
theorem errW_some (c : Int) : errW (some c) = .iface 0 (.int .i64 c) := rfl

theorem info5 : (Try.prog.info? 5).map (fun i => (i.zero, i.size, i.bytes)) = some (some (.int .u8 0), 1, 1) := by kernel_rfl
-- the values' own types

end Go.Proofs.Ytbicfijohjijhaa.PVi
