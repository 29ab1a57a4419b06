/- The law CellGo: nothing is left beside the walk. -/
import Derived.Test.YtefpnnljflcmbaaPCex42
namespace Go.Proofs.Ytefpnnljflcmbaa.Pure
open Go.Proofs.Ytefpnnljflcmbaa.PCe
theorem CellGo : hindsightlaw02_CellGo.Pure := trivial
end Go.Proofs.Ytefpnnljflcmbaa.Pure
