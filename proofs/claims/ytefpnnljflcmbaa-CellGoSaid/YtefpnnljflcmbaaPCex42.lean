-- Written by a program of this session (wip/tool), which goes by the kit's print.
import Derived.Test.YtefpnnljflcmbaaPCex0
import Derived.Test.YtefpnnljflcmbaaGo2
namespace Go.Proofs.Ytefpnnljflcmbaa.PCe
open Go.RowKit Go.Proofs.YtefpnnljflcmbaaW.PrintWords Go.Proofs.YtefpnnljflcmbaaW.PrintLast Go.Proofs.YtefpnnljflcmbaaW.PrintMore
attribute [local go_sem] max2_int min2_int max_two min_two max_three min_three max_four min_four   -- for this text's walks alone
set_option linter.unusedVariables false
set_option linter.unusedSimpArgs false

/-! ### hindsightlaw02_CellGo: function 9 -/
def hindsightlaw02_CellGo.Pure : Prop := True
theorem hindsightlaw02_CellGo.walk (P : hindsightlaw02_CellGo.Pure) (a0_0 : Int) (a0_1 : Int) (a0_2 : ByteArray) (a1 : Int) (w : World) (hg0_0 : (Lit.int .u8 a0_0).wf = true) (hg0_1 : (Lit.int .i64 a0_1).wf = true) (hg0_2 : a0_2.size ≤ 140737488351232) (hg1 : (Lit.int .i64 a1).wf = true) :
    Calls Try.prog 9 #[.agg #[.int .u8 a0_0, .int .i64 a0_1, .string a0_2], .int .i64 a1] w fun e w' => e = .returned (.bool true) ∧ Below w.heap.size w w' := Go2.go_all a0_0 a0_1 a0_2 a1 w

end Go.Proofs.Ytefpnnljflcmbaa.PCe
