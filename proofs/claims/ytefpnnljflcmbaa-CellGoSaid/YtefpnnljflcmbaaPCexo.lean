-- Written by a program of this session (wip/tool), which goes by the kit's print.
import Derived.Test.YtefpnnljflcmbaaPCex0
import Derived.Test.YtefpnnljflcmbaaWOpen
namespace Go.Proofs.Ytefpnnljflcmbaa.PCe
open Go.RowKit Go.Proofs.YtefpnnljflcmbaaW.PrintWords Go.Proofs.YtefpnnljflcmbaaW.PrintLast Go.Proofs.YtefpnnljflcmbaaW.PrintMore
attribute [local go_sem] max2_int min2_int max_two min_two max_three min_three max_four min_four   -- for this text's walks alone
set_option linter.unusedVariables false
set_option linter.unusedSimpArgs false

theorem opens35 : WOpen.Opens Try.prog 35 k35 good35 :=
  (WOpen.opens_struct_all (fun x : S35 => (x.f0, x.f1, x.f2)) (fun a => (⟨a.1, a.2.1, a.2.2⟩ : S35)) (fun _ => rfl) Try.underlying35 (by kernel_rfl) (fun fuel => (WOpen.opensFs_cons (off := 0) (n := 1) rfl (by kernel_rfl) ((WOpen.opens_int Try.underlying5) fuel) (WOpen.opensFs_cons (off := 1) (n := 1) rfl (by kernel_rfl) ((WOpen.opens_int Try.underlying2) fuel) (WOpen.opensFs_one (off := 2) (n := 1) rfl (by kernel_rfl) ((WOpen.opens_string Try.underlying9) fuel)))))).weaken (fun _ h => h)
end Go.Proofs.Ytefpnnljflcmbaa.PCe
