/- How the laws' operations come in. -/
import Derived.Test.YtbicfijohjijhaaV2
import Derived.Test.YtbicfijohjijhaaVdY
set_option linter.unusedSimpArgs false
set_option linter.unusedVariables false
namespace Go.Vm.Try
open Go.Proofs
def wf64 (n : Int) : Prop := (Lit.int .i64 n).wf = true
theorem wf64_b {n : Int} (h : wf64 n) : -9223372036854775808 ≤ n ∧ n ≤ 9223372036854775807 := by
  simp [wf64, Lit.wf, IntKind.min, IntKind.max, IntKind.signed, IntKind.bits] at h
  exact h
structure Op.Good (o : Op) : Prop where
  k : wf64 o.kind
  f : wf64 o.file
  s : wf64 o.sector
  n : wf64 o.n
  b : o.b.length ≤ 140737488351232
theorem op_bytes : Op1 Try.prog 23 (fun l : List UInt8 => .sl 1 (l.map u8) .no) (fun l => l.length ≤ 140737488351232) :=
  (op_slice 0 1 0 Try.underlying23 (by kernel_rfl) (by kernel_rfl) (fun _ => rfl) (op_byte Try.underlying5)).map id _ _ (fun _ _ => rfl) (fun l h => by have := h.2.1; simpa using this)
theorem op_op : Op1 Try.prog 50 (fun o : Op => .agg (opc o)) Op.Good :=
  (op_struct Try.underlying50 (by kernel_rfl) fun fuel =>
    opFs_cons (off := 0) (n := 1) rfl (by kernel_rfl) (op_int Try.underlying3 fuel) <|
    opFs_cons (off := 1) (n := 1) rfl (by kernel_rfl) (op_int Try.underlying3 fuel) <|
    opFs_cons (off := 2) (n := 1) rfl (by kernel_rfl) (op_int Try.underlying3 fuel) <|
    opFs_cons (off := 3) (n := 1) rfl (by kernel_rfl) (op_int Try.underlying3 fuel) <|
    opFs_cons (off := 4) (n := 1) rfl (by kernel_rfl) (op_byte Try.underlying5 fuel) <|
    opFs_one (off := 5) (n := 1) rfl (by kernel_rfl) (op_bytes fuel)).map
  (fun a => (⟨a.1, a.2.1, a.2.2.1, a.2.2.2.1, a.2.2.2.2.1, a.2.2.2.2.2⟩ : Op)) (fun o => .agg (opc o)) Op.Good (fun _ _ => rfl) (fun a h => ⟨h.1, h.2.1, h.2.2.1, h.2.2.2.1, h.2.2.2.2.2⟩)
theorem op_ops : Op1 Try.prog 42 (fun l : List Op => .sl 6 (l.map fun o => .agg (opc o)) .no) (fun l => l.length ≤ 140737488351232 ∧ ∀ o ∈ l, o.Good) :=
  (op_slice ⟨0, 0, 0, 0, 0, []⟩ 64 5 Try.underlying42 (by kernel_rfl) (by kernel_rfl) (fun _ => rfl) op_op).map id _ _ (fun _ _ => rfl) (fun l h => ⟨by have := h.2.1; simp only [id]; omega, h.2.2⟩)
end Go.Vm.Try
