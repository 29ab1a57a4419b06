/- How nodes come in. -/
import Derived.Test.YtcbdjcjbnmjojaaV2
import Derived.Test.YtcbdjcjbnmjojaaNdP
import Derived.Test.YtcbdjcjbnmjojaaFn
set_option linter.unusedSimpArgs false
set_option linter.unusedVariables false
namespace Go.Vm.Try
open Go.Proofs Go.Vm.Node
theorem op_bytes : Op1 Try.prog 27 (fun l : List UInt8 => .sl 1 (l.map u8) .no) (fun l => l.length ≤ 140737488351232) :=
  (op_slice 0 1 0 Try.underlying27 (by kernel_rfl) (by kernel_rfl) (fun _ => rfl) (op_byte Try.underlying5)).map id _ _ (fun _ _ => rfl) (fun l h => by have := h.2.1; simpa using this)
theorem op_key : Op1 Try.prog 9 st (fun l => l.length ≤ 140737488351232) :=
  (op_string Try.underlying9).map (fun s => s.data.toList) st _ (fun s _ => st_of s) (fun s h => by
    have h2 : s.data.size ≤ 140737488351232 := h
    show s.data.toList.length ≤ 140737488351232
    rw [Array.length_toList]; exact h2)
theorem op_keys : Op1 Try.prog 22 (fun l : List (List UInt8) => .sl 1 (l.map st) .no) (fun l => l.length ≤ 140737488351232) :=
  (op_slice [] 16 0 Try.underlying22 (by kernel_rfl) (by kernel_rfl) (fun _ => rfl) op_key).map id _ _ (fun _ _ => rfl) (fun l h => by have := h.2.1; simp only [id]; omega)
theorem op_cell : Op1 Try.prog 92 encC (fun _ => True) :=
  (op_struct Try.underlying92 (by kernel_rfl) fun fuel =>
    opFs_cons (off := 0) (n := 1) rfl (by kernel_rfl) (op_int Try.underlying3 fuel) <|
    opFs_cons (off := 1) (n := 1) rfl (by kernel_rfl) (op_key fuel) <|
    opFs_one (off := 2) (n := 1) rfl (by kernel_rfl) (op_int Try.underlying3 fuel)).map
  (fun a => (⟨a.1, a.2.1, a.2.2⟩ : Cl)) encC (fun _ => True) (fun _ _ => rfl) (fun _ _ => trivial)
theorem op_cells : Op1 Try.prog 23 (fun l : List Cl => .sl 3 (l.map encC) .no) (fun l => l.length ≤ 140737488351232) :=
  (op_slice default 32 2 Try.underlying23 (by kernel_rfl) (by kernel_rfl) (fun _ => rfl) op_cell).map id _ _ (fun _ _ => rfl) (fun l h => by have := h.2.1; simp only [id]; omega)
theorem op_kids : Op1 Try.prog 24 (fun l : List Int => .sl 1 (l.map (V.int .i64)) .no) (fun l => l.length ≤ 140737488351232) :=
  (op_slice 0 8 0 Try.underlying24 (by kernel_rfl) (by kernel_rfl) (fun _ => rfl) (op_int Try.underlying3)).map id _ _ (fun _ _ => rfl) (fun l h => by have := h.2.1; simp only [id]; omega)
structure Ng (n : Nd) : Prop where
  k : n.keys.length ≤ 140737488351232
  c : n.cells.length ≤ 140737488351232
  d : n.kids.length ≤ 140737488351232
theorem op_node : Op1 Try.prog 26 encN Ng :=
  (op_struct Try.underlying26 (by kernel_rfl) fun fuel =>
    opFs_cons (off := 0) (n := 1) rfl (by kernel_rfl) (op_bool Try.underlying4 fuel) <|
    opFs_cons (off := 1) (n := 1) rfl (by kernel_rfl) (op_keys fuel) <|
    opFs_cons (off := 2) (n := 1) rfl (by kernel_rfl) (op_cells fuel) <|
    opFs_one (off := 3) (n := 1) rfl (by kernel_rfl) (op_kids fuel)).map
  (fun a => (⟨a.1, a.2.1, a.2.2.1, a.2.2.2⟩ : Nd)) encN Ng (fun _ _ => rfl) (fun a h => ⟨h.2.1, h.2.2.1, h.2.2.2⟩)
end Go.Vm.Try
