/- Nodes: halves. -/
import Derived.Test.YtcbdjcjbnmjojaaNdB0
set_option linter.unusedSimpArgs false
set_option linter.unusedVariables false
namespace Go.Vm.Node
def leafPart (n : Nd) (f t : Nat) : Nd := ⟨true, (n.keys.take t).drop f, (n.cells.take t).drop f, []⟩
def innerPart (n : Nd) (f t : Nat) : Nd := ⟨false, (n.keys.take t).drop f, [], (n.kids.take (t + 1)).drop f⟩
def someN (n : Nd) (t : Nat) : Nd := if n.leaf then leafPart n 0 t else innerPart n 0 t
def adv (n : Nd) (last : Nat) : Nat → Nat → Nat
  | 0, i => i
  | f + 1, i => if i < last ∧ 2 * sizeN (someN n i) < sizeN n then adv n last f (i + 1) else i
def leastN (n : Nd) : Nat := if n.leaf then 2 else 3
def lastN (n : Nd) : Nat := n.keys.length - leastN n + 1
def cutN (n : Nd) : Nat := let i := adv n (lastN n) (lastN n) 1; if 1 < i ∧ 512 < sizeN (someN n i) then i - 1 else i
def halveN (n : Nd) : Nd × List UInt8 × Nd :=
  if right n = false ∨ n.keys.length < leastN n then (⟨false, [], [], []⟩, [], ⟨false, [], [], []⟩)
  else if n.leaf then (leafPart n 0 (cutN n), n.keys.getD (cutN n) [], leafPart n (cutN n) n.keys.length)
  else (innerPart n 0 (cutN n), n.keys.getD (cutN n) [], innerPart n (cutN n + 1) n.keys.length)
theorem adv_le (n : Nd) (last : Nat) : ∀ f i, i ≤ last → i ≤ adv n last f i ∧ adv n last f i ≤ last
  | 0, i, h => ⟨Nat.le_refl _, h⟩
  | f + 1, i, h => by
    rw [adv]
    split
    · have := adv_le n last f (i + 1) (by omega); omega
    · exact ⟨Nat.le_refl _, h⟩
theorem adv_stop {n : Nd} {last : Nat} : ∀ f i, ¬ (i < last ∧ 2 * sizeN (someN n i) < sizeN n) → adv n last f i = i
  | 0, i, _ => rfl
  | f + 1, i, h => by rw [adv, if_neg h]
theorem adv_step {n : Nd} {last f i : Nat} (h : i < last ∧ 2 * sizeN (someN n i) < sizeN n) : adv n last (f + 1) i = adv n last f (i + 1) := by rw [adv, if_pos h]
theorem keysOk_take {ks : List (List UInt8)} (h : KeysOk ks) (i : Nat) : KeysOk (ks.take i) := fun j hj => by
  have hj' : j < i ∧ j < ks.length := by rw [List.length_take] at hj; omega
  have h1 := h j hj'.2
  have e1 : (ks.take i).getD j [] = ks.getD j [] := by simp [List.getD_eq_getElem?_getD, List.getElem?_take, hj'.1]
  have e2 : (ks.take i).getD (j - 1) [] = ks.getD (j - 1) [] := by
    have : j - 1 < i := by omega
    simp [List.getD_eq_getElem?_getD, List.getElem?_take, this]
  unfold keyAt at h1 ⊢
  rw [e1, e2]; exact h1
theorem right_some {n : Nd} (h : right n = true) {i : Nat} (h1 : 1 ≤ i) (h2 : i ≤ n.keys.length) : right (someN n i) = true := by
  have hk := right_keys h
  cases hl : n.leaf with
  | true =>
    have hs := shape_leaf (right_shape h) hl
    simp only [right, hl, if_true, Bool.and_eq_true] at h
    unfold someN
    rw [hl, if_pos rfl, right_leaf (keysOk_take hk i) rfl]
    simp only [leafPart, List.drop_zero, Bool.and_eq_true, decide_eq_true_eq, List.length_take, List.length_nil, and_true]
    refine ⟨?_, by omega⟩
    rw [List.all_eq_true]
    exact fun x hx => List.all_eq_true.1 h.2.1 x (List.mem_of_mem_take hx)
  | false =>
    have hs := shape_inner (right_shape h) hl
    simp only [right, hl, Bool.false_eq_true, if_false, Bool.and_eq_true] at h
    unfold someN
    rw [hl, if_neg (by decide), right_inner (keysOk_take hk i) rfl]
    simp only [innerPart, List.drop_zero, Bool.and_eq_true, decide_eq_true_eq, List.length_take, List.length_nil, and_true]
    refine ⟨?_, by omega, by omega⟩
    rw [List.all_eq_true]
    exact fun x hx => List.all_eq_true.1 h.2.1 x (List.mem_of_mem_take hx)
end Go.Vm.Node
