/- Nodes: steps of the walks' pure part. -/
import Derived.Test.YtcbdjcjbnmjojaaNdR
set_option linter.unusedSimpArgs false
set_option linter.unusedVariables false
namespace Go.Vm.Node
theorem right_no {n : Nd} {i : Nat} (h : i < n.keys.length) (h2 : ¬ keyAt n.keys i) : right n = false := by
  have : ¬ KeysOk n.keys := fun k => h2 (k i h)
  simp [right, this]
theorem right_leaf {n : Nd} (hk : KeysOk n.keys) (hl : n.leaf = true) : right n = (n.cells.all Cl.right && decide (n.cells.length = n.keys.length ∧ n.kids.length = 0)) := by simp [right, hk, hl]
theorem right_inner {n : Nd} (hk : KeysOk n.keys) (hl : n.leaf = false) : right n = (n.kids.all isPg && decide (0 < n.keys.length ∧ n.kids.length = n.keys.length + 1 ∧ n.cells.length = 0)) := by simp [right, hk, hl]
theorem right_shape {n : Nd} (h : right n = true) : shape n = true := by rw [right_eq, Bool.and_eq_true] at h; exact h.1
theorem right_keys {n : Nd} (h : right n = true) : KeysOk n.keys := by
  simp only [right, Bool.and_eq_true, decide_eq_true_eq] at h; exact h.1
theorem shape_leaf {n : Nd} (h : shape n = true) (hl : n.leaf = true) : n.cells.length = n.keys.length ∧ n.kids = [] := by simpa [shape, hl] using h
theorem shape_inner {n : Nd} (h : shape n = true) (hl : n.leaf = false) : n.kids.length = n.keys.length + 1 ∧ n.cells = [] := by simpa [shape, hl] using h
theorem right_cell {n : Nd} (h : right n = true) (hl : n.leaf = true) {i : Nat} (hi : i < n.keys.length) : (n.cells.getD i default).right = true := by
  have hs := shape_leaf (right_shape h) hl
  have hc : i < n.cells.length := by omega
  simp only [right, hl, if_true, Bool.and_eq_true] at h
  have := List.all_eq_true.1 h.2.1 _ (List.getElem_mem hc)
  simpa [hc] using this
theorem right_kid {n : Nd} (h : right n = true) (hl : n.leaf = false) {i : Nat} (hi : i ≤ n.keys.length) : 1 ≤ n.kids.getD i 0 ∧ n.kids.getD i 0 < 4096 := by
  have hs := shape_inner (right_shape h) hl
  have hc : i < n.kids.length := by omega
  simp only [right, hl, Bool.false_eq_true, if_false, Bool.and_eq_true] at h
  have := List.all_eq_true.1 h.2.1 _ (List.getElem_mem hc)
  have := of_decide_eq_true this
  simpa [hc] using this
theorem cright_len {c : Cl} (h : c.right = true) : 0 ≤ c.len ∧ c.len ≤ 8192 ∧ (c.len ≤ 120 → (c.data.length : Int) = c.len ∧ c.page = 0) ∧ (120 < c.len → c.data = [] ∧ 1 ≤ c.page ∧ c.page < 4096) := by
  unfold Cl.right at h
  split at h
  · cases h
  · split at h
    · have := of_decide_eq_true h
      exact ⟨by omega, by omega, fun _ => this, fun _ => by omega⟩
    · rw [Bool.and_eq_true] at h
      have h1 := of_decide_eq_true h.1
      have h2 := of_decide_eq_true h.2
      exact ⟨by omega, by omega, fun _ => by omega, fun _ => ⟨h1, h2⟩⟩
def Cl.size (c : Cl) : Int := if c.len ≤ 120 then c.len else 4
theorem body_nil (leaf : Bool) : body leaf [] = [] := rfl
theorem body_snoc (leaf : Bool) (l : List Pt) (x : Pt) : body leaf (l ++ [x]) = body leaf l ++ pb leaf x := by simp [body]
/-- The bytes of the first parts. -/
def bTo (n : Nd) (k : Nat) : List UInt8 := body n.leaf ((parts n).take k)
theorem bTo_zero (n : Nd) : bTo n 0 = [] := rfl
theorem bTo_all (n : Nd) : bTo n n.keys.length = body n.leaf (parts n) := by rw [bTo, ← parts_len, List.take_length]
theorem bTo_succ {n : Nd} {k : Nat} (h : k < n.keys.length) : bTo n (k + 1) = bTo n k ++ pb n.leaf (ptAt n k) := by
  have hk : k < (parts n).length := by rw [parts_len]; exact h
  have := parts_get n h
  rw [List.getD_eq_getElem?_getD, List.getElem?_eq_getElem hk, Option.getD_some] at this
  rw [bTo, List.take_succ_eq_append_getElem hk, body_snoc, this]; rfl
theorem pbl_leaf {n : Nd} {k : Nat} (h : right n = true) (hl : n.leaf = true) (hk : k < n.keys.length) : ((pb true (ptAt n k)).length : Int) = 3 + (n.keys.getD k []).length + (n.cells.getD k default).size := by
  have hc := cright_len (right_cell h hl hk)
  have hn := hc.1
  unfold pb ptAt Cl.size
  simp only [hl, if_true, true_and, List.length_cons, List.length_append, beW_len]
  split
  · rename_i h2
    have := (hc.2.2.1 h2).1
    omega
  · rw [beW_len]; omega
theorem pbl_inner {n : Nd} {k : Nat} (hl : n.leaf = false) : (pb false (ptAt n k)).length = 5 + (n.keys.getD k []).length := by
  unfold pb ptAt
  simp [hl, beW_len]; omega
theorem pbl_le {n : Nd} {k : Nat} (h : right n = true) (hk : k < n.keys.length) : (pb n.leaf (ptAt n k)).length ≤ 223 := by
  have h1 := (right_keys h k hk).1
  cases hl : n.leaf with
  | true =>
    have := pbl_leaf h hl hk
    have hc := cright_len (right_cell h hl hk)
    unfold Cl.size at this
    split at this <;> omega
  | false =>
    have := pbl_inner (n := n) (k := k) hl
    omega
theorem bTo_le {n : Nd} (h : right n = true) : ∀ k, k ≤ n.keys.length → (bTo n k).length ≤ 223 * k
  | 0, _ => by rw [bTo_zero]; exact Nat.zero_le _
  | k + 1, hk => by
    have ih := bTo_le h k (by omega)
    have := pbl_le h (show k < n.keys.length by omega)
    rw [bTo_succ (by omega), List.length_append]; omega
/-- A node's size. -/
def sizeN (n : Nd) : Nat := (bytesR (toR n)).length
theorem sizeN_eq (n : Nd) : sizeN n = (if n.leaf then 3 else 7) + (bTo n n.keys.length).length := by
  unfold sizeN bytesR hd
  rw [bTo_all, List.length_append]
  cases hl : n.leaf <;> simp [toR, hl, beW_len]
theorem keys_step {ks : List (List UInt8)} {k : Nat} (h : ∀ j, j < k → keyAt ks j) (hk : keyAt ks k) : ∀ j, j < k + 1 → keyAt ks j := fun j hj => by
  by_cases e : j = k
  · rw [e]; exact hk
  · exact h j (by omega)
end Go.Vm.Node
