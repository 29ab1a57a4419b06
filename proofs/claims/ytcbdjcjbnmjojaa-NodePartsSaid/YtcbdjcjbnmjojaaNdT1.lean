/- Nodes: a leaf without a key; both halves together. -/
import Derived.Test.YtcbdjcjbnmjojaaNdT0
set_option linter.unusedSimpArgs false
set_option linter.unusedVariables false
namespace Go.Vm.Node
def lessN (n : Nd) (at_ : Nat) : Nd := ⟨true, n.keys.take at_ ++ n.keys.drop (at_ + 1), n.cells.take at_ ++ n.cells.drop (at_ + 1), []⟩
theorem getD_erase {α : Type} (l : List α) (d : α) (k i : Nat) (h : k < l.length) : (l.take k ++ l.drop (k + 1)).getD i d = if i < k then l.getD i d else l.getD (i + 1) d := by
  simp only [List.getD_eq_getElem?_getD, List.getElem?_append, List.length_take, Nat.min_eq_left (Nat.le_of_lt h)]
  split
  · rename_i h1; rw [List.getElem?_take, if_pos h1]
  · rename_i h1; rw [List.getElem?_drop, show k + 1 + (i - k) = i + 1 by omega]
theorem less_trans {a b c : List UInt8} (h : a < b) (k : b < c) : a < c :=
  @List.lt_trans UInt8 _ ⟨fun h k => UInt8.lt_trans h k⟩ _ _ _ h k
theorem keysOk_erase {ks : List (List UInt8)} (h : KeysOk ks) {k : Nat} (hk : k < ks.length) : KeysOk (ks.take k ++ ks.drop (k + 1)) := fun j hj => by
  have hj' : j + 1 < ks.length := by simp only [List.length_append, List.length_take, List.length_drop] at hj; omega
  unfold keyAt
  rw [getD_erase _ _ _ _ hk, getD_erase _ _ _ _ hk]
  have a1 := h j (by omega)
  have a2 := h (j + 1) hj'
  unfold keyAt at a1 a2
  rw [Nat.add_sub_cancel] at a2
  by_cases c1 : j < k
  · rw [if_pos c1, if_pos (by omega)]; exact a1
  · rw [if_neg c1]
    refine ⟨a2.1, fun h0 => ?_⟩
    by_cases c2 : j - 1 < k
    · rw [if_pos c2]
      have : j = k := by omega
      subst this
      exact less_trans (a1.2 h0) (a2.2 (by omega))
    · rw [if_neg c2, show j - 1 + 1 = j by omega]
      exact a2.2 (by omega)
theorem right_less {n : Nd} (h : right n = true) (hl : n.leaf = true) {k : Nat} (hk : k < n.keys.length) : right (lessN n k) = true := by
  have hs := shape_leaf (right_shape h) hl
  have hK := right_keys h
  simp only [right, hl, if_true, Bool.and_eq_true] at h
  rw [right_leaf (keysOk_erase hK hk) rfl]
  simp only [lessN, Bool.and_eq_true, decide_eq_true_eq, List.length_append, List.length_take, List.length_drop, List.length_nil, and_true]
  refine ⟨?_, by omega⟩
  rw [List.all_eq_true]
  intro x hx
  rcases List.mem_append.1 hx with hx | hx
  · exact List.all_eq_true.1 h.2.1 x (List.mem_of_mem_take hx)
  · exact List.all_eq_true.1 h.2.1 x (List.mem_of_mem_drop hx)
theorem parts_less {n : Nd} (hl : n.leaf = true) (hc : n.cells.length = n.keys.length) {k : Nat} (hk : k < n.keys.length) : parts (lessN n k) = (parts n).take k ++ (parts n).drop (k + 1) := by
  apply List.ext_getElem
  · simp only [parts_len, lessN, List.length_drop, List.length_take, List.length_append]
  · intro i h1 h2
    have hi : i < (lessN n k).keys.length := by rw [parts_len] at h1; exact h1
    have h3 : i + 1 < n.keys.length := by simp only [lessN, List.length_drop, List.length_take, List.length_append] at hi; omega
    have e1 := parts_get _ hi
    rw [List.getD_eq_getElem?_getD, List.getElem?_eq_getElem h1, Option.getD_some] at e1
    have e2 := getD_erase (parts n) default k i (by rw [parts_len]; exact hk)
    rw [List.getD_eq_getElem?_getD, List.getElem?_eq_getElem h2, Option.getD_some, parts_get n (show i < n.keys.length by omega), parts_get n h3] at e2
    rw [e1, e2]
    unfold ptAt
    simp only [hl, lessN, if_true]
    rw [getD_erase _ _ _ _ hk, getD_erase _ _ _ _ (by omega)]
    split <;> rfl
theorem size_less {n : Nd} (h : right n = true) (hl : n.leaf = true) {k : Nat} (hk : k < n.keys.length) : sizeN (lessN n k) + (pb true (ptAt n k)).length = sizeN n := by
  have hs := shape_leaf (right_shape h) hl
  have e1 : sizeN (lessN n k) = 3 + (body true ((parts n).take k ++ (parts n).drop (k + 1))).length := by
    rw [sizeN_eq, bTo_all, parts_less hl hs.1 hk]; rfl
  have hpk : k < (parts n).length := by rw [parts_len]; exact hk
  have hp : parts n = (parts n).take k ++ (ptAt n k :: (parts n).drop (k + 1)) := by
    have := parts_get n hk
    rw [List.getD_eq_getElem?_getD, List.getElem?_eq_getElem hpk, Option.getD_some] at this
    rw [← this, List.getElem_cons_drop, List.take_append_drop]
  have e2 : sizeN n = 3 + (body true ((parts n).take k ++ (ptAt n k :: (parts n).drop (k + 1)))).length := by
    rw [sizeN_eq, bTo_all, hl, ← hp]; rfl
  rw [e1, e2, body_append, body_append, List.length_append, List.length_append]
  have : body true (ptAt n k :: (parts n).drop (k + 1)) = pb true (ptAt n k) ++ body true ((parts n).drop (k + 1)) := by simp [body]
  rw [this, List.length_append]
  omega
/-- What the two halves are, if there are any. -/
structure Hv (n A : Nd) (K : List UInt8) (B : Nd) : Prop where
  a : right A = true
  b : right B = true
  ka : 0 < A.keys.length
  kb : 0 < B.keys.length
  c : A.cells ++ B.cells = n.cells
  d : A.kids ++ B.kids = n.kids
  la : A.keys.length ≤ n.keys.length ∧ A.cells.length ≤ n.cells.length ∧ A.kids.length ≤ n.kids.length
  lb : B.keys.length ≤ n.keys.length ∧ B.cells.length ≤ n.cells.length ∧ B.kids.length ≤ n.kids.length
theorem take_all {α : Type} (l : List α) (n : Nat) (h : l.length ≤ n) : l.take n = l := List.take_of_length_le h
theorem halves_of {n : Nd} (hr : right n = true) : (halveN n = (⟨false, [], [], []⟩, [], ⟨false, [], [], []⟩) ∧ (n.keys.length < 2 ∨ (n.leaf = false ∧ n.keys.length < 3))) ∨
    (n.leaf = true ∧ ∃ A K B, halveN n = (A, K, B) ∧ Hv n A K B ∧ A.keys ++ B.keys = n.keys ∧ B.keys.getD 0 [] = K ∧ ∀ at_, at_ < n.keys.length → 512 < sizeN (lessN n at_) ∨ (sizeN A ≤ 512 ∧ sizeN B ≤ 512)) ∨
    (n.leaf = false ∧ ∃ A K B, halveN n = (A, K, B) ∧ Hv n A K B ∧ A.keys ++ [K] ++ B.keys = n.keys) := by
  by_cases h : n.keys.length < leastN n
  · refine .inl ⟨by rw [halveN, if_pos (.inr h)], ?_⟩
    unfold leastN at h
    cases hl : n.leaf with
    | true => rw [hl] at h; exact .inl h
    | false => rw [hl] at h; exact .inr ⟨rfl, h⟩
  · have hc := cut_le h
    right
    cases hl : n.leaf with
    | true =>
      left
      have hle : leastN n = 2 := by unfold leastN; rw [hl]; rfl
      have hs := shape_leaf (right_shape hr) hl
      refine ⟨rfl, leafPart n 0 (cutN n), n.keys.getD (cutN n) [], leafPart n (cutN n) n.keys.length, ?_, ⟨right_leafPart hr hl _ _, right_leafPart hr hl _ _, ?_, ?_, ?_, ?_, ?_, ?_⟩, ?_, ?_, ?_⟩
      · rw [halveN, if_neg (by rw [hr]; simp; omega), if_pos hl]
      · simp only [leafPart, List.drop_zero, List.length_take]; omega
      · simp only [leafPart, List.length_drop, List.length_take]; omega
      · simp only [leafPart, List.drop_zero]; rw [take_all n.cells n.keys.length (by omega), List.take_append_drop]
      · simp [leafPart, hs.2]
      · simp only [leafPart, List.drop_zero, List.length_take, List.length_nil]; omega
      · simp only [leafPart, List.length_drop, List.length_take, List.length_nil]; omega
      · simp only [leafPart, List.drop_zero]; rw [take_all n.keys n.keys.length (Nat.le_refl _), List.take_append_drop]
      · simp only [leafPart]; rw [getD_take_drop _ _ _ _ _ (by omega), Nat.add_zero]
      · intro at_ ha
        rcases Nat.lt_or_ge 512 (sizeN (lessN n at_)) with hh | hh
        · exact .inl hh
        · have := size_less hr hl ha
          exact .inr (halves_small hr hl (by omega) ha (by omega))
    | false =>
      right
      have hle : leastN n = 3 := by unfold leastN; rw [hl]; rfl
      have hs := shape_inner (right_shape hr) hl
      refine ⟨rfl, innerPart n 0 (cutN n), n.keys.getD (cutN n) [], innerPart n (cutN n + 1) n.keys.length, ?_, ⟨right_innerPart hr hl (by omega) (by omega), right_innerPart hr hl (by omega) (by omega), ?_, ?_, ?_, ?_, ?_, ?_⟩, ?_⟩
      · rw [halveN, if_neg (by rw [hr]; simp; omega), if_neg (by rw [hl]; decide)]
      · simp only [innerPart, List.drop_zero, List.length_take]; omega
      · simp only [innerPart, List.length_drop, List.length_take]; omega
      · simp [innerPart, hs.2]
      · simp only [innerPart, List.drop_zero]; rw [take_all n.kids (n.keys.length + 1) (by omega), List.take_append_drop]
      · simp only [innerPart, List.drop_zero, List.length_take, List.length_nil]; omega
      · simp only [innerPart, List.length_drop, List.length_take, List.length_nil]; omega
      · simp only [innerPart, List.drop_zero]
        have hj : cutN n < n.keys.length := by omega
        rw [take_all n.keys n.keys.length (Nat.le_refl _), List.append_assoc, List.singleton_append, List.getD_eq_getElem?_getD, List.getElem?_eq_getElem hj, Option.getD_some, List.getElem_cons_drop, List.take_append_drop]
end Go.Vm.Node
