/- Nodes: what the halves hold, and how large they are. -/
import Derived.Test.YtcbdjcjbnmjojaaNdH0
set_option linter.unusedSimpArgs false
set_option linter.unusedVariables false
namespace Go.Vm.Node
theorem getD_take_drop {α : Type} (l : List α) (d : α) (f t i : Nat) (h : f + i < t) : ((l.take t).drop f).getD i d = l.getD (f + i) d := by
  simp [List.getD_eq_getElem?_getD, List.getElem?_drop, List.getElem?_take, h]
theorem parts_leaf {n : Nd} (hl : n.leaf = true) (f t : Nat) (ht : t ≤ n.keys.length) : parts (leafPart n f t) = ((parts n).take t).drop f := by
  apply List.ext_getElem
  · simp only [parts_len, leafPart, List.length_drop, List.length_take]
  · intro i h1 h2
    have hi : i < (leafPart n f t).keys.length := by rw [parts_len] at h1; exact h1
    have h3 : i < t - f := by simp only [leafPart, List.length_drop, List.length_take] at hi; omega
    have e1 := parts_get _ hi
    rw [List.getD_eq_getElem?_getD, List.getElem?_eq_getElem h1, Option.getD_some] at e1
    have e2 := parts_get n (i := f + i) (by omega)
    rw [← getD_take_drop (parts n) default f t i (by omega), List.getD_eq_getElem?_getD, List.getElem?_eq_getElem h2, Option.getD_some] at e2
    rw [e1, e2]
    unfold ptAt
    simp only [hl, leafPart, if_true]
    rw [getD_take_drop _ _ _ _ _ (by omega), getD_take_drop _ _ _ _ _ (by omega)]
theorem parts_inner {n : Nd} (hl : n.leaf = false) (f t : Nat) (ht : t ≤ n.keys.length) : parts (innerPart n f t) = ((parts n).take t).drop f := by
  apply List.ext_getElem
  · simp only [parts_len, innerPart, List.length_drop, List.length_take]
  · intro i h1 h2
    have hi : i < (innerPart n f t).keys.length := by rw [parts_len] at h1; exact h1
    have h3 : i < t - f := by simp only [innerPart, List.length_drop, List.length_take] at hi; omega
    have e1 := parts_get _ hi
    rw [List.getD_eq_getElem?_getD, List.getElem?_eq_getElem h1, Option.getD_some] at e1
    have e2 := parts_get n (i := f + i) (by omega)
    rw [← getD_take_drop (parts n) default f t i (by omega), List.getD_eq_getElem?_getD, List.getElem?_eq_getElem h2, Option.getD_some] at e2
    rw [e1, e2]
    unfold ptAt
    simp only [hl, innerPart, Bool.false_eq_true, if_false]
    rw [getD_take_drop _ _ _ _ _ (by omega), getD_take_drop _ _ _ _ _ (by omega)]
    rfl
theorem keysOk_drop {ks : List (List UInt8)} (h : KeysOk ks) (f : Nat) : KeysOk (ks.drop f) := fun j hj => by
  have hj' : f + j < ks.length := by rw [List.length_drop] at hj; omega
  have h1 := h (f + j) hj'
  have e1 : (ks.drop f).getD j [] = ks.getD (f + j) [] := by simp [List.getD_eq_getElem?_getD, List.getElem?_drop]
  unfold keyAt at h1 ⊢
  rw [e1]
  refine ⟨h1.1, fun h0 => ?_⟩
  have e2 : (ks.drop f).getD (j - 1) [] = ks.getD (f + j - 1) [] := by
    have : f + (j - 1) = f + j - 1 := by omega
    simp [List.getD_eq_getElem?_getD, List.getElem?_drop, this]
  rw [e2]; exact h1.2 (by omega)
theorem right_leafPart {n : Nd} (h : right n = true) (hl : n.leaf = true) (f t : Nat) : right (leafPart n f t) = true := by
  have hs := shape_leaf (right_shape h) hl
  have hk := right_keys h
  simp only [right, hl, if_true, Bool.and_eq_true] at h
  rw [right_leaf (keysOk_drop (keysOk_take hk t) f) rfl]
  simp only [leafPart, Bool.and_eq_true, decide_eq_true_eq, List.length_take, List.length_drop, List.length_nil, and_true]
  refine ⟨?_, by omega⟩
  rw [List.all_eq_true]
  exact fun x hx => List.all_eq_true.1 h.2.1 x (List.mem_of_mem_take (List.mem_of_mem_drop hx))
theorem right_innerPart {n : Nd} (h : right n = true) (hl : n.leaf = false) {f t : Nat} (h1 : f < t) (h2 : t ≤ n.keys.length) : right (innerPart n f t) = true := by
  have hs := shape_inner (right_shape h) hl
  have hk := right_keys h
  simp only [right, hl, Bool.false_eq_true, if_false, Bool.and_eq_true] at h
  rw [right_inner (keysOk_drop (keysOk_take hk t) f) rfl]
  simp only [innerPart, Bool.and_eq_true, decide_eq_true_eq, List.length_take, List.length_drop, List.length_nil, and_true]
  refine ⟨?_, by omega, by omega⟩
  rw [List.all_eq_true]
  exact fun x hx => List.all_eq_true.1 h.2.1 x (List.mem_of_mem_take (List.mem_of_mem_drop hx))
theorem cut_le {n : Nd} (h : ¬ n.keys.length < leastN n) : 1 ≤ cutN n ∧ cutN n ≤ lastN n ∧ lastN n + leastN n = n.keys.length + 1 := by
  have hl : lastN n = n.keys.length - leastN n + 1 := rfl
  have := adv_le n (lastN n) (lastN n) 1 (by omega)
  unfold cutN
  simp only
  split <;> omega
theorem bTo_mono0 {n : Nd} {k : Nat} (h : k ≤ n.keys.length) : (bTo n k).length ≤ (bTo n n.keys.length).length := by
  have e : parts n = (parts n).take k ++ (parts n).drop k := (List.take_append_drop k _).symm
  rw [bTo_all]
  conv => rhs; rw [e]
  unfold bTo body
  rw [List.flatMap_append, List.length_append]
  omega
theorem body_append (leaf : Bool) (a b : List Pt) : body leaf (a ++ b) = body leaf a ++ body leaf b := by simp [body]
/-- A leaf's size, out of what stands ahead of two places. -/
theorem size_leaf {n : Nd} (hl : n.leaf = true) {f t : Nat} (h1 : f ≤ t) (h2 : t ≤ n.keys.length) : sizeN (leafPart n f t) + (bTo n f).length = 3 + (bTo n t).length := by
  have e : (parts n).take t = (parts n).take f ++ ((parts n).take t).drop f := by
    have := (List.take_append_drop f ((parts n).take t)).symm
    rw [List.take_take, Nat.min_eq_left h1] at this
    exact this
  have hs : sizeN (leafPart n f t) = 3 + (body true (((parts n).take t).drop f)).length := by
    rw [sizeN_eq, bTo_all, parts_leaf hl f t h2]
    rfl
  have hb : (bTo n t).length = (bTo n f).length + (body true (((parts n).take t).drop f)).length := by
    unfold bTo
    rw [hl]
    conv => lhs; rw [e]
    rw [body_append, List.length_append]
  omega
theorem some_size {n : Nd} (hl : n.leaf = true) {i : Nat} (h : i ≤ n.keys.length) : sizeN (someN n i) = 3 + (bTo n i).length := by
  have := size_leaf hl (Nat.zero_le i) h
  rw [bTo_zero] at this
  unfold someN
  rw [hl, if_pos rfl]
  simpa using this
/-- Where the loop stands: one more would be half, and the place ahead of it is less than half. -/
theorem adv_prop {n : Nd} {last : Nat} : ∀ f i, i ≤ last → last ≤ i + f → (1 < i → 2 * sizeN (someN n (i - 1)) < sizeN n) → (adv n last f i = last ∨ sizeN n ≤ 2 * sizeN (someN n (adv n last f i))) ∧ (1 < adv n last f i → 2 * sizeN (someN n (adv n last f i - 1)) < sizeN n)
  | 0, i, h1, h2, h3 => ⟨.inl (by show i = last; omega), h3⟩
  | f + 1, i, h1, h2, h3 => by
    rw [adv]
    by_cases hc : i < last ∧ 2 * sizeN (someN n i) < sizeN n
    · rw [if_pos hc]
      exact adv_prop f (i + 1) (by omega) (by omega) (fun _ => by simpa using hc.2)
    · rw [if_neg hc]
      refine ⟨?_, h3⟩
      omega
theorem bTo_step {n : Nd} {k : Nat} (hr : right n = true) (h : k < n.keys.length) : (bTo n (k + 1)).length ≤ (bTo n k).length + 223 ∧ (bTo n k).length + 1 ≤ (bTo n (k + 1)).length := by
  have := pbl_le hr h
  have := pb_len n.leaf (ptAt n k)
  rw [bTo_succ h, List.length_append]; omega
/-- A leaf that is too large by one key alone has halves that are not. -/
theorem halves_small {n : Nd} (hr : right n = true) (hl : n.leaf = true) (h2 : 2 ≤ n.keys.length) {at_ : Nat} (ha : at_ < n.keys.length) (hs : sizeN n ≤ 512 + (pb true (ptAt n at_)).length) :
    sizeN (leafPart n 0 (cutN n)) ≤ 512 ∧ sizeN (leafPart n (cutN n) n.keys.length) ≤ 512 := by
  have hle : leastN n = 2 := by unfold leastN; rw [hl]; rfl
  have hc := cut_le (n := n) (by omega)
  have hpl := pbl_le hr ha
  rw [hl] at hpl
  have hN := sizeN_eq n
  rw [hl] at hN
  simp only [if_true] at hN
  have hp := adv_prop (n := n) (last := lastN n) (lastN n) 1 (by omega) (by omega) (fun h => by omega)
  have hA := adv_le n (lastN n) (lastN n) 1 (by omega)
  have hcd : cutN n = if 1 < adv n (lastN n) (lastN n) 1 ∧ 512 < sizeN (someN n (adv n (lastN n) (lastN n) 1)) then adv n (lastN n) (lastN n) 1 - 1 else adv n (lastN n) (lastN n) 1 := rfl
  generalize adv n (lastN n) (lastN n) 1 = i at hp hA hcd
  have hsi := some_size hl (i := i) (by omega)
  have hs1 := some_size hl (i := i - 1) (by omega)
  have hst := bTo_step hr (k := i - 1) (by omega)
  rw [show i - 1 + 1 = i by omega] at hst
  have hz0 : (bTo n 0).length = 0 := rfl
  have hm := bTo_mono0 (n := n) (k := i) (by omega)
  have hlast := bTo_step hr (k := n.keys.length - 1) (by omega)
  rw [show n.keys.length - 1 + 1 = n.keys.length by omega] at hlast
  have hlaste : lastN n = n.keys.length - 1 := by omega
  by_cases hcut : 1 < i ∧ 512 < sizeN (someN n i)
  · rw [if_pos hcut] at hcd
    have q1 := size_leaf hl (f := 0) (t := i - 1) (Nat.zero_le _) (by omega)
    have q2 := size_leaf hl (f := i - 1) (t := n.keys.length) (by omega) (Nat.le_refl _)
    have := hp.2 hcut.1
    rw [hcd]
    omega
  · rw [if_neg hcut] at hcd
    have q1 := size_leaf hl (f := 0) (t := i) (Nat.zero_le _) (by omega)
    have q2 := size_leaf hl (f := i) (t := n.keys.length) (by omega) (Nat.le_refl _)
    rw [hcd]
    rcases Nat.lt_or_ge 1 i with h1 | h1
    · rcases hp.1 with h | h
      · rw [h, hlaste] at q1 q2 hsi hm hcut h1 ⊢
        rw [hlaste] at *
        omega
      · omega
    · have : i = 1 := by omega
      subst this
      have hz1 : (bTo n (1 - 1)).length = 0 := rfl
      rcases hp.1 with h | h
      · rw [← h] at hlaste
        rw [show n.keys.length - 1 = 1 by omega] at hlast
        omega
      · omega
end Go.Vm.Node
