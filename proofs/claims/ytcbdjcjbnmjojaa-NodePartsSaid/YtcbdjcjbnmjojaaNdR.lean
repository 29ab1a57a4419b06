/- Nodes: reading, as the document does it and as the program does. -/
import Derived.Test.YtcbdjcjbnmjojaaNdQ
set_option linter.unusedSimpArgs false
set_option linter.unusedVariables false
namespace Go.Vm.Node
/-- How many bytes a part is told to take. -/
def used (leaf : Bool) (r : List UInt8) : Nat := if leaf then 3 + val (first 1 r) + (if val (first 2 (r.drop 1)) ≤ 120 then val (first 2 (r.drop 1)) else 4) else 1 + val (first 1 r) + 4
def fit (leaf : Bool) (r : List UInt8) : Bool := decide ((if leaf then 3 else 1) ≤ r.length ∧ used leaf r ≤ r.length)
def fits (leaf : Bool) : Nat → List UInt8 → Bool
  | 0, _ => true
  | n + 1, r => fit leaf r && fits leaf n (rdP leaf r).2
theorem rdP_snd (leaf : Bool) (r : List UInt8) : (rdP leaf r).2 = r.drop (used leaf r) := by
  unfold rdP used
  cases leaf with
  | true =>
    simp only [if_true, List.drop_drop]
    split <;> simp only <;> congr 1 <;> omega
  | false =>
    simp only [Bool.false_eq_true, if_false, List.drop_drop]
theorem fits_len (leaf : Bool) : ∀ (n : Nat) (r : List UInt8), fits leaf n r = true → n ≤ r.length
  | 0, _, _ => Nat.zero_le _
  | n + 1, r, h => by
    simp only [fits, Bool.and_eq_true] at h
    have ih := fits_len leaf n _ h.2
    have h1 := of_decide_eq_true h.1
    have hu : 1 ≤ used leaf r := by unfold used; split <;> omega
    rw [rdP_snd, List.length_drop] at ih
    omega
theorem fits_snoc (leaf : Bool) : ∀ (n : Nat) (r : List UInt8), fits leaf (n + 1) r = (fits leaf n r && fit leaf (rdR leaf n r))
  | 0, r => by simp [fits, rdR]
  | n + 1, r => by rw [fits, fits_snoc leaf n, fits, rdR, Bool.and_assoc]
theorem fit_pb {leaf : Bool} {x : Pt} (hk : x.key.length ≤ 100) (hx : ptOk leaf x = true) (r : List UInt8) : fit leaf (pb leaf x ++ r) = true := by
  have h := congrArg Prod.snd (rdP_pb hk hx r)
  have h2 := congrArg List.length h
  rw [rdP_snd, List.length_drop] at h2
  refine decide_eq_true ?_
  have hl : (if leaf then 3 else 1) ≤ (pb leaf x).length := by
    unfold pb
    cases leaf <;> simp [beW_len]
  have h3 : used leaf (pb leaf x ++ r) ≤ (pb leaf x).length := by
    unfold pb used
    simp only [List.cons_append, List.drop_succ_cons, List.drop_zero, List.append_assoc]
    rw [key1 hk]
    cases leaf with
    | true =>
      simp only [if_true, true_and, List.length_cons, List.length_append, beW_len]
      rw [first_app' _ _ (beW_len 2 x.len)]
      simp only [ptOk, if_true, Cl.right] at hx
      split at hx
      · cases hx
      · have hv : (val (beW 2 x.len) : Int) = x.len := val_2 (by omega) (by omega)
        split at hx
        · rename_i h2
          obtain ⟨h3, h4⟩ := of_decide_eq_true hx
          rw [if_pos (by omega), if_pos h2]; omega
        · rename_i h2
          rw [if_neg (by omega), if_neg h2, beW_len]; omega
    | false => simp [beW_len]; omega
  simp only [List.length_append] at h2 ⊢
  omega
theorem fits_body {leaf : Bool} : ∀ (l : List Pt) (r : List UInt8), (∀ x ∈ l, x.key.length ≤ 100 ∧ ptOk leaf x = true) → fits leaf l.length (body leaf l ++ r) = true
  | [], r, _ => rfl
  | x :: l, r, h => by
    have hx := h x (by simp)
    have ih := fits_body l r fun y hy => h y (by simp [hy])
    have e : body leaf (x :: l) ++ r = pb leaf x ++ (body leaf l ++ r) := by simp [body]
    rw [e]
    simp only [List.length_cons, fits, fit_pb hx.1 hx.2, rdP_pb hx.1 hx.2, Bool.true_and]
    exact ih
/-- The node that some bytes are, if they are one's. -/
def readB (b : List UInt8) : Option Rn := if b.length = 512 ∧ writeR (parse b) = (b, 0) then some (parse b) else none
theorem writeR_ok {x : Rn} {b : List UInt8} (h : writeR x = (b, 0)) : rightR x = true ∧ (bytesR x).length ≤ 512 ∧ page x = b := by
  unfold writeR at h
  split at h
  · rename_i h1
    split at h
    · rename_i h2
      exact ⟨h1, h2, congrArg Prod.fst h⟩
    · have := congrArg Prod.snd h; simp at this
  · have := congrArg Prod.snd h; simp at this
theorem page_len {x : Rn} (h : (bytesR x).length ≤ 512) : (page x).length = 512 := by simp [page]; omega
theorem readB_some {b : List UInt8} {x : Rn} : readB b = some x ↔ writeR x = (b, 0) := by
  unfold readB
  constructor
  · intro h
    split at h
    · rename_i h1; cases h; exact h1.2
    · cases h
  · intro h
    obtain ⟨h1, h2, h3⟩ := writeR_ok h
    have hp := parse_page h1 h2
    rw [h3] at hp
    rw [hp, if_pos ⟨by rw [← h3]; exact page_len h2, h⟩]
/-! the document's way -/
def pfx (b : List UInt8) : Bool := decide (b.getD 0 0 = 1)
def cnt (b : List UInt8) : Nat := val (first 2 (b.drop 1))
def rest (b : List UInt8) : List UInt8 := if pfx b then b.drop 3 else b.drop 7
def strict (b : List UInt8) : Bool := fits (pfx b) (cnt b) (rest b)
theorem val1 (r : List UInt8) : val (first 1 r) = (r.getD 0 0).toNat := by
  cases r <;> simp [first, val]
theorem pfx_eq (b : List UInt8) : decide (val (first 1 b) = 1) = pfx b := by
  rw [val1]
  unfold pfx
  rw [decide_eq_decide]
  constructor
  · intro h; exact UInt8.toNat_inj.1 h
  · intro h; rw [h]; rfl
theorem parse_strict {b : List UInt8} (hb : b.length = 512) (h : strict b = true) : parse b = ⟨pfx b, if pfx b then 0 else val (first 4 (b.drop 3)), rdL (pfx b) (cnt b) (rest b)⟩ := by
  have hl := fits_len _ _ _ h
  have hr : (rest b).length ≤ 512 := by unfold rest; split <;> simp <;> omega
  unfold parse
  simp only
  rw [pfx_eq, Nat.min_eq_left (show val (first 2 (b.drop 1)) ≤ 512 from Nat.le_trans hl hr)]
  unfold rest cnt
  cases pfx b <;> simp
theorem strict_page {x : Rn} (h : rightR x = true) (hl : (bytesR x).length ≤ 512) : strict (page x) = true ∧ ((page x).getD 0 0 = 1 ∨ (page x).getD 0 0 = 2) := by
  have hp := rightR_parts h
  have hb := body_len x.leaf x.l
  have hn : x.l.length ≤ 512 := by
    simp only [bytesR, List.length_append] at hl; omega
  have hv : val (beW 2 (x.l.length : Int)) = x.l.length := by have := val_2 (n := x.l.length) (by omega) (by omega); omega
  obtain ⟨leaf, kid, l⟩ := x
  unfold strict page bytesR hd pfx cnt rest
  generalize List.replicate _ (0 : UInt8) = z
  simp only at hp hn hv ⊢
  cases leaf with
  | true =>
    simp only [if_true, List.append_nil, List.cons_append, List.append_assoc, List.getD_cons_zero, decide_true, List.drop_succ_cons, List.drop_zero, true_or, and_true, pfx]
    rw [first_app' _ _ (beW_len 2 _), hv, drop_app' _ _ (beW_len 2 _)]
    exact fits_body l z hp
  | false =>
    have e7 : ∀ r : List UInt8, (beW 2 (l.length : Int) ++ (beW 4 kid ++ r)).drop 6 = r := fun r => by
      rw [← List.append_assoc, drop_app' _ _ (by simp [beW_len])]
    simp only [Bool.false_eq_true, if_false, List.cons_append, List.append_assoc, List.getD_cons_zero, List.drop_succ_cons, List.drop_zero, or_true, and_true, pfx]
    rw [first_app' _ _ (beW_len 2 _), hv, e7]
    exact fits_body l z hp
theorem read_strict {b : List UInt8} (hb : b.length = 512) : readB b = if (b.getD 0 0 = 1 ∨ b.getD 0 0 = 2) ∧ strict b = true then (if writeR (parse b) = (b, 0) then some (parse b) else none) else none := by
  unfold readB
  by_cases h : writeR (parse b) = (b, 0)
  · obtain ⟨h1, h2, h3⟩ := writeR_ok h
    have := strict_page h1 h2
    rw [h3] at this
    rw [if_pos ⟨hb, h⟩, if_pos ⟨this.2, this.1⟩, if_pos h]
  · rw [if_neg (fun x => h x.2), if_neg h]; split <;> rfl
/-! the program's way -/
def pure0 (x : Rn) : Bool := if x.leaf then decide (x.kid = 0) else x.l.all fun p => decide (p.len = 0 ∧ p.data = [])
theorem rdL_pure : ∀ (n : Nat) (r : List UInt8), (rdL false n r).all (fun p => decide (p.len = 0 ∧ p.data = [])) = true
  | 0, _ => rfl
  | n + 1, r => by
    rw [rdL, List.all_cons, rdL_pure n, Bool.and_true]
    simp [rdP]
theorem parse_pure (b : List UInt8) : pure0 (parse b) = true := by
  unfold parse pure0
  cases decide (val (first 1 b) = 1) with
  | true => rfl
  | false => simp only [Bool.false_eq_true, if_false]; exact rdL_pure _ _
theorem shape_ofR (x : Rn) : shape (ofR x) = true := by
  unfold shape ofR
  cases x.leaf <;> simp
theorem toR_ofR {x : Rn} (h : pure0 x = true) : toR (ofR x) = x := by
  obtain ⟨leaf, kid, l⟩ := x
  have hp : parts (ofR ⟨leaf, kid, l⟩) = l := by
    apply List.ext_getElem
    · simp [parts_len, ofR]
    · intro i h1 h2
      have hi : i < (ofR ⟨leaf, kid, l⟩).keys.length := by simpa [ofR] using h2
      have := parts_get _ hi
      rw [List.getD_eq_getElem?_getD, List.getElem?_eq_getElem h1, Option.getD_some] at this
      rw [this]
      unfold ptAt ofR
      cases leaf with
      | true => simp [h2]
      | false =>
        simp only [pure0, Bool.false_eq_true, if_false] at h
        have := of_decide_eq_true (List.all_eq_true.1 h l[i] (List.getElem_mem h2))
        cases hx : l[i]
        rw [hx] at this
        simp at this
        simp [h2, hx, this]
  unfold toR
  rw [hp]
  cases leaf with
  | true =>
    simp only [pure0, if_true, decide_eq_true_eq] at h
    simp [ofR, h]
  | false => simp [ofR]
theorem writeN_ofR {x : Rn} (h : pure0 x = true) : writeN (ofR x) = writeR x := by
  unfold writeN writeR
  rw [right_eq, shape_ofR, toR_ofR h, Bool.true_and]
theorem writeN_eq (n : Nd) : writeN n = if shape n = true then writeR (toR n) else ([], 3) := by
  unfold writeN writeR
  rw [right_eq]
  cases shape n <;> simp
end Go.Vm.Node
