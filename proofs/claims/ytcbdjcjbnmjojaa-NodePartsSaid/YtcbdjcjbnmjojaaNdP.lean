/- Nodes: plain data, and what may be. -/
import Derived.Test.YtcbdjcjbnmjojaaV2
set_option linter.unusedSimpArgs false
set_option linter.unusedVariables false
namespace Go.Vm.Node
structure Cl where
  len : Int
  data : List UInt8
  page : Int
  deriving DecidableEq
instance : Inhabited Cl := ⟨⟨0, [], 0⟩⟩
structure Nd where
  leaf : Bool
  keys : List (List UInt8)
  cells : List Cl
  kids : List Int
  deriving DecidableEq
structure Pt where
  key : List UInt8
  len : Int
  data : List UInt8
  page : Int
  deriving DecidableEq
instance : Inhabited Pt := ⟨⟨[], 0, [], 0⟩⟩
structure Rn where
  leaf : Bool
  kid : Int
  l : List Pt
  deriving DecidableEq
def encC (c : Cl) : V := .agg [.int .i64 c.len, st c.data, .int .i64 c.page]
def encN (n : Nd) : V := .agg [.bool n.leaf, .sl 1 (n.keys.map st) .no, .sl 3 (n.cells.map encC) .no, .sl 1 (n.kids.map (V.int .i64)) .no]
def encP (p : Pt) : V := .agg [st p.key, .int .i64 p.len, st p.data, .int .i64 p.page]
def encR (x : Rn) : V := .agg [.bool x.leaf, .int .i64 x.kid, .sl 4 (x.l.map encP) .no]
def isPg (p : Int) : Bool := decide (1 ≤ p ∧ p < 4096)
def Cl.right (c : Cl) : Bool := if c.len < 0 ∨ 8192 < c.len then false else if c.len ≤ 120 then decide ((c.data.length : Int) = c.len ∧ c.page = 0) else decide (c.data = []) && isPg c.page
def keyAt (ks : List (List UInt8)) (i : Nat) : Prop := (ks.getD i []).length ≤ 100 ∧ (0 < i → ks.getD (i - 1) [] < ks.getD i [])
instance (ks : List (List UInt8)) (i : Nat) : Decidable (keyAt ks i) := by unfold keyAt; infer_instance
def KeysOk (ks : List (List UInt8)) : Prop := ∀ i, i < ks.length → keyAt ks i
instance (ks : List (List UInt8)) : Decidable (KeysOk ks) := by unfold KeysOk; infer_instance
def shape (n : Nd) : Bool := if n.leaf then decide (n.cells.length = n.keys.length ∧ n.kids = []) else decide (n.kids.length = n.keys.length + 1 ∧ n.cells = [])
/-- Which nodes may be. -/
def right (n : Nd) : Bool := decide (KeysOk n.keys) && (if n.leaf then n.cells.all Cl.right && decide (n.cells.length = n.keys.length ∧ n.kids.length = 0) else n.kids.all isPg && decide (0 < n.keys.length ∧ n.kids.length = n.keys.length + 1 ∧ n.cells.length = 0))
/-- A node's parts. -/
def ptAt (n : Nd) (i : Nat) : Pt := if n.leaf then ⟨n.keys.getD i [], (n.cells.getD i default).len, (n.cells.getD i default).data, (n.cells.getD i default).page⟩ else ⟨n.keys.getD i [], 0, [], n.kids.getD (i + 1) 0⟩
def parts (n : Nd) : List Pt := (List.range n.keys.length).map (ptAt n)
def toR (n : Nd) : Rn := ⟨n.leaf, if n.leaf then 0 else n.kids.getD 0 0, parts n⟩
/-- The document's form; what has none has an empty one. -/
def asR (n : Nd) : Rn := if shape n then toR n else ⟨n.leaf, 0, []⟩
def ptOk (leaf : Bool) (x : Pt) : Bool := if leaf then (⟨x.len, x.data, x.page⟩ : Cl).right else decide (x.len = 0 ∧ x.data = []) && isPg x.page
def rightR (x : Rn) : Bool := (if x.leaf then decide (x.kid = 0) else decide (x.l ≠ []) && isPg x.kid) && decide (KeysOk (x.l.map (·.key))) && x.l.all (ptOk x.leaf)
theorem parts_len (n : Nd) : (parts n).length = n.keys.length := by simp [parts]
theorem parts_get (n : Nd) {i : Nat} (h : i < n.keys.length) : (parts n).getD i default = ptAt n i := by simp [parts, h]
theorem map_range_getD {α : Type} (l : List α) (d : α) : (List.range l.length).map (fun i => l.getD i d) = l := by
  apply List.ext_getElem
  · simp
  · intro i h1 h2; simp at h1; simp [h1]
theorem parts_keys (n : Nd) : (parts n).map (·.key) = n.keys := by
  unfold parts
  rw [List.map_map]
  have : (fun p : Pt => p.key) ∘ ptAt n = fun i => n.keys.getD i [] := by
    funext i; simp only [Function.comp, ptAt]; split <;> rfl
  rw [this]; exact map_range_getD _ _
theorem all_range {α : Type} (l : List α) (d : α) (p : α → Bool) : l.all p = (List.range l.length).all fun i => p (l.getD i d) := by
  conv => lhs; rw [← map_range_getD l d]
  rw [List.all_map]; rfl
theorem parts_all (n : Nd) (h : shape n = true) : ((if n.leaf then true else isPg (n.kids.getD 0 0)) && (parts n).all (ptOk n.leaf)) = if n.leaf then n.cells.all Cl.right else n.kids.all isPg := by
  unfold shape at h
  unfold parts
  rw [List.all_map]
  cases hl : n.leaf with
  | true =>
    rw [hl] at h
    simp only [if_true, Bool.true_and] at h ⊢
    have h := of_decide_eq_true h
    rw [all_range n.cells default, h.1]
    congr 1
    funext i
    simp [Function.comp, ptAt, hl, ptOk]
  | false =>
    rw [hl] at h
    simp only [Bool.false_eq_true, if_false] at h ⊢
    have h := of_decide_eq_true h
    rw [all_range n.kids 0, h.1, List.range_succ_eq_map, List.all_cons, List.all_map]
    congr 1
    congr 1
    funext i
    simp [Function.comp, ptAt, hl, ptOk]
theorem right_eq (n : Nd) : right n = (shape n && rightR (toR n)) := by
  cases hs : shape n with
  | false =>
    unfold shape at hs
    unfold right
    cases hl : n.leaf with
    | true =>
      rw [hl] at hs
      simp only [if_true, decide_eq_false_iff_not] at hs
      have : decide (n.cells.length = n.keys.length ∧ n.kids.length = 0) = false := decide_eq_false fun h => hs ⟨h.1, List.eq_nil_of_length_eq_zero h.2⟩
      simp only [hl, if_true, this, Bool.and_false, Bool.false_and]
    | false =>
      rw [hl] at hs
      simp only [Bool.false_eq_true, if_false, decide_eq_false_iff_not] at hs
      have : decide (0 < n.keys.length ∧ n.kids.length = n.keys.length + 1 ∧ n.cells.length = 0) = false := decide_eq_false fun h => hs ⟨h.2.1, List.eq_nil_of_length_eq_zero h.2.2⟩
      simp only [hl, Bool.false_eq_true, if_false, this, Bool.and_false, Bool.false_and]
  | true =>
    have hp := parts_all n hs
    unfold right rightR toR
    rw [parts_keys]
    unfold shape at hs
    cases hl : n.leaf with
    | true =>
      rw [hl] at hs hp
      simp only [if_true, Bool.true_and, decide_true] at hs hp ⊢
      have h := of_decide_eq_true hs
      rw [hp, h.2, h.1]
      simp
    | false =>
      rw [hl] at hs hp
      simp only [Bool.false_eq_true, if_false, Bool.true_and] at hs hp ⊢
      have h := of_decide_eq_true hs
      rw [← hp, h.1, h.2]
      have : decide (parts n ≠ []) = decide (0 < n.keys.length) := by
        rw [decide_eq_decide, ← parts_len n]
        exact List.length_pos_iff.symm
      rw [this]
      have h0 : decide (0 < n.keys.length ∧ n.keys.length + 1 = n.keys.length + 1 ∧ ([] : List Cl).length = 0) = decide (0 < n.keys.length) := by rw [decide_eq_decide]; simp
      rw [h0]
      generalize decide (0 < n.keys.length) = a
      generalize isPg (n.kids.getD 0 0) = b
      generalize decide (KeysOk n.keys) = c
      generalize (parts n).all (ptOk false) = d
      revert a b c d; decide
theorem toR_inj {n m : Nd} (hn : shape n = true) (hm : shape m = true) (h : toR n = toR m) : n = m := by
  have hk := congrArg (fun x : Rn => x.l.map (·.key)) h
  have hl := congrArg Rn.leaf h
  have hkid := congrArg Rn.kid h
  have hp := congrArg Rn.l h
  simp only [toR, parts_keys] at hk hl hkid hp
  obtain ⟨l1, k1, c1, d1⟩ := n
  obtain ⟨l2, k2, c2, d2⟩ := m
  simp only at hk hl
  subst hk hl
  unfold shape at hn hm
  simp only at hn hm hkid
  have hg : ∀ i, i < k1.length → ptAt ⟨l1, k1, c1, d1⟩ i = ptAt ⟨l1, k1, c2, d2⟩ i := fun i hi => by
    rw [← parts_get ⟨l1, k1, c1, d1⟩ hi, ← parts_get ⟨l1, k1, c2, d2⟩ hi, hp]
  cases l1 with
  | true =>
    simp only [if_true] at hn hm
    have hn := of_decide_eq_true hn
    have hm := of_decide_eq_true hm
    have : c1 = c2 := by
      apply List.ext_getElem
      · rw [hn.1, hm.1]
      · intro i h1 h2
        have := hg i (by rw [← hn.1]; exact h1)
        simp only [ptAt, if_true, Pt.mk.injEq, true_and, List.getD_eq_getElem?_getD, h1, h2, List.getElem?_eq_getElem, Option.getD_some] at this
        obtain ⟨a, b, c⟩ := this
        cases hx : c1[i]; cases hy : c2[i]; rw [hx, hy] at a b c; simp at a b c; simp [a, b, c]
    rw [this, hn.2, hm.2]
  | false =>
    simp only [Bool.false_eq_true, if_false] at hn hm hkid
    have hn := of_decide_eq_true hn
    have hm := of_decide_eq_true hm
    have : d1 = d2 := by
      apply List.ext_getElem
      · rw [hn.1, hm.1]
      · intro i h1 h2
        rcases i with _ | i
        · simpa [h1, h2] using hkid
        · have := hg i (by omega)
          simpa [ptAt, h1, h2] using this
    rw [this, hn.2, hm.2]
end Go.Vm.Node
