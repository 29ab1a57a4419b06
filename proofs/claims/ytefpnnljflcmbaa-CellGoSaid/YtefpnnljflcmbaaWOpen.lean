/- What comes in, opened by its kind: numbers, bools, strings, slices, structs, nested at will: the reading that the row gives becomes the kind's own. -/
import Derived.Test.YtefpnnljflcmbaaUCe0
import Derived.ProofKit
import Derived.OpenShut
import Derived.ShutString
import Derived.Deep.Slices
namespace Go.Proofs.Ytefpnnljflcmbaa.WOpen
set_option linter.unusedVariables false
set_option linter.unusedSimpArgs false
open Go.RowKit Go.Deep Go.Proofs.YtefpnnljflcmbaaW.PrintWords

/-- .. at one depth of reading. -/
def OpensF {α : Type} (P : Program) (t : TypeId) (d : Kd α) (good : α → Prop) (fuel : Nat) : Prop :=
  ∀ (H : Type) (enc : TypeId × Value → H) (W : World) (base : Nat) (spare : Nat → Bool) (held : Bool) (cs : List Value) (x : DataW H) (ps : List MemPlace),
    DataW.trod enc P W base spare held fuel t cs = some (x, ps) → (DataW.weights P t x).all (· ≤ reachBytes) = true → ∃ a : α, d.K W a cs ∧ good a
def Opens {α : Type} (P : Program) (t : TypeId) (d : Kd α) (good : α → Prop) : Prop := ∀ fuel, OpensF P t d good fuel

section
variable {P : Program} {t : TypeId}
theorem opens_int {k : IntKind} (ht : P.underlying t = some (.int k)) : Opens P t (Kd.int k) (fun x => (Lit.int k x).wf = true) := by
  intro fuel H enc W base spare held cs x ps h _
  obtain ⟨n, rfl, hx, hw⟩ := DataW.trod_int ht h
  exact ⟨n, rfl, hw⟩
theorem opens_bool (ht : P.underlying t = some .bool) : Opens P t Kd.bool (fun _ => True) := by
  intro fuel H enc W base spare held cs x ps h _
  obtain ⟨b, rfl, hx⟩ := DataW.trod_bool ht h
  exact ⟨b, rfl, trivial⟩
theorem opens_string (ht : P.underlying t = some .string) : Opens P t Kd.string (fun s => s.size ≤ 140737488351232) := by
  intro fuel H enc W base spare held cs x ps h hw
  obtain ⟨s, rfl, hx, _⟩ := DataW.trod_string ht h
  simp only [Prod.mk.injEq] at hx
  obtain ⟨rfl, rfl⟩ := hx
  refine ⟨s, rfl, ?_⟩
  simp only [DataW.weights, List.all_cons, List.all_nil, Bool.and_true, decide_eq_true_eq] at hw
  rw [Array.length_toList] at hw
  exact hw
theorem weightsAll_mem {H : Type} {e : TypeId} : ∀ (l : List (DataW H)), (DataW.weightsAll P e l).all (· ≤ reachBytes) = true → ∀ x ∈ l, (DataW.weights P e x).all (· ≤ reachBytes) = true := by
  intro l
  induction l with
  | nil => intro _ x hx; cases hx
  | cons d l ih =>
    intro h x hx
    simp only [DataW.weightsAll, List.all_append, Bool.and_eq_true] at h
    rcases List.mem_cons.1 hx with rfl | hx
    · exact h.1
    · exact ih h.2 x hx
theorem opens_slice {α : Type} (z0 : α) {e : TypeId} {d : Kd α} {good : α → Prop} (b : Nat) (ht : P.underlying t = some (.slice e)) (hs : P.cellsOf e = d.sz) (hb : P.bytesOf e = b) (he : ∀ fuel, OpensF P e d good fuel) :
    Opens P t (Kd.slice e d) (fun xs => xs.length ≤ 9223372036854775807 ∧ xs.length * b ≤ 140737488351232 ∧ ∀ x ∈ xs, good x) := by
  intro fuel H enc W base spare held cs x ps h hw
  rcases open_slice ht h with ⟨rfl, hx⟩ | ⟨a, len, cap, m, n, D, Pl, rfl, hba, hl, hm, hmm, hx, hel⟩
  · exact ⟨[], ⟨none, 0, rfl, Nat.le_refl _, ⟨rfl, by simp, by simp⟩⟩, by simp⟩
  · simp only [Prod.mk.injEq] at hx
    obtain ⟨rfl, rfl⟩ := hx
    simp only [DataW.weights, ht, List.all_cons, List.all_append, Bool.and_eq_true, decide_eq_true_eq] at hw
    obtain ⟨hw0, hw1, hw2⟩ := hw
    have hmn : len ≤ m := by rw [hmm]; split <;> omega
    have key : ∀ i, i < len → ∃ a' : α, ∃ c, W.cells? base (a.add (i * P.cellsOf e)) (P.cellsOf e) = some c ∧ d.K W a' c ∧ good a' := by
      intro i hi
      obtain ⟨c, h1, h2⟩ := hel i (by omega)
      obtain ⟨a', h3, h4⟩ := he n H enc W base spare held c (D i) (Pl i) h2 (weightsAll_mem _ hw1 (D i) (List.mem_map.2 ⟨i, by simpa using hi, rfl⟩))
      exact ⟨a', c, h1, h3, h4⟩
    refine ⟨(List.range len).map fun i => if h : i < len then (key i h).choose else z0, ⟨some a, cap, by simp, by simpa using hl, ⟨by simp, by have : maxLen = 9223372036854775807 := rfl; simp; omega, fun _ => ⟨a, rfl, ?_⟩⟩⟩, ?_⟩
    · intro j p hp
      obtain ⟨hj, rfl⟩ := List.getElem?_eq_some_iff.1 hp
      simp only [List.length_map, List.length_range] at hj
      simp only [List.getElem_map, List.getElem_range]
      rw [dif_pos hj]
      obtain ⟨c, h1, h2, _⟩ := (key j hj).choose_spec
      obtain ⟨_, h3, h4⟩ := World.cells?_some h1
      refine ⟨c, by rw [h3, hs], h2, ?_⟩
      intro i u hu
      have hi : i < c.length := (List.getElem?_eq_some_iff.1 hu).1
      have h5 := h4 i (by omega)
      rw [hu, hs] at h5
      rw [← h5]
      rw [Go.Proofs.YtefpnnljflcmbaaW.PrintWords.add_add]
    · refine ⟨by have : maxLen = 9223372036854775807 := rfl; simp; omega, ?_, ?_⟩
      · simp only [List.length_map, List.length_range] at hw0 ⊢
        rw [hb] at hw0
        have h1 : len * b ≤ (len + (m - len)) * b := Nat.mul_le_mul_right _ (by omega)
        have : reachBytes = 140737488351232 := rfl
        omega
      · intro y hy
        obtain ⟨i, hi, rfl⟩ := List.mem_map.1 hy
        simp only [List.mem_range] at hi
        rw [dif_pos hi]
        obtain ⟨_, _, _, h3⟩ := (key i hi).choose_spec
        exact h3

/-! ### structs: their fields, one behind the other -/
/-- Fields from 'off' on. -/
def OpensFs {α : Type} (P : Program) (fs : List Field) (off n : Nat) (d : Kd α) (good : α → Prop) (fuel : Nat) : Prop :=
  ∀ (H : Type) (enc : TypeId × Value → H) (W : World) (base : Nat) (spare : Nat → Bool) (held : Bool) (cs : List Value) (xs : List (DataW H × List MemPlace)),
    xs.length = fs.length → (∀ (i : Nat) (f : Field), fs[i]? = some f → DataW.trod enc P W base spare held fuel f.type ((cs.drop f.offset).take (P.cellsOf f.type)) = xs[i]?) →
    (DataW.weightsEach P (fs.map (·.type)) (xs.map (·.1))).all (· ≤ reachBytes) = true → ∃ a : α, d.K W a ((cs.drop off).take n) ∧ good a
theorem opensFs_one {α : Type} {d : Kd α} {good : α → Prop} {f : Field} {off n fuel : Nat} (ho : f.offset = off) (hn : P.cellsOf f.type = n) (h : OpensF P f.type d good fuel) : OpensFs P [f] off n d good fuel := by
  intro H enc W base spare held cs xs hl hx hw
  match xs, hl with
  | [y], _ =>
    have h0 := hx 0 f rfl
    simp only [List.getElem?_cons_zero] at h0
    rw [ho, hn] at h0
    simp only [List.map_cons, List.map_nil, DataW.weightsEach, List.append_nil] at hw
    exact h H enc W base spare held _ y.1 y.2 h0 hw
theorem opensFs_cons {α β : Type} {d : Kd α} {d' : Kd β} {good : α → Prop} {good' : β → Prop} {f : Field} {fs : List Field} {off n n' fuel : Nat} (ho : f.offset = off) (hn : P.cellsOf f.type = n) (h : OpensF P f.type d good fuel) (hs : OpensFs P fs (off + n) n' d' good' fuel) :
    OpensFs P (f :: fs) off (n + n') (Kd.pair d d') (fun a => good a.1 ∧ good' a.2) fuel := by
  intro H enc W base spare held cs xs hl hx hw
  match xs, hl with
  | y :: ys, hl =>
    have h0 := hx 0 f rfl
    simp only [List.getElem?_cons_zero] at h0
    rw [ho, hn] at h0
    simp only [List.map_cons, DataW.weightsEach, List.all_append, Bool.and_eq_true] at hw
    obtain ⟨a, ha, hg⟩ := h H enc W base spare held _ y.1 y.2 h0 hw.1
    obtain ⟨a', ha', hg'⟩ := hs H enc W base spare held cs ys (by simpa using hl) (fun i f' hf => by simpa using hx (i + 1) f' (by simpa using hf)) hw.2
    refine ⟨(a, a'), ⟨_, _, ?_, ha, ha'⟩, hg, hg'⟩
    rw [List.take_add, List.drop_drop]
theorem opens_struct {α β : Type} {d : Kd α} {good : α → Prop} {fs : Array Field} {n fuel : Nat} (f : β → α) (g : α → β) (hg : ∀ a, f (g a) = a) (ht : P.underlying t = some (.struct fs)) (hn : P.cellsOf t = n) (h : OpensFs P fs.toList 0 n d good fuel) :
    OpensF P t (Kd.iso d f) (fun b => good (f b)) (fuel + 1) := by
  intro H enc W base spare held cs x ps hx hw
  obtain ⟨xs, m, hf, he, hl, hlen, hxs⟩ := DataW.trod_struct ht hx
  obtain rfl : m = fuel := by omega
  simp only [Prod.mk.injEq] at he
  obtain ⟨rfl, rfl⟩ := he
  simp only [DataW.weights, ht] at hw
  obtain ⟨a, ha, hga⟩ := h H enc W base spare held cs xs (by simpa using hlen) (fun i f hf => hxs i f (by simpa using hf)) hw
  refine ⟨g a, ?_, by show good (f (g a)); rw [hg]; exact hga⟩
  show d.K W (f (g a)) cs
  rw [hg]
  rwa [List.drop_zero, List.take_of_length_le (by omega)] at ha
theorem opens_zero {α : Type} {d : Kd α} {good : α → Prop} : OpensF P t d good 0 := by
  intro H enc W base spare held cs x ps h
  simp [DataW.trod] at h
/-- A struct whose fields are opened at every depth. -/
theorem opens_struct_all {α β : Type} {d : Kd α} {good : α → Prop} {fs : Array Field} {n : Nat} (f : β → α) (g : α → β) (hg : ∀ a, f (g a) = a) (ht : P.underlying t = some (.struct fs)) (hn : P.cellsOf t = n) (h : ∀ fuel, OpensFs P fs.toList 0 n d good fuel) :
    Opens P t (Kd.iso d f) (fun b => good (f b)) := by
  intro fuel
  cases fuel with
  | zero => exact opens_zero
  | succ fuel => exact opens_struct f g hg ht hn (h fuel)
theorem Opens.weaken {α : Type} {d : Kd α} {good good' : α → Prop} (h : Opens P t d good) (hg : ∀ a, good a → good' a) : Opens P t d good' := by
  intro fuel H enc W base spare held cs x ps hx hw
  obtain ⟨a, ha, hga⟩ := h fuel H enc W base spare held cs x ps hx hw
  exact ⟨a, ha, hg a hga⟩
end

/-! ### what comes in -/
section
variable {P : Program} {H : Type} {enc : TypeId × Value → H} {W : World} {t : TypeId} {v : Value} {d : DataW H} {ps : List MemPlace} {spare : Nat → Bool} {held : Bool} {base : Nat}
theorem come {α : Type} {k : Kd α} {good : α → Prop} (ho : Opens P t k good) (h : DataW.Trod enc P W base spare held t v d ps) (hw : (DataW.weights P t d).all (· ≤ reachBytes) = true) : ∃ a : α, k.K W a v.cells.toList ∧ good a := by
  obtain ⟨fuel, h⟩ := h
  exact ho fuel H enc W base spare held _ d ps h hw
theorem weights_each : ∀ {ts : List TypeId} {ds : List (DataW H)} {t : TypeId} {d : DataW H}, (DataW.weightsEach P (t :: ts) (d :: ds)).all (· ≤ reachBytes) = true → (DataW.weights P t d).all (· ≤ reachBytes) = true ∧ (DataW.weightsEach P ts ds).all (· ≤ reachBytes) = true := by
  intro ts ds t d h
  simpa only [DataW.weightsEach, List.all_append, Bool.and_eq_true] using h
end
end Go.Proofs.Ytefpnnljflcmbaa.WOpen
