/- A small separation logic over the walk of the model: values told by what they hold, owned memory, triples for code, contracts of functions. Part 2. -/
import Derived.Carry
import Derived.Deep.Slices
import Derived.OpenShut
import Derived.ProofKit
import Derived.ShutString
import Derived.Test.YtbicfijohjijhaaV1
import Derived.WideKeyArgs
set_option linter.unusedSimpArgs false
set_option linter.unusedVariables false
set_option linter.unusedSectionVars false
/- Vm, part 22: rows of one's own whose elements have several cells. -/
namespace Go.Vm
variable {α : Type} [Inhabited α] (f : α → V) (k : Nat) (hk : ∀ x, (f x).cells.length = k)
include hk
theorem rows_len (L : List α) : (flat (L.map f)).length = L.length * k := by
  induction L with
  | nil => simp [flat]
  | cons x L ih => rw [List.map_cons, flat_cons, List.length_append, ih, hk, List.length_cons, Nat.succ_mul, Nat.add_comm]
theorem rows_drop (tl : List V) : ∀ (L : List α) (i : Nat), i ≤ L.length → (flat (L.map f) ++ tl).drop (i * k) = flat ((L.drop i).map f) ++ tl
  | L, 0, _ => by simp
  | [], i + 1, h => by simp at h
  | x :: L, i + 1, h => by
    rw [List.map_cons, flat_cons, List.append_assoc, Nat.succ_mul, Nat.add_comm, ← List.drop_drop, List.drop_append_of_le_length (by rw [hk]; omega)]
    have e : (f x).cells.drop k = [] := List.drop_eq_nil_of_le (by rw [hk]; omega)
    rw [e, List.nil_append]
    exact rows_drop tl L i (by simpa using h)
theorem rows_head (tl : List V) (L : List α) (i : Nat) (hi : i < L.length) : (flat (L.map f) ++ tl).drop (i * k) = (f (L.getD i default)).cells ++ (flat ((L.drop (i + 1)).map f) ++ tl) := by
  rw [rows_drop f k hk tl L i (by omega), List.drop_eq_getElem_cons hi, List.map_cons, flat_cons, List.append_assoc]
  simp [hi]
theorem rows_sub (tl : List V) (L : List α) (i : Nat) (hi : i < L.length) : ((flat (L.map f) ++ tl).drop (i * k)).take k = (f (L.getD i default)).cells := by
  rw [rows_head f k hk tl L i hi, List.take_append_of_le_length (by rw [hk]; omega), List.take_of_length_le (by rw [hk]; omega)]
theorem rows_get (tl : List V) (L : List α) (i j : Nat) (hi : i < L.length) (hj : j < k) : (flat (L.map f) ++ tl).getD (i * k + j) .dead = (f (L.getD i default)).cells.getD j .dead := by
  have h1 : (flat (L.map f) ++ tl).getD (i * k + j) .dead = ((flat (L.map f) ++ tl).drop (i * k)).getD j .dead := by simp [List.getD_eq_getElem?_getD]
  rw [h1, rows_head f k hk tl L i hi]
  have : j < (f (L.getD i default)).cells.length := by rw [hk]; exact hj
  rw [List.getD_eq_getElem?_getD, List.getElem?_append_left this]
  simp [List.getD_eq_getElem?_getD]
theorem rows_set (tl : List V) (L : List α) (i j : Nat) (y : α) (v : V) (hi : i < L.length) (hj : j < k) (hy : (f y).cells = (f (L.getD i default)).cells.set j v) : (flat (L.map f) ++ tl).set (i * k + j) v = flat ((L.set i y).map f) ++ tl := by
  induction L generalizing i with
  | nil => simp at hi
  | cons x L ih =>
    cases i with
    | zero =>
      simp only [Nat.zero_mul, Nat.zero_add, List.getD_cons_zero] at hy ⊢
      rw [List.map_cons, flat_cons, List.append_assoc, List.set_append_left _ _ (by rw [hk]; exact hj), ← hy]
      simp [flat_cons]
    | succ i =>
      rw [List.map_cons, flat_cons, List.append_assoc, List.set_append_right _ _ (by rw [hk, Nat.succ_mul]; omega)]
      have e : (i + 1) * k + j - (f x).cells.length = i * k + j := by rw [hk, Nat.succ_mul]; omega
      rw [e, ih i (by simpa using hi) (by simpa using hy)]
      simp [flat_cons]
omit hk [Inhabited α] in
theorem cellsAt_get {σ : Hp} {g : Nat} {cs : List V} (h : σ.get g = some (.cells cs)) : cellsAt σ g = cs := by rw [cellsAt, h]
omit hk [Inhabited α] in
theorem getD_lt {β : Type} (l : List β) (i : Nat) (d : β) (h : i < l.length) : l.getD i d = l[i] := by simp [h]
omit hk [Inhabited α] in
theorem getD_mem {β : Type} (l : List β) (i : Nat) (d : β) (h : i < l.length) : l.getD i d ∈ l := by simp [h]
omit hk [Inhabited α] in
theorem rows_len' {α : Type} (f : α → V) (k : Nat) (hk : ∀ x, (f x).cells.length = k) (L : List α) : (flat (L.map f)).length = L.length * k := by
  induction L with
  | nil => simp [flat]
  | cons x L ih => rw [List.map_cons, flat_cons, List.length_append, ih, hk, List.length_cons, Nat.succ_mul, Nat.add_comm]
omit hk [Inhabited α] in
theorem rows_get' {α : Type} (f : α → V) (k : Nat) (hk : ∀ x, (f x).cells.length = k) : ∀ (L : List α) (i j : Nat) (a : α), L[i]? = some a → j < k → (flat (L.map f))[i * k + j]? = (f a).cells[j]?
  | [], i, j, a, h, _ => by simp at h
  | x :: L, 0, j, a, h, hj => by
    simp only [List.getElem?_cons_zero, Option.some.injEq] at h
    subst h
    rw [List.map_cons, flat_cons, Nat.zero_mul, Nat.zero_add, List.getElem?_append_left (by rw [hk]; exact hj)]
  | x :: L, i + 1, j, a, h, hj => by
    rw [List.map_cons, flat_cons, List.getElem?_append_right (by rw [hk, Nat.succ_mul]; omega)]
    have e : (i + 1) * k + j - (f x).cells.length = i * k + j := by rw [hk, Nat.succ_mul]; omega
    rw [e]
    exact rows_get' f k hk L i j a (by simpa using h) hj
end Go.Vm
/- Vm, part 23: what comes in: the row's reading of an argument gives a value that is told. -/
namespace Go.Vm
open Go.RowKit Go.Deep
/-- A world as ghosts: all that lies is frozen. -/
def wfz (W : World) (b : Nat) : List Value := match W.heap[b]? with
  | some (.cells rs _ _) => rs.toList
  | _ => []
def wG (W : World) : Ghost := ⟨wfz W, fun _ => none, fun _ => none⟩
def wX (W : World) : Ext := ⟨fun b => (W.heap[b]?).map (·, wfz W b), fun _ => none, W.os, W.output⟩
theorem wfz_cell {W : World} {b i : Nat} {c : Value} : (wfz W b)[i]? = some c ↔ W.cell? ⟨b, i, none⟩ = some c := by
  unfold wfz World.cell?
  cases h : W.heap[b]? with
  | none => simp
  | some o => cases o <;> simp
theorem wInv (W : World) : Inv (wX W) (wG W) Hp.empty W := by
  refine ⟨fun b i c h => wfz_cell.1 h, fun b o l h => ?_, fun g x h => (by cases h), fun g k h => (by cases h), fun g h b k k' x => (by cases x), ⟨0, fun g _ => ⟨rfl, rfl⟩⟩, rfl, rfl⟩
  simp only [wX] at h
  cases hh : W.heap[b]? with
  | none => rw [hh] at h; cases h
  | some o' => rw [hh] at h; cases h; exact ⟨rfl, rfl⟩
/-- What stays, behind all. -/
theorem wKept {W w' : World} {G : Ghost} {σ : Hp} (h : Inv (wX W) G σ w') : (∀ k, k < W.heap.size → w'.heap[k]? = W.heap[k]?) ∧ w'.os = W.os ∧ w'.output = W.output :=
  ⟨fun k hk => by
    have hx : (wX W).b k = some (W.heap[k], wfz W k) := by simp [wX, hk]
    rw [(h.ext k _ _ hx).1]; simp [hk], h.eo.1, h.eo.2⟩
/-- Cells that are told. -/
def CR (W : World) (vs : List V) (cs : List Value) : Prop := cs.length = vs.length ∧ vs.all V.one = true ∧ ∀ i c, vs[i]? = some c → VRel (wG W) c (cs.getD i undef)
def OpF {α : Type} (P : Program) (t : TypeId) (e : α → V) (good : α → Prop) (fuel : Nat) : Prop :=
  ∀ (H : Type) (enc : TypeId × Value → H) (W : World) (base : Nat) (spare : Nat → Bool) (held : Bool) (cs : List Value) (x : DataW H) (ps : List MemPlace),
    DataW.trod enc P W base spare held fuel t cs = some (x, ps) → (DataW.weights P t x).all (· ≤ reachBytes) = true → ∃ a : α, CR W (e a).cells cs ∧ good a
def Op1 {α : Type} (P : Program) (t : TypeId) (e : α → V) (good : α → Prop) : Prop := ∀ fuel, OpF P t e good fuel
theorem CR.one {W : World} {v : V} {r : Value} (h1 : v.one = true) (h : VRel (wG W) v r) : CR W v.cells [r] := by
  have hc : v.cells = [v] := by cases v <;> first | rfl | (simp [V.one] at h1; done)
  rw [hc]
  refine ⟨rfl, by simp [h1], fun i c hi => ?_⟩
  cases i with
  | zero => cases hi; exact h
  | succ i => cases hi
section
variable {P : Program} {t : TypeId}
theorem op_int {k : IntKind} (ht : P.underlying t = some (.int k)) : Op1 P t (fun n : Int => .int k n) (fun x => (Lit.int k x).wf = true) := by
  intro fuel H enc W base spare held cs x ps h _
  obtain ⟨n, rfl, hx, hw⟩ := DataW.trod_int ht h
  exact ⟨n, .one rfl (.int _ _), hw⟩
theorem op_bool (ht : P.underlying t = some .bool) : Op1 P t V.bool (fun _ => True) := by
  intro fuel H enc W base spare held cs x ps h _
  obtain ⟨b, rfl, hx⟩ := DataW.trod_bool ht h
  exact ⟨b, .one rfl (.bool _), trivial⟩
theorem op_string (ht : P.underlying t = some .string) : Op1 P t V.str (fun s => s.size ≤ 140737488351232) := by
  intro fuel H enc W base spare held cs x ps h hw
  obtain ⟨s, rfl, hx, _⟩ := DataW.trod_string ht h
  simp only [Prod.mk.injEq] at hx
  obtain ⟨rfl, rfl⟩ := hx
  refine ⟨s, .one rfl (.str _), ?_⟩
  simp only [DataW.weights, List.all_cons, List.all_nil, Bool.and_true, decide_eq_true_eq] at hw
  rw [Array.length_toList] at hw
  exact hw
theorem Op1.map {α β : Type} {e : α → V} {good : α → Prop} (h : Op1 P t e good) (f : α → β) (e' : β → V) (good' : β → Prop) (he : ∀ a, good a → e' (f a) = e a) (hg : ∀ a, good a → good' (f a)) : Op1 P t e' good' := by
  intro fuel H enc W base spare held cs x ps hx hw
  obtain ⟨a, h1, h2⟩ := h fuel H enc W base spare held cs x ps hx hw
  exact ⟨f a, by rw [he a h2]; exact h1, hg a h2⟩
theorem op_byte (ht : P.underlying t = some (.int .u8)) : Op1 P t u8 (fun _ => True) :=
  (op_int ht).map (fun n => UInt8.ofNat n.toNat) _ _ (fun n hn => by
    simp [Lit.wf, IntKind.min, IntKind.max, IntKind.signed, IntKind.bits] at hn
    unfold u8
    congr 1
    simp only [UInt8.toNat_ofNat']
    omega) fun _ _ => trivial
theorem weightsAll_mem {H : Type} {e : TypeId} : ∀ (l : List (DataW H)), (DataW.weightsAll P e l).all (· ≤ reachBytes) = true → ∀ x ∈ l, (DataW.weights P e x).all (· ≤ reachBytes) = true := by
  intro l
  induction l with
  | nil => intro _ x hx; cases hx
  | cons d l ih =>
    intro h x hx
    simp only [DataW.weightsAll, List.all_append, Bool.and_eq_true] at h
    rcases List.mem_cons.1 hx with rfl | hx
    · exact h.1
    · exact ih h.2 x hx
theorem cell_spot {W : World} {a : Addr} {c : Value} (h : W.cell? a = some c) : a = ⟨a.block, a.off, none⟩ := by
  obtain ⟨b, o, s⟩ := a
  unfold World.cell? at h
  cases s with
  | none => rfl
  | some s =>
    cases hh : W.heap[b]? with
    | none => simp [hh] at h
    | some ob => cases ob <;> simp [hh] at h
theorem op_slice {α : Type} (z0 : α) {e : TypeId} {f : α → V} {good : α → Prop} (b sz : Nat) (ht : P.underlying t = some (.slice e)) (hs : P.cellsOf e = sz + 1) (hb : P.bytesOf e = b) (hf : ∀ a, (f a).cells.length = sz + 1) (he : ∀ fuel, OpF P e f good fuel) :
    Op1 P t (fun l : List α => .sl (sz + 1) (l.map f) .no) (fun xs => xs.length ≤ 9223372036854775807 ∧ xs.length * b ≤ 140737488351232 ∧ ∀ x ∈ xs, good x) := by
  intro fuel H enc W base spare held cs x ps h hw
  rcases open_slice ht h with ⟨rfl, hx⟩ | ⟨a, len, cap, m, n, D, Pl, rfl, hba, hl, hm, hmm, hx, hel⟩
  · exact ⟨[], .one rfl (.sl _ _ _ _ _ (fun _ => undef) (Nat.zero_le _) (fun e he => by cases he) (.inl rfl) (fun i c hi => by cases hi) trivial (fun e he => by cases he)), by simp⟩
  · simp only [Prod.mk.injEq] at hx
    obtain ⟨rfl, rfl⟩ := hx
    simp only [DataW.weights, ht, List.all_cons, List.all_append, Bool.and_eq_true, decide_eq_true_eq] at hw
    obtain ⟨hw0, hw1, hw2⟩ := hw
    have hmn : len ≤ m := by rw [hmm]; split <;> omega
    have key : ∀ i, i < len → ∃ a' : α, ∃ c, W.cells? base (a.add (i * P.cellsOf e)) (P.cellsOf e) = some c ∧ CR W (f a').cells c ∧ good a' := by
      intro i hi
      obtain ⟨c, h1, h2⟩ := hel i (by omega)
      obtain ⟨a', h3, h4⟩ := he n H enc W base spare held c (D i) (Pl i) h2 (weightsAll_mem _ hw1 (D i) (List.mem_map.2 ⟨i, by simpa using hi, rfl⟩))
      exact ⟨a', c, h1, h3, h4⟩
    let L : List α := (List.range len).map fun i => if h : i < len then (key i h).choose else z0
    have hL : L.length = len := by simp [L]
    have hLi : ∀ i (h : i < len), L[i]? = some (key i h).choose := fun i h => by simp [L, h]
    refine ⟨L, .one rfl ?_, ?_⟩
    · have hcell : ∀ i (h : i < len) (j : Nat), j < sz + 1 → ∃ c, W.cell? (a.add (i * (sz + 1) + j)) = some c ∧ ∀ v, (f (key i h).choose).cells[j]? = some v → VRel (wG W) v c := fun i h j hj => by
        obtain ⟨c, h1, h2, _⟩ := (key i h).choose_spec
        obtain ⟨_, h3, h4⟩ := World.cells?_some h1
        have hjc : j < c.length := by rw [h3, hs]; exact hj
        have h5 := h4 j (by rw [hs]; exact hj)
        rw [List.getElem?_eq_getElem hjc] at h5
        refine ⟨c[j], ?_, fun v hv => ?_⟩
        · rw [← h5, hs]
          congr 1
          unfold Addr.add
          by_cases e1 : i * (sz + 1) = 0
          · simp [e1]
          · by_cases e2 : j = 0
            · simp [e2]
            · have : i * (sz + 1) + j ≠ 0 := by omega
              simp [e1, e2, this, Nat.add_assoc]
        · have := h2.2.2 j v hv
          rw [List.getD_eq_getElem?_getD, List.getElem?_eq_getElem hjc] at this
          exact this
      have hone : ∀ v ∈ L.map f, v.cells.length = sz + 1 := fun v hv => by obtain ⟨y, _, rfl⟩ := List.mem_map.1 hv; exact hf y
      have hall : ∀ v ∈ L.map f, v.cells.all V.one = true := fun v hv => by
        obtain ⟨y, hy, rfl⟩ := List.mem_map.1 hv
        obtain ⟨i, hi⟩ := List.getElem?_of_mem hy
        have hlt : i < len := by rw [← hL]; exact (List.getElem?_eq_some_iff.1 hi).1
        rw [hLi i hlt] at hi; cases hi
        exact (key i hlt).choose_spec.choose_spec.2.1.2.1
      have hget : ∀ k c, (flat (L.map f))[k]? = some c → ∃ i, ∃ h : i < len, ∃ j, j < sz + 1 ∧ k = i * (sz + 1) + j ∧ (f (key i h).choose).cells[j]? = some c := fun k c hk => by
        have hlen : (flat (L.map f)).length = len * (sz + 1) := by rw [← hL]; exact rows_len' f (sz + 1) hf L
        have hk' : k < len * (sz + 1) := by rw [← hlen]; exact (List.getElem?_eq_some_iff.1 hk).1
        have hi : k / (sz + 1) < len := (Nat.div_lt_iff_lt_mul (by omega)).2 hk'
        have hj : k % (sz + 1) < sz + 1 := Nat.mod_lt _ (by omega)
        have e : k = k / (sz + 1) * (sz + 1) + k % (sz + 1) := by rw [Nat.mul_comm]; exact (Nat.div_add_mod _ _).symm
        refine ⟨k / (sz + 1), hi, k % (sz + 1), hj, e, ?_⟩
        rw [e] at hk
        have h2 := rows_get' f (sz + 1) hf L (k / (sz + 1)) (k % (sz + 1)) (key _ hi).choose (hLi _ hi) hj
        rw [← h2]; exact hk
      let rs : Nat → Value := fun k => (W.cell? (a.add k)).getD undef
      rcases Nat.eq_zero_or_pos len with h0 | hpos
      · have hnil : L = [] := List.eq_nil_of_length_eq_zero (by omega)
        have : VRel (wG W) (.sl (sz + 1) (L.map f) .no) (.slice (some a) (L.map f).length cap) :=
          .sl _ _ _ _ _ rs (by simp; omega) hone (.inl (by simp [hnil])) (fun i c hi => by rw [hnil] at hi; cases hi) trivial hall
        rwa [List.length_map, hL] at this
      · have hsp : a = ⟨a.block, a.off, none⟩ := by
          obtain ⟨c, h1, _⟩ := hcell 0 hpos 0 (by omega)
          exact cell_spot (by simpa [Addr.add] using h1)
        have hadd : ∀ k, a.add k = ⟨a.block, a.off + k, none⟩ := fun k => by
          rw [hsp]; unfold Addr.add
          by_cases e : k = 0
          · simp [e]
          · simp [e]
        have hrs : ∀ k c, (flat (L.map f))[k]? = some c → (wfz W a.block)[a.off + k]? = some (rs k) ∧ VRel (wG W) c (rs k) := fun k c hk => by
          obtain ⟨i, hi, j, hj, rfl, hv⟩ := hget k c hk
          obtain ⟨u, h1, h2⟩ := hcell i hi j hj
          have hr : rs (i * (sz + 1) + j) = u := by simp only [rs, h1, Option.getD_some]
          rw [hr]
          rw [hadd] at h1
          exact ⟨wfz_cell.2 h1, h2 c hv⟩
        have : VRel (wG W) (.sl (sz + 1) (L.map f) .no) (.slice (some a) (L.map f).length cap) :=
          .sl _ _ _ _ _ rs (by simp; omega) hone (.inr ⟨a.block, a.off, by rw [← hsp], fun k c hk => (hrs k c hk).1⟩) (fun k c hk => (hrs k c hk).2) trivial hall
        rwa [List.length_map, hL] at this
    · refine ⟨by have : maxLen = 9223372036854775807 := rfl; omega, ?_, ?_⟩
      · simp only [List.length_map, List.length_range] at hw0
        rw [hb] at hw0
        have h1 : len * b ≤ (len + (m - len)) * b := Nat.mul_le_mul_right _ (by omega)
        have : reachBytes = 140737488351232 := rfl
        rw [hL]; omega
      · intro y hy
        obtain ⟨i, hi, rfl⟩ := List.mem_map.1 hy
        simp only [List.mem_range] at hi
        rw [dif_pos hi]
        obtain ⟨_, _, _, h3⟩ := (key i hi).choose_spec
        exact h3
/-! ### structs: their fields, one behind the other -/
theorem CR.append {W : World} {a b : List V} {x y : List Value} (h : CR W a x) (k : CR W b y) : CR W (a ++ b) (x ++ y) := by
  refine ⟨by rw [List.length_append, List.length_append, h.1, k.1], by rw [List.all_append, h.2.1, k.2.1]; rfl, fun i c hi => ?_⟩
  rw [List.getElem?_append] at hi
  rw [List.getD_eq_getElem?_getD, List.getElem?_append, h.1]
  split at hi
  · rename_i hl
    rw [if_pos hl]
    have := h.2.2 i c hi
    rwa [List.getD_eq_getElem?_getD] at this
  · rename_i hl
    rw [if_neg hl]
    have := k.2.2 _ c hi
    rwa [List.getD_eq_getElem?_getD] at this
/-- Fields from 'off' on. -/
def OpFs {α : Type} (P : Program) (fs : List Field) (off n : Nat) (e : α → List V) (good : α → Prop) (fuel : Nat) : Prop :=
  ∀ (H : Type) (enc : TypeId × Value → H) (W : World) (base : Nat) (spare : Nat → Bool) (held : Bool) (cs : List Value) (xs : List (DataW H × List MemPlace)),
    xs.length = fs.length → (∀ (i : Nat) (f : Field), fs[i]? = some f → DataW.trod enc P W base spare held fuel f.type ((cs.drop f.offset).take (P.cellsOf f.type)) = xs[i]?) →
    (DataW.weightsEach P (fs.map (·.type)) (xs.map (·.1))).all (· ≤ reachBytes) = true → ∃ a : α, CR W (e a) ((cs.drop off).take n) ∧ good a
theorem opFs_one {α : Type} {e : α → V} {good : α → Prop} {f : Field} {off n fuel : Nat} (ho : f.offset = off) (hn : P.cellsOf f.type = n) (h : OpF P f.type e good fuel) : OpFs P [f] off n (fun a => (e a).cells) good fuel := by
  intro H enc W base spare held cs xs hl hx hw
  match xs, hl with
  | [y], _ =>
    have h0 := hx 0 f rfl
    simp only [List.getElem?_cons_zero] at h0
    rw [ho, hn] at h0
    simp only [List.map_cons, List.map_nil, DataW.weightsEach, List.append_nil] at hw
    exact h H enc W base spare held _ y.1 y.2 h0 hw
theorem opFs_cons {α β : Type} {e : α → V} {e' : β → List V} {good : α → Prop} {good' : β → Prop} {f : Field} {fs : List Field} {off n n' fuel : Nat} (ho : f.offset = off) (hn : P.cellsOf f.type = n) (h : OpF P f.type e good fuel) (hs : OpFs P fs (off + n) n' e' good' fuel) :
    OpFs P (f :: fs) off (n + n') (fun a : α × β => (e a.1).cells ++ e' a.2) (fun a => good a.1 ∧ good' a.2) fuel := by
  intro H enc W base spare held cs xs hl hx hw
  match xs, hl with
  | y :: ys, hl =>
    have h0 := hx 0 f rfl
    simp only [List.getElem?_cons_zero] at h0
    rw [ho, hn] at h0
    simp only [List.map_cons, DataW.weightsEach, List.all_append, Bool.and_eq_true] at hw
    obtain ⟨a, ha, hg⟩ := h H enc W base spare held _ y.1 y.2 h0 hw.1
    obtain ⟨a', ha', hg'⟩ := hs H enc W base spare held cs ys (by simpa using hl) (fun i f' hf => by simpa using hx (i + 1) f' (by simpa using hf)) hw.2
    refine ⟨(a, a'), ?_, hg, hg'⟩
    have := ha.append ha'
    rwa [List.take_add, List.drop_drop]
theorem op_zero {α : Type} {e : α → V} {good : α → Prop} : OpF P t e good 0 := by
  intro H enc W base spare held cs x ps h
  simp [DataW.trod] at h
theorem op_struct {α : Type} {e : α → List V} {good : α → Prop} {fs : Array Field} {n : Nat} (ht : P.underlying t = some (.struct fs)) (hn : P.cellsOf t = n) (h : ∀ fuel, OpFs P fs.toList 0 n e good fuel) :
    Op1 P t (fun a => .agg (e a)) good := by
  intro fuel
  cases fuel with
  | zero => exact op_zero
  | succ fuel =>
    intro H enc W base spare held cs x ps hx hw
    obtain ⟨xs, m, hf, he, hl, hlen, hxs⟩ := DataW.trod_struct ht hx
    obtain rfl : m = fuel := by omega
    simp only [Prod.mk.injEq] at he
    obtain ⟨rfl, rfl⟩ := he
    simp only [DataW.weights, ht] at hw
    obtain ⟨a, ha, hga⟩ := h m H enc W base spare held cs xs (by simpa using hlen) (fun i f hf => hxs i f (by simpa using hf)) hw
    refine ⟨a, ?_, hga⟩
    rwa [List.drop_zero, List.take_of_length_le (by omega)] at ha
end
/-! ### what comes in, and what stays -/
section
variable {P : Program} {H : Type} {enc : TypeId × Value → H} {W W' : World} {t : TypeId} {v : Value} {d : DataW H} {ps : List MemPlace} {spare : Nat → Bool} {held : Bool} {base : Nat}
theorem come {α : Type} {e : α → V} {good : α → Prop} (ho : Op1 P t e good) (h : DataW.Trod enc P W base spare held t v d ps) (hw : (DataW.weights P t d).all (· ≤ reachBytes) = true) : ∃ a : α, CR W (e a).cells v.cells.toList ∧ good a := by
  obtain ⟨fuel, h⟩ := h
  exact ho fuel H enc W base spare held _ d ps h hw
theorem weights_each : ∀ {ts : List TypeId} {ds : List (DataW H)} {t : TypeId} {d : DataW H}, (DataW.weightsEach P (t :: ts) (d :: ds)).all (· ≤ reachBytes) = true → (DataW.weights P t d).all (· ≤ reachBytes) = true ∧ (DataW.weightsEach P ts ds).all (· ≤ reachBytes) = true := by
  intro ts ds t d h
  simpa only [DataW.weightsEach, List.all_append, Bool.and_eq_true] using h
theorem CR.agg {cs : List V} {rs : Array Value} (h : CR W (V.agg cs).cells (Value.agg rs).cells.toList) : VRel (wG W) (.agg cs) (.agg rs) := by
  refine .agg cs rs (by simpa [V.cells, Value.cells] using h.1) fun i c hi => ?_
  have := h.2.2 i c hi
  simpa [Value.cells] using this
theorem CR.val {u : V} (hu : u.cells = [u]) (hv : v.cells = #[v]) (h : CR W u.cells v.cells.toList) : VRel (wG W) u v := by
  rw [hu, hv] at h
  exact h.2.2 0 u rfl
structure Kept (W W' : World) : Prop where
  block : ∀ k, k < W.heap.size → W'.heap[k]? = W.heap[k]?
  os : W'.os = W.os
  out : W'.output = W.output
theorem Kept.same (h : Kept W W') {p : MemPlace} (hp : p.block < W.heap.size) : W.sameAt W' p := by
  cases p with
  | cell b o => exact World.cell?_of_block (w := W) (h.block b hp)
  | map b => exact h.block b hp
theorem Kept.frame (h : Kept W W') (may : MemPlace → Prop) : W.keptBut W' may := by
  refine ⟨h.os, h.out, fun i hi => ?_⟩
  rw [h.block i hi]
  split <;> simp_all
theorem Kept.trod (hl : laidOutB P = true) (hr : P.readableRec t = true) (hrow : t < P.types.size) (h : DataW.Trod enc P W 0 (fun _ => true) true t v d ps) (hb : Kept W W') (hlt : ∀ x ∈ ps, x.block < W.heap.size) :
    DataW.Trod enc P W' 0 (fun b => decide (b < W.heap.size)) true t v d ps :=
  WideElems.Trod_stays hl hr hrow h (fun x hx => hb.same (hlt x hx)) (fun x hx => by simpa using hlt x hx)
theorem row_calls {f : FuncId} {vs : List V} {rargs : Array Value} (hp : PSpec P f vs (.bool true)) (hr : Rows2 (wG W) vs rargs) : Calls P f rargs W fun e W' => e = .returned (.bool true) ∧ Kept W W' := by
  refine (hp.2 (wX W) (wG W) rargs W (wInv W) hr).mono ?_
  rintro e w' ⟨rv, G', rfl, le, hI, hv⟩
  cases hv
  obtain ⟨h1, h2, h3⟩ := wKept hI
  exact ⟨rfl, h1, h2, h3⟩
theorem Rows2.nil {G : Ghost} : Rows2 G [] #[] := ⟨rfl, fun i c h => by cases h⟩
theorem rows2_of {G : Ghost} {vs : List V} {l : List Value} (h1 : l.length = vs.length) (h : ∀ i c, vs[i]? = some c → VRel G c (l.getD i undef)) : Rows2 G vs l.toArray := ⟨by simpa using h1, fun i c hi => by simpa using h i c hi⟩
end
end Go.Vm
