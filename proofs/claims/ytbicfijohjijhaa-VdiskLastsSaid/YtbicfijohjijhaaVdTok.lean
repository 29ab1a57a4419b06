/- Walks of functions of the program, and laws of what they compute. -/
import Derived.Test.YtbicfijohjijhaaVdLast
set_option linter.unusedSimpArgs false
set_option linter.unusedVariables false
set_option maxHeartbeats 4000000
namespace Go.Vm.Try
open Go.Proofs
/-- A table of eight slices that may be appended to. -/
def tv (l : List UInt8) (t : Nat) : V := .sl 1 (l.map u8) (.tk t)
def wrow (W : List (List UInt8)) (T : List Nat) : List V := List.zipWith tv W T
structure Wt (τ : Hp) (gb : Nat) (W : List (List UInt8)) (T : List Nat) : Prop where
  g : τ.get gb = some (.cells (wrow W T))
  lw : W.length = 8
  lt : T.length = 8
  t : ∀ j, j < 8 → τ.get (T.getD j 0) = some (.tok 1 (W.getD j []).length)
  n : ∀ j k, j < 8 → k < 8 → T.getD j 0 = T.getD k 0 → j = k
theorem wrow_get {W : List (List UInt8)} {T : List Nat} (hw : W.length = 8) (ht : T.length = 8) (j : Nat) (hj : j < 8) : (wrow W T).getD j .dead = .sl 1 ((W.getD j []).map u8) (.tk (T.getD j 0)) := by
  unfold wrow
  simp [List.getElem?_zipWith, hw, ht, hj, tv]
theorem wrow_set {W : List (List UInt8)} {T : List Nat} (hw : W.length = 8) (ht : T.length = 8) (j : Nat) (l : List UInt8) (t : Nat) : (wrow W T).set j (tv l t) = wrow (W.set j l) (T.set j t) := by
  unfold wrow
  apply List.ext_getElem
  · simp
  · intro n h1 h2
    simp only [List.length_set, List.length_zipWith, hw, ht] at h1
    by_cases e : j = n <;> simp [List.getElem_set, e]
theorem wrow_len {W : List (List UInt8)} {T : List Nat} (hw : W.length = 8) (ht : T.length = 8) : (wrow W T).length = 8 := by simp [wrow, hw, ht]
theorem set_id {α : Type} (l : List α) (j : Nat) (d : α) : l.set j (l.getD j d) = l := by
  apply List.ext_getElem
  · simp
  · intro n h1 h2
    rw [List.getElem_set]
    split
    · subst_vars; simp [List.getD_eq_getElem?_getD, h2]
    · rfl
/-- Behind an append and its store. -/
theorem Wt.app {τ : Hp} {gb : Nat} {W : List (List UInt8)} {T : List Nat} (h : Wt τ gb W T) {j : Nat} (hj : j < 8) (b : UInt8) {cs : List V} (hc : cs = (wrow W T).set j (.sl 1 ((W.getD j []).map u8 ++ [.int .u8 b.toNat]) (.tk (T.getD j 0)))) {m : Nat} (hm : m = (W.getD j []).length + 1) :
    Wt ((τ.set (T.getD j 0) (.tok 1 m)).set gb (.cells cs)) gb (W.set j (W.getD j [] ++ [b])) T := by
  subst hc hm
  have e : (V.sl 1 ((W.getD j []).map u8 ++ [.int .u8 b.toNat]) (.tk (T.getD j 0))) = tv (W.getD j [] ++ [b]) (T.getD j 0) := by simp [tv, u8]
  refine ⟨?_, by simp [h.lw], h.lt, fun k hk => ?_, h.n⟩
  · rw [Hp.get_set_same, e, wrow_set h.lw h.lt, set_id]
  · have hne : T.getD k 0 ≠ gb := fun e => by have := h.t k hk; rw [e, h.g] at this; cases this
    rw [Hp.get_set_ne _ _ hne]
    by_cases e2 : k = j
    · subst e2
      rw [Hp.get_set_same]
      have : k < W.length := by rw [h.lw]; exact hk
      simp [this]
    · have hne2 : T.getD k 0 ≠ T.getD j 0 := fun e3 => e2 (h.n _ _ hk hj e3)
      rw [Hp.get_set_ne _ _ hne2, h.t k hk]
      have e3 : j ≠ k := fun e => e2 e.symm
      simp [List.getD_eq_getElem?_getD, List.getElem?_set, e3]
/-- Behind `= nil` and a new right. -/
theorem Wt.nil {τ : Hp} {gb : Nat} {W : List (List UInt8)} {T : List Nat} (h : Wt τ gb W T) {j : Nat} (hj : j < 8) {t : Nat} (ht : τ.get t = none) {cs : List V} (hc : cs = (wrow W T).set j (.sl 1 [] (.tk t))) {c0 : List V} :
    Wt (((τ.set gb (.cells c0)).set t (.tok 1 0)).set gb (.cells cs)) gb (W.set j []) (T.set j t) := by
  subst hc
  have hgt : gb ≠ t := fun e => by rw [← e, h.g] at ht; cases ht
  have hT : t ∉ T := fun hm => by
    obtain ⟨k, hk, e⟩ := List.mem_iff_getElem.1 hm
    have := h.t k (by rw [← h.lt]; exact hk)
    rw [show T.getD k 0 = t by simp [hk, e], ht] at this; cases this
  refine ⟨?_, by simp [h.lw], by simp [h.lt], fun k hk => ?_, ?_⟩
  · rw [Hp.get_set_same]
    exact congrArg (fun l => some (Blk.cells l)) (wrow_set h.lw h.lt j [] t)
  · by_cases e2 : j = k
    · subst e2
      have h1 : (T.set j t).getD j 0 = t := by have : j < T.length := by rw [h.lt]; exact hk
                                               simp [this]
      have h2 : (W.set j []).getD j [] = [] := by have : j < W.length := by rw [h.lw]; exact hk
                                                  simp [this]
      rw [h1, h2, Hp.get_set_ne _ _ (Ne.symm hgt), Hp.get_set_same]; rfl
    · have h1 : (T.set j t).getD k 0 = T.getD k 0 := by simp [List.getD_eq_getElem?_getD, List.getElem?_set, e2]
      have h2 : (W.set j []).getD k [] = W.getD k [] := by simp [List.getD_eq_getElem?_getD, List.getElem?_set, e2]
      have hne : T.getD k 0 ≠ gb := fun e => by have := h.t k hk; rw [e, h.g] at this; cases this
      have hne2 : T.getD k 0 ≠ t := fun e => by have := h.t k hk; rw [e, ht] at this; cases this
      rw [h1, h2, Hp.get_set_ne _ _ hne, Hp.get_set_ne _ _ hne2, Hp.get_set_ne _ _ hne, h.t k hk]
  · have hq : ∀ k, k < 8 → (T.set j t).getD k 0 = if j = k then t else T.getD k 0 := fun k hk => by
      have : j < T.length := by rw [h.lt]; exact hj
      by_cases e : j = k
      · subst e; simp [this]
      · simp [List.getD_eq_getElem?_getD, List.getElem?_set, e]
    have hn : ∀ k, k < 8 → T.getD k 0 ≠ t := fun k hk e => by have := h.t k hk; rw [e, ht] at this; cases this
    intro a b ha hb e
    rw [hq a ha, hq b hb] at e
    by_cases e1 : j = a <;> by_cases e2 : j = b
    · omega
    · rw [if_pos e1, if_neg e2] at e; exact absurd e.symm (hn b hb)
    · rw [if_neg e1, if_pos e2] at e; exact absurd e (hn a ha)
    · rw [if_neg e1, if_neg e2] at e; exact h.n a b ha hb e
theorem Wt.keep {τ : Hp} {gb ga : Nat} {W : List (List UInt8)} {T : List Nat} (h : Wt τ gb W T) {l l' : List V} (ha : τ.get ga = some (.cells l)) (hab : gb ≠ ga) : Wt (τ.set ga (.cells l')) gb W T := by
  refine ⟨by rw [Hp.get_set_ne _ _ hab]; exact h.g, h.lw, h.lt, fun k hk => ?_, h.n⟩
  have hne : T.getD k 0 ≠ ga := fun e => by have := h.t k hk; rw [e, ha] at this; cases this
  rw [Hp.get_set_ne _ _ hne]; exact h.t k hk
/-- A right for an empty slice in a table. -/
theorem S_tokJ {n : Nat} {P : Program} {env : Env} {Q : Exit → Env → Hp → Prop} {c : Code} {cs : List Code} {σ τ : Hp} {g i sz : Nat} {l : List V} (hj : Disj σ τ) (hg : τ.get g = some (.cells l)) (hi : l[i]? = some (.sl sz [] .full))
    (h : ∀ t, τ.get t = none → Disj σ ((τ.set t (.tok 1 0)).set g (.cells (l.set i (.sl 1 [] (.tk t))))) → WS n P (c :: cs) Q env (σ.join ((τ.set t (.tok 1 0)).set g (.cells (l.set i (.sl 1 [] (.tk t))))))) : WS n P (c :: cs) Q env (σ.join τ) := by
  refine S_tokH 1 (Hp.join_get hg) hi fun t ht => ?_
  have ht2 : σ.get t = none ∧ τ.get t = none := by
    rw [Hp.get_join] at ht
    cases h1 : τ.get t with
    | none => rw [h1] at ht; exact ⟨by simpa using ht, rfl⟩
    | some b => rw [h1] at ht; simp at ht
  have hgt : g ≠ t := fun e => by rw [← e, hg] at ht2; cases ht2.2
  have e : ((σ.join τ).set t (.tok 1 0)).set g (.cells (l.set i (.sl 1 [] (.tk t)))) = σ.join ((τ.set t (.tok 1 0)).set g (.cells (l.set i (.sl 1 [] (.tk t))))) := by rw [Hp.join_set, Hp.join_set]
  rw [e]
  exact h t ht2.2 ((hj.set ht2.1 _).upd (by rw [Hp.get_set_ne _ _ hgt]; exact hg))
structure Wi (τ : Hp) (gb m : Nat) (T : List Nat) : Prop where
  g : τ.get gb = some (.cells (T.map (fun t => V.sl 1 [] (.tk t)) ++ List.replicate (8 - m) (.sl 0 [] .full)))
  lt : T.length = m
  t : ∀ t ∈ T, τ.get t = some (.tok 1 0)
  n : T.Nodup
theorem Wi.done {τ : Hp} {gb : Nat} {T : List Nat} (h : Wi τ gb 8 T) : Wt τ gb (List.replicate 8 []) T := by
  have hr : ∀ k, (List.replicate 8 ([] : List UInt8)).getD k [] = [] := fun k => match k with
    | 0 | 1 | 2 | 3 | 4 | 5 | 6 | 7 => rfl
    | k + 8 => rfl
  have hg : ∀ k, (hk : k < 8) → T.getD k 0 = T[k]'(by rw [h.lt]; exact hk) := fun k hk => by simp [h.lt, hk]
  refine ⟨?_, rfl, h.lt, fun j hj => ?_, fun j k hj hk e => ?_⟩
  · rw [h.g]
    have := h.lt
    match T, this with
    | [a, b, c, d, e, f, g, i], _ => rfl
  · rw [hr, hg j hj]; exact h.t _ (List.getElem_mem _)
  · rw [hg j hj, hg k hk] at e
    have hn := List.pairwise_iff_getElem.1 h.n
    rcases Nat.lt_trichotomy j k with h1 | h1 | h1
    · exact absurd e (hn j k (by rw [h.lt]; exact hj) (by rw [h.lt]; exact hk) h1)
    · exact h1
    · exact absurd e.symm (hn k j (by rw [h.lt]; exact hk) (by rw [h.lt]; exact hj) h1)
theorem S_tokN {n : Nat} {P : Program} {env : Env} {Q : Exit → Env → Hp → Prop} {c : Code} {cs : List Code} {σ : Hp} {gb ga : Nat} {la : List V} : ∀ (k m : Nat) (τ : Hp) (T : List Nat), m + k = 8 → Wi τ gb m T → Disj σ τ → gb ≠ ga → τ.get ga = some (.cells la) →
    (∀ τ' T', Wt τ' gb (List.replicate 8 []) T' → Disj σ τ' → τ'.get ga = some (.cells la) → WS n P (c :: cs) Q env (σ.join τ')) → WS n P (c :: cs) Q env (σ.join τ)
  | 0, m, τ, T, hk, hw, hj, hab, ha, h => by
    obtain rfl : m = 8 := by omega
    exact h τ T hw.done hj ha
  | k + 1, m, τ, T, hk, hw, hj, hab, ha, h => by
    have hl : (T.map (fun t => V.sl 1 [] (.tk t))).length = m := by rw [List.length_map]; exact hw.lt
    have hrep : List.replicate (8 - m) (V.sl 0 [] .full) = .sl 0 [] .full :: List.replicate (8 - (m + 1)) (.sl 0 [] .full) := by
      rw [show 8 - m = (8 - (m + 1)) + 1 by omega]; rfl
    refine S_tokJ hj hw.g (i := m) (sz := 0) (by rw [List.getElem?_append_right (by omega), hl, Nat.sub_self, hrep]; rfl) fun t ht hj' => ?_
    have hgt : gb ≠ t := fun e => by rw [← e, hw.g] at ht; cases ht
    have hat : ga ≠ t := fun e => by rw [← e, ha] at ht; cases ht
    refine S_tokN k (m + 1) _ (T ++ [t]) (by omega) ⟨?_, by rw [List.length_append, hw.lt]; rfl, fun u hu => ?_, ?_⟩ hj' hab ?_ h
    · rw [Hp.get_set_same, hrep, List.set_append_right _ _ (by omega), hl, Nat.sub_self]
      simp
    · have hu2 : u ≠ gb := fun e => by
        rcases List.mem_append.1 hu with hu | hu
        · have := hw.t u hu; rw [e, hw.g] at this; cases this
        · rw [List.mem_singleton] at hu; exact hgt (by rw [← e, hu])
      rw [Hp.get_set_ne _ _ hu2]
      rcases List.mem_append.1 hu with hu | hu
      · have hne : u ≠ t := fun e => by have := hw.t u hu; rw [e, ht] at this; cases this
        rw [Hp.get_set_ne _ _ hne]; exact hw.t u hu
      · rw [List.mem_singleton] at hu; rw [hu, Hp.get_set_same]
    · refine List.nodup_append.2 ⟨hw.n, by simp, fun a ha b hb e => ?_⟩
      rw [List.mem_singleton] at hb
      have := hw.t a ha; rw [e, hb, ht] at this; cases this
    · rw [Hp.get_set_ne _ _ (Ne.symm hab), Hp.get_set_ne _ _ hat]; exact ha
end Go.Vm.Try
