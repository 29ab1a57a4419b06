/- Walks of functions of the program, and laws of what they compute. -/
import Derived.Test.YtbicfijohjijhaaVdZ
import Derived.Test.YtbicfijohjijhaaVdRel
set_option linter.unusedSimpArgs false
set_option linter.unusedVariables false
set_option maxHeartbeats 4000000
namespace Go.Vm.Try
open Go.Proofs
/-- What waits for a place. -/
def wtg (p : Plc) (ws : List PS) : List Sec := (ws.filter fun w => decide (w.1 = p)).map (·.2)
theorem wtg_cons (p : Plc) (w : PS) (ws : List PS) : wtg p (w :: ws) = if w.1 = p then w.2 :: wtg p ws else wtg p ws := by
  unfold wtg
  by_cases e : w.1 = p <;> simp [e]
theorem wtg_append (p : Plc) (a b : List PS) : wtg p (a ++ b) = wtg p a ++ wtg p b := by simp [wtg]
theorem wtg_left (p : Plc) (f : Int) (ws : List PS) : wtg p (leftF f ws) = if p.1 = f then [] else wtg p ws := by
  induction ws with
  | nil => unfold wtg leftF; split <;> rfl
  | cons w ws ih =>
    rw [wtg_cons]
    unfold leftF at ih ⊢
    by_cases e : w.1.1 = f
    · rw [List.filter_cons_of_neg (by simp [e]), ih]
      by_cases e2 : p.1 = f
      · rw [if_pos e2, if_pos e2]
      · rw [if_neg e2, if_neg e2, if_neg (fun h => e2 (by rw [← h]; exact e))]
    · rw [List.filter_cons_of_pos (by simp [e]), wtg_cons, ih]
      by_cases e2 : p.1 = f
      · rw [if_pos e2, if_pos e2, if_neg (fun h => e (by rw [h]; exact e2))]
      · rw [if_neg e2, if_neg e2]
theorem wtg_mem {p : Plc} {b : Sec} {ws : List PS} : b ∈ wtg p ws ↔ (p, b) ∈ ws := by
  unfold wtg
  rw [List.mem_map]
  constructor
  · rintro ⟨⟨q, c⟩, h, rfl⟩
    rw [List.mem_filter] at h
    have := of_decide_eq_true h.2
    simp only at this
    rw [← this]; exact h.1
  · intro h
    exact ⟨(p, b), List.mem_filter.2 ⟨h, by simp⟩, rfl⟩
theorem look_surely (p : Plc) (f : Int) : ∀ (ws m : List PS), look p (surely f ws m) = if p.1 = f then (wtg p ws).getLast?.or (look p m) else look p m
  | [], m => by show look p m = _; unfold wtg; simp
  | w :: ws, m => by
    show look p (surely f ws (if w.1.1 = f then setL w.1 w.2 m else m)) = _
    rw [look_surely p f ws, wtg_cons]
    by_cases e : w.1.1 = f
    · rw [if_pos e, look_setL]
      by_cases e2 : p.1 = f
      · rw [if_pos e2, if_pos e2]
        by_cases e3 : w.1 = p
        · rw [if_pos e3, if_pos e3, List.getLast?_cons]
          cases (wtg p ws).getLast? <;> rfl
        · rw [if_neg e3, if_neg e3]
      · rw [if_neg e2, if_neg e2, if_neg (fun h => e2 (by rw [← h]; exact e))]
    · rw [if_neg e]
      by_cases e2 : p.1 = f
      · rw [if_pos e2, if_pos e2, if_neg (fun h => e (by rw [h]; exact e2))]
      · rw [if_neg e2, if_neg e2]
theorem look_kept (p : Plc) (keep : List UInt8) (ws m : List PS) : ∀ i, i ≤ ws.length → look p (keptS keep ws i m) = look p m ∨ ∃ b, (p, b) ∈ ws ∧ look p (keptS keep ws i m) = some b
  | 0, _ => .inl rfl
  | i + 1, h => by
    have ih := look_kept p keep ws m i (by omega)
    rw [keptS_succ]
    split
    · rw [look_setL]
      have hm : ws.getD i default ∈ ws := by have h2 : i < ws.length := h; simp [h2]
      split
      · rename_i e
        exact .inr ⟨_, by rw [← e]; exact hm, rfl⟩
      · exact ih
    · exact ih
theorem full_inj {a b : UInt8} (h : fullB a 0 = fullB b 0) : a = b := by
  have : (List.replicate 128 a) = List.replicate 128 b := h
  have h2 := congrArg (fun l => l.getD 0 0) this
  simpa using h2
theorem full_len (b : UInt8) : (fullB b 0).length = 128 := by simp [fullB, fsz]
/-- What the law's own tables tell of a disk. -/
structure Ls (D : Disk) (U : List UInt8) (W : List (List UInt8)) (i : Nat) : Prop where
  ok : D.Ok
  ok2 : D.Ok2
  q : D.quota = 20
  w : D.waits.length ≤ i
  b0 : D.size0 ≤ 4
  b1 : D.size1 ≤ 4
  lu : U.length = 8
  lw : W.length = 8
  su : ∀ e ∈ D.sure, e.1.2 ≤ 3
  wu : ∀ e ∈ D.waits, e.1.2 ≤ 3
  l : ∀ f s : Nat, f < 2 → s < 4 → (look (f, s) D.sure).getD zeros = fullB (U.getD (f * 4 + s) 0) 0
  g : ∀ f s : Nat, f < 2 → s < 4 → wtg (f, s) D.waits = (W.getD (f * 4 + s) []).map (fullB · 0)
theorem Ls.new : Ls (Disk.new 20) (List.replicate 8 0) (List.replicate 8 []) 0 where
  ok := ok_new 20
  ok2 := ⟨fun e h => (by cases h), fun e h => (by cases h), List.nodup_nil⟩
  q := rfl
  w := Nat.le_refl _
  b0 := by decide
  b1 := by decide
  lu := rfl
  lw := rfl
  su := fun e h => by cases h
  wu := fun e h => by cases h
  l := fun f s hf hs => by
    have : ∀ k, (List.replicate 8 (0 : UInt8)).getD k 0 = 0 := fun k => match k with
      | 0 | 1 | 2 | 3 | 4 | 5 | 6 | 7 => rfl
      | k + 8 => rfl
    rw [this]; rfl
  g := fun f s hf hs => by
    have : ∀ k, (List.replicate 8 ([] : List UInt8)).getD k [] = [] := fun k => match k with
      | 0 | 1 | 2 | 3 | 4 | 5 | 6 | 7 => rfl
      | k + 8 => rfl
    rw [this]; rfl
theorem Ls.up {D : Disk} {U : List UInt8} {W : List (List UInt8)} {i : Nat} (h : Ls D U W i) : Ls D U W (i + 1) :=
  ⟨h.ok, h.ok2, h.q, by have := h.w; omega, h.b0, h.b1, h.lu, h.lw, h.su, h.wu, h.l, h.g⟩
theorem Ls.like {D E : Disk} {U : List UInt8} {W : List (List UInt8)} {i : Nat} (h : Ls D U W i) (e1 : E.quota = D.quota) (e2 : E.sure = D.sure) (e3 : E.shown = D.shown) (e4 : E.size0 = D.size0) (e5 : E.size1 = D.size1) (e6 : E.waits = D.waits) : Ls E U W i := by
  obtain ⟨⟨o1, o2, o3, o4⟩, ⟨p1, p2, p3⟩, a1, a2, a3, a4, a5, a6, a7, a8, a9, a10⟩ := h
  refine ⟨⟨?_, ?_, ?_, ?_⟩, ⟨?_, ?_, ?_⟩, ?_, ?_, ?_, ?_, a5, a6, ?_, ?_, ?_, ?_⟩ <;> simp only [e1, e2, e3, e4, e5, e6] <;> assumption
theorem Ls.chg {D : Disk} {U : List UInt8} {W : List (List UInt8)} {i : Nat} (h : Ls D U W i) : Ls (changeD D) U W i := by
  unfold changeD
  split <;> exact h.like rfl rfl rfl rfl rfl rfl
theorem Ls.fail {D : Disk} {U : List UInt8} {W : List (List UInt8)} {i : Nat} (h : Ls D U W i) (n : Int) : Ls (if n < 0 then D else { D with plan := true, left := n }) U W i := by
  split
  · exact h
  · exact h.like rfl rfl rfl rfl rfl rfl
theorem Ls.put {D : Disk} {U : List UInt8} {W : List (List UInt8)} {i : Nat} (h : Ls D U W i) {f s : Nat} (hf : f < 2) (hs : s < 4) (b : UInt8) :
    Ls (putD D f s (fullB b 0)) U (W.set (f * 4 + s) (W.getD (f * 4 + s) [] ++ [b])) (i + 1) := by
  obtain ⟨o1, o2, o3, q0, q1, q2, q3⟩ := h.ok
  have hl := full_len b
  have hb0 := h.b0
  have hb1 := h.b1
  refine ⟨⟨o1, fun e he => ?_, fun e he => ?_, ?_, ?_, ?_, ?_⟩, ⟨h.ok2.a, fun e he => ?_, h.ok2.c⟩, h.q, ?_, ?_, ?_, h.lu, by simp [h.lw], h.su, fun e he => ?_, h.l, fun f' s' hf' hs' => ?_⟩
  · rcases setL_mem he with he | he
    · rw [he]; exact hl
    · exact o2 e he
  · simp only [putD, List.mem_append, List.mem_singleton] at he
    rcases he with he | he
    · exact o3 e he
    · rw [he]; exact hl
  · simp only [putD, maxI]; (repeat' split) <;> omega
  · simp only [putD, maxI]; (repeat' split) <;> omega
  · simp only [putD, maxI]; (repeat' split) <;> omega
  · simp only [putD, maxI]; (repeat' split) <;> omega
  · simp only [putD, List.mem_append, List.mem_singleton] at he
    rcases he with he | he
    · exact h.ok2.b e he
    · rw [he]; exact ⟨by simp only; omega, by simp only; omega, by simp only; omega⟩
  · have := h.w; simp [putD]; omega
  · simp only [putD, maxI]; (repeat' split) <;> omega
  · simp only [putD, maxI]; (repeat' split) <;> omega
  · simp only [putD, List.mem_append, List.mem_singleton] at he
    rcases he with he | he
    · exact h.wu e he
    · rw [he]; simp only; omega
  · have hg := h.g f' s' hf' hs'
    simp only [putD]
    rw [wtg_append, hg, wtg_cons]
    have hk : f * 4 + s < W.length := by rw [h.lw]; omega
    by_cases e : f = f' ∧ s = s'
    · obtain ⟨rfl, rfl⟩ := e
      rw [if_pos rfl]
      simp [hk, wtg]
    · rw [if_neg (by simp only [Prod.mk.injEq]; omega)]
      have hne : f * 4 + s ≠ f' * 4 + s' := by omega
      simp [List.getD_eq_getElem?_getD, List.getElem?_set, hne, wtg]
theorem Ls.write {D : Disk} {U : List UInt8} {W : List (List UInt8)} {i : Nat} (h : Ls D U W i) {f s : Nat} (hf : f < 2) (hs : s < 4) (b : UInt8) :
    (writeE D f s (fullB b 0).length = 0 ∧ Ls (writeD D f s (fullB b 0)) U (W.set (f * 4 + s) (W.getD (f * 4 + s) [] ++ [b])) (i + 1)) ∨
    (writeE D f s (fullB b 0).length ≠ 0 ∧ Ls (writeD D f s (fullB b 0)) U W (i + 1)) := by
  have h1 : ¬ badW f s (fullB b 0).length := by unfold badW; rw [full_len]; omega
  by_cases h2 : D.down = true
  · right
    rw [writeE_down h1 h2, writeD_same (.inr (.inl h2))]
    exact ⟨by decide, h.up⟩
  · rw [Bool.not_eq_true] at h2
    by_cases h3 : fullW D f s
    · right
      rw [writeE_full h1 h2 h3, writeD_same (.inr (.inr h3))]
      exact ⟨by decide, h.up⟩
    · rw [writeE_ok h1 h2 h3, writeD_ok h1 h2 h3]
      by_cases h4 : changeV D = 0
      · left
        rw [if_pos h4]
        exact ⟨h4, h.chg.put hf hs b⟩
      · right
        rw [if_neg h4]
        exact ⟨h4, h.chg.up⟩
/-- A file's sync in the law's own tables: the first k sectors. -/
def syU (f : Nat) (W : List (List UInt8)) : Nat → List UInt8 → List UInt8
  | 0, U => U
  | k + 1, U => match (W.getD (f * 4 + k) []).getLast? with
    | some b => (syU f W k U).set (f * 4 + k) b
    | none => syU f W k U
def syW (f : Nat) : Nat → List (List UInt8) → List (List UInt8)
  | 0, W => W
  | k + 1, W => (syW f k W).set (f * 4 + k) []
theorem syU_len (f : Nat) (W : List (List UInt8)) (U : List UInt8) : ∀ k, (syU f W k U).length = U.length
  | 0 => rfl
  | k + 1 => by rw [syU]; split <;> simp [syU_len f W U k]
theorem syW_len (f : Nat) (W : List (List UInt8)) : ∀ k, (syW f k W).length = W.length
  | 0 => rfl
  | k + 1 => by rw [syW]; simp [syW_len f W k]
theorem syW_get (f : Nat) (W : List (List UInt8)) (j : Nat) : ∀ k, f * 4 + k ≤ W.length → (syW f k W).getD j [] = if f * 4 ≤ j ∧ j < f * 4 + k then [] else W.getD j []
  | 0, _ => by rw [if_neg (by omega)]; rfl
  | k + 1, h => by
    have ih := syW_get f W j k (by omega)
    rw [syW]
    by_cases e : f * 4 + k = j
    · subst e
      rw [if_pos (by omega)]
      have : f * 4 + k < (syW f k W).length := by rw [syW_len]; omega
      simp [this]
    · have : ((syW f k W).set (f * 4 + k) []).getD j [] = (syW f k W).getD j [] := by
        simp [List.getD_eq_getElem?_getD, List.getElem?_set, e]
      rw [this, ih]
      by_cases e2 : f * 4 ≤ j ∧ j < f * 4 + k
      · rw [if_pos e2, if_pos (by omega)]
      · rw [if_neg e2, if_neg (by omega)]
theorem syU_get (f : Nat) (W : List (List UInt8)) (U : List UInt8) (j : Nat) : ∀ k, f * 4 + k ≤ U.length → (syU f W k U).getD j 0 = if f * 4 ≤ j ∧ j < f * 4 + k then ((W.getD j []).getLast?).getD (U.getD j 0) else U.getD j 0
  | 0, _ => by rw [if_neg (by omega)]; rfl
  | k + 1, h => by
    have ih := syU_get f W U j k (by omega)
    rw [syU]
    by_cases e : f * 4 + k = j
    · subst e
      rw [if_neg (by omega)] at ih
      rw [if_pos (by omega)]
      have hl : f * 4 + k < (syU f W k U).length := by rw [syU_len]; omega
      cases hg : (W.getD (f * 4 + k) []).getLast? with
      | none => exact ih
      | some b => simp [hl]
    · have : (match (W.getD (f * 4 + k) []).getLast? with
        | some b => (syU f W k U).set (f * 4 + k) b
        | none => syU f W k U).getD j 0 = (syU f W k U).getD j 0 := by
        split
        · simp [List.getD_eq_getElem?_getD, List.getElem?_set, e]
        · rfl
      rw [this, ih]
      by_cases e2 : f * 4 ≤ j ∧ j < f * 4 + k
      · rw [if_pos e2, if_pos (by omega)]
      · rw [if_neg e2, if_neg (by omega)]
theorem Ls.sync {D : Disk} {U : List UInt8} {W : List (List UInt8)} {i : Nat} (h : Ls D U W i) {f : Nat} (hf : f < 2) :
    (syncE D f = 0 ∧ Ls (syncF D f) (syU f W 4 U) (syW f 4 W) (i + 1)) ∨ (syncE D f ≠ 0 ∧ Ls (syncF D f) U W (i + 1)) := by
  by_cases ha : askV D f false = 0
  · rw [syncE, if_pos ha, syncF, if_pos ha]
    by_cases hc : changeV D = 0
    · left
      rw [if_pos hc]
      refine ⟨hc, ?_⟩
      have h' := h.chg
      generalize changeD D = E at h'
      obtain ⟨o1, o2, o3, o4⟩ := h'.ok
      refine ⟨⟨surely_all f (fun e => e.2.length = 128) _ _ o3 o1, o2, fun e he => o3 e (List.mem_filter.1 he).1, o4⟩,
        ⟨surely_all f (fun e => okP e.1) _ _ h'.ok2.b h'.ok2.a, fun e he => h'.ok2.b e (List.mem_filter.1 he).1, surely_nodup f _ _ h'.ok2.c⟩, h'.q, ?_, h'.b0, h'.b1, by rw [syU_len]; exact h'.lu, by rw [syW_len]; exact h'.lw,
        surely_all f (fun e => e.1.2 ≤ 3) _ _ h'.wu h'.su, fun e he => h'.wu e (List.mem_filter.1 he).1, fun f' s' hf' hs' => ?_, fun f' s' hf' hs' => ?_⟩
      · have h1 := h'.w
        have h2 : (leftF f E.waits).length ≤ E.waits.length := List.length_filter_le _ _
        show (leftF f E.waits).length ≤ _
        omega
      · have hl := h'.l f' s' hf' hs'
        have hg := h'.g f' s' hf' hs'
        show (look (f', s') (surely f E.waits E.sure)).getD zeros = _
        rw [look_surely, syU_get _ _ _ _ _ (by rw [h'.lu]; omega), hg]
        by_cases e : f' = f
        · subst e
          rw [if_pos rfl, if_pos (by omega), List.getLast?_map]
          cases (W.getD (f' * 4 + s') []).getLast? with
          | none => simpa using hl
          | some b => rfl
        · rw [if_neg (by simp only; omega), if_neg (by omega)]; exact hl
      · have hg := h'.g f' s' hf' hs'
        show wtg (f', s') (leftF f E.waits) = _
        rw [wtg_left, syW_get _ _ _ _ (by rw [h'.lw]; omega)]
        by_cases e : f' = f
        · subst e
          rw [if_pos rfl, if_pos (by omega)]; rfl
        · rw [if_neg (by simp only; omega), if_neg (by omega)]; exact hg
    · right
      rw [if_neg hc]
      exact ⟨hc, h.chg.up⟩
  · right
    rw [syncE, if_neg ha, syncF, if_neg ha]
    exact ⟨ha, h.up⟩
/-- Behind the crash. -/
structure Af (D : Disk) (U : List UInt8) (W : List (List UInt8)) : Prop where
  ok : D.Ok
  w : D.waits = []
  z : ∀ f : Nat, f < 2 → 0 ≤ lenV D f ∧ lenV D f ≤ 4
  lu : U.length = 8
  lw : W.length = 8
  r : ∀ f k : Nat, f < 2 → (k : Int) < lenV D f → readE D f k = 0 ∧ ∃ c, readV D f k = row (fullB c 0) ∧ (c = U.getD (f * 4 + k) 0 ∨ c ∈ W.getD (f * 4 + k) [])
  n : ∀ f k : Nat, f < 2 → k < 4 → lenV D f ≤ k → U.getD (f * 4 + k) 0 = 0
theorem Ls.crash {D : Disk} {U : List UInt8} {W : List (List UInt8)} {i : Nat} (h : Ls D U W i) (keep : List UInt8) {sh : List PS} (hp : sh.Perm (crashS D keep)) : Af (crashD D (crashS D keep) sh) U W := by
  have hn : ((crashS D keep).map (·.1)).Nodup := keptS_nodup h.ok2.c _
  obtain ⟨o1, o2, o3, o4⟩ := h.ok
  have hk : ∀ e ∈ crashS D keep, (okP e.1 ∧ e.2.length = 128) ∧ e.1.2 ≤ 3 :=
    keptS_ok (fun e => (okP e.1 ∧ e.2.length = 128) ∧ e.1.2 ≤ 3) (fun e he => ⟨⟨h.ok2.b e he, o3 e he⟩, h.wu e he⟩) (fun e he => ⟨⟨h.ok2.a e he, o1 e he⟩, h.su e he⟩) _ (Nat.le_refl _)
  have hs : ∀ e ∈ sh, (okP e.1 ∧ e.2.length = 128) ∧ e.1.2 ≤ 3 := fun e he => hk e (hp.mem_iff.1 he)
  have hz : ∀ f, 0 ≤ sizeL f sh ∧ sizeL f sh ≤ 4 := fun f => by
    rcases sizeL_at f sh with e | ⟨e, he, _, e2⟩
    · omega
    · have := (hs e he).2
      have := (hs e he).1.1.2
      omega
  have hlk : ∀ f k : Nat, f < 2 → k < 4 → ∃ c, (look (f, k) sh).getD zeros = fullB c 0 ∧ (c = U.getD (f * 4 + k) 0 ∨ c ∈ W.getD (f * 4 + k) []) ∧ (look (f, k) sh = none → U.getD (f * 4 + k) 0 = 0) := fun f k hf hk4 => by
    have hl := h.l f k hf hk4
    have hg := h.g f k hf hk4
    rw [look_perm hp hn]
    unfold crashS
    rcases look_kept (f, k) keep D.waits D.sure D.waits.length (Nat.le_refl _) with e | ⟨b, hb, e⟩
    · rw [e]
      refine ⟨_, hl, .inl rfl, fun e0 => ?_⟩
      rw [e0] at hl
      exact (full_inj (a := 0) (hl.symm.trans hl ▸ hl)).symm
    · rw [e]
      have := wtg_mem.2 hb
      rw [hg, List.mem_map] at this
      obtain ⟨c, hc, rfl⟩ := this
      exact ⟨c, rfl, .inr hc, fun e0 => by cases e0⟩
  have hlen : ∀ f : Nat, f < 2 → lenV (crashD D (crashS D keep) sh) f = sizeL f sh ∧ dsize (crashD D (crashS D keep) sh) f = sizeL f sh := fun f hf => by
    rcases Nat.lt_or_ge f 1 with h0 | h0
    · obtain rfl : f = 0 := by omega
      exact ⟨rfl, rfl⟩
    · obtain rfl : f = 1 := by omega
      exact ⟨rfl, rfl⟩
  refine ⟨⟨fun e he => (hk e he).1.2, fun e he => (hs e he).1.2, fun e he => (by cases he), ?_⟩, rfl, fun f hf => by rw [(hlen f hf).1]; exact hz f, h.lu, h.lw, fun f k hf hlt => ?_, fun f k hf hk4 hle => ?_⟩
  · have h0 := hz 0; have h1 := hz 1
    simp only [crashD]; omega
  · rw [(hlen f hf).1] at hlt
    have hk4 : k < 4 := by have := hz f; omega
    have hE : readE (crashD D (crashS D keep) sh) f k = 0 := by
      rw [readE, if_pos (by unfold askV; simp [crashD]; omega), (hlen f hf).2, if_neg (by omega)]
    obtain ⟨c, hc1, hc2, _⟩ := hlk f k hf hk4
    exact ⟨hE, c, by rw [readV, if_pos hE]; exact congrArg row hc1, hc2⟩
  · rw [(hlen f hf).1] at hle
    obtain ⟨c, hc1, hc2, hc3⟩ := hlk f k hf hk4
    refine hc3 ?_
    cases hlo : look ((f : Int), (k : Int)) sh with
    | none => rfl
    | some b =>
      have := sizeL_ge f sh _ (look_mem hlo) rfl
      simp only at this
      omega
end Go.Vm.Try
