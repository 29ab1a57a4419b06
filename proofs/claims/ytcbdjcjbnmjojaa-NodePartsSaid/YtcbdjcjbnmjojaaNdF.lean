/- Walks of functions of the program, and laws of what they compute. -/
import Derived.Test.YtcbdjcjbnmjojaaNdE
import Derived.Test.YtcbdjcjbnmjojaaNdH0
set_option linter.unusedSimpArgs false
set_option linter.unusedVariables false
set_option maxHeartbeats 4000000
set_option maxRecDepth 20000
namespace Go.Vm.Try
open Go.Proofs Go.Vm.Node
theorem uni_key (l : List (List UInt8)) : uniV 1 (l.map st) = true := by simp [uniV, V.cells, V.one]
theorem uni_kid (l : List Int) : uniV 1 (l.map (V.int .i64)) = true := by simp [uniV, V.cells, V.one]
theorem uni_cell (l : List Cl) : uniV 3 (l.map encC) = true := by simp [uniV, V.cells, V.one, encC]
theorem same_step {α : Type} {a b : List α} {d : α} {k : Nat} (h : ∀ j, j < k → a.getD j d = b.getD j d) (hk : a.getD k d = b.getD k d) : ∀ j, j < k + 1 → a.getD j d = b.getD j d := fun j hj => by
  by_cases e : j = k
  · rw [e]; exact hk
  · exact h j (by omega)
theorem same_all {α : Type} {a b : List α} {d : α} (hl : a.length = b.length) (h : ∀ j, j < a.length → a.getD j d = b.getD j d) : a = b := by
  apply List.ext_getElem hl
  intro i h1 h2
  have := h i h1
  simpa [h1, h2] using this
theorem same_not {α : Type} {a b : List α} {d : α} {k : Nat} (h : ¬ a.getD k d = b.getD k d) : ¬ a = b := fun e => h (by rw [e])
theorem same_len {α : Type} {a b : List α} (h : ¬ a.length = b.length) : ¬ a = b := fun e => h (by rw [e])
theorem cl_eq {c d : Cl} (h : c.len = d.len ∧ c.data = d.data ∧ c.page = d.page) : c = d := by cases c; cases d; simp_all
theorem cl_ne {c d : Cl} (h : ¬ c.len = d.len ∨ ¬ c.data = d.data ∨ ¬ c.page = d.page) : ¬ c = d := fun e => by subst e; simp at h
theorem encC_inj {c d : Cl} (h : encC c = encC d) : c = d := by
  cases c; cases d
  simp only [encC, V.agg.injEq, List.cons.injEq, V.int.injEq, V.str.injEq, sb_inj, true_and, and_true] at h
  simp [h]

theorem clones_spec {es : List V} (hu : uniV 1 es = true) (hl : es.length ≤ 1000000) : PSpec Go.Proofs.Try.prog 96 [.sl 1 es .no] (.sl 1 es .no) := by
 refine introP (n := 8) (rs := [.tmp 2]) (fn := Go.Proofs.Try.f96) (by first | exact Go.Proofs.Try.func96 | rfl) rfl (by kernel_rfl) rfl rfl (Nat.le_of_ble_eq_true rfl) (fun Q0 hQ0 => ?_)
 refine WS.seq ?_
 refine A1 [0] (by decide) ?_
 refine WS.seq (WS.seq ?_)
 refine R0 fun K hK => ?_
 try simp (maxSteps := 4000000) (disch := omega) only [push_cast, Nat.reduceLT, Nat.reduceEqDiff, Nat.reduceAdd, Nat.reduceMul, Nat.reduceSub, Nat.reduceLeDiff, Int.reduceToNat, Int.reduceLT, Int.reduceLE, Int.reduceAdd, Int.reduceSub, Int.reduceMul, Int.reduceNeg, Int.reduceEq, reduceCtorEq, Int.cast_ofNat_Int, Hp.get_set]
 refine fun b hb => ?_
 try simp (maxSteps := 4000000) (disch := omega) only [push_cast, Nat.reduceLT, Nat.reduceEqDiff, Nat.reduceAdd, Nat.reduceMul, Nat.reduceSub, Nat.reduceLeDiff, Int.reduceToNat, Int.reduceLT, Int.reduceLE, Int.reduceAdd, Int.reduceSub, Int.reduceMul, Int.reduceNeg, Int.reduceEq, reduceCtorEq, Int.cast_ofNat_Int, Hp.get_set]
 refine Qk hK [0, 4] ?_
 clear hK K
 refine CI rfl (fun hc => ?_) (fun hc => ?_)
 ·
  all_goals try (cases hc; done)
  all_goals try simp only [push_cast] at hc
  all_goals try (exfalso; omega)
  all_goals
   have he : es = [] := by first | exact hb hc | (simp_all)
   subst he
   refine WS.seq ?_
   refine A1 [2] (by decide) ?_
   refine S_wk 2 rfl (Wk.nil 0 1 .full) ?_
   refine Rt ?_
   refine hQ0 _ _ _ ?_
   try simp (maxSteps := 4000000) only [push_cast, Int.reduceToNat, Int.reduceLT, Int.reduceLE, Int.reduceAdd, Int.reduceSub, Int.reduceMul, Int.reduceNeg, Int.reduceEq, reduceCtorEq, Nat.reduceLeDiff, Nat.reduceLT, Nat.reduceEqDiff, Nat.reduceAdd, Nat.reduceMul, Nat.reduceSub, Int.cast_ofNat_Int]
   first | done | rfl | (simp; done) | (simp_all; done) | (simp_all; omega)
 all_goals try (cases hc; done)
 all_goals try simp only [push_cast] at hc
 all_goals try (exfalso; omega)
 all_goals
  refine Sk ?_
  refine WS.seq ?_
  refine RU [7] [] fun K hK => ?_
  try simp (maxSteps := 4000000) (disch := omega) only [push_cast, Nat.reduceLT, Nat.reduceEqDiff, Nat.reduceAdd, Nat.reduceMul, Nat.reduceSub, Nat.reduceLeDiff, Int.reduceToNat, Int.reduceLT, Int.reduceLE, Int.reduceAdd, Int.reduceSub, Int.reduceMul, Int.reduceNeg, Int.reduceEq, reduceCtorEq, Int.cast_ofNat_Int, Hp.get_set, room, Nat.mul_one]
  (repeat refine And.intro (by first | omega | (simp; done) | (simp_all; done) | (simp_all; omega)) ?_)
  try simp (maxSteps := 4000000) (disch := omega) only [push_cast, Nat.reduceLT, Nat.reduceEqDiff, Nat.reduceAdd, Nat.reduceMul, Nat.reduceSub, Nat.reduceLeDiff, Int.reduceToNat, Int.reduceLT, Int.reduceLE, Int.reduceAdd, Int.reduceSub, Int.reduceMul, Int.reduceNeg, Int.reduceEq, reduceCtorEq, Int.cast_ofNat_Int, Hp.get_set, room, Nat.mul_one]
  (repeat refine And.intro (by first | omega | (simp; done) | (simp_all; done) | (simp_all; omega)) ?_)
  try simp (maxSteps := 4000000) (disch := omega) only [push_cast, Nat.reduceLT, Nat.reduceEqDiff, Nat.reduceAdd, Nat.reduceMul, Nat.reduceSub, Nat.reduceLeDiff, Int.reduceToNat, Int.reduceLT, Int.reduceLE, Int.reduceAdd, Int.reduceSub, Int.reduceMul, Int.reduceNeg, Int.reduceEq, reduceCtorEq, Int.cast_ofNat_Int, Hp.get_set, room, Nat.mul_one]
  (repeat refine And.intro (by first | omega | (simp; done) | (simp_all; done) | (simp_all; omega)) ?_)
  try simp (maxSteps := 4000000) (disch := omega) only [push_cast, Nat.reduceLT, Nat.reduceEqDiff, Nat.reduceAdd, Nat.reduceMul, Nat.reduceSub, Nat.reduceLeDiff, Int.reduceToNat, Int.reduceLT, Int.reduceLE, Int.reduceAdd, Int.reduceSub, Int.reduceMul, Int.reduceNeg, Int.reduceEq, reduceCtorEq, Int.cast_ofNat_Int, Hp.get_set, room, Nat.mul_one]
  (repeat refine And.intro (by first | omega | (simp; done) | (simp_all; done) | (simp_all; omega)) ?_)
  refine Qk hK [2] ?_
  clear hK K
  refine Rt ?_
  refine hQ0 _ _ _ ?_
  try simp (maxSteps := 4000000) only [push_cast, Int.reduceToNat, Int.reduceLT, Int.reduceLE, Int.reduceAdd, Int.reduceSub, Int.reduceMul, Int.reduceNeg, Int.reduceEq, reduceCtorEq, Nat.reduceLeDiff, Nat.reduceLT, Nat.reduceEqDiff, Nat.reduceAdd, Nat.reduceMul, Nat.reduceSub, Int.cast_ofNat_Int]
  first | done | rfl | (simp; done) | (simp_all; done) | (simp_all; omega)
theorem clonec_spec {es : List V} (hu : uniV 3 es = true) (hl : es.length ≤ 1000000) : PSpec Go.Proofs.Try.prog 97 [.sl 3 es .no] (.sl 3 es .no) := by
 refine introP (n := 8) (rs := [.tmp 2]) (fn := Go.Proofs.Try.f97) (by first | exact Go.Proofs.Try.func97 | rfl) rfl (by kernel_rfl) rfl rfl (Nat.le_of_ble_eq_true rfl) (fun Q0 hQ0 => ?_)
 refine WS.seq ?_
 refine A1 [0] (by decide) ?_
 refine WS.seq (WS.seq ?_)
 refine R0 fun K hK => ?_
 try simp (maxSteps := 4000000) (disch := omega) only [push_cast, Nat.reduceLT, Nat.reduceEqDiff, Nat.reduceAdd, Nat.reduceMul, Nat.reduceSub, Nat.reduceLeDiff, Int.reduceToNat, Int.reduceLT, Int.reduceLE, Int.reduceAdd, Int.reduceSub, Int.reduceMul, Int.reduceNeg, Int.reduceEq, reduceCtorEq, Int.cast_ofNat_Int, Hp.get_set]
 refine fun b hb => ?_
 try simp (maxSteps := 4000000) (disch := omega) only [push_cast, Nat.reduceLT, Nat.reduceEqDiff, Nat.reduceAdd, Nat.reduceMul, Nat.reduceSub, Nat.reduceLeDiff, Int.reduceToNat, Int.reduceLT, Int.reduceLE, Int.reduceAdd, Int.reduceSub, Int.reduceMul, Int.reduceNeg, Int.reduceEq, reduceCtorEq, Int.cast_ofNat_Int, Hp.get_set]
 refine Qk hK [0, 4] ?_
 clear hK K
 refine CI rfl (fun hc => ?_) (fun hc => ?_)
 ·
  all_goals try (cases hc; done)
  all_goals try simp only [push_cast] at hc
  all_goals try (exfalso; omega)
  all_goals
   have he : es = [] := by first | exact hb hc | (simp_all)
   subst he
   refine WS.seq ?_
   refine A1 [2] (by decide) ?_
   refine S_wk 2 rfl (Wk.nil 0 3 .full) ?_
   refine Rt ?_
   refine hQ0 _ _ _ ?_
   try simp (maxSteps := 4000000) only [push_cast, Int.reduceToNat, Int.reduceLT, Int.reduceLE, Int.reduceAdd, Int.reduceSub, Int.reduceMul, Int.reduceNeg, Int.reduceEq, reduceCtorEq, Nat.reduceLeDiff, Nat.reduceLT, Nat.reduceEqDiff, Nat.reduceAdd, Nat.reduceMul, Nat.reduceSub, Int.cast_ofNat_Int]
   first | done | rfl | (simp; done) | (simp_all; done) | (simp_all; omega)
 all_goals try (cases hc; done)
 all_goals try simp only [push_cast] at hc
 all_goals try (exfalso; omega)
 all_goals
  refine Sk ?_
  refine WS.seq ?_
  refine RU [7] [] fun K hK => ?_
  try simp (maxSteps := 4000000) (disch := omega) only [push_cast, Nat.reduceLT, Nat.reduceEqDiff, Nat.reduceAdd, Nat.reduceMul, Nat.reduceSub, Nat.reduceLeDiff, Int.reduceToNat, Int.reduceLT, Int.reduceLE, Int.reduceAdd, Int.reduceSub, Int.reduceMul, Int.reduceNeg, Int.reduceEq, reduceCtorEq, Int.cast_ofNat_Int, Hp.get_set, room, Nat.mul_one]
  (repeat refine And.intro (by first | omega | (simp; done) | (simp_all; done) | (simp_all; omega)) ?_)
  try simp (maxSteps := 4000000) (disch := omega) only [push_cast, Nat.reduceLT, Nat.reduceEqDiff, Nat.reduceAdd, Nat.reduceMul, Nat.reduceSub, Nat.reduceLeDiff, Int.reduceToNat, Int.reduceLT, Int.reduceLE, Int.reduceAdd, Int.reduceSub, Int.reduceMul, Int.reduceNeg, Int.reduceEq, reduceCtorEq, Int.cast_ofNat_Int, Hp.get_set, room, Nat.mul_one]
  (repeat refine And.intro (by first | omega | (simp; done) | (simp_all; done) | (simp_all; omega)) ?_)
  try simp (maxSteps := 4000000) (disch := omega) only [push_cast, Nat.reduceLT, Nat.reduceEqDiff, Nat.reduceAdd, Nat.reduceMul, Nat.reduceSub, Nat.reduceLeDiff, Int.reduceToNat, Int.reduceLT, Int.reduceLE, Int.reduceAdd, Int.reduceSub, Int.reduceMul, Int.reduceNeg, Int.reduceEq, reduceCtorEq, Int.cast_ofNat_Int, Hp.get_set, room, Nat.mul_one]
  (repeat refine And.intro (by first | omega | (simp; done) | (simp_all; done) | (simp_all; omega)) ?_)
  try simp (maxSteps := 4000000) (disch := omega) only [push_cast, Nat.reduceLT, Nat.reduceEqDiff, Nat.reduceAdd, Nat.reduceMul, Nat.reduceSub, Nat.reduceLeDiff, Int.reduceToNat, Int.reduceLT, Int.reduceLE, Int.reduceAdd, Int.reduceSub, Int.reduceMul, Int.reduceNeg, Int.reduceEq, reduceCtorEq, Int.cast_ofNat_Int, Hp.get_set, room, Nat.mul_one]
  (repeat refine And.intro (by first | omega | (simp; done) | (simp_all; done) | (simp_all; omega)) ?_)
  refine Qk hK [2] ?_
  clear hK K
  refine Rt ?_
  refine hQ0 _ _ _ ?_
  try simp (maxSteps := 4000000) only [push_cast, Int.reduceToNat, Int.reduceLT, Int.reduceLE, Int.reduceAdd, Int.reduceSub, Int.reduceMul, Int.reduceNeg, Int.reduceEq, reduceCtorEq, Nat.reduceLeDiff, Nat.reduceLT, Nat.reduceEqDiff, Nat.reduceAdd, Nat.reduceMul, Nat.reduceSub, Int.cast_ofNat_Int]
  first | done | rfl | (simp; done) | (simp_all; done) | (simp_all; omega)
theorem clonei_spec {es : List V} (hu : uniV 1 es = true) (hl : es.length ≤ 1000000) : PSpec Go.Proofs.Try.prog 98 [.sl 1 es .no] (.sl 1 es .no) := by
 refine introP (n := 8) (rs := [.tmp 2]) (fn := Go.Proofs.Try.f98) (by first | exact Go.Proofs.Try.func98 | rfl) rfl (by kernel_rfl) rfl rfl (Nat.le_of_ble_eq_true rfl) (fun Q0 hQ0 => ?_)
 refine WS.seq ?_
 refine A1 [0] (by decide) ?_
 refine WS.seq (WS.seq ?_)
 refine R0 fun K hK => ?_
 try simp (maxSteps := 4000000) (disch := omega) only [push_cast, Nat.reduceLT, Nat.reduceEqDiff, Nat.reduceAdd, Nat.reduceMul, Nat.reduceSub, Nat.reduceLeDiff, Int.reduceToNat, Int.reduceLT, Int.reduceLE, Int.reduceAdd, Int.reduceSub, Int.reduceMul, Int.reduceNeg, Int.reduceEq, reduceCtorEq, Int.cast_ofNat_Int, Hp.get_set]
 refine fun b hb => ?_
 try simp (maxSteps := 4000000) (disch := omega) only [push_cast, Nat.reduceLT, Nat.reduceEqDiff, Nat.reduceAdd, Nat.reduceMul, Nat.reduceSub, Nat.reduceLeDiff, Int.reduceToNat, Int.reduceLT, Int.reduceLE, Int.reduceAdd, Int.reduceSub, Int.reduceMul, Int.reduceNeg, Int.reduceEq, reduceCtorEq, Int.cast_ofNat_Int, Hp.get_set]
 refine Qk hK [0, 4] ?_
 clear hK K
 refine CI rfl (fun hc => ?_) (fun hc => ?_)
 ·
  all_goals try (cases hc; done)
  all_goals try simp only [push_cast] at hc
  all_goals try (exfalso; omega)
  all_goals
   have he : es = [] := by first | exact hb hc | (simp_all)
   subst he
   refine WS.seq ?_
   refine A1 [2] (by decide) ?_
   refine S_wk 2 rfl (Wk.nil 0 1 .full) ?_
   refine Rt ?_
   refine hQ0 _ _ _ ?_
   try simp (maxSteps := 4000000) only [push_cast, Int.reduceToNat, Int.reduceLT, Int.reduceLE, Int.reduceAdd, Int.reduceSub, Int.reduceMul, Int.reduceNeg, Int.reduceEq, reduceCtorEq, Nat.reduceLeDiff, Nat.reduceLT, Nat.reduceEqDiff, Nat.reduceAdd, Nat.reduceMul, Nat.reduceSub, Int.cast_ofNat_Int]
   first | done | rfl | (simp; done) | (simp_all; done) | (simp_all; omega)
 all_goals try (cases hc; done)
 all_goals try simp only [push_cast] at hc
 all_goals try (exfalso; omega)
 all_goals
  refine Sk ?_
  refine WS.seq ?_
  refine RU [7] [] fun K hK => ?_
  try simp (maxSteps := 4000000) (disch := omega) only [push_cast, Nat.reduceLT, Nat.reduceEqDiff, Nat.reduceAdd, Nat.reduceMul, Nat.reduceSub, Nat.reduceLeDiff, Int.reduceToNat, Int.reduceLT, Int.reduceLE, Int.reduceAdd, Int.reduceSub, Int.reduceMul, Int.reduceNeg, Int.reduceEq, reduceCtorEq, Int.cast_ofNat_Int, Hp.get_set, room, Nat.mul_one]
  (repeat refine And.intro (by first | omega | (simp; done) | (simp_all; done) | (simp_all; omega)) ?_)
  try simp (maxSteps := 4000000) (disch := omega) only [push_cast, Nat.reduceLT, Nat.reduceEqDiff, Nat.reduceAdd, Nat.reduceMul, Nat.reduceSub, Nat.reduceLeDiff, Int.reduceToNat, Int.reduceLT, Int.reduceLE, Int.reduceAdd, Int.reduceSub, Int.reduceMul, Int.reduceNeg, Int.reduceEq, reduceCtorEq, Int.cast_ofNat_Int, Hp.get_set, room, Nat.mul_one]
  (repeat refine And.intro (by first | omega | (simp; done) | (simp_all; done) | (simp_all; omega)) ?_)
  try simp (maxSteps := 4000000) (disch := omega) only [push_cast, Nat.reduceLT, Nat.reduceEqDiff, Nat.reduceAdd, Nat.reduceMul, Nat.reduceSub, Nat.reduceLeDiff, Int.reduceToNat, Int.reduceLT, Int.reduceLE, Int.reduceAdd, Int.reduceSub, Int.reduceMul, Int.reduceNeg, Int.reduceEq, reduceCtorEq, Int.cast_ofNat_Int, Hp.get_set, room, Nat.mul_one]
  (repeat refine And.intro (by first | omega | (simp; done) | (simp_all; done) | (simp_all; omega)) ?_)
  try simp (maxSteps := 4000000) (disch := omega) only [push_cast, Nat.reduceLT, Nat.reduceEqDiff, Nat.reduceAdd, Nat.reduceMul, Nat.reduceSub, Nat.reduceLeDiff, Int.reduceToNat, Int.reduceLT, Int.reduceLE, Int.reduceAdd, Int.reduceSub, Int.reduceMul, Int.reduceNeg, Int.reduceEq, reduceCtorEq, Int.cast_ofNat_Int, Hp.get_set, room, Nat.mul_one]
  (repeat refine And.intro (by first | omega | (simp; done) | (simp_all; done) | (simp_all; omega)) ?_)
  refine Qk hK [2] ?_
  clear hK K
  refine Rt ?_
  refine hQ0 _ _ _ ?_
  try simp (maxSteps := 4000000) only [push_cast, Int.reduceToNat, Int.reduceLT, Int.reduceLE, Int.reduceAdd, Int.reduceSub, Int.reduceMul, Int.reduceNeg, Int.reduceEq, reduceCtorEq, Nat.reduceLeDiff, Nat.reduceLT, Nat.reduceEqDiff, Nat.reduceAdd, Nat.reduceMul, Nat.reduceSub, Int.cast_ofNat_Int]
  first | done | rfl | (simp; done) | (simp_all; done) | (simp_all; omega)
theorem leafPart_spec (n : Nd) (f t : Nat) (hn : Sm n) (h1 : f ≤ t) (h2 : t ≤ n.keys.length) (h3 : t ≤ n.cells.length) : PSpec Go.Proofs.Try.prog 71 [encN n, .int .i64 f, .int .i64 t] (encN (leafPart n f t)) := by
 refine introP (n := 20) (rs := [.cell 6 26]) (fn := Go.Proofs.Try.f71) (by first | exact Go.Proofs.Try.func71 | rfl) rfl (by kernel_rfl) rfl rfl (Nat.le_of_ble_eq_true rfl) (fun Q0 hQ0 => ?_)
 obtain ⟨hn1, hn2, hn3⟩ := hn
 refine WS.seq ?_
 refine R0 fun K hK => ?_
 try simp (maxSteps := 4000000) (disch := omega) only [push_cast, Nat.reduceLT, Nat.reduceEqDiff, Hp.get_set, all_anyC, all_anyP, key_get, cell_get, kid_get, encC, List.length_map, encN, ← List.map_take, ← List.map_drop, List.length_map, List.length_take, List.length_drop, ncs]
 (repeat refine And.intro (by first | omega | (simp; done) | (simp_all; done) | (simp_all; omega)) ?_)
 refine fun g0_0 hg0_0 => ?_
 try simp only [Hp.set_none, Hp.join_none_iff] at hg0_0
 try simp (maxSteps := 4000000) (disch := omega) only [push_cast, Nat.reduceLT, Nat.reduceEqDiff, Hp.get_set, all_anyC, all_anyP, key_get, cell_get, kid_get, encC, List.length_map, encN, ← List.map_take, ← List.map_drop, List.length_map, List.length_take, List.length_drop, ncs, hg0_0]
 (repeat refine And.intro (by first | omega | (simp; done) | (simp_all; done) | (simp_all; omega)) ?_)
 refine fun g0_1 hg0_1 => ?_
 try simp only [Hp.set_none, Hp.join_none_iff] at hg0_1
 try simp (maxSteps := 4000000) (disch := omega) only [push_cast, Nat.reduceLT, Nat.reduceEqDiff, Hp.get_set, all_anyC, all_anyP, key_get, cell_get, kid_get, encC, List.length_map, encN, ← List.map_take, ← List.map_drop, List.length_map, List.length_take, List.length_drop, ncs, hg0_0, hg0_1]
 (repeat refine And.intro (by first | omega | (simp; done) | (simp_all; done) | (simp_all; omega)) ?_)
 refine Qk hK [1, 2, 3, 6] ?_
 clear hK K
 refine S_frz1 3 rfl rfl (of_eq_false hg0_1.2.1) ?_
 refine WS.seq ?_
 refine RD [8, 14] [96, 97] fo (by kernel_rfl) fun K hK => ?_
 try simp (maxSteps := 4000000) (disch := omega) only [push_cast, Nat.reduceLT, Nat.reduceEqDiff, Nat.reduceAdd, Nat.reduceMul, Nat.reduceSub, Nat.reduceLeDiff, Int.reduceToNat, Int.reduceLT, Int.reduceLE, Int.reduceAdd, Int.reduceSub, Int.reduceMul, Int.reduceNeg, Int.reduceEq, reduceCtorEq, Int.cast_ofNat_Int, Hp.get_set, all_anyC, all_anyP, key_get, cell_get, kid_get, encC, List.length_map, encN, ← List.map_take, ← List.map_drop, List.length_map, List.length_take, List.length_drop, ncs, hg0_0, hg0_1]
 (repeat refine And.intro (by first | omega | (simp; done) | (simp_all; done) | (simp_all; omega)) ?_)
 refine callP (clones_spec (uni_key _) (by simp; omega)) rfl ?_
 try simp (maxSteps := 4000000) (disch := omega) only [push_cast, Nat.reduceLT, Nat.reduceEqDiff, Nat.reduceAdd, Nat.reduceMul, Nat.reduceSub, Nat.reduceLeDiff, Int.reduceToNat, Int.reduceLT, Int.reduceLE, Int.reduceAdd, Int.reduceSub, Int.reduceMul, Int.reduceNeg, Int.reduceEq, reduceCtorEq, Int.cast_ofNat_Int, Hp.get_set, all_anyC, all_anyP, key_get, cell_get, kid_get, encC, List.length_map, encN, ← List.map_take, ← List.map_drop, List.length_map, List.length_take, List.length_drop, ncs, hg0_0, hg0_1]
 (repeat refine And.intro (by first | omega | (simp; done) | (simp_all; done) | (simp_all; omega)) ?_)
 refine callP (clonec_spec (uni_cell _) (by simp; omega)) rfl ?_
 try simp (maxSteps := 4000000) (disch := omega) only [push_cast, Nat.reduceLT, Nat.reduceEqDiff, Nat.reduceAdd, Nat.reduceMul, Nat.reduceSub, Nat.reduceLeDiff, Int.reduceToNat, Int.reduceLT, Int.reduceLE, Int.reduceAdd, Int.reduceSub, Int.reduceMul, Int.reduceNeg, Int.reduceEq, reduceCtorEq, Int.cast_ofNat_Int, Hp.get_set, all_anyC, all_anyP, key_get, cell_get, kid_get, encC, List.length_map, encN, ← List.map_take, ← List.map_drop, List.length_map, List.length_take, List.length_drop, ncs, hg0_0, hg0_1]
 (repeat refine And.intro (by first | omega | (simp; done) | (simp_all; done) | (simp_all; omega)) ?_)
 refine Qk hK [6] ?_
 clear hK K
 refine S_wkH (g := g0_1) (l' := ncs (leafPart n f t)) (Hp.get_set_same _ _ _) ⟨Wk.refl _, Wk.refl _, Wk.refl _, Wk.nil 0 1 .full, trivial⟩ rfl ?_
 refine Rt ?_
 refine hQ0 _ _ _ ?_
 try simp (maxSteps := 4000000) only [push_cast, Int.reduceToNat, Int.reduceLT, Int.reduceLE, Int.reduceAdd, Int.reduceSub, Int.reduceMul, Int.reduceNeg, Int.reduceEq, reduceCtorEq, Nat.reduceLeDiff, Nat.reduceLT, Nat.reduceEqDiff, Nat.reduceAdd, Nat.reduceMul, Nat.reduceSub, Int.cast_ofNat_Int, all_anyC, all_anyP, key_get, cell_get, kid_get, encC, List.length_map, encN, ← List.map_take, ← List.map_drop, List.length_map, List.length_take, List.length_drop, ncs, hg0_0, hg0_1]
 first | done | rfl | (simp; done) | (simp_all; done) | (simp_all; omega)
theorem innerPart_spec (n : Nd) (f t : Nat) (hn : Sm n) (h1 : f ≤ t) (h2 : t ≤ n.keys.length) (h3 : t + 1 ≤ n.kids.length) : PSpec Go.Proofs.Try.prog 72 [encN n, .int .i64 f, .int .i64 t] (encN (innerPart n f t)) := by
 refine introP (n := 21) (rs := [.cell 6 26]) (fn := Go.Proofs.Try.f72) (by first | exact Go.Proofs.Try.func72 | rfl) rfl (by kernel_rfl) rfl rfl (Nat.le_of_ble_eq_true rfl) (fun Q0 hQ0 => ?_)
 obtain ⟨hn1, hn2, hn3⟩ := hn
 refine WS.seq ?_
 refine R0 fun K hK => ?_
 try simp (maxSteps := 4000000) (disch := omega) only [push_cast, Nat.reduceLT, Nat.reduceEqDiff, Hp.get_set, all_anyC, all_anyP, key_get, cell_get, kid_get, encC, List.length_map, encN, ← List.map_take, ← List.map_drop, List.length_map, List.length_take, List.length_drop, ncs]
 (repeat refine And.intro (by first | omega | (simp; done) | (simp_all; done) | (simp_all; omega)) ?_)
 refine fun g0_0 hg0_0 => ?_
 try simp only [Hp.set_none, Hp.join_none_iff] at hg0_0
 try simp (maxSteps := 4000000) (disch := omega) only [push_cast, Nat.reduceLT, Nat.reduceEqDiff, Hp.get_set, all_anyC, all_anyP, key_get, cell_get, kid_get, encC, List.length_map, encN, ← List.map_take, ← List.map_drop, List.length_map, List.length_take, List.length_drop, ncs, hg0_0]
 (repeat refine And.intro (by first | omega | (simp; done) | (simp_all; done) | (simp_all; omega)) ?_)
 refine fun g0_1 hg0_1 => ?_
 try simp only [Hp.set_none, Hp.join_none_iff] at hg0_1
 try simp (maxSteps := 4000000) (disch := omega) only [push_cast, Nat.reduceLT, Nat.reduceEqDiff, Hp.get_set, all_anyC, all_anyP, key_get, cell_get, kid_get, encC, List.length_map, encN, ← List.map_take, ← List.map_drop, List.length_map, List.length_take, List.length_drop, ncs, hg0_0, hg0_1]
 (repeat refine And.intro (by first | omega | (simp; done) | (simp_all; done) | (simp_all; omega)) ?_)
 refine Qk hK [1, 2, 3, 6] ?_
 clear hK K
 refine S_frz1 3 rfl rfl (of_eq_false hg0_1.2.1) ?_
 refine WS.seq ?_
 refine RD [8, 14] [96, 98] fo (by kernel_rfl) fun K hK => ?_
 try simp (maxSteps := 4000000) (disch := omega) only [push_cast, Nat.reduceLT, Nat.reduceEqDiff, Nat.reduceAdd, Nat.reduceMul, Nat.reduceSub, Nat.reduceLeDiff, Int.reduceToNat, Int.reduceLT, Int.reduceLE, Int.reduceAdd, Int.reduceSub, Int.reduceMul, Int.reduceNeg, Int.reduceEq, reduceCtorEq, Int.cast_ofNat_Int, Hp.get_set, all_anyC, all_anyP, key_get, cell_get, kid_get, encC, List.length_map, encN, ← List.map_take, ← List.map_drop, List.length_map, List.length_take, List.length_drop, ncs, hg0_0, hg0_1]
 (repeat refine And.intro (by first | omega | (simp; done) | (simp_all; done) | (simp_all; omega)) ?_)
 refine callP (clones_spec (uni_key _) (by simp; omega)) rfl ?_
 try simp (maxSteps := 4000000) (disch := omega) only [push_cast, Nat.reduceLT, Nat.reduceEqDiff, Nat.reduceAdd, Nat.reduceMul, Nat.reduceSub, Nat.reduceLeDiff, Int.reduceToNat, Int.reduceLT, Int.reduceLE, Int.reduceAdd, Int.reduceSub, Int.reduceMul, Int.reduceNeg, Int.reduceEq, reduceCtorEq, Int.cast_ofNat_Int, Hp.get_set, all_anyC, all_anyP, key_get, cell_get, kid_get, encC, List.length_map, encN, ← List.map_take, ← List.map_drop, List.length_map, List.length_take, List.length_drop, ncs, hg0_0, hg0_1]
 (repeat refine And.intro (by first | omega | (simp; done) | (simp_all; done) | (simp_all; omega)) ?_)
 refine callP (clonei_spec (uni_kid _) (by simp; omega)) rfl ?_
 try simp (maxSteps := 4000000) (disch := omega) only [push_cast, Nat.reduceLT, Nat.reduceEqDiff, Nat.reduceAdd, Nat.reduceMul, Nat.reduceSub, Nat.reduceLeDiff, Int.reduceToNat, Int.reduceLT, Int.reduceLE, Int.reduceAdd, Int.reduceSub, Int.reduceMul, Int.reduceNeg, Int.reduceEq, reduceCtorEq, Int.cast_ofNat_Int, Hp.get_set, all_anyC, all_anyP, key_get, cell_get, kid_get, encC, List.length_map, encN, ← List.map_take, ← List.map_drop, List.length_map, List.length_take, List.length_drop, ncs, hg0_0, hg0_1]
 (repeat refine And.intro (by first | omega | (simp; done) | (simp_all; done) | (simp_all; omega)) ?_)
 refine Qk hK [6] ?_
 clear hK K
 refine S_wkH (g := g0_1) (l' := ncs (innerPart n f t)) (Hp.get_set_same _ _ _) ⟨Wk.refl _, Wk.refl _, Wk.nil 0 3 .full, Wk.refl _, trivial⟩ rfl ?_
 refine Rt ?_
 refine hQ0 _ _ _ ?_
 try simp (maxSteps := 4000000) only [push_cast, Int.reduceToNat, Int.reduceLT, Int.reduceLE, Int.reduceAdd, Int.reduceSub, Int.reduceMul, Int.reduceNeg, Int.reduceEq, reduceCtorEq, Nat.reduceLeDiff, Nat.reduceLT, Nat.reduceEqDiff, Nat.reduceAdd, Nat.reduceMul, Nat.reduceSub, Int.cast_ofNat_Int, all_anyC, all_anyP, key_get, cell_get, kid_get, encC, List.length_map, encN, ← List.map_take, ← List.map_drop, List.length_map, List.length_take, List.length_drop, ncs, hg0_0, hg0_1]
 first | done | rfl | (simp; done) | (simp_all; done) | (simp_all; omega)
theorem some_spec (n : Nd) (t : Nat) (hn : Sm n) (hr : right n = true) (h1 : 1 ≤ t) (h2 : t ≤ n.keys.length) : PSpec Go.Proofs.Try.prog 70 [encN n, .int .i64 t] (encN (someN n t)) := by
 refine introP (n := 13) (rs := [.cell 4 26]) (fn := Go.Proofs.Try.f70) (by first | exact Go.Proofs.Try.func70 | rfl) rfl (by kernel_rfl) rfl rfl (Nat.le_of_ble_eq_true rfl) (fun Q0 hQ0 => ?_)
 refine WS.seq ?_
 refine R0 fun K hK => ?_
 try simp (maxSteps := 4000000) (disch := omega) only [push_cast, Nat.reduceLT, Nat.reduceEqDiff, Hp.get_set, all_anyC, all_anyP, key_get, cell_get, kid_get, encC, List.length_map, encN, ncs, Hp.get_set_same, Hp.set_set]
 (repeat refine And.intro (by first | omega | (simp; done) | (simp_all; done) | (simp_all; omega)) ?_)
 refine fun g0_0 hg0_0 => ?_
 try simp only [Hp.set_none, Hp.join_none_iff] at hg0_0
 try simp (maxSteps := 4000000) (disch := omega) only [push_cast, Nat.reduceLT, Nat.reduceEqDiff, Hp.get_set, all_anyC, all_anyP, key_get, cell_get, kid_get, encC, List.length_map, encN, ncs, Hp.get_set_same, Hp.set_set, hg0_0]
 (repeat refine And.intro (by first | omega | (simp; done) | (simp_all; done) | (simp_all; omega)) ?_)
 refine fun g0_1 hg0_1 => ?_
 try simp only [Hp.set_none, Hp.join_none_iff] at hg0_1
 try simp (maxSteps := 4000000) (disch := omega) only [push_cast, Nat.reduceLT, Nat.reduceEqDiff, Hp.get_set, all_anyC, all_anyP, key_get, cell_get, kid_get, encC, List.length_map, encN, ncs, Hp.get_set_same, Hp.set_set, hg0_0, hg0_1]
 (repeat refine And.intro (by first | omega | (simp; done) | (simp_all; done) | (simp_all; omega)) ?_)
 refine Qk hK [1, 2, 4] ?_
 clear hK K
 refine S_frz1 2 rfl rfl (of_eq_false hg0_1.2.1) ?_
 refine WS.seq (WS.seq ?_)
 refine R0 fun K hK => ?_
 try simp (maxSteps := 4000000) (disch := omega) only [push_cast, Nat.reduceLT, Nat.reduceEqDiff, Nat.reduceAdd, Nat.reduceMul, Nat.reduceSub, Nat.reduceLeDiff, Hp.get_set, all_anyC, all_anyP, key_get, cell_get, kid_get, encC, List.length_map, encN, ncs, Hp.get_set_same, Hp.set_set, hg0_0, hg0_1]
 (repeat refine And.intro (by first | omega | (simp; done) | (simp_all; done) | (simp_all; omega)) ?_)
 refine Qk hK [1, 2, 4, 6] ?_
 clear hK K
 refine CI rfl (fun hc => ?_) (fun hc => ?_)
 ·
  all_goals try (cases hc; done)
  all_goals try simp only [push_cast] at hc
  all_goals try (exfalso; omega)
  all_goals
   refine WS.seq ?_
   refine R0 fun K hK => ?_
   try simp (maxSteps := 4000000) (disch := omega) only [push_cast, Nat.reduceLT, Nat.reduceEqDiff, Nat.reduceAdd, Nat.reduceMul, Nat.reduceSub, Nat.reduceLeDiff, Hp.get_set, all_anyC, all_anyP, key_get, cell_get, kid_get, encC, List.length_map, encN, ncs, Hp.get_set_same, Hp.set_set, hg0_0, hg0_1]
   (repeat refine And.intro (by first | omega | (simp; done) | (simp_all; done) | (simp_all; omega)) ?_)
   refine callP (leafPart_spec n 0 t hn (by omega) h2 (by have := shape_leaf (right_shape hr) hc; omega)) rfl ?_
   try simp (maxSteps := 4000000) (disch := omega) only [push_cast, Nat.reduceLT, Nat.reduceEqDiff, Nat.reduceAdd, Nat.reduceMul, Nat.reduceSub, Nat.reduceLeDiff, Hp.get_set, all_anyC, all_anyP, key_get, cell_get, kid_get, encC, List.length_map, encN, ncs, Hp.get_set_same, Hp.set_set, hg0_0, hg0_1]
   (repeat refine And.intro (by first | omega | (simp; done) | (simp_all; done) | (simp_all; omega)) ?_)
   refine Qk hK [4] ?_
   clear hK K
   refine Rt ?_
   refine hQ0 _ _ _ ?_
   try simp (maxSteps := 4000000) only [push_cast, Int.reduceToNat, Int.reduceLT, Int.reduceLE, Int.reduceAdd, Int.reduceSub, Int.reduceMul, Int.reduceNeg, Int.reduceEq, reduceCtorEq, Nat.reduceLeDiff, Nat.reduceLT, Nat.reduceEqDiff, Nat.reduceAdd, Nat.reduceMul, Nat.reduceSub, Int.cast_ofNat_Int, all_anyC, all_anyP, key_get, cell_get, kid_get, encC, List.length_map, encN, ncs, Hp.get_set_same, Hp.set_set, hg0_0, hg0_1]
   have hs : someN n t = leafPart n 0 t := by unfold someN; rw [hc]; rfl
   rw [hs]
 all_goals try (cases hc; done)
 all_goals try simp only [push_cast] at hc
 all_goals try (exfalso; omega)
 all_goals
  refine Sk ?_
  refine WS.seq ?_
  refine R0 fun K hK => ?_
  try simp (maxSteps := 4000000) (disch := omega) only [push_cast, Nat.reduceLT, Nat.reduceEqDiff, Nat.reduceAdd, Nat.reduceMul, Nat.reduceSub, Nat.reduceLeDiff, Hp.get_set, all_anyC, all_anyP, key_get, cell_get, kid_get, encC, List.length_map, encN, ncs, Hp.get_set_same, Hp.set_set, hg0_0, hg0_1]
  (repeat refine And.intro (by first | omega | (simp; done) | (simp_all; done) | (simp_all; omega)) ?_)
  refine callP (innerPart_spec n 0 t hn (by omega) h2 (by have := shape_inner (right_shape hr) hc; omega)) rfl ?_
  try simp (maxSteps := 4000000) (disch := omega) only [push_cast, Nat.reduceLT, Nat.reduceEqDiff, Nat.reduceAdd, Nat.reduceMul, Nat.reduceSub, Nat.reduceLeDiff, Hp.get_set, all_anyC, all_anyP, key_get, cell_get, kid_get, encC, List.length_map, encN, ncs, Hp.get_set_same, Hp.set_set, hg0_0, hg0_1]
  (repeat refine And.intro (by first | omega | (simp; done) | (simp_all; done) | (simp_all; omega)) ?_)
  refine Qk hK [4] ?_
  clear hK K
  refine Rt ?_
  refine hQ0 _ _ _ ?_
  try simp (maxSteps := 4000000) only [push_cast, Int.reduceToNat, Int.reduceLT, Int.reduceLE, Int.reduceAdd, Int.reduceSub, Int.reduceMul, Int.reduceNeg, Int.reduceEq, reduceCtorEq, Nat.reduceLeDiff, Nat.reduceLT, Nat.reduceEqDiff, Nat.reduceAdd, Nat.reduceMul, Nat.reduceSub, Int.cast_ofNat_Int, all_anyC, all_anyP, key_get, cell_get, kid_get, encC, List.length_map, encN, ncs, Hp.get_set_same, Hp.set_set, hg0_0, hg0_1]
  have hs : someN n t = innerPart n 0 t := by unfold someN; rw [hc]; rfl
  rw [hs]
theorem equals_spec (a b : List (List UInt8)) (ha : a.length ≤ 1000000) (hb : b.length ≤ 1000000) : PSpec Go.Proofs.Try.prog 67 [.sl 1 (a.map st) .no, .sl 1 (b.map st) .no] (.bool (decide (a = b))) := by
 refine introP (n := 26) (rs := [.tmp 4]) (fn := Go.Proofs.Try.f67) (by first | exact Go.Proofs.Try.func67 | rfl) rfl (by kernel_rfl) rfl rfl (Nat.le_of_ble_eq_true rfl) (fun Q0 hQ0 => ?_)
 refine WS.seq ?_
 refine A1 [0, 1] (by decide) ?_
 refine WS.seq (WS.seq ?_)
 refine R0 fun K hK => ?_
 try simp (maxSteps := 4000000) (disch := omega) only [push_cast, Nat.reduceLT, Nat.reduceEqDiff, Int.reduceToNat, Int.reduceLT, Int.reduceLE, Int.reduceAdd, Int.reduceSub, Int.reduceMul, Int.reduceNeg, Int.reduceEq, reduceCtorEq, Int.cast_ofNat_Int, Hp.get_set, all_anyC, all_anyP, key_get, cell_get, kid_get, encC, List.length_map, encN, sb_inj]
 refine Qk hK [0, 1, 10] ?_
 clear hK K
 refine CI rfl (fun hc => ?_) (fun hc => ?_)
 ·
  all_goals try (cases hc; done)
  all_goals try simp only [push_cast] at hc
  all_goals try (exfalso; omega)
  all_goals
   refine WS.seq ?_
   refine A1 [4] (by decide) ?_
   refine Rt ?_
   refine hQ0 _ _ _ ?_
   try simp (maxSteps := 4000000) only [push_cast, Int.reduceToNat, Int.reduceLT, Int.reduceLE, Int.reduceAdd, Int.reduceSub, Int.reduceMul, Int.reduceNeg, Int.reduceEq, reduceCtorEq, Nat.reduceLeDiff, Nat.reduceLT, Nat.reduceEqDiff, Nat.reduceAdd, Nat.reduceMul, Nat.reduceSub, Int.cast_ofNat_Int, all_anyC, all_anyP, key_get, cell_get, kid_get, encC, List.length_map, encN, sb_inj]
   rw [decide_eq_false (same_len (by omega))]
 all_goals try (cases hc; done)
 all_goals try simp only [push_cast] at hc
 all_goals try (exfalso; omega)
 all_goals
  have hlen : a.length = b.length := by omega
  refine Sk ?_
  refine WS.seq (WS.seq ?_)
  refine R0 fun K hK => ?_
  try simp (maxSteps := 4000000) (disch := omega) only [push_cast, Nat.reduceLT, Nat.reduceEqDiff, Int.reduceToNat, Int.reduceLT, Int.reduceLE, Int.reduceAdd, Int.reduceSub, Int.reduceMul, Int.reduceNeg, Int.reduceEq, reduceCtorEq, Int.cast_ofNat_Int, Hp.get_set, all_anyC, all_anyP, key_get, cell_get, kid_get, encC, List.length_map, encN, sb_inj]
  refine Qk hK [0, 1, 12, 13] ?_
  clear hK K
  refine Bk fun K0 hK0 => ?_
  refine WS_keep [0, 1, 12, 13] _ ?_
  refine Lp (fun m env σ' => ∃ (k : Nat), m = a.length - k ∧ env = [(0, .sl 1 (a.map st) .no), (1, .sl 1 (b.map st) .no), (12, .int .i64 a.length), (13, .int .i64 k)] ∧ σ' = Hp.empty ∧ (k ≤ a.length ∧ ∀ j, j < k → a.getD j [] = b.getD j [])) ?_ ?_
  · refine ⟨_, 0,  rfl, ?_, ?_, ?_⟩
    · (try simp (disch := omega) only [push_cast, Int.reduceToNat, Int.reduceLT, Int.reduceLE, Int.reduceAdd, Int.reduceSub, Int.reduceMul, Int.reduceNeg, Int.reduceEq, reduceCtorEq, Nat.reduceLeDiff, Nat.reduceLT, Nat.reduceEqDiff, Nat.reduceAdd, Nat.reduceMul, Nat.reduceSub, Int.cast_ofNat_Int, all_anyC, all_anyP, key_get, cell_get, kid_get, encC, List.length_map, encN, sb_inj]) <;> (first | done | rfl | (simp; done) | (simp; omega) | omega | (simp_all; done) | (simp_all; omega))
    · first | rfl | (try simp (disch := omega) only [push_cast, Int.reduceToNat, Int.reduceLT, Int.reduceLE, Int.reduceAdd, Int.reduceSub, Int.reduceMul, Int.reduceNeg, Int.reduceEq, reduceCtorEq, Nat.reduceLeDiff, Nat.reduceLT, Nat.reduceEqDiff, Nat.reduceAdd, Nat.reduceMul, Nat.reduceSub, Int.cast_ofNat_Int, all_anyC, all_anyP, key_get, cell_get, kid_get, encC, List.length_map, encN, sb_inj]) <;> (first | done | rfl | (simp; done) | (simp; omega) | omega | (simp_all; done) | (simp_all; omega))
    · exact ⟨by omega, fun j hj => by omega⟩
  intro m env σ' hJ M0 hM0
  obtain ⟨k, rfl, rfl, rfl, hk, hs⟩ := hJ
  refine WS.seq ?_
  refine R0 fun K hK => ?_
  try simp (maxSteps := 4000000) (disch := omega) only [push_cast, Nat.reduceLT, Nat.reduceEqDiff, Int.reduceToNat, Int.reduceLT, Int.reduceLE, Int.reduceAdd, Int.reduceSub, Int.reduceMul, Int.reduceNeg, Int.reduceEq, reduceCtorEq, Int.cast_ofNat_Int, Hp.get_set, all_anyC, all_anyP, key_get, cell_get, kid_get, encC, List.length_map, encN, sb_inj]
  refine Qk hK [0, 1, 12, 13, 14] ?_
  clear hK K
  refine WS.seq ?_
  refine CI rfl (fun hc => ?_) (fun hc => ?_)
  rotate_left
  ·
   all_goals try (cases hc; done)
   all_goals try simp only [push_cast] at hc
   all_goals try (exfalso; omega)
   all_goals
    refine Ex ?_
    simp only [push_cast, WS, Nat.reduceEqDiff]
    refine hK0 _ _ ?_
    clear hK0
    try clear K0
    refine WS_keep [] _ ?_
    refine WS.seq ?_
    refine A1 [4] (by decide) ?_
    refine Rt ?_
    refine hQ0 _ _ _ ?_
    try simp (maxSteps := 4000000) only [push_cast, Int.reduceToNat, Int.reduceLT, Int.reduceLE, Int.reduceAdd, Int.reduceSub, Int.reduceMul, Int.reduceNeg, Int.reduceEq, reduceCtorEq, Nat.reduceLeDiff, Nat.reduceLT, Nat.reduceEqDiff, Nat.reduceAdd, Nat.reduceMul, Nat.reduceSub, Int.cast_ofNat_Int, all_anyC, all_anyP, key_get, cell_get, kid_get, encC, List.length_map, encN, sb_inj]
    obtain rfl : k = a.length := by omega
    rw [decide_eq_true (same_all hlen hs)]
  all_goals try (cases hc; done)
  all_goals try simp only [push_cast] at hc
  all_goals try (exfalso; omega)
  all_goals
   refine Sk ?_
   refine WS.seq ?_
   refine Bk fun K1 hK1 => ?_
   refine WS.seq ?_
   refine R0 fun K hK => ?_
   try simp (maxSteps := 4000000) (disch := omega) only [push_cast, Nat.reduceLT, Nat.reduceEqDiff, Hp.get_set, all_anyC, all_anyP, key_get, cell_get, kid_get, encC, List.length_map, encN, sb_inj]
   refine Qk hK [0, 1, 5, 12, 13] ?_
   clear hK K
   refine WS.seq ?_
   refine RD [19, 23] [] fo (by kernel_rfl) fun K hK => ?_
   try simp (maxSteps := 4000000) (disch := omega) only [push_cast, Nat.reduceLT, Nat.reduceEqDiff, Nat.reduceAdd, Nat.reduceMul, Nat.reduceSub, Nat.reduceLeDiff, Int.reduceToNat, Int.reduceLT, Int.reduceLE, Int.reduceAdd, Int.reduceSub, Int.reduceMul, Int.reduceNeg, Int.reduceEq, reduceCtorEq, Int.cast_ofNat_Int, Hp.get_set, all_anyC, all_anyP, key_get, cell_get, kid_get, encC, List.length_map, encN, sb_inj]
   (repeat refine And.intro (by first | omega | (simp; done) | (simp_all; done) | (simp_all; omega)) ?_)
   refine Qk hK [0, 1, 12, 13, 24] ?_
   clear hK K
   refine CI rfl (fun hc => ?_) (fun hc => ?_)
   ·
    all_goals try (cases hc; done)
    all_goals try simp only [push_cast] at hc
    all_goals try (exfalso; omega)
    all_goals
     refine WS.seq ?_
     refine A1 [4] (by decide) ?_
     refine Rt ?_
     simp only [push_cast]
     refine hQ0 _ _ _ ?_
     try simp (maxSteps := 4000000) only [push_cast, Int.reduceToNat, Int.reduceLT, Int.reduceLE, Int.reduceAdd, Int.reduceSub, Int.reduceMul, Int.reduceNeg, Int.reduceEq, reduceCtorEq, Nat.reduceLeDiff, Nat.reduceLT, Nat.reduceEqDiff, Nat.reduceAdd, Nat.reduceMul, Nat.reduceSub, Int.cast_ofNat_Int, all_anyC, all_anyP, key_get, cell_get, kid_get, encC, List.length_map, encN, sb_inj]
     rw [decide_eq_false (same_not hc)]
   all_goals try (cases hc; done)
   all_goals try simp only [push_cast] at hc
   all_goals try (exfalso; omega)
   all_goals
    refine Sk ?_
    simp only [push_cast, WS, Nat.reduceEqDiff]
    refine hK1 _ _ ?_
    clear hK1
    try clear K1
    refine WS_keep [0, 1, 12, 13] _ ?_
    refine R0 fun K hK => ?_
    try simp (maxSteps := 4000000) (disch := omega) only [push_cast, Nat.reduceLT, Nat.reduceEqDiff, Int.reduceToNat, Int.reduceLT, Int.reduceLE, Int.reduceAdd, Int.reduceSub, Int.reduceMul, Int.reduceNeg, Int.reduceEq, reduceCtorEq, Int.cast_ofNat_Int, Hp.get_set, all_anyC, all_anyP, key_get, cell_get, kid_get, encC, List.length_map, encN, sb_inj]
    (repeat refine And.intro (by first | omega | (simp; done) | (simp_all; done) | (simp_all; omega)) ?_)
    refine Qk hK [0, 1, 12, 13] ?_
    clear hK K
    refine Ag (hM0 _ _ ?_)
    refine ⟨_, ?_, k + 1,  rfl, ?_, ?_, ?_⟩
    · first | omega | (simp; done) | (simp_all; done) | (simp_all; omega)
    · (try simp (disch := omega) only [push_cast, Int.reduceToNat, Int.reduceLT, Int.reduceLE, Int.reduceAdd, Int.reduceSub, Int.reduceMul, Int.reduceNeg, Int.reduceEq, reduceCtorEq, Nat.reduceLeDiff, Nat.reduceLT, Nat.reduceEqDiff, Nat.reduceAdd, Nat.reduceMul, Nat.reduceSub, Int.cast_ofNat_Int, all_anyC, all_anyP, key_get, cell_get, kid_get, encC, List.length_map, encN, sb_inj]) <;> (first | done | rfl | (simp; done) | (simp; omega) | omega | (simp_all; done) | (simp_all; omega))
    · first | rfl | (try simp (disch := omega) only [push_cast, Int.reduceToNat, Int.reduceLT, Int.reduceLE, Int.reduceAdd, Int.reduceSub, Int.reduceMul, Int.reduceNeg, Int.reduceEq, reduceCtorEq, Nat.reduceLeDiff, Nat.reduceLT, Nat.reduceEqDiff, Nat.reduceAdd, Nat.reduceMul, Nat.reduceSub, Int.cast_ofNat_Int, all_anyC, all_anyP, key_get, cell_get, kid_get, encC, List.length_map, encN, sb_inj]) <;> (first | done | rfl | (simp; done) | (simp; omega) | omega | (simp_all; done) | (simp_all; omega))
    · exact ⟨by omega, same_step hs hc⟩
theorem equalc_spec (a b : List (Cl)) (ha : a.length ≤ 1000000) (hb : b.length ≤ 1000000) : PSpec Go.Proofs.Try.prog 68 [.sl 3 (a.map encC) .no, .sl 3 (b.map encC) .no] (.bool (decide (a = b))) := by
 refine introP (n := 26) (rs := [.tmp 4]) (fn := Go.Proofs.Try.f68) (by first | exact Go.Proofs.Try.func68 | rfl) rfl (by kernel_rfl) rfl rfl (Nat.le_of_ble_eq_true rfl) (fun Q0 hQ0 => ?_)
 refine WS.seq ?_
 refine A1 [0, 1] (by decide) ?_
 refine WS.seq (WS.seq ?_)
 refine R0 fun K hK => ?_
 try simp (maxSteps := 4000000) (disch := omega) only [push_cast, Nat.reduceLT, Nat.reduceEqDiff, Int.reduceToNat, Int.reduceLT, Int.reduceLE, Int.reduceAdd, Int.reduceSub, Int.reduceMul, Int.reduceNeg, Int.reduceEq, reduceCtorEq, Int.cast_ofNat_Int, Hp.get_set, all_anyC, all_anyP, key_get, cell_get, kid_get, encC, List.length_map, encN, sb_inj]
 refine Qk hK [0, 1, 10] ?_
 clear hK K
 refine CI rfl (fun hc => ?_) (fun hc => ?_)
 ·
  all_goals try (cases hc; done)
  all_goals try simp only [push_cast] at hc
  all_goals try (exfalso; omega)
  all_goals
   refine WS.seq ?_
   refine A1 [4] (by decide) ?_
   refine Rt ?_
   refine hQ0 _ _ _ ?_
   try simp (maxSteps := 4000000) only [push_cast, Int.reduceToNat, Int.reduceLT, Int.reduceLE, Int.reduceAdd, Int.reduceSub, Int.reduceMul, Int.reduceNeg, Int.reduceEq, reduceCtorEq, Nat.reduceLeDiff, Nat.reduceLT, Nat.reduceEqDiff, Nat.reduceAdd, Nat.reduceMul, Nat.reduceSub, Int.cast_ofNat_Int, all_anyC, all_anyP, key_get, cell_get, kid_get, encC, List.length_map, encN, sb_inj]
   rw [decide_eq_false (same_len (by omega))]
 all_goals try (cases hc; done)
 all_goals try simp only [push_cast] at hc
 all_goals try (exfalso; omega)
 all_goals
  have hlen : a.length = b.length := by omega
  refine Sk ?_
  refine WS.seq (WS.seq ?_)
  refine R0 fun K hK => ?_
  try simp (maxSteps := 4000000) (disch := omega) only [push_cast, Nat.reduceLT, Nat.reduceEqDiff, Int.reduceToNat, Int.reduceLT, Int.reduceLE, Int.reduceAdd, Int.reduceSub, Int.reduceMul, Int.reduceNeg, Int.reduceEq, reduceCtorEq, Int.cast_ofNat_Int, Hp.get_set, all_anyC, all_anyP, key_get, cell_get, kid_get, encC, List.length_map, encN, sb_inj]
  refine Qk hK [0, 1, 12, 13] ?_
  clear hK K
  refine Bk fun K0 hK0 => ?_
  refine WS_keep [0, 1, 12, 13] _ ?_
  refine Lp (fun m env σ' => ∃ (k : Nat), m = a.length - k ∧ env = [(0, .sl 3 (a.map encC) .no), (1, .sl 3 (b.map encC) .no), (12, .int .i64 a.length), (13, .int .i64 k)] ∧ σ' = Hp.empty ∧ (k ≤ a.length ∧ ∀ j, j < k → a.getD j default = b.getD j default)) ?_ ?_
  · refine ⟨_, 0,  rfl, ?_, ?_, ?_⟩
    · (try simp (disch := omega) only [push_cast, Int.reduceToNat, Int.reduceLT, Int.reduceLE, Int.reduceAdd, Int.reduceSub, Int.reduceMul, Int.reduceNeg, Int.reduceEq, reduceCtorEq, Nat.reduceLeDiff, Nat.reduceLT, Nat.reduceEqDiff, Nat.reduceAdd, Nat.reduceMul, Nat.reduceSub, Int.cast_ofNat_Int, all_anyC, all_anyP, key_get, cell_get, kid_get, encC, List.length_map, encN, sb_inj]) <;> (first | done | rfl | (simp; done) | (simp; omega) | omega | (simp_all; done) | (simp_all; omega))
    · first | rfl | (try simp (disch := omega) only [push_cast, Int.reduceToNat, Int.reduceLT, Int.reduceLE, Int.reduceAdd, Int.reduceSub, Int.reduceMul, Int.reduceNeg, Int.reduceEq, reduceCtorEq, Nat.reduceLeDiff, Nat.reduceLT, Nat.reduceEqDiff, Nat.reduceAdd, Nat.reduceMul, Nat.reduceSub, Int.cast_ofNat_Int, all_anyC, all_anyP, key_get, cell_get, kid_get, encC, List.length_map, encN, sb_inj]) <;> (first | done | rfl | (simp; done) | (simp; omega) | omega | (simp_all; done) | (simp_all; omega))
    · exact ⟨by omega, fun j hj => by omega⟩
  intro m env σ' hJ M0 hM0
  obtain ⟨k, rfl, rfl, rfl, hk, hs⟩ := hJ
  refine WS.seq ?_
  refine R0 fun K hK => ?_
  try simp (maxSteps := 4000000) (disch := omega) only [push_cast, Nat.reduceLT, Nat.reduceEqDiff, Int.reduceToNat, Int.reduceLT, Int.reduceLE, Int.reduceAdd, Int.reduceSub, Int.reduceMul, Int.reduceNeg, Int.reduceEq, reduceCtorEq, Int.cast_ofNat_Int, Hp.get_set, all_anyC, all_anyP, key_get, cell_get, kid_get, encC, List.length_map, encN, sb_inj]
  refine Qk hK [0, 1, 12, 13, 14] ?_
  clear hK K
  refine WS.seq ?_
  refine CI rfl (fun hc => ?_) (fun hc => ?_)
  rotate_left
  ·
   all_goals try (cases hc; done)
   all_goals try simp only [push_cast] at hc
   all_goals try (exfalso; omega)
   all_goals
    refine Ex ?_
    simp only [push_cast, WS, Nat.reduceEqDiff]
    refine hK0 _ _ ?_
    clear hK0
    try clear K0
    refine WS_keep [] _ ?_
    refine WS.seq ?_
    refine A1 [4] (by decide) ?_
    refine Rt ?_
    refine hQ0 _ _ _ ?_
    try simp (maxSteps := 4000000) only [push_cast, Int.reduceToNat, Int.reduceLT, Int.reduceLE, Int.reduceAdd, Int.reduceSub, Int.reduceMul, Int.reduceNeg, Int.reduceEq, reduceCtorEq, Nat.reduceLeDiff, Nat.reduceLT, Nat.reduceEqDiff, Nat.reduceAdd, Nat.reduceMul, Nat.reduceSub, Int.cast_ofNat_Int, all_anyC, all_anyP, key_get, cell_get, kid_get, encC, List.length_map, encN, sb_inj]
    obtain rfl : k = a.length := by omega
    rw [decide_eq_true (same_all hlen hs)]
  all_goals try (cases hc; done)
  all_goals try simp only [push_cast] at hc
  all_goals try (exfalso; omega)
  all_goals
   refine Sk ?_
   refine WS.seq ?_
   refine Bk fun K1 hK1 => ?_
   refine WS.seq ?_
   refine R0 fun K hK => ?_
   try simp (maxSteps := 4000000) (disch := omega) only [push_cast, Nat.reduceLT, Nat.reduceEqDiff, Hp.get_set, all_anyC, all_anyP, key_get, cell_get, kid_get, encC, List.length_map, encN, sb_inj]
   refine Qk hK [0, 1, 5, 12, 13] ?_
   clear hK K
   refine WS.seq ?_
   refine RD [19, 23] [] fo (by kernel_rfl) fun K hK => ?_
   try simp (maxSteps := 4000000) (disch := omega) only [push_cast, Nat.reduceLT, Nat.reduceEqDiff, Nat.reduceAdd, Nat.reduceMul, Nat.reduceSub, Nat.reduceLeDiff, Int.reduceToNat, Int.reduceLT, Int.reduceLE, Int.reduceAdd, Int.reduceSub, Int.reduceMul, Int.reduceNeg, Int.reduceEq, reduceCtorEq, Int.cast_ofNat_Int, Hp.get_set, all_anyC, all_anyP, key_get, cell_get, kid_get, encC, List.length_map, encN, sb_inj]
   (repeat refine And.intro (by first | omega | (simp; done) | (simp_all; done) | (simp_all; omega)) ?_)
   refine Qk hK [0, 1, 12, 13, 24] ?_
   clear hK K
   refine CI rfl (fun hc => ?_) (fun hc => ?_)
   ·
    all_goals try (cases hc; done)
    all_goals try simp only [push_cast] at hc
    all_goals try (exfalso; omega)
    all_goals
     refine WS.seq ?_
     refine A1 [4] (by decide) ?_
     refine Rt ?_
     simp only [push_cast]
     refine hQ0 _ _ _ ?_
     try simp (maxSteps := 4000000) only [push_cast, Int.reduceToNat, Int.reduceLT, Int.reduceLE, Int.reduceAdd, Int.reduceSub, Int.reduceMul, Int.reduceNeg, Int.reduceEq, reduceCtorEq, Nat.reduceLeDiff, Nat.reduceLT, Nat.reduceEqDiff, Nat.reduceAdd, Nat.reduceMul, Nat.reduceSub, Int.cast_ofNat_Int, all_anyC, all_anyP, key_get, cell_get, kid_get, encC, List.length_map, encN, sb_inj]
     rw [decide_eq_false (same_not (cl_ne hc))]
   all_goals try (cases hc; done)
   all_goals try simp only [push_cast] at hc
   all_goals try (exfalso; omega)
   all_goals
    refine Sk ?_
    simp only [push_cast, WS, Nat.reduceEqDiff]
    refine hK1 _ _ ?_
    clear hK1
    try clear K1
    refine WS_keep [0, 1, 12, 13] _ ?_
    refine R0 fun K hK => ?_
    try simp (maxSteps := 4000000) (disch := omega) only [push_cast, Nat.reduceLT, Nat.reduceEqDiff, Int.reduceToNat, Int.reduceLT, Int.reduceLE, Int.reduceAdd, Int.reduceSub, Int.reduceMul, Int.reduceNeg, Int.reduceEq, reduceCtorEq, Int.cast_ofNat_Int, Hp.get_set, all_anyC, all_anyP, key_get, cell_get, kid_get, encC, List.length_map, encN, sb_inj]
    (repeat refine And.intro (by first | omega | (simp; done) | (simp_all; done) | (simp_all; omega)) ?_)
    refine Qk hK [0, 1, 12, 13] ?_
    clear hK K
    refine Ag (hM0 _ _ ?_)
    refine ⟨_, ?_, k + 1,  rfl, ?_, ?_, ?_⟩
    · first | omega | (simp; done) | (simp_all; done) | (simp_all; omega)
    · (try simp (disch := omega) only [push_cast, Int.reduceToNat, Int.reduceLT, Int.reduceLE, Int.reduceAdd, Int.reduceSub, Int.reduceMul, Int.reduceNeg, Int.reduceEq, reduceCtorEq, Nat.reduceLeDiff, Nat.reduceLT, Nat.reduceEqDiff, Nat.reduceAdd, Nat.reduceMul, Nat.reduceSub, Int.cast_ofNat_Int, all_anyC, all_anyP, key_get, cell_get, kid_get, encC, List.length_map, encN, sb_inj]) <;> (first | done | rfl | (simp; done) | (simp; omega) | omega | (simp_all; done) | (simp_all; omega))
    · first | rfl | (try simp (disch := omega) only [push_cast, Int.reduceToNat, Int.reduceLT, Int.reduceLE, Int.reduceAdd, Int.reduceSub, Int.reduceMul, Int.reduceNeg, Int.reduceEq, reduceCtorEq, Nat.reduceLeDiff, Nat.reduceLT, Nat.reduceEqDiff, Nat.reduceAdd, Nat.reduceMul, Nat.reduceSub, Int.cast_ofNat_Int, all_anyC, all_anyP, key_get, cell_get, kid_get, encC, List.length_map, encN, sb_inj]) <;> (first | done | rfl | (simp; done) | (simp; omega) | omega | (simp_all; done) | (simp_all; omega))
    · exact ⟨by omega, same_step hs (cl_eq hc)⟩
theorem equali_spec (a b : List (Int)) (ha : a.length ≤ 1000000) (hb : b.length ≤ 1000000) : PSpec Go.Proofs.Try.prog 69 [.sl 1 (a.map (V.int .i64)) .no, .sl 1 (b.map (V.int .i64)) .no] (.bool (decide (a = b))) := by
 refine introP (n := 26) (rs := [.tmp 4]) (fn := Go.Proofs.Try.f69) (by first | exact Go.Proofs.Try.func69 | rfl) rfl (by kernel_rfl) rfl rfl (Nat.le_of_ble_eq_true rfl) (fun Q0 hQ0 => ?_)
 refine WS.seq ?_
 refine A1 [0, 1] (by decide) ?_
 refine WS.seq (WS.seq ?_)
 refine R0 fun K hK => ?_
 try simp (maxSteps := 4000000) (disch := omega) only [push_cast, Nat.reduceLT, Nat.reduceEqDiff, Int.reduceToNat, Int.reduceLT, Int.reduceLE, Int.reduceAdd, Int.reduceSub, Int.reduceMul, Int.reduceNeg, Int.reduceEq, reduceCtorEq, Int.cast_ofNat_Int, Hp.get_set, all_anyC, all_anyP, key_get, cell_get, kid_get, encC, List.length_map, encN, sb_inj]
 refine Qk hK [0, 1, 10] ?_
 clear hK K
 refine CI rfl (fun hc => ?_) (fun hc => ?_)
 ·
  all_goals try (cases hc; done)
  all_goals try simp only [push_cast] at hc
  all_goals try (exfalso; omega)
  all_goals
   refine WS.seq ?_
   refine A1 [4] (by decide) ?_
   refine Rt ?_
   refine hQ0 _ _ _ ?_
   try simp (maxSteps := 4000000) only [push_cast, Int.reduceToNat, Int.reduceLT, Int.reduceLE, Int.reduceAdd, Int.reduceSub, Int.reduceMul, Int.reduceNeg, Int.reduceEq, reduceCtorEq, Nat.reduceLeDiff, Nat.reduceLT, Nat.reduceEqDiff, Nat.reduceAdd, Nat.reduceMul, Nat.reduceSub, Int.cast_ofNat_Int, all_anyC, all_anyP, key_get, cell_get, kid_get, encC, List.length_map, encN, sb_inj]
   rw [decide_eq_false (same_len (by omega))]
 all_goals try (cases hc; done)
 all_goals try simp only [push_cast] at hc
 all_goals try (exfalso; omega)
 all_goals
  have hlen : a.length = b.length := by omega
  refine Sk ?_
  refine WS.seq (WS.seq ?_)
  refine R0 fun K hK => ?_
  try simp (maxSteps := 4000000) (disch := omega) only [push_cast, Nat.reduceLT, Nat.reduceEqDiff, Int.reduceToNat, Int.reduceLT, Int.reduceLE, Int.reduceAdd, Int.reduceSub, Int.reduceMul, Int.reduceNeg, Int.reduceEq, reduceCtorEq, Int.cast_ofNat_Int, Hp.get_set, all_anyC, all_anyP, key_get, cell_get, kid_get, encC, List.length_map, encN, sb_inj]
  refine Qk hK [0, 1, 12, 13] ?_
  clear hK K
  refine Bk fun K0 hK0 => ?_
  refine WS_keep [0, 1, 12, 13] _ ?_
  refine Lp (fun m env σ' => ∃ (k : Nat), m = a.length - k ∧ env = [(0, .sl 1 (a.map (V.int .i64)) .no), (1, .sl 1 (b.map (V.int .i64)) .no), (12, .int .i64 a.length), (13, .int .i64 k)] ∧ σ' = Hp.empty ∧ (k ≤ a.length ∧ ∀ j, j < k → a.getD j 0 = b.getD j 0)) ?_ ?_
  · refine ⟨_, 0,  rfl, ?_, ?_, ?_⟩
    · (try simp (disch := omega) only [push_cast, Int.reduceToNat, Int.reduceLT, Int.reduceLE, Int.reduceAdd, Int.reduceSub, Int.reduceMul, Int.reduceNeg, Int.reduceEq, reduceCtorEq, Nat.reduceLeDiff, Nat.reduceLT, Nat.reduceEqDiff, Nat.reduceAdd, Nat.reduceMul, Nat.reduceSub, Int.cast_ofNat_Int, all_anyC, all_anyP, key_get, cell_get, kid_get, encC, List.length_map, encN, sb_inj]) <;> (first | done | rfl | (simp; done) | (simp; omega) | omega | (simp_all; done) | (simp_all; omega))
    · first | rfl | (try simp (disch := omega) only [push_cast, Int.reduceToNat, Int.reduceLT, Int.reduceLE, Int.reduceAdd, Int.reduceSub, Int.reduceMul, Int.reduceNeg, Int.reduceEq, reduceCtorEq, Nat.reduceLeDiff, Nat.reduceLT, Nat.reduceEqDiff, Nat.reduceAdd, Nat.reduceMul, Nat.reduceSub, Int.cast_ofNat_Int, all_anyC, all_anyP, key_get, cell_get, kid_get, encC, List.length_map, encN, sb_inj]) <;> (first | done | rfl | (simp; done) | (simp; omega) | omega | (simp_all; done) | (simp_all; omega))
    · exact ⟨by omega, fun j hj => by omega⟩
  intro m env σ' hJ M0 hM0
  obtain ⟨k, rfl, rfl, rfl, hk, hs⟩ := hJ
  refine WS.seq ?_
  refine R0 fun K hK => ?_
  try simp (maxSteps := 4000000) (disch := omega) only [push_cast, Nat.reduceLT, Nat.reduceEqDiff, Int.reduceToNat, Int.reduceLT, Int.reduceLE, Int.reduceAdd, Int.reduceSub, Int.reduceMul, Int.reduceNeg, Int.reduceEq, reduceCtorEq, Int.cast_ofNat_Int, Hp.get_set, all_anyC, all_anyP, key_get, cell_get, kid_get, encC, List.length_map, encN, sb_inj]
  refine Qk hK [0, 1, 12, 13, 14] ?_
  clear hK K
  refine WS.seq ?_
  refine CI rfl (fun hc => ?_) (fun hc => ?_)
  rotate_left
  ·
   all_goals try (cases hc; done)
   all_goals try simp only [push_cast] at hc
   all_goals try (exfalso; omega)
   all_goals
    refine Ex ?_
    simp only [push_cast, WS, Nat.reduceEqDiff]
    refine hK0 _ _ ?_
    clear hK0
    try clear K0
    refine WS_keep [] _ ?_
    refine WS.seq ?_
    refine A1 [4] (by decide) ?_
    refine Rt ?_
    refine hQ0 _ _ _ ?_
    try simp (maxSteps := 4000000) only [push_cast, Int.reduceToNat, Int.reduceLT, Int.reduceLE, Int.reduceAdd, Int.reduceSub, Int.reduceMul, Int.reduceNeg, Int.reduceEq, reduceCtorEq, Nat.reduceLeDiff, Nat.reduceLT, Nat.reduceEqDiff, Nat.reduceAdd, Nat.reduceMul, Nat.reduceSub, Int.cast_ofNat_Int, all_anyC, all_anyP, key_get, cell_get, kid_get, encC, List.length_map, encN, sb_inj]
    obtain rfl : k = a.length := by omega
    rw [decide_eq_true (same_all hlen hs)]
  all_goals try (cases hc; done)
  all_goals try simp only [push_cast] at hc
  all_goals try (exfalso; omega)
  all_goals
   refine Sk ?_
   refine WS.seq ?_
   refine Bk fun K1 hK1 => ?_
   refine WS.seq ?_
   refine R0 fun K hK => ?_
   try simp (maxSteps := 4000000) (disch := omega) only [push_cast, Nat.reduceLT, Nat.reduceEqDiff, Hp.get_set, all_anyC, all_anyP, key_get, cell_get, kid_get, encC, List.length_map, encN, sb_inj]
   refine Qk hK [0, 1, 5, 12, 13] ?_
   clear hK K
   refine WS.seq ?_
   refine RD [19, 23] [] fo (by kernel_rfl) fun K hK => ?_
   try simp (maxSteps := 4000000) (disch := omega) only [push_cast, Nat.reduceLT, Nat.reduceEqDiff, Nat.reduceAdd, Nat.reduceMul, Nat.reduceSub, Nat.reduceLeDiff, Int.reduceToNat, Int.reduceLT, Int.reduceLE, Int.reduceAdd, Int.reduceSub, Int.reduceMul, Int.reduceNeg, Int.reduceEq, reduceCtorEq, Int.cast_ofNat_Int, Hp.get_set, all_anyC, all_anyP, key_get, cell_get, kid_get, encC, List.length_map, encN, sb_inj]
   (repeat refine And.intro (by first | omega | (simp; done) | (simp_all; done) | (simp_all; omega)) ?_)
   refine Qk hK [0, 1, 12, 13, 24] ?_
   clear hK K
   refine CI rfl (fun hc => ?_) (fun hc => ?_)
   ·
    all_goals try (cases hc; done)
    all_goals try simp only [push_cast] at hc
    all_goals try (exfalso; omega)
    all_goals
     refine WS.seq ?_
     refine A1 [4] (by decide) ?_
     refine Rt ?_
     simp only [push_cast]
     refine hQ0 _ _ _ ?_
     try simp (maxSteps := 4000000) only [push_cast, Int.reduceToNat, Int.reduceLT, Int.reduceLE, Int.reduceAdd, Int.reduceSub, Int.reduceMul, Int.reduceNeg, Int.reduceEq, reduceCtorEq, Nat.reduceLeDiff, Nat.reduceLT, Nat.reduceEqDiff, Nat.reduceAdd, Nat.reduceMul, Nat.reduceSub, Int.cast_ofNat_Int, all_anyC, all_anyP, key_get, cell_get, kid_get, encC, List.length_map, encN, sb_inj]
     rw [decide_eq_false (same_not hc)]
   all_goals try (cases hc; done)
   all_goals try simp only [push_cast] at hc
   all_goals try (exfalso; omega)
   all_goals
    refine Sk ?_
    simp only [push_cast, WS, Nat.reduceEqDiff]
    refine hK1 _ _ ?_
    clear hK1
    try clear K1
    refine WS_keep [0, 1, 12, 13] _ ?_
    refine R0 fun K hK => ?_
    try simp (maxSteps := 4000000) (disch := omega) only [push_cast, Nat.reduceLT, Nat.reduceEqDiff, Int.reduceToNat, Int.reduceLT, Int.reduceLE, Int.reduceAdd, Int.reduceSub, Int.reduceMul, Int.reduceNeg, Int.reduceEq, reduceCtorEq, Int.cast_ofNat_Int, Hp.get_set, all_anyC, all_anyP, key_get, cell_get, kid_get, encC, List.length_map, encN, sb_inj]
    (repeat refine And.intro (by first | omega | (simp; done) | (simp_all; done) | (simp_all; omega)) ?_)
    refine Qk hK [0, 1, 12, 13] ?_
    clear hK K
    refine Ag (hM0 _ _ ?_)
    refine ⟨_, ?_, k + 1,  rfl, ?_, ?_, ?_⟩
    · first | omega | (simp; done) | (simp_all; done) | (simp_all; omega)
    · (try simp (disch := omega) only [push_cast, Int.reduceToNat, Int.reduceLT, Int.reduceLE, Int.reduceAdd, Int.reduceSub, Int.reduceMul, Int.reduceNeg, Int.reduceEq, reduceCtorEq, Nat.reduceLeDiff, Nat.reduceLT, Nat.reduceEqDiff, Nat.reduceAdd, Nat.reduceMul, Nat.reduceSub, Int.cast_ofNat_Int, all_anyC, all_anyP, key_get, cell_get, kid_get, encC, List.length_map, encN, sb_inj]) <;> (first | done | rfl | (simp; done) | (simp; omega) | omega | (simp_all; done) | (simp_all; omega))
    · first | rfl | (try simp (disch := omega) only [push_cast, Int.reduceToNat, Int.reduceLT, Int.reduceLE, Int.reduceAdd, Int.reduceSub, Int.reduceMul, Int.reduceNeg, Int.reduceEq, reduceCtorEq, Nat.reduceLeDiff, Nat.reduceLT, Nat.reduceEqDiff, Nat.reduceAdd, Nat.reduceMul, Nat.reduceSub, Int.cast_ofNat_Int, all_anyC, all_anyP, key_get, cell_get, kid_get, encC, List.length_map, encN, sb_inj]) <;> (first | done | rfl | (simp; done) | (simp; omega) | omega | (simp_all; done) | (simp_all; omega))
    · exact ⟨by omega, same_step hs hc⟩
end Go.Vm.Try
