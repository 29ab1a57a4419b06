/- Walks of functions of the program, and laws of what they compute. -/
import Derived.Test.YtcbdjcjbnmjojaaNdG
set_option linter.unusedSimpArgs false
set_option linter.unusedVariables false
set_option maxHeartbeats 4000000
set_option maxRecDepth 20000
namespace Go.Vm.Try
open Go.Proofs Go.Vm.Node
/-- Too much for a statement. -/
def great (n : Nd) : Bool := n.keys.any (fun k => decide (60 < n.keys.length) || decide (200 < k.length)) || n.cells.any (fun c => decide (60 < n.cells.length) || decide (300 < c.data.length)) || decide (80 < n.kids.length)
theorem great_k {n : Nd} {i : Nat} (h : i < n.keys.length) (h2 : 60 < n.keys.length ∨ 200 < (n.keys.getD i []).length) : great n = true := by
  have : n.keys.any (fun k => decide (60 < n.keys.length) || decide (200 < k.length)) = true := by
    rw [List.any_eq_true]
    exact ⟨n.keys[i], List.getElem_mem h, by simpa [h] using h2⟩
  simp [great, this]
theorem great_c {n : Nd} {i : Nat} (h : i < n.cells.length) (h2 : 60 < n.cells.length ∨ 300 < (n.cells.getD i default).data.length) : great n = true := by
  have : n.cells.any (fun c => decide (60 < n.cells.length) || decide (300 < c.data.length)) = true := by
    rw [List.any_eq_true]
    exact ⟨n.cells[i], List.getElem_mem h, by simpa [h] using h2⟩
  simp [great, this]
theorem great_e {n : Nd} (hk : ∀ j, j < n.keys.length → ¬ (60 < n.keys.length ∨ 200 < (n.keys.getD j []).length)) (hc : ∀ j, j < n.cells.length → ¬ (60 < n.cells.length ∨ 300 < (n.cells.getD j default).data.length)) : great n = decide (80 < n.kids.length) := by
  have h1 : n.keys.any (fun k => decide (60 < n.keys.length) || decide (200 < k.length)) = false := by
    rw [List.any_eq_false]
    intro x hx
    obtain ⟨j, hj, rfl⟩ := List.getElem_of_mem hx
    have := hk j hj
    simpa [hj] using this
  have h2 : n.cells.any (fun c => decide (60 < n.cells.length) || decide (300 < c.data.length)) = false := by
    rw [List.any_eq_false]
    intro x hx
    obtain ⟨j, hj, rfl⟩ := List.getElem_of_mem hx
    have := hc j hj
    simpa [hj] using this
  rw [great, h1, h2]; rfl
theorem great_sm {n : Nd} (h : great n = false) : Sm n ∧ n.keys.length ≤ 60 ∧ n.cells.length ≤ 60 ∧ n.kids.length ≤ 80 := by
  unfold great at h
  rw [Bool.or_eq_false_iff, Bool.or_eq_false_iff] at h
  obtain ⟨⟨h1, h2⟩, h3⟩ := h
  have k1 : n.keys.length ≤ 60 := by
    rcases Nat.lt_or_ge 60 n.keys.length with hh | hh
    · rw [List.any_eq_false] at h1
      have := h1 n.keys[0] (List.getElem_mem (by omega))
      simp [hh] at this
    · exact hh
  have k2 : n.cells.length ≤ 60 := by
    rcases Nat.lt_or_ge 60 n.cells.length with hh | hh
    · rw [List.any_eq_false] at h2
      have := h2 n.cells[0] (List.getElem_mem (by omega))
      simp [hh] at this
    · exact hh
  have k3 : n.kids.length ≤ 80 := by have := of_decide_eq_false h3; omega
  exact ⟨⟨by omega, by omega, by omega⟩, k1, k2, k3⟩
theorem all_step {p : Nat → Prop} {k : Nat} (h : ∀ j, j < k → p j) (hk : p k) : ∀ j, j < k + 1 → p j := fun j hj => by
  by_cases e : j = k
  · rw [e]; exact hk
  · exact h j (by omega)
def n0 : Nd := ⟨true, [[97], [98]], [⟨1, [120], 0⟩, ⟨200, [], 7⟩], []⟩
theorem sm0 : Sm n0 := ⟨by decide, by decide, by decide⟩
theorem smz : Sm nd0 := ⟨by decide, by decide, by decide⟩
set_option maxRecDepth 100000 in
theorem a_w : (writeN n0).2 = 0 ∧ (writeN n0).1.length = 512 ∧ (writeN n0).1.getD 0 0 = 1 ∧ (writeN n0).1.getD 2 0 = 2 ∧ (writeN n0).1.getD 6 0 = 97 ∧ (writeN n0).1.getD 7 0 = 120 := by decide +kernel
set_option maxRecDepth 100000 in
theorem a_r : readN (writeN n0).1 = (n0, 0) := by decide +kernel
theorem a_h : (halveN n0).1.keys.length = 1 ∧ (halveN n0).2.1 = [98] ∧ (halveN n0).2.2.keys.length = 1 := by decide +kernel
theorem a_z : writeN nd0 = ([], 3) := by decide +kernel
theorem a_s : right n0 = true ∧ sizeN n0 = 16 := by decide +kernel
theorem write_nil : PSpec Go.Proofs.Try.prog 16 [.agg [.bool false, .sl 0 [] .full, .sl 0 [] .full, .sl 0 [] .full]] (.tup [.sl 1 [] .no, .int .i64 3]) := by
  have h := write_spec nd0 smz
  rw [a_z] at h
  exact h.wk ⟨Wk.agg ⟨Wk.refl _, Wk.nil 0 1 .full, Wk.nil 0 3 .full, Wk.nil 0 1 .full, trivial⟩, trivial⟩ (Wk.refl _)
theorem pure_toR {n : Nd} : pure0 (toR n) = true := by
  unfold pure0 toR
  cases hl : n.leaf with
  | true => rfl
  | false =>
    simp only [Bool.false_eq_true, if_false, List.all_eq_true, parts, List.mem_map]
    rintro x ⟨i, _, rfl⟩
    simp [ptAt, hl]
theorem ofR_toR {n : Nd} (h : Node.shape n = true) : ofR (toR n) = n := toR_inj (shape_ofR _) h (toR_ofR pure_toR)
theorem write_cases (n : Nd) : (right n = true ∧ sizeN n ≤ 512 ∧ (writeN n).2 = 0 ∧ readN (writeN n).1 = (n, 0) ∧ (writeN n).1.length = 512) ∨ (right n = true ∧ 512 < sizeN n ∧ writeN n = ([], 2)) ∨ (right n = false ∧ writeN n = ([], 3)) := by
  cases hr : right n with
  | false => exact .inr (.inr ⟨rfl, writeN_no hr⟩)
  | true =>
    rcases Nat.lt_or_ge 512 (sizeN n) with h | h
    · exact .inr (.inl ⟨rfl, h, writeN_long hr h⟩)
    · have hw := writeN_ok hr h
      have hR : rightR (toR n) = true := by rw [right_eq, Bool.and_eq_true] at hr; exact hr.2
      refine .inl ⟨rfl, h, by rw [hw], ?_, by rw [hw]; exact page_len h⟩
      have : readB (page (toR n)) = some (toR n) := by
        rw [readB_some, writeR, if_pos hR, if_pos (show (bytesR (toR n)).length ≤ 512 from h)]
      rw [hw, readN]
      simp only [this]
      rw [ofR_toR (right_shape hr)]
theorem read_cases (b : List UInt8) : ((readN b).2 = 0 ∧ writeN (readN b).1 = (b, 0) ∧ Sm (readN b).1) ∨ readN b = (nd0, 3) := by
  unfold readN
  cases h : readB b with
  | none => exact .inr rfl
  | some x =>
    left
    have hx : x = parse b := by
      unfold readB at h
      split at h
      · cases h; rfl
      · cases h
    have hw := readB_some.1 h
    subst hx
    exact ⟨rfl, by rw [writeN_ofR (parse_pure b)]; exact hw, parse_sm b⟩

theorem great_spec (n : Nd) (h1 : n.keys.length ≤ 140737488351232) (h2 : n.cells.length ≤ 140737488351232) (h3 : n.kids.length ≤ 140737488351232) : PSpec Go.Proofs.Try.prog 12 [encN n] (.bool (great n)) := by
 refine introP (n := 50) (rs := [.tmp 2]) (fn := Go.Proofs.Try.f12) (by first | exact Go.Proofs.Try.func12 | rfl) rfl (by kernel_rfl) rfl rfl (Nat.le_of_ble_eq_true rfl) (fun Q0 hQ0 => ?_)
 refine WS.seq ?_
 refine R0 fun K hK => ?_
 try simp (maxSteps := 4000000) (disch := omega) only [push_cast, Nat.reduceLT, Nat.reduceEqDiff, Hp.get_set, all_anyC, all_anyP, key_get, cell_get, kid_get, encC, List.length_map, encN, ncs]
 (repeat refine And.intro (by first | omega | (simp; done) | (simp_all; done) | (simp_all; omega)) ?_)
 refine fun g0_0 hg0_0 => ?_
 try simp only [Hp.set_none, Hp.join_none_iff] at hg0_0
 try simp (maxSteps := 4000000) (disch := omega) only [push_cast, Nat.reduceLT, Nat.reduceEqDiff, Hp.get_set, all_anyC, all_anyP, key_get, cell_get, kid_get, encC, List.length_map, encN, ncs, hg0_0]
 (repeat refine And.intro (by first | omega | (simp; done) | (simp_all; done) | (simp_all; omega)) ?_)
 refine Qk hK [1] ?_
 clear hK K
 refine S_frz 1 rfl rfl ?_
 refine WS.seq (WS.seq ?_)
 refine A1 [1, 3] (by decide) ?_
 refine Bk fun K0 hK0 => ?_
 refine WS_keep [1, 3] _ ?_
 refine Lp (fun m env σ' => ∃ (k : Nat), m = n.keys.length - k ∧ env = [(1, .pv (ncs n)), (3, .int .i64 k)] ∧ σ' = Hp.empty ∧ (k ≤ n.keys.length ∧ ∀ j, j < k → ¬ (60 < n.keys.length ∨ 200 < (n.keys.getD j []).length))) ?_ ?_
 · refine ⟨_, 0,  rfl, ?_, ?_, ?_⟩
   · (try simp (disch := omega) only [push_cast, Int.reduceToNat, Int.reduceLT, Int.reduceLE, Int.reduceAdd, Int.reduceSub, Int.reduceMul, Int.reduceNeg, Int.reduceEq, reduceCtorEq, Nat.reduceLeDiff, Nat.reduceLT, Nat.reduceEqDiff, Nat.reduceAdd, Nat.reduceMul, Nat.reduceSub, Int.cast_ofNat_Int, all_anyC, all_anyP, key_get, cell_get, kid_get, encC, List.length_map, encN, ncs, hg0_0]) <;> (first | done | rfl | (simp; done) | (simp; omega) | omega | (simp_all; done) | (simp_all; omega))
   · first | rfl | (try simp (disch := omega) only [push_cast, Int.reduceToNat, Int.reduceLT, Int.reduceLE, Int.reduceAdd, Int.reduceSub, Int.reduceMul, Int.reduceNeg, Int.reduceEq, reduceCtorEq, Nat.reduceLeDiff, Nat.reduceLT, Nat.reduceEqDiff, Nat.reduceAdd, Nat.reduceMul, Nat.reduceSub, Int.cast_ofNat_Int, all_anyC, all_anyP, key_get, cell_get, kid_get, encC, List.length_map, encN, ncs, hg0_0]) <;> (first | done | rfl | (simp; done) | (simp; omega) | omega | (simp_all; done) | (simp_all; omega))
   · exact ⟨by omega, fun j hj => by omega⟩
 intro m env σ' hJ M0 hM0
 obtain ⟨k, rfl, rfl, rfl, hk, hs⟩ := hJ
 refine WS.seq (WS.seq ?_)
 refine R0 fun K hK => ?_
 try simp (maxSteps := 4000000) (disch := omega) only [push_cast, Nat.reduceLT, Nat.reduceEqDiff, Nat.reduceAdd, Nat.reduceMul, Nat.reduceSub, Nat.reduceLeDiff, Int.reduceToNat, Int.reduceLT, Int.reduceLE, Int.reduceAdd, Int.reduceSub, Int.reduceMul, Int.reduceNeg, Int.reduceEq, reduceCtorEq, Int.cast_ofNat_Int, Hp.get_set, all_anyC, all_anyP, key_get, cell_get, kid_get, encC, List.length_map, encN, ncs, hg0_0]
 (repeat refine And.intro (by first | omega | (simp; done) | (simp_all; done) | (simp_all; omega)) ?_)
 refine Qk hK [1, 3, 9] ?_
 clear hK K
 refine CI rfl (fun hc => ?_) (fun hc => ?_)
 rotate_left
 ·
  all_goals try (cases hc; done)
  all_goals try simp only [push_cast] at hc
  all_goals try (exfalso; omega)
  all_goals
   obtain rfl : k = n.keys.length := by omega
   refine Ex ?_
   simp only [push_cast, WS, Nat.reduceEqDiff]
   refine hK0 _ _ ?_
   clear hK0
   try clear K0
   refine WS_keep [1] _ ?_
   refine WS.seq (WS.seq ?_)
   refine A1 [1, 4] (by decide) ?_
   refine Bk fun K2 hK2 => ?_
   refine WS_keep [1, 4] _ ?_
   refine Lp (fun m env σ' => ∃ (k : Nat), m = n.cells.length - k ∧ env = [(1, .pv (ncs n)), (4, .int .i64 k)] ∧ σ' = Hp.empty ∧ (k ≤ n.cells.length ∧ ∀ j, j < k → ¬ (60 < n.cells.length ∨ 300 < (n.cells.getD j default).data.length))) ?_ ?_
   · refine ⟨_, 0,  rfl, ?_, ?_, ?_⟩
     · (try simp (disch := omega) only [push_cast, Int.reduceToNat, Int.reduceLT, Int.reduceLE, Int.reduceAdd, Int.reduceSub, Int.reduceMul, Int.reduceNeg, Int.reduceEq, reduceCtorEq, Nat.reduceLeDiff, Nat.reduceLT, Nat.reduceEqDiff, Nat.reduceAdd, Nat.reduceMul, Nat.reduceSub, Int.cast_ofNat_Int, all_anyC, all_anyP, key_get, cell_get, kid_get, encC, List.length_map, encN, ncs, hg0_0]) <;> (first | done | rfl | (simp; done) | (simp; omega) | omega | (simp_all; done) | (simp_all; omega))
     · first | rfl | (try simp (disch := omega) only [push_cast, Int.reduceToNat, Int.reduceLT, Int.reduceLE, Int.reduceAdd, Int.reduceSub, Int.reduceMul, Int.reduceNeg, Int.reduceEq, reduceCtorEq, Nat.reduceLeDiff, Nat.reduceLT, Nat.reduceEqDiff, Nat.reduceAdd, Nat.reduceMul, Nat.reduceSub, Int.cast_ofNat_Int, all_anyC, all_anyP, key_get, cell_get, kid_get, encC, List.length_map, encN, ncs, hg0_0]) <;> (first | done | rfl | (simp; done) | (simp; omega) | omega | (simp_all; done) | (simp_all; omega))
     · exact ⟨by omega, fun j hj => by omega⟩
   intro m env σ' hJ M2 hM2
   obtain ⟨k, rfl, rfl, rfl, hk2, hs2⟩ := hJ
   refine WS.seq (WS.seq ?_)
   refine R0 fun K hK => ?_
   try simp (maxSteps := 4000000) (disch := omega) only [push_cast, Nat.reduceLT, Nat.reduceEqDiff, Nat.reduceAdd, Nat.reduceMul, Nat.reduceSub, Nat.reduceLeDiff, Int.reduceToNat, Int.reduceLT, Int.reduceLE, Int.reduceAdd, Int.reduceSub, Int.reduceMul, Int.reduceNeg, Int.reduceEq, reduceCtorEq, Int.cast_ofNat_Int, Hp.get_set, all_anyC, all_anyP, key_get, cell_get, kid_get, encC, List.length_map, encN, ncs, hg0_0]
   (repeat refine And.intro (by first | omega | (simp; done) | (simp_all; done) | (simp_all; omega)) ?_)
   refine Qk hK [1, 4, 29] ?_
   clear hK K
   refine CI rfl (fun hc => ?_) (fun hc => ?_)
   rotate_left
   ·
    all_goals try (cases hc; done)
    all_goals try simp only [push_cast] at hc
    all_goals try (exfalso; omega)
    all_goals
     obtain rfl : k = n.cells.length := by omega
     refine Ex ?_
     simp only [push_cast, WS, Nat.reduceEqDiff]
     refine hK2 _ _ ?_
     clear hK2
     try clear K2
     refine WS_keep [1] _ ?_
     refine WS.seq ?_
     refine R0 fun K hK => ?_
     try simp (maxSteps := 4000000) (disch := omega) only [push_cast, Nat.reduceLT, Nat.reduceEqDiff, Nat.reduceAdd, Nat.reduceMul, Nat.reduceSub, Nat.reduceLeDiff, Int.reduceToNat, Int.reduceLT, Int.reduceLE, Int.reduceAdd, Int.reduceSub, Int.reduceMul, Int.reduceNeg, Int.reduceEq, reduceCtorEq, Int.cast_ofNat_Int, Hp.get_set, all_anyC, all_anyP, key_get, cell_get, kid_get, encC, List.length_map, encN, ncs, hg0_0]
     (repeat refine And.intro (by first | omega | (simp; done) | (simp_all; done) | (simp_all; omega)) ?_)
     refine Qk hK [2] ?_
     clear hK K
     refine Rt ?_
     refine hQ0 _ _ _ ?_
     try simp (maxSteps := 4000000) only [push_cast, Int.reduceToNat, Int.reduceLT, Int.reduceLE, Int.reduceAdd, Int.reduceSub, Int.reduceMul, Int.reduceNeg, Int.reduceEq, reduceCtorEq, Nat.reduceLeDiff, Nat.reduceLT, Nat.reduceEqDiff, Nat.reduceAdd, Nat.reduceMul, Nat.reduceSub, Int.cast_ofNat_Int, all_anyC, all_anyP, key_get, cell_get, kid_get, encC, List.length_map, encN, ncs, hg0_0]
     rw [great_e hs hs2]
     exact congrArg V.bool (decide_eq_decide.2 (by omega))
   all_goals try (cases hc; done)
   all_goals try simp only [push_cast] at hc
   all_goals try (exfalso; omega)
   all_goals
    refine Sk ?_
    refine WS.seq ?_
    refine Bk fun K3 hK3 => ?_
    refine WS.seq ?_
    refine R0 fun K hK => ?_
    try simp (maxSteps := 4000000) (disch := omega) only [push_cast, Nat.reduceLT, Nat.reduceEqDiff, Nat.reduceAdd, Nat.reduceMul, Nat.reduceSub, Nat.reduceLeDiff, Int.reduceToNat, Int.reduceLT, Int.reduceLE, Int.reduceAdd, Int.reduceSub, Int.reduceMul, Int.reduceNeg, Int.reduceEq, reduceCtorEq, Int.cast_ofNat_Int, Hp.get_set, all_anyC, all_anyP, key_get, cell_get, kid_get, encC, List.length_map, encN, ncs, hg0_0]
    (repeat refine And.intro (by first | omega | (simp; done) | (simp_all; done) | (simp_all; omega)) ?_)
    all_goals try (first | refine guardT 36 rfl (fun hc => ?_) (fun hc => ?_) | refine guardF 36 rfl (fun hc => ?_) (fun hc => ?_)) <;> try simp only [push_cast] at hc
    all_goals try (exfalso; omega)
    all_goals try simp (maxSteps := 4000000) (disch := omega) only [push_cast, Nat.reduceLT, Nat.reduceEqDiff, Nat.reduceAdd, Nat.reduceMul, Nat.reduceSub, Nat.reduceLeDiff, Int.reduceToNat, Int.reduceLT, Int.reduceLE, Int.reduceAdd, Int.reduceSub, Int.reduceMul, Int.reduceNeg, Int.reduceEq, reduceCtorEq, Int.cast_ofNat_Int, Hp.get_set, all_anyC, all_anyP, key_get, cell_get, kid_get, encC, List.length_map, encN, ncs, hg0_0]
    all_goals (repeat refine And.intro (by first | omega | (simp; done) | (simp_all; done) | (simp_all; omega)) ?_)
    all_goals
     refine Qk hK [1, 4, 45] ?_
     clear hK K
     refine CI rfl (fun hc => ?_) (fun hc => ?_)
     ·
      all_goals try (cases hc; done)
      all_goals try simp only [push_cast] at hc
      all_goals try (exfalso; omega)
      all_goals
       refine WS.seq ?_
       refine A1 [2] (by decide) ?_
       refine Rt ?_
       simp only [push_cast]
       refine hQ0 _ _ _ ?_
       try simp (maxSteps := 4000000) only [push_cast, Int.reduceToNat, Int.reduceLT, Int.reduceLE, Int.reduceAdd, Int.reduceSub, Int.reduceMul, Int.reduceNeg, Int.reduceEq, reduceCtorEq, Nat.reduceLeDiff, Nat.reduceLT, Nat.reduceEqDiff, Nat.reduceAdd, Nat.reduceMul, Nat.reduceSub, Int.cast_ofNat_Int, all_anyC, all_anyP, key_get, cell_get, kid_get, encC, List.length_map, encN, ncs, hg0_0]
       rw [great_c (i := k) (by omega) (by omega)]
     all_goals try (cases hc; done)
     all_goals try simp only [push_cast] at hc
     all_goals try (exfalso; omega)
     all_goals
      refine Sk ?_
      simp only [push_cast, WS, Nat.reduceEqDiff]
      refine hK3 _ _ ?_
      clear hK3
      try clear K3
      refine WS_keep [1, 4] _ ?_
      refine R0 fun K hK => ?_
      try simp (maxSteps := 4000000) (disch := omega) only [push_cast, Nat.reduceLT, Nat.reduceEqDiff, Int.reduceToNat, Int.reduceLT, Int.reduceLE, Int.reduceAdd, Int.reduceSub, Int.reduceMul, Int.reduceNeg, Int.reduceEq, reduceCtorEq, Int.cast_ofNat_Int, Hp.get_set, all_anyC, all_anyP, key_get, cell_get, kid_get, encC, List.length_map, encN, ncs, hg0_0]
      (repeat refine And.intro (by first | omega | (simp; done) | (simp_all; done) | (simp_all; omega)) ?_)
      refine Qk hK [1, 4] ?_
      clear hK K
      refine Ag (hM2 _ _ ?_)
      refine ⟨_, ?_, k + 1,  rfl, ?_, ?_, ?_⟩
      · first | omega | (simp; done) | (simp_all; done) | (simp_all; omega)
      · (try simp (disch := omega) only [push_cast, Int.reduceToNat, Int.reduceLT, Int.reduceLE, Int.reduceAdd, Int.reduceSub, Int.reduceMul, Int.reduceNeg, Int.reduceEq, reduceCtorEq, Nat.reduceLeDiff, Nat.reduceLT, Nat.reduceEqDiff, Nat.reduceAdd, Nat.reduceMul, Nat.reduceSub, Int.cast_ofNat_Int, all_anyC, all_anyP, key_get, cell_get, kid_get, encC, List.length_map, encN, ncs, hg0_0]) <;> (first | done | rfl | (simp; done) | (simp; omega) | omega | (simp_all; done) | (simp_all; omega))
      · first | rfl | (try simp (disch := omega) only [push_cast, Int.reduceToNat, Int.reduceLT, Int.reduceLE, Int.reduceAdd, Int.reduceSub, Int.reduceMul, Int.reduceNeg, Int.reduceEq, reduceCtorEq, Nat.reduceLeDiff, Nat.reduceLT, Nat.reduceEqDiff, Nat.reduceAdd, Nat.reduceMul, Nat.reduceSub, Int.cast_ofNat_Int, all_anyC, all_anyP, key_get, cell_get, kid_get, encC, List.length_map, encN, ncs, hg0_0]) <;> (first | done | rfl | (simp; done) | (simp; omega) | omega | (simp_all; done) | (simp_all; omega))
      · exact ⟨by omega, all_step hs2 (by omega)⟩
 all_goals try (cases hc; done)
 all_goals try simp only [push_cast] at hc
 all_goals try (exfalso; omega)
 all_goals
  refine Sk ?_
  refine WS.seq ?_
  refine Bk fun K1 hK1 => ?_
  refine WS.seq ?_
  refine R0 fun K hK => ?_
  try simp (maxSteps := 4000000) (disch := omega) only [push_cast, Nat.reduceLT, Nat.reduceEqDiff, Nat.reduceAdd, Nat.reduceMul, Nat.reduceSub, Nat.reduceLeDiff, Int.reduceToNat, Int.reduceLT, Int.reduceLE, Int.reduceAdd, Int.reduceSub, Int.reduceMul, Int.reduceNeg, Int.reduceEq, reduceCtorEq, Int.cast_ofNat_Int, Hp.get_set, all_anyC, all_anyP, key_get, cell_get, kid_get, encC, List.length_map, encN, ncs, hg0_0]
  (repeat refine And.intro (by first | omega | (simp; done) | (simp_all; done) | (simp_all; omega)) ?_)
  all_goals try (first | refine guardT 16 rfl (fun hc => ?_) (fun hc => ?_) | refine guardF 16 rfl (fun hc => ?_) (fun hc => ?_)) <;> try simp only [push_cast] at hc
  all_goals try (exfalso; omega)
  all_goals try simp (maxSteps := 4000000) (disch := omega) only [push_cast, Nat.reduceLT, Nat.reduceEqDiff, Nat.reduceAdd, Nat.reduceMul, Nat.reduceSub, Nat.reduceLeDiff, Int.reduceToNat, Int.reduceLT, Int.reduceLE, Int.reduceAdd, Int.reduceSub, Int.reduceMul, Int.reduceNeg, Int.reduceEq, reduceCtorEq, Int.cast_ofNat_Int, Hp.get_set, all_anyC, all_anyP, key_get, cell_get, kid_get, encC, List.length_map, encN, ncs, hg0_0]
  all_goals (repeat refine And.intro (by first | omega | (simp; done) | (simp_all; done) | (simp_all; omega)) ?_)
  all_goals
   refine Qk hK [1, 3, 24] ?_
   clear hK K
   refine CI rfl (fun hc => ?_) (fun hc => ?_)
   ·
    all_goals try (cases hc; done)
    all_goals try simp only [push_cast] at hc
    all_goals try (exfalso; omega)
    all_goals
     refine WS.seq ?_
     refine A1 [2] (by decide) ?_
     refine Rt ?_
     simp only [push_cast]
     refine hQ0 _ _ _ ?_
     try simp (maxSteps := 4000000) only [push_cast, Int.reduceToNat, Int.reduceLT, Int.reduceLE, Int.reduceAdd, Int.reduceSub, Int.reduceMul, Int.reduceNeg, Int.reduceEq, reduceCtorEq, Nat.reduceLeDiff, Nat.reduceLT, Nat.reduceEqDiff, Nat.reduceAdd, Nat.reduceMul, Nat.reduceSub, Int.cast_ofNat_Int, all_anyC, all_anyP, key_get, cell_get, kid_get, encC, List.length_map, encN, ncs, hg0_0]
     rw [great_k (i := k) (by omega) (by omega)]
   all_goals try (cases hc; done)
   all_goals try simp only [push_cast] at hc
   all_goals try (exfalso; omega)
   all_goals
    refine Sk ?_
    simp only [push_cast, WS, Nat.reduceEqDiff]
    refine hK1 _ _ ?_
    clear hK1
    try clear K1
    refine WS_keep [1, 3] _ ?_
    refine R0 fun K hK => ?_
    try simp (maxSteps := 4000000) (disch := omega) only [push_cast, Nat.reduceLT, Nat.reduceEqDiff, Int.reduceToNat, Int.reduceLT, Int.reduceLE, Int.reduceAdd, Int.reduceSub, Int.reduceMul, Int.reduceNeg, Int.reduceEq, reduceCtorEq, Int.cast_ofNat_Int, Hp.get_set, all_anyC, all_anyP, key_get, cell_get, kid_get, encC, List.length_map, encN, ncs, hg0_0]
    (repeat refine And.intro (by first | omega | (simp; done) | (simp_all; done) | (simp_all; omega)) ?_)
    refine Qk hK [1, 3] ?_
    clear hK K
    refine Ag (hM0 _ _ ?_)
    refine ⟨_, ?_, k + 1,  rfl, ?_, ?_, ?_⟩
    · first | omega | (simp; done) | (simp_all; done) | (simp_all; omega)
    · (try simp (disch := omega) only [push_cast, Int.reduceToNat, Int.reduceLT, Int.reduceLE, Int.reduceAdd, Int.reduceSub, Int.reduceMul, Int.reduceNeg, Int.reduceEq, reduceCtorEq, Nat.reduceLeDiff, Nat.reduceLT, Nat.reduceEqDiff, Nat.reduceAdd, Nat.reduceMul, Nat.reduceSub, Int.cast_ofNat_Int, all_anyC, all_anyP, key_get, cell_get, kid_get, encC, List.length_map, encN, ncs, hg0_0]) <;> (first | done | rfl | (simp; done) | (simp; omega) | omega | (simp_all; done) | (simp_all; omega))
    · first | rfl | (try simp (disch := omega) only [push_cast, Int.reduceToNat, Int.reduceLT, Int.reduceLE, Int.reduceAdd, Int.reduceSub, Int.reduceMul, Int.reduceNeg, Int.reduceEq, reduceCtorEq, Nat.reduceLeDiff, Nat.reduceLT, Nat.reduceEqDiff, Nat.reduceAdd, Nat.reduceMul, Nat.reduceSub, Int.cast_ofNat_Int, all_anyC, all_anyP, key_get, cell_get, kid_get, encC, List.length_map, encN, ncs, hg0_0]) <;> (first | done | rfl | (simp; done) | (simp; omega) | omega | (simp_all; done) | (simp_all; omega))
    · exact ⟨by omega, all_step hs (by omega)⟩
theorem alive_spec  : PSpec Go.Proofs.Try.prog 13 [] (.bool true) := by
 refine introP (n := 102) (rs := [.tmp 0]) (fn := Go.Proofs.Try.f13) (by first | exact Go.Proofs.Try.func13 | rfl) rfl (by kernel_rfl) rfl rfl (Nat.le_of_ble_eq_true rfl) (fun Q0 hQ0 => ?_)
 obtain ⟨hw2, hwl, hw0, hw1, hw6, hw7⟩ := a_w
 obtain ⟨hh1, hh2, hh3⟩ := a_h
 have hx0 : (((writeN n0).1.getD 0 0).toNat : Int) = 1 := by rw [hw0]; rfl
 have hx2 : (((writeN n0).1.getD 2 0).toNat : Int) = 2 := by rw [hw1]; rfl
 have hx6 : (((writeN n0).1.getD 6 0).toNat : Int) = 97 := by rw [hw6]; rfl
 have hx7 : (((writeN n0).1.getD 7 0).toNat : Int) = 120 := by rw [hw7]; rfl
 refine WS.seq ?_
 refine A1 [] (by decide) ?_
 refine WS.seq ?_
 refine R0 fun K hK => ?_
 try simp (maxSteps := 4000000) (disch := omega) only [push_cast, Nat.reduceLT, Nat.reduceEqDiff, Nat.reduceAdd, Nat.reduceMul, Nat.reduceSub, Nat.reduceLeDiff, Int.reduceToNat, Int.reduceLT, Int.reduceLE, Int.reduceAdd, Int.reduceSub, Int.reduceMul, Int.reduceNeg, Int.reduceEq, reduceCtorEq, Int.cast_ofNat_Int, Hp.get_set, all_anyC, all_anyP, key_get, cell_get, kid_get, encC, List.length_map, encN, ncs, Hp.set_set, Hp.get_set, if_true, if_false, getD_u8, hw2, hwl, hx0, hx2, hx6, hx7, a_r, hh1, hh2, hh3, a_s]
 (repeat refine And.intro (by first | omega | (simp; done) | (simp_all; done) | (simp_all; omega)) ?_)
 refine fun ga hga => ?_
 try simp only [Hp.set_none, Hp.join_none_iff] at hga
 try simp (maxSteps := 4000000) (disch := omega) only [push_cast, Nat.reduceLT, Nat.reduceEqDiff, Nat.reduceAdd, Nat.reduceMul, Nat.reduceSub, Nat.reduceLeDiff, Int.reduceToNat, Int.reduceLT, Int.reduceLE, Int.reduceAdd, Int.reduceSub, Int.reduceMul, Int.reduceNeg, Int.reduceEq, reduceCtorEq, Int.cast_ofNat_Int, Hp.get_set, all_anyC, all_anyP, key_get, cell_get, kid_get, encC, List.length_map, encN, ncs, Hp.set_set, Hp.get_set, if_true, if_false, getD_u8, hw2, hwl, hx0, hx2, hx6, hx7, a_r, hh1, hh2, hh3, a_s, hga]
 (repeat refine And.intro (by first | omega | (simp; done) | (simp_all; done) | (simp_all; omega)) ?_)
 refine Qk hK [1] ?_
 clear hK K
 refine S_wkH (g := ga) (Hp.get_set_same _ _ _) (l' := ncs n0) ⟨Wk.refl _, Wk.untag _ _ _, Wk.untag _ _ _, Wk.nil 0 1 .full, trivial⟩ rfl ?_
 rw [Hp.set_set]
 refine S_frz 1 rfl rfl ?_
 refine WS.seq ?_
 refine R0 fun K hK => ?_
 try simp (maxSteps := 4000000) (disch := omega) only [push_cast, Nat.reduceLT, Nat.reduceEqDiff, Nat.reduceAdd, Nat.reduceMul, Nat.reduceSub, Nat.reduceLeDiff, Hp.get_set, all_anyC, all_anyP, key_get, cell_get, kid_get, encC, List.length_map, encN, ncs, Hp.set_set, Hp.get_set, if_true, if_false, getD_u8, hw2, hwl, hx0, hx2, hx6, hx7, a_r, hh1, hh2, hh3, a_s, hga]
 (repeat refine And.intro (by first | omega | (simp; done) | (simp_all; done) | (simp_all; omega)) ?_)
 refine callP (write_spec n0 sm0) rfl ?_
 try simp (maxSteps := 4000000) (disch := omega) only [push_cast, Nat.reduceLT, Nat.reduceEqDiff, Nat.reduceAdd, Nat.reduceMul, Nat.reduceSub, Nat.reduceLeDiff, Hp.get_set, all_anyC, all_anyP, key_get, cell_get, kid_get, encC, List.length_map, encN, ncs, Hp.set_set, Hp.get_set, if_true, if_false, getD_u8, hw2, hwl, hx0, hx2, hx6, hx7, a_r, hh1, hh2, hh3, a_s, hga]
 (repeat refine And.intro (by first | omega | (simp; done) | (simp_all; done) | (simp_all; omega)) ?_)
 refine Qk hK [1, 2, 3] ?_
 clear hK K
 refine WS.seq ?_
 refine R0 fun K hK => ?_
 try simp (maxSteps := 4000000) (disch := omega) only [push_cast, Nat.reduceLT, Nat.reduceEqDiff, Nat.reduceAdd, Nat.reduceMul, Nat.reduceSub, Nat.reduceLeDiff, Hp.get_set, all_anyC, all_anyP, key_get, cell_get, kid_get, encC, List.length_map, encN, ncs, Hp.set_set, Hp.get_set, if_true, if_false, getD_u8, hw2, hwl, hx0, hx2, hx6, hx7, a_r, hh1, hh2, hh3, a_s, hga]
 (repeat refine And.intro (by first | omega | (simp; done) | (simp_all; done) | (simp_all; omega)) ?_)
 refine callP (read_spec (writeN n0).1 (by omega)) rfl ?_
 try simp (maxSteps := 4000000) (disch := omega) only [push_cast, Nat.reduceLT, Nat.reduceEqDiff, Nat.reduceAdd, Nat.reduceMul, Nat.reduceSub, Nat.reduceLeDiff, Hp.get_set, all_anyC, all_anyP, key_get, cell_get, kid_get, encC, List.length_map, encN, ncs, Hp.set_set, Hp.get_set, if_true, if_false, getD_u8, hw2, hwl, hx0, hx2, hx6, hx7, a_r, hh1, hh2, hh3, a_s, hga]
 (repeat refine And.intro (by first | omega | (simp; done) | (simp_all; done) | (simp_all; omega)) ?_)
 refine fun gb hgb => ?_
 try simp only [Hp.set_none, Hp.join_none_iff] at hgb
 try simp (maxSteps := 4000000) (disch := omega) only [push_cast, Nat.reduceLT, Nat.reduceEqDiff, Nat.reduceAdd, Nat.reduceMul, Nat.reduceSub, Nat.reduceLeDiff, Hp.get_set, all_anyC, all_anyP, key_get, cell_get, kid_get, encC, List.length_map, encN, ncs, Hp.set_set, Hp.get_set, if_true, if_false, getD_u8, hw2, hwl, hx0, hx2, hx6, hx7, a_r, hh1, hh2, hh3, a_s, hga, hgb]
 (repeat refine And.intro (by first | omega | (simp; done) | (simp_all; done) | (simp_all; omega)) ?_)
 refine Qk hK [1, 2, 3, 4, 5] ?_
 clear hK K
 refine S_frz 4 rfl rfl ?_
 refine WS.seq ?_
 refine R0 fun K hK => ?_
 try simp (maxSteps := 4000000) (disch := omega) only [push_cast, Nat.reduceLT, Nat.reduceEqDiff, Nat.reduceAdd, Nat.reduceMul, Nat.reduceSub, Nat.reduceLeDiff, Hp.get_set, all_anyC, all_anyP, key_get, cell_get, kid_get, encC, List.length_map, encN, ncs, Hp.set_set, Hp.get_set, if_true, if_false, getD_u8, hw2, hwl, hx0, hx2, hx6, hx7, a_r, hh1, hh2, hh3, a_s, hga, hgb]
 (repeat refine And.intro (by first | omega | (simp; done) | (simp_all; done) | (simp_all; omega)) ?_)
 refine callP (halve_spec n0 sm0) rfl ?_
 try simp (maxSteps := 4000000) (disch := omega) only [push_cast, Nat.reduceLT, Nat.reduceEqDiff, Nat.reduceAdd, Nat.reduceMul, Nat.reduceSub, Nat.reduceLeDiff, Hp.get_set, all_anyC, all_anyP, key_get, cell_get, kid_get, encC, List.length_map, encN, ncs, Hp.set_set, Hp.get_set, if_true, if_false, getD_u8, hw2, hwl, hx0, hx2, hx6, hx7, a_r, hh1, hh2, hh3, a_s, hga, hgb]
 (repeat refine And.intro (by first | omega | (simp; done) | (simp_all; done) | (simp_all; omega)) ?_)
 refine fun gc hgc => ?_
 try simp only [Hp.set_none, Hp.join_none_iff] at hgc
 try simp (maxSteps := 4000000) (disch := omega) only [push_cast, Nat.reduceLT, Nat.reduceEqDiff, Nat.reduceAdd, Nat.reduceMul, Nat.reduceSub, Nat.reduceLeDiff, Hp.get_set, all_anyC, all_anyP, key_get, cell_get, kid_get, encC, List.length_map, encN, ncs, Hp.set_set, Hp.get_set, if_true, if_false, getD_u8, hw2, hwl, hx0, hx2, hx6, hx7, a_r, hh1, hh2, hh3, a_s, hga, hgb, hgc]
 (repeat refine And.intro (by first | omega | (simp; done) | (simp_all; done) | (simp_all; omega)) ?_)
 refine fun gd hgd => ?_
 try simp only [Hp.set_none, Hp.join_none_iff] at hgd
 try simp (maxSteps := 4000000) (disch := omega) only [push_cast, Nat.reduceLT, Nat.reduceEqDiff, Nat.reduceAdd, Nat.reduceMul, Nat.reduceSub, Nat.reduceLeDiff, Hp.get_set, all_anyC, all_anyP, key_get, cell_get, kid_get, encC, List.length_map, encN, ncs, Hp.set_set, Hp.get_set, if_true, if_false, getD_u8, hw2, hwl, hx0, hx2, hx6, hx7, a_r, hh1, hh2, hh3, a_s, hga, hgb, hgc, hgd]
 (repeat refine And.intro (by first | omega | (simp; done) | (simp_all; done) | (simp_all; omega)) ?_)
 refine Qk hK [1, 2, 3, 4, 5, 6, 7, 8] ?_
 clear hK K
 refine S_abs (fun τ => τ.get gc = some (.cells (ncs (halveN n0).1)) ∧ τ.get gd = some (.cells (ncs (halveN n0).2.2))) ⟨by simp only [Hp.get_set, hgd, if_true, if_false]; rfl, by simp only [Hp.get_set, hgd, if_true, if_false]; rfl⟩ (fun τ hh => ?_)
 obtain ⟨h6, h8⟩ := hh
 simp only [ncs] at h6 h8
 refine WS.seq ?_
 refine R0 fun K hK => ?_
 try simp (maxSteps := 4000000) (disch := omega) only [push_cast, Nat.reduceLT, Nat.reduceEqDiff, Nat.reduceAdd, Nat.reduceMul, Nat.reduceSub, Nat.reduceLeDiff, Hp.get_set, all_anyC, all_anyP, key_get, cell_get, kid_get, encC, List.length_map, encN, ncs, Hp.set_set, Hp.get_set, if_true, if_false, getD_u8, hw2, hwl, hx0, hx2, hx6, hx7, a_r, hh1, hh2, hh3, a_s, hga, hgb, hgc, hgd, h6, h8]
 refine callP write_nil rfl ?_
 try simp (maxSteps := 4000000) (disch := omega) only [push_cast, Nat.reduceLT, Nat.reduceEqDiff, Nat.reduceAdd, Nat.reduceMul, Nat.reduceSub, Nat.reduceLeDiff, Hp.get_set, all_anyC, all_anyP, key_get, cell_get, kid_get, encC, List.length_map, encN, ncs, Hp.set_set, Hp.get_set, if_true, if_false, getD_u8, hw2, hwl, hx0, hx2, hx6, hx7, a_r, hh1, hh2, hh3, a_s, hga, hgb, hgc, hgd, h6, h8]
 refine Qk hK [1, 2, 3, 4, 5, 6, 7, 8, 10] ?_
 clear hK K
 refine WS.seq ?_
 refine R0 fun K hK => ?_
 try simp (maxSteps := 4000000) (disch := omega) only [push_cast, Nat.reduceLT, Nat.reduceEqDiff, Nat.reduceAdd, Nat.reduceMul, Nat.reduceSub, Nat.reduceLeDiff, Int.reduceToNat, Int.reduceLT, Int.reduceLE, Int.reduceAdd, Int.reduceSub, Int.reduceMul, Int.reduceNeg, Int.reduceEq, reduceCtorEq, Int.cast_ofNat_Int, Hp.get_set, all_anyC, all_anyP, key_get, cell_get, kid_get, encC, List.length_map, encN, ncs, Hp.set_set, Hp.get_set, if_true, if_false, getD_u8, hw2, hwl, hx0, hx2, hx6, hx7, a_r, hh1, hh2, hh3, a_s, hga, hgb, hgc, hgd, h6, h8, List.append]
 (repeat refine And.intro (by first | omega | (simp; done) | (simp_all; done) | (simp_all; omega)) ?_)
 all_goals try (first | refine guardT 39 rfl (fun hc => ?_) (fun hc => ?_) | refine guardF 39 rfl (fun hc => ?_) (fun hc => ?_)) <;> try simp only [push_cast] at hc
 all_goals try (exfalso; omega)
 all_goals try simp (maxSteps := 4000000) (disch := omega) only [push_cast, Nat.reduceLT, Nat.reduceEqDiff, Nat.reduceAdd, Nat.reduceMul, Nat.reduceSub, Nat.reduceLeDiff, Int.reduceToNat, Int.reduceLT, Int.reduceLE, Int.reduceAdd, Int.reduceSub, Int.reduceMul, Int.reduceNeg, Int.reduceEq, reduceCtorEq, Int.cast_ofNat_Int, Hp.get_set, all_anyC, all_anyP, key_get, cell_get, kid_get, encC, List.length_map, encN, ncs, Hp.set_set, Hp.get_set, if_true, if_false, getD_u8, hw2, hwl, hx0, hx2, hx6, hx7, a_r, hh1, hh2, hh3, a_s, hga, hgb, hgc, hgd, h6, h8, List.append]
 all_goals (repeat refine And.intro (by first | omega | (simp; done) | (simp_all; done) | (simp_all; omega)) ?_)
 all_goals try (first | refine guardT 44 rfl (fun hc => ?_) (fun hc => ?_) | refine guardF 44 rfl (fun hc => ?_) (fun hc => ?_)) <;> try simp only [push_cast] at hc
 all_goals try (exfalso; omega)
 all_goals try simp (maxSteps := 4000000) (disch := omega) only [push_cast, Nat.reduceLT, Nat.reduceEqDiff, Nat.reduceAdd, Nat.reduceMul, Nat.reduceSub, Nat.reduceLeDiff, Int.reduceToNat, Int.reduceLT, Int.reduceLE, Int.reduceAdd, Int.reduceSub, Int.reduceMul, Int.reduceNeg, Int.reduceEq, reduceCtorEq, Int.cast_ofNat_Int, Hp.get_set, all_anyC, all_anyP, key_get, cell_get, kid_get, encC, List.length_map, encN, ncs, Hp.set_set, Hp.get_set, if_true, if_false, getD_u8, hw2, hwl, hx0, hx2, hx6, hx7, a_r, hh1, hh2, hh3, a_s, hga, hgb, hgc, hgd, h6, h8, List.append]
 all_goals (repeat refine And.intro (by first | omega | (simp; done) | (simp_all; done) | (simp_all; omega)) ?_)
 all_goals try (first | refine guardT 50 rfl (fun hc => ?_) (fun hc => ?_) | refine guardF 50 rfl (fun hc => ?_) (fun hc => ?_)) <;> try simp only [push_cast] at hc
 all_goals try (exfalso; omega)
 all_goals try simp (maxSteps := 4000000) (disch := omega) only [push_cast, Nat.reduceLT, Nat.reduceEqDiff, Nat.reduceAdd, Nat.reduceMul, Nat.reduceSub, Nat.reduceLeDiff, Int.reduceToNat, Int.reduceLT, Int.reduceLE, Int.reduceAdd, Int.reduceSub, Int.reduceMul, Int.reduceNeg, Int.reduceEq, reduceCtorEq, Int.cast_ofNat_Int, Hp.get_set, all_anyC, all_anyP, key_get, cell_get, kid_get, encC, List.length_map, encN, ncs, Hp.set_set, Hp.get_set, if_true, if_false, getD_u8, hw2, hwl, hx0, hx2, hx6, hx7, a_r, hh1, hh2, hh3, a_s, hga, hgb, hgc, hgd, h6, h8, List.append]
 all_goals (repeat refine And.intro (by first | omega | (simp; done) | (simp_all; done) | (simp_all; omega)) ?_)
 all_goals try (first | refine guardT 56 rfl (fun hc => ?_) (fun hc => ?_) | refine guardF 56 rfl (fun hc => ?_) (fun hc => ?_)) <;> try simp only [push_cast] at hc
 all_goals try (exfalso; omega)
 all_goals try simp (maxSteps := 4000000) (disch := omega) only [push_cast, Nat.reduceLT, Nat.reduceEqDiff, Nat.reduceAdd, Nat.reduceMul, Nat.reduceSub, Nat.reduceLeDiff, Int.reduceToNat, Int.reduceLT, Int.reduceLE, Int.reduceAdd, Int.reduceSub, Int.reduceMul, Int.reduceNeg, Int.reduceEq, reduceCtorEq, Int.cast_ofNat_Int, Hp.get_set, all_anyC, all_anyP, key_get, cell_get, kid_get, encC, List.length_map, encN, ncs, Hp.set_set, Hp.get_set, if_true, if_false, getD_u8, hw2, hwl, hx0, hx2, hx6, hx7, a_r, hh1, hh2, hh3, a_s, hga, hgb, hgc, hgd, h6, h8, List.append]
 all_goals (repeat refine And.intro (by first | omega | (simp; done) | (simp_all; done) | (simp_all; omega)) ?_)
 all_goals try (first | refine guardT 62 rfl (fun hc => ?_) (fun hc => ?_) | refine guardF 62 rfl (fun hc => ?_) (fun hc => ?_)) <;> try simp only [push_cast] at hc
 all_goals try (exfalso; omega)
 all_goals try simp (maxSteps := 4000000) (disch := omega) only [push_cast, Nat.reduceLT, Nat.reduceEqDiff, Nat.reduceAdd, Nat.reduceMul, Nat.reduceSub, Nat.reduceLeDiff, Int.reduceToNat, Int.reduceLT, Int.reduceLE, Int.reduceAdd, Int.reduceSub, Int.reduceMul, Int.reduceNeg, Int.reduceEq, reduceCtorEq, Int.cast_ofNat_Int, Hp.get_set, all_anyC, all_anyP, key_get, cell_get, kid_get, encC, List.length_map, encN, ncs, Hp.set_set, Hp.get_set, if_true, if_false, getD_u8, hw2, hwl, hx0, hx2, hx6, hx7, a_r, hh1, hh2, hh3, a_s, hga, hgb, hgc, hgd, h6, h8, List.append]
 all_goals (repeat refine And.intro (by first | omega | (simp; done) | (simp_all; done) | (simp_all; omega)) ?_)
 all_goals try (first | refine guardT 68 rfl (fun hc => ?_) (fun hc => ?_) | refine guardF 68 rfl (fun hc => ?_) (fun hc => ?_)) <;> try simp only [push_cast] at hc
 all_goals try (exfalso; omega)
 all_goals try simp (maxSteps := 4000000) (disch := omega) only [push_cast, Nat.reduceLT, Nat.reduceEqDiff, Nat.reduceAdd, Nat.reduceMul, Nat.reduceSub, Nat.reduceLeDiff, Int.reduceToNat, Int.reduceLT, Int.reduceLE, Int.reduceAdd, Int.reduceSub, Int.reduceMul, Int.reduceNeg, Int.reduceEq, reduceCtorEq, Int.cast_ofNat_Int, Hp.get_set, all_anyC, all_anyP, key_get, cell_get, kid_get, encC, List.length_map, encN, ncs, Hp.set_set, Hp.get_set, if_true, if_false, getD_u8, hw2, hwl, hx0, hx2, hx6, hx7, a_r, hh1, hh2, hh3, a_s, hga, hgb, hgc, hgd, h6, h8, List.append]
 all_goals (repeat refine And.intro (by first | omega | (simp; done) | (simp_all; done) | (simp_all; omega)) ?_)
 all_goals try (first | refine guardT 72 rfl (fun hc => ?_) (fun hc => ?_) | refine guardF 72 rfl (fun hc => ?_) (fun hc => ?_)) <;> try simp only [push_cast] at hc
 all_goals try (exfalso; omega)
 all_goals try simp (maxSteps := 4000000) (disch := omega) only [push_cast, Nat.reduceLT, Nat.reduceEqDiff, Nat.reduceAdd, Nat.reduceMul, Nat.reduceSub, Nat.reduceLeDiff, Int.reduceToNat, Int.reduceLT, Int.reduceLE, Int.reduceAdd, Int.reduceSub, Int.reduceMul, Int.reduceNeg, Int.reduceEq, reduceCtorEq, Int.cast_ofNat_Int, Hp.get_set, all_anyC, all_anyP, key_get, cell_get, kid_get, encC, List.length_map, encN, ncs, Hp.set_set, Hp.get_set, if_true, if_false, getD_u8, hw2, hwl, hx0, hx2, hx6, hx7, a_r, hh1, hh2, hh3, a_s, hga, hgb, hgc, hgd, h6, h8, List.append]
 all_goals (repeat refine And.intro (by first | omega | (simp; done) | (simp_all; done) | (simp_all; omega)) ?_)
 all_goals try (
   refine callP (same_spec n0 n0 sm0 sm0) rfl ?_)
 all_goals try simp (maxSteps := 4000000) (disch := omega) only [push_cast, Nat.reduceLT, Nat.reduceEqDiff, Nat.reduceAdd, Nat.reduceMul, Nat.reduceSub, Nat.reduceLeDiff, Int.reduceToNat, Int.reduceLT, Int.reduceLE, Int.reduceAdd, Int.reduceSub, Int.reduceMul, Int.reduceNeg, Int.reduceEq, reduceCtorEq, Int.cast_ofNat_Int, Hp.get_set, all_anyC, all_anyP, key_get, cell_get, kid_get, encC, List.length_map, encN, ncs, Hp.set_set, Hp.get_set, if_true, if_false, getD_u8, hw2, hwl, hx0, hx2, hx6, hx7, a_r, hh1, hh2, hh3, a_s, hga, hgb, hgc, hgd, h6, h8, List.append]
 all_goals (repeat refine And.intro (by first | omega | (simp; done) | (simp_all; done) | (simp_all; omega)) ?_)
 all_goals try (first | refine guardT 77 rfl (fun hc => ?_) (fun hc => ?_) | refine guardF 77 rfl (fun hc => ?_) (fun hc => ?_)) <;> try simp only [push_cast] at hc
 all_goals try (exfalso; omega)
 all_goals try simp (maxSteps := 4000000) (disch := omega) only [push_cast, Nat.reduceLT, Nat.reduceEqDiff, Nat.reduceAdd, Nat.reduceMul, Nat.reduceSub, Nat.reduceLeDiff, Int.reduceToNat, Int.reduceLT, Int.reduceLE, Int.reduceAdd, Int.reduceSub, Int.reduceMul, Int.reduceNeg, Int.reduceEq, reduceCtorEq, Int.cast_ofNat_Int, Hp.get_set, all_anyC, all_anyP, key_get, cell_get, kid_get, encC, List.length_map, encN, ncs, Hp.set_set, Hp.get_set, if_true, if_false, getD_u8, hw2, hwl, hx0, hx2, hx6, hx7, a_r, hh1, hh2, hh3, a_s, hga, hgb, hgc, hgd, h6, h8, List.append]
 all_goals (repeat refine And.intro (by first | omega | (simp; done) | (simp_all; done) | (simp_all; omega)) ?_)
 all_goals try (first | refine guardT 83 rfl (fun hc => ?_) (fun hc => ?_) | refine guardF 83 rfl (fun hc => ?_) (fun hc => ?_)) <;> try simp only [push_cast] at hc
 all_goals try (exfalso; omega)
 all_goals try simp (maxSteps := 4000000) (disch := omega) only [push_cast, Nat.reduceLT, Nat.reduceEqDiff, Nat.reduceAdd, Nat.reduceMul, Nat.reduceSub, Nat.reduceLeDiff, Int.reduceToNat, Int.reduceLT, Int.reduceLE, Int.reduceAdd, Int.reduceSub, Int.reduceMul, Int.reduceNeg, Int.reduceEq, reduceCtorEq, Int.cast_ofNat_Int, Hp.get_set, all_anyC, all_anyP, key_get, cell_get, kid_get, encC, List.length_map, encN, ncs, Hp.set_set, Hp.get_set, if_true, if_false, getD_u8, hw2, hwl, hx0, hx2, hx6, hx7, a_r, hh1, hh2, hh3, a_s, hga, hgb, hgc, hgd, h6, h8, List.append]
 all_goals (repeat refine And.intro (by first | omega | (simp; done) | (simp_all; done) | (simp_all; omega)) ?_)
 all_goals try (first | refine guardT 87 rfl (fun hc => ?_) (fun hc => ?_) | refine guardF 87 rfl (fun hc => ?_) (fun hc => ?_)) <;> try simp only [push_cast] at hc
 all_goals try (exfalso; omega)
 all_goals try simp (maxSteps := 4000000) (disch := omega) only [push_cast, Nat.reduceLT, Nat.reduceEqDiff, Nat.reduceAdd, Nat.reduceMul, Nat.reduceSub, Nat.reduceLeDiff, Int.reduceToNat, Int.reduceLT, Int.reduceLE, Int.reduceAdd, Int.reduceSub, Int.reduceMul, Int.reduceNeg, Int.reduceEq, reduceCtorEq, Int.cast_ofNat_Int, Hp.get_set, all_anyC, all_anyP, key_get, cell_get, kid_get, encC, List.length_map, encN, ncs, Hp.set_set, Hp.get_set, if_true, if_false, getD_u8, hw2, hwl, hx0, hx2, hx6, hx7, a_r, hh1, hh2, hh3, a_s, hga, hgb, hgc, hgd, h6, h8, List.append]
 all_goals (repeat refine And.intro (by first | omega | (simp; done) | (simp_all; done) | (simp_all; omega)) ?_)
 all_goals try (first | refine guardT 93 rfl (fun hc => ?_) (fun hc => ?_) | refine guardF 93 rfl (fun hc => ?_) (fun hc => ?_)) <;> try simp only [push_cast] at hc
 all_goals try (exfalso; omega)
 all_goals try simp (maxSteps := 4000000) (disch := omega) only [push_cast, Nat.reduceLT, Nat.reduceEqDiff, Nat.reduceAdd, Nat.reduceMul, Nat.reduceSub, Nat.reduceLeDiff, Int.reduceToNat, Int.reduceLT, Int.reduceLE, Int.reduceAdd, Int.reduceSub, Int.reduceMul, Int.reduceNeg, Int.reduceEq, reduceCtorEq, Int.cast_ofNat_Int, Hp.get_set, all_anyC, all_anyP, key_get, cell_get, kid_get, encC, List.length_map, encN, ncs, Hp.set_set, Hp.get_set, if_true, if_false, getD_u8, hw2, hwl, hx0, hx2, hx6, hx7, a_r, hh1, hh2, hh3, a_s, hga, hgb, hgc, hgd, h6, h8, List.append]
 all_goals (repeat refine And.intro (by first | omega | (simp; done) | (simp_all; done) | (simp_all; omega)) ?_)
 all_goals try (first | refine guardT 97 rfl (fun hc => ?_) (fun hc => ?_) | refine guardF 97 rfl (fun hc => ?_) (fun hc => ?_)) <;> try simp only [push_cast] at hc
 all_goals try (exfalso; omega)
 all_goals try simp (maxSteps := 4000000) (disch := omega) only [push_cast, Nat.reduceLT, Nat.reduceEqDiff, Nat.reduceAdd, Nat.reduceMul, Nat.reduceSub, Nat.reduceLeDiff, Int.reduceToNat, Int.reduceLT, Int.reduceLE, Int.reduceAdd, Int.reduceSub, Int.reduceMul, Int.reduceNeg, Int.reduceEq, reduceCtorEq, Int.cast_ofNat_Int, Hp.get_set, all_anyC, all_anyP, key_get, cell_get, kid_get, encC, List.length_map, encN, ncs, Hp.set_set, Hp.get_set, if_true, if_false, getD_u8, hw2, hwl, hx0, hx2, hx6, hx7, a_r, hh1, hh2, hh3, a_s, hga, hgb, hgc, hgd, h6, h8, List.append]
 all_goals (repeat refine And.intro (by first | omega | (simp; done) | (simp_all; done) | (simp_all; omega)) ?_)
 all_goals try (
   refine callP (Size_spec n0 sm0) rfl ?_)
 all_goals try simp (maxSteps := 4000000) (disch := omega) only [push_cast, Nat.reduceLT, Nat.reduceEqDiff, Nat.reduceAdd, Nat.reduceMul, Nat.reduceSub, Nat.reduceLeDiff, Int.reduceToNat, Int.reduceLT, Int.reduceLE, Int.reduceAdd, Int.reduceSub, Int.reduceMul, Int.reduceNeg, Int.reduceEq, reduceCtorEq, Int.cast_ofNat_Int, Hp.get_set, all_anyC, all_anyP, key_get, cell_get, kid_get, encC, List.length_map, encN, ncs, Hp.set_set, Hp.get_set, if_true, if_false, getD_u8, hw2, hwl, hx0, hx2, hx6, hx7, a_r, hh1, hh2, hh3, a_s, hga, hgb, hgc, hgd, h6, h8, List.append]
 all_goals (repeat refine And.intro (by first | omega | (simp; done) | (simp_all; done) | (simp_all; omega)) ?_)
 all_goals
  refine Qk hK [0] ?_
  clear hK K
  refine Rt ?_
  refine hQ0 _ _ _ ?_
  try simp (maxSteps := 4000000) only [push_cast, Int.reduceToNat, Int.reduceLT, Int.reduceLE, Int.reduceAdd, Int.reduceSub, Int.reduceMul, Int.reduceNeg, Int.reduceEq, reduceCtorEq, Nat.reduceLeDiff, Nat.reduceLT, Nat.reduceEqDiff, Nat.reduceAdd, Nat.reduceMul, Nat.reduceSub, Int.cast_ofNat_Int, all_anyC, all_anyP, key_get, cell_get, kid_get, encC, List.length_map, encN, ncs, Hp.set_set, Hp.get_set, if_true, if_false, getD_u8, hw2, hwl, hx0, hx2, hx6, hx7, a_r, hh1, hh2, hh3, a_s, hga, hgb, hgc, hgd, h6, h8]
  first | done | rfl | (simp; done) | (simp_all; done) | (simp_all; omega)
theorem back_spec (n : Nd) (b : List UInt8) (h1 : n.keys.length ≤ 140737488351232) (h2 : n.cells.length ≤ 140737488351232) (h3 : n.kids.length ≤ 140737488351232) : PSpec Go.Proofs.Try.prog 5 [encN n, .sl 1 (b.map u8) .no] (.bool true) := by
 refine introP (n := 84) (rs := [.tmp 4]) (fn := Go.Proofs.Try.f5) (by first | exact Go.Proofs.Try.func5 | rfl) rfl (by kernel_rfl) rfl rfl (Nat.le_of_ble_eq_true rfl) (fun Q0 hQ0 => ?_)
 refine WS.seq ?_
 refine R0 fun K hK => ?_
 try simp (maxSteps := 4000000) (disch := omega) only [push_cast, Nat.reduceLT, Nat.reduceEqDiff, Hp.get_set, all_anyC, all_anyP, key_get, cell_get, kid_get, encC, List.length_map, encN, all_u8, ncs, Hp.set_set, Hp.get_set, if_true, if_false]
 (repeat refine And.intro (by first | omega | (simp; done) | (simp_all; done) | (simp_all; omega)) ?_)
 refine fun g0_0 hg0_0 => ?_
 try simp only [Hp.set_none, Hp.join_none_iff] at hg0_0
 try simp (maxSteps := 4000000) (disch := omega) only [push_cast, Nat.reduceLT, Nat.reduceEqDiff, Hp.get_set, all_anyC, all_anyP, key_get, cell_get, kid_get, encC, List.length_map, encN, all_u8, ncs, Hp.set_set, Hp.get_set, if_true, if_false, hg0_0]
 (repeat refine And.intro (by first | omega | (simp; done) | (simp_all; done) | (simp_all; omega)) ?_)
 refine Qk hK [1, 2] ?_
 clear hK K
 refine S_frz 2 rfl rfl ?_
 refine WS.seq (WS.seq ?_)
 refine R0 fun K hK => ?_
 try simp (maxSteps := 4000000) (disch := omega) only [push_cast, Nat.reduceLT, Nat.reduceEqDiff, Nat.reduceAdd, Nat.reduceMul, Nat.reduceSub, Nat.reduceLeDiff, Int.reduceToNat, Int.reduceLT, Int.reduceLE, Int.reduceAdd, Int.reduceSub, Int.reduceMul, Int.reduceNeg, Int.reduceEq, reduceCtorEq, Int.cast_ofNat_Int, Hp.get_set, all_anyC, all_anyP, key_get, cell_get, kid_get, encC, List.length_map, encN, all_u8, ncs, Hp.set_set, Hp.get_set, if_true, if_false, hg0_0]
 (repeat refine And.intro (by first | omega | (simp; done) | (simp_all; done) | (simp_all; omega)) ?_)
 refine callP (great_spec n h1 h2 h3) rfl ?_
 try simp (maxSteps := 4000000) (disch := omega) only [push_cast, Nat.reduceLT, Nat.reduceEqDiff, Nat.reduceAdd, Nat.reduceMul, Nat.reduceSub, Nat.reduceLeDiff, Int.reduceToNat, Int.reduceLT, Int.reduceLE, Int.reduceAdd, Int.reduceSub, Int.reduceMul, Int.reduceNeg, Int.reduceEq, reduceCtorEq, Int.cast_ofNat_Int, Hp.get_set, all_anyC, all_anyP, key_get, cell_get, kid_get, encC, List.length_map, encN, all_u8, ncs, Hp.set_set, Hp.get_set, if_true, if_false, hg0_0]
 (repeat refine And.intro (by first | omega | (simp; done) | (simp_all; done) | (simp_all; omega)) ?_)
 all_goals try (first | refine guardT 15 rfl (fun hc => ?_) (fun hc => ?_) | refine guardF 15 rfl (fun hc => ?_) (fun hc => ?_)) <;> try simp only [push_cast] at hc
 all_goals try (exfalso; omega)
 all_goals try simp (maxSteps := 4000000) (disch := omega) only [push_cast, Nat.reduceLT, Nat.reduceEqDiff, Nat.reduceAdd, Nat.reduceMul, Nat.reduceSub, Nat.reduceLeDiff, Int.reduceToNat, Int.reduceLT, Int.reduceLE, Int.reduceAdd, Int.reduceSub, Int.reduceMul, Int.reduceNeg, Int.reduceEq, reduceCtorEq, Int.cast_ofNat_Int, Hp.get_set, all_anyC, all_anyP, key_get, cell_get, kid_get, encC, List.length_map, encN, all_u8, ncs, Hp.set_set, Hp.get_set, if_true, if_false, hg0_0]
 all_goals (repeat refine And.intro (by first | omega | (simp; done) | (simp_all; done) | (simp_all; omega)) ?_)
 all_goals
  refine Qk hK [1, 2, 19] ?_
  clear hK K
  refine CI rfl (fun hc => ?_) (fun hc => ?_)
  ·
   all_goals try (cases hc; done)
   all_goals try simp only [push_cast] at hc
   all_goals try (exfalso; omega)
   all_goals
    refine WS.seq ?_
    refine R0 fun K hK => ?_
    try simp (maxSteps := 4000000) (disch := omega) only [push_cast, Nat.reduceLT, Nat.reduceEqDiff, Hp.get_set, all_anyC, all_anyP, key_get, cell_get, kid_get, encC, List.length_map, encN, all_u8, ncs, Hp.set_set, Hp.get_set, if_true, if_false, hg0_0]
    refine callP alive_spec rfl ?_
    try simp (maxSteps := 4000000) (disch := omega) only [push_cast, Nat.reduceLT, Nat.reduceEqDiff, Hp.get_set, all_anyC, all_anyP, key_get, cell_get, kid_get, encC, List.length_map, encN, all_u8, ncs, Hp.set_set, Hp.get_set, if_true, if_false, hg0_0]
    refine Qk hK [4] ?_
    clear hK K
    refine Rt ?_
    refine hQ0 _ _ _ ?_
    try simp (maxSteps := 4000000) only [push_cast, Int.reduceToNat, Int.reduceLT, Int.reduceLE, Int.reduceAdd, Int.reduceSub, Int.reduceMul, Int.reduceNeg, Int.reduceEq, reduceCtorEq, Nat.reduceLeDiff, Nat.reduceLT, Nat.reduceEqDiff, Nat.reduceAdd, Nat.reduceMul, Nat.reduceSub, Int.cast_ofNat_Int, all_anyC, all_anyP, key_get, cell_get, kid_get, encC, List.length_map, encN, all_u8, ncs, Hp.set_set, Hp.get_set, if_true, if_false, hg0_0]
    first | done | rfl | (simp; done) | (simp_all; done) | (simp_all; omega)
  all_goals try (cases hc; done)
  all_goals try simp only [push_cast] at hc
  all_goals try (exfalso; omega)
  all_goals
   have hsm : Sm n := (great_sm (n := n) (by assumption)).1
   have hb6 : b.length ≤ 600 := by omega
   have hQ : ((right n = true ∧ sizeN n ≤ 512 ∧ (writeN n).2 = 0) ∧ readN (writeN n).1 = (n, 0) ∧ (writeN n).1.length = 512) ∨ ((right n = true ∧ 512 < sizeN n ∧ (writeN n).2 = 2) ∧ True) ∨ ((right n = false ∧ (writeN n).2 = 3) ∧ True) := by
     rcases write_cases n with ⟨a1, a2, a3, a4, a5⟩ | ⟨a1, a2, a3⟩ | ⟨a1, a2⟩
     · exact .inl ⟨⟨a1, a2, a3⟩, a4, a5⟩
     · exact .inr (.inl ⟨⟨a1, a2, by rw [a3]⟩, trivial⟩)
     · exact .inr (.inr ⟨⟨a1, by rw [a2]⟩, trivial⟩)
   rcases hQ with ⟨hw, hR⟩ | ⟨hw, hR⟩ | ⟨hw, hR⟩
   all_goals
    refine Sk ?_
    refine WS.seq ?_
    refine R0 fun K hK => ?_
    try simp (maxSteps := 4000000) (disch := omega) only [push_cast, Nat.reduceLT, Nat.reduceEqDiff, Nat.reduceAdd, Nat.reduceMul, Nat.reduceSub, Nat.reduceLeDiff, Hp.get_set, all_anyC, all_anyP, key_get, cell_get, kid_get, encC, List.length_map, encN, all_u8, ncs, Hp.set_set, Hp.get_set, if_true, if_false, hg0_0, hw]
    (repeat refine And.intro (by first | omega | (simp; done) | (simp_all; done) | (simp_all; omega)) ?_)
    refine callP (write_spec n hsm) rfl ?_
    try simp (maxSteps := 4000000) (disch := omega) only [push_cast, Nat.reduceLT, Nat.reduceEqDiff, Nat.reduceAdd, Nat.reduceMul, Nat.reduceSub, Nat.reduceLeDiff, Hp.get_set, all_anyC, all_anyP, key_get, cell_get, kid_get, encC, List.length_map, encN, all_u8, ncs, Hp.set_set, Hp.get_set, if_true, if_false, hg0_0, hw]
    (repeat refine And.intro (by first | omega | (simp; done) | (simp_all; done) | (simp_all; omega)) ?_)
    refine Qk hK [1, 2, 5, 6] ?_
    clear hK K
    refine WS.seq (WS.seq ?_)
    refine R0 fun K hK => ?_
    try simp (maxSteps := 4000000) (disch := omega) only [push_cast, Nat.reduceLT, Nat.reduceEqDiff, Int.reduceToNat, Int.reduceLT, Int.reduceLE, Int.reduceAdd, Int.reduceSub, Int.reduceMul, Int.reduceNeg, Int.reduceEq, reduceCtorEq, Int.cast_ofNat_Int, Hp.get_set, all_anyC, all_anyP, key_get, cell_get, kid_get, encC, List.length_map, encN, all_u8, ncs, Hp.set_set, Hp.get_set, if_true, if_false, hg0_0, hw]
    refine Qk hK [1, 2, 5, 6, 27] ?_
    clear hK K
    refine CI rfl (fun hc => ?_) (fun hc => ?_)
    ·
     all_goals try (cases hc; done)
     all_goals try simp only [push_cast] at hc
     all_goals try (exfalso; omega)
     all_goals
      refine WS.seq ?_
      refine R0 fun K hK => ?_
      try simp (maxSteps := 4000000) (disch := omega) only [push_cast, Nat.reduceLT, Nat.reduceEqDiff, Nat.reduceAdd, Nat.reduceMul, Nat.reduceSub, Nat.reduceLeDiff, Hp.get_set, all_anyC, all_anyP, key_get, cell_get, kid_get, encC, List.length_map, encN, all_u8, ncs, Hp.set_set, Hp.get_set, if_true, if_false, hg0_0, hw, hR]
      (repeat refine And.intro (by first | omega | (simp; done) | (simp_all; done) | (simp_all; omega)) ?_)
      refine callP (read_spec (writeN n).1 (by omega)) rfl ?_
      try simp (maxSteps := 4000000) (disch := omega) only [push_cast, Nat.reduceLT, Nat.reduceEqDiff, Nat.reduceAdd, Nat.reduceMul, Nat.reduceSub, Nat.reduceLeDiff, Hp.get_set, all_anyC, all_anyP, key_get, cell_get, kid_get, encC, List.length_map, encN, all_u8, ncs, Hp.set_set, Hp.get_set, if_true, if_false, hg0_0, hw, hR]
      (repeat refine And.intro (by first | omega | (simp; done) | (simp_all; done) | (simp_all; omega)) ?_)
      refine fun ge hge => ?_
      try simp only [Hp.set_none, Hp.join_none_iff] at hge
      try simp (maxSteps := 4000000) (disch := omega) only [push_cast, Nat.reduceLT, Nat.reduceEqDiff, Nat.reduceAdd, Nat.reduceMul, Nat.reduceSub, Nat.reduceLeDiff, Hp.get_set, all_anyC, all_anyP, key_get, cell_get, kid_get, encC, List.length_map, encN, all_u8, ncs, Hp.set_set, Hp.get_set, if_true, if_false, hg0_0, hw, hR, hge]
      (repeat refine And.intro (by first | omega | (simp; done) | (simp_all; done) | (simp_all; omega)) ?_)
      refine Qk hK [1, 2, 5, 6, 7, 8] ?_
      clear hK K
      refine WS.seq ?_
      refine R0 fun K hK => ?_
      try simp (maxSteps := 4000000) (disch := omega) only [push_cast, Nat.reduceLT, Nat.reduceEqDiff, Nat.reduceAdd, Nat.reduceMul, Nat.reduceSub, Nat.reduceLeDiff, Int.reduceToNat, Int.reduceLT, Int.reduceLE, Int.reduceAdd, Int.reduceSub, Int.reduceMul, Int.reduceNeg, Int.reduceEq, reduceCtorEq, Int.cast_ofNat_Int, Hp.get_set, all_anyC, all_anyP, key_get, cell_get, kid_get, encC, List.length_map, encN, all_u8, ncs, Hp.set_set, Hp.get_set, if_true, if_false, hg0_0, hw, hR, hge]
      (repeat refine And.intro (by first | omega | (simp; done) | (simp_all; done) | (simp_all; omega)) ?_)
      all_goals try (first | refine guardT 35 rfl (fun hc => ?_) (fun hc => ?_) | refine guardF 35 rfl (fun hc => ?_) (fun hc => ?_)) <;> try simp only [push_cast] at hc
      all_goals try (exfalso; omega)
      all_goals try simp (maxSteps := 4000000) (disch := omega) only [push_cast, Nat.reduceLT, Nat.reduceEqDiff, Nat.reduceAdd, Nat.reduceMul, Nat.reduceSub, Nat.reduceLeDiff, Int.reduceToNat, Int.reduceLT, Int.reduceLE, Int.reduceAdd, Int.reduceSub, Int.reduceMul, Int.reduceNeg, Int.reduceEq, reduceCtorEq, Int.cast_ofNat_Int, Hp.get_set, all_anyC, all_anyP, key_get, cell_get, kid_get, encC, List.length_map, encN, all_u8, ncs, Hp.set_set, Hp.get_set, if_true, if_false, hg0_0, hw, hR, hge]
      all_goals (repeat refine And.intro (by first | omega | (simp; done) | (simp_all; done) | (simp_all; omega)) ?_)
      all_goals try (
        refine callP (same_spec n n hsm hsm) rfl ?_)
      all_goals try simp (maxSteps := 4000000) (disch := omega) only [push_cast, Nat.reduceLT, Nat.reduceEqDiff, Nat.reduceAdd, Nat.reduceMul, Nat.reduceSub, Nat.reduceLeDiff, Int.reduceToNat, Int.reduceLT, Int.reduceLE, Int.reduceAdd, Int.reduceSub, Int.reduceMul, Int.reduceNeg, Int.reduceEq, reduceCtorEq, Int.cast_ofNat_Int, Hp.get_set, all_anyC, all_anyP, key_get, cell_get, kid_get, encC, List.length_map, encN, all_u8, ncs, Hp.set_set, Hp.get_set, if_true, if_false, hg0_0, hw, hR, hge]
      all_goals (repeat refine And.intro (by first | omega | (simp; done) | (simp_all; done) | (simp_all; omega)) ?_)
      all_goals try (first | refine guardT 41 rfl (fun hc => ?_) (fun hc => ?_) | refine guardF 41 rfl (fun hc => ?_) (fun hc => ?_)) <;> try simp only [push_cast] at hc
      all_goals try (exfalso; omega)
      all_goals try simp (maxSteps := 4000000) (disch := omega) only [push_cast, Nat.reduceLT, Nat.reduceEqDiff, Nat.reduceAdd, Nat.reduceMul, Nat.reduceSub, Nat.reduceLeDiff, Int.reduceToNat, Int.reduceLT, Int.reduceLE, Int.reduceAdd, Int.reduceSub, Int.reduceMul, Int.reduceNeg, Int.reduceEq, reduceCtorEq, Int.cast_ofNat_Int, Hp.get_set, all_anyC, all_anyP, key_get, cell_get, kid_get, encC, List.length_map, encN, all_u8, ncs, Hp.set_set, Hp.get_set, if_true, if_false, hg0_0, hw, hR, hge]
      all_goals (repeat refine And.intro (by first | omega | (simp; done) | (simp_all; done) | (simp_all; omega)) ?_)
      all_goals
       refine Qk hK [1, 2, 6, 45] ?_
       clear hK K
       refine CI rfl (fun hc => ?_) (fun hc => ?_)
       ·
        all_goals try (cases hc; done)
        all_goals try simp only [push_cast] at hc
        all_goals try (exfalso; omega)
        all_goals
         refine WS.seq ?_
         refine A1 [4] (by decide) ?_
         refine Rt ?_
         refine hQ0 _ _ _ ?_
         try simp (maxSteps := 4000000) only [push_cast, Int.reduceToNat, Int.reduceLT, Int.reduceLE, Int.reduceAdd, Int.reduceSub, Int.reduceMul, Int.reduceNeg, Int.reduceEq, reduceCtorEq, Nat.reduceLeDiff, Nat.reduceLT, Nat.reduceEqDiff, Nat.reduceAdd, Nat.reduceMul, Nat.reduceSub, Int.cast_ofNat_Int, all_anyC, all_anyP, key_get, cell_get, kid_get, encC, List.length_map, encN, all_u8, ncs, Hp.set_set, Hp.get_set, if_true, if_false, hg0_0, hw, hR, hge]
         first | done | rfl | (simp; done) | (simp_all; done) | (simp_all; omega)
       all_goals try (cases hc; done)
       all_goals try simp only [push_cast] at hc
       all_goals try (exfalso; omega)
       all_goals
        refine Sk ?_
        refine WS.seq ?_
        rcases read_cases b with hr | hr
        all_goals
         refine R0 fun K hK => ?_
         try simp (maxSteps := 4000000) (disch := omega) only [push_cast, Nat.reduceLT, Nat.reduceEqDiff, Nat.reduceAdd, Nat.reduceMul, Nat.reduceSub, Nat.reduceLeDiff, Hp.get_set, all_anyC, all_anyP, key_get, cell_get, kid_get, encC, List.length_map, encN, all_u8, ncs, Hp.set_set, Hp.get_set, if_true, if_false, hg0_0, hw, hR, hge, hr]
         (repeat refine And.intro (by first | omega | (simp; done) | (simp_all; done) | (simp_all; omega)) ?_)
         refine callP (read_spec b (by omega)) rfl ?_
         try simp (maxSteps := 4000000) (disch := omega) only [push_cast, Nat.reduceLT, Nat.reduceEqDiff, Nat.reduceAdd, Nat.reduceMul, Nat.reduceSub, Nat.reduceLeDiff, Hp.get_set, all_anyC, all_anyP, key_get, cell_get, kid_get, encC, List.length_map, encN, all_u8, ncs, Hp.set_set, Hp.get_set, if_true, if_false, hg0_0, hw, hR, hge, hr]
         (repeat refine And.intro (by first | omega | (simp; done) | (simp_all; done) | (simp_all; omega)) ?_)
         refine fun g8_5 hg8_5 => ?_
         try simp only [Hp.set_none, Hp.join_none_iff] at hg8_5
         try simp (maxSteps := 4000000) (disch := omega) only [push_cast, Nat.reduceLT, Nat.reduceEqDiff, Nat.reduceAdd, Nat.reduceMul, Nat.reduceSub, Nat.reduceLeDiff, Hp.get_set, all_anyC, all_anyP, key_get, cell_get, kid_get, encC, List.length_map, encN, all_u8, ncs, Hp.set_set, Hp.get_set, if_true, if_false, hg0_0, hw, hR, hge, hr, hg8_5]
         (repeat refine And.intro (by first | omega | (simp; done) | (simp_all; done) | (simp_all; omega)) ?_)
         refine Qk hK [1, 2, 6, 9, 10] ?_
         clear hK K
         refine WS.seq ?_
         refine R0 fun K hK => ?_
         try simp (maxSteps := 4000000) (disch := omega) only [push_cast, Nat.reduceLT, Nat.reduceEqDiff, Nat.reduceAdd, Nat.reduceMul, Nat.reduceSub, Nat.reduceLeDiff, Hp.get_set, all_anyC, all_anyP, key_get, cell_get, kid_get, encC, List.length_map, encN, all_u8, ncs, Hp.set_set, Hp.get_set, if_true, if_false, hg0_0, hw, hR, hge, hr, hg8_5]
         (repeat refine And.intro (by first | omega | (simp; done) | (simp_all; done) | (simp_all; omega)) ?_)
         first | refine callP (write_spec (readN b).1 hr.2.2) rfl ?_ | refine callP (write_spec nd0 smz) rfl ?_
         try simp (maxSteps := 4000000) (disch := omega) only [push_cast, Nat.reduceLT, Nat.reduceEqDiff, Nat.reduceAdd, Nat.reduceMul, Nat.reduceSub, Nat.reduceLeDiff, Hp.get_set, all_anyC, all_anyP, key_get, cell_get, kid_get, encC, List.length_map, encN, all_u8, ncs, Hp.set_set, Hp.get_set, if_true, if_false, hg0_0, hw, hR, hge, hr, hg8_5]
         (repeat refine And.intro (by first | omega | (simp; done) | (simp_all; done) | (simp_all; omega)) ?_)
         refine Qk hK [1, 2, 6, 10, 11, 12] ?_
         clear hK K
         refine WS.seq ?_
         refine R0 fun K hK => ?_
         try simp (maxSteps := 4000000) (disch := omega) only [push_cast, Nat.reduceLT, Nat.reduceEqDiff, Nat.reduceAdd, Nat.reduceMul, Nat.reduceSub, Nat.reduceLeDiff, Int.reduceToNat, Int.reduceLT, Int.reduceLE, Int.reduceAdd, Int.reduceSub, Int.reduceMul, Int.reduceNeg, Int.reduceEq, reduceCtorEq, Int.cast_ofNat_Int, Hp.get_set, all_anyC, all_anyP, key_get, cell_get, kid_get, encC, List.length_map, encN, all_u8, ncs, Hp.set_set, Hp.get_set, if_true, if_false, hg0_0, hw, hR, hge, hr, hg8_5]
         (repeat refine And.intro (by first | omega | (simp; done) | (simp_all; done) | (simp_all; omega)) ?_)
         refine callP alive_spec rfl ?_
         try simp (maxSteps := 4000000) (disch := omega) only [push_cast, Nat.reduceLT, Nat.reduceEqDiff, Nat.reduceAdd, Nat.reduceMul, Nat.reduceSub, Nat.reduceLeDiff, Int.reduceToNat, Int.reduceLT, Int.reduceLE, Int.reduceAdd, Int.reduceSub, Int.reduceMul, Int.reduceNeg, Int.reduceEq, reduceCtorEq, Int.cast_ofNat_Int, Hp.get_set, all_anyC, all_anyP, key_get, cell_get, kid_get, encC, List.length_map, encN, all_u8, ncs, Hp.set_set, Hp.get_set, if_true, if_false, hg0_0, hw, hR, hge, hr, hg8_5]
         (repeat refine And.intro (by first | omega | (simp; done) | (simp_all; done) | (simp_all; omega)) ?_)
         all_goals try (first | refine guardT 57 rfl (fun hc => ?_) (fun hc => ?_) | refine guardF 57 rfl (fun hc => ?_) (fun hc => ?_)) <;> try simp only [push_cast] at hc
         all_goals try (exfalso; omega)
         all_goals try simp (maxSteps := 4000000) (disch := omega) only [push_cast, Nat.reduceLT, Nat.reduceEqDiff, Nat.reduceAdd, Nat.reduceMul, Nat.reduceSub, Nat.reduceLeDiff, Int.reduceToNat, Int.reduceLT, Int.reduceLE, Int.reduceAdd, Int.reduceSub, Int.reduceMul, Int.reduceNeg, Int.reduceEq, reduceCtorEq, Int.cast_ofNat_Int, Hp.get_set, all_anyC, all_anyP, key_get, cell_get, kid_get, encC, List.length_map, encN, all_u8, ncs, Hp.set_set, Hp.get_set, if_true, if_false, hg0_0, hw, hR, hge, hr, hg8_5]
         all_goals (repeat refine And.intro (by first | omega | (simp; done) | (simp_all; done) | (simp_all; omega)) ?_)
         all_goals try (
           refine callP (right_spec n hsm) rfl ?_)
         all_goals try simp (maxSteps := 4000000) (disch := omega) only [push_cast, Nat.reduceLT, Nat.reduceEqDiff, Nat.reduceAdd, Nat.reduceMul, Nat.reduceSub, Nat.reduceLeDiff, Int.reduceToNat, Int.reduceLT, Int.reduceLE, Int.reduceAdd, Int.reduceSub, Int.reduceMul, Int.reduceNeg, Int.reduceEq, reduceCtorEq, Int.cast_ofNat_Int, Hp.get_set, all_anyC, all_anyP, key_get, cell_get, kid_get, encC, List.length_map, encN, all_u8, ncs, Hp.set_set, Hp.get_set, if_true, if_false, hg0_0, hw, hR, hge, hr, hg8_5]
         all_goals (repeat refine And.intro (by first | omega | (simp; done) | (simp_all; done) | (simp_all; omega)) ?_)
         all_goals try (first | refine guardT 62 rfl (fun hc => ?_) (fun hc => ?_) | refine guardF 62 rfl (fun hc => ?_) (fun hc => ?_)) <;> try simp only [push_cast] at hc
         all_goals try (exfalso; omega)
         all_goals try simp (maxSteps := 4000000) (disch := omega) only [push_cast, Nat.reduceLT, Nat.reduceEqDiff, Nat.reduceAdd, Nat.reduceMul, Nat.reduceSub, Nat.reduceLeDiff, Int.reduceToNat, Int.reduceLT, Int.reduceLE, Int.reduceAdd, Int.reduceSub, Int.reduceMul, Int.reduceNeg, Int.reduceEq, reduceCtorEq, Int.cast_ofNat_Int, Hp.get_set, all_anyC, all_anyP, key_get, cell_get, kid_get, encC, List.length_map, encN, all_u8, ncs, Hp.set_set, Hp.get_set, if_true, if_false, hg0_0, hw, hR, hge, hr, hg8_5]
         all_goals (repeat refine And.intro (by first | omega | (simp; done) | (simp_all; done) | (simp_all; omega)) ?_)
         all_goals try (
           refine callP (Size_spec n hsm) rfl ?_)
         all_goals try simp (maxSteps := 4000000) (disch := omega) only [push_cast, Nat.reduceLT, Nat.reduceEqDiff, Nat.reduceAdd, Nat.reduceMul, Nat.reduceSub, Nat.reduceLeDiff, Int.reduceToNat, Int.reduceLT, Int.reduceLE, Int.reduceAdd, Int.reduceSub, Int.reduceMul, Int.reduceNeg, Int.reduceEq, reduceCtorEq, Int.cast_ofNat_Int, Hp.get_set, all_anyC, all_anyP, key_get, cell_get, kid_get, encC, List.length_map, encN, all_u8, ncs, Hp.set_set, Hp.get_set, if_true, if_false, hg0_0, hw, hR, hge, hr, hg8_5]
         all_goals (repeat refine And.intro (by first | omega | (simp; done) | (simp_all; done) | (simp_all; omega)) ?_)
         all_goals try (first | refine guardT 69 rfl (fun hc => ?_) (fun hc => ?_) | refine guardF 69 rfl (fun hc => ?_) (fun hc => ?_)) <;> try simp only [push_cast] at hc
         all_goals try (exfalso; omega)
         all_goals try simp (maxSteps := 4000000) (disch := omega) only [push_cast, Nat.reduceLT, Nat.reduceEqDiff, Nat.reduceAdd, Nat.reduceMul, Nat.reduceSub, Nat.reduceLeDiff, Int.reduceToNat, Int.reduceLT, Int.reduceLE, Int.reduceAdd, Int.reduceSub, Int.reduceMul, Int.reduceNeg, Int.reduceEq, reduceCtorEq, Int.cast_ofNat_Int, Hp.get_set, all_anyC, all_anyP, key_get, cell_get, kid_get, encC, List.length_map, encN, all_u8, ncs, Hp.set_set, Hp.get_set, if_true, if_false, hg0_0, hw, hR, hge, hr, hg8_5]
         all_goals (repeat refine And.intro (by first | omega | (simp; done) | (simp_all; done) | (simp_all; omega)) ?_)
         all_goals try (first | refine guardT 72 rfl (fun hc => ?_) (fun hc => ?_) | refine guardF 72 rfl (fun hc => ?_) (fun hc => ?_)) <;> try simp only [push_cast] at hc
         all_goals try (exfalso; omega)
         all_goals try simp (maxSteps := 4000000) (disch := omega) only [push_cast, Nat.reduceLT, Nat.reduceEqDiff, Nat.reduceAdd, Nat.reduceMul, Nat.reduceSub, Nat.reduceLeDiff, Int.reduceToNat, Int.reduceLT, Int.reduceLE, Int.reduceAdd, Int.reduceSub, Int.reduceMul, Int.reduceNeg, Int.reduceEq, reduceCtorEq, Int.cast_ofNat_Int, Hp.get_set, all_anyC, all_anyP, key_get, cell_get, kid_get, encC, List.length_map, encN, all_u8, ncs, Hp.set_set, Hp.get_set, if_true, if_false, hg0_0, hw, hR, hge, hr, hg8_5]
         all_goals (repeat refine And.intro (by first | omega | (simp; done) | (simp_all; done) | (simp_all; omega)) ?_)
         all_goals try (first | refine guardT 75 rfl (fun hc => ?_) (fun hc => ?_) | refine guardF 75 rfl (fun hc => ?_) (fun hc => ?_)) <;> try simp only [push_cast] at hc
         all_goals try (exfalso; omega)
         all_goals try simp (maxSteps := 4000000) (disch := omega) only [push_cast, Nat.reduceLT, Nat.reduceEqDiff, Nat.reduceAdd, Nat.reduceMul, Nat.reduceSub, Nat.reduceLeDiff, Int.reduceToNat, Int.reduceLT, Int.reduceLE, Int.reduceAdd, Int.reduceSub, Int.reduceMul, Int.reduceNeg, Int.reduceEq, reduceCtorEq, Int.cast_ofNat_Int, Hp.get_set, all_anyC, all_anyP, key_get, cell_get, kid_get, encC, List.length_map, encN, all_u8, ncs, Hp.set_set, Hp.get_set, if_true, if_false, hg0_0, hw, hR, hge, hr, hg8_5]
         all_goals (repeat refine And.intro (by first | omega | (simp; done) | (simp_all; done) | (simp_all; omega)) ?_)
         all_goals
          refine Qk hK [4] ?_
          clear hK K
          refine Rt ?_
          refine hQ0 _ _ _ ?_
          try simp (maxSteps := 4000000) only [push_cast, Int.reduceToNat, Int.reduceLT, Int.reduceLE, Int.reduceAdd, Int.reduceSub, Int.reduceMul, Int.reduceNeg, Int.reduceEq, reduceCtorEq, Nat.reduceLeDiff, Nat.reduceLT, Nat.reduceEqDiff, Nat.reduceAdd, Nat.reduceMul, Nat.reduceSub, Int.cast_ofNat_Int, all_anyC, all_anyP, key_get, cell_get, kid_get, encC, List.length_map, encN, all_u8, ncs, Hp.set_set, Hp.get_set, if_true, if_false, hg0_0, hw, hR, hge, hr, hg8_5]
          first | done | rfl | (simp; done) | (simp_all; done) | (simp_all; omega)
    ·
     all_goals try (cases hc; done)
     all_goals try simp only [push_cast] at hc
     all_goals try (exfalso; omega)
     all_goals
      refine Sk ?_
      refine WS.seq ?_
      rcases read_cases b with hr | hr
      all_goals
       refine R0 fun K hK => ?_
       try simp (maxSteps := 4000000) (disch := omega) only [push_cast, Nat.reduceLT, Nat.reduceEqDiff, Nat.reduceAdd, Nat.reduceMul, Nat.reduceSub, Nat.reduceLeDiff, Hp.get_set, all_anyC, all_anyP, key_get, cell_get, kid_get, encC, List.length_map, encN, all_u8, ncs, Hp.set_set, Hp.get_set, if_true, if_false, hg0_0, hw, hr]
       (repeat refine And.intro (by first | omega | (simp; done) | (simp_all; done) | (simp_all; omega)) ?_)
       refine callP (read_spec b (by omega)) rfl ?_
       try simp (maxSteps := 4000000) (disch := omega) only [push_cast, Nat.reduceLT, Nat.reduceEqDiff, Nat.reduceAdd, Nat.reduceMul, Nat.reduceSub, Nat.reduceLeDiff, Hp.get_set, all_anyC, all_anyP, key_get, cell_get, kid_get, encC, List.length_map, encN, all_u8, ncs, Hp.set_set, Hp.get_set, if_true, if_false, hg0_0, hw, hr]
       (repeat refine And.intro (by first | omega | (simp; done) | (simp_all; done) | (simp_all; omega)) ?_)
       refine fun g8_5 hg8_5 => ?_
       try simp only [Hp.set_none, Hp.join_none_iff] at hg8_5
       try simp (maxSteps := 4000000) (disch := omega) only [push_cast, Nat.reduceLT, Nat.reduceEqDiff, Nat.reduceAdd, Nat.reduceMul, Nat.reduceSub, Nat.reduceLeDiff, Hp.get_set, all_anyC, all_anyP, key_get, cell_get, kid_get, encC, List.length_map, encN, all_u8, ncs, Hp.set_set, Hp.get_set, if_true, if_false, hg0_0, hw, hr, hg8_5]
       (repeat refine And.intro (by first | omega | (simp; done) | (simp_all; done) | (simp_all; omega)) ?_)
       refine Qk hK [1, 2, 6, 9, 10] ?_
       clear hK K
       refine WS.seq ?_
       refine R0 fun K hK => ?_
       try simp (maxSteps := 4000000) (disch := omega) only [push_cast, Nat.reduceLT, Nat.reduceEqDiff, Nat.reduceAdd, Nat.reduceMul, Nat.reduceSub, Nat.reduceLeDiff, Hp.get_set, all_anyC, all_anyP, key_get, cell_get, kid_get, encC, List.length_map, encN, all_u8, ncs, Hp.set_set, Hp.get_set, if_true, if_false, hg0_0, hw, hr, hg8_5]
       (repeat refine And.intro (by first | omega | (simp; done) | (simp_all; done) | (simp_all; omega)) ?_)
       first | refine callP (write_spec (readN b).1 hr.2.2) rfl ?_ | refine callP (write_spec nd0 smz) rfl ?_
       try simp (maxSteps := 4000000) (disch := omega) only [push_cast, Nat.reduceLT, Nat.reduceEqDiff, Nat.reduceAdd, Nat.reduceMul, Nat.reduceSub, Nat.reduceLeDiff, Hp.get_set, all_anyC, all_anyP, key_get, cell_get, kid_get, encC, List.length_map, encN, all_u8, ncs, Hp.set_set, Hp.get_set, if_true, if_false, hg0_0, hw, hr, hg8_5]
       (repeat refine And.intro (by first | omega | (simp; done) | (simp_all; done) | (simp_all; omega)) ?_)
       refine Qk hK [1, 2, 6, 10, 11, 12] ?_
       clear hK K
       refine WS.seq ?_
       refine R0 fun K hK => ?_
       try simp (maxSteps := 4000000) (disch := omega) only [push_cast, Nat.reduceLT, Nat.reduceEqDiff, Nat.reduceAdd, Nat.reduceMul, Nat.reduceSub, Nat.reduceLeDiff, Int.reduceToNat, Int.reduceLT, Int.reduceLE, Int.reduceAdd, Int.reduceSub, Int.reduceMul, Int.reduceNeg, Int.reduceEq, reduceCtorEq, Int.cast_ofNat_Int, Hp.get_set, all_anyC, all_anyP, key_get, cell_get, kid_get, encC, List.length_map, encN, all_u8, ncs, Hp.set_set, Hp.get_set, if_true, if_false, hg0_0, hw, hr, hg8_5]
       (repeat refine And.intro (by first | omega | (simp; done) | (simp_all; done) | (simp_all; omega)) ?_)
       refine callP alive_spec rfl ?_
       try simp (maxSteps := 4000000) (disch := omega) only [push_cast, Nat.reduceLT, Nat.reduceEqDiff, Nat.reduceAdd, Nat.reduceMul, Nat.reduceSub, Nat.reduceLeDiff, Int.reduceToNat, Int.reduceLT, Int.reduceLE, Int.reduceAdd, Int.reduceSub, Int.reduceMul, Int.reduceNeg, Int.reduceEq, reduceCtorEq, Int.cast_ofNat_Int, Hp.get_set, all_anyC, all_anyP, key_get, cell_get, kid_get, encC, List.length_map, encN, all_u8, ncs, Hp.set_set, Hp.get_set, if_true, if_false, hg0_0, hw, hr, hg8_5]
       (repeat refine And.intro (by first | omega | (simp; done) | (simp_all; done) | (simp_all; omega)) ?_)
       all_goals try (first | refine guardT 57 rfl (fun hc => ?_) (fun hc => ?_) | refine guardF 57 rfl (fun hc => ?_) (fun hc => ?_)) <;> try simp only [push_cast] at hc
       all_goals try (exfalso; omega)
       all_goals try simp (maxSteps := 4000000) (disch := omega) only [push_cast, Nat.reduceLT, Nat.reduceEqDiff, Nat.reduceAdd, Nat.reduceMul, Nat.reduceSub, Nat.reduceLeDiff, Int.reduceToNat, Int.reduceLT, Int.reduceLE, Int.reduceAdd, Int.reduceSub, Int.reduceMul, Int.reduceNeg, Int.reduceEq, reduceCtorEq, Int.cast_ofNat_Int, Hp.get_set, all_anyC, all_anyP, key_get, cell_get, kid_get, encC, List.length_map, encN, all_u8, ncs, Hp.set_set, Hp.get_set, if_true, if_false, hg0_0, hw, hr, hg8_5]
       all_goals (repeat refine And.intro (by first | omega | (simp; done) | (simp_all; done) | (simp_all; omega)) ?_)
       all_goals try (
         refine callP (right_spec n hsm) rfl ?_)
       all_goals try simp (maxSteps := 4000000) (disch := omega) only [push_cast, Nat.reduceLT, Nat.reduceEqDiff, Nat.reduceAdd, Nat.reduceMul, Nat.reduceSub, Nat.reduceLeDiff, Int.reduceToNat, Int.reduceLT, Int.reduceLE, Int.reduceAdd, Int.reduceSub, Int.reduceMul, Int.reduceNeg, Int.reduceEq, reduceCtorEq, Int.cast_ofNat_Int, Hp.get_set, all_anyC, all_anyP, key_get, cell_get, kid_get, encC, List.length_map, encN, all_u8, ncs, Hp.set_set, Hp.get_set, if_true, if_false, hg0_0, hw, hr, hg8_5]
       all_goals (repeat refine And.intro (by first | omega | (simp; done) | (simp_all; done) | (simp_all; omega)) ?_)
       all_goals try (first | refine guardT 62 rfl (fun hc => ?_) (fun hc => ?_) | refine guardF 62 rfl (fun hc => ?_) (fun hc => ?_)) <;> try simp only [push_cast] at hc
       all_goals try (exfalso; omega)
       all_goals try simp (maxSteps := 4000000) (disch := omega) only [push_cast, Nat.reduceLT, Nat.reduceEqDiff, Nat.reduceAdd, Nat.reduceMul, Nat.reduceSub, Nat.reduceLeDiff, Int.reduceToNat, Int.reduceLT, Int.reduceLE, Int.reduceAdd, Int.reduceSub, Int.reduceMul, Int.reduceNeg, Int.reduceEq, reduceCtorEq, Int.cast_ofNat_Int, Hp.get_set, all_anyC, all_anyP, key_get, cell_get, kid_get, encC, List.length_map, encN, all_u8, ncs, Hp.set_set, Hp.get_set, if_true, if_false, hg0_0, hw, hr, hg8_5]
       all_goals (repeat refine And.intro (by first | omega | (simp; done) | (simp_all; done) | (simp_all; omega)) ?_)
       all_goals try (
         refine callP (Size_spec n hsm) rfl ?_)
       all_goals try simp (maxSteps := 4000000) (disch := omega) only [push_cast, Nat.reduceLT, Nat.reduceEqDiff, Nat.reduceAdd, Nat.reduceMul, Nat.reduceSub, Nat.reduceLeDiff, Int.reduceToNat, Int.reduceLT, Int.reduceLE, Int.reduceAdd, Int.reduceSub, Int.reduceMul, Int.reduceNeg, Int.reduceEq, reduceCtorEq, Int.cast_ofNat_Int, Hp.get_set, all_anyC, all_anyP, key_get, cell_get, kid_get, encC, List.length_map, encN, all_u8, ncs, Hp.set_set, Hp.get_set, if_true, if_false, hg0_0, hw, hr, hg8_5]
       all_goals (repeat refine And.intro (by first | omega | (simp; done) | (simp_all; done) | (simp_all; omega)) ?_)
       all_goals try (first | refine guardT 69 rfl (fun hc => ?_) (fun hc => ?_) | refine guardF 69 rfl (fun hc => ?_) (fun hc => ?_)) <;> try simp only [push_cast] at hc
       all_goals try (exfalso; omega)
       all_goals try simp (maxSteps := 4000000) (disch := omega) only [push_cast, Nat.reduceLT, Nat.reduceEqDiff, Nat.reduceAdd, Nat.reduceMul, Nat.reduceSub, Nat.reduceLeDiff, Int.reduceToNat, Int.reduceLT, Int.reduceLE, Int.reduceAdd, Int.reduceSub, Int.reduceMul, Int.reduceNeg, Int.reduceEq, reduceCtorEq, Int.cast_ofNat_Int, Hp.get_set, all_anyC, all_anyP, key_get, cell_get, kid_get, encC, List.length_map, encN, all_u8, ncs, Hp.set_set, Hp.get_set, if_true, if_false, hg0_0, hw, hr, hg8_5]
       all_goals (repeat refine And.intro (by first | omega | (simp; done) | (simp_all; done) | (simp_all; omega)) ?_)
       all_goals try (first | refine guardT 72 rfl (fun hc => ?_) (fun hc => ?_) | refine guardF 72 rfl (fun hc => ?_) (fun hc => ?_)) <;> try simp only [push_cast] at hc
       all_goals try (exfalso; omega)
       all_goals try simp (maxSteps := 4000000) (disch := omega) only [push_cast, Nat.reduceLT, Nat.reduceEqDiff, Nat.reduceAdd, Nat.reduceMul, Nat.reduceSub, Nat.reduceLeDiff, Int.reduceToNat, Int.reduceLT, Int.reduceLE, Int.reduceAdd, Int.reduceSub, Int.reduceMul, Int.reduceNeg, Int.reduceEq, reduceCtorEq, Int.cast_ofNat_Int, Hp.get_set, all_anyC, all_anyP, key_get, cell_get, kid_get, encC, List.length_map, encN, all_u8, ncs, Hp.set_set, Hp.get_set, if_true, if_false, hg0_0, hw, hr, hg8_5]
       all_goals (repeat refine And.intro (by first | omega | (simp; done) | (simp_all; done) | (simp_all; omega)) ?_)
       all_goals try (first | refine guardT 75 rfl (fun hc => ?_) (fun hc => ?_) | refine guardF 75 rfl (fun hc => ?_) (fun hc => ?_)) <;> try simp only [push_cast] at hc
       all_goals try (exfalso; omega)
       all_goals try simp (maxSteps := 4000000) (disch := omega) only [push_cast, Nat.reduceLT, Nat.reduceEqDiff, Nat.reduceAdd, Nat.reduceMul, Nat.reduceSub, Nat.reduceLeDiff, Int.reduceToNat, Int.reduceLT, Int.reduceLE, Int.reduceAdd, Int.reduceSub, Int.reduceMul, Int.reduceNeg, Int.reduceEq, reduceCtorEq, Int.cast_ofNat_Int, Hp.get_set, all_anyC, all_anyP, key_get, cell_get, kid_get, encC, List.length_map, encN, all_u8, ncs, Hp.set_set, Hp.get_set, if_true, if_false, hg0_0, hw, hr, hg8_5]
       all_goals (repeat refine And.intro (by first | omega | (simp; done) | (simp_all; done) | (simp_all; omega)) ?_)
       all_goals
        refine Qk hK [4] ?_
        clear hK K
        refine Rt ?_
        refine hQ0 _ _ _ ?_
        try simp (maxSteps := 4000000) only [push_cast, Int.reduceToNat, Int.reduceLT, Int.reduceLE, Int.reduceAdd, Int.reduceSub, Int.reduceMul, Int.reduceNeg, Int.reduceEq, reduceCtorEq, Nat.reduceLeDiff, Nat.reduceLT, Nat.reduceEqDiff, Nat.reduceAdd, Nat.reduceMul, Nat.reduceSub, Int.cast_ofNat_Int, all_anyC, all_anyP, key_get, cell_get, kid_get, encC, List.length_map, encN, all_u8, ncs, Hp.set_set, Hp.get_set, if_true, if_false, hg0_0, hw, hr, hg8_5]
        first | done | rfl | (simp; done) | (simp_all; done) | (simp_all; omega)
end Go.Vm.Try
