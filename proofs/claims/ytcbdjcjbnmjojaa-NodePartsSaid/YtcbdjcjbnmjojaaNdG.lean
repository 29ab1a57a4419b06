/- Walks of functions of the program, and laws of what they compute. -/
import Derived.Test.YtcbdjcjbnmjojaaNdF
set_option linter.unusedSimpArgs false
set_option linter.unusedVariables false
set_option maxHeartbeats 4000000
set_option maxRecDepth 20000
namespace Go.Vm.Try
open Go.Proofs Go.Vm.Node
theorem nd_dec (a b : Nd) : decide (a = b) = (decide (a.leaf = b.leaf) && (decide (a.keys = b.keys) && (decide (a.cells = b.cells) && decide (a.kids = b.kids)))) := by
  cases a; cases b
  simp only [Nd.mk.injEq, Bool.decide_and]
theorem sm_some {n : Nd} (h : Sm n) (i : Nat) : Sm (someN n i) := by
  obtain ⟨h1, h2, h3⟩ := h
  unfold someN
  split
  · exact ⟨by simp [leafPart]; omega, by simp [leafPart]; omega, by simp [leafPart]⟩
  · exact ⟨by simp [innerPart]; omega, by simp [innerPart], by simp [innerPart]; omega⟩
theorem size_lt {n : Nd} (h : right n = true) (hn : Sm n) : sizeN n ≤ 300000000 := by
  have := sizeN_eq n
  have := bTo_le h n.keys.length (Nat.le_refl _)
  have := hn.a
  split at * <;> omega
theorem adv_down {n : Nd} {last i f : Nat} (h : i < last ∧ 2 * sizeN (someN n i) < sizeN n) (hf : last + 1 ≤ i + f) (he : adv n last f i = adv n last last 1) : adv n last (f - 1) (i + 1) = adv n last last 1 := by
  obtain ⟨g, rfl⟩ : ∃ g, f = g + 1 := ⟨f - 1, by omega⟩
  rw [adv_step h] at he
  exact he
theorem cut_at {n : Nd} {i f : Nat} (h : ¬ (i < lastN n ∧ 2 * sizeN (someN n i) < sizeN n)) (he : adv n (lastN n) f i = adv n (lastN n) (lastN n) 1) : cutN n = if 1 < i ∧ 512 < sizeN (someN n i) then i - 1 else i := by
  rw [adv_stop _ _ h] at he
  unfold cutN
  simp only [← he]
theorem halve_no {n : Nd} (h : right n = false ∨ n.keys.length < leastN n) : halveN n = (nd0, [], nd0) := by rw [halveN, if_pos h]; rfl
theorem halve_leaf {n : Nd} (h : right n = true) (h2 : ¬ n.keys.length < leastN n) (hl : n.leaf = true) {j : Nat} (hj : cutN n = j) : halveN n = (leafPart n 0 j, n.keys.getD j [], leafPart n j n.keys.length) := by
  subst hj; rw [halveN, if_neg (by rw [h]; simp; omega), if_pos hl]
theorem halve_inner {n : Nd} (h : right n = true) (h2 : ¬ n.keys.length < leastN n) (hl : n.leaf = false) {j : Nat} (hj : cutN n = j) : halveN n = (innerPart n 0 j, n.keys.getD j [], innerPart n (j + 1) n.keys.length) := by
  subst hj; rw [halveN, if_neg (by rw [h]; simp; omega), if_neg (by rw [hl]; decide)]

theorem same_spec (a b : Nd) (ha : Sm a) (hb : Sm b) : PSpec Go.Proofs.Try.prog 24 [encN a, encN b] (.bool (decide (a = b))) := by
 refine introP (n := 31) (rs := [.tmp 4]) (fn := Go.Proofs.Try.f24) (by first | exact Go.Proofs.Try.func24 | rfl) rfl (by kernel_rfl) rfl rfl (Nat.le_of_ble_eq_true rfl) (fun Q0 hQ0 => ?_)
 obtain ⟨ha1, ha2, ha3⟩ := ha
 obtain ⟨hb1, hb2, hb3⟩ := hb
 refine WS.seq ?_
 refine R0 fun K hK => ?_
 try simp (maxSteps := 4000000) (disch := omega) only [push_cast, Nat.reduceLT, Nat.reduceEqDiff, Hp.get_set, all_anyC, all_anyP, key_get, cell_get, kid_get, encC, List.length_map, encN]
 (repeat refine And.intro (by first | omega | (simp; done) | (simp_all; done) | (simp_all; omega)) ?_)
 refine fun g0_0 hg0_0 => ?_
 try simp only [Hp.set_none, Hp.join_none_iff] at hg0_0
 try simp (maxSteps := 4000000) (disch := omega) only [push_cast, Nat.reduceLT, Nat.reduceEqDiff, Hp.get_set, all_anyC, all_anyP, key_get, cell_get, kid_get, encC, List.length_map, encN, hg0_0]
 (repeat refine And.intro (by first | omega | (simp; done) | (simp_all; done) | (simp_all; omega)) ?_)
 refine fun g0_1 hg0_1 => ?_
 try simp only [Hp.set_none, Hp.join_none_iff] at hg0_1
 try simp (maxSteps := 4000000) (disch := omega) only [push_cast, Nat.reduceLT, Nat.reduceEqDiff, Hp.get_set, all_anyC, all_anyP, key_get, cell_get, kid_get, encC, List.length_map, encN, hg0_0, hg0_1]
 (repeat refine And.intro (by first | omega | (simp; done) | (simp_all; done) | (simp_all; omega)) ?_)
 refine Qk hK [2, 3] ?_
 clear hK K
 refine S_frz 3 rfl (Hp.set_none.2 hg0_1) ?_
 refine S_frz 2 rfl rfl ?_
 refine WS.seq ?_
 refine R0 fun K hK => ?_
 try simp (maxSteps := 4000000) (disch := omega) only [push_cast, Nat.reduceLT, Nat.reduceEqDiff, Nat.reduceAdd, Nat.reduceMul, Nat.reduceSub, Nat.reduceLeDiff, Int.reduceToNat, Int.reduceLT, Int.reduceLE, Int.reduceAdd, Int.reduceSub, Int.reduceMul, Int.reduceNeg, Int.reduceEq, reduceCtorEq, Int.cast_ofNat_Int, Hp.get_set, all_anyC, all_anyP, key_get, cell_get, kid_get, encC, List.length_map, encN, hg0_0, hg0_1]
 (repeat refine And.intro (by first | omega | (simp; done) | (simp_all; done) | (simp_all; omega)) ?_)
 all_goals try (first | refine guardT 10 rfl (fun hc => ?_) (fun hc => ?_) | refine guardF 10 rfl (fun hc => ?_) (fun hc => ?_)) <;> try simp only [push_cast] at hc
 all_goals try (exfalso; omega)
 all_goals try simp (maxSteps := 4000000) (disch := omega) only [push_cast, Nat.reduceLT, Nat.reduceEqDiff, Nat.reduceAdd, Nat.reduceMul, Nat.reduceSub, Nat.reduceLeDiff, Int.reduceToNat, Int.reduceLT, Int.reduceLE, Int.reduceAdd, Int.reduceSub, Int.reduceMul, Int.reduceNeg, Int.reduceEq, reduceCtorEq, Int.cast_ofNat_Int, Hp.get_set, all_anyC, all_anyP, key_get, cell_get, kid_get, encC, List.length_map, encN, hg0_0, hg0_1]
 all_goals (repeat refine And.intro (by first | omega | (simp; done) | (simp_all; done) | (simp_all; omega)) ?_)
 all_goals try (
   refine callP (equals_spec _ _ (by first | omega | (simp; done) | (simp_all; done) | (simp_all; omega)) (by first | omega | (simp; done) | (simp_all; done) | (simp_all; omega))) rfl ?_)
 all_goals try simp (maxSteps := 4000000) (disch := omega) only [push_cast, Nat.reduceLT, Nat.reduceEqDiff, Nat.reduceAdd, Nat.reduceMul, Nat.reduceSub, Nat.reduceLeDiff, Int.reduceToNat, Int.reduceLT, Int.reduceLE, Int.reduceAdd, Int.reduceSub, Int.reduceMul, Int.reduceNeg, Int.reduceEq, reduceCtorEq, Int.cast_ofNat_Int, Hp.get_set, all_anyC, all_anyP, key_get, cell_get, kid_get, encC, List.length_map, encN, hg0_0, hg0_1]
 all_goals (repeat refine And.intro (by first | omega | (simp; done) | (simp_all; done) | (simp_all; omega)) ?_)
 all_goals try (first | refine guardT 17 rfl (fun hc => ?_) (fun hc => ?_) | refine guardF 17 rfl (fun hc => ?_) (fun hc => ?_)) <;> try simp only [push_cast] at hc
 all_goals try (exfalso; omega)
 all_goals try simp (maxSteps := 4000000) (disch := omega) only [push_cast, Nat.reduceLT, Nat.reduceEqDiff, Nat.reduceAdd, Nat.reduceMul, Nat.reduceSub, Nat.reduceLeDiff, Int.reduceToNat, Int.reduceLT, Int.reduceLE, Int.reduceAdd, Int.reduceSub, Int.reduceMul, Int.reduceNeg, Int.reduceEq, reduceCtorEq, Int.cast_ofNat_Int, Hp.get_set, all_anyC, all_anyP, key_get, cell_get, kid_get, encC, List.length_map, encN, hg0_0, hg0_1]
 all_goals (repeat refine And.intro (by first | omega | (simp; done) | (simp_all; done) | (simp_all; omega)) ?_)
 all_goals try (
   refine callP (equalc_spec _ _ (by first | omega | (simp; done) | (simp_all; done) | (simp_all; omega)) (by first | omega | (simp; done) | (simp_all; done) | (simp_all; omega))) rfl ?_)
 all_goals try simp (maxSteps := 4000000) (disch := omega) only [push_cast, Nat.reduceLT, Nat.reduceEqDiff, Nat.reduceAdd, Nat.reduceMul, Nat.reduceSub, Nat.reduceLeDiff, Int.reduceToNat, Int.reduceLT, Int.reduceLE, Int.reduceAdd, Int.reduceSub, Int.reduceMul, Int.reduceNeg, Int.reduceEq, reduceCtorEq, Int.cast_ofNat_Int, Hp.get_set, all_anyC, all_anyP, key_get, cell_get, kid_get, encC, List.length_map, encN, hg0_0, hg0_1]
 all_goals (repeat refine And.intro (by first | omega | (simp; done) | (simp_all; done) | (simp_all; omega)) ?_)
 all_goals try (first | refine guardT 24 rfl (fun hc => ?_) (fun hc => ?_) | refine guardF 24 rfl (fun hc => ?_) (fun hc => ?_)) <;> try simp only [push_cast] at hc
 all_goals try (exfalso; omega)
 all_goals try simp (maxSteps := 4000000) (disch := omega) only [push_cast, Nat.reduceLT, Nat.reduceEqDiff, Nat.reduceAdd, Nat.reduceMul, Nat.reduceSub, Nat.reduceLeDiff, Int.reduceToNat, Int.reduceLT, Int.reduceLE, Int.reduceAdd, Int.reduceSub, Int.reduceMul, Int.reduceNeg, Int.reduceEq, reduceCtorEq, Int.cast_ofNat_Int, Hp.get_set, all_anyC, all_anyP, key_get, cell_get, kid_get, encC, List.length_map, encN, hg0_0, hg0_1]
 all_goals (repeat refine And.intro (by first | omega | (simp; done) | (simp_all; done) | (simp_all; omega)) ?_)
 all_goals try (
   refine callP (equali_spec _ _ (by first | omega | (simp; done) | (simp_all; done) | (simp_all; omega)) (by first | omega | (simp; done) | (simp_all; done) | (simp_all; omega))) rfl ?_)
 all_goals try simp (maxSteps := 4000000) (disch := omega) only [push_cast, Nat.reduceLT, Nat.reduceEqDiff, Nat.reduceAdd, Nat.reduceMul, Nat.reduceSub, Nat.reduceLeDiff, Int.reduceToNat, Int.reduceLT, Int.reduceLE, Int.reduceAdd, Int.reduceSub, Int.reduceMul, Int.reduceNeg, Int.reduceEq, reduceCtorEq, Int.cast_ofNat_Int, Hp.get_set, all_anyC, all_anyP, key_get, cell_get, kid_get, encC, List.length_map, encN, hg0_0, hg0_1]
 all_goals (repeat refine And.intro (by first | omega | (simp; done) | (simp_all; done) | (simp_all; omega)) ?_)
 all_goals
  refine Qk hK [4] ?_
  clear hK K
  refine Rt ?_
  refine hQ0 _ _ _ ?_
  try simp (maxSteps := 4000000) only [push_cast, Int.reduceToNat, Int.reduceLT, Int.reduceLE, Int.reduceAdd, Int.reduceSub, Int.reduceMul, Int.reduceNeg, Int.reduceEq, reduceCtorEq, Nat.reduceLeDiff, Nat.reduceLT, Nat.reduceEqDiff, Nat.reduceAdd, Nat.reduceMul, Nat.reduceSub, Int.cast_ofNat_Int, all_anyC, all_anyP, key_get, cell_get, kid_get, encC, List.length_map, encN, hg0_0, hg0_1]
  rw [nd_dec]
  simp_all
theorem halve_spec (n : Nd) (hn : Sm n) : PSpec Go.Proofs.Try.prog 26 [encN n] (.tup [encN (halveN n).1, st (halveN n).2.1, encN (halveN n).2.2]) := by
 refine introP (n := 81) (rs := [.cell 2 26, .tmp 3, .cell 4 26]) (fn := Go.Proofs.Try.f26) (by first | exact Go.Proofs.Try.func26 | rfl) rfl (by kernel_rfl) rfl rfl (Nat.le_of_ble_eq_true rfl) (fun Q0 hQ0 => ?_)
 obtain ⟨hn1, hn2, hn3⟩ := id hn
 have hw : encN n = .agg (ncs n) := rfl
 refine WS.seq ?_
 refine R0 fun K hK => ?_
 try simp (maxSteps := 4000000) (disch := omega) only [push_cast, Nat.reduceLT, Nat.reduceEqDiff, Hp.get_set, all_anyC, all_anyP, key_get, cell_get, kid_get, encC, List.length_map, encN, ncs, i64w, Hp.get_set, if_true, if_false]
 (repeat refine And.intro (by first | omega | (simp; done) | (simp_all; done) | (simp_all; omega)) ?_)
 refine fun g0_0 hg0_0 => ?_
 try simp only [Hp.set_none, Hp.join_none_iff] at hg0_0
 try simp (maxSteps := 4000000) (disch := omega) only [push_cast, Nat.reduceLT, Nat.reduceEqDiff, Hp.get_set, all_anyC, all_anyP, key_get, cell_get, kid_get, encC, List.length_map, encN, ncs, i64w, Hp.get_set, if_true, if_false, hg0_0]
 (repeat refine And.intro (by first | omega | (simp; done) | (simp_all; done) | (simp_all; omega)) ?_)
 refine fun ga hga => ?_
 try simp only [Hp.set_none, Hp.join_none_iff] at hga
 try simp (maxSteps := 4000000) (disch := omega) only [push_cast, Nat.reduceLT, Nat.reduceEqDiff, Hp.get_set, all_anyC, all_anyP, key_get, cell_get, kid_get, encC, List.length_map, encN, ncs, i64w, Hp.get_set, if_true, if_false, hg0_0, hga]
 (repeat refine And.intro (by first | omega | (simp; done) | (simp_all; done) | (simp_all; omega)) ?_)
 refine fun gb hgb => ?_
 try simp only [Hp.set_none, Hp.join_none_iff] at hgb
 try simp (maxSteps := 4000000) (disch := omega) only [push_cast, Nat.reduceLT, Nat.reduceEqDiff, Hp.get_set, all_anyC, all_anyP, key_get, cell_get, kid_get, encC, List.length_map, encN, ncs, i64w, Hp.get_set, if_true, if_false, hg0_0, hga, hgb]
 (repeat refine And.intro (by first | omega | (simp; done) | (simp_all; done) | (simp_all; omega)) ?_)
 refine Qk hK [1, 2, 4] ?_
 clear hK K
 refine S_frz2 1 rfl rfl (of_eq_false hga.2.1) (of_eq_false hgb.2.2.2.1) ?_
 have hab : (ga = gb) = False ∧ (gb = ga) = False := ⟨hgb.2.1, hgb.1⟩
 have hla : lastN n = n.keys.length - leastN n + 1 := rfl
 refine WS.seq ?_
 refine R0 fun K hK => ?_
 try simp (maxSteps := 4000000) (disch := omega) only [push_cast, Nat.reduceLT, Nat.reduceEqDiff, Nat.reduceAdd, Nat.reduceMul, Nat.reduceSub, Nat.reduceLeDiff, Int.reduceToNat, Int.reduceLT, Int.reduceLE, Int.reduceAdd, Int.reduceSub, Int.reduceMul, Int.reduceNeg, Int.reduceEq, reduceCtorEq, Int.cast_ofNat_Int, Hp.get_set, all_anyC, all_anyP, key_get, cell_get, kid_get, encC, List.length_map, encN, ncs, i64w, Hp.get_set, if_true, if_false, hg0_0, hga, hgb, hab]
 (repeat refine And.intro (by first | omega | (simp; done) | (simp_all; done) | (simp_all; omega)) ?_)
 refine Qk hK [1, 2, 4, 5] ?_
 clear hK K
 refine WS.seq ?_
 refine A1 [1, 2, 4, 5, 6] (by decide) ?_
 refine WS.seq (WS.seq ?_)
 refine R0 fun K hK => ?_
 try simp (maxSteps := 4000000) (disch := omega) only [push_cast, Nat.reduceLT, Nat.reduceEqDiff, Nat.reduceAdd, Nat.reduceMul, Nat.reduceSub, Nat.reduceLeDiff, Hp.get_set, all_anyC, all_anyP, key_get, cell_get, kid_get, encC, List.length_map, encN, ncs, i64w, Hp.get_set, if_true, if_false, hg0_0, hga, hgb, hab]
 (repeat refine And.intro (by first | omega | (simp; done) | (simp_all; done) | (simp_all; omega)) ?_)
 refine Qk hK [1, 2, 4, 5, 6, 13] ?_
 clear hK K
 refine CI rfl (fun hc => ?_) (fun hc => ?_)
 ·
  all_goals try (cases hc; done)
  all_goals try simp only [push_cast] at hc
  all_goals try (exfalso; omega)
  all_goals
   have hle : leastN n = 2 := by unfold leastN; rw [hc]; rfl
   refine A1 [1, 2, 4, 5, 6] (by decide) ?_
   refine WS.seq (WS.seq ?_)
   refine R0 fun K hK => ?_
   try simp (maxSteps := 4000000) (disch := omega) only [push_cast, Nat.reduceLT, Nat.reduceEqDiff, Nat.reduceAdd, Nat.reduceMul, Nat.reduceSub, Nat.reduceLeDiff, Int.reduceToNat, Int.reduceLT, Int.reduceLE, Int.reduceAdd, Int.reduceSub, Int.reduceMul, Int.reduceNeg, Int.reduceEq, reduceCtorEq, Int.cast_ofNat_Int, Hp.get_set, all_anyC, all_anyP, key_get, cell_get, kid_get, encC, List.length_map, encN, ncs, i64w, Hp.get_set, if_true, if_false, hg0_0, hga, hgb, hab]
   (repeat refine And.intro (by first | omega | (simp; done) | (simp_all; done) | (simp_all; omega)) ?_)
   refine callP (right_spec n hn) rfl ?_
   try simp (maxSteps := 4000000) (disch := omega) only [push_cast, Nat.reduceLT, Nat.reduceEqDiff, Nat.reduceAdd, Nat.reduceMul, Nat.reduceSub, Nat.reduceLeDiff, Int.reduceToNat, Int.reduceLT, Int.reduceLE, Int.reduceAdd, Int.reduceSub, Int.reduceMul, Int.reduceNeg, Int.reduceEq, reduceCtorEq, Int.cast_ofNat_Int, Hp.get_set, all_anyC, all_anyP, key_get, cell_get, kid_get, encC, List.length_map, encN, ncs, i64w, Hp.get_set, if_true, if_false, hg0_0, hga, hgb, hab]
   (repeat refine And.intro (by first | omega | (simp; done) | (simp_all; done) | (simp_all; omega)) ?_)
   all_goals try (first | refine guardT 17 rfl (fun hc => ?_) (fun hc => ?_) | refine guardF 17 rfl (fun hc => ?_) (fun hc => ?_)) <;> try simp only [push_cast] at hc
   all_goals try (exfalso; omega)
   all_goals try simp (maxSteps := 4000000) (disch := omega) only [push_cast, Nat.reduceLT, Nat.reduceEqDiff, Nat.reduceAdd, Nat.reduceMul, Nat.reduceSub, Nat.reduceLeDiff, Int.reduceToNat, Int.reduceLT, Int.reduceLE, Int.reduceAdd, Int.reduceSub, Int.reduceMul, Int.reduceNeg, Int.reduceEq, reduceCtorEq, Int.cast_ofNat_Int, Hp.get_set, all_anyC, all_anyP, key_get, cell_get, kid_get, encC, List.length_map, encN, ncs, i64w, Hp.get_set, if_true, if_false, hg0_0, hga, hgb, hab]
   all_goals (repeat refine And.intro (by first | omega | (simp; done) | (simp_all; done) | (simp_all; omega)) ?_)
   all_goals
    refine Qk hK [1, 2, 4, 5, 6, 21] ?_
    clear hK K
    refine CI rfl (fun hc => ?_) (fun hc => ?_)
    ·
     all_goals try (cases hc; done)
     all_goals try simp only [push_cast] at hc
     all_goals try (exfalso; omega)
     all_goals
      refine WS.seq ?_
      refine R0 fun K hK => ?_
      try simp (maxSteps := 4000000) (disch := omega) only [push_cast, Nat.reduceLT, Nat.reduceEqDiff, Nat.reduceAdd, Nat.reduceMul, Nat.reduceSub, Nat.reduceLeDiff, Hp.get_set, all_anyC, all_anyP, key_get, cell_get, kid_get, encC, List.length_map, encN, ncs, i64w, Hp.get_set, if_true, if_false, hg0_0, hga, hgb, hab]
      (repeat refine And.intro (by first | omega | (simp; done) | (simp_all; done) | (simp_all; omega)) ?_)
      refine Qk hK [2, 3, 4] ?_
      clear hK K
      refine S_wkH (g := ga) (by simp only [Hp.get_set, hgb]; rfl) (l := [.bool false, .sl 0 [] .full, .sl 0 [] .full, .sl 0 [] .full]) (l' := [.bool false, .sl 1 [] .no, .sl 3 [] .no, .sl 1 [] .no]) ⟨Wk.refl _, Wk.nil 0 1 .full, Wk.nil 0 3 .full, Wk.nil 0 1 .full, trivial⟩ rfl ?_
      refine S_wkH (g := gb) (by simp only [Hp.get_set, hgb]; rfl) (l := [.bool false, .sl 0 [] .full, .sl 0 [] .full, .sl 0 [] .full]) (l' := [.bool false, .sl 1 [] .no, .sl 3 [] .no, .sl 1 [] .no]) ⟨Wk.refl _, Wk.nil 0 1 .full, Wk.nil 0 3 .full, Wk.nil 0 1 .full, trivial⟩ rfl ?_
      refine Rt ?_
      refine hQ0 _ _ _ ?_
      try simp (maxSteps := 4000000) only [push_cast, Int.reduceToNat, Int.reduceLT, Int.reduceLE, Int.reduceAdd, Int.reduceSub, Int.reduceMul, Int.reduceNeg, Int.reduceEq, reduceCtorEq, Nat.reduceLeDiff, Nat.reduceLT, Nat.reduceEqDiff, Nat.reduceAdd, Nat.reduceMul, Nat.reduceSub, Int.cast_ofNat_Int, all_anyC, all_anyP, key_get, cell_get, kid_get, encC, List.length_map, encN, ncs, i64w, Hp.get_set, if_true, if_false, hg0_0, hga, hgb, hab]
      first
      | (have hz := halve_no (n := n) (.inl (by assumption)); rw [hz]; rfl)
      | (have hz := halve_no (n := n) (.inr (by omega)); rw [hz]; rfl)
    all_goals try (cases hc; done)
    all_goals try simp only [push_cast] at hc
    all_goals try (exfalso; omega)
    all_goals
     have hr : right n = true := by assumption
     have hz1 := size_lt hr hn
     refine Sk ?_
     refine WS.seq ?_
     refine R0 fun K hK => ?_
     try simp (maxSteps := 4000000) (disch := omega) only [push_cast, Nat.reduceLT, Nat.reduceEqDiff, Int.reduceToNat, Int.reduceLT, Int.reduceLE, Int.reduceAdd, Int.reduceSub, Int.reduceMul, Int.reduceNeg, Int.reduceEq, reduceCtorEq, Int.cast_ofNat_Int, Hp.get_set, all_anyC, all_anyP, key_get, cell_get, kid_get, encC, List.length_map, encN, ncs, i64w, Hp.get_set, if_true, if_false, hg0_0, hga, hgb, hab]
     (repeat refine And.intro (by first | omega | (simp; done) | (simp_all; done) | (simp_all; omega)) ?_)
     refine Qk hK [1, 2, 4, 5, 7] ?_
     clear hK K
     refine WS.seq ?_
     refine A1 [1, 2, 4, 5, 7, 8] (by decide) ?_
     refine WS.seq ?_
     refine Bk fun K0 hK0 => ?_
     refine WS_keep [1, 2, 4, 5, 7, 8] _ ?_
     refine Lp (fun m env σ' => ∃ (i f : Nat), m = f + 1 ∧ env = [(1, .pv (ncs n)), (2, .ptr ga 0), (4, .ptr gb 0), (5, .int .i64 n.keys.length), (7, .int .i64 (lastN n)), (8, .int .i64 i)] ∧ σ' = (Hp.empty.set ga (.cells [.bool false, .sl 0 [] .full, .sl 0 [] .full, .sl 0 [] .full])).set gb (.cells [.bool false, .sl 0 [] .full, .sl 0 [] .full, .sl 0 [] .full]) ∧ (adv n (lastN n) f i = adv n (lastN n) (lastN n) 1 ∧ 1 ≤ i ∧ i ≤ lastN n ∧ lastN n + 1 ≤ i + f)) ?_ ?_
     · refine ⟨_, 1, lastN n,  rfl, ?_, ?_, ?_⟩
       · (try simp (disch := omega) only [push_cast, Int.reduceToNat, Int.reduceLT, Int.reduceLE, Int.reduceAdd, Int.reduceSub, Int.reduceMul, Int.reduceNeg, Int.reduceEq, reduceCtorEq, Nat.reduceLeDiff, Nat.reduceLT, Nat.reduceEqDiff, Nat.reduceAdd, Nat.reduceMul, Nat.reduceSub, Int.cast_ofNat_Int, all_anyC, all_anyP, key_get, cell_get, kid_get, encC, List.length_map, encN, ncs, i64w, Hp.get_set, if_true, if_false, hg0_0, hga, hgb, hab]) <;> (first | done | rfl | (simp; done) | (simp; omega) | omega | (simp_all; done) | (simp_all; omega))
       · first | rfl | (try simp (disch := omega) only [push_cast, Int.reduceToNat, Int.reduceLT, Int.reduceLE, Int.reduceAdd, Int.reduceSub, Int.reduceMul, Int.reduceNeg, Int.reduceEq, reduceCtorEq, Nat.reduceLeDiff, Nat.reduceLT, Nat.reduceEqDiff, Nat.reduceAdd, Nat.reduceMul, Nat.reduceSub, Int.cast_ofNat_Int, all_anyC, all_anyP, key_get, cell_get, kid_get, encC, List.length_map, encN, ncs, i64w, Hp.get_set, if_true, if_false, hg0_0, hga, hgb, hab]) <;> (first | done | rfl | (simp; done) | (simp; omega) | omega | (simp_all; done) | (simp_all; omega))
       · exact ⟨rfl, by omega, by omega, by omega⟩
     intro m env σ' hJ M0 hM0
     obtain ⟨i, f, rfl, rfl, rfl, hadv, hi1, hi2, hf⟩ := hJ
     have hz2 := size_lt (right_some hr hi1 (by omega)) (sm_some hn i)
     refine WS.seq (WS.seq ?_)
     refine RD [32, 37] [52, 70] fo (by kernel_rfl) fun K hK => ?_
     try simp (maxSteps := 4000000) (disch := omega) only [push_cast, Nat.reduceLT, Nat.reduceEqDiff, Nat.reduceAdd, Nat.reduceMul, Nat.reduceSub, Nat.reduceLeDiff, Int.reduceToNat, Int.reduceLT, Int.reduceLE, Int.reduceAdd, Int.reduceSub, Int.reduceMul, Int.reduceNeg, Int.reduceEq, reduceCtorEq, Int.cast_ofNat_Int, Hp.get_set, all_anyC, all_anyP, key_get, cell_get, kid_get, encC, List.length_map, encN, ncs, i64w, Hp.get_set, if_true, if_false, hg0_0, hga, hgb, hab]
     (repeat refine And.intro (by first | omega | (simp; done) | (simp_all; done) | (simp_all; omega)) ?_)
     all_goals try (first | refine guardT 31 rfl (fun hc => ?_) (fun hc => ?_) | refine guardF 31 rfl (fun hc => ?_) (fun hc => ?_)) <;> try simp only [push_cast] at hc
     all_goals try (exfalso; omega)
     all_goals try simp (maxSteps := 4000000) (disch := omega) only [push_cast, Nat.reduceLT, Nat.reduceEqDiff, Nat.reduceAdd, Nat.reduceMul, Nat.reduceSub, Nat.reduceLeDiff, Int.reduceToNat, Int.reduceLT, Int.reduceLE, Int.reduceAdd, Int.reduceSub, Int.reduceMul, Int.reduceNeg, Int.reduceEq, reduceCtorEq, Int.cast_ofNat_Int, Hp.get_set, all_anyC, all_anyP, key_get, cell_get, kid_get, encC, List.length_map, encN, ncs, i64w, Hp.get_set, if_true, if_false, hg0_0, hga, hgb, hab]
     all_goals (repeat refine And.intro (by first | omega | (simp; done) | (simp_all; done) | (simp_all; omega)) ?_)
     all_goals try (
       refine callP (some_spec n i hn hr (by omega) (by omega)) rfl ?_)
     all_goals try simp (maxSteps := 4000000) (disch := omega) only [push_cast, Nat.reduceLT, Nat.reduceEqDiff, Nat.reduceAdd, Nat.reduceMul, Nat.reduceSub, Nat.reduceLeDiff, Int.reduceToNat, Int.reduceLT, Int.reduceLE, Int.reduceAdd, Int.reduceSub, Int.reduceMul, Int.reduceNeg, Int.reduceEq, reduceCtorEq, Int.cast_ofNat_Int, Hp.get_set, all_anyC, all_anyP, key_get, cell_get, kid_get, encC, List.length_map, encN, ncs, i64w, Hp.get_set, if_true, if_false, hg0_0, hga, hgb, hab]
     all_goals (repeat refine And.intro (by first | omega | (simp; done) | (simp_all; done) | (simp_all; omega)) ?_)
     all_goals try (
       refine callP (size_spec (someN n i) (right_some hr (by omega) (by omega)) (sm_some hn i)) rfl ?_)
     all_goals try simp (maxSteps := 4000000) (disch := omega) only [push_cast, Nat.reduceLT, Nat.reduceEqDiff, Nat.reduceAdd, Nat.reduceMul, Nat.reduceSub, Nat.reduceLeDiff, Int.reduceToNat, Int.reduceLT, Int.reduceLE, Int.reduceAdd, Int.reduceSub, Int.reduceMul, Int.reduceNeg, Int.reduceEq, reduceCtorEq, Int.cast_ofNat_Int, Hp.get_set, all_anyC, all_anyP, key_get, cell_get, kid_get, encC, List.length_map, encN, ncs, i64w, Hp.get_set, if_true, if_false, hg0_0, hga, hgb, hab]
     all_goals (repeat refine And.intro (by first | omega | (simp; done) | (simp_all; done) | (simp_all; omega)) ?_)
     all_goals try (
       refine callP (size_spec n hr hn) rfl ?_)
     all_goals try simp (maxSteps := 4000000) (disch := omega) only [push_cast, Nat.reduceLT, Nat.reduceEqDiff, Nat.reduceAdd, Nat.reduceMul, Nat.reduceSub, Nat.reduceLeDiff, Int.reduceToNat, Int.reduceLT, Int.reduceLE, Int.reduceAdd, Int.reduceSub, Int.reduceMul, Int.reduceNeg, Int.reduceEq, reduceCtorEq, Int.cast_ofNat_Int, Hp.get_set, all_anyC, all_anyP, key_get, cell_get, kid_get, encC, List.length_map, encN, ncs, i64w, Hp.get_set, if_true, if_false, hg0_0, hga, hgb, hab]
     all_goals (repeat refine And.intro (by first | omega | (simp; done) | (simp_all; done) | (simp_all; omega)) ?_)
     all_goals
      refine Qk hK [1, 2, 4, 5, 7, 8, 40] ?_
      clear hK K
      refine CI rfl (fun hc => ?_) (fun hc => ?_)
      rotate_left
      ·
       all_goals try (cases hc; done)
       all_goals try simp only [push_cast] at hc
       all_goals try (exfalso; omega)
       all_goals
        have hns : ¬ (i < lastN n ∧ 2 * sizeN (someN n i) < sizeN n) := by omega
        have hcut := cut_at hns hadv
        refine Ex ?_
        simp only [push_cast, WS, Nat.reduceEqDiff]
        refine hK0 _ _ ?_
        clear hK0
        try clear K0
        refine WS_keep [1, 2, 4, 5, 8] _ ?_
        refine WS.seq (WS.seq ?_)
        refine R0 fun K hK => ?_
        try simp (maxSteps := 4000000) (disch := omega) only [push_cast, Nat.reduceLT, Nat.reduceEqDiff, Nat.reduceAdd, Nat.reduceMul, Nat.reduceSub, Nat.reduceLeDiff, Int.reduceToNat, Int.reduceLT, Int.reduceLE, Int.reduceAdd, Int.reduceSub, Int.reduceMul, Int.reduceNeg, Int.reduceEq, reduceCtorEq, Int.cast_ofNat_Int, Hp.get_set, all_anyC, all_anyP, key_get, cell_get, kid_get, encC, List.length_map, encN, ncs, i64w, Hp.get_set, if_true, if_false, hg0_0, hga, hgb, hab]
        (repeat refine And.intro (by first | omega | (simp; done) | (simp_all; done) | (simp_all; omega)) ?_)
        all_goals try (first | refine guardT 45 rfl (fun hc => ?_) (fun hc => ?_) | refine guardF 45 rfl (fun hc => ?_) (fun hc => ?_)) <;> try simp only [push_cast] at hc
        all_goals try (exfalso; omega)
        all_goals try simp (maxSteps := 4000000) (disch := omega) only [push_cast, Nat.reduceLT, Nat.reduceEqDiff, Nat.reduceAdd, Nat.reduceMul, Nat.reduceSub, Nat.reduceLeDiff, Int.reduceToNat, Int.reduceLT, Int.reduceLE, Int.reduceAdd, Int.reduceSub, Int.reduceMul, Int.reduceNeg, Int.reduceEq, reduceCtorEq, Int.cast_ofNat_Int, Hp.get_set, all_anyC, all_anyP, key_get, cell_get, kid_get, encC, List.length_map, encN, ncs, i64w, Hp.get_set, if_true, if_false, hg0_0, hga, hgb, hab]
        all_goals (repeat refine And.intro (by first | omega | (simp; done) | (simp_all; done) | (simp_all; omega)) ?_)
        all_goals try (
          refine callP (some_spec n i hn hr (by omega) (by omega)) rfl ?_)
        all_goals try simp (maxSteps := 4000000) (disch := omega) only [push_cast, Nat.reduceLT, Nat.reduceEqDiff, Nat.reduceAdd, Nat.reduceMul, Nat.reduceSub, Nat.reduceLeDiff, Int.reduceToNat, Int.reduceLT, Int.reduceLE, Int.reduceAdd, Int.reduceSub, Int.reduceMul, Int.reduceNeg, Int.reduceEq, reduceCtorEq, Int.cast_ofNat_Int, Hp.get_set, all_anyC, all_anyP, key_get, cell_get, kid_get, encC, List.length_map, encN, ncs, i64w, Hp.get_set, if_true, if_false, hg0_0, hga, hgb, hab]
        all_goals (repeat refine And.intro (by first | omega | (simp; done) | (simp_all; done) | (simp_all; omega)) ?_)
        all_goals try (
          refine callP (size_spec (someN n i) (right_some hr (by omega) (by omega)) (sm_some hn i)) rfl ?_)
        all_goals try simp (maxSteps := 4000000) (disch := omega) only [push_cast, Nat.reduceLT, Nat.reduceEqDiff, Nat.reduceAdd, Nat.reduceMul, Nat.reduceSub, Nat.reduceLeDiff, Int.reduceToNat, Int.reduceLT, Int.reduceLE, Int.reduceAdd, Int.reduceSub, Int.reduceMul, Int.reduceNeg, Int.reduceEq, reduceCtorEq, Int.cast_ofNat_Int, Hp.get_set, all_anyC, all_anyP, key_get, cell_get, kid_get, encC, List.length_map, encN, ncs, i64w, Hp.get_set, if_true, if_false, hg0_0, hga, hgb, hab]
        all_goals (repeat refine And.intro (by first | omega | (simp; done) | (simp_all; done) | (simp_all; omega)) ?_)
        all_goals
         refine Qk hK [1, 2, 4, 5, 8, 51] ?_
         clear hK K
         refine CI rfl (fun hc => ?_) (fun hc => ?_)
         ·
          all_goals try (cases hc; done)
          all_goals try simp only [push_cast] at hc
          all_goals try (exfalso; omega)
          all_goals
           rw [if_pos (by omega)] at hcut
           obtain ⟨j, hj⟩ : ∃ j, j = i - 1 := ⟨_, rfl⟩
           rw [← hj] at hcut
           have him : ((i : Int) - 1) = (j : Int) := by omega
           refine R0 fun K hK => ?_
           try simp (maxSteps := 4000000) (disch := omega) only [push_cast, Nat.reduceLT, Nat.reduceEqDiff, Int.reduceToNat, Int.reduceLT, Int.reduceLE, Int.reduceAdd, Int.reduceSub, Int.reduceMul, Int.reduceNeg, Int.reduceEq, reduceCtorEq, Int.cast_ofNat_Int, Hp.get_set, all_anyC, all_anyP, key_get, cell_get, kid_get, encC, List.length_map, encN, ncs, i64w, Hp.get_set, if_true, if_false, hg0_0, hga, hgb, hab, him]
           refine Qk hK [1, 2, 4, 5, 8] ?_
           clear hK K
           refine WS.seq (WS.seq ?_)
           refine R0 fun K hK => ?_
           try simp (maxSteps := 4000000) (disch := omega) only [push_cast, Nat.reduceLT, Nat.reduceEqDiff, Nat.reduceAdd, Nat.reduceMul, Nat.reduceSub, Nat.reduceLeDiff, Hp.get_set, all_anyC, all_anyP, key_get, cell_get, kid_get, encC, List.length_map, encN, ncs, i64w, Hp.get_set, if_true, if_false, hg0_0, hga, hgb, hab, him]
           (repeat refine And.intro (by first | omega | (simp; done) | (simp_all; done) | (simp_all; omega)) ?_)
           refine Qk hK [1, 2, 4, 5, 8, 55] ?_
           clear hK K
           refine CI rfl (fun hc => ?_) (fun hc => ?_)
           ·
            all_goals try (cases hc; done)
            all_goals try simp only [push_cast] at hc
            all_goals try (exfalso; omega)
            all_goals
             refine WS.seq ?_
             refine RD [56, 60, 63, 64] [71] fo (by kernel_rfl) fun K hK => ?_
             try simp (maxSteps := 4000000) (disch := omega) only [push_cast, Nat.reduceLT, Nat.reduceEqDiff, Nat.reduceAdd, Nat.reduceMul, Nat.reduceSub, Nat.reduceLeDiff, Int.reduceToNat, Int.reduceLT, Int.reduceLE, Int.reduceAdd, Int.reduceSub, Int.reduceMul, Int.reduceNeg, Int.reduceEq, reduceCtorEq, Int.cast_ofNat_Int, Hp.get_set, all_anyC, all_anyP, key_get, cell_get, kid_get, encC, List.length_map, encN, ncs, i64w, Hp.get_set, if_true, if_false, hg0_0, hga, hgb, hab, him]
             (repeat refine And.intro (by first | omega | (simp; done) | (simp_all; done) | (simp_all; omega)) ?_)
             refine callP (leafPart_spec n 0 _ hn (by omega) (by omega) (by have := shape_leaf (right_shape hr) hc; omega)) rfl ?_
             try simp (maxSteps := 4000000) (disch := omega) only [push_cast, Nat.reduceLT, Nat.reduceEqDiff, Nat.reduceAdd, Nat.reduceMul, Nat.reduceSub, Nat.reduceLeDiff, Int.reduceToNat, Int.reduceLT, Int.reduceLE, Int.reduceAdd, Int.reduceSub, Int.reduceMul, Int.reduceNeg, Int.reduceEq, reduceCtorEq, Int.cast_ofNat_Int, Hp.get_set, all_anyC, all_anyP, key_get, cell_get, kid_get, encC, List.length_map, encN, ncs, i64w, Hp.get_set, if_true, if_false, hg0_0, hga, hgb, hab, him]
             (repeat refine And.intro (by first | omega | (simp; done) | (simp_all; done) | (simp_all; omega)) ?_)
             refine callP (leafPart_spec n _ n.keys.length hn (by omega) (by omega) (by have := shape_leaf (right_shape hr) hc; omega)) rfl ?_
             try simp (maxSteps := 4000000) (disch := omega) only [push_cast, Nat.reduceLT, Nat.reduceEqDiff, Nat.reduceAdd, Nat.reduceMul, Nat.reduceSub, Nat.reduceLeDiff, Int.reduceToNat, Int.reduceLT, Int.reduceLE, Int.reduceAdd, Int.reduceSub, Int.reduceMul, Int.reduceNeg, Int.reduceEq, reduceCtorEq, Int.cast_ofNat_Int, Hp.get_set, all_anyC, all_anyP, key_get, cell_get, kid_get, encC, List.length_map, encN, ncs, i64w, Hp.get_set, if_true, if_false, hg0_0, hga, hgb, hab, him]
             (repeat refine And.intro (by first | omega | (simp; done) | (simp_all; done) | (simp_all; omega)) ?_)
             refine Qk hK [2, 3, 4] ?_
             clear hK K
             refine Rt ?_
             refine hQ0 _ _ _ ?_
             try simp (maxSteps := 4000000) only [push_cast, Int.reduceToNat, Int.reduceLT, Int.reduceLE, Int.reduceAdd, Int.reduceSub, Int.reduceMul, Int.reduceNeg, Int.reduceEq, reduceCtorEq, Nat.reduceLeDiff, Nat.reduceLT, Nat.reduceEqDiff, Nat.reduceAdd, Nat.reduceMul, Nat.reduceSub, Int.cast_ofNat_Int, all_anyC, all_anyP, key_get, cell_get, kid_get, encC, List.length_map, encN, ncs, i64w, Hp.get_set, if_true, if_false, hg0_0, hga, hgb, hab, him]
             rw [halve_leaf hr (by omega) hc hcut]
           all_goals try (cases hc; done)
           all_goals try simp only [push_cast] at hc
           all_goals try (exfalso; omega)
           all_goals
            refine Sk ?_
            refine WS.seq ?_
            refine RD [68, 72, 75, 76] [72] fo (by kernel_rfl) fun K hK => ?_
            try simp (maxSteps := 4000000) (disch := omega) only [push_cast, Nat.reduceLT, Nat.reduceEqDiff, Nat.reduceAdd, Nat.reduceMul, Nat.reduceSub, Nat.reduceLeDiff, Int.reduceToNat, Int.reduceLT, Int.reduceLE, Int.reduceAdd, Int.reduceSub, Int.reduceMul, Int.reduceNeg, Int.reduceEq, reduceCtorEq, Int.cast_ofNat_Int, Hp.get_set, all_anyC, all_anyP, key_get, cell_get, kid_get, encC, List.length_map, encN, ncs, i64w, Hp.get_set, if_true, if_false, hg0_0, hga, hgb, hab, him]
            (repeat refine And.intro (by first | omega | (simp; done) | (simp_all; done) | (simp_all; omega)) ?_)
            refine callP (innerPart_spec n 0 _ hn (by omega) (by omega) (by have := shape_inner (right_shape hr) hc; omega)) rfl ?_
            try simp (maxSteps := 4000000) (disch := omega) only [push_cast, Nat.reduceLT, Nat.reduceEqDiff, Nat.reduceAdd, Nat.reduceMul, Nat.reduceSub, Nat.reduceLeDiff, Int.reduceToNat, Int.reduceLT, Int.reduceLE, Int.reduceAdd, Int.reduceSub, Int.reduceMul, Int.reduceNeg, Int.reduceEq, reduceCtorEq, Int.cast_ofNat_Int, Hp.get_set, all_anyC, all_anyP, key_get, cell_get, kid_get, encC, List.length_map, encN, ncs, i64w, Hp.get_set, if_true, if_false, hg0_0, hga, hgb, hab, him]
            (repeat refine And.intro (by first | omega | (simp; done) | (simp_all; done) | (simp_all; omega)) ?_)
            first
            | refine callP (innerPart_spec n (j + 1) n.keys.length hn (by omega) (by omega) (by have := shape_inner (right_shape hr) hc; omega)) rfl ?_
            | refine callP (innerPart_spec n (i + 1) n.keys.length hn (by omega) (by omega) (by have := shape_inner (right_shape hr) hc; omega)) rfl ?_
            try simp (maxSteps := 4000000) (disch := omega) only [push_cast, Nat.reduceLT, Nat.reduceEqDiff, Nat.reduceAdd, Nat.reduceMul, Nat.reduceSub, Nat.reduceLeDiff, Int.reduceToNat, Int.reduceLT, Int.reduceLE, Int.reduceAdd, Int.reduceSub, Int.reduceMul, Int.reduceNeg, Int.reduceEq, reduceCtorEq, Int.cast_ofNat_Int, Hp.get_set, all_anyC, all_anyP, key_get, cell_get, kid_get, encC, List.length_map, encN, ncs, i64w, Hp.get_set, if_true, if_false, hg0_0, hga, hgb, hab, him]
            (repeat refine And.intro (by first | omega | (simp; done) | (simp_all; done) | (simp_all; omega)) ?_)
            refine Qk hK [2, 3, 4] ?_
            clear hK K
            refine Rt ?_
            refine hQ0 _ _ _ ?_
            try simp (maxSteps := 4000000) only [push_cast, Int.reduceToNat, Int.reduceLT, Int.reduceLE, Int.reduceAdd, Int.reduceSub, Int.reduceMul, Int.reduceNeg, Int.reduceEq, reduceCtorEq, Nat.reduceLeDiff, Nat.reduceLT, Nat.reduceEqDiff, Nat.reduceAdd, Nat.reduceMul, Nat.reduceSub, Int.cast_ofNat_Int, all_anyC, all_anyP, key_get, cell_get, kid_get, encC, List.length_map, encN, ncs, i64w, Hp.get_set, if_true, if_false, hg0_0, hga, hgb, hab, him]
            rw [halve_inner hr (by omega) hc hcut]
         ·
          all_goals try (cases hc; done)
          all_goals try simp only [push_cast] at hc
          all_goals try (exfalso; omega)
          all_goals
           rw [if_neg (by omega)] at hcut
           refine Sk ?_
           refine WS.seq (WS.seq ?_)
           refine R0 fun K hK => ?_
           try simp (maxSteps := 4000000) (disch := omega) only [push_cast, Nat.reduceLT, Nat.reduceEqDiff, Nat.reduceAdd, Nat.reduceMul, Nat.reduceSub, Nat.reduceLeDiff, Hp.get_set, all_anyC, all_anyP, key_get, cell_get, kid_get, encC, List.length_map, encN, ncs, i64w, Hp.get_set, if_true, if_false, hg0_0, hga, hgb, hab]
           (repeat refine And.intro (by first | omega | (simp; done) | (simp_all; done) | (simp_all; omega)) ?_)
           refine Qk hK [1, 2, 4, 5, 8, 55] ?_
           clear hK K
           refine CI rfl (fun hc => ?_) (fun hc => ?_)
           ·
            all_goals try (cases hc; done)
            all_goals try simp only [push_cast] at hc
            all_goals try (exfalso; omega)
            all_goals
             refine WS.seq ?_
             refine RD [56, 60, 63, 64] [71] fo (by kernel_rfl) fun K hK => ?_
             try simp (maxSteps := 4000000) (disch := omega) only [push_cast, Nat.reduceLT, Nat.reduceEqDiff, Nat.reduceAdd, Nat.reduceMul, Nat.reduceSub, Nat.reduceLeDiff, Int.reduceToNat, Int.reduceLT, Int.reduceLE, Int.reduceAdd, Int.reduceSub, Int.reduceMul, Int.reduceNeg, Int.reduceEq, reduceCtorEq, Int.cast_ofNat_Int, Hp.get_set, all_anyC, all_anyP, key_get, cell_get, kid_get, encC, List.length_map, encN, ncs, i64w, Hp.get_set, if_true, if_false, hg0_0, hga, hgb, hab]
             (repeat refine And.intro (by first | omega | (simp; done) | (simp_all; done) | (simp_all; omega)) ?_)
             refine callP (leafPart_spec n 0 _ hn (by omega) (by omega) (by have := shape_leaf (right_shape hr) hc; omega)) rfl ?_
             try simp (maxSteps := 4000000) (disch := omega) only [push_cast, Nat.reduceLT, Nat.reduceEqDiff, Nat.reduceAdd, Nat.reduceMul, Nat.reduceSub, Nat.reduceLeDiff, Int.reduceToNat, Int.reduceLT, Int.reduceLE, Int.reduceAdd, Int.reduceSub, Int.reduceMul, Int.reduceNeg, Int.reduceEq, reduceCtorEq, Int.cast_ofNat_Int, Hp.get_set, all_anyC, all_anyP, key_get, cell_get, kid_get, encC, List.length_map, encN, ncs, i64w, Hp.get_set, if_true, if_false, hg0_0, hga, hgb, hab]
             (repeat refine And.intro (by first | omega | (simp; done) | (simp_all; done) | (simp_all; omega)) ?_)
             refine callP (leafPart_spec n _ n.keys.length hn (by omega) (by omega) (by have := shape_leaf (right_shape hr) hc; omega)) rfl ?_
             try simp (maxSteps := 4000000) (disch := omega) only [push_cast, Nat.reduceLT, Nat.reduceEqDiff, Nat.reduceAdd, Nat.reduceMul, Nat.reduceSub, Nat.reduceLeDiff, Int.reduceToNat, Int.reduceLT, Int.reduceLE, Int.reduceAdd, Int.reduceSub, Int.reduceMul, Int.reduceNeg, Int.reduceEq, reduceCtorEq, Int.cast_ofNat_Int, Hp.get_set, all_anyC, all_anyP, key_get, cell_get, kid_get, encC, List.length_map, encN, ncs, i64w, Hp.get_set, if_true, if_false, hg0_0, hga, hgb, hab]
             (repeat refine And.intro (by first | omega | (simp; done) | (simp_all; done) | (simp_all; omega)) ?_)
             refine Qk hK [2, 3, 4] ?_
             clear hK K
             refine Rt ?_
             refine hQ0 _ _ _ ?_
             try simp (maxSteps := 4000000) only [push_cast, Int.reduceToNat, Int.reduceLT, Int.reduceLE, Int.reduceAdd, Int.reduceSub, Int.reduceMul, Int.reduceNeg, Int.reduceEq, reduceCtorEq, Nat.reduceLeDiff, Nat.reduceLT, Nat.reduceEqDiff, Nat.reduceAdd, Nat.reduceMul, Nat.reduceSub, Int.cast_ofNat_Int, all_anyC, all_anyP, key_get, cell_get, kid_get, encC, List.length_map, encN, ncs, i64w, Hp.get_set, if_true, if_false, hg0_0, hga, hgb, hab]
             rw [halve_leaf hr (by omega) hc hcut]
           all_goals try (cases hc; done)
           all_goals try simp only [push_cast] at hc
           all_goals try (exfalso; omega)
           all_goals
            refine Sk ?_
            refine WS.seq ?_
            refine RD [68, 72, 75, 76] [72] fo (by kernel_rfl) fun K hK => ?_
            try simp (maxSteps := 4000000) (disch := omega) only [push_cast, Nat.reduceLT, Nat.reduceEqDiff, Nat.reduceAdd, Nat.reduceMul, Nat.reduceSub, Nat.reduceLeDiff, Int.reduceToNat, Int.reduceLT, Int.reduceLE, Int.reduceAdd, Int.reduceSub, Int.reduceMul, Int.reduceNeg, Int.reduceEq, reduceCtorEq, Int.cast_ofNat_Int, Hp.get_set, all_anyC, all_anyP, key_get, cell_get, kid_get, encC, List.length_map, encN, ncs, i64w, Hp.get_set, if_true, if_false, hg0_0, hga, hgb, hab]
            (repeat refine And.intro (by first | omega | (simp; done) | (simp_all; done) | (simp_all; omega)) ?_)
            refine callP (innerPart_spec n 0 _ hn (by omega) (by omega) (by have := shape_inner (right_shape hr) hc; omega)) rfl ?_
            try simp (maxSteps := 4000000) (disch := omega) only [push_cast, Nat.reduceLT, Nat.reduceEqDiff, Nat.reduceAdd, Nat.reduceMul, Nat.reduceSub, Nat.reduceLeDiff, Int.reduceToNat, Int.reduceLT, Int.reduceLE, Int.reduceAdd, Int.reduceSub, Int.reduceMul, Int.reduceNeg, Int.reduceEq, reduceCtorEq, Int.cast_ofNat_Int, Hp.get_set, all_anyC, all_anyP, key_get, cell_get, kid_get, encC, List.length_map, encN, ncs, i64w, Hp.get_set, if_true, if_false, hg0_0, hga, hgb, hab]
            (repeat refine And.intro (by first | omega | (simp; done) | (simp_all; done) | (simp_all; omega)) ?_)
            first
            | refine callP (innerPart_spec n (j + 1) n.keys.length hn (by omega) (by omega) (by have := shape_inner (right_shape hr) hc; omega)) rfl ?_
            | refine callP (innerPart_spec n (i + 1) n.keys.length hn (by omega) (by omega) (by have := shape_inner (right_shape hr) hc; omega)) rfl ?_
            try simp (maxSteps := 4000000) (disch := omega) only [push_cast, Nat.reduceLT, Nat.reduceEqDiff, Nat.reduceAdd, Nat.reduceMul, Nat.reduceSub, Nat.reduceLeDiff, Int.reduceToNat, Int.reduceLT, Int.reduceLE, Int.reduceAdd, Int.reduceSub, Int.reduceMul, Int.reduceNeg, Int.reduceEq, reduceCtorEq, Int.cast_ofNat_Int, Hp.get_set, all_anyC, all_anyP, key_get, cell_get, kid_get, encC, List.length_map, encN, ncs, i64w, Hp.get_set, if_true, if_false, hg0_0, hga, hgb, hab]
            (repeat refine And.intro (by first | omega | (simp; done) | (simp_all; done) | (simp_all; omega)) ?_)
            refine Qk hK [2, 3, 4] ?_
            clear hK K
            refine Rt ?_
            refine hQ0 _ _ _ ?_
            try simp (maxSteps := 4000000) only [push_cast, Int.reduceToNat, Int.reduceLT, Int.reduceLE, Int.reduceAdd, Int.reduceSub, Int.reduceMul, Int.reduceNeg, Int.reduceEq, reduceCtorEq, Nat.reduceLeDiff, Nat.reduceLT, Nat.reduceEqDiff, Nat.reduceAdd, Nat.reduceMul, Nat.reduceSub, Int.cast_ofNat_Int, all_anyC, all_anyP, key_get, cell_get, kid_get, encC, List.length_map, encN, ncs, i64w, Hp.get_set, if_true, if_false, hg0_0, hga, hgb, hab]
            rw [halve_inner hr (by omega) hc hcut]
      all_goals try (cases hc; done)
      all_goals try simp only [push_cast] at hc
      all_goals try (exfalso; omega)
      all_goals
       refine Sk ?_
       refine Bk fun K1 hK1 => ?_
       refine R0 fun K hK => ?_
       try simp (maxSteps := 4000000) (disch := omega) only [push_cast, Nat.reduceLT, Nat.reduceEqDiff, Int.reduceToNat, Int.reduceLT, Int.reduceLE, Int.reduceAdd, Int.reduceSub, Int.reduceMul, Int.reduceNeg, Int.reduceEq, reduceCtorEq, Int.cast_ofNat_Int, Hp.get_set, all_anyC, all_anyP, key_get, cell_get, kid_get, encC, List.length_map, encN, ncs, i64w, Hp.get_set, if_true, if_false, hg0_0, hga, hgb, hab]
       (repeat refine And.intro (by first | omega | (simp; done) | (simp_all; done) | (simp_all; omega)) ?_)
       refine Qk hK [1, 2, 4, 5, 7, 8] ?_
       clear hK K
       simp only [push_cast, WS, Nat.reduceEqDiff]
       refine hK1 _ _ ?_
       clear hK1
       try clear K1
       refine Ag (hM0 _ _ ?_)
       refine ⟨_, ?_, i + 1, f - 1,  rfl, ?_, ?_, ?_⟩
       · first | omega | (simp; done) | (simp_all; done) | (simp_all; omega)
       · (try simp (disch := omega) only [push_cast, Int.reduceToNat, Int.reduceLT, Int.reduceLE, Int.reduceAdd, Int.reduceSub, Int.reduceMul, Int.reduceNeg, Int.reduceEq, reduceCtorEq, Nat.reduceLeDiff, Nat.reduceLT, Nat.reduceEqDiff, Nat.reduceAdd, Nat.reduceMul, Nat.reduceSub, Int.cast_ofNat_Int, all_anyC, all_anyP, key_get, cell_get, kid_get, encC, List.length_map, encN, ncs, i64w, Hp.get_set, if_true, if_false, hg0_0, hga, hgb, hab]) <;> (first | done | rfl | (simp; done) | (simp; omega) | omega | (simp_all; done) | (simp_all; omega))
       · first | rfl | (try simp (disch := omega) only [push_cast, Int.reduceToNat, Int.reduceLT, Int.reduceLE, Int.reduceAdd, Int.reduceSub, Int.reduceMul, Int.reduceNeg, Int.reduceEq, reduceCtorEq, Nat.reduceLeDiff, Nat.reduceLT, Nat.reduceEqDiff, Nat.reduceAdd, Nat.reduceMul, Nat.reduceSub, Int.cast_ofNat_Int, all_anyC, all_anyP, key_get, cell_get, kid_get, encC, List.length_map, encN, ncs, i64w, Hp.get_set, if_true, if_false, hg0_0, hga, hgb, hab]) <;> (first | done | rfl | (simp; done) | (simp; omega) | omega | (simp_all; done) | (simp_all; omega))
       · exact ⟨adv_down ⟨by omega, by omega⟩ hf hadv, by omega, by omega, by omega⟩
 ·
  all_goals try (cases hc; done)
  all_goals try simp only [push_cast] at hc
  all_goals try (exfalso; omega)
  all_goals
   have hle : leastN n = 3 := by unfold leastN; rw [hc]; rfl
   refine Sk ?_
   refine WS.seq (WS.seq ?_)
   refine R0 fun K hK => ?_
   try simp (maxSteps := 4000000) (disch := omega) only [push_cast, Nat.reduceLT, Nat.reduceEqDiff, Nat.reduceAdd, Nat.reduceMul, Nat.reduceSub, Nat.reduceLeDiff, Int.reduceToNat, Int.reduceLT, Int.reduceLE, Int.reduceAdd, Int.reduceSub, Int.reduceMul, Int.reduceNeg, Int.reduceEq, reduceCtorEq, Int.cast_ofNat_Int, Hp.get_set, all_anyC, all_anyP, key_get, cell_get, kid_get, encC, List.length_map, encN, ncs, i64w, Hp.get_set, if_true, if_false, hg0_0, hga, hgb, hab]
   (repeat refine And.intro (by first | omega | (simp; done) | (simp_all; done) | (simp_all; omega)) ?_)
   refine callP (right_spec n hn) rfl ?_
   try simp (maxSteps := 4000000) (disch := omega) only [push_cast, Nat.reduceLT, Nat.reduceEqDiff, Nat.reduceAdd, Nat.reduceMul, Nat.reduceSub, Nat.reduceLeDiff, Int.reduceToNat, Int.reduceLT, Int.reduceLE, Int.reduceAdd, Int.reduceSub, Int.reduceMul, Int.reduceNeg, Int.reduceEq, reduceCtorEq, Int.cast_ofNat_Int, Hp.get_set, all_anyC, all_anyP, key_get, cell_get, kid_get, encC, List.length_map, encN, ncs, i64w, Hp.get_set, if_true, if_false, hg0_0, hga, hgb, hab]
   (repeat refine And.intro (by first | omega | (simp; done) | (simp_all; done) | (simp_all; omega)) ?_)
   all_goals try (first | refine guardT 17 rfl (fun hc => ?_) (fun hc => ?_) | refine guardF 17 rfl (fun hc => ?_) (fun hc => ?_)) <;> try simp only [push_cast] at hc
   all_goals try (exfalso; omega)
   all_goals try simp (maxSteps := 4000000) (disch := omega) only [push_cast, Nat.reduceLT, Nat.reduceEqDiff, Nat.reduceAdd, Nat.reduceMul, Nat.reduceSub, Nat.reduceLeDiff, Int.reduceToNat, Int.reduceLT, Int.reduceLE, Int.reduceAdd, Int.reduceSub, Int.reduceMul, Int.reduceNeg, Int.reduceEq, reduceCtorEq, Int.cast_ofNat_Int, Hp.get_set, all_anyC, all_anyP, key_get, cell_get, kid_get, encC, List.length_map, encN, ncs, i64w, Hp.get_set, if_true, if_false, hg0_0, hga, hgb, hab]
   all_goals (repeat refine And.intro (by first | omega | (simp; done) | (simp_all; done) | (simp_all; omega)) ?_)
   all_goals
    refine Qk hK [1, 2, 4, 5, 6, 21] ?_
    clear hK K
    refine CI rfl (fun hc => ?_) (fun hc => ?_)
    ·
     all_goals try (cases hc; done)
     all_goals try simp only [push_cast] at hc
     all_goals try (exfalso; omega)
     all_goals
      refine WS.seq ?_
      refine R0 fun K hK => ?_
      try simp (maxSteps := 4000000) (disch := omega) only [push_cast, Nat.reduceLT, Nat.reduceEqDiff, Nat.reduceAdd, Nat.reduceMul, Nat.reduceSub, Nat.reduceLeDiff, Hp.get_set, all_anyC, all_anyP, key_get, cell_get, kid_get, encC, List.length_map, encN, ncs, i64w, Hp.get_set, if_true, if_false, hg0_0, hga, hgb, hab]
      (repeat refine And.intro (by first | omega | (simp; done) | (simp_all; done) | (simp_all; omega)) ?_)
      refine Qk hK [2, 3, 4] ?_
      clear hK K
      refine S_wkH (g := ga) (by simp only [Hp.get_set, hgb]; rfl) (l := [.bool false, .sl 0 [] .full, .sl 0 [] .full, .sl 0 [] .full]) (l' := [.bool false, .sl 1 [] .no, .sl 3 [] .no, .sl 1 [] .no]) ⟨Wk.refl _, Wk.nil 0 1 .full, Wk.nil 0 3 .full, Wk.nil 0 1 .full, trivial⟩ rfl ?_
      refine S_wkH (g := gb) (by simp only [Hp.get_set, hgb]; rfl) (l := [.bool false, .sl 0 [] .full, .sl 0 [] .full, .sl 0 [] .full]) (l' := [.bool false, .sl 1 [] .no, .sl 3 [] .no, .sl 1 [] .no]) ⟨Wk.refl _, Wk.nil 0 1 .full, Wk.nil 0 3 .full, Wk.nil 0 1 .full, trivial⟩ rfl ?_
      refine Rt ?_
      refine hQ0 _ _ _ ?_
      try simp (maxSteps := 4000000) only [push_cast, Int.reduceToNat, Int.reduceLT, Int.reduceLE, Int.reduceAdd, Int.reduceSub, Int.reduceMul, Int.reduceNeg, Int.reduceEq, reduceCtorEq, Nat.reduceLeDiff, Nat.reduceLT, Nat.reduceEqDiff, Nat.reduceAdd, Nat.reduceMul, Nat.reduceSub, Int.cast_ofNat_Int, all_anyC, all_anyP, key_get, cell_get, kid_get, encC, List.length_map, encN, ncs, i64w, Hp.get_set, if_true, if_false, hg0_0, hga, hgb, hab]
      first
      | (have hz := halve_no (n := n) (.inl (by assumption)); rw [hz]; rfl)
      | (have hz := halve_no (n := n) (.inr (by omega)); rw [hz]; rfl)
    all_goals try (cases hc; done)
    all_goals try simp only [push_cast] at hc
    all_goals try (exfalso; omega)
    all_goals
     have hr : right n = true := by assumption
     have hz1 := size_lt hr hn
     refine Sk ?_
     refine WS.seq ?_
     refine R0 fun K hK => ?_
     try simp (maxSteps := 4000000) (disch := omega) only [push_cast, Nat.reduceLT, Nat.reduceEqDiff, Int.reduceToNat, Int.reduceLT, Int.reduceLE, Int.reduceAdd, Int.reduceSub, Int.reduceMul, Int.reduceNeg, Int.reduceEq, reduceCtorEq, Int.cast_ofNat_Int, Hp.get_set, all_anyC, all_anyP, key_get, cell_get, kid_get, encC, List.length_map, encN, ncs, i64w, Hp.get_set, if_true, if_false, hg0_0, hga, hgb, hab]
     (repeat refine And.intro (by first | omega | (simp; done) | (simp_all; done) | (simp_all; omega)) ?_)
     refine Qk hK [1, 2, 4, 5, 7] ?_
     clear hK K
     refine WS.seq ?_
     refine A1 [1, 2, 4, 5, 7, 8] (by decide) ?_
     refine WS.seq ?_
     refine Bk fun K0 hK0 => ?_
     refine WS_keep [1, 2, 4, 5, 7, 8] _ ?_
     refine Lp (fun m env σ' => ∃ (i f : Nat), m = f + 1 ∧ env = [(1, .pv (ncs n)), (2, .ptr ga 0), (4, .ptr gb 0), (5, .int .i64 n.keys.length), (7, .int .i64 (lastN n)), (8, .int .i64 i)] ∧ σ' = (Hp.empty.set ga (.cells [.bool false, .sl 0 [] .full, .sl 0 [] .full, .sl 0 [] .full])).set gb (.cells [.bool false, .sl 0 [] .full, .sl 0 [] .full, .sl 0 [] .full]) ∧ (adv n (lastN n) f i = adv n (lastN n) (lastN n) 1 ∧ 1 ≤ i ∧ i ≤ lastN n ∧ lastN n + 1 ≤ i + f)) ?_ ?_
     · refine ⟨_, 1, lastN n,  rfl, ?_, ?_, ?_⟩
       · (try simp (disch := omega) only [push_cast, Int.reduceToNat, Int.reduceLT, Int.reduceLE, Int.reduceAdd, Int.reduceSub, Int.reduceMul, Int.reduceNeg, Int.reduceEq, reduceCtorEq, Nat.reduceLeDiff, Nat.reduceLT, Nat.reduceEqDiff, Nat.reduceAdd, Nat.reduceMul, Nat.reduceSub, Int.cast_ofNat_Int, all_anyC, all_anyP, key_get, cell_get, kid_get, encC, List.length_map, encN, ncs, i64w, Hp.get_set, if_true, if_false, hg0_0, hga, hgb, hab]) <;> (first | done | rfl | (simp; done) | (simp; omega) | omega | (simp_all; done) | (simp_all; omega))
       · first | rfl | (try simp (disch := omega) only [push_cast, Int.reduceToNat, Int.reduceLT, Int.reduceLE, Int.reduceAdd, Int.reduceSub, Int.reduceMul, Int.reduceNeg, Int.reduceEq, reduceCtorEq, Nat.reduceLeDiff, Nat.reduceLT, Nat.reduceEqDiff, Nat.reduceAdd, Nat.reduceMul, Nat.reduceSub, Int.cast_ofNat_Int, all_anyC, all_anyP, key_get, cell_get, kid_get, encC, List.length_map, encN, ncs, i64w, Hp.get_set, if_true, if_false, hg0_0, hga, hgb, hab]) <;> (first | done | rfl | (simp; done) | (simp; omega) | omega | (simp_all; done) | (simp_all; omega))
       · exact ⟨rfl, by omega, by omega, by omega⟩
     intro m env σ' hJ M0 hM0
     obtain ⟨i, f, rfl, rfl, rfl, hadv, hi1, hi2, hf⟩ := hJ
     have hz2 := size_lt (right_some hr hi1 (by omega)) (sm_some hn i)
     refine WS.seq (WS.seq ?_)
     refine RD [32, 37] [52, 70] fo (by kernel_rfl) fun K hK => ?_
     try simp (maxSteps := 4000000) (disch := omega) only [push_cast, Nat.reduceLT, Nat.reduceEqDiff, Nat.reduceAdd, Nat.reduceMul, Nat.reduceSub, Nat.reduceLeDiff, Int.reduceToNat, Int.reduceLT, Int.reduceLE, Int.reduceAdd, Int.reduceSub, Int.reduceMul, Int.reduceNeg, Int.reduceEq, reduceCtorEq, Int.cast_ofNat_Int, Hp.get_set, all_anyC, all_anyP, key_get, cell_get, kid_get, encC, List.length_map, encN, ncs, i64w, Hp.get_set, if_true, if_false, hg0_0, hga, hgb, hab]
     (repeat refine And.intro (by first | omega | (simp; done) | (simp_all; done) | (simp_all; omega)) ?_)
     all_goals try (first | refine guardT 31 rfl (fun hc => ?_) (fun hc => ?_) | refine guardF 31 rfl (fun hc => ?_) (fun hc => ?_)) <;> try simp only [push_cast] at hc
     all_goals try (exfalso; omega)
     all_goals try simp (maxSteps := 4000000) (disch := omega) only [push_cast, Nat.reduceLT, Nat.reduceEqDiff, Nat.reduceAdd, Nat.reduceMul, Nat.reduceSub, Nat.reduceLeDiff, Int.reduceToNat, Int.reduceLT, Int.reduceLE, Int.reduceAdd, Int.reduceSub, Int.reduceMul, Int.reduceNeg, Int.reduceEq, reduceCtorEq, Int.cast_ofNat_Int, Hp.get_set, all_anyC, all_anyP, key_get, cell_get, kid_get, encC, List.length_map, encN, ncs, i64w, Hp.get_set, if_true, if_false, hg0_0, hga, hgb, hab]
     all_goals (repeat refine And.intro (by first | omega | (simp; done) | (simp_all; done) | (simp_all; omega)) ?_)
     all_goals try (
       refine callP (some_spec n i hn hr (by omega) (by omega)) rfl ?_)
     all_goals try simp (maxSteps := 4000000) (disch := omega) only [push_cast, Nat.reduceLT, Nat.reduceEqDiff, Nat.reduceAdd, Nat.reduceMul, Nat.reduceSub, Nat.reduceLeDiff, Int.reduceToNat, Int.reduceLT, Int.reduceLE, Int.reduceAdd, Int.reduceSub, Int.reduceMul, Int.reduceNeg, Int.reduceEq, reduceCtorEq, Int.cast_ofNat_Int, Hp.get_set, all_anyC, all_anyP, key_get, cell_get, kid_get, encC, List.length_map, encN, ncs, i64w, Hp.get_set, if_true, if_false, hg0_0, hga, hgb, hab]
     all_goals (repeat refine And.intro (by first | omega | (simp; done) | (simp_all; done) | (simp_all; omega)) ?_)
     all_goals try (
       refine callP (size_spec (someN n i) (right_some hr (by omega) (by omega)) (sm_some hn i)) rfl ?_)
     all_goals try simp (maxSteps := 4000000) (disch := omega) only [push_cast, Nat.reduceLT, Nat.reduceEqDiff, Nat.reduceAdd, Nat.reduceMul, Nat.reduceSub, Nat.reduceLeDiff, Int.reduceToNat, Int.reduceLT, Int.reduceLE, Int.reduceAdd, Int.reduceSub, Int.reduceMul, Int.reduceNeg, Int.reduceEq, reduceCtorEq, Int.cast_ofNat_Int, Hp.get_set, all_anyC, all_anyP, key_get, cell_get, kid_get, encC, List.length_map, encN, ncs, i64w, Hp.get_set, if_true, if_false, hg0_0, hga, hgb, hab]
     all_goals (repeat refine And.intro (by first | omega | (simp; done) | (simp_all; done) | (simp_all; omega)) ?_)
     all_goals try (
       refine callP (size_spec n hr hn) rfl ?_)
     all_goals try simp (maxSteps := 4000000) (disch := omega) only [push_cast, Nat.reduceLT, Nat.reduceEqDiff, Nat.reduceAdd, Nat.reduceMul, Nat.reduceSub, Nat.reduceLeDiff, Int.reduceToNat, Int.reduceLT, Int.reduceLE, Int.reduceAdd, Int.reduceSub, Int.reduceMul, Int.reduceNeg, Int.reduceEq, reduceCtorEq, Int.cast_ofNat_Int, Hp.get_set, all_anyC, all_anyP, key_get, cell_get, kid_get, encC, List.length_map, encN, ncs, i64w, Hp.get_set, if_true, if_false, hg0_0, hga, hgb, hab]
     all_goals (repeat refine And.intro (by first | omega | (simp; done) | (simp_all; done) | (simp_all; omega)) ?_)
     all_goals
      refine Qk hK [1, 2, 4, 5, 7, 8, 40] ?_
      clear hK K
      refine CI rfl (fun hc => ?_) (fun hc => ?_)
      rotate_left
      ·
       all_goals try (cases hc; done)
       all_goals try simp only [push_cast] at hc
       all_goals try (exfalso; omega)
       all_goals
        have hns : ¬ (i < lastN n ∧ 2 * sizeN (someN n i) < sizeN n) := by omega
        have hcut := cut_at hns hadv
        refine Ex ?_
        simp only [push_cast, WS, Nat.reduceEqDiff]
        refine hK0 _ _ ?_
        clear hK0
        try clear K0
        refine WS_keep [1, 2, 4, 5, 8] _ ?_
        refine WS.seq (WS.seq ?_)
        refine R0 fun K hK => ?_
        try simp (maxSteps := 4000000) (disch := omega) only [push_cast, Nat.reduceLT, Nat.reduceEqDiff, Nat.reduceAdd, Nat.reduceMul, Nat.reduceSub, Nat.reduceLeDiff, Int.reduceToNat, Int.reduceLT, Int.reduceLE, Int.reduceAdd, Int.reduceSub, Int.reduceMul, Int.reduceNeg, Int.reduceEq, reduceCtorEq, Int.cast_ofNat_Int, Hp.get_set, all_anyC, all_anyP, key_get, cell_get, kid_get, encC, List.length_map, encN, ncs, i64w, Hp.get_set, if_true, if_false, hg0_0, hga, hgb, hab]
        (repeat refine And.intro (by first | omega | (simp; done) | (simp_all; done) | (simp_all; omega)) ?_)
        all_goals try (first | refine guardT 45 rfl (fun hc => ?_) (fun hc => ?_) | refine guardF 45 rfl (fun hc => ?_) (fun hc => ?_)) <;> try simp only [push_cast] at hc
        all_goals try (exfalso; omega)
        all_goals try simp (maxSteps := 4000000) (disch := omega) only [push_cast, Nat.reduceLT, Nat.reduceEqDiff, Nat.reduceAdd, Nat.reduceMul, Nat.reduceSub, Nat.reduceLeDiff, Int.reduceToNat, Int.reduceLT, Int.reduceLE, Int.reduceAdd, Int.reduceSub, Int.reduceMul, Int.reduceNeg, Int.reduceEq, reduceCtorEq, Int.cast_ofNat_Int, Hp.get_set, all_anyC, all_anyP, key_get, cell_get, kid_get, encC, List.length_map, encN, ncs, i64w, Hp.get_set, if_true, if_false, hg0_0, hga, hgb, hab]
        all_goals (repeat refine And.intro (by first | omega | (simp; done) | (simp_all; done) | (simp_all; omega)) ?_)
        all_goals try (
          refine callP (some_spec n i hn hr (by omega) (by omega)) rfl ?_)
        all_goals try simp (maxSteps := 4000000) (disch := omega) only [push_cast, Nat.reduceLT, Nat.reduceEqDiff, Nat.reduceAdd, Nat.reduceMul, Nat.reduceSub, Nat.reduceLeDiff, Int.reduceToNat, Int.reduceLT, Int.reduceLE, Int.reduceAdd, Int.reduceSub, Int.reduceMul, Int.reduceNeg, Int.reduceEq, reduceCtorEq, Int.cast_ofNat_Int, Hp.get_set, all_anyC, all_anyP, key_get, cell_get, kid_get, encC, List.length_map, encN, ncs, i64w, Hp.get_set, if_true, if_false, hg0_0, hga, hgb, hab]
        all_goals (repeat refine And.intro (by first | omega | (simp; done) | (simp_all; done) | (simp_all; omega)) ?_)
        all_goals try (
          refine callP (size_spec (someN n i) (right_some hr (by omega) (by omega)) (sm_some hn i)) rfl ?_)
        all_goals try simp (maxSteps := 4000000) (disch := omega) only [push_cast, Nat.reduceLT, Nat.reduceEqDiff, Nat.reduceAdd, Nat.reduceMul, Nat.reduceSub, Nat.reduceLeDiff, Int.reduceToNat, Int.reduceLT, Int.reduceLE, Int.reduceAdd, Int.reduceSub, Int.reduceMul, Int.reduceNeg, Int.reduceEq, reduceCtorEq, Int.cast_ofNat_Int, Hp.get_set, all_anyC, all_anyP, key_get, cell_get, kid_get, encC, List.length_map, encN, ncs, i64w, Hp.get_set, if_true, if_false, hg0_0, hga, hgb, hab]
        all_goals (repeat refine And.intro (by first | omega | (simp; done) | (simp_all; done) | (simp_all; omega)) ?_)
        all_goals
         refine Qk hK [1, 2, 4, 5, 8, 51] ?_
         clear hK K
         refine CI rfl (fun hc => ?_) (fun hc => ?_)
         ·
          all_goals try (cases hc; done)
          all_goals try simp only [push_cast] at hc
          all_goals try (exfalso; omega)
          all_goals
           rw [if_pos (by omega)] at hcut
           obtain ⟨j, hj⟩ : ∃ j, j = i - 1 := ⟨_, rfl⟩
           rw [← hj] at hcut
           have him : ((i : Int) - 1) = (j : Int) := by omega
           refine R0 fun K hK => ?_
           try simp (maxSteps := 4000000) (disch := omega) only [push_cast, Nat.reduceLT, Nat.reduceEqDiff, Int.reduceToNat, Int.reduceLT, Int.reduceLE, Int.reduceAdd, Int.reduceSub, Int.reduceMul, Int.reduceNeg, Int.reduceEq, reduceCtorEq, Int.cast_ofNat_Int, Hp.get_set, all_anyC, all_anyP, key_get, cell_get, kid_get, encC, List.length_map, encN, ncs, i64w, Hp.get_set, if_true, if_false, hg0_0, hga, hgb, hab, him]
           refine Qk hK [1, 2, 4, 5, 8] ?_
           clear hK K
           refine WS.seq (WS.seq ?_)
           refine R0 fun K hK => ?_
           try simp (maxSteps := 4000000) (disch := omega) only [push_cast, Nat.reduceLT, Nat.reduceEqDiff, Nat.reduceAdd, Nat.reduceMul, Nat.reduceSub, Nat.reduceLeDiff, Hp.get_set, all_anyC, all_anyP, key_get, cell_get, kid_get, encC, List.length_map, encN, ncs, i64w, Hp.get_set, if_true, if_false, hg0_0, hga, hgb, hab, him]
           (repeat refine And.intro (by first | omega | (simp; done) | (simp_all; done) | (simp_all; omega)) ?_)
           refine Qk hK [1, 2, 4, 5, 8, 55] ?_
           clear hK K
           refine CI rfl (fun hc => ?_) (fun hc => ?_)
           ·
            all_goals try (cases hc; done)
            all_goals try simp only [push_cast] at hc
            all_goals try (exfalso; omega)
            all_goals
             refine WS.seq ?_
             refine RD [56, 60, 63, 64] [71] fo (by kernel_rfl) fun K hK => ?_
             try simp (maxSteps := 4000000) (disch := omega) only [push_cast, Nat.reduceLT, Nat.reduceEqDiff, Nat.reduceAdd, Nat.reduceMul, Nat.reduceSub, Nat.reduceLeDiff, Int.reduceToNat, Int.reduceLT, Int.reduceLE, Int.reduceAdd, Int.reduceSub, Int.reduceMul, Int.reduceNeg, Int.reduceEq, reduceCtorEq, Int.cast_ofNat_Int, Hp.get_set, all_anyC, all_anyP, key_get, cell_get, kid_get, encC, List.length_map, encN, ncs, i64w, Hp.get_set, if_true, if_false, hg0_0, hga, hgb, hab, him]
             (repeat refine And.intro (by first | omega | (simp; done) | (simp_all; done) | (simp_all; omega)) ?_)
             refine callP (leafPart_spec n 0 _ hn (by omega) (by omega) (by have := shape_leaf (right_shape hr) hc; omega)) rfl ?_
             try simp (maxSteps := 4000000) (disch := omega) only [push_cast, Nat.reduceLT, Nat.reduceEqDiff, Nat.reduceAdd, Nat.reduceMul, Nat.reduceSub, Nat.reduceLeDiff, Int.reduceToNat, Int.reduceLT, Int.reduceLE, Int.reduceAdd, Int.reduceSub, Int.reduceMul, Int.reduceNeg, Int.reduceEq, reduceCtorEq, Int.cast_ofNat_Int, Hp.get_set, all_anyC, all_anyP, key_get, cell_get, kid_get, encC, List.length_map, encN, ncs, i64w, Hp.get_set, if_true, if_false, hg0_0, hga, hgb, hab, him]
             (repeat refine And.intro (by first | omega | (simp; done) | (simp_all; done) | (simp_all; omega)) ?_)
             refine callP (leafPart_spec n _ n.keys.length hn (by omega) (by omega) (by have := shape_leaf (right_shape hr) hc; omega)) rfl ?_
             try simp (maxSteps := 4000000) (disch := omega) only [push_cast, Nat.reduceLT, Nat.reduceEqDiff, Nat.reduceAdd, Nat.reduceMul, Nat.reduceSub, Nat.reduceLeDiff, Int.reduceToNat, Int.reduceLT, Int.reduceLE, Int.reduceAdd, Int.reduceSub, Int.reduceMul, Int.reduceNeg, Int.reduceEq, reduceCtorEq, Int.cast_ofNat_Int, Hp.get_set, all_anyC, all_anyP, key_get, cell_get, kid_get, encC, List.length_map, encN, ncs, i64w, Hp.get_set, if_true, if_false, hg0_0, hga, hgb, hab, him]
             (repeat refine And.intro (by first | omega | (simp; done) | (simp_all; done) | (simp_all; omega)) ?_)
             refine Qk hK [2, 3, 4] ?_
             clear hK K
             refine Rt ?_
             refine hQ0 _ _ _ ?_
             try simp (maxSteps := 4000000) only [push_cast, Int.reduceToNat, Int.reduceLT, Int.reduceLE, Int.reduceAdd, Int.reduceSub, Int.reduceMul, Int.reduceNeg, Int.reduceEq, reduceCtorEq, Nat.reduceLeDiff, Nat.reduceLT, Nat.reduceEqDiff, Nat.reduceAdd, Nat.reduceMul, Nat.reduceSub, Int.cast_ofNat_Int, all_anyC, all_anyP, key_get, cell_get, kid_get, encC, List.length_map, encN, ncs, i64w, Hp.get_set, if_true, if_false, hg0_0, hga, hgb, hab, him]
             rw [halve_leaf hr (by omega) hc hcut]
           all_goals try (cases hc; done)
           all_goals try simp only [push_cast] at hc
           all_goals try (exfalso; omega)
           all_goals
            refine Sk ?_
            refine WS.seq ?_
            refine RD [68, 72, 75, 76] [72] fo (by kernel_rfl) fun K hK => ?_
            try simp (maxSteps := 4000000) (disch := omega) only [push_cast, Nat.reduceLT, Nat.reduceEqDiff, Nat.reduceAdd, Nat.reduceMul, Nat.reduceSub, Nat.reduceLeDiff, Int.reduceToNat, Int.reduceLT, Int.reduceLE, Int.reduceAdd, Int.reduceSub, Int.reduceMul, Int.reduceNeg, Int.reduceEq, reduceCtorEq, Int.cast_ofNat_Int, Hp.get_set, all_anyC, all_anyP, key_get, cell_get, kid_get, encC, List.length_map, encN, ncs, i64w, Hp.get_set, if_true, if_false, hg0_0, hga, hgb, hab, him]
            (repeat refine And.intro (by first | omega | (simp; done) | (simp_all; done) | (simp_all; omega)) ?_)
            refine callP (innerPart_spec n 0 _ hn (by omega) (by omega) (by have := shape_inner (right_shape hr) hc; omega)) rfl ?_
            try simp (maxSteps := 4000000) (disch := omega) only [push_cast, Nat.reduceLT, Nat.reduceEqDiff, Nat.reduceAdd, Nat.reduceMul, Nat.reduceSub, Nat.reduceLeDiff, Int.reduceToNat, Int.reduceLT, Int.reduceLE, Int.reduceAdd, Int.reduceSub, Int.reduceMul, Int.reduceNeg, Int.reduceEq, reduceCtorEq, Int.cast_ofNat_Int, Hp.get_set, all_anyC, all_anyP, key_get, cell_get, kid_get, encC, List.length_map, encN, ncs, i64w, Hp.get_set, if_true, if_false, hg0_0, hga, hgb, hab, him]
            (repeat refine And.intro (by first | omega | (simp; done) | (simp_all; done) | (simp_all; omega)) ?_)
            first
            | refine callP (innerPart_spec n (j + 1) n.keys.length hn (by omega) (by omega) (by have := shape_inner (right_shape hr) hc; omega)) rfl ?_
            | refine callP (innerPart_spec n (i + 1) n.keys.length hn (by omega) (by omega) (by have := shape_inner (right_shape hr) hc; omega)) rfl ?_
            try simp (maxSteps := 4000000) (disch := omega) only [push_cast, Nat.reduceLT, Nat.reduceEqDiff, Nat.reduceAdd, Nat.reduceMul, Nat.reduceSub, Nat.reduceLeDiff, Int.reduceToNat, Int.reduceLT, Int.reduceLE, Int.reduceAdd, Int.reduceSub, Int.reduceMul, Int.reduceNeg, Int.reduceEq, reduceCtorEq, Int.cast_ofNat_Int, Hp.get_set, all_anyC, all_anyP, key_get, cell_get, kid_get, encC, List.length_map, encN, ncs, i64w, Hp.get_set, if_true, if_false, hg0_0, hga, hgb, hab, him]
            (repeat refine And.intro (by first | omega | (simp; done) | (simp_all; done) | (simp_all; omega)) ?_)
            refine Qk hK [2, 3, 4] ?_
            clear hK K
            refine Rt ?_
            refine hQ0 _ _ _ ?_
            try simp (maxSteps := 4000000) only [push_cast, Int.reduceToNat, Int.reduceLT, Int.reduceLE, Int.reduceAdd, Int.reduceSub, Int.reduceMul, Int.reduceNeg, Int.reduceEq, reduceCtorEq, Nat.reduceLeDiff, Nat.reduceLT, Nat.reduceEqDiff, Nat.reduceAdd, Nat.reduceMul, Nat.reduceSub, Int.cast_ofNat_Int, all_anyC, all_anyP, key_get, cell_get, kid_get, encC, List.length_map, encN, ncs, i64w, Hp.get_set, if_true, if_false, hg0_0, hga, hgb, hab, him]
            rw [halve_inner hr (by omega) hc hcut]
         ·
          all_goals try (cases hc; done)
          all_goals try simp only [push_cast] at hc
          all_goals try (exfalso; omega)
          all_goals
           rw [if_neg (by omega)] at hcut
           refine Sk ?_
           refine WS.seq (WS.seq ?_)
           refine R0 fun K hK => ?_
           try simp (maxSteps := 4000000) (disch := omega) only [push_cast, Nat.reduceLT, Nat.reduceEqDiff, Nat.reduceAdd, Nat.reduceMul, Nat.reduceSub, Nat.reduceLeDiff, Hp.get_set, all_anyC, all_anyP, key_get, cell_get, kid_get, encC, List.length_map, encN, ncs, i64w, Hp.get_set, if_true, if_false, hg0_0, hga, hgb, hab]
           (repeat refine And.intro (by first | omega | (simp; done) | (simp_all; done) | (simp_all; omega)) ?_)
           refine Qk hK [1, 2, 4, 5, 8, 55] ?_
           clear hK K
           refine CI rfl (fun hc => ?_) (fun hc => ?_)
           ·
            all_goals try (cases hc; done)
            all_goals try simp only [push_cast] at hc
            all_goals try (exfalso; omega)
            all_goals
             refine WS.seq ?_
             refine RD [56, 60, 63, 64] [71] fo (by kernel_rfl) fun K hK => ?_
             try simp (maxSteps := 4000000) (disch := omega) only [push_cast, Nat.reduceLT, Nat.reduceEqDiff, Nat.reduceAdd, Nat.reduceMul, Nat.reduceSub, Nat.reduceLeDiff, Int.reduceToNat, Int.reduceLT, Int.reduceLE, Int.reduceAdd, Int.reduceSub, Int.reduceMul, Int.reduceNeg, Int.reduceEq, reduceCtorEq, Int.cast_ofNat_Int, Hp.get_set, all_anyC, all_anyP, key_get, cell_get, kid_get, encC, List.length_map, encN, ncs, i64w, Hp.get_set, if_true, if_false, hg0_0, hga, hgb, hab]
             (repeat refine And.intro (by first | omega | (simp; done) | (simp_all; done) | (simp_all; omega)) ?_)
             refine callP (leafPart_spec n 0 _ hn (by omega) (by omega) (by have := shape_leaf (right_shape hr) hc; omega)) rfl ?_
             try simp (maxSteps := 4000000) (disch := omega) only [push_cast, Nat.reduceLT, Nat.reduceEqDiff, Nat.reduceAdd, Nat.reduceMul, Nat.reduceSub, Nat.reduceLeDiff, Int.reduceToNat, Int.reduceLT, Int.reduceLE, Int.reduceAdd, Int.reduceSub, Int.reduceMul, Int.reduceNeg, Int.reduceEq, reduceCtorEq, Int.cast_ofNat_Int, Hp.get_set, all_anyC, all_anyP, key_get, cell_get, kid_get, encC, List.length_map, encN, ncs, i64w, Hp.get_set, if_true, if_false, hg0_0, hga, hgb, hab]
             (repeat refine And.intro (by first | omega | (simp; done) | (simp_all; done) | (simp_all; omega)) ?_)
             refine callP (leafPart_spec n _ n.keys.length hn (by omega) (by omega) (by have := shape_leaf (right_shape hr) hc; omega)) rfl ?_
             try simp (maxSteps := 4000000) (disch := omega) only [push_cast, Nat.reduceLT, Nat.reduceEqDiff, Nat.reduceAdd, Nat.reduceMul, Nat.reduceSub, Nat.reduceLeDiff, Int.reduceToNat, Int.reduceLT, Int.reduceLE, Int.reduceAdd, Int.reduceSub, Int.reduceMul, Int.reduceNeg, Int.reduceEq, reduceCtorEq, Int.cast_ofNat_Int, Hp.get_set, all_anyC, all_anyP, key_get, cell_get, kid_get, encC, List.length_map, encN, ncs, i64w, Hp.get_set, if_true, if_false, hg0_0, hga, hgb, hab]
             (repeat refine And.intro (by first | omega | (simp; done) | (simp_all; done) | (simp_all; omega)) ?_)
             refine Qk hK [2, 3, 4] ?_
             clear hK K
             refine Rt ?_
             refine hQ0 _ _ _ ?_
             try simp (maxSteps := 4000000) only [push_cast, Int.reduceToNat, Int.reduceLT, Int.reduceLE, Int.reduceAdd, Int.reduceSub, Int.reduceMul, Int.reduceNeg, Int.reduceEq, reduceCtorEq, Nat.reduceLeDiff, Nat.reduceLT, Nat.reduceEqDiff, Nat.reduceAdd, Nat.reduceMul, Nat.reduceSub, Int.cast_ofNat_Int, all_anyC, all_anyP, key_get, cell_get, kid_get, encC, List.length_map, encN, ncs, i64w, Hp.get_set, if_true, if_false, hg0_0, hga, hgb, hab]
             rw [halve_leaf hr (by omega) hc hcut]
           all_goals try (cases hc; done)
           all_goals try simp only [push_cast] at hc
           all_goals try (exfalso; omega)
           all_goals
            refine Sk ?_
            refine WS.seq ?_
            refine RD [68, 72, 75, 76] [72] fo (by kernel_rfl) fun K hK => ?_
            try simp (maxSteps := 4000000) (disch := omega) only [push_cast, Nat.reduceLT, Nat.reduceEqDiff, Nat.reduceAdd, Nat.reduceMul, Nat.reduceSub, Nat.reduceLeDiff, Int.reduceToNat, Int.reduceLT, Int.reduceLE, Int.reduceAdd, Int.reduceSub, Int.reduceMul, Int.reduceNeg, Int.reduceEq, reduceCtorEq, Int.cast_ofNat_Int, Hp.get_set, all_anyC, all_anyP, key_get, cell_get, kid_get, encC, List.length_map, encN, ncs, i64w, Hp.get_set, if_true, if_false, hg0_0, hga, hgb, hab]
            (repeat refine And.intro (by first | omega | (simp; done) | (simp_all; done) | (simp_all; omega)) ?_)
            refine callP (innerPart_spec n 0 _ hn (by omega) (by omega) (by have := shape_inner (right_shape hr) hc; omega)) rfl ?_
            try simp (maxSteps := 4000000) (disch := omega) only [push_cast, Nat.reduceLT, Nat.reduceEqDiff, Nat.reduceAdd, Nat.reduceMul, Nat.reduceSub, Nat.reduceLeDiff, Int.reduceToNat, Int.reduceLT, Int.reduceLE, Int.reduceAdd, Int.reduceSub, Int.reduceMul, Int.reduceNeg, Int.reduceEq, reduceCtorEq, Int.cast_ofNat_Int, Hp.get_set, all_anyC, all_anyP, key_get, cell_get, kid_get, encC, List.length_map, encN, ncs, i64w, Hp.get_set, if_true, if_false, hg0_0, hga, hgb, hab]
            (repeat refine And.intro (by first | omega | (simp; done) | (simp_all; done) | (simp_all; omega)) ?_)
            first
            | refine callP (innerPart_spec n (j + 1) n.keys.length hn (by omega) (by omega) (by have := shape_inner (right_shape hr) hc; omega)) rfl ?_
            | refine callP (innerPart_spec n (i + 1) n.keys.length hn (by omega) (by omega) (by have := shape_inner (right_shape hr) hc; omega)) rfl ?_
            try simp (maxSteps := 4000000) (disch := omega) only [push_cast, Nat.reduceLT, Nat.reduceEqDiff, Nat.reduceAdd, Nat.reduceMul, Nat.reduceSub, Nat.reduceLeDiff, Int.reduceToNat, Int.reduceLT, Int.reduceLE, Int.reduceAdd, Int.reduceSub, Int.reduceMul, Int.reduceNeg, Int.reduceEq, reduceCtorEq, Int.cast_ofNat_Int, Hp.get_set, all_anyC, all_anyP, key_get, cell_get, kid_get, encC, List.length_map, encN, ncs, i64w, Hp.get_set, if_true, if_false, hg0_0, hga, hgb, hab]
            (repeat refine And.intro (by first | omega | (simp; done) | (simp_all; done) | (simp_all; omega)) ?_)
            refine Qk hK [2, 3, 4] ?_
            clear hK K
            refine Rt ?_
            refine hQ0 _ _ _ ?_
            try simp (maxSteps := 4000000) only [push_cast, Int.reduceToNat, Int.reduceLT, Int.reduceLE, Int.reduceAdd, Int.reduceSub, Int.reduceMul, Int.reduceNeg, Int.reduceEq, reduceCtorEq, Nat.reduceLeDiff, Nat.reduceLT, Nat.reduceEqDiff, Nat.reduceAdd, Nat.reduceMul, Nat.reduceSub, Int.cast_ofNat_Int, all_anyC, all_anyP, key_get, cell_get, kid_get, encC, List.length_map, encN, ncs, i64w, Hp.get_set, if_true, if_false, hg0_0, hga, hgb, hab]
            rw [halve_inner hr (by omega) hc hcut]
      all_goals try (cases hc; done)
      all_goals try simp only [push_cast] at hc
      all_goals try (exfalso; omega)
      all_goals
       refine Sk ?_
       refine Bk fun K1 hK1 => ?_
       refine R0 fun K hK => ?_
       try simp (maxSteps := 4000000) (disch := omega) only [push_cast, Nat.reduceLT, Nat.reduceEqDiff, Int.reduceToNat, Int.reduceLT, Int.reduceLE, Int.reduceAdd, Int.reduceSub, Int.reduceMul, Int.reduceNeg, Int.reduceEq, reduceCtorEq, Int.cast_ofNat_Int, Hp.get_set, all_anyC, all_anyP, key_get, cell_get, kid_get, encC, List.length_map, encN, ncs, i64w, Hp.get_set, if_true, if_false, hg0_0, hga, hgb, hab]
       (repeat refine And.intro (by first | omega | (simp; done) | (simp_all; done) | (simp_all; omega)) ?_)
       refine Qk hK [1, 2, 4, 5, 7, 8] ?_
       clear hK K
       simp only [push_cast, WS, Nat.reduceEqDiff]
       refine hK1 _ _ ?_
       clear hK1
       try clear K1
       refine Ag (hM0 _ _ ?_)
       refine ⟨_, ?_, i + 1, f - 1,  rfl, ?_, ?_, ?_⟩
       · first | omega | (simp; done) | (simp_all; done) | (simp_all; omega)
       · (try simp (disch := omega) only [push_cast, Int.reduceToNat, Int.reduceLT, Int.reduceLE, Int.reduceAdd, Int.reduceSub, Int.reduceMul, Int.reduceNeg, Int.reduceEq, reduceCtorEq, Nat.reduceLeDiff, Nat.reduceLT, Nat.reduceEqDiff, Nat.reduceAdd, Nat.reduceMul, Nat.reduceSub, Int.cast_ofNat_Int, all_anyC, all_anyP, key_get, cell_get, kid_get, encC, List.length_map, encN, ncs, i64w, Hp.get_set, if_true, if_false, hg0_0, hga, hgb, hab]) <;> (first | done | rfl | (simp; done) | (simp; omega) | omega | (simp_all; done) | (simp_all; omega))
       · first | rfl | (try simp (disch := omega) only [push_cast, Int.reduceToNat, Int.reduceLT, Int.reduceLE, Int.reduceAdd, Int.reduceSub, Int.reduceMul, Int.reduceNeg, Int.reduceEq, reduceCtorEq, Nat.reduceLeDiff, Nat.reduceLT, Nat.reduceEqDiff, Nat.reduceAdd, Nat.reduceMul, Nat.reduceSub, Int.cast_ofNat_Int, all_anyC, all_anyP, key_get, cell_get, kid_get, encC, List.length_map, encN, ncs, i64w, Hp.get_set, if_true, if_false, hg0_0, hga, hgb, hab]) <;> (first | done | rfl | (simp; done) | (simp; omega) | omega | (simp_all; done) | (simp_all; omega))
       · exact ⟨adv_down ⟨by omega, by omega⟩ hf hadv, by omega, by omega, by omega⟩
end Go.Vm.Try
