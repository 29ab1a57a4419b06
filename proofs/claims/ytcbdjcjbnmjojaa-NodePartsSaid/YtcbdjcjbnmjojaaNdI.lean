/- Walks of functions of the program, and laws of what they compute. -/
import Derived.Test.YtcbdjcjbnmjojaaNdH
import Derived.Test.YtcbdjcjbnmjojaaNdT1
set_option linter.unusedSimpArgs false
set_option linter.unusedVariables false
set_option maxHeartbeats 4000000
set_option maxRecDepth 20000
namespace Go.Vm.Try
open Go.Proofs Go.Vm.Node
theorem Wk.untag' {sz : Nat} {es es' : List V} {tag : Tag} (h : es = es') : Wk (.sl sz es tag) (.sl sz es' .no) := by subst h; exact Wk.untag sz es tag
theorem Sm.hv {n A : Nd} (h : Sm n) (hl : A.keys.length ≤ n.keys.length ∧ A.cells.length ≤ n.cells.length ∧ A.kids.length ≤ n.kids.length) : Sm A := ⟨by have := h.a; omega, by have := h.b; omega, by have := h.c; omega⟩
theorem sm_less {n : Nd} (h : Sm n) (k : Nat) : Sm (lessN n k) := by
  obtain ⟨h1, h2, h3⟩ := h
  exact ⟨by simp [lessN]; omega, by simp [lessN]; omega, by simp [lessN]⟩
theorem heap2 {σ : Hp} {g h : Nat} {a b c d : Blk} : (((σ.set g a).set h b).set g c).set h d = (σ.set g c).set h d := by
  apply Hp.ext'; intro i; simp only [Hp.get_set]; split
  · rfl
  · split <;> rfl
theorem map3 {α : Type} {f : α → V} {a c l : List α} {k : α} (h : a ++ [k] ++ c = l) : a.map f ++ [f k] ++ c.map f = l.map f := by subst h; simp
theorem er_map {α : Type} {f : α → V} (l : List α) (k : Nat) : List.take k (l.map f) ++ List.drop (k + 1) (List.take l.length (l.map f)) = (l.take k ++ l.drop (k + 1)).map f := by
  rw [List.take_of_length_le (l := l.map f) (i := l.length) (by simp)]; simp
theorem map2 {α : Type} {f : α → V} {a c l : List α} (h : a ++ c = l) : a.map f ++ c.map f = l.map f := by subst h; simp

theorem parts_spec (n : Nd) (at_ : Int) (h1 : n.keys.length ≤ 140737488351232) (h2 : n.cells.length ≤ 140737488351232) (h3 : n.kids.length ≤ 140737488351232) : PSpec Go.Proofs.Try.prog 6 [encN n, .int .i64 at_] (.bool true) := by
 refine introP (n := 160) (rs := [.tmp 4]) (fn := Go.Proofs.Try.f6) (by first | exact Go.Proofs.Try.func6 | rfl) rfl (by kernel_rfl) rfl rfl (Nat.le_of_ble_eq_true rfl) (fun Q0 hQ0 => ?_)
 refine WS.seq ?_
 refine R0 fun K hK => ?_
 try simp (maxSteps := 4000000) (disch := omega) only [push_cast, Nat.reduceLT, Nat.reduceEqDiff, Hp.get_set, all_anyC, all_anyP, key_get, cell_get, kid_get, encC, List.length_map, encN, ncs, Hp.set_set, Hp.get_set, if_true, if_false, List.append_eq_nil_iff]
 (repeat refine And.intro (by first | (unfold Go.Vm.room; and_intros <;> (try simp only [List.length_map, List.length_append, List.length_cons, List.length_nil, List.length_take, List.length_drop]) <;> omega) | omega | (simp; done) | (simp_all; done) | (simp_all; omega)) ?_)
 refine fun g0_0 hg0_0 => ?_
 try simp only [Hp.set_none, Hp.join_none_iff] at hg0_0
 try simp (maxSteps := 4000000) (disch := omega) only [push_cast, Nat.reduceLT, Nat.reduceEqDiff, Hp.get_set, all_anyC, all_anyP, key_get, cell_get, kid_get, encC, List.length_map, encN, ncs, Hp.set_set, Hp.get_set, if_true, if_false, List.append_eq_nil_iff, hg0_0]
 (repeat refine And.intro (by first | (unfold Go.Vm.room; and_intros <;> (try simp only [List.length_map, List.length_append, List.length_cons, List.length_nil, List.length_take, List.length_drop]) <;> omega) | omega | (simp; done) | (simp_all; done) | (simp_all; omega)) ?_)
 refine Qk hK [1, 2] ?_
 clear hK K
 refine S_frz 2 rfl rfl ?_
 refine WS.seq (WS.seq ?_)
 refine R0 fun K hK => ?_
 try simp (maxSteps := 4000000) (disch := omega) only [push_cast, Nat.reduceLT, Nat.reduceEqDiff, Nat.reduceAdd, Nat.reduceMul, Nat.reduceSub, Nat.reduceLeDiff, Int.reduceToNat, Int.reduceLT, Int.reduceLE, Int.reduceAdd, Int.reduceSub, Int.reduceMul, Int.reduceNeg, Int.reduceEq, reduceCtorEq, Int.cast_ofNat_Int, Hp.get_set, all_anyC, all_anyP, key_get, cell_get, kid_get, encC, List.length_map, encN, ncs, Hp.set_set, Hp.get_set, if_true, if_false, List.append_eq_nil_iff, hg0_0]
 (repeat refine And.intro (by first | (unfold Go.Vm.room; and_intros <;> (try simp only [List.length_map, List.length_append, List.length_cons, List.length_nil, List.length_take, List.length_drop]) <;> omega) | omega | (simp; done) | (simp_all; done) | (simp_all; omega)) ?_)
 refine callP (great_spec n h1 h2 h3) rfl ?_
 try simp (maxSteps := 4000000) (disch := omega) only [push_cast, Nat.reduceLT, Nat.reduceEqDiff, Nat.reduceAdd, Nat.reduceMul, Nat.reduceSub, Nat.reduceLeDiff, Int.reduceToNat, Int.reduceLT, Int.reduceLE, Int.reduceAdd, Int.reduceSub, Int.reduceMul, Int.reduceNeg, Int.reduceEq, reduceCtorEq, Int.cast_ofNat_Int, Hp.get_set, all_anyC, all_anyP, key_get, cell_get, kid_get, encC, List.length_map, encN, ncs, Hp.set_set, Hp.get_set, if_true, if_false, List.append_eq_nil_iff, hg0_0]
 (repeat refine And.intro (by first | (unfold Go.Vm.room; and_intros <;> (try simp only [List.length_map, List.length_append, List.length_cons, List.length_nil, List.length_take, List.length_drop]) <;> omega) | omega | (simp; done) | (simp_all; done) | (simp_all; omega)) ?_)
 all_goals try (first | refine guardT 13 rfl (fun hc => ?_) (fun hc => ?_) | refine guardF 13 rfl (fun hc => ?_) (fun hc => ?_)) <;> try simp only [push_cast] at hc
 all_goals try (exfalso; omega)
 all_goals try simp (maxSteps := 4000000) (disch := omega) only [push_cast, Nat.reduceLT, Nat.reduceEqDiff, Nat.reduceAdd, Nat.reduceMul, Nat.reduceSub, Nat.reduceLeDiff, Int.reduceToNat, Int.reduceLT, Int.reduceLE, Int.reduceAdd, Int.reduceSub, Int.reduceMul, Int.reduceNeg, Int.reduceEq, reduceCtorEq, Int.cast_ofNat_Int, Hp.get_set, all_anyC, all_anyP, key_get, cell_get, kid_get, encC, List.length_map, encN, ncs, Hp.set_set, Hp.get_set, if_true, if_false, List.append_eq_nil_iff, hg0_0]
 all_goals (repeat refine And.intro (by first | (unfold Go.Vm.room; and_intros <;> (try simp only [List.length_map, List.length_append, List.length_cons, List.length_nil, List.length_take, List.length_drop]) <;> omega) | omega | (simp; done) | (simp_all; done) | (simp_all; omega)) ?_)
 all_goals try (
   refine callP (right_spec n (great_sm (n := n) (by assumption)).1) rfl ?_)
 all_goals try simp (maxSteps := 4000000) (disch := omega) only [push_cast, Nat.reduceLT, Nat.reduceEqDiff, Nat.reduceAdd, Nat.reduceMul, Nat.reduceSub, Nat.reduceLeDiff, Int.reduceToNat, Int.reduceLT, Int.reduceLE, Int.reduceAdd, Int.reduceSub, Int.reduceMul, Int.reduceNeg, Int.reduceEq, reduceCtorEq, Int.cast_ofNat_Int, Hp.get_set, all_anyC, all_anyP, key_get, cell_get, kid_get, encC, List.length_map, encN, ncs, Hp.set_set, Hp.get_set, if_true, if_false, List.append_eq_nil_iff, hg0_0]
 all_goals (repeat refine And.intro (by first | (unfold Go.Vm.room; and_intros <;> (try simp only [List.length_map, List.length_append, List.length_cons, List.length_nil, List.length_take, List.length_drop]) <;> omega) | omega | (simp; done) | (simp_all; done) | (simp_all; omega)) ?_)
 all_goals
  refine Qk hK [1, 2, 17] ?_
  clear hK K
  refine CI rfl (fun hc => ?_) (fun hc => ?_)
  ·
   all_goals try (cases hc; done)
   all_goals try simp only [push_cast] at hc
   all_goals try (exfalso; omega)
   all_goals
    refine WS.seq ?_
    refine R0 fun K hK => ?_
    try simp (maxSteps := 4000000) (disch := omega) only [push_cast, Nat.reduceLT, Nat.reduceEqDiff, Hp.get_set, all_anyC, all_anyP, key_get, cell_get, kid_get, encC, List.length_map, encN, ncs, Hp.set_set, Hp.get_set, if_true, if_false, List.append_eq_nil_iff, hg0_0]
    refine callP alive_spec rfl ?_
    try simp (maxSteps := 4000000) (disch := omega) only [push_cast, Nat.reduceLT, Nat.reduceEqDiff, Hp.get_set, all_anyC, all_anyP, key_get, cell_get, kid_get, encC, List.length_map, encN, ncs, Hp.set_set, Hp.get_set, if_true, if_false, List.append_eq_nil_iff, hg0_0]
    refine Qk hK [4] ?_
    clear hK K
    refine Rt ?_
    refine hQ0 _ _ _ ?_
    try simp (maxSteps := 4000000) only [push_cast, Int.reduceToNat, Int.reduceLT, Int.reduceLE, Int.reduceAdd, Int.reduceSub, Int.reduceMul, Int.reduceNeg, Int.reduceEq, reduceCtorEq, Nat.reduceLeDiff, Nat.reduceLT, Nat.reduceEqDiff, Nat.reduceAdd, Nat.reduceMul, Nat.reduceSub, Int.cast_ofNat_Int, all_anyC, all_anyP, key_get, cell_get, kid_get, encC, List.length_map, encN, ncs, Hp.set_set, Hp.get_set, if_true, if_false, List.append_eq_nil_iff, hg0_0]
    first | done | rfl | (simp; done) | (simp_all; done) | (simp_all; omega)
  all_goals try (cases hc; done)
  all_goals try simp only [push_cast] at hc
  all_goals try (exfalso; omega)
  all_goals
   have hG := great_sm (n := n) (by assumption)
   have hsm : Sm n := hG.1
   have hr : right n = true := by assumption
   obtain ⟨A, K, B, hH, hQ⟩ : ∃ A K B, halveN n = (A, K, B) ∧ ((A = nd0 ∧ B = nd0 ∧ (n.keys.length < 2 ∨ (n.leaf = false ∧ n.keys.length < 3))) ∨ (Hv n A K B ∧ ((n.leaf = true ∧ A.keys ++ B.keys = n.keys ∧ B.keys.getD 0 [] = K ∧ ∀ at_, at_ < n.keys.length → 512 < sizeN (lessN n at_) ∨ (sizeN A ≤ 512 ∧ sizeN B ≤ 512)) ∨ (n.leaf = false ∧ A.keys ++ [K] ++ B.keys = n.keys)))) := by
     rcases halves_of hr with ⟨a1, a2⟩ | ⟨a1, A, K, B, a2, a3, a4⟩ | ⟨a1, A, K, B, a2, a3, a4⟩
     · exact ⟨_, _, _, a1, .inl ⟨rfl, rfl, a2⟩⟩
     · exact ⟨_, _, _, a2, .inr ⟨a3, .inl ⟨a1, a4⟩⟩⟩
     · exact ⟨_, _, _, a2, .inr ⟨a3, .inr ⟨a1, a4⟩⟩⟩
   refine Sk ?_
   refine WS.seq ?_
   refine R0 fun K hK => ?_
   try simp (maxSteps := 4000000) (disch := omega) only [push_cast, Nat.reduceLT, Nat.reduceEqDiff, Nat.reduceAdd, Nat.reduceMul, Nat.reduceSub, Nat.reduceLeDiff, Hp.get_set, all_anyC, all_anyP, key_get, cell_get, kid_get, encC, List.length_map, encN, ncs, Hp.set_set, Hp.get_set, if_true, if_false, List.append_eq_nil_iff, hg0_0, hH]
   (repeat refine And.intro (by first | (unfold Go.Vm.room; and_intros <;> (try simp only [List.length_map, List.length_append, List.length_cons, List.length_nil, List.length_take, List.length_drop]) <;> omega) | omega | (simp; done) | (simp_all; done) | (simp_all; omega)) ?_)
   refine callP (halve_spec n hsm) rfl ?_
   try simp (maxSteps := 4000000) (disch := omega) only [push_cast, Nat.reduceLT, Nat.reduceEqDiff, Nat.reduceAdd, Nat.reduceMul, Nat.reduceSub, Nat.reduceLeDiff, Hp.get_set, all_anyC, all_anyP, key_get, cell_get, kid_get, encC, List.length_map, encN, ncs, Hp.set_set, Hp.get_set, if_true, if_false, List.append_eq_nil_iff, hg0_0, hH]
   (repeat refine And.intro (by first | (unfold Go.Vm.room; and_intros <;> (try simp only [List.length_map, List.length_append, List.length_cons, List.length_nil, List.length_take, List.length_drop]) <;> omega) | omega | (simp; done) | (simp_all; done) | (simp_all; omega)) ?_)
   refine fun gc hgc => ?_
   try simp only [Hp.set_none, Hp.join_none_iff] at hgc
   try simp (maxSteps := 4000000) (disch := omega) only [push_cast, Nat.reduceLT, Nat.reduceEqDiff, Nat.reduceAdd, Nat.reduceMul, Nat.reduceSub, Nat.reduceLeDiff, Hp.get_set, all_anyC, all_anyP, key_get, cell_get, kid_get, encC, List.length_map, encN, ncs, Hp.set_set, Hp.get_set, if_true, if_false, List.append_eq_nil_iff, hg0_0, hH, hgc]
   (repeat refine And.intro (by first | (unfold Go.Vm.room; and_intros <;> (try simp only [List.length_map, List.length_append, List.length_cons, List.length_nil, List.length_take, List.length_drop]) <;> omega) | omega | (simp; done) | (simp_all; done) | (simp_all; omega)) ?_)
   refine fun gd hgd => ?_
   try simp only [Hp.set_none, Hp.join_none_iff] at hgd
   try simp (maxSteps := 4000000) (disch := omega) only [push_cast, Nat.reduceLT, Nat.reduceEqDiff, Nat.reduceAdd, Nat.reduceMul, Nat.reduceSub, Nat.reduceLeDiff, Hp.get_set, all_anyC, all_anyP, key_get, cell_get, kid_get, encC, List.length_map, encN, ncs, Hp.set_set, Hp.get_set, if_true, if_false, List.append_eq_nil_iff, hg0_0, hH, hgc, hgd]
   (repeat refine And.intro (by first | (unfold Go.Vm.room; and_intros <;> (try simp only [List.length_map, List.length_append, List.length_cons, List.length_nil, List.length_take, List.length_drop]) <;> omega) | omega | (simp; done) | (simp_all; done) | (simp_all; omega)) ?_)
   refine Qk hK [1, 2, 5, 6, 7] ?_
   clear hK K
   rw [heap2]
   refine S_frz 7 rfl (Hp.set_none.2 ⟨hgd.1, hgd.2.1, rfl⟩) ?_
   refine S_frz 5 rfl rfl ?_
   refine WS.seq (WS.seq ?_)
   refine R0 fun K hK => ?_
   try simp (maxSteps := 4000000) (disch := omega) only [push_cast, Nat.reduceLT, Nat.reduceEqDiff, Nat.reduceAdd, Nat.reduceMul, Nat.reduceSub, Nat.reduceLeDiff, Int.reduceToNat, Int.reduceLT, Int.reduceLE, Int.reduceAdd, Int.reduceSub, Int.reduceMul, Int.reduceNeg, Int.reduceEq, reduceCtorEq, Int.cast_ofNat_Int, Hp.get_set, all_anyC, all_anyP, key_get, cell_get, kid_get, encC, List.length_map, encN, ncs, Hp.set_set, Hp.get_set, if_true, if_false, List.append_eq_nil_iff, hg0_0, hH, hgc, hgd]
   (repeat refine And.intro (by first | (unfold Go.Vm.room; and_intros <;> (try simp only [List.length_map, List.length_append, List.length_cons, List.length_nil, List.length_take, List.length_drop]) <;> omega) | omega | (simp; done) | (simp_all; done) | (simp_all; omega)) ?_)
   refine Qk hK [1, 2, 5, 6, 7, 28] ?_
   clear hK K
   refine CI rfl (fun hc => ?_) (fun hc => ?_)
   ·
    all_goals try (cases hc; done)
    all_goals try simp only [push_cast] at hc
    all_goals try (exfalso; omega)
    all_goals
     have hlen : n.keys.length < 2 ∨ (n.leaf = false ∧ n.keys.length < 3) := by
       rcases hQ with ⟨_, _, q⟩ | ⟨q, _⟩
       · exact q
       · have := q.ka; omega
     refine WS.seq ?_
     refine R0 fun K hK => ?_
     try simp (maxSteps := 4000000) (disch := omega) only [push_cast, Nat.reduceLT, Nat.reduceEqDiff, Nat.reduceAdd, Nat.reduceMul, Nat.reduceSub, Nat.reduceLeDiff, Int.reduceToNat, Int.reduceLT, Int.reduceLE, Int.reduceAdd, Int.reduceSub, Int.reduceMul, Int.reduceNeg, Int.reduceEq, reduceCtorEq, Int.cast_ofNat_Int, Hp.get_set, all_anyC, all_anyP, key_get, cell_get, kid_get, encC, List.length_map, encN, ncs, Hp.set_set, Hp.get_set, if_true, if_false, List.append_eq_nil_iff, hg0_0, hH, hgc, hgd]
     (repeat refine And.intro (by first | (unfold Go.Vm.room; and_intros <;> (try simp only [List.length_map, List.length_append, List.length_cons, List.length_nil, List.length_take, List.length_drop]) <;> omega) | omega | (simp; done) | (simp_all; done) | (simp_all; omega)) ?_)
     refine callP alive_spec rfl ?_
     try simp (maxSteps := 4000000) (disch := omega) only [push_cast, Nat.reduceLT, Nat.reduceEqDiff, Nat.reduceAdd, Nat.reduceMul, Nat.reduceSub, Nat.reduceLeDiff, Int.reduceToNat, Int.reduceLT, Int.reduceLE, Int.reduceAdd, Int.reduceSub, Int.reduceMul, Int.reduceNeg, Int.reduceEq, reduceCtorEq, Int.cast_ofNat_Int, Hp.get_set, all_anyC, all_anyP, key_get, cell_get, kid_get, encC, List.length_map, encN, ncs, Hp.set_set, Hp.get_set, if_true, if_false, List.append_eq_nil_iff, hg0_0, hH, hgc, hgd]
     (repeat refine And.intro (by first | (unfold Go.Vm.room; and_intros <;> (try simp only [List.length_map, List.length_append, List.length_cons, List.length_nil, List.length_take, List.length_drop]) <;> omega) | omega | (simp; done) | (simp_all; done) | (simp_all; omega)) ?_)
     all_goals try (first | refine guardT 30 rfl (fun hc => ?_) (fun hc => ?_) | refine guardF 30 rfl (fun hc => ?_) (fun hc => ?_)) <;> try simp only [push_cast] at hc
     all_goals try (exfalso; omega)
     all_goals try simp (maxSteps := 4000000) (disch := omega) only [push_cast, Nat.reduceLT, Nat.reduceEqDiff, Nat.reduceAdd, Nat.reduceMul, Nat.reduceSub, Nat.reduceLeDiff, Int.reduceToNat, Int.reduceLT, Int.reduceLE, Int.reduceAdd, Int.reduceSub, Int.reduceMul, Int.reduceNeg, Int.reduceEq, reduceCtorEq, Int.cast_ofNat_Int, Hp.get_set, all_anyC, all_anyP, key_get, cell_get, kid_get, encC, List.length_map, encN, ncs, Hp.set_set, Hp.get_set, if_true, if_false, List.append_eq_nil_iff, hg0_0, hH, hgc, hgd]
     all_goals (repeat refine And.intro (by first | (unfold Go.Vm.room; and_intros <;> (try simp only [List.length_map, List.length_append, List.length_cons, List.length_nil, List.length_take, List.length_drop]) <;> omega) | omega | (simp; done) | (simp_all; done) | (simp_all; omega)) ?_)
     all_goals try (first | refine guardT 35 rfl (fun hc => ?_) (fun hc => ?_) | refine guardF 35 rfl (fun hc => ?_) (fun hc => ?_)) <;> try simp only [push_cast] at hc
     all_goals try (exfalso; omega)
     all_goals try simp (maxSteps := 4000000) (disch := omega) only [push_cast, Nat.reduceLT, Nat.reduceEqDiff, Nat.reduceAdd, Nat.reduceMul, Nat.reduceSub, Nat.reduceLeDiff, Int.reduceToNat, Int.reduceLT, Int.reduceLE, Int.reduceAdd, Int.reduceSub, Int.reduceMul, Int.reduceNeg, Int.reduceEq, reduceCtorEq, Int.cast_ofNat_Int, Hp.get_set, all_anyC, all_anyP, key_get, cell_get, kid_get, encC, List.length_map, encN, ncs, Hp.set_set, Hp.get_set, if_true, if_false, List.append_eq_nil_iff, hg0_0, hH, hgc, hgd]
     all_goals (repeat refine And.intro (by first | (unfold Go.Vm.room; and_intros <;> (try simp only [List.length_map, List.length_append, List.length_cons, List.length_nil, List.length_take, List.length_drop]) <;> omega) | omega | (simp; done) | (simp_all; done) | (simp_all; omega)) ?_)
     all_goals try (first | refine guardT 39 rfl (fun hc => ?_) (fun hc => ?_) | refine guardF 39 rfl (fun hc => ?_) (fun hc => ?_)) <;> try simp only [push_cast] at hc
     all_goals try (exfalso; omega)
     all_goals try simp (maxSteps := 4000000) (disch := omega) only [push_cast, Nat.reduceLT, Nat.reduceEqDiff, Nat.reduceAdd, Nat.reduceMul, Nat.reduceSub, Nat.reduceLeDiff, Int.reduceToNat, Int.reduceLT, Int.reduceLE, Int.reduceAdd, Int.reduceSub, Int.reduceMul, Int.reduceNeg, Int.reduceEq, reduceCtorEq, Int.cast_ofNat_Int, Hp.get_set, all_anyC, all_anyP, key_get, cell_get, kid_get, encC, List.length_map, encN, ncs, Hp.set_set, Hp.get_set, if_true, if_false, List.append_eq_nil_iff, hg0_0, hH, hgc, hgd]
     all_goals (repeat refine And.intro (by first | (unfold Go.Vm.room; and_intros <;> (try simp only [List.length_map, List.length_append, List.length_cons, List.length_nil, List.length_take, List.length_drop]) <;> omega) | omega | (simp; done) | (simp_all; done) | (simp_all; omega)) ?_)
     all_goals
      refine Qk hK [4] ?_
      clear hK K
      refine Rt ?_
      refine hQ0 _ _ _ ?_
      try simp (maxSteps := 4000000) only [push_cast, Int.reduceToNat, Int.reduceLT, Int.reduceLE, Int.reduceAdd, Int.reduceSub, Int.reduceMul, Int.reduceNeg, Int.reduceEq, reduceCtorEq, Nat.reduceLeDiff, Nat.reduceLT, Nat.reduceEqDiff, Nat.reduceAdd, Nat.reduceMul, Nat.reduceSub, Int.cast_ofNat_Int, all_anyC, all_anyP, key_get, cell_get, kid_get, encC, List.length_map, encN, ncs, Hp.set_set, Hp.get_set, if_true, if_false, List.append_eq_nil_iff, hg0_0, hH, hgc, hgd]
      first | done | rfl | (simp; done) | (simp_all; done) | (simp_all; omega)
   all_goals try (cases hc; done)
   all_goals try simp only [push_cast] at hc
   all_goals try (exfalso; omega)
   all_goals
    rcases hQ with ⟨rfl, rfl, q⟩ | ⟨hv, hQ⟩
    · exact absurd hc (by simp [nd0])
    have hra := hv.a
    have hrb := hv.b
    have hsa : Sm A := hsm.hv hv.la
    have hsb : Sm B := hsm.hv hv.lb
    have hla := hv.la
    have hlb := hv.lb
    have hkb := hv.kb
    rcases hQ with ⟨hl, hkk, hK0, hsz⟩ | ⟨hl, hkk⟩
    all_goals
    first | have hK1 := hK0 | have hK0 : (0 : Nat) + 0 = 0 := rfl
    all_goals
     refine Sk ?_
     refine WS.seq (WS.seq ?_)
     refine R0 fun K hK => ?_
     try simp (maxSteps := 4000000) (disch := omega) only [push_cast, Nat.reduceLT, Nat.reduceEqDiff, Nat.reduceAdd, Nat.reduceMul, Nat.reduceSub, Nat.reduceLeDiff, Int.reduceToNat, Int.reduceLT, Int.reduceLE, Int.reduceAdd, Int.reduceSub, Int.reduceMul, Int.reduceNeg, Int.reduceEq, reduceCtorEq, Int.cast_ofNat_Int, Hp.get_set, all_anyC, all_anyP, key_get, cell_get, kid_get, encC, List.length_map, encN, ncs, Hp.set_set, Hp.get_set, if_true, if_false, List.append_eq_nil_iff, hg0_0, hH, hgc, hgd, hra, hrb, hl, hK0]
     (repeat refine And.intro (by first | (unfold Go.Vm.room; and_intros <;> (try simp only [List.length_map, List.length_append, List.length_cons, List.length_nil, List.length_take, List.length_drop]) <;> omega) | omega | (simp; done) | (simp_all; done) | (simp_all; omega)) ?_)
     refine callP (right_spec A hsa) rfl ?_
     try simp (maxSteps := 4000000) (disch := omega) only [push_cast, Nat.reduceLT, Nat.reduceEqDiff, Nat.reduceAdd, Nat.reduceMul, Nat.reduceSub, Nat.reduceLeDiff, Int.reduceToNat, Int.reduceLT, Int.reduceLE, Int.reduceAdd, Int.reduceSub, Int.reduceMul, Int.reduceNeg, Int.reduceEq, reduceCtorEq, Int.cast_ofNat_Int, Hp.get_set, all_anyC, all_anyP, key_get, cell_get, kid_get, encC, List.length_map, encN, ncs, Hp.set_set, Hp.get_set, if_true, if_false, List.append_eq_nil_iff, hg0_0, hH, hgc, hgd, hra, hrb, hl, hK0]
     (repeat refine And.intro (by first | (unfold Go.Vm.room; and_intros <;> (try simp only [List.length_map, List.length_append, List.length_cons, List.length_nil, List.length_take, List.length_drop]) <;> omega) | omega | (simp; done) | (simp_all; done) | (simp_all; omega)) ?_)
     all_goals try (first | refine guardT 50 rfl (fun hc => ?_) (fun hc => ?_) | refine guardF 50 rfl (fun hc => ?_) (fun hc => ?_)) <;> try simp only [push_cast] at hc
     all_goals try (exfalso; omega)
     all_goals try simp (maxSteps := 4000000) (disch := omega) only [push_cast, Nat.reduceLT, Nat.reduceEqDiff, Nat.reduceAdd, Nat.reduceMul, Nat.reduceSub, Nat.reduceLeDiff, Int.reduceToNat, Int.reduceLT, Int.reduceLE, Int.reduceAdd, Int.reduceSub, Int.reduceMul, Int.reduceNeg, Int.reduceEq, reduceCtorEq, Int.cast_ofNat_Int, Hp.get_set, all_anyC, all_anyP, key_get, cell_get, kid_get, encC, List.length_map, encN, ncs, Hp.set_set, Hp.get_set, if_true, if_false, List.append_eq_nil_iff, hg0_0, hH, hgc, hgd, hra, hrb, hl, hK0]
     all_goals (repeat refine And.intro (by first | (unfold Go.Vm.room; and_intros <;> (try simp only [List.length_map, List.length_append, List.length_cons, List.length_nil, List.length_take, List.length_drop]) <;> omega) | omega | (simp; done) | (simp_all; done) | (simp_all; omega)) ?_)
     all_goals try (
       refine callP (right_spec B hsb) rfl ?_)
     all_goals try simp (maxSteps := 4000000) (disch := omega) only [push_cast, Nat.reduceLT, Nat.reduceEqDiff, Nat.reduceAdd, Nat.reduceMul, Nat.reduceSub, Nat.reduceLeDiff, Int.reduceToNat, Int.reduceLT, Int.reduceLE, Int.reduceAdd, Int.reduceSub, Int.reduceMul, Int.reduceNeg, Int.reduceEq, reduceCtorEq, Int.cast_ofNat_Int, Hp.get_set, all_anyC, all_anyP, key_get, cell_get, kid_get, encC, List.length_map, encN, ncs, Hp.set_set, Hp.get_set, if_true, if_false, List.append_eq_nil_iff, hg0_0, hH, hgc, hgd, hra, hrb, hl, hK0]
     all_goals (repeat refine And.intro (by first | (unfold Go.Vm.room; and_intros <;> (try simp only [List.length_map, List.length_append, List.length_cons, List.length_nil, List.length_take, List.length_drop]) <;> omega) | omega | (simp; done) | (simp_all; done) | (simp_all; omega)) ?_)
     all_goals
      refine Qk hK [1, 2, 5, 6, 7, 54] ?_
      clear hK K
      refine CI rfl (fun hc => ?_) (fun hc => ?_)
      ·
       all_goals try (cases hc; done)
       all_goals try simp only [push_cast] at hc
       all_goals try (exfalso; omega)
       all_goals
        refine WS.seq ?_
        refine A1 [4] (by decide) ?_
        refine Rt ?_
        refine hQ0 _ _ _ ?_
        try simp (maxSteps := 4000000) only [push_cast, Int.reduceToNat, Int.reduceLT, Int.reduceLE, Int.reduceAdd, Int.reduceSub, Int.reduceMul, Int.reduceNeg, Int.reduceEq, reduceCtorEq, Nat.reduceLeDiff, Nat.reduceLT, Nat.reduceEqDiff, Nat.reduceAdd, Nat.reduceMul, Nat.reduceSub, Int.cast_ofNat_Int, all_anyC, all_anyP, key_get, cell_get, kid_get, encC, List.length_map, encN, ncs, Hp.set_set, Hp.get_set, if_true, if_false, List.append_eq_nil_iff, hg0_0, hH, hgc, hgd, hra, hrb, hl, hK0]
        first | done | rfl | (simp; done) | (simp_all; done) | (simp_all; omega)
      all_goals try (cases hc; done)
      all_goals try simp only [push_cast] at hc
      all_goals try (exfalso; omega)
      all_goals
       refine Sk ?_
       refine WS.seq ?_
       refine R0 fun K hK => ?_
       try simp (maxSteps := 4000000) (disch := omega) only [push_cast, Nat.reduceLT, Nat.reduceEqDiff, Nat.reduceAdd, Nat.reduceMul, Nat.reduceSub, Nat.reduceLeDiff, Int.reduceToNat, Int.reduceLT, Int.reduceLE, Int.reduceAdd, Int.reduceSub, Int.reduceMul, Int.reduceNeg, Int.reduceEq, reduceCtorEq, Int.cast_ofNat_Int, Hp.get_set, all_anyC, all_anyP, key_get, cell_get, kid_get, encC, List.length_map, encN, ncs, Hp.set_set, Hp.get_set, if_true, if_false, List.append_eq_nil_iff, hg0_0, hH, hgc, hgd, hra, hrb, hl, hK0]
       (repeat refine And.intro (by first | (unfold Go.Vm.room; and_intros <;> (try simp only [List.length_map, List.length_append, List.length_cons, List.length_nil, List.length_take, List.length_drop]) <;> omega) | omega | (simp; done) | (simp_all; done) | (simp_all; omega)) ?_)
       try simp (maxSteps := 4000000) (disch := omega) only [push_cast, Nat.reduceLT, Nat.reduceEqDiff, Nat.reduceAdd, Nat.reduceMul, Nat.reduceSub, Nat.reduceLeDiff, Int.reduceToNat, Int.reduceLT, Int.reduceLE, Int.reduceAdd, Int.reduceSub, Int.reduceMul, Int.reduceNeg, Int.reduceEq, reduceCtorEq, Int.cast_ofNat_Int, Hp.get_set, all_anyC, all_anyP, key_get, cell_get, kid_get, encC, List.length_map, encN, ncs, Hp.set_set, Hp.get_set, if_true, if_false, List.append_eq_nil_iff, hg0_0, hH, hgc, hgd, hra, hrb, hl, hK0]
       (repeat refine And.intro (by first | (unfold Go.Vm.room; and_intros <;> (try simp only [List.length_map, List.length_append, List.length_cons, List.length_nil, List.length_take, List.length_drop]) <;> omega) | omega | (simp; done) | (simp_all; done) | (simp_all; omega)) ?_)
       refine fun ge hge => ?_
       try simp (maxSteps := 4000000) (disch := omega) only [push_cast, Nat.reduceLT, Nat.reduceEqDiff, Nat.reduceAdd, Nat.reduceMul, Nat.reduceSub, Nat.reduceLeDiff, Int.reduceToNat, Int.reduceLT, Int.reduceLE, Int.reduceAdd, Int.reduceSub, Int.reduceMul, Int.reduceNeg, Int.reduceEq, reduceCtorEq, Int.cast_ofNat_Int, Hp.get_set, all_anyC, all_anyP, key_get, cell_get, kid_get, encC, List.length_map, encN, ncs, Hp.set_set, Hp.get_set, if_true, if_false, List.append_eq_nil_iff, hg0_0, hH, hgc, hgd, hra, hrb, hl, hK0]
       (repeat refine And.intro (by first | (unfold Go.Vm.room; and_intros <;> (try simp only [List.length_map, List.length_append, List.length_cons, List.length_nil, List.length_take, List.length_drop]) <;> omega) | omega | (simp; done) | (simp_all; done) | (simp_all; omega)) ?_)
       try simp (maxSteps := 4000000) (disch := omega) only [push_cast, Nat.reduceLT, Nat.reduceEqDiff, Nat.reduceAdd, Nat.reduceMul, Nat.reduceSub, Nat.reduceLeDiff, Int.reduceToNat, Int.reduceLT, Int.reduceLE, Int.reduceAdd, Int.reduceSub, Int.reduceMul, Int.reduceNeg, Int.reduceEq, reduceCtorEq, Int.cast_ofNat_Int, Hp.get_set, all_anyC, all_anyP, key_get, cell_get, kid_get, encC, List.length_map, encN, ncs, Hp.set_set, Hp.get_set, if_true, if_false, List.append_eq_nil_iff, hg0_0, hH, hgc, hgd, hra, hrb, hl, hK0]
       (repeat refine And.intro (by first | (unfold Go.Vm.room; and_intros <;> (try simp only [List.length_map, List.length_append, List.length_cons, List.length_nil, List.length_take, List.length_drop]) <;> omega) | omega | (simp; done) | (simp_all; done) | (simp_all; omega)) ?_)
       refine Qk hK [1, 2, 5, 6, 7, 8] ?_
       clear hK K
       refine WS.seq (WS.seq ?_)
       refine R0 fun K hK => ?_
       try simp (maxSteps := 4000000) (disch := omega) only [push_cast, Nat.reduceLT, Nat.reduceEqDiff, Nat.reduceAdd, Nat.reduceMul, Nat.reduceSub, Nat.reduceLeDiff, Int.reduceToNat, Int.reduceLT, Int.reduceLE, Int.reduceAdd, Int.reduceSub, Int.reduceMul, Int.reduceNeg, Int.reduceEq, reduceCtorEq, Int.cast_ofNat_Int, Hp.get_set, all_anyC, all_anyP, key_get, cell_get, kid_get, encC, List.length_map, encN, ncs, Hp.set_set, Hp.get_set, if_true, if_false, List.append_eq_nil_iff, hg0_0, hH, hgc, hgd, hra, hrb, hl, hK0]
       (repeat refine And.intro (by first | (unfold Go.Vm.room; and_intros <;> (try simp only [List.length_map, List.length_append, List.length_cons, List.length_nil, List.length_take, List.length_drop]) <;> omega) | omega | (simp; done) | (simp_all; done) | (simp_all; omega)) ?_)
       refine Qk hK [1, 2, 5, 6, 7, 8, 61] ?_
       clear hK K
       refine CI rfl (fun hc => ?_) (fun hc => ?_)
       ·
        all_goals try (cases hc; done)
        all_goals try simp only [push_cast] at hc
        all_goals try (exfalso; omega)
        all_goals
         refine R0 fun K hK => ?_
         try simp (maxSteps := 4000000) (disch := omega) only [push_cast, Nat.reduceLT, Nat.reduceEqDiff, Nat.reduceAdd, Nat.reduceMul, Nat.reduceSub, Nat.reduceLeDiff, Int.reduceToNat, Int.reduceLT, Int.reduceLE, Int.reduceAdd, Int.reduceSub, Int.reduceMul, Int.reduceNeg, Int.reduceEq, reduceCtorEq, Int.cast_ofNat_Int, Hp.get_set, all_anyC, all_anyP, key_get, cell_get, kid_get, encC, List.length_map, encN, ncs, Hp.set_set, Hp.get_set, if_true, if_false, List.append_eq_nil_iff, hg0_0, hH, hgc, hgd, hra, hrb, hl, hK0]
         (repeat refine And.intro (by first | (unfold Go.Vm.room; and_intros <;> (try simp only [List.length_map, List.length_append, List.length_cons, List.length_nil, List.length_take, List.length_drop]) <;> omega) | omega | (simp; done) | (simp_all; done) | (simp_all; omega)) ?_)
         try simp (maxSteps := 4000000) (disch := omega) only [push_cast, Nat.reduceLT, Nat.reduceEqDiff, Nat.reduceAdd, Nat.reduceMul, Nat.reduceSub, Nat.reduceLeDiff, Int.reduceToNat, Int.reduceLT, Int.reduceLE, Int.reduceAdd, Int.reduceSub, Int.reduceMul, Int.reduceNeg, Int.reduceEq, reduceCtorEq, Int.cast_ofNat_Int, Hp.get_set, all_anyC, all_anyP, key_get, cell_get, kid_get, encC, List.length_map, encN, ncs, Hp.set_set, Hp.get_set, if_true, if_false, List.append_eq_nil_iff, hg0_0, hH, hgc, hgd, hra, hrb, hl, hK0]
         (repeat refine And.intro (by first | (unfold Go.Vm.room; and_intros <;> (try simp only [List.length_map, List.length_append, List.length_cons, List.length_nil, List.length_take, List.length_drop]) <;> omega) | omega | (simp; done) | (simp_all; done) | (simp_all; omega)) ?_)
         try simp (maxSteps := 4000000) (disch := omega) only [push_cast, Nat.reduceLT, Nat.reduceEqDiff, Nat.reduceAdd, Nat.reduceMul, Nat.reduceSub, Nat.reduceLeDiff, Int.reduceToNat, Int.reduceLT, Int.reduceLE, Int.reduceAdd, Int.reduceSub, Int.reduceMul, Int.reduceNeg, Int.reduceEq, reduceCtorEq, Int.cast_ofNat_Int, Hp.get_set, all_anyC, all_anyP, key_get, cell_get, kid_get, encC, List.length_map, encN, ncs, Hp.set_set, Hp.get_set, if_true, if_false, List.append_eq_nil_iff, hg0_0, hH, hgc, hgd, hra, hrb, hl, hK0]
         (repeat refine And.intro (by first | (unfold Go.Vm.room; and_intros <;> (try simp only [List.length_map, List.length_append, List.length_cons, List.length_nil, List.length_take, List.length_drop]) <;> omega) | omega | (simp; done) | (simp_all; done) | (simp_all; omega)) ?_)
         try simp (maxSteps := 4000000) (disch := omega) only [push_cast, Nat.reduceLT, Nat.reduceEqDiff, Nat.reduceAdd, Nat.reduceMul, Nat.reduceSub, Nat.reduceLeDiff, Int.reduceToNat, Int.reduceLT, Int.reduceLE, Int.reduceAdd, Int.reduceSub, Int.reduceMul, Int.reduceNeg, Int.reduceEq, reduceCtorEq, Int.cast_ofNat_Int, Hp.get_set, all_anyC, all_anyP, key_get, cell_get, kid_get, encC, List.length_map, encN, ncs, Hp.set_set, Hp.get_set, if_true, if_false, List.append_eq_nil_iff, hg0_0, hH, hgc, hgd, hra, hrb, hl, hK0]
         (repeat refine And.intro (by first | (unfold Go.Vm.room; and_intros <;> (try simp only [List.length_map, List.length_append, List.length_cons, List.length_nil, List.length_take, List.length_drop]) <;> omega) | omega | (simp; done) | (simp_all; done) | (simp_all; omega)) ?_)
         refine Qk hK [1, 2, 5, 6, 7, 8] ?_
         clear hK K
         refine WS.seq ?_
         refine R0 fun K hK => ?_
         try simp (maxSteps := 4000000) (disch := omega) only [push_cast, Nat.reduceLT, Nat.reduceEqDiff, Nat.reduceAdd, Nat.reduceMul, Nat.reduceSub, Nat.reduceLeDiff, Int.reduceToNat, Int.reduceLT, Int.reduceLE, Int.reduceAdd, Int.reduceSub, Int.reduceMul, Int.reduceNeg, Int.reduceEq, reduceCtorEq, Int.cast_ofNat_Int, Hp.get_set, all_anyC, all_anyP, key_get, cell_get, kid_get, encC, List.length_map, encN, ncs, Hp.set_set, Hp.get_set, if_true, if_false, List.append_eq_nil_iff, hg0_0, hH, hgc, hgd, hra, hrb, hl, hK0]
         (repeat refine And.intro (by first | (unfold Go.Vm.room; and_intros <;> (try simp only [List.length_map, List.length_append, List.length_cons, List.length_nil, List.length_take, List.length_drop]) <;> omega) | omega | (simp; done) | (simp_all; done) | (simp_all; omega)) ?_)
         try simp (maxSteps := 4000000) (disch := omega) only [push_cast, Nat.reduceLT, Nat.reduceEqDiff, Nat.reduceAdd, Nat.reduceMul, Nat.reduceSub, Nat.reduceLeDiff, Int.reduceToNat, Int.reduceLT, Int.reduceLE, Int.reduceAdd, Int.reduceSub, Int.reduceMul, Int.reduceNeg, Int.reduceEq, reduceCtorEq, Int.cast_ofNat_Int, Hp.get_set, all_anyC, all_anyP, key_get, cell_get, kid_get, encC, List.length_map, encN, ncs, Hp.set_set, Hp.get_set, if_true, if_false, List.append_eq_nil_iff, hg0_0, hH, hgc, hgd, hra, hrb, hl, hK0]
         (repeat refine And.intro (by first | (unfold Go.Vm.room; and_intros <;> (try simp only [List.length_map, List.length_append, List.length_cons, List.length_nil, List.length_take, List.length_drop]) <;> omega) | omega | (simp; done) | (simp_all; done) | (simp_all; omega)) ?_)
         try simp (maxSteps := 4000000) (disch := omega) only [push_cast, Nat.reduceLT, Nat.reduceEqDiff, Nat.reduceAdd, Nat.reduceMul, Nat.reduceSub, Nat.reduceLeDiff, Int.reduceToNat, Int.reduceLT, Int.reduceLE, Int.reduceAdd, Int.reduceSub, Int.reduceMul, Int.reduceNeg, Int.reduceEq, reduceCtorEq, Int.cast_ofNat_Int, Hp.get_set, all_anyC, all_anyP, key_get, cell_get, kid_get, encC, List.length_map, encN, ncs, Hp.set_set, Hp.get_set, if_true, if_false, List.append_eq_nil_iff, hg0_0, hH, hgc, hgd, hra, hrb, hl, hK0]
         (repeat refine And.intro (by first | (unfold Go.Vm.room; and_intros <;> (try simp only [List.length_map, List.length_append, List.length_cons, List.length_nil, List.length_take, List.length_drop]) <;> omega) | omega | (simp; done) | (simp_all; done) | (simp_all; omega)) ?_)
         try simp (maxSteps := 4000000) (disch := omega) only [push_cast, Nat.reduceLT, Nat.reduceEqDiff, Nat.reduceAdd, Nat.reduceMul, Nat.reduceSub, Nat.reduceLeDiff, Int.reduceToNat, Int.reduceLT, Int.reduceLE, Int.reduceAdd, Int.reduceSub, Int.reduceMul, Int.reduceNeg, Int.reduceEq, reduceCtorEq, Int.cast_ofNat_Int, Hp.get_set, all_anyC, all_anyP, key_get, cell_get, kid_get, encC, List.length_map, encN, ncs, Hp.set_set, Hp.get_set, if_true, if_false, List.append_eq_nil_iff, hg0_0, hH, hgc, hgd, hra, hrb, hl, hK0]
         (repeat refine And.intro (by first | (unfold Go.Vm.room; and_intros <;> (try simp only [List.length_map, List.length_append, List.length_cons, List.length_nil, List.length_take, List.length_drop]) <;> omega) | omega | (simp; done) | (simp_all; done) | (simp_all; omega)) ?_)
         refine Qk hK [1, 2, 5, 6, 7, 8] ?_
         clear hK K
         refine WS.seq ?_
         refine RD [71, 75, 78, 82, 85, 3000076, 3000079, 3000083, 3000086] [] fo (by kernel_rfl) fun K hK => ?_
         try simp (maxSteps := 4000000) (disch := omega) only [push_cast, Nat.reduceLT, Nat.reduceEqDiff, Nat.reduceAdd, Nat.reduceMul, Nat.reduceSub, Nat.reduceLeDiff, Int.reduceToNat, Int.reduceLT, Int.reduceLE, Int.reduceAdd, Int.reduceSub, Int.reduceMul, Int.reduceNeg, Int.reduceEq, reduceCtorEq, Int.cast_ofNat_Int, Hp.get_set, all_anyC, all_anyP, key_get, cell_get, kid_get, encC, List.length_map, encN, ncs, Hp.set_set, Hp.get_set, if_true, if_false, List.append_eq_nil_iff, hg0_0, hH, hgc, hgd, hra, hrb, hl, hK0]
         (repeat refine And.intro (by first | (unfold Go.Vm.room; and_intros <;> (try simp only [List.length_map, List.length_append, List.length_cons, List.length_nil, List.length_take, List.length_drop]) <;> omega) | omega | (simp; done) | (simp_all; done) | (simp_all; omega)) ?_)
         try simp (maxSteps := 4000000) (disch := omega) only [push_cast, Nat.reduceLT, Nat.reduceEqDiff, Nat.reduceAdd, Nat.reduceMul, Nat.reduceSub, Nat.reduceLeDiff, Int.reduceToNat, Int.reduceLT, Int.reduceLE, Int.reduceAdd, Int.reduceSub, Int.reduceMul, Int.reduceNeg, Int.reduceEq, reduceCtorEq, Int.cast_ofNat_Int, Hp.get_set, all_anyC, all_anyP, key_get, cell_get, kid_get, encC, List.length_map, encN, ncs, Hp.set_set, Hp.get_set, if_true, if_false, List.append_eq_nil_iff, hg0_0, hH, hgc, hgd, hra, hrb, hl, hK0]
         (repeat refine And.intro (by first | (unfold Go.Vm.room; and_intros <;> (try simp only [List.length_map, List.length_append, List.length_cons, List.length_nil, List.length_take, List.length_drop]) <;> omega) | omega | (simp; done) | (simp_all; done) | (simp_all; omega)) ?_)
         refine fun gf hgf => ?_
         have n1 := Hp.ne_get (Hp.get_set_same _ _ _) hgf
         try simp (maxSteps := 4000000) (disch := omega) only [push_cast, Nat.reduceLT, Nat.reduceEqDiff, Nat.reduceAdd, Nat.reduceMul, Nat.reduceSub, Nat.reduceLeDiff, Int.reduceToNat, Int.reduceLT, Int.reduceLE, Int.reduceAdd, Int.reduceSub, Int.reduceMul, Int.reduceNeg, Int.reduceEq, reduceCtorEq, Int.cast_ofNat_Int, Hp.get_set, all_anyC, all_anyP, key_get, cell_get, kid_get, encC, List.length_map, encN, ncs, Hp.set_set, Hp.get_set, if_true, if_false, List.append_eq_nil_iff, hg0_0, hH, hgc, hgd, hra, hrb, hl, hK0, n1]
         (repeat refine And.intro (by first | (unfold Go.Vm.room; and_intros <;> (try simp only [List.length_map, List.length_append, List.length_cons, List.length_nil, List.length_take, List.length_drop]) <;> omega) | omega | (simp; done) | (simp_all; done) | (simp_all; omega)) ?_)
         try simp (maxSteps := 4000000) (disch := omega) only [push_cast, Nat.reduceLT, Nat.reduceEqDiff, Nat.reduceAdd, Nat.reduceMul, Nat.reduceSub, Nat.reduceLeDiff, Int.reduceToNat, Int.reduceLT, Int.reduceLE, Int.reduceAdd, Int.reduceSub, Int.reduceMul, Int.reduceNeg, Int.reduceEq, reduceCtorEq, Int.cast_ofNat_Int, Hp.get_set, all_anyC, all_anyP, key_get, cell_get, kid_get, encC, List.length_map, encN, ncs, Hp.set_set, Hp.get_set, if_true, if_false, List.append_eq_nil_iff, hg0_0, hH, hgc, hgd, hra, hrb, hl, hK0, n1]
         (repeat refine And.intro (by first | (unfold Go.Vm.room; and_intros <;> (try simp only [List.length_map, List.length_append, List.length_cons, List.length_nil, List.length_take, List.length_drop]) <;> omega) | omega | (simp; done) | (simp_all; done) | (simp_all; omega)) ?_)
         try simp (maxSteps := 4000000) (disch := omega) only [push_cast, Nat.reduceLT, Nat.reduceEqDiff, Nat.reduceAdd, Nat.reduceMul, Nat.reduceSub, Nat.reduceLeDiff, Int.reduceToNat, Int.reduceLT, Int.reduceLE, Int.reduceAdd, Int.reduceSub, Int.reduceMul, Int.reduceNeg, Int.reduceEq, reduceCtorEq, Int.cast_ofNat_Int, Hp.get_set, all_anyC, all_anyP, key_get, cell_get, kid_get, encC, List.length_map, encN, ncs, Hp.set_set, Hp.get_set, if_true, if_false, List.append_eq_nil_iff, hg0_0, hH, hgc, hgd, hra, hrb, hl, hK0, n1]
         (repeat refine And.intro (by first | (unfold Go.Vm.room; and_intros <;> (try simp only [List.length_map, List.length_append, List.length_cons, List.length_nil, List.length_take, List.length_drop]) <;> omega) | omega | (simp; done) | (simp_all; done) | (simp_all; omega)) ?_)
         try simp (maxSteps := 4000000) (disch := omega) only [push_cast, Nat.reduceLT, Nat.reduceEqDiff, Nat.reduceAdd, Nat.reduceMul, Nat.reduceSub, Nat.reduceLeDiff, Int.reduceToNat, Int.reduceLT, Int.reduceLE, Int.reduceAdd, Int.reduceSub, Int.reduceMul, Int.reduceNeg, Int.reduceEq, reduceCtorEq, Int.cast_ofNat_Int, Hp.get_set, all_anyC, all_anyP, key_get, cell_get, kid_get, encC, List.length_map, encN, ncs, Hp.set_set, Hp.get_set, if_true, if_false, List.append_eq_nil_iff, hg0_0, hH, hgc, hgd, hra, hrb, hl, hK0, n1]
         (repeat refine And.intro (by first | (unfold Go.Vm.room; and_intros <;> (try simp only [List.length_map, List.length_append, List.length_cons, List.length_nil, List.length_take, List.length_drop]) <;> omega) | omega | (simp; done) | (simp_all; done) | (simp_all; omega)) ?_)
         refine fun gi hgi => ?_
         have n2 := Hp.set_none.1 hgi
         try simp (maxSteps := 4000000) (disch := omega) only [push_cast, Nat.reduceLT, Nat.reduceEqDiff, Nat.reduceAdd, Nat.reduceMul, Nat.reduceSub, Nat.reduceLeDiff, Int.reduceToNat, Int.reduceLT, Int.reduceLE, Int.reduceAdd, Int.reduceSub, Int.reduceMul, Int.reduceNeg, Int.reduceEq, reduceCtorEq, Int.cast_ofNat_Int, Hp.get_set, all_anyC, all_anyP, key_get, cell_get, kid_get, encC, List.length_map, encN, ncs, Hp.set_set, Hp.get_set, if_true, if_false, List.append_eq_nil_iff, hg0_0, hH, hgc, hgd, hra, hrb, hl, hK0, n1, n2]
         (repeat refine And.intro (by first | (unfold Go.Vm.room; and_intros <;> (try simp only [List.length_map, List.length_append, List.length_cons, List.length_nil, List.length_take, List.length_drop]) <;> omega) | omega | (simp; done) | (simp_all; done) | (simp_all; omega)) ?_)
         try simp (maxSteps := 4000000) (disch := omega) only [push_cast, Nat.reduceLT, Nat.reduceEqDiff, Nat.reduceAdd, Nat.reduceMul, Nat.reduceSub, Nat.reduceLeDiff, Int.reduceToNat, Int.reduceLT, Int.reduceLE, Int.reduceAdd, Int.reduceSub, Int.reduceMul, Int.reduceNeg, Int.reduceEq, reduceCtorEq, Int.cast_ofNat_Int, Hp.get_set, all_anyC, all_anyP, key_get, cell_get, kid_get, encC, List.length_map, encN, ncs, Hp.set_set, Hp.get_set, if_true, if_false, List.append_eq_nil_iff, hg0_0, hH, hgc, hgd, hra, hrb, hl, hK0, n1, n2]
         (repeat refine And.intro (by first | (unfold Go.Vm.room; and_intros <;> (try simp only [List.length_map, List.length_append, List.length_cons, List.length_nil, List.length_take, List.length_drop]) <;> omega) | omega | (simp; done) | (simp_all; done) | (simp_all; omega)) ?_)
         try simp (maxSteps := 4000000) (disch := omega) only [push_cast, Nat.reduceLT, Nat.reduceEqDiff, Nat.reduceAdd, Nat.reduceMul, Nat.reduceSub, Nat.reduceLeDiff, Int.reduceToNat, Int.reduceLT, Int.reduceLE, Int.reduceAdd, Int.reduceSub, Int.reduceMul, Int.reduceNeg, Int.reduceEq, reduceCtorEq, Int.cast_ofNat_Int, Hp.get_set, all_anyC, all_anyP, key_get, cell_get, kid_get, encC, List.length_map, encN, ncs, Hp.set_set, Hp.get_set, if_true, if_false, List.append_eq_nil_iff, hg0_0, hH, hgc, hgd, hra, hrb, hl, hK0, n1, n2]
         (repeat refine And.intro (by first | (unfold Go.Vm.room; and_intros <;> (try simp only [List.length_map, List.length_append, List.length_cons, List.length_nil, List.length_take, List.length_drop]) <;> omega) | omega | (simp; done) | (simp_all; done) | (simp_all; omega)) ?_)
         try simp (maxSteps := 4000000) (disch := omega) only [push_cast, Nat.reduceLT, Nat.reduceEqDiff, Nat.reduceAdd, Nat.reduceMul, Nat.reduceSub, Nat.reduceLeDiff, Int.reduceToNat, Int.reduceLT, Int.reduceLE, Int.reduceAdd, Int.reduceSub, Int.reduceMul, Int.reduceNeg, Int.reduceEq, reduceCtorEq, Int.cast_ofNat_Int, Hp.get_set, all_anyC, all_anyP, key_get, cell_get, kid_get, encC, List.length_map, encN, ncs, Hp.set_set, Hp.get_set, if_true, if_false, List.append_eq_nil_iff, hg0_0, hH, hgc, hgd, hra, hrb, hl, hK0, n1, n2]
         (repeat refine And.intro (by first | (unfold Go.Vm.room; and_intros <;> (try simp only [List.length_map, List.length_append, List.length_cons, List.length_nil, List.length_take, List.length_drop]) <;> omega) | omega | (simp; done) | (simp_all; done) | (simp_all; omega)) ?_)
         refine fun gw hgw => ?_
         try simp only [Hp.set_none, Hp.join_none_iff] at hgw
         try simp (maxSteps := 4000000) (disch := omega) only [push_cast, Nat.reduceLT, Nat.reduceEqDiff, Nat.reduceAdd, Nat.reduceMul, Nat.reduceSub, Nat.reduceLeDiff, Int.reduceToNat, Int.reduceLT, Int.reduceLE, Int.reduceAdd, Int.reduceSub, Int.reduceMul, Int.reduceNeg, Int.reduceEq, reduceCtorEq, Int.cast_ofNat_Int, Hp.get_set, all_anyC, all_anyP, key_get, cell_get, kid_get, encC, List.length_map, encN, ncs, Hp.set_set, Hp.get_set, if_true, if_false, List.append_eq_nil_iff, hg0_0, hH, hgc, hgd, hra, hrb, hl, hK0, n1, n2, hgw]
         (repeat refine And.intro (by first | (unfold Go.Vm.room; and_intros <;> (try simp only [List.length_map, List.length_append, List.length_cons, List.length_nil, List.length_take, List.length_drop]) <;> omega) | omega | (simp; done) | (simp_all; done) | (simp_all; omega)) ?_)
         try simp (maxSteps := 4000000) (disch := omega) only [push_cast, Nat.reduceLT, Nat.reduceEqDiff, Nat.reduceAdd, Nat.reduceMul, Nat.reduceSub, Nat.reduceLeDiff, Int.reduceToNat, Int.reduceLT, Int.reduceLE, Int.reduceAdd, Int.reduceSub, Int.reduceMul, Int.reduceNeg, Int.reduceEq, reduceCtorEq, Int.cast_ofNat_Int, Hp.get_set, all_anyC, all_anyP, key_get, cell_get, kid_get, encC, List.length_map, encN, ncs, Hp.set_set, Hp.get_set, if_true, if_false, List.append_eq_nil_iff, hg0_0, hH, hgc, hgd, hra, hrb, hl, hK0, n1, n2, hgw]
         (repeat refine And.intro (by first | (unfold Go.Vm.room; and_intros <;> (try simp only [List.length_map, List.length_append, List.length_cons, List.length_nil, List.length_take, List.length_drop]) <;> omega) | omega | (simp; done) | (simp_all; done) | (simp_all; omega)) ?_)
         refine Qk hK [1, 2, 5, 6, 7, 9] ?_
         clear hK K
         refine S_wkH (g := gw) (Hp.get_set_same _ _ _) (l' := ncs n) ⟨by rw [hl]; exact Wk.refl _, by first | exact Wk.untag' (map2 hkk) | exact Wk.untag' (map3 hkk), Wk.untag' (map2 hv.c), Wk.untag' (map2 hv.d), trivial⟩ rfl ?_
         refine S_abs (fun τ => τ.get gw = some (.cells (ncs n))) (Hp.get_set_same _ _ _) (fun τ h9 => ?_)
         simp only [ncs] at h9
         refine WS.seq (WS.seq ?_)
         refine R0 fun K hK => ?_
         try simp (maxSteps := 4000000) (disch := omega) only [push_cast, Nat.reduceLT, Nat.reduceEqDiff, Nat.reduceAdd, Nat.reduceMul, Nat.reduceSub, Nat.reduceLeDiff, Int.reduceToNat, Int.reduceLT, Int.reduceLE, Int.reduceAdd, Int.reduceSub, Int.reduceMul, Int.reduceNeg, Int.reduceEq, reduceCtorEq, Int.cast_ofNat_Int, Hp.get_set, all_anyC, all_anyP, key_get, cell_get, kid_get, encC, List.length_map, encN, ncs, Hp.set_set, Hp.get_set, if_true, if_false, List.append_eq_nil_iff, hg0_0, hH, hgc, hgd, hra, hrb, hl, hK0, n1, n2, hgw, h9]
         (repeat refine And.intro (by first | (unfold Go.Vm.room; and_intros <;> (try simp only [List.length_map, List.length_append, List.length_cons, List.length_nil, List.length_take, List.length_drop]) <;> omega) | omega | (simp; done) | (simp_all; done) | (simp_all; omega)) ?_)
         refine callP (r := .bool true) (by have hs := same_spec n n hsm hsm; simp only [encN, hl, decide_true] at hs; exact hs) rfl ?_
         try simp (maxSteps := 4000000) (disch := omega) only [push_cast, Nat.reduceLT, Nat.reduceEqDiff, Nat.reduceAdd, Nat.reduceMul, Nat.reduceSub, Nat.reduceLeDiff, Int.reduceToNat, Int.reduceLT, Int.reduceLE, Int.reduceAdd, Int.reduceSub, Int.reduceMul, Int.reduceNeg, Int.reduceEq, reduceCtorEq, Int.cast_ofNat_Int, Hp.get_set, all_anyC, all_anyP, key_get, cell_get, kid_get, encC, List.length_map, encN, ncs, Hp.set_set, Hp.get_set, if_true, if_false, List.append_eq_nil_iff, hg0_0, hH, hgc, hgd, hra, hrb, hl, hK0, n1, n2, hgw, h9]
         (repeat refine And.intro (by first | (unfold Go.Vm.room; and_intros <;> (try simp only [List.length_map, List.length_append, List.length_cons, List.length_nil, List.length_take, List.length_drop]) <;> omega) | omega | (simp; done) | (simp_all; done) | (simp_all; omega)) ?_)
         all_goals try (first | refine guardT 92 rfl (fun hc => ?_) (fun hc => ?_) | refine guardF 92 rfl (fun hc => ?_) (fun hc => ?_)) <;> try simp only [push_cast] at hc
         all_goals try (exfalso; omega)
         all_goals try simp (maxSteps := 4000000) (disch := omega) only [push_cast, Nat.reduceLT, Nat.reduceEqDiff, Nat.reduceAdd, Nat.reduceMul, Nat.reduceSub, Nat.reduceLeDiff, Int.reduceToNat, Int.reduceLT, Int.reduceLE, Int.reduceAdd, Int.reduceSub, Int.reduceMul, Int.reduceNeg, Int.reduceEq, reduceCtorEq, Int.cast_ofNat_Int, Hp.get_set, all_anyC, all_anyP, key_get, cell_get, kid_get, encC, List.length_map, encN, ncs, Hp.set_set, Hp.get_set, if_true, if_false, List.append_eq_nil_iff, hg0_0, hH, hgc, hgd, hra, hrb, hl, hK0, n1, n2, hgw, h9]
         all_goals (repeat refine And.intro (by first | (unfold Go.Vm.room; and_intros <;> (try simp only [List.length_map, List.length_append, List.length_cons, List.length_nil, List.length_take, List.length_drop]) <;> omega) | omega | (simp; done) | (simp_all; done) | (simp_all; omega)) ?_)
         all_goals try (first | refine guardT 95 rfl (fun hc => ?_) (fun hc => ?_) | refine guardF 95 rfl (fun hc => ?_) (fun hc => ?_)) <;> try simp only [push_cast] at hc
         all_goals try (exfalso; omega)
         all_goals try simp (maxSteps := 4000000) (disch := omega) only [push_cast, Nat.reduceLT, Nat.reduceEqDiff, Nat.reduceAdd, Nat.reduceMul, Nat.reduceSub, Nat.reduceLeDiff, Int.reduceToNat, Int.reduceLT, Int.reduceLE, Int.reduceAdd, Int.reduceSub, Int.reduceMul, Int.reduceNeg, Int.reduceEq, reduceCtorEq, Int.cast_ofNat_Int, Hp.get_set, all_anyC, all_anyP, key_get, cell_get, kid_get, encC, List.length_map, encN, ncs, Hp.set_set, Hp.get_set, if_true, if_false, List.append_eq_nil_iff, hg0_0, hH, hgc, hgd, hra, hrb, hl, hK0, n1, n2, hgw, h9]
         all_goals (repeat refine And.intro (by first | (unfold Go.Vm.room; and_intros <;> (try simp only [List.length_map, List.length_append, List.length_cons, List.length_nil, List.length_take, List.length_drop]) <;> omega) | omega | (simp; done) | (simp_all; done) | (simp_all; omega)) ?_)
         all_goals
          refine Qk hK [1, 2, 5, 7, 103] ?_
          clear hK K
          refine CI rfl (fun hc => ?_) (fun hc => ?_)
          ·
           all_goals try (cases hc; done)
           all_goals try simp only [push_cast] at hc
           all_goals try (exfalso; omega)
           all_goals
            refine WS.seq ?_
            refine A1 [4] (by decide) ?_
            refine Rt ?_
            refine hQ0 _ _ _ ?_
            try simp (maxSteps := 4000000) only [push_cast, Int.reduceToNat, Int.reduceLT, Int.reduceLE, Int.reduceAdd, Int.reduceSub, Int.reduceMul, Int.reduceNeg, Int.reduceEq, reduceCtorEq, Nat.reduceLeDiff, Nat.reduceLT, Nat.reduceEqDiff, Nat.reduceAdd, Nat.reduceMul, Nat.reduceSub, Int.cast_ofNat_Int, all_anyC, all_anyP, key_get, cell_get, kid_get, encC, List.length_map, encN, ncs, Hp.set_set, Hp.get_set, if_true, if_false, List.append_eq_nil_iff, hg0_0, hH, hgc, hgd, hra, hrb, hl, hK0, n1, n2, hgw, h9]
            first | done | rfl | (simp; done) | (simp_all; done) | (simp_all; omega)
          all_goals try (cases hc; done)
          all_goals try simp only [push_cast] at hc
          all_goals try (exfalso; omega)
          all_goals
           refine Sk ?_
           refine WS.seq (WS.seq ?_)
           refine R0 fun K hK => ?_
           try simp (maxSteps := 4000000) (disch := omega) only [push_cast, Nat.reduceLT, Nat.reduceEqDiff, Nat.reduceAdd, Nat.reduceMul, Nat.reduceSub, Nat.reduceLeDiff, Int.reduceToNat, Int.reduceLT, Int.reduceLE, Int.reduceAdd, Int.reduceSub, Int.reduceMul, Int.reduceNeg, Int.reduceEq, reduceCtorEq, Int.cast_ofNat_Int, Hp.get_set, all_anyC, all_anyP, key_get, cell_get, kid_get, encC, List.length_map, encN, ncs, Hp.set_set, Hp.get_set, if_true, if_false, List.append_eq_nil_iff, hg0_0, hH, hgc, hgd, hra, hrb, hl, hK0, n1, n2, hgw, h9]
           (repeat refine And.intro (by first | (unfold Go.Vm.room; and_intros <;> (try simp only [List.length_map, List.length_append, List.length_cons, List.length_nil, List.length_take, List.length_drop]) <;> omega) | omega | (simp; done) | (simp_all; done) | (simp_all; omega)) ?_)
           all_goals try (first | refine guardT 106 rfl (fun hc => ?_) (fun hc => ?_) | refine guardF 106 rfl (fun hc => ?_) (fun hc => ?_)) <;> try simp only [push_cast] at hc
           all_goals try (exfalso; omega)
           all_goals try simp (maxSteps := 4000000) (disch := omega) only [push_cast, Nat.reduceLT, Nat.reduceEqDiff, Nat.reduceAdd, Nat.reduceMul, Nat.reduceSub, Nat.reduceLeDiff, Int.reduceToNat, Int.reduceLT, Int.reduceLE, Int.reduceAdd, Int.reduceSub, Int.reduceMul, Int.reduceNeg, Int.reduceEq, reduceCtorEq, Int.cast_ofNat_Int, Hp.get_set, all_anyC, all_anyP, key_get, cell_get, kid_get, encC, List.length_map, encN, ncs, Hp.set_set, Hp.get_set, if_true, if_false, List.append_eq_nil_iff, hg0_0, hH, hgc, hgd, hra, hrb, hl, hK0, n1, n2, hgw, h9]
           all_goals (repeat refine And.intro (by first | (unfold Go.Vm.room; and_intros <;> (try simp only [List.length_map, List.length_append, List.length_cons, List.length_nil, List.length_take, List.length_drop]) <;> omega) | omega | (simp; done) | (simp_all; done) | (simp_all; omega)) ?_)
           all_goals try (first | refine guardT 113 rfl (fun hc => ?_) (fun hc => ?_) | refine guardF 113 rfl (fun hc => ?_) (fun hc => ?_)) <;> try simp only [push_cast] at hc
           all_goals try (exfalso; omega)
           all_goals try simp (maxSteps := 4000000) (disch := omega) only [push_cast, Nat.reduceLT, Nat.reduceEqDiff, Nat.reduceAdd, Nat.reduceMul, Nat.reduceSub, Nat.reduceLeDiff, Int.reduceToNat, Int.reduceLT, Int.reduceLE, Int.reduceAdd, Int.reduceSub, Int.reduceMul, Int.reduceNeg, Int.reduceEq, reduceCtorEq, Int.cast_ofNat_Int, Hp.get_set, all_anyC, all_anyP, key_get, cell_get, kid_get, encC, List.length_map, encN, ncs, Hp.set_set, Hp.get_set, if_true, if_false, List.append_eq_nil_iff, hg0_0, hH, hgc, hgd, hra, hrb, hl, hK0, n1, n2, hgw, h9]
           all_goals (repeat refine And.intro (by first | (unfold Go.Vm.room; and_intros <;> (try simp only [List.length_map, List.length_append, List.length_cons, List.length_nil, List.length_take, List.length_drop]) <;> omega) | omega | (simp; done) | (simp_all; done) | (simp_all; omega)) ?_)
           all_goals
            refine Qk hK [1, 2, 5, 7, 117] ?_
            clear hK K
            refine CI rfl (fun hc => ?_) (fun hc => ?_)
            ·
             all_goals try (cases hc; done)
             all_goals try simp only [push_cast] at hc
             all_goals try (exfalso; omega)
             all_goals
              refine WS.seq ?_
              refine R0 fun K hK => ?_
              try simp (maxSteps := 4000000) (disch := omega) only [push_cast, Nat.reduceLT, Nat.reduceEqDiff, Hp.get_set, all_anyC, all_anyP, key_get, cell_get, kid_get, encC, List.length_map, encN, ncs, Hp.set_set, Hp.get_set, if_true, if_false, List.append_eq_nil_iff, hg0_0, hH, hgc, hgd, hra, hrb, hl, hK0, n1, n2, hgw, h9]
              refine callP alive_spec rfl ?_
              try simp (maxSteps := 4000000) (disch := omega) only [push_cast, Nat.reduceLT, Nat.reduceEqDiff, Hp.get_set, all_anyC, all_anyP, key_get, cell_get, kid_get, encC, List.length_map, encN, ncs, Hp.set_set, Hp.get_set, if_true, if_false, List.append_eq_nil_iff, hg0_0, hH, hgc, hgd, hra, hrb, hl, hK0, n1, n2, hgw, h9]
              refine Qk hK [4] ?_
              clear hK K
              refine Rt ?_
              refine hQ0 _ _ _ ?_
              try simp (maxSteps := 4000000) only [push_cast, Int.reduceToNat, Int.reduceLT, Int.reduceLE, Int.reduceAdd, Int.reduceSub, Int.reduceMul, Int.reduceNeg, Int.reduceEq, reduceCtorEq, Nat.reduceLeDiff, Nat.reduceLT, Nat.reduceEqDiff, Nat.reduceAdd, Nat.reduceMul, Nat.reduceSub, Int.cast_ofNat_Int, all_anyC, all_anyP, key_get, cell_get, kid_get, encC, List.length_map, encN, ncs, Hp.set_set, Hp.get_set, if_true, if_false, List.append_eq_nil_iff, hg0_0, hH, hgc, hgd, hra, hrb, hl, hK0, n1, n2, hgw, h9]
              first | done | rfl | (simp; done) | (simp_all; done) | (simp_all; omega)
            all_goals try (cases hc; done)
            all_goals try simp only [push_cast] at hc
            all_goals try (exfalso; omega)
            all_goals
             obtain ⟨a0, rfl⟩ := Int.eq_ofNat_of_zero_le (show 0 ≤ at_ by omega)
             have hat : a0 < n.keys.length := by omega
             have hz := hsz a0 hat
             have hrl := right_less hr hl hat
             have hcl := (shape_leaf (right_shape hr) hl).1
             refine Sk ?_
             refine WS.seq ?_
             refine RD [121, 126, 133, 138, 3000124, 3000130, 3000136, 3000142] [] fo (by kernel_rfl) fun K hK => ?_
             try simp (maxSteps := 4000000) (disch := omega) only [push_cast, Nat.reduceLT, Nat.reduceEqDiff, Nat.reduceAdd, Nat.reduceMul, Nat.reduceSub, Nat.reduceLeDiff, Int.reduceToNat, Int.reduceLT, Int.reduceLE, Int.reduceAdd, Int.reduceSub, Int.reduceMul, Int.reduceNeg, Int.reduceEq, reduceCtorEq, Int.cast_ofNat_Int, Hp.get_set, all_anyC, all_anyP, key_get, cell_get, kid_get, encC, List.length_map, encN, ncs, Hp.set_set, Hp.get_set, if_true, if_false, List.append_eq_nil_iff, hg0_0, hH, hgc, hgd, hra, hrb, hl, hK0, n1, n2, hgw, h9, hrl]
             (repeat refine And.intro (by first | (unfold Go.Vm.room; and_intros <;> (try simp only [List.length_map, List.length_append, List.length_cons, List.length_nil, List.length_take, List.length_drop]) <;> omega) | omega | (simp; done) | (simp_all; done) | (simp_all; omega)) ?_)
             try simp (maxSteps := 4000000) (disch := omega) only [push_cast, Nat.reduceLT, Nat.reduceEqDiff, Nat.reduceAdd, Nat.reduceMul, Nat.reduceSub, Nat.reduceLeDiff, Int.reduceToNat, Int.reduceLT, Int.reduceLE, Int.reduceAdd, Int.reduceSub, Int.reduceMul, Int.reduceNeg, Int.reduceEq, reduceCtorEq, Int.cast_ofNat_Int, Hp.get_set, all_anyC, all_anyP, key_get, cell_get, kid_get, encC, List.length_map, encN, ncs, Hp.set_set, Hp.get_set, if_true, if_false, List.append_eq_nil_iff, hg0_0, hH, hgc, hgd, hra, hrb, hl, hK0, n1, n2, hgw, h9, hrl]
             (repeat refine And.intro (by first | (unfold Go.Vm.room; and_intros <;> (try simp only [List.length_map, List.length_append, List.length_cons, List.length_nil, List.length_take, List.length_drop]) <;> omega) | omega | (simp; done) | (simp_all; done) | (simp_all; omega)) ?_)
             refine fun gj hgj => ?_
             try simp (maxSteps := 4000000) (disch := omega) only [push_cast, Nat.reduceLT, Nat.reduceEqDiff, Nat.reduceAdd, Nat.reduceMul, Nat.reduceSub, Nat.reduceLeDiff, Int.reduceToNat, Int.reduceLT, Int.reduceLE, Int.reduceAdd, Int.reduceSub, Int.reduceMul, Int.reduceNeg, Int.reduceEq, reduceCtorEq, Int.cast_ofNat_Int, Hp.get_set, all_anyC, all_anyP, key_get, cell_get, kid_get, encC, List.length_map, encN, ncs, Hp.set_set, Hp.get_set, if_true, if_false, List.append_eq_nil_iff, hg0_0, hH, hgc, hgd, hra, hrb, hl, hK0, n1, n2, hgw, h9, hrl]
             (repeat refine And.intro (by first | (unfold Go.Vm.room; and_intros <;> (try simp only [List.length_map, List.length_append, List.length_cons, List.length_nil, List.length_take, List.length_drop]) <;> omega) | omega | (simp; done) | (simp_all; done) | (simp_all; omega)) ?_)
             try simp (maxSteps := 4000000) (disch := omega) only [push_cast, Nat.reduceLT, Nat.reduceEqDiff, Nat.reduceAdd, Nat.reduceMul, Nat.reduceSub, Nat.reduceLeDiff, Int.reduceToNat, Int.reduceLT, Int.reduceLE, Int.reduceAdd, Int.reduceSub, Int.reduceMul, Int.reduceNeg, Int.reduceEq, reduceCtorEq, Int.cast_ofNat_Int, Hp.get_set, all_anyC, all_anyP, key_get, cell_get, kid_get, encC, List.length_map, encN, ncs, Hp.set_set, Hp.get_set, if_true, if_false, List.append_eq_nil_iff, hg0_0, hH, hgc, hgd, hra, hrb, hl, hK0, n1, n2, hgw, h9, hrl]
             (repeat refine And.intro (by first | (unfold Go.Vm.room; and_intros <;> (try simp only [List.length_map, List.length_append, List.length_cons, List.length_nil, List.length_take, List.length_drop]) <;> omega) | omega | (simp; done) | (simp_all; done) | (simp_all; omega)) ?_)
             try simp (maxSteps := 4000000) (disch := omega) only [push_cast, Nat.reduceLT, Nat.reduceEqDiff, Nat.reduceAdd, Nat.reduceMul, Nat.reduceSub, Nat.reduceLeDiff, Int.reduceToNat, Int.reduceLT, Int.reduceLE, Int.reduceAdd, Int.reduceSub, Int.reduceMul, Int.reduceNeg, Int.reduceEq, reduceCtorEq, Int.cast_ofNat_Int, Hp.get_set, all_anyC, all_anyP, key_get, cell_get, kid_get, encC, List.length_map, encN, ncs, Hp.set_set, Hp.get_set, if_true, if_false, List.append_eq_nil_iff, hg0_0, hH, hgc, hgd, hra, hrb, hl, hK0, n1, n2, hgw, h9, hrl]
             (repeat refine And.intro (by first | (unfold Go.Vm.room; and_intros <;> (try simp only [List.length_map, List.length_append, List.length_cons, List.length_nil, List.length_take, List.length_drop]) <;> omega) | omega | (simp; done) | (simp_all; done) | (simp_all; omega)) ?_)
             try simp (maxSteps := 4000000) (disch := omega) only [push_cast, Nat.reduceLT, Nat.reduceEqDiff, Nat.reduceAdd, Nat.reduceMul, Nat.reduceSub, Nat.reduceLeDiff, Int.reduceToNat, Int.reduceLT, Int.reduceLE, Int.reduceAdd, Int.reduceSub, Int.reduceMul, Int.reduceNeg, Int.reduceEq, reduceCtorEq, Int.cast_ofNat_Int, Hp.get_set, all_anyC, all_anyP, key_get, cell_get, kid_get, encC, List.length_map, encN, ncs, Hp.set_set, Hp.get_set, if_true, if_false, List.append_eq_nil_iff, hg0_0, hH, hgc, hgd, hra, hrb, hl, hK0, n1, n2, hgw, h9, hrl]
             (repeat refine And.intro (by first | (unfold Go.Vm.room; and_intros <;> (try simp only [List.length_map, List.length_append, List.length_cons, List.length_nil, List.length_take, List.length_drop]) <;> omega) | omega | (simp; done) | (simp_all; done) | (simp_all; omega)) ?_)
             refine fun gk hgk => ?_
             have n3 := Hp.set_none.1 hgk
             try simp (maxSteps := 4000000) (disch := omega) only [push_cast, Nat.reduceLT, Nat.reduceEqDiff, Nat.reduceAdd, Nat.reduceMul, Nat.reduceSub, Nat.reduceLeDiff, Int.reduceToNat, Int.reduceLT, Int.reduceLE, Int.reduceAdd, Int.reduceSub, Int.reduceMul, Int.reduceNeg, Int.reduceEq, reduceCtorEq, Int.cast_ofNat_Int, Hp.get_set, all_anyC, all_anyP, key_get, cell_get, kid_get, encC, List.length_map, encN, ncs, Hp.set_set, Hp.get_set, if_true, if_false, List.append_eq_nil_iff, hg0_0, hH, hgc, hgd, hra, hrb, hl, hK0, n1, n2, hgw, h9, hrl, n3]
             (repeat refine And.intro (by first | (unfold Go.Vm.room; and_intros <;> (try simp only [List.length_map, List.length_append, List.length_cons, List.length_nil, List.length_take, List.length_drop]) <;> omega) | omega | (simp; done) | (simp_all; done) | (simp_all; omega)) ?_)
             try simp (maxSteps := 4000000) (disch := omega) only [push_cast, Nat.reduceLT, Nat.reduceEqDiff, Nat.reduceAdd, Nat.reduceMul, Nat.reduceSub, Nat.reduceLeDiff, Int.reduceToNat, Int.reduceLT, Int.reduceLE, Int.reduceAdd, Int.reduceSub, Int.reduceMul, Int.reduceNeg, Int.reduceEq, reduceCtorEq, Int.cast_ofNat_Int, Hp.get_set, all_anyC, all_anyP, key_get, cell_get, kid_get, encC, List.length_map, encN, ncs, Hp.set_set, Hp.get_set, if_true, if_false, List.append_eq_nil_iff, hg0_0, hH, hgc, hgd, hra, hrb, hl, hK0, n1, n2, hgw, h9, hrl, n3]
             (repeat refine And.intro (by first | (unfold Go.Vm.room; and_intros <;> (try simp only [List.length_map, List.length_append, List.length_cons, List.length_nil, List.length_take, List.length_drop]) <;> omega) | omega | (simp; done) | (simp_all; done) | (simp_all; omega)) ?_)
             try simp (maxSteps := 4000000) (disch := omega) only [push_cast, Nat.reduceLT, Nat.reduceEqDiff, Nat.reduceAdd, Nat.reduceMul, Nat.reduceSub, Nat.reduceLeDiff, Int.reduceToNat, Int.reduceLT, Int.reduceLE, Int.reduceAdd, Int.reduceSub, Int.reduceMul, Int.reduceNeg, Int.reduceEq, reduceCtorEq, Int.cast_ofNat_Int, Hp.get_set, all_anyC, all_anyP, key_get, cell_get, kid_get, encC, List.length_map, encN, ncs, Hp.set_set, Hp.get_set, if_true, if_false, List.append_eq_nil_iff, hg0_0, hH, hgc, hgd, hra, hrb, hl, hK0, n1, n2, hgw, h9, hrl, n3]
             (repeat refine And.intro (by first | (unfold Go.Vm.room; and_intros <;> (try simp only [List.length_map, List.length_append, List.length_cons, List.length_nil, List.length_take, List.length_drop]) <;> omega) | omega | (simp; done) | (simp_all; done) | (simp_all; omega)) ?_)
             try simp (maxSteps := 4000000) (disch := omega) only [push_cast, Nat.reduceLT, Nat.reduceEqDiff, Nat.reduceAdd, Nat.reduceMul, Nat.reduceSub, Nat.reduceLeDiff, Int.reduceToNat, Int.reduceLT, Int.reduceLE, Int.reduceAdd, Int.reduceSub, Int.reduceMul, Int.reduceNeg, Int.reduceEq, reduceCtorEq, Int.cast_ofNat_Int, Hp.get_set, all_anyC, all_anyP, key_get, cell_get, kid_get, encC, List.length_map, encN, ncs, Hp.set_set, Hp.get_set, if_true, if_false, List.append_eq_nil_iff, hg0_0, hH, hgc, hgd, hra, hrb, hl, hK0, n1, n2, hgw, h9, hrl, n3]
             (repeat refine And.intro (by first | (unfold Go.Vm.room; and_intros <;> (try simp only [List.length_map, List.length_append, List.length_cons, List.length_nil, List.length_take, List.length_drop]) <;> omega) | omega | (simp; done) | (simp_all; done) | (simp_all; omega)) ?_)
             refine fun gx hgx => ?_
             try simp only [Hp.set_none, Hp.join_none_iff] at hgx
             have nh9_x := Hp.ne_get h9 (by first | exact hgx | exact hgx.2.2 | exact hgx.2.2.2.2 | exact hgx.2.2.2.2.2.2 | simp_all)
             try simp (maxSteps := 4000000) (disch := omega) only [push_cast, Nat.reduceLT, Nat.reduceEqDiff, Nat.reduceAdd, Nat.reduceMul, Nat.reduceSub, Nat.reduceLeDiff, Int.reduceToNat, Int.reduceLT, Int.reduceLE, Int.reduceAdd, Int.reduceSub, Int.reduceMul, Int.reduceNeg, Int.reduceEq, reduceCtorEq, Int.cast_ofNat_Int, Hp.get_set, all_anyC, all_anyP, key_get, cell_get, kid_get, encC, List.length_map, encN, ncs, Hp.set_set, Hp.get_set, if_true, if_false, List.append_eq_nil_iff, hg0_0, hH, hgc, hgd, hra, hrb, hl, hK0, n1, n2, hgw, h9, hrl, n3, hgx, nh9_x]
             (repeat refine And.intro (by first | (unfold Go.Vm.room; and_intros <;> (try simp only [List.length_map, List.length_append, List.length_cons, List.length_nil, List.length_take, List.length_drop]) <;> omega) | omega | (simp; done) | (simp_all; done) | (simp_all; omega)) ?_)
             try simp (maxSteps := 4000000) (disch := omega) only [push_cast, Nat.reduceLT, Nat.reduceEqDiff, Nat.reduceAdd, Nat.reduceMul, Nat.reduceSub, Nat.reduceLeDiff, Int.reduceToNat, Int.reduceLT, Int.reduceLE, Int.reduceAdd, Int.reduceSub, Int.reduceMul, Int.reduceNeg, Int.reduceEq, reduceCtorEq, Int.cast_ofNat_Int, Hp.get_set, all_anyC, all_anyP, key_get, cell_get, kid_get, encC, List.length_map, encN, ncs, Hp.set_set, Hp.get_set, if_true, if_false, List.append_eq_nil_iff, hg0_0, hH, hgc, hgd, hra, hrb, hl, hK0, n1, n2, hgw, h9, hrl, n3, hgx, nh9_x]
             (repeat refine And.intro (by first | (unfold Go.Vm.room; and_intros <;> (try simp only [List.length_map, List.length_append, List.length_cons, List.length_nil, List.length_take, List.length_drop]) <;> omega) | omega | (simp; done) | (simp_all; done) | (simp_all; omega)) ?_)
             refine Qk hK [5, 7, 10] ?_
             clear hK K
             refine S_wkH (g := gx) (Hp.get_set_same _ _ _) (l' := ncs (lessN n a0)) ⟨Wk.refl _, Wk.untag' (er_map n.keys a0), Wk.untag' (er_map n.cells a0), Wk.nil 0 1 .full, trivial⟩ rfl ?_
             refine S_abs (fun τ => τ.get gx = some (.cells (ncs (lessN n a0)))) (Hp.get_set_same _ _ _) (fun τ h9 => ?_)
             simp only [ncs] at h9
             refine WS.seq ?_
             refine R0 fun K hK => ?_
             try simp (maxSteps := 4000000) (disch := omega) only [push_cast, Nat.reduceLT, Nat.reduceEqDiff, Nat.reduceAdd, Nat.reduceMul, Nat.reduceSub, Nat.reduceLeDiff, Int.reduceToNat, Int.reduceLT, Int.reduceLE, Int.reduceAdd, Int.reduceSub, Int.reduceMul, Int.reduceNeg, Int.reduceEq, reduceCtorEq, Int.cast_ofNat_Int, Hp.get_set, all_anyC, all_anyP, key_get, cell_get, kid_get, encC, List.length_map, encN, ncs, Hp.set_set, Hp.get_set, if_true, if_false, List.append_eq_nil_iff, hg0_0, hH, hgc, hgd, hra, hrb, hl, hK0, n1, n2, hgw, hrl, n3, hgx, nh9_x, h9]
             (repeat refine And.intro (by first | (unfold Go.Vm.room; and_intros <;> (try simp only [List.length_map, List.length_append, List.length_cons, List.length_nil, List.length_take, List.length_drop]) <;> omega) | omega | (simp; done) | (simp_all; done) | (simp_all; omega)) ?_)
             refine callP alive_spec rfl ?_
             try simp (maxSteps := 4000000) (disch := omega) only [push_cast, Nat.reduceLT, Nat.reduceEqDiff, Nat.reduceAdd, Nat.reduceMul, Nat.reduceSub, Nat.reduceLeDiff, Int.reduceToNat, Int.reduceLT, Int.reduceLE, Int.reduceAdd, Int.reduceSub, Int.reduceMul, Int.reduceNeg, Int.reduceEq, reduceCtorEq, Int.cast_ofNat_Int, Hp.get_set, all_anyC, all_anyP, key_get, cell_get, kid_get, encC, List.length_map, encN, ncs, Hp.set_set, Hp.get_set, if_true, if_false, List.append_eq_nil_iff, hg0_0, hH, hgc, hgd, hra, hrb, hl, hK0, n1, n2, hgw, hrl, n3, hgx, nh9_x, h9]
             (repeat refine And.intro (by first | (unfold Go.Vm.room; and_intros <;> (try simp only [List.length_map, List.length_append, List.length_cons, List.length_nil, List.length_take, List.length_drop]) <;> omega) | omega | (simp; done) | (simp_all; done) | (simp_all; omega)) ?_)
             all_goals try (first | refine guardT 145 rfl (fun hc => ?_) (fun hc => ?_) | refine guardF 145 rfl (fun hc => ?_) (fun hc => ?_)) <;> try simp only [push_cast] at hc
             all_goals try (exfalso; omega)
             all_goals try simp (maxSteps := 4000000) (disch := omega) only [push_cast, Nat.reduceLT, Nat.reduceEqDiff, Nat.reduceAdd, Nat.reduceMul, Nat.reduceSub, Nat.reduceLeDiff, Int.reduceToNat, Int.reduceLT, Int.reduceLE, Int.reduceAdd, Int.reduceSub, Int.reduceMul, Int.reduceNeg, Int.reduceEq, reduceCtorEq, Int.cast_ofNat_Int, Hp.get_set, all_anyC, all_anyP, key_get, cell_get, kid_get, encC, List.length_map, encN, ncs, Hp.set_set, Hp.get_set, if_true, if_false, List.append_eq_nil_iff, hg0_0, hH, hgc, hgd, hra, hrb, hl, hK0, n1, n2, hgw, hrl, n3, hgx, nh9_x, h9]
             all_goals (repeat refine And.intro (by first | (unfold Go.Vm.room; and_intros <;> (try simp only [List.length_map, List.length_append, List.length_cons, List.length_nil, List.length_take, List.length_drop]) <;> omega) | omega | (simp; done) | (simp_all; done) | (simp_all; omega)) ?_)
             all_goals try (
               refine callP (Size_spec (lessN n a0) (sm_less hsm _)) rfl ?_)
             all_goals try simp (maxSteps := 4000000) (disch := omega) only [push_cast, Nat.reduceLT, Nat.reduceEqDiff, Nat.reduceAdd, Nat.reduceMul, Nat.reduceSub, Nat.reduceLeDiff, Int.reduceToNat, Int.reduceLT, Int.reduceLE, Int.reduceAdd, Int.reduceSub, Int.reduceMul, Int.reduceNeg, Int.reduceEq, reduceCtorEq, Int.cast_ofNat_Int, Hp.get_set, all_anyC, all_anyP, key_get, cell_get, kid_get, encC, List.length_map, encN, ncs, Hp.set_set, Hp.get_set, if_true, if_false, List.append_eq_nil_iff, hg0_0, hH, hgc, hgd, hra, hrb, hl, hK0, n1, n2, hgw, hrl, n3, hgx, nh9_x, h9]
             all_goals (repeat refine And.intro (by first | (unfold Go.Vm.room; and_intros <;> (try simp only [List.length_map, List.length_append, List.length_cons, List.length_nil, List.length_take, List.length_drop]) <;> omega) | omega | (simp; done) | (simp_all; done) | (simp_all; omega)) ?_)
             all_goals try (first | refine guardT 149 rfl (fun hc => ?_) (fun hc => ?_) | refine guardF 149 rfl (fun hc => ?_) (fun hc => ?_)) <;> try simp only [push_cast] at hc
             all_goals try (exfalso; omega)
             all_goals try simp (maxSteps := 4000000) (disch := omega) only [push_cast, Nat.reduceLT, Nat.reduceEqDiff, Nat.reduceAdd, Nat.reduceMul, Nat.reduceSub, Nat.reduceLeDiff, Int.reduceToNat, Int.reduceLT, Int.reduceLE, Int.reduceAdd, Int.reduceSub, Int.reduceMul, Int.reduceNeg, Int.reduceEq, reduceCtorEq, Int.cast_ofNat_Int, Hp.get_set, all_anyC, all_anyP, key_get, cell_get, kid_get, encC, List.length_map, encN, ncs, Hp.set_set, Hp.get_set, if_true, if_false, List.append_eq_nil_iff, hg0_0, hH, hgc, hgd, hra, hrb, hl, hK0, n1, n2, hgw, hrl, n3, hgx, nh9_x, h9]
             all_goals (repeat refine And.intro (by first | (unfold Go.Vm.room; and_intros <;> (try simp only [List.length_map, List.length_append, List.length_cons, List.length_nil, List.length_take, List.length_drop]) <;> omega) | omega | (simp; done) | (simp_all; done) | (simp_all; omega)) ?_)
             all_goals try (
               refine callP (Size_spec A hsa) rfl ?_)
             all_goals try simp (maxSteps := 4000000) (disch := omega) only [push_cast, Nat.reduceLT, Nat.reduceEqDiff, Nat.reduceAdd, Nat.reduceMul, Nat.reduceSub, Nat.reduceLeDiff, Int.reduceToNat, Int.reduceLT, Int.reduceLE, Int.reduceAdd, Int.reduceSub, Int.reduceMul, Int.reduceNeg, Int.reduceEq, reduceCtorEq, Int.cast_ofNat_Int, Hp.get_set, all_anyC, all_anyP, key_get, cell_get, kid_get, encC, List.length_map, encN, ncs, Hp.set_set, Hp.get_set, if_true, if_false, List.append_eq_nil_iff, hg0_0, hH, hgc, hgd, hra, hrb, hl, hK0, n1, n2, hgw, hrl, n3, hgx, nh9_x, h9]
             all_goals (repeat refine And.intro (by first | (unfold Go.Vm.room; and_intros <;> (try simp only [List.length_map, List.length_append, List.length_cons, List.length_nil, List.length_take, List.length_drop]) <;> omega) | omega | (simp; done) | (simp_all; done) | (simp_all; omega)) ?_)
             all_goals try (first | refine guardT 153 rfl (fun hc => ?_) (fun hc => ?_) | refine guardF 153 rfl (fun hc => ?_) (fun hc => ?_)) <;> try simp only [push_cast] at hc
             all_goals try (exfalso; omega)
             all_goals try simp (maxSteps := 4000000) (disch := omega) only [push_cast, Nat.reduceLT, Nat.reduceEqDiff, Nat.reduceAdd, Nat.reduceMul, Nat.reduceSub, Nat.reduceLeDiff, Int.reduceToNat, Int.reduceLT, Int.reduceLE, Int.reduceAdd, Int.reduceSub, Int.reduceMul, Int.reduceNeg, Int.reduceEq, reduceCtorEq, Int.cast_ofNat_Int, Hp.get_set, all_anyC, all_anyP, key_get, cell_get, kid_get, encC, List.length_map, encN, ncs, Hp.set_set, Hp.get_set, if_true, if_false, List.append_eq_nil_iff, hg0_0, hH, hgc, hgd, hra, hrb, hl, hK0, n1, n2, hgw, hrl, n3, hgx, nh9_x, h9]
             all_goals (repeat refine And.intro (by first | (unfold Go.Vm.room; and_intros <;> (try simp only [List.length_map, List.length_append, List.length_cons, List.length_nil, List.length_take, List.length_drop]) <;> omega) | omega | (simp; done) | (simp_all; done) | (simp_all; omega)) ?_)
             all_goals try (
               refine callP (Size_spec B hsb) rfl ?_)
             all_goals try simp (maxSteps := 4000000) (disch := omega) only [push_cast, Nat.reduceLT, Nat.reduceEqDiff, Nat.reduceAdd, Nat.reduceMul, Nat.reduceSub, Nat.reduceLeDiff, Int.reduceToNat, Int.reduceLT, Int.reduceLE, Int.reduceAdd, Int.reduceSub, Int.reduceMul, Int.reduceNeg, Int.reduceEq, reduceCtorEq, Int.cast_ofNat_Int, Hp.get_set, all_anyC, all_anyP, key_get, cell_get, kid_get, encC, List.length_map, encN, ncs, Hp.set_set, Hp.get_set, if_true, if_false, List.append_eq_nil_iff, hg0_0, hH, hgc, hgd, hra, hrb, hl, hK0, n1, n2, hgw, hrl, n3, hgx, nh9_x, h9]
             all_goals (repeat refine And.intro (by first | (unfold Go.Vm.room; and_intros <;> (try simp only [List.length_map, List.length_append, List.length_cons, List.length_nil, List.length_take, List.length_drop]) <;> omega) | omega | (simp; done) | (simp_all; done) | (simp_all; omega)) ?_)
             all_goals
              refine Qk hK [4] ?_
              clear hK K
              refine Rt ?_
              refine hQ0 _ _ _ ?_
              try simp (maxSteps := 4000000) only [push_cast, Int.reduceToNat, Int.reduceLT, Int.reduceLE, Int.reduceAdd, Int.reduceSub, Int.reduceMul, Int.reduceNeg, Int.reduceEq, reduceCtorEq, Nat.reduceLeDiff, Nat.reduceLT, Nat.reduceEqDiff, Nat.reduceAdd, Nat.reduceMul, Nat.reduceSub, Int.cast_ofNat_Int, all_anyC, all_anyP, key_get, cell_get, kid_get, encC, List.length_map, encN, ncs, Hp.set_set, Hp.get_set, if_true, if_false, List.append_eq_nil_iff, hg0_0, hH, hgc, hgd, hra, hrb, hl, hK0, n1, n2, hgw, hrl, n3, hgx, nh9_x, h9]
              first | done | rfl | exact congrArg V.bool (decide_eq_true (by omega)) | (simp_all; done) | (simp_all; omega)
       ·
        all_goals try (cases hc; done)
        all_goals try simp only [push_cast] at hc
        all_goals try (exfalso; omega)
        all_goals
         refine Sk ?_
         refine WS.seq ?_
         refine R0 fun K hK => ?_
         try simp (maxSteps := 4000000) (disch := omega) only [push_cast, Nat.reduceLT, Nat.reduceEqDiff, Nat.reduceAdd, Nat.reduceMul, Nat.reduceSub, Nat.reduceLeDiff, Int.reduceToNat, Int.reduceLT, Int.reduceLE, Int.reduceAdd, Int.reduceSub, Int.reduceMul, Int.reduceNeg, Int.reduceEq, reduceCtorEq, Int.cast_ofNat_Int, Hp.get_set, all_anyC, all_anyP, key_get, cell_get, kid_get, encC, List.length_map, encN, ncs, Hp.set_set, Hp.get_set, if_true, if_false, List.append_eq_nil_iff, hg0_0, hH, hgc, hgd, hra, hrb, hl, hK0]
         (repeat refine And.intro (by first | (unfold Go.Vm.room; and_intros <;> (try simp only [List.length_map, List.length_append, List.length_cons, List.length_nil, List.length_take, List.length_drop]) <;> omega) | omega | (simp; done) | (simp_all; done) | (simp_all; omega)) ?_)
         try simp (maxSteps := 4000000) (disch := omega) only [push_cast, Nat.reduceLT, Nat.reduceEqDiff, Nat.reduceAdd, Nat.reduceMul, Nat.reduceSub, Nat.reduceLeDiff, Int.reduceToNat, Int.reduceLT, Int.reduceLE, Int.reduceAdd, Int.reduceSub, Int.reduceMul, Int.reduceNeg, Int.reduceEq, reduceCtorEq, Int.cast_ofNat_Int, Hp.get_set, all_anyC, all_anyP, key_get, cell_get, kid_get, encC, List.length_map, encN, ncs, Hp.set_set, Hp.get_set, if_true, if_false, List.append_eq_nil_iff, hg0_0, hH, hgc, hgd, hra, hrb, hl, hK0]
         (repeat refine And.intro (by first | (unfold Go.Vm.room; and_intros <;> (try simp only [List.length_map, List.length_append, List.length_cons, List.length_nil, List.length_take, List.length_drop]) <;> omega) | omega | (simp; done) | (simp_all; done) | (simp_all; omega)) ?_)
         try simp (maxSteps := 4000000) (disch := omega) only [push_cast, Nat.reduceLT, Nat.reduceEqDiff, Nat.reduceAdd, Nat.reduceMul, Nat.reduceSub, Nat.reduceLeDiff, Int.reduceToNat, Int.reduceLT, Int.reduceLE, Int.reduceAdd, Int.reduceSub, Int.reduceMul, Int.reduceNeg, Int.reduceEq, reduceCtorEq, Int.cast_ofNat_Int, Hp.get_set, all_anyC, all_anyP, key_get, cell_get, kid_get, encC, List.length_map, encN, ncs, Hp.set_set, Hp.get_set, if_true, if_false, List.append_eq_nil_iff, hg0_0, hH, hgc, hgd, hra, hrb, hl, hK0]
         (repeat refine And.intro (by first | (unfold Go.Vm.room; and_intros <;> (try simp only [List.length_map, List.length_append, List.length_cons, List.length_nil, List.length_take, List.length_drop]) <;> omega) | omega | (simp; done) | (simp_all; done) | (simp_all; omega)) ?_)
         try simp (maxSteps := 4000000) (disch := omega) only [push_cast, Nat.reduceLT, Nat.reduceEqDiff, Nat.reduceAdd, Nat.reduceMul, Nat.reduceSub, Nat.reduceLeDiff, Int.reduceToNat, Int.reduceLT, Int.reduceLE, Int.reduceAdd, Int.reduceSub, Int.reduceMul, Int.reduceNeg, Int.reduceEq, reduceCtorEq, Int.cast_ofNat_Int, Hp.get_set, all_anyC, all_anyP, key_get, cell_get, kid_get, encC, List.length_map, encN, ncs, Hp.set_set, Hp.get_set, if_true, if_false, List.append_eq_nil_iff, hg0_0, hH, hgc, hgd, hra, hrb, hl, hK0]
         (repeat refine And.intro (by first | (unfold Go.Vm.room; and_intros <;> (try simp only [List.length_map, List.length_append, List.length_cons, List.length_nil, List.length_take, List.length_drop]) <;> omega) | omega | (simp; done) | (simp_all; done) | (simp_all; omega)) ?_)
         refine Qk hK [1, 2, 5, 6, 7, 8] ?_
         clear hK K
         refine WS.seq ?_
         refine RD [71, 75, 78, 82, 85, 3000076, 3000079, 3000083, 3000086] [] fo (by kernel_rfl) fun K hK => ?_
         try simp (maxSteps := 4000000) (disch := omega) only [push_cast, Nat.reduceLT, Nat.reduceEqDiff, Nat.reduceAdd, Nat.reduceMul, Nat.reduceSub, Nat.reduceLeDiff, Int.reduceToNat, Int.reduceLT, Int.reduceLE, Int.reduceAdd, Int.reduceSub, Int.reduceMul, Int.reduceNeg, Int.reduceEq, reduceCtorEq, Int.cast_ofNat_Int, Hp.get_set, all_anyC, all_anyP, key_get, cell_get, kid_get, encC, List.length_map, encN, ncs, Hp.set_set, Hp.get_set, if_true, if_false, List.append_eq_nil_iff, hg0_0, hH, hgc, hgd, hra, hrb, hl, hK0]
         (repeat refine And.intro (by first | (unfold Go.Vm.room; and_intros <;> (try simp only [List.length_map, List.length_append, List.length_cons, List.length_nil, List.length_take, List.length_drop]) <;> omega) | omega | (simp; done) | (simp_all; done) | (simp_all; omega)) ?_)
         try simp (maxSteps := 4000000) (disch := omega) only [push_cast, Nat.reduceLT, Nat.reduceEqDiff, Nat.reduceAdd, Nat.reduceMul, Nat.reduceSub, Nat.reduceLeDiff, Int.reduceToNat, Int.reduceLT, Int.reduceLE, Int.reduceAdd, Int.reduceSub, Int.reduceMul, Int.reduceNeg, Int.reduceEq, reduceCtorEq, Int.cast_ofNat_Int, Hp.get_set, all_anyC, all_anyP, key_get, cell_get, kid_get, encC, List.length_map, encN, ncs, Hp.set_set, Hp.get_set, if_true, if_false, List.append_eq_nil_iff, hg0_0, hH, hgc, hgd, hra, hrb, hl, hK0]
         (repeat refine And.intro (by first | (unfold Go.Vm.room; and_intros <;> (try simp only [List.length_map, List.length_append, List.length_cons, List.length_nil, List.length_take, List.length_drop]) <;> omega) | omega | (simp; done) | (simp_all; done) | (simp_all; omega)) ?_)
         refine fun gf hgf => ?_
         have n1 := Hp.ne_get (Hp.get_set_same _ _ _) hgf
         try simp (maxSteps := 4000000) (disch := omega) only [push_cast, Nat.reduceLT, Nat.reduceEqDiff, Nat.reduceAdd, Nat.reduceMul, Nat.reduceSub, Nat.reduceLeDiff, Int.reduceToNat, Int.reduceLT, Int.reduceLE, Int.reduceAdd, Int.reduceSub, Int.reduceMul, Int.reduceNeg, Int.reduceEq, reduceCtorEq, Int.cast_ofNat_Int, Hp.get_set, all_anyC, all_anyP, key_get, cell_get, kid_get, encC, List.length_map, encN, ncs, Hp.set_set, Hp.get_set, if_true, if_false, List.append_eq_nil_iff, hg0_0, hH, hgc, hgd, hra, hrb, hl, hK0, n1]
         (repeat refine And.intro (by first | (unfold Go.Vm.room; and_intros <;> (try simp only [List.length_map, List.length_append, List.length_cons, List.length_nil, List.length_take, List.length_drop]) <;> omega) | omega | (simp; done) | (simp_all; done) | (simp_all; omega)) ?_)
         try simp (maxSteps := 4000000) (disch := omega) only [push_cast, Nat.reduceLT, Nat.reduceEqDiff, Nat.reduceAdd, Nat.reduceMul, Nat.reduceSub, Nat.reduceLeDiff, Int.reduceToNat, Int.reduceLT, Int.reduceLE, Int.reduceAdd, Int.reduceSub, Int.reduceMul, Int.reduceNeg, Int.reduceEq, reduceCtorEq, Int.cast_ofNat_Int, Hp.get_set, all_anyC, all_anyP, key_get, cell_get, kid_get, encC, List.length_map, encN, ncs, Hp.set_set, Hp.get_set, if_true, if_false, List.append_eq_nil_iff, hg0_0, hH, hgc, hgd, hra, hrb, hl, hK0, n1]
         (repeat refine And.intro (by first | (unfold Go.Vm.room; and_intros <;> (try simp only [List.length_map, List.length_append, List.length_cons, List.length_nil, List.length_take, List.length_drop]) <;> omega) | omega | (simp; done) | (simp_all; done) | (simp_all; omega)) ?_)
         try simp (maxSteps := 4000000) (disch := omega) only [push_cast, Nat.reduceLT, Nat.reduceEqDiff, Nat.reduceAdd, Nat.reduceMul, Nat.reduceSub, Nat.reduceLeDiff, Int.reduceToNat, Int.reduceLT, Int.reduceLE, Int.reduceAdd, Int.reduceSub, Int.reduceMul, Int.reduceNeg, Int.reduceEq, reduceCtorEq, Int.cast_ofNat_Int, Hp.get_set, all_anyC, all_anyP, key_get, cell_get, kid_get, encC, List.length_map, encN, ncs, Hp.set_set, Hp.get_set, if_true, if_false, List.append_eq_nil_iff, hg0_0, hH, hgc, hgd, hra, hrb, hl, hK0, n1]
         (repeat refine And.intro (by first | (unfold Go.Vm.room; and_intros <;> (try simp only [List.length_map, List.length_append, List.length_cons, List.length_nil, List.length_take, List.length_drop]) <;> omega) | omega | (simp; done) | (simp_all; done) | (simp_all; omega)) ?_)
         try simp (maxSteps := 4000000) (disch := omega) only [push_cast, Nat.reduceLT, Nat.reduceEqDiff, Nat.reduceAdd, Nat.reduceMul, Nat.reduceSub, Nat.reduceLeDiff, Int.reduceToNat, Int.reduceLT, Int.reduceLE, Int.reduceAdd, Int.reduceSub, Int.reduceMul, Int.reduceNeg, Int.reduceEq, reduceCtorEq, Int.cast_ofNat_Int, Hp.get_set, all_anyC, all_anyP, key_get, cell_get, kid_get, encC, List.length_map, encN, ncs, Hp.set_set, Hp.get_set, if_true, if_false, List.append_eq_nil_iff, hg0_0, hH, hgc, hgd, hra, hrb, hl, hK0, n1]
         (repeat refine And.intro (by first | (unfold Go.Vm.room; and_intros <;> (try simp only [List.length_map, List.length_append, List.length_cons, List.length_nil, List.length_take, List.length_drop]) <;> omega) | omega | (simp; done) | (simp_all; done) | (simp_all; omega)) ?_)
         refine fun gi hgi => ?_
         have n2 := Hp.set_none.1 hgi
         try simp (maxSteps := 4000000) (disch := omega) only [push_cast, Nat.reduceLT, Nat.reduceEqDiff, Nat.reduceAdd, Nat.reduceMul, Nat.reduceSub, Nat.reduceLeDiff, Int.reduceToNat, Int.reduceLT, Int.reduceLE, Int.reduceAdd, Int.reduceSub, Int.reduceMul, Int.reduceNeg, Int.reduceEq, reduceCtorEq, Int.cast_ofNat_Int, Hp.get_set, all_anyC, all_anyP, key_get, cell_get, kid_get, encC, List.length_map, encN, ncs, Hp.set_set, Hp.get_set, if_true, if_false, List.append_eq_nil_iff, hg0_0, hH, hgc, hgd, hra, hrb, hl, hK0, n1, n2]
         (repeat refine And.intro (by first | (unfold Go.Vm.room; and_intros <;> (try simp only [List.length_map, List.length_append, List.length_cons, List.length_nil, List.length_take, List.length_drop]) <;> omega) | omega | (simp; done) | (simp_all; done) | (simp_all; omega)) ?_)
         try simp (maxSteps := 4000000) (disch := omega) only [push_cast, Nat.reduceLT, Nat.reduceEqDiff, Nat.reduceAdd, Nat.reduceMul, Nat.reduceSub, Nat.reduceLeDiff, Int.reduceToNat, Int.reduceLT, Int.reduceLE, Int.reduceAdd, Int.reduceSub, Int.reduceMul, Int.reduceNeg, Int.reduceEq, reduceCtorEq, Int.cast_ofNat_Int, Hp.get_set, all_anyC, all_anyP, key_get, cell_get, kid_get, encC, List.length_map, encN, ncs, Hp.set_set, Hp.get_set, if_true, if_false, List.append_eq_nil_iff, hg0_0, hH, hgc, hgd, hra, hrb, hl, hK0, n1, n2]
         (repeat refine And.intro (by first | (unfold Go.Vm.room; and_intros <;> (try simp only [List.length_map, List.length_append, List.length_cons, List.length_nil, List.length_take, List.length_drop]) <;> omega) | omega | (simp; done) | (simp_all; done) | (simp_all; omega)) ?_)
         try simp (maxSteps := 4000000) (disch := omega) only [push_cast, Nat.reduceLT, Nat.reduceEqDiff, Nat.reduceAdd, Nat.reduceMul, Nat.reduceSub, Nat.reduceLeDiff, Int.reduceToNat, Int.reduceLT, Int.reduceLE, Int.reduceAdd, Int.reduceSub, Int.reduceMul, Int.reduceNeg, Int.reduceEq, reduceCtorEq, Int.cast_ofNat_Int, Hp.get_set, all_anyC, all_anyP, key_get, cell_get, kid_get, encC, List.length_map, encN, ncs, Hp.set_set, Hp.get_set, if_true, if_false, List.append_eq_nil_iff, hg0_0, hH, hgc, hgd, hra, hrb, hl, hK0, n1, n2]
         (repeat refine And.intro (by first | (unfold Go.Vm.room; and_intros <;> (try simp only [List.length_map, List.length_append, List.length_cons, List.length_nil, List.length_take, List.length_drop]) <;> omega) | omega | (simp; done) | (simp_all; done) | (simp_all; omega)) ?_)
         try simp (maxSteps := 4000000) (disch := omega) only [push_cast, Nat.reduceLT, Nat.reduceEqDiff, Nat.reduceAdd, Nat.reduceMul, Nat.reduceSub, Nat.reduceLeDiff, Int.reduceToNat, Int.reduceLT, Int.reduceLE, Int.reduceAdd, Int.reduceSub, Int.reduceMul, Int.reduceNeg, Int.reduceEq, reduceCtorEq, Int.cast_ofNat_Int, Hp.get_set, all_anyC, all_anyP, key_get, cell_get, kid_get, encC, List.length_map, encN, ncs, Hp.set_set, Hp.get_set, if_true, if_false, List.append_eq_nil_iff, hg0_0, hH, hgc, hgd, hra, hrb, hl, hK0, n1, n2]
         (repeat refine And.intro (by first | (unfold Go.Vm.room; and_intros <;> (try simp only [List.length_map, List.length_append, List.length_cons, List.length_nil, List.length_take, List.length_drop]) <;> omega) | omega | (simp; done) | (simp_all; done) | (simp_all; omega)) ?_)
         refine fun gw hgw => ?_
         try simp only [Hp.set_none, Hp.join_none_iff] at hgw
         try simp (maxSteps := 4000000) (disch := omega) only [push_cast, Nat.reduceLT, Nat.reduceEqDiff, Nat.reduceAdd, Nat.reduceMul, Nat.reduceSub, Nat.reduceLeDiff, Int.reduceToNat, Int.reduceLT, Int.reduceLE, Int.reduceAdd, Int.reduceSub, Int.reduceMul, Int.reduceNeg, Int.reduceEq, reduceCtorEq, Int.cast_ofNat_Int, Hp.get_set, all_anyC, all_anyP, key_get, cell_get, kid_get, encC, List.length_map, encN, ncs, Hp.set_set, Hp.get_set, if_true, if_false, List.append_eq_nil_iff, hg0_0, hH, hgc, hgd, hra, hrb, hl, hK0, n1, n2, hgw]
         (repeat refine And.intro (by first | (unfold Go.Vm.room; and_intros <;> (try simp only [List.length_map, List.length_append, List.length_cons, List.length_nil, List.length_take, List.length_drop]) <;> omega) | omega | (simp; done) | (simp_all; done) | (simp_all; omega)) ?_)
         try simp (maxSteps := 4000000) (disch := omega) only [push_cast, Nat.reduceLT, Nat.reduceEqDiff, Nat.reduceAdd, Nat.reduceMul, Nat.reduceSub, Nat.reduceLeDiff, Int.reduceToNat, Int.reduceLT, Int.reduceLE, Int.reduceAdd, Int.reduceSub, Int.reduceMul, Int.reduceNeg, Int.reduceEq, reduceCtorEq, Int.cast_ofNat_Int, Hp.get_set, all_anyC, all_anyP, key_get, cell_get, kid_get, encC, List.length_map, encN, ncs, Hp.set_set, Hp.get_set, if_true, if_false, List.append_eq_nil_iff, hg0_0, hH, hgc, hgd, hra, hrb, hl, hK0, n1, n2, hgw]
         (repeat refine And.intro (by first | (unfold Go.Vm.room; and_intros <;> (try simp only [List.length_map, List.length_append, List.length_cons, List.length_nil, List.length_take, List.length_drop]) <;> omega) | omega | (simp; done) | (simp_all; done) | (simp_all; omega)) ?_)
         refine Qk hK [1, 2, 5, 6, 7, 9] ?_
         clear hK K
         refine S_wkH (g := gw) (Hp.get_set_same _ _ _) (l' := ncs n) ⟨by rw [hl]; exact Wk.refl _, by first | exact Wk.untag' (map2 hkk) | exact Wk.untag' (map3 hkk), Wk.untag' (map2 hv.c), Wk.untag' (map2 hv.d), trivial⟩ rfl ?_
         refine S_abs (fun τ => τ.get gw = some (.cells (ncs n))) (Hp.get_set_same _ _ _) (fun τ h9 => ?_)
         simp only [ncs] at h9
         refine WS.seq (WS.seq ?_)
         refine R0 fun K hK => ?_
         try simp (maxSteps := 4000000) (disch := omega) only [push_cast, Nat.reduceLT, Nat.reduceEqDiff, Nat.reduceAdd, Nat.reduceMul, Nat.reduceSub, Nat.reduceLeDiff, Int.reduceToNat, Int.reduceLT, Int.reduceLE, Int.reduceAdd, Int.reduceSub, Int.reduceMul, Int.reduceNeg, Int.reduceEq, reduceCtorEq, Int.cast_ofNat_Int, Hp.get_set, all_anyC, all_anyP, key_get, cell_get, kid_get, encC, List.length_map, encN, ncs, Hp.set_set, Hp.get_set, if_true, if_false, List.append_eq_nil_iff, hg0_0, hH, hgc, hgd, hra, hrb, hl, hK0, n1, n2, hgw, h9]
         (repeat refine And.intro (by first | (unfold Go.Vm.room; and_intros <;> (try simp only [List.length_map, List.length_append, List.length_cons, List.length_nil, List.length_take, List.length_drop]) <;> omega) | omega | (simp; done) | (simp_all; done) | (simp_all; omega)) ?_)
         refine callP (r := .bool true) (by have hs := same_spec n n hsm hsm; simp only [encN, hl, decide_true] at hs; exact hs) rfl ?_
         try simp (maxSteps := 4000000) (disch := omega) only [push_cast, Nat.reduceLT, Nat.reduceEqDiff, Nat.reduceAdd, Nat.reduceMul, Nat.reduceSub, Nat.reduceLeDiff, Int.reduceToNat, Int.reduceLT, Int.reduceLE, Int.reduceAdd, Int.reduceSub, Int.reduceMul, Int.reduceNeg, Int.reduceEq, reduceCtorEq, Int.cast_ofNat_Int, Hp.get_set, all_anyC, all_anyP, key_get, cell_get, kid_get, encC, List.length_map, encN, ncs, Hp.set_set, Hp.get_set, if_true, if_false, List.append_eq_nil_iff, hg0_0, hH, hgc, hgd, hra, hrb, hl, hK0, n1, n2, hgw, h9]
         (repeat refine And.intro (by first | (unfold Go.Vm.room; and_intros <;> (try simp only [List.length_map, List.length_append, List.length_cons, List.length_nil, List.length_take, List.length_drop]) <;> omega) | omega | (simp; done) | (simp_all; done) | (simp_all; omega)) ?_)
         all_goals try (first | refine guardT 92 rfl (fun hc => ?_) (fun hc => ?_) | refine guardF 92 rfl (fun hc => ?_) (fun hc => ?_)) <;> try simp only [push_cast] at hc
         all_goals try (exfalso; omega)
         all_goals try simp (maxSteps := 4000000) (disch := omega) only [push_cast, Nat.reduceLT, Nat.reduceEqDiff, Nat.reduceAdd, Nat.reduceMul, Nat.reduceSub, Nat.reduceLeDiff, Int.reduceToNat, Int.reduceLT, Int.reduceLE, Int.reduceAdd, Int.reduceSub, Int.reduceMul, Int.reduceNeg, Int.reduceEq, reduceCtorEq, Int.cast_ofNat_Int, Hp.get_set, all_anyC, all_anyP, key_get, cell_get, kid_get, encC, List.length_map, encN, ncs, Hp.set_set, Hp.get_set, if_true, if_false, List.append_eq_nil_iff, hg0_0, hH, hgc, hgd, hra, hrb, hl, hK0, n1, n2, hgw, h9]
         all_goals (repeat refine And.intro (by first | (unfold Go.Vm.room; and_intros <;> (try simp only [List.length_map, List.length_append, List.length_cons, List.length_nil, List.length_take, List.length_drop]) <;> omega) | omega | (simp; done) | (simp_all; done) | (simp_all; omega)) ?_)
         all_goals try (first | refine guardT 95 rfl (fun hc => ?_) (fun hc => ?_) | refine guardF 95 rfl (fun hc => ?_) (fun hc => ?_)) <;> try simp only [push_cast] at hc
         all_goals try (exfalso; omega)
         all_goals try simp (maxSteps := 4000000) (disch := omega) only [push_cast, Nat.reduceLT, Nat.reduceEqDiff, Nat.reduceAdd, Nat.reduceMul, Nat.reduceSub, Nat.reduceLeDiff, Int.reduceToNat, Int.reduceLT, Int.reduceLE, Int.reduceAdd, Int.reduceSub, Int.reduceMul, Int.reduceNeg, Int.reduceEq, reduceCtorEq, Int.cast_ofNat_Int, Hp.get_set, all_anyC, all_anyP, key_get, cell_get, kid_get, encC, List.length_map, encN, ncs, Hp.set_set, Hp.get_set, if_true, if_false, List.append_eq_nil_iff, hg0_0, hH, hgc, hgd, hra, hrb, hl, hK0, n1, n2, hgw, h9]
         all_goals (repeat refine And.intro (by first | (unfold Go.Vm.room; and_intros <;> (try simp only [List.length_map, List.length_append, List.length_cons, List.length_nil, List.length_take, List.length_drop]) <;> omega) | omega | (simp; done) | (simp_all; done) | (simp_all; omega)) ?_)
         all_goals
          refine Qk hK [1, 2, 5, 7, 103] ?_
          clear hK K
          refine CI rfl (fun hc => ?_) (fun hc => ?_)
          ·
           all_goals try (cases hc; done)
           all_goals try simp only [push_cast] at hc
           all_goals try (exfalso; omega)
           all_goals
            refine WS.seq ?_
            refine A1 [4] (by decide) ?_
            refine Rt ?_
            refine hQ0 _ _ _ ?_
            try simp (maxSteps := 4000000) only [push_cast, Int.reduceToNat, Int.reduceLT, Int.reduceLE, Int.reduceAdd, Int.reduceSub, Int.reduceMul, Int.reduceNeg, Int.reduceEq, reduceCtorEq, Nat.reduceLeDiff, Nat.reduceLT, Nat.reduceEqDiff, Nat.reduceAdd, Nat.reduceMul, Nat.reduceSub, Int.cast_ofNat_Int, all_anyC, all_anyP, key_get, cell_get, kid_get, encC, List.length_map, encN, ncs, Hp.set_set, Hp.get_set, if_true, if_false, List.append_eq_nil_iff, hg0_0, hH, hgc, hgd, hra, hrb, hl, hK0, n1, n2, hgw, h9]
            first | done | rfl | (simp; done) | (simp_all; done) | (simp_all; omega)
          all_goals try (cases hc; done)
          all_goals try simp only [push_cast] at hc
          all_goals try (exfalso; omega)
          all_goals
           refine Sk ?_
           refine WS.seq (WS.seq ?_)
           refine R0 fun K hK => ?_
           try simp (maxSteps := 4000000) (disch := omega) only [push_cast, Nat.reduceLT, Nat.reduceEqDiff, Nat.reduceAdd, Nat.reduceMul, Nat.reduceSub, Nat.reduceLeDiff, Int.reduceToNat, Int.reduceLT, Int.reduceLE, Int.reduceAdd, Int.reduceSub, Int.reduceMul, Int.reduceNeg, Int.reduceEq, reduceCtorEq, Int.cast_ofNat_Int, Hp.get_set, all_anyC, all_anyP, key_get, cell_get, kid_get, encC, List.length_map, encN, ncs, Hp.set_set, Hp.get_set, if_true, if_false, List.append_eq_nil_iff, hg0_0, hH, hgc, hgd, hra, hrb, hl, hK0, n1, n2, hgw, h9]
           (repeat refine And.intro (by first | (unfold Go.Vm.room; and_intros <;> (try simp only [List.length_map, List.length_append, List.length_cons, List.length_nil, List.length_take, List.length_drop]) <;> omega) | omega | (simp; done) | (simp_all; done) | (simp_all; omega)) ?_)
           all_goals try (first | refine guardT 106 rfl (fun hc => ?_) (fun hc => ?_) | refine guardF 106 rfl (fun hc => ?_) (fun hc => ?_)) <;> try simp only [push_cast] at hc
           all_goals try (exfalso; omega)
           all_goals try simp (maxSteps := 4000000) (disch := omega) only [push_cast, Nat.reduceLT, Nat.reduceEqDiff, Nat.reduceAdd, Nat.reduceMul, Nat.reduceSub, Nat.reduceLeDiff, Int.reduceToNat, Int.reduceLT, Int.reduceLE, Int.reduceAdd, Int.reduceSub, Int.reduceMul, Int.reduceNeg, Int.reduceEq, reduceCtorEq, Int.cast_ofNat_Int, Hp.get_set, all_anyC, all_anyP, key_get, cell_get, kid_get, encC, List.length_map, encN, ncs, Hp.set_set, Hp.get_set, if_true, if_false, List.append_eq_nil_iff, hg0_0, hH, hgc, hgd, hra, hrb, hl, hK0, n1, n2, hgw, h9]
           all_goals (repeat refine And.intro (by first | (unfold Go.Vm.room; and_intros <;> (try simp only [List.length_map, List.length_append, List.length_cons, List.length_nil, List.length_take, List.length_drop]) <;> omega) | omega | (simp; done) | (simp_all; done) | (simp_all; omega)) ?_)
           all_goals try (first | refine guardT 113 rfl (fun hc => ?_) (fun hc => ?_) | refine guardF 113 rfl (fun hc => ?_) (fun hc => ?_)) <;> try simp only [push_cast] at hc
           all_goals try (exfalso; omega)
           all_goals try simp (maxSteps := 4000000) (disch := omega) only [push_cast, Nat.reduceLT, Nat.reduceEqDiff, Nat.reduceAdd, Nat.reduceMul, Nat.reduceSub, Nat.reduceLeDiff, Int.reduceToNat, Int.reduceLT, Int.reduceLE, Int.reduceAdd, Int.reduceSub, Int.reduceMul, Int.reduceNeg, Int.reduceEq, reduceCtorEq, Int.cast_ofNat_Int, Hp.get_set, all_anyC, all_anyP, key_get, cell_get, kid_get, encC, List.length_map, encN, ncs, Hp.set_set, Hp.get_set, if_true, if_false, List.append_eq_nil_iff, hg0_0, hH, hgc, hgd, hra, hrb, hl, hK0, n1, n2, hgw, h9]
           all_goals (repeat refine And.intro (by first | (unfold Go.Vm.room; and_intros <;> (try simp only [List.length_map, List.length_append, List.length_cons, List.length_nil, List.length_take, List.length_drop]) <;> omega) | omega | (simp; done) | (simp_all; done) | (simp_all; omega)) ?_)
           all_goals
            refine Qk hK [1, 2, 5, 7, 117] ?_
            clear hK K
            refine CI rfl (fun hc => ?_) (fun hc => ?_)
            ·
             all_goals try (cases hc; done)
             all_goals try simp only [push_cast] at hc
             all_goals try (exfalso; omega)
             all_goals
              refine WS.seq ?_
              refine R0 fun K hK => ?_
              try simp (maxSteps := 4000000) (disch := omega) only [push_cast, Nat.reduceLT, Nat.reduceEqDiff, Hp.get_set, all_anyC, all_anyP, key_get, cell_get, kid_get, encC, List.length_map, encN, ncs, Hp.set_set, Hp.get_set, if_true, if_false, List.append_eq_nil_iff, hg0_0, hH, hgc, hgd, hra, hrb, hl, hK0, n1, n2, hgw, h9]
              refine callP alive_spec rfl ?_
              try simp (maxSteps := 4000000) (disch := omega) only [push_cast, Nat.reduceLT, Nat.reduceEqDiff, Hp.get_set, all_anyC, all_anyP, key_get, cell_get, kid_get, encC, List.length_map, encN, ncs, Hp.set_set, Hp.get_set, if_true, if_false, List.append_eq_nil_iff, hg0_0, hH, hgc, hgd, hra, hrb, hl, hK0, n1, n2, hgw, h9]
              refine Qk hK [4] ?_
              clear hK K
              refine Rt ?_
              refine hQ0 _ _ _ ?_
              try simp (maxSteps := 4000000) only [push_cast, Int.reduceToNat, Int.reduceLT, Int.reduceLE, Int.reduceAdd, Int.reduceSub, Int.reduceMul, Int.reduceNeg, Int.reduceEq, reduceCtorEq, Nat.reduceLeDiff, Nat.reduceLT, Nat.reduceEqDiff, Nat.reduceAdd, Nat.reduceMul, Nat.reduceSub, Int.cast_ofNat_Int, all_anyC, all_anyP, key_get, cell_get, kid_get, encC, List.length_map, encN, ncs, Hp.set_set, Hp.get_set, if_true, if_false, List.append_eq_nil_iff, hg0_0, hH, hgc, hgd, hra, hrb, hl, hK0, n1, n2, hgw, h9]
              first | done | rfl | (simp; done) | (simp_all; done) | (simp_all; omega)
            all_goals try (cases hc; done)
            all_goals try simp only [push_cast] at hc
            all_goals try (exfalso; omega)
            all_goals
             obtain ⟨a0, rfl⟩ := Int.eq_ofNat_of_zero_le (show 0 ≤ at_ by omega)
             have hat : a0 < n.keys.length := by omega
             have hz := hsz a0 hat
             have hrl := right_less hr hl hat
             have hcl := (shape_leaf (right_shape hr) hl).1
             refine Sk ?_
             refine WS.seq ?_
             refine RD [121, 126, 133, 138, 3000124, 3000130, 3000136, 3000142] [] fo (by kernel_rfl) fun K hK => ?_
             try simp (maxSteps := 4000000) (disch := omega) only [push_cast, Nat.reduceLT, Nat.reduceEqDiff, Nat.reduceAdd, Nat.reduceMul, Nat.reduceSub, Nat.reduceLeDiff, Int.reduceToNat, Int.reduceLT, Int.reduceLE, Int.reduceAdd, Int.reduceSub, Int.reduceMul, Int.reduceNeg, Int.reduceEq, reduceCtorEq, Int.cast_ofNat_Int, Hp.get_set, all_anyC, all_anyP, key_get, cell_get, kid_get, encC, List.length_map, encN, ncs, Hp.set_set, Hp.get_set, if_true, if_false, List.append_eq_nil_iff, hg0_0, hH, hgc, hgd, hra, hrb, hl, hK0, n1, n2, hgw, h9, hrl]
             (repeat refine And.intro (by first | (unfold Go.Vm.room; and_intros <;> (try simp only [List.length_map, List.length_append, List.length_cons, List.length_nil, List.length_take, List.length_drop]) <;> omega) | omega | (simp; done) | (simp_all; done) | (simp_all; omega)) ?_)
             try simp (maxSteps := 4000000) (disch := omega) only [push_cast, Nat.reduceLT, Nat.reduceEqDiff, Nat.reduceAdd, Nat.reduceMul, Nat.reduceSub, Nat.reduceLeDiff, Int.reduceToNat, Int.reduceLT, Int.reduceLE, Int.reduceAdd, Int.reduceSub, Int.reduceMul, Int.reduceNeg, Int.reduceEq, reduceCtorEq, Int.cast_ofNat_Int, Hp.get_set, all_anyC, all_anyP, key_get, cell_get, kid_get, encC, List.length_map, encN, ncs, Hp.set_set, Hp.get_set, if_true, if_false, List.append_eq_nil_iff, hg0_0, hH, hgc, hgd, hra, hrb, hl, hK0, n1, n2, hgw, h9, hrl]
             (repeat refine And.intro (by first | (unfold Go.Vm.room; and_intros <;> (try simp only [List.length_map, List.length_append, List.length_cons, List.length_nil, List.length_take, List.length_drop]) <;> omega) | omega | (simp; done) | (simp_all; done) | (simp_all; omega)) ?_)
             refine fun gj hgj => ?_
             try simp (maxSteps := 4000000) (disch := omega) only [push_cast, Nat.reduceLT, Nat.reduceEqDiff, Nat.reduceAdd, Nat.reduceMul, Nat.reduceSub, Nat.reduceLeDiff, Int.reduceToNat, Int.reduceLT, Int.reduceLE, Int.reduceAdd, Int.reduceSub, Int.reduceMul, Int.reduceNeg, Int.reduceEq, reduceCtorEq, Int.cast_ofNat_Int, Hp.get_set, all_anyC, all_anyP, key_get, cell_get, kid_get, encC, List.length_map, encN, ncs, Hp.set_set, Hp.get_set, if_true, if_false, List.append_eq_nil_iff, hg0_0, hH, hgc, hgd, hra, hrb, hl, hK0, n1, n2, hgw, h9, hrl]
             (repeat refine And.intro (by first | (unfold Go.Vm.room; and_intros <;> (try simp only [List.length_map, List.length_append, List.length_cons, List.length_nil, List.length_take, List.length_drop]) <;> omega) | omega | (simp; done) | (simp_all; done) | (simp_all; omega)) ?_)
             try simp (maxSteps := 4000000) (disch := omega) only [push_cast, Nat.reduceLT, Nat.reduceEqDiff, Nat.reduceAdd, Nat.reduceMul, Nat.reduceSub, Nat.reduceLeDiff, Int.reduceToNat, Int.reduceLT, Int.reduceLE, Int.reduceAdd, Int.reduceSub, Int.reduceMul, Int.reduceNeg, Int.reduceEq, reduceCtorEq, Int.cast_ofNat_Int, Hp.get_set, all_anyC, all_anyP, key_get, cell_get, kid_get, encC, List.length_map, encN, ncs, Hp.set_set, Hp.get_set, if_true, if_false, List.append_eq_nil_iff, hg0_0, hH, hgc, hgd, hra, hrb, hl, hK0, n1, n2, hgw, h9, hrl]
             (repeat refine And.intro (by first | (unfold Go.Vm.room; and_intros <;> (try simp only [List.length_map, List.length_append, List.length_cons, List.length_nil, List.length_take, List.length_drop]) <;> omega) | omega | (simp; done) | (simp_all; done) | (simp_all; omega)) ?_)
             try simp (maxSteps := 4000000) (disch := omega) only [push_cast, Nat.reduceLT, Nat.reduceEqDiff, Nat.reduceAdd, Nat.reduceMul, Nat.reduceSub, Nat.reduceLeDiff, Int.reduceToNat, Int.reduceLT, Int.reduceLE, Int.reduceAdd, Int.reduceSub, Int.reduceMul, Int.reduceNeg, Int.reduceEq, reduceCtorEq, Int.cast_ofNat_Int, Hp.get_set, all_anyC, all_anyP, key_get, cell_get, kid_get, encC, List.length_map, encN, ncs, Hp.set_set, Hp.get_set, if_true, if_false, List.append_eq_nil_iff, hg0_0, hH, hgc, hgd, hra, hrb, hl, hK0, n1, n2, hgw, h9, hrl]
             (repeat refine And.intro (by first | (unfold Go.Vm.room; and_intros <;> (try simp only [List.length_map, List.length_append, List.length_cons, List.length_nil, List.length_take, List.length_drop]) <;> omega) | omega | (simp; done) | (simp_all; done) | (simp_all; omega)) ?_)
             try simp (maxSteps := 4000000) (disch := omega) only [push_cast, Nat.reduceLT, Nat.reduceEqDiff, Nat.reduceAdd, Nat.reduceMul, Nat.reduceSub, Nat.reduceLeDiff, Int.reduceToNat, Int.reduceLT, Int.reduceLE, Int.reduceAdd, Int.reduceSub, Int.reduceMul, Int.reduceNeg, Int.reduceEq, reduceCtorEq, Int.cast_ofNat_Int, Hp.get_set, all_anyC, all_anyP, key_get, cell_get, kid_get, encC, List.length_map, encN, ncs, Hp.set_set, Hp.get_set, if_true, if_false, List.append_eq_nil_iff, hg0_0, hH, hgc, hgd, hra, hrb, hl, hK0, n1, n2, hgw, h9, hrl]
             (repeat refine And.intro (by first | (unfold Go.Vm.room; and_intros <;> (try simp only [List.length_map, List.length_append, List.length_cons, List.length_nil, List.length_take, List.length_drop]) <;> omega) | omega | (simp; done) | (simp_all; done) | (simp_all; omega)) ?_)
             refine fun gk hgk => ?_
             have n3 := Hp.set_none.1 hgk
             try simp (maxSteps := 4000000) (disch := omega) only [push_cast, Nat.reduceLT, Nat.reduceEqDiff, Nat.reduceAdd, Nat.reduceMul, Nat.reduceSub, Nat.reduceLeDiff, Int.reduceToNat, Int.reduceLT, Int.reduceLE, Int.reduceAdd, Int.reduceSub, Int.reduceMul, Int.reduceNeg, Int.reduceEq, reduceCtorEq, Int.cast_ofNat_Int, Hp.get_set, all_anyC, all_anyP, key_get, cell_get, kid_get, encC, List.length_map, encN, ncs, Hp.set_set, Hp.get_set, if_true, if_false, List.append_eq_nil_iff, hg0_0, hH, hgc, hgd, hra, hrb, hl, hK0, n1, n2, hgw, h9, hrl, n3]
             (repeat refine And.intro (by first | (unfold Go.Vm.room; and_intros <;> (try simp only [List.length_map, List.length_append, List.length_cons, List.length_nil, List.length_take, List.length_drop]) <;> omega) | omega | (simp; done) | (simp_all; done) | (simp_all; omega)) ?_)
             try simp (maxSteps := 4000000) (disch := omega) only [push_cast, Nat.reduceLT, Nat.reduceEqDiff, Nat.reduceAdd, Nat.reduceMul, Nat.reduceSub, Nat.reduceLeDiff, Int.reduceToNat, Int.reduceLT, Int.reduceLE, Int.reduceAdd, Int.reduceSub, Int.reduceMul, Int.reduceNeg, Int.reduceEq, reduceCtorEq, Int.cast_ofNat_Int, Hp.get_set, all_anyC, all_anyP, key_get, cell_get, kid_get, encC, List.length_map, encN, ncs, Hp.set_set, Hp.get_set, if_true, if_false, List.append_eq_nil_iff, hg0_0, hH, hgc, hgd, hra, hrb, hl, hK0, n1, n2, hgw, h9, hrl, n3]
             (repeat refine And.intro (by first | (unfold Go.Vm.room; and_intros <;> (try simp only [List.length_map, List.length_append, List.length_cons, List.length_nil, List.length_take, List.length_drop]) <;> omega) | omega | (simp; done) | (simp_all; done) | (simp_all; omega)) ?_)
             try simp (maxSteps := 4000000) (disch := omega) only [push_cast, Nat.reduceLT, Nat.reduceEqDiff, Nat.reduceAdd, Nat.reduceMul, Nat.reduceSub, Nat.reduceLeDiff, Int.reduceToNat, Int.reduceLT, Int.reduceLE, Int.reduceAdd, Int.reduceSub, Int.reduceMul, Int.reduceNeg, Int.reduceEq, reduceCtorEq, Int.cast_ofNat_Int, Hp.get_set, all_anyC, all_anyP, key_get, cell_get, kid_get, encC, List.length_map, encN, ncs, Hp.set_set, Hp.get_set, if_true, if_false, List.append_eq_nil_iff, hg0_0, hH, hgc, hgd, hra, hrb, hl, hK0, n1, n2, hgw, h9, hrl, n3]
             (repeat refine And.intro (by first | (unfold Go.Vm.room; and_intros <;> (try simp only [List.length_map, List.length_append, List.length_cons, List.length_nil, List.length_take, List.length_drop]) <;> omega) | omega | (simp; done) | (simp_all; done) | (simp_all; omega)) ?_)
             try simp (maxSteps := 4000000) (disch := omega) only [push_cast, Nat.reduceLT, Nat.reduceEqDiff, Nat.reduceAdd, Nat.reduceMul, Nat.reduceSub, Nat.reduceLeDiff, Int.reduceToNat, Int.reduceLT, Int.reduceLE, Int.reduceAdd, Int.reduceSub, Int.reduceMul, Int.reduceNeg, Int.reduceEq, reduceCtorEq, Int.cast_ofNat_Int, Hp.get_set, all_anyC, all_anyP, key_get, cell_get, kid_get, encC, List.length_map, encN, ncs, Hp.set_set, Hp.get_set, if_true, if_false, List.append_eq_nil_iff, hg0_0, hH, hgc, hgd, hra, hrb, hl, hK0, n1, n2, hgw, h9, hrl, n3]
             (repeat refine And.intro (by first | (unfold Go.Vm.room; and_intros <;> (try simp only [List.length_map, List.length_append, List.length_cons, List.length_nil, List.length_take, List.length_drop]) <;> omega) | omega | (simp; done) | (simp_all; done) | (simp_all; omega)) ?_)
             refine fun gx hgx => ?_
             try simp only [Hp.set_none, Hp.join_none_iff] at hgx
             have nh9_x := Hp.ne_get h9 (by first | exact hgx | exact hgx.2.2 | exact hgx.2.2.2.2 | exact hgx.2.2.2.2.2.2 | simp_all)
             try simp (maxSteps := 4000000) (disch := omega) only [push_cast, Nat.reduceLT, Nat.reduceEqDiff, Nat.reduceAdd, Nat.reduceMul, Nat.reduceSub, Nat.reduceLeDiff, Int.reduceToNat, Int.reduceLT, Int.reduceLE, Int.reduceAdd, Int.reduceSub, Int.reduceMul, Int.reduceNeg, Int.reduceEq, reduceCtorEq, Int.cast_ofNat_Int, Hp.get_set, all_anyC, all_anyP, key_get, cell_get, kid_get, encC, List.length_map, encN, ncs, Hp.set_set, Hp.get_set, if_true, if_false, List.append_eq_nil_iff, hg0_0, hH, hgc, hgd, hra, hrb, hl, hK0, n1, n2, hgw, h9, hrl, n3, hgx, nh9_x]
             (repeat refine And.intro (by first | (unfold Go.Vm.room; and_intros <;> (try simp only [List.length_map, List.length_append, List.length_cons, List.length_nil, List.length_take, List.length_drop]) <;> omega) | omega | (simp; done) | (simp_all; done) | (simp_all; omega)) ?_)
             try simp (maxSteps := 4000000) (disch := omega) only [push_cast, Nat.reduceLT, Nat.reduceEqDiff, Nat.reduceAdd, Nat.reduceMul, Nat.reduceSub, Nat.reduceLeDiff, Int.reduceToNat, Int.reduceLT, Int.reduceLE, Int.reduceAdd, Int.reduceSub, Int.reduceMul, Int.reduceNeg, Int.reduceEq, reduceCtorEq, Int.cast_ofNat_Int, Hp.get_set, all_anyC, all_anyP, key_get, cell_get, kid_get, encC, List.length_map, encN, ncs, Hp.set_set, Hp.get_set, if_true, if_false, List.append_eq_nil_iff, hg0_0, hH, hgc, hgd, hra, hrb, hl, hK0, n1, n2, hgw, h9, hrl, n3, hgx, nh9_x]
             (repeat refine And.intro (by first | (unfold Go.Vm.room; and_intros <;> (try simp only [List.length_map, List.length_append, List.length_cons, List.length_nil, List.length_take, List.length_drop]) <;> omega) | omega | (simp; done) | (simp_all; done) | (simp_all; omega)) ?_)
             refine Qk hK [5, 7, 10] ?_
             clear hK K
             refine S_wkH (g := gx) (Hp.get_set_same _ _ _) (l' := ncs (lessN n a0)) ⟨Wk.refl _, Wk.untag' (er_map n.keys a0), Wk.untag' (er_map n.cells a0), Wk.nil 0 1 .full, trivial⟩ rfl ?_
             refine S_abs (fun τ => τ.get gx = some (.cells (ncs (lessN n a0)))) (Hp.get_set_same _ _ _) (fun τ h9 => ?_)
             simp only [ncs] at h9
             refine WS.seq ?_
             refine R0 fun K hK => ?_
             try simp (maxSteps := 4000000) (disch := omega) only [push_cast, Nat.reduceLT, Nat.reduceEqDiff, Nat.reduceAdd, Nat.reduceMul, Nat.reduceSub, Nat.reduceLeDiff, Int.reduceToNat, Int.reduceLT, Int.reduceLE, Int.reduceAdd, Int.reduceSub, Int.reduceMul, Int.reduceNeg, Int.reduceEq, reduceCtorEq, Int.cast_ofNat_Int, Hp.get_set, all_anyC, all_anyP, key_get, cell_get, kid_get, encC, List.length_map, encN, ncs, Hp.set_set, Hp.get_set, if_true, if_false, List.append_eq_nil_iff, hg0_0, hH, hgc, hgd, hra, hrb, hl, hK0, n1, n2, hgw, hrl, n3, hgx, nh9_x, h9]
             (repeat refine And.intro (by first | (unfold Go.Vm.room; and_intros <;> (try simp only [List.length_map, List.length_append, List.length_cons, List.length_nil, List.length_take, List.length_drop]) <;> omega) | omega | (simp; done) | (simp_all; done) | (simp_all; omega)) ?_)
             refine callP alive_spec rfl ?_
             try simp (maxSteps := 4000000) (disch := omega) only [push_cast, Nat.reduceLT, Nat.reduceEqDiff, Nat.reduceAdd, Nat.reduceMul, Nat.reduceSub, Nat.reduceLeDiff, Int.reduceToNat, Int.reduceLT, Int.reduceLE, Int.reduceAdd, Int.reduceSub, Int.reduceMul, Int.reduceNeg, Int.reduceEq, reduceCtorEq, Int.cast_ofNat_Int, Hp.get_set, all_anyC, all_anyP, key_get, cell_get, kid_get, encC, List.length_map, encN, ncs, Hp.set_set, Hp.get_set, if_true, if_false, List.append_eq_nil_iff, hg0_0, hH, hgc, hgd, hra, hrb, hl, hK0, n1, n2, hgw, hrl, n3, hgx, nh9_x, h9]
             (repeat refine And.intro (by first | (unfold Go.Vm.room; and_intros <;> (try simp only [List.length_map, List.length_append, List.length_cons, List.length_nil, List.length_take, List.length_drop]) <;> omega) | omega | (simp; done) | (simp_all; done) | (simp_all; omega)) ?_)
             all_goals try (first | refine guardT 145 rfl (fun hc => ?_) (fun hc => ?_) | refine guardF 145 rfl (fun hc => ?_) (fun hc => ?_)) <;> try simp only [push_cast] at hc
             all_goals try (exfalso; omega)
             all_goals try simp (maxSteps := 4000000) (disch := omega) only [push_cast, Nat.reduceLT, Nat.reduceEqDiff, Nat.reduceAdd, Nat.reduceMul, Nat.reduceSub, Nat.reduceLeDiff, Int.reduceToNat, Int.reduceLT, Int.reduceLE, Int.reduceAdd, Int.reduceSub, Int.reduceMul, Int.reduceNeg, Int.reduceEq, reduceCtorEq, Int.cast_ofNat_Int, Hp.get_set, all_anyC, all_anyP, key_get, cell_get, kid_get, encC, List.length_map, encN, ncs, Hp.set_set, Hp.get_set, if_true, if_false, List.append_eq_nil_iff, hg0_0, hH, hgc, hgd, hra, hrb, hl, hK0, n1, n2, hgw, hrl, n3, hgx, nh9_x, h9]
             all_goals (repeat refine And.intro (by first | (unfold Go.Vm.room; and_intros <;> (try simp only [List.length_map, List.length_append, List.length_cons, List.length_nil, List.length_take, List.length_drop]) <;> omega) | omega | (simp; done) | (simp_all; done) | (simp_all; omega)) ?_)
             all_goals try (
               refine callP (Size_spec (lessN n a0) (sm_less hsm _)) rfl ?_)
             all_goals try simp (maxSteps := 4000000) (disch := omega) only [push_cast, Nat.reduceLT, Nat.reduceEqDiff, Nat.reduceAdd, Nat.reduceMul, Nat.reduceSub, Nat.reduceLeDiff, Int.reduceToNat, Int.reduceLT, Int.reduceLE, Int.reduceAdd, Int.reduceSub, Int.reduceMul, Int.reduceNeg, Int.reduceEq, reduceCtorEq, Int.cast_ofNat_Int, Hp.get_set, all_anyC, all_anyP, key_get, cell_get, kid_get, encC, List.length_map, encN, ncs, Hp.set_set, Hp.get_set, if_true, if_false, List.append_eq_nil_iff, hg0_0, hH, hgc, hgd, hra, hrb, hl, hK0, n1, n2, hgw, hrl, n3, hgx, nh9_x, h9]
             all_goals (repeat refine And.intro (by first | (unfold Go.Vm.room; and_intros <;> (try simp only [List.length_map, List.length_append, List.length_cons, List.length_nil, List.length_take, List.length_drop]) <;> omega) | omega | (simp; done) | (simp_all; done) | (simp_all; omega)) ?_)
             all_goals try (first | refine guardT 149 rfl (fun hc => ?_) (fun hc => ?_) | refine guardF 149 rfl (fun hc => ?_) (fun hc => ?_)) <;> try simp only [push_cast] at hc
             all_goals try (exfalso; omega)
             all_goals try simp (maxSteps := 4000000) (disch := omega) only [push_cast, Nat.reduceLT, Nat.reduceEqDiff, Nat.reduceAdd, Nat.reduceMul, Nat.reduceSub, Nat.reduceLeDiff, Int.reduceToNat, Int.reduceLT, Int.reduceLE, Int.reduceAdd, Int.reduceSub, Int.reduceMul, Int.reduceNeg, Int.reduceEq, reduceCtorEq, Int.cast_ofNat_Int, Hp.get_set, all_anyC, all_anyP, key_get, cell_get, kid_get, encC, List.length_map, encN, ncs, Hp.set_set, Hp.get_set, if_true, if_false, List.append_eq_nil_iff, hg0_0, hH, hgc, hgd, hra, hrb, hl, hK0, n1, n2, hgw, hrl, n3, hgx, nh9_x, h9]
             all_goals (repeat refine And.intro (by first | (unfold Go.Vm.room; and_intros <;> (try simp only [List.length_map, List.length_append, List.length_cons, List.length_nil, List.length_take, List.length_drop]) <;> omega) | omega | (simp; done) | (simp_all; done) | (simp_all; omega)) ?_)
             all_goals try (
               refine callP (Size_spec A hsa) rfl ?_)
             all_goals try simp (maxSteps := 4000000) (disch := omega) only [push_cast, Nat.reduceLT, Nat.reduceEqDiff, Nat.reduceAdd, Nat.reduceMul, Nat.reduceSub, Nat.reduceLeDiff, Int.reduceToNat, Int.reduceLT, Int.reduceLE, Int.reduceAdd, Int.reduceSub, Int.reduceMul, Int.reduceNeg, Int.reduceEq, reduceCtorEq, Int.cast_ofNat_Int, Hp.get_set, all_anyC, all_anyP, key_get, cell_get, kid_get, encC, List.length_map, encN, ncs, Hp.set_set, Hp.get_set, if_true, if_false, List.append_eq_nil_iff, hg0_0, hH, hgc, hgd, hra, hrb, hl, hK0, n1, n2, hgw, hrl, n3, hgx, nh9_x, h9]
             all_goals (repeat refine And.intro (by first | (unfold Go.Vm.room; and_intros <;> (try simp only [List.length_map, List.length_append, List.length_cons, List.length_nil, List.length_take, List.length_drop]) <;> omega) | omega | (simp; done) | (simp_all; done) | (simp_all; omega)) ?_)
             all_goals try (first | refine guardT 153 rfl (fun hc => ?_) (fun hc => ?_) | refine guardF 153 rfl (fun hc => ?_) (fun hc => ?_)) <;> try simp only [push_cast] at hc
             all_goals try (exfalso; omega)
             all_goals try simp (maxSteps := 4000000) (disch := omega) only [push_cast, Nat.reduceLT, Nat.reduceEqDiff, Nat.reduceAdd, Nat.reduceMul, Nat.reduceSub, Nat.reduceLeDiff, Int.reduceToNat, Int.reduceLT, Int.reduceLE, Int.reduceAdd, Int.reduceSub, Int.reduceMul, Int.reduceNeg, Int.reduceEq, reduceCtorEq, Int.cast_ofNat_Int, Hp.get_set, all_anyC, all_anyP, key_get, cell_get, kid_get, encC, List.length_map, encN, ncs, Hp.set_set, Hp.get_set, if_true, if_false, List.append_eq_nil_iff, hg0_0, hH, hgc, hgd, hra, hrb, hl, hK0, n1, n2, hgw, hrl, n3, hgx, nh9_x, h9]
             all_goals (repeat refine And.intro (by first | (unfold Go.Vm.room; and_intros <;> (try simp only [List.length_map, List.length_append, List.length_cons, List.length_nil, List.length_take, List.length_drop]) <;> omega) | omega | (simp; done) | (simp_all; done) | (simp_all; omega)) ?_)
             all_goals try (
               refine callP (Size_spec B hsb) rfl ?_)
             all_goals try simp (maxSteps := 4000000) (disch := omega) only [push_cast, Nat.reduceLT, Nat.reduceEqDiff, Nat.reduceAdd, Nat.reduceMul, Nat.reduceSub, Nat.reduceLeDiff, Int.reduceToNat, Int.reduceLT, Int.reduceLE, Int.reduceAdd, Int.reduceSub, Int.reduceMul, Int.reduceNeg, Int.reduceEq, reduceCtorEq, Int.cast_ofNat_Int, Hp.get_set, all_anyC, all_anyP, key_get, cell_get, kid_get, encC, List.length_map, encN, ncs, Hp.set_set, Hp.get_set, if_true, if_false, List.append_eq_nil_iff, hg0_0, hH, hgc, hgd, hra, hrb, hl, hK0, n1, n2, hgw, hrl, n3, hgx, nh9_x, h9]
             all_goals (repeat refine And.intro (by first | (unfold Go.Vm.room; and_intros <;> (try simp only [List.length_map, List.length_append, List.length_cons, List.length_nil, List.length_take, List.length_drop]) <;> omega) | omega | (simp; done) | (simp_all; done) | (simp_all; omega)) ?_)
             all_goals
              refine Qk hK [4] ?_
              clear hK K
              refine Rt ?_
              refine hQ0 _ _ _ ?_
              try simp (maxSteps := 4000000) only [push_cast, Int.reduceToNat, Int.reduceLT, Int.reduceLE, Int.reduceAdd, Int.reduceSub, Int.reduceMul, Int.reduceNeg, Int.reduceEq, reduceCtorEq, Nat.reduceLeDiff, Nat.reduceLT, Nat.reduceEqDiff, Nat.reduceAdd, Nat.reduceMul, Nat.reduceSub, Int.cast_ofNat_Int, all_anyC, all_anyP, key_get, cell_get, kid_get, encC, List.length_map, encN, ncs, Hp.set_set, Hp.get_set, if_true, if_false, List.append_eq_nil_iff, hg0_0, hH, hgc, hgd, hra, hrb, hl, hK0, n1, n2, hgw, hrl, n3, hgx, nh9_x, h9]
              first | done | rfl | exact congrArg V.bool (decide_eq_true (by omega)) | (simp_all; done) | (simp_all; omega)
end Go.Vm.Try
