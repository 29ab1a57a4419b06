/- Walks of functions of the program, and laws of what they compute. -/
import Derived.Test.YtbicfijohjijhaaVdL
set_option linter.unusedSimpArgs false
set_option linter.unusedVariables false
set_option maxHeartbeats 4000000
namespace Go.Vm.Try
open Go.Proofs
theorem callE {P : Program} {K : Env → Hp → Prop} {U : List Nat} {σ : Hp} {env : Env} {dst : Option Tmp} {f : FuncId} {args : List V} {Post : V → Hp → Prop} (h : Spec P f args Hp.empty Post) (hk : ∀ v σ', Post v σ' → Disj σ σ' → K (env.put dst v) (σ.join σ')) : CallK P false U K dst env σ f args := by
  have := callF2 (K := K) (U := U) (dst := dst) (env := env) (σ := σ) h (Disj.empty σ) hk
  rwa [Hp.join_empty] at this

theorem rwaits2_spec {σ : Hp} {X : RDisk} {x : Nat} (hn : X.l.length ≤ 1000000) {gl cap : Nat} {tl : List V} (hx : σ.get x = some (.cells (rcells X gl cap))) (hX : 0 < X.l.length → σ.get gl = some (.cells (flat (X.l.map encR) ++ tl))) : Spec Go.Proofs.Try.prog 38 [.ptr x 0] (σ) (fun v σ' => v = .int .i64 (rwaits X.l) ∧ σ' = σ) := by
 refine introS (n := 26) (rs := [.tmp 2]) (fn := Go.Proofs.Try.f38) (by rfl) rfl (by kernel_rfl) rfl rfl (Nat.le_of_ble_eq_true rfl) (fun Q0 hQ0 => ?_)
 refine WS.seq ?_
 refine A1 [0] (by decide) ?_
 refine WS.seq ?_
 refine A1 [0, 3] (by decide) ?_
 refine WS.seq (WS.seq ?_)
 refine A1 [0, 3, 4] (by decide) ?_
 refine Bk fun K0 hK0 => ?_
 refine WS_keep [0, 3, 4] _ ?_
 refine Lp (fun m env σ' => ∃ (i : Nat), m = X.l.length - i ∧ env = [(0, .ptr x 0), (3, .int .i64 (rwaits (X.l.take i))), (4, .int .i64 i)] ∧ σ' = σ ∧ (i ≤ X.l.length)) ?_ ?_
 · refine ⟨_, 0,  rfl, ?_, ?_, ?_⟩
   · (try simp (disch := omega) only [push_cast, Int.reduceToNat, Int.reduceLT, Int.reduceLE, Int.reduceAdd, Int.reduceSub, Int.reduceMul, Int.reduceNeg, Int.reduceEq, reduceCtorEq, Nat.reduceLeDiff, Nat.reduceLT, Nat.reduceEqDiff, Nat.reduceAdd, Nat.reduceMul, Nat.reduceSub, Int.cast_ofNat_Int, rcells, rget3, rlen3, hx]) <;> (first | done | rfl | (simp [rwaits]; done) | (rw [rwaits_snoc X.l i (by omega)]; (first | rw [if_pos hc] | rw [if_neg (by rw [hc]; decide)]) <;> simp) | (simp; done) | (simp; omega) | omega | (simp_all; done) | (simp_all; omega))
   · first | rfl | (try simp (disch := omega) only [push_cast, Int.reduceToNat, Int.reduceLT, Int.reduceLE, Int.reduceAdd, Int.reduceSub, Int.reduceMul, Int.reduceNeg, Int.reduceEq, reduceCtorEq, Nat.reduceLeDiff, Nat.reduceLT, Nat.reduceEqDiff, Nat.reduceAdd, Nat.reduceMul, Nat.reduceSub, Int.cast_ofNat_Int, rcells, rget3, rlen3, hx]) <;> (first | done | rfl | (simp [rwaits]; done) | (rw [rwaits_snoc X.l i (by omega)]; (first | rw [if_pos hc] | rw [if_neg (by rw [hc]; decide)]) <;> simp) | (simp; done) | (simp; omega) | omega | (simp_all; done) | (simp_all; omega))
   · first | omega | (simp; done) | (simp_all; done) | (simp_all; omega)
 intro m env σ' hJ M0 hM0
 obtain ⟨i, rfl, rfl, rfl, hi⟩ := hJ
 have hrw := rwaits_le (X.l.take i)
 have hrl : (X.l.take i).length ≤ i := by simp; omega
 refine WS.seq (WS.seq ?_)
 refine R0 fun K hK => ?_
 try simp (maxSteps := 4000000) (disch := omega) only [push_cast, Nat.reduceLT, Nat.reduceEqDiff, Nat.reduceAdd, Nat.reduceMul, Nat.reduceSub, Nat.reduceLeDiff, Int.reduceToNat, Int.reduceLT, Int.reduceLE, Int.reduceAdd, Int.reduceSub, Int.reduceMul, Int.reduceNeg, Int.reduceEq, reduceCtorEq, Int.cast_ofNat_Int, Hp.get_set, rcells, rget3, rlen3, hx]
 (repeat refine And.intro (by first | omega | (simp; done) | (simp_all; done) | (simp_all; omega)) ?_)
 refine Qk hK [0, 3, 4, 11] ?_
 clear hK K
 refine CI rfl (fun hc => ?_) (fun hc => ?_)
 rotate_left
 ·
  all_goals try (cases hc; done)
  all_goals try simp only [push_cast] at hc
  all_goals try (exfalso; omega)
  all_goals
   refine Ex ?_
   simp only [push_cast, WS, Nat.reduceEqDiff]
   refine hK0 _ _ ?_
   clear hK0 K0
   refine WS_keep [3] _ ?_
   refine WS.seq ?_
   refine R0 fun K hK => ?_
   try simp (maxSteps := 4000000) (disch := omega) only [push_cast, Nat.reduceLT, Nat.reduceEqDiff, Hp.get_set, rcells, rget3, rlen3, hx]
   refine Qk hK [2] ?_
   clear hK K
   refine Rt ?_
   refine hQ0 _ _ _ ?_
   try simp (maxSteps := 4000000) only [push_cast, Int.reduceToNat, Int.reduceLT, Int.reduceLE, Int.reduceAdd, Int.reduceSub, Int.reduceMul, Int.reduceNeg, Int.reduceEq, reduceCtorEq, Nat.reduceLeDiff, Nat.reduceLT, Nat.reduceEqDiff, Nat.reduceAdd, Nat.reduceMul, Nat.reduceSub, Int.cast_ofNat_Int, rcells, rget3, rlen3, hx]
   exact ⟨_, HSub.refl _, by rw [List.take_of_length_le (by omega)], rfl⟩
 all_goals try (cases hc; done)
 all_goals try simp only [push_cast] at hc
 all_goals try (exfalso; omega)
 all_goals
  have hgl := hX (by omega)
  refine Sk ?_
  refine WS.seq ?_
  refine Bk fun K1 hK1 => ?_
  refine WS.seq ?_
  refine R0 fun K hK => ?_
  try simp (maxSteps := 4000000) (disch := omega) only [push_cast, Nat.reduceLT, Nat.reduceEqDiff, Nat.reduceAdd, Nat.reduceMul, Nat.reduceSub, Nat.reduceLeDiff, Int.reduceToNat, Int.reduceLT, Int.reduceLE, Int.reduceAdd, Int.reduceSub, Int.reduceMul, Int.reduceNeg, Int.reduceEq, reduceCtorEq, Int.cast_ofNat_Int, Hp.get_set, rcells, rget3, rlen3, hx, hgl]
  (repeat refine And.intro (by first | omega | (simp; done) | (simp_all; done) | (simp_all; omega)) ?_)
  refine Qk hK [0, 3, 4, 22] ?_
  clear hK K
  refine CI rfl (fun hc => ?_) (fun hc => ?_)
  ·
   all_goals try (cases hc; done)
   all_goals try simp only [push_cast] at hc
   all_goals try (exfalso; omega)
   all_goals
    refine R0 fun K hK => ?_
    try simp (maxSteps := 4000000) (disch := omega) only [push_cast, Nat.reduceLT, Nat.reduceEqDiff, Int.reduceToNat, Int.reduceLT, Int.reduceLE, Int.reduceAdd, Int.reduceSub, Int.reduceMul, Int.reduceNeg, Int.reduceEq, reduceCtorEq, Int.cast_ofNat_Int, Hp.get_set, rcells, rget3, rlen3, hx, hgl]
    (repeat refine And.intro (by first | omega | (simp; done) | (simp_all; done) | (simp_all; omega)) ?_)
    refine Qk hK [0, 3, 4] ?_
    clear hK K
    simp only [push_cast, WS, Nat.reduceEqDiff]
    refine hK1 _ _ ?_
    clear hK1 K1
    refine WS_keep [0, 3, 4] _ ?_
    refine R0 fun K hK => ?_
    try simp (maxSteps := 4000000) (disch := omega) only [push_cast, Nat.reduceLT, Nat.reduceEqDiff, Int.reduceToNat, Int.reduceLT, Int.reduceLE, Int.reduceAdd, Int.reduceSub, Int.reduceMul, Int.reduceNeg, Int.reduceEq, reduceCtorEq, Int.cast_ofNat_Int, Hp.get_set, rcells, rget3, rlen3, hx, hgl]
    (repeat refine And.intro (by first | omega | (simp; done) | (simp_all; done) | (simp_all; omega)) ?_)
    refine Qk hK [0, 3, 4] ?_
    clear hK K
    refine Ag (hM0 _ _ ?_)
    refine ⟨_, ?_, i + 1,  rfl, ?_, ?_, ?_⟩
    · first | omega | (simp; done) | (simp_all; done) | (simp_all; omega)
    · (try simp (disch := omega) only [push_cast, Int.reduceToNat, Int.reduceLT, Int.reduceLE, Int.reduceAdd, Int.reduceSub, Int.reduceMul, Int.reduceNeg, Int.reduceEq, reduceCtorEq, Nat.reduceLeDiff, Nat.reduceLT, Nat.reduceEqDiff, Nat.reduceAdd, Nat.reduceMul, Nat.reduceSub, Int.cast_ofNat_Int, rcells, rget3, rlen3, hx, hgl]) <;> (first | done | rfl | (simp [rwaits]; done) | (rw [rwaits_snoc X.l i (by omega)]; (first | rw [if_pos hc] | rw [if_neg (by rw [hc]; decide)]) <;> simp) | (simp; done) | (simp; omega) | omega | (simp_all; done) | (simp_all; omega))
    · first | rfl | (try simp (disch := omega) only [push_cast, Int.reduceToNat, Int.reduceLT, Int.reduceLE, Int.reduceAdd, Int.reduceSub, Int.reduceMul, Int.reduceNeg, Int.reduceEq, reduceCtorEq, Nat.reduceLeDiff, Nat.reduceLT, Nat.reduceEqDiff, Nat.reduceAdd, Nat.reduceMul, Nat.reduceSub, Int.cast_ofNat_Int, rcells, rget3, rlen3, hx, hgl]) <;> (first | done | rfl | (simp [rwaits]; done) | (rw [rwaits_snoc X.l i (by omega)]; (first | rw [if_pos hc] | rw [if_neg (by rw [hc]; decide)]) <;> simp) | (simp; done) | (simp; omega) | omega | (simp_all; done) | (simp_all; omega))
    · first | omega | (simp; done) | (simp_all; done) | (simp_all; omega)
  ·
   all_goals try (cases hc; done)
   all_goals try simp only [push_cast] at hc
   all_goals try (exfalso; omega)
   all_goals
    refine Sk ?_
    simp only [push_cast, WS, Nat.reduceEqDiff]
    refine hK1 _ _ ?_
    clear hK1 K1
    refine WS_keep [0, 3, 4] _ ?_
    refine R0 fun K hK => ?_
    try simp (maxSteps := 4000000) (disch := omega) only [push_cast, Nat.reduceLT, Nat.reduceEqDiff, Int.reduceToNat, Int.reduceLT, Int.reduceLE, Int.reduceAdd, Int.reduceSub, Int.reduceMul, Int.reduceNeg, Int.reduceEq, reduceCtorEq, Int.cast_ofNat_Int, Hp.get_set, rcells, rget3, rlen3, hx, hgl]
    (repeat refine And.intro (by first | omega | (simp; done) | (simp_all; done) | (simp_all; omega)) ?_)
    refine Qk hK [0, 3, 4] ?_
    clear hK K
    refine Ag (hM0 _ _ ?_)
    refine ⟨_, ?_, i + 1,  rfl, ?_, ?_, ?_⟩
    · first | omega | (simp; done) | (simp_all; done) | (simp_all; omega)
    · (try simp (disch := omega) only [push_cast, Int.reduceToNat, Int.reduceLT, Int.reduceLE, Int.reduceAdd, Int.reduceSub, Int.reduceMul, Int.reduceNeg, Int.reduceEq, reduceCtorEq, Nat.reduceLeDiff, Nat.reduceLT, Nat.reduceEqDiff, Nat.reduceAdd, Nat.reduceMul, Nat.reduceSub, Int.cast_ofNat_Int, rcells, rget3, rlen3, hx, hgl]) <;> (first | done | rfl | (simp [rwaits]; done) | (rw [rwaits_snoc X.l i (by omega)]; (first | rw [if_pos hc] | rw [if_neg (by rw [hc]; decide)]) <;> simp) | (simp; done) | (simp; omega) | omega | (simp_all; done) | (simp_all; omega))
    · first | rfl | (try simp (disch := omega) only [push_cast, Int.reduceToNat, Int.reduceLT, Int.reduceLE, Int.reduceAdd, Int.reduceSub, Int.reduceMul, Int.reduceNeg, Int.reduceEq, reduceCtorEq, Nat.reduceLeDiff, Nat.reduceLT, Nat.reduceEqDiff, Nat.reduceAdd, Nat.reduceMul, Nat.reduceSub, Int.cast_ofNat_Int, rcells, rget3, rlen3, hx, hgl]) <;> (first | done | rfl | (simp [rwaits]; done) | (rw [rwaits_snoc X.l i (by omega)]; (first | rw [if_pos hc] | rw [if_neg (by rw [hc]; decide)]) <;> simp) | (simp; done) | (simp; omega) | omega | (simp_all; done) | (simp_all; omega))
    · first | omega | (simp; done) | (simp_all; done) | (simp_all; omega)
theorem rwaits_R {σ : Hp} {X : RDisk} {x : Nat} (hn : X.l.length ≤ 1000000) (h : RDiskAt X x σ) : RSpec Go.Proofs.Try.prog 38 [.ptr x 0] σ (.int .i64 (rwaits X.l)) := by
  obtain ⟨gl, cap, tl, h⟩ := h
  exact fun τ hτ => rwaits2_spec hn (hτ _ _ h.hx) (fun hn => hτ _ _ (h.get hn))

theorem lives_bad (quota : Int) (ops : List Op) (hq : quota < 1 ∨ 65536 < quota) : PSpec Go.Proofs.Try.prog 9 [.int .i64 quota, .sl 6 (ops.map opV) .no] (.bool true) := by
 refine introP (n := 105) (rs := [.tmp 4]) (fn := Go.Proofs.Try.f9) (by rfl) rfl (by kernel_rfl) rfl rfl (Nat.le_of_ble_eq_true rfl) (fun Q0 hQ0 => ?_)
 refine WS.seq ?_
 refine A1 [0, 1] (by decide) ?_
 refine WS.seq ?_
 refine R0 fun K hK => ?_
 try simp (maxSteps := 4000000) (disch := omega) only [push_cast, Nat.reduceLT, Nat.reduceEqDiff, Nat.reduceAdd, Nat.reduceMul, Nat.reduceSub, Nat.reduceLeDiff, Hp.get_set, opc_get', List.length_map]
 refine callS (new_spec quota) (fun v τ h => ?_)
 rw [newP, if_pos hq] at h
 subst h
 try simp (maxSteps := 4000000) (disch := omega) only [push_cast, Nat.reduceLT, Nat.reduceEqDiff, Nat.reduceAdd, Nat.reduceMul, Nat.reduceSub, Nat.reduceLeDiff, Hp.get_set, opc_get', List.length_map]
 refine Qk hK [0, 1, 5, 6] ?_
 clear hK K
 refine WS.seq ?_
 refine R0 fun K hK => ?_
 try simp (maxSteps := 4000000) (disch := omega) only [push_cast, Nat.reduceLT, Nat.reduceEqDiff, Nat.reduceAdd, Nat.reduceMul, Nat.reduceSub, Nat.reduceLeDiff, Hp.get_set, opc_get', List.length_map]
 refine callS (rnew_spec quota) (fun v τ h => ?_)
 rw [if_pos hq] at h
 subst h
 try simp (maxSteps := 4000000) (disch := omega) only [push_cast, Nat.reduceLT, Nat.reduceEqDiff, Nat.reduceAdd, Nat.reduceMul, Nat.reduceSub, Nat.reduceLeDiff, Hp.get_set, opc_get', List.length_map]
 refine Qk hK [1, 5, 6, 7, 8] ?_
 clear hK K
 refine WS.seq (WS.seq ?_)
 refine R0 fun K hK => ?_
 try simp (maxSteps := 4000000) (disch := omega) only [push_cast, Nat.reduceLT, Nat.reduceEqDiff, Int.reduceToNat, Int.reduceLT, Int.reduceLE, Int.reduceAdd, Int.reduceSub, Int.reduceMul, Int.reduceNeg, Int.reduceEq, reduceCtorEq, Int.cast_ofNat_Int, Hp.get_set, opc_get', List.length_map]
 all_goals try (first | refine guardT 23 rfl (fun hc => ?_) (fun hc => ?_) | refine guardF 23 rfl (fun hc => ?_) (fun hc => ?_)) <;> try simp only [push_cast] at hc
 all_goals try (exfalso; omega)
 all_goals try simp (maxSteps := 4000000) (disch := omega) only [push_cast, Nat.reduceLT, Nat.reduceEqDiff, Int.reduceToNat, Int.reduceLT, Int.reduceLE, Int.reduceAdd, Int.reduceSub, Int.reduceMul, Int.reduceNeg, Int.reduceEq, reduceCtorEq, Int.cast_ofNat_Int, Hp.get_set, opc_get', List.length_map]
 all_goals
  refine Qk hK [1, 5, 7, 29] ?_
  clear hK K
  refine CI rfl (fun hc => ?_) (fun hc => ?_)
  ·
   all_goals try (cases hc; done)
   all_goals try simp only [push_cast] at hc
   all_goals try (exfalso; omega)
   all_goals
    refine WS.seq ?_
    refine A1 [4] (by decide) ?_
    refine Rt ?_
    refine hQ0 _ _ _ ?_
    try simp (maxSteps := 4000000) only [push_cast, Int.reduceToNat, Int.reduceLT, Int.reduceLE, Int.reduceAdd, Int.reduceSub, Int.reduceMul, Int.reduceNeg, Int.reduceEq, reduceCtorEq, Nat.reduceLeDiff, Nat.reduceLT, Nat.reduceEqDiff, Nat.reduceAdd, Nat.reduceMul, Nat.reduceSub, Int.cast_ofNat_Int, opc_get', List.length_map]
    first | done | rfl | (simp; done) | (simp_all; done) | (simp_all; omega)
  all_goals try (cases hc; done)
  all_goals try simp only [push_cast] at hc
  all_goals try (exfalso; omega)
  all_goals
   refine Sk ?_
   refine WS.seq (WS.seq ?_)
   refine A1 [1, 5, 7, 9] (by decide) ?_
   refine Bk fun K0 hK0 => ?_
   refine WS_keep [1, 5, 7, 9] _ ?_
   refine Lp (fun m env σ' => m = 1 ∧ env = [(1, .sl 6 (ops.map opV) .no), (5, .nilp), (7, .nilp), (9, .int .i64 0)] ∧ σ' = σ' ∧ (True)) ?_ ?_
   · refine ⟨_,  rfl, ?_, ?_, ?_⟩
     · (try simp (disch := omega) only [push_cast, Int.reduceToNat, Int.reduceLT, Int.reduceLE, Int.reduceAdd, Int.reduceSub, Int.reduceMul, Int.reduceNeg, Int.reduceEq, reduceCtorEq, Nat.reduceLeDiff, Nat.reduceLT, Nat.reduceEqDiff, Nat.reduceAdd, Nat.reduceMul, Nat.reduceSub, Int.cast_ofNat_Int, opc_get', List.length_map]) <;> (first | done | rfl | (simp; done) | (simp; omega) | omega | (simp_all; done) | (simp_all; omega))
     · first | rfl | (try simp (disch := omega) only [push_cast, Int.reduceToNat, Int.reduceLT, Int.reduceLE, Int.reduceAdd, Int.reduceSub, Int.reduceMul, Int.reduceNeg, Int.reduceEq, reduceCtorEq, Nat.reduceLeDiff, Nat.reduceLT, Nat.reduceEqDiff, Nat.reduceAdd, Nat.reduceMul, Nat.reduceSub, Int.cast_ofNat_Int, opc_get', List.length_map]) <;> (first | done | rfl | (simp; done) | (simp; omega) | omega | (simp_all; done) | (simp_all; omega))
     · first | omega | (simp; done) | (simp_all; done) | (simp_all; omega)
   intro m env σ' hJ M0 hM0
   obtain ⟨rfl, rfl, -, hi⟩ := hJ
   refine WS.seq (WS.seq ?_)
   refine R0 fun K hK => ?_
   try simp (maxSteps := 4000000) (disch := omega) only [push_cast, Nat.reduceLT, Nat.reduceEqDiff, Int.reduceToNat, Int.reduceLT, Int.reduceLE, Int.reduceAdd, Int.reduceSub, Int.reduceMul, Int.reduceNeg, Int.reduceEq, reduceCtorEq, Int.cast_ofNat_Int, Hp.get_set, opc_get', List.length_map]
   all_goals try (first | refine guardT 34 rfl (fun hc => ?_) (fun hc => ?_) | refine guardF 34 rfl (fun hc => ?_) (fun hc => ?_)) <;> try simp only [push_cast] at hc
   all_goals try (exfalso; omega)
   all_goals try simp (maxSteps := 4000000) (disch := omega) only [push_cast, Nat.reduceLT, Nat.reduceEqDiff, Int.reduceToNat, Int.reduceLT, Int.reduceLE, Int.reduceAdd, Int.reduceSub, Int.reduceMul, Int.reduceNeg, Int.reduceEq, reduceCtorEq, Int.cast_ofNat_Int, Hp.get_set, opc_get', List.length_map]
   all_goals try (first | refine guardT 38 rfl (fun hc => ?_) (fun hc => ?_) | refine guardF 38 rfl (fun hc => ?_) (fun hc => ?_)) <;> try simp only [push_cast] at hc
   all_goals try (exfalso; omega)
   all_goals try simp (maxSteps := 4000000) (disch := omega) only [push_cast, Nat.reduceLT, Nat.reduceEqDiff, Int.reduceToNat, Int.reduceLT, Int.reduceLE, Int.reduceAdd, Int.reduceSub, Int.reduceMul, Int.reduceNeg, Int.reduceEq, reduceCtorEq, Int.cast_ofNat_Int, Hp.get_set, opc_get', List.length_map]
   all_goals
    refine Qk hK [1, 5, 7, 9, 41] ?_
    clear hK K
    refine CI rfl (fun hc => ?_) (fun hc => ?_)
    ·
     all_goals try (cases hc; done)
     all_goals try simp only [push_cast] at hc
     all_goals try (exfalso; omega)
     all_goals
      skip
    all_goals try (cases hc; done)
    all_goals try simp only [push_cast] at hc
    all_goals try (exfalso; omega)
    all_goals
     refine Ex ?_
     simp only [push_cast, WS, Nat.reduceEqDiff]
     refine hK0 _ _ ?_
     clear hK0 K0
     refine WS_keep [] _ ?_
     refine WS.seq ?_
     refine R0 fun K hK => ?_
     try simp (maxSteps := 4000000) (disch := omega) only [push_cast, Nat.reduceLT, Nat.reduceEqDiff, Hp.get_set, opc_get', List.length_map]
     refine callP (alive_spec ) rfl ?_
     try simp (maxSteps := 4000000) (disch := omega) only [push_cast, Nat.reduceLT, Nat.reduceEqDiff, Hp.get_set, opc_get', List.length_map]
     refine Qk hK [4] ?_
     clear hK K
     refine Rt ?_
     refine hQ0 _ _ _ ?_
     try simp (maxSteps := 4000000) only [push_cast, Int.reduceToNat, Int.reduceLT, Int.reduceLE, Int.reduceAdd, Int.reduceSub, Int.reduceMul, Int.reduceNeg, Int.reduceEq, reduceCtorEq, Nat.reduceLeDiff, Nat.reduceLT, Nat.reduceEqDiff, Nat.reduceAdd, Nat.reduceMul, Nat.reduceSub, Int.cast_ofNat_Int, opc_get', List.length_map]
     first | done | rfl | (simp; done) | (simp_all; done) | (simp_all; omega)
theorem lives_ok (quota : Int) (ops : List Op) (hq : ¬ (quota < 1 ∨ 65536 < quota)) (hl : ops.length ≤ 140737488351232) (hg : ∀ o ∈ ops, o.Good) : PSpec Go.Proofs.Try.prog 9 [.int .i64 quota, .sl 6 (ops.map opV) .no] (.bool true) := by
 refine introP (n := 105) (rs := [.tmp 4]) (fn := Go.Proofs.Try.f9) (by rfl) rfl (by kernel_rfl) rfl rfl (Nat.le_of_ble_eq_true rfl) (fun Q0 hQ0 => ?_)
 refine WS.seq ?_
 refine A1 [0, 1] (by decide) ?_
 refine WS.seq ?_
 refine R0 fun K hK => ?_
 try simp (maxSteps := 4000000) (disch := omega) only [push_cast, Nat.reduceLT, Nat.reduceEqDiff, Nat.reduceAdd, Nat.reduceMul, Nat.reduceSub, Nat.reduceLeDiff, Hp.get_set, opc_get', List.length_map, beq_self_eq_true, rcells]
 refine callS (new_spec quota) (fun v τ h => ?_)
 rw [newP, if_neg hq] at h
 obtain ⟨d, rfl, hD⟩ := h
 try simp (maxSteps := 4000000) (disch := omega) only [push_cast, Nat.reduceLT, Nat.reduceEqDiff, Nat.reduceAdd, Nat.reduceMul, Nat.reduceSub, Nat.reduceLeDiff, Hp.get_set, opc_get', List.length_map, beq_self_eq_true, rcells]
 refine Qk hK [0, 1, 5, 6] ?_
 clear hK K
 refine WS.seq ?_
 refine R0 fun K hK => ?_
 try simp (maxSteps := 4000000) (disch := omega) only [push_cast, Nat.reduceLT, Nat.reduceEqDiff, Nat.reduceAdd, Nat.reduceMul, Nat.reduceSub, Nat.reduceLeDiff, Hp.get_set, opc_get', List.length_map, beq_self_eq_true, rcells]
 refine callE (rnew_spec quota) (fun v σx h hj => ?_)
 rw [if_neg hq] at h
 obtain ⟨x, rfl, hX⟩ := h
 try simp (maxSteps := 4000000) (disch := omega) only [push_cast, Nat.reduceLT, Nat.reduceEqDiff, Nat.reduceAdd, Nat.reduceMul, Nat.reduceSub, Nat.reduceLeDiff, Hp.get_set, opc_get', List.length_map, beq_self_eq_true, rcells]
 refine Qk hK [1, 5, 6, 7, 8] ?_
 clear hK K
 refine WS.seq (WS.seq ?_)
 refine R0 fun K hK => ?_
 try simp (maxSteps := 4000000) (disch := omega) only [push_cast, Nat.reduceLT, Nat.reduceEqDiff, Int.reduceToNat, Int.reduceLT, Int.reduceLE, Int.reduceAdd, Int.reduceSub, Int.reduceMul, Int.reduceNeg, Int.reduceEq, reduceCtorEq, Int.cast_ofNat_Int, Hp.get_set, opc_get', List.length_map, beq_self_eq_true, rcells]
 all_goals try (first | refine guardT 23 rfl (fun hc => ?_) (fun hc => ?_) | refine guardF 23 rfl (fun hc => ?_) (fun hc => ?_)) <;> try simp only [push_cast] at hc
 all_goals try (exfalso; omega)
 all_goals try simp (maxSteps := 4000000) (disch := omega) only [push_cast, Nat.reduceLT, Nat.reduceEqDiff, Int.reduceToNat, Int.reduceLT, Int.reduceLE, Int.reduceAdd, Int.reduceSub, Int.reduceMul, Int.reduceNeg, Int.reduceEq, reduceCtorEq, Int.cast_ofNat_Int, Hp.get_set, opc_get', List.length_map, beq_self_eq_true, rcells]
 all_goals
  refine Qk hK [1, 5, 7, 29] ?_
  clear hK K
  refine CI rfl (fun hc => ?_) (fun hc => ?_)
  ·
   all_goals try (cases hc; done)
   all_goals try simp only [push_cast] at hc
   all_goals try (exfalso; omega)
   all_goals
    refine WS.seq ?_
    refine A1 [4] (by decide) ?_
    refine Rt ?_
    refine hQ0 _ _ _ ?_
    try simp (maxSteps := 4000000) only [push_cast, Int.reduceToNat, Int.reduceLT, Int.reduceLE, Int.reduceAdd, Int.reduceSub, Int.reduceMul, Int.reduceNeg, Int.reduceEq, reduceCtorEq, Nat.reduceLeDiff, Nat.reduceLT, Nat.reduceEqDiff, Nat.reduceAdd, Nat.reduceMul, Nat.reduceSub, Int.cast_ofNat_Int, opc_get', List.length_map, beq_self_eq_true, rcells]
    first | done | rfl | (simp; done) | (simp_all; done) | (simp_all; omega)
  all_goals try (cases hc; done)
  all_goals try simp only [push_cast] at hc
  all_goals try (exfalso; omega)
  all_goals
   refine Sk ?_
   refine WS.seq (WS.seq ?_)
   refine A1 [1, 5, 7, 9] (by decide) ?_
   refine Bk fun K0 hK0 => ?_
   refine WS_keep [1, 5, 7, 9] _ ?_
   refine Lp (fun m env σ' => ∃ (i : Nat) (σd σx : Hp) (D : Disk) (X : RDisk), m = ops.length - i ∧ env = [(1, .sl 6 (ops.map opV) .no), (5, .ptr d 0), (7, .ptr x 0), (9, .int .i64 i)] ∧ σ' = σd.join σx ∧ (i ≤ ops.length ∧ i ≤ 100 ∧ DiskAt D d σd ∧ RDiskAt X x σx ∧ Disj σd σx ∧ Rel i D X)) ?_ ?_
   · refine ⟨_, 0, τ, σx, Disk.new quota, ⟨quota, [], 0, -1, false⟩,  rfl, ?_, ?_, ?_⟩
     · (try simp (disch := omega) only [push_cast, Int.reduceToNat, Int.reduceLT, Int.reduceLE, Int.reduceAdd, Int.reduceSub, Int.reduceMul, Int.reduceNeg, Int.reduceEq, reduceCtorEq, Nat.reduceLeDiff, Nat.reduceLT, Nat.reduceEqDiff, Nat.reduceAdd, Nat.reduceMul, Nat.reduceSub, Int.cast_ofNat_Int, opc_get', List.length_map, beq_self_eq_true, rcells]) <;> (first | done | rfl | (simp; done) | (simp; omega) | omega | (simp_all; done) | (simp_all; omega))
     · first | rfl | (try simp (disch := omega) only [push_cast, Int.reduceToNat, Int.reduceLT, Int.reduceLE, Int.reduceAdd, Int.reduceSub, Int.reduceMul, Int.reduceNeg, Int.reduceEq, reduceCtorEq, Nat.reduceLeDiff, Nat.reduceLT, Nat.reduceEqDiff, Nat.reduceAdd, Nat.reduceMul, Nat.reduceSub, Int.cast_ofNat_Int, opc_get', List.length_map, beq_self_eq_true, rcells]) <;> (first | done | rfl | (simp; done) | (simp; omega) | omega | (simp_all; done) | (simp_all; omega))
     · exact ⟨by omega, by omega, hD, hX, hj, Rel.new⟩
   intro m env σ' hJ M0 hM0
   obtain ⟨i, σd, σx, D, X, rfl, rfl, rfl, hi, hi1, hD, hX, hj, hR⟩ := hJ
   refine WS.seq (WS.seq ?_)
   refine R0 fun K hK => ?_
   try simp (maxSteps := 4000000) (disch := omega) only [push_cast, Nat.reduceLT, Nat.reduceEqDiff, Int.reduceToNat, Int.reduceLT, Int.reduceLE, Int.reduceAdd, Int.reduceSub, Int.reduceMul, Int.reduceNeg, Int.reduceEq, reduceCtorEq, Int.cast_ofNat_Int, Hp.get_set, opc_get', List.length_map, beq_self_eq_true, rcells]
   all_goals try (first | refine guardT 34 rfl (fun hc => ?_) (fun hc => ?_) | refine guardF 34 rfl (fun hc => ?_) (fun hc => ?_)) <;> try simp only [push_cast] at hc
   all_goals try (exfalso; omega)
   all_goals try simp (maxSteps := 4000000) (disch := omega) only [push_cast, Nat.reduceLT, Nat.reduceEqDiff, Int.reduceToNat, Int.reduceLT, Int.reduceLE, Int.reduceAdd, Int.reduceSub, Int.reduceMul, Int.reduceNeg, Int.reduceEq, reduceCtorEq, Int.cast_ofNat_Int, Hp.get_set, opc_get', List.length_map, beq_self_eq_true, rcells]
   all_goals try (first | refine guardT 38 rfl (fun hc => ?_) (fun hc => ?_) | refine guardF 38 rfl (fun hc => ?_) (fun hc => ?_)) <;> try simp only [push_cast] at hc
   all_goals try (exfalso; omega)
   all_goals try simp (maxSteps := 4000000) (disch := omega) only [push_cast, Nat.reduceLT, Nat.reduceEqDiff, Int.reduceToNat, Int.reduceLT, Int.reduceLE, Int.reduceAdd, Int.reduceSub, Int.reduceMul, Int.reduceNeg, Int.reduceEq, reduceCtorEq, Int.cast_ofNat_Int, Hp.get_set, opc_get', List.length_map, beq_self_eq_true, rcells]
   all_goals
    refine Qk hK [1, 5, 7, 9, 41] ?_
    clear hK K
    refine CI rfl (fun hc => ?_) (fun hc => ?_)
    rotate_left
    ·
     all_goals try (cases hc; done)
     all_goals try simp only [push_cast] at hc
     all_goals try (exfalso; omega)
     all_goals
      refine Ex ?_
      simp only [push_cast, WS, Nat.reduceEqDiff]
      refine hK0 _ _ ?_
      clear hK0 K0
      refine WS_keep [] _ ?_
      refine WS.seq ?_
      refine R0 fun K hK => ?_
      try simp (maxSteps := 4000000) (disch := omega) only [push_cast, Nat.reduceLT, Nat.reduceEqDiff, Hp.get_set, opc_get', List.length_map, beq_self_eq_true, rcells]
      refine callP (alive_spec ) rfl ?_
      try simp (maxSteps := 4000000) (disch := omega) only [push_cast, Nat.reduceLT, Nat.reduceEqDiff, Hp.get_set, opc_get', List.length_map, beq_self_eq_true, rcells]
      refine Qk hK [4] ?_
      clear hK K
      refine Rt ?_
      refine hQ0 _ _ _ ?_
      try simp (maxSteps := 4000000) only [push_cast, Int.reduceToNat, Int.reduceLT, Int.reduceLE, Int.reduceAdd, Int.reduceSub, Int.reduceMul, Int.reduceNeg, Int.reduceEq, reduceCtorEq, Nat.reduceLeDiff, Nat.reduceLT, Nat.reduceEqDiff, Nat.reduceAdd, Nat.reduceMul, Nat.reduceSub, Int.cast_ofNat_Int, opc_get', List.length_map, beq_self_eq_true, rcells]
      first | done | rfl | (simp; done) | (simp_all; done) | (simp_all; omega)
    all_goals try (cases hc; done)
    all_goals try simp only [push_cast] at hc
    all_goals try (exfalso; omega)
    all_goals
     refine Sk ?_
     refine WS.seq ?_
     refine Bk fun K1 hK1 => ?_
     refine WS.seq (WS.seq ?_)
     refine R0 fun K hK => ?_
     try simp (maxSteps := 4000000) (disch := omega) only [push_cast, Nat.reduceLT, Nat.reduceEqDiff, Nat.reduceAdd, Nat.reduceMul, Nat.reduceSub, Nat.reduceLeDiff, Int.reduceToNat, Int.reduceLT, Int.reduceLE, Int.reduceAdd, Int.reduceSub, Int.reduceMul, Int.reduceNeg, Int.reduceEq, reduceCtorEq, Int.cast_ofNat_Int, Hp.get_set, opc_get', List.length_map, beq_self_eq_true, rcells]
     (repeat refine And.intro (by first | omega | (simp; done) | (simp_all; done) | (simp_all; omega)) ?_)
     refine Qk hK [1, 5, 7, 9, 50] ?_
     clear hK K
     refine CI rfl (fun hc => ?_) (fun hc => ?_)
     ·
      all_goals try (cases hc; done)
      all_goals try simp only [push_cast] at hc
      all_goals try (exfalso; omega)
      all_goals
       refine WS.seq ?_
       refine R0 fun K hK => ?_
       try simp (maxSteps := 4000000) (disch := omega) only [push_cast, Nat.reduceLT, Nat.reduceEqDiff, Hp.get_set, opc_get', List.length_map, beq_self_eq_true, rcells]
       refine callP alive_spec rfl ?_
       try simp (maxSteps := 4000000) (disch := omega) only [push_cast, Nat.reduceLT, Nat.reduceEqDiff, Hp.get_set, opc_get', List.length_map, beq_self_eq_true, rcells]
       refine Qk hK [4] ?_
       clear hK K
       refine Rt ?_
       simp only [push_cast]
       refine hQ0 _ _ _ ?_
       try simp (maxSteps := 4000000) only [push_cast, Int.reduceToNat, Int.reduceLT, Int.reduceLE, Int.reduceAdd, Int.reduceSub, Int.reduceMul, Int.reduceNeg, Int.reduceEq, reduceCtorEq, Nat.reduceLeDiff, Nat.reduceLT, Nat.reduceEqDiff, Nat.reduceAdd, Nat.reduceMul, Nat.reduceSub, Int.cast_ofNat_Int, opc_get', List.length_map, beq_self_eq_true, rcells]
       first | done | rfl | (simp; done) | (simp_all; done) | (simp_all; omega)
     all_goals try (cases hc; done)
     all_goals try simp only [push_cast] at hc
     all_goals try (exfalso; omega)
     all_goals
      refine Sk ?_
      refine WS.seq ?_
      refine RD [] [1000031, 1000035, 1000038, 1000039, 1000040, 1000041] fo (by kernel_rfl) fun K hK => ?_
      try simp (maxSteps := 4000000) (disch := omega) only [push_cast, Nat.reduceLT, Nat.reduceEqDiff, Nat.reduceAdd, Nat.reduceMul, Nat.reduceSub, Nat.reduceLeDiff, Int.reduceToNat, Int.reduceLT, Int.reduceLE, Int.reduceAdd, Int.reduceSub, Int.reduceMul, Int.reduceNeg, Int.reduceEq, reduceCtorEq, Int.cast_ofNat_Int, Hp.get_set, opc_get', List.length_map, beq_self_eq_true, rcells]
      (repeat refine And.intro (by first | omega | (simp; done) | (simp_all; done) | (simp_all; omega)) ?_)
      have hge : oat ops i ∈ ops := getD_mem ops i _ (by omega)
      refine callSD rfl rfl (one_spec (oat ops i) (hg _ hge) (by omega) (by omega) hR hD hX hj) ⟨_, _, rfl, σd, σx, D, X, rfl, hj, hD, hX, hR.up (by omega)⟩ (fun v τ2 h => ?_)
      obtain ⟨rfl, σd, σx, D, X, rfl, hj, hD, hX, hR⟩ := h
      have hXl : X.l.length ≤ 1000000 := by have := hR.n; omega
      have hw := hR.waits
      have hca := hR.c
      have hdn := hR.dn
      have hl0 : lenV D 0 = rLen 0 X.l := hR.z0
      have hl1 : lenV D 1 = rLen 1 X.l := hR.z1
      have hl2 : lenV D 2 = 0 := rfl
      obtain ⟨gl, cap, tl, hX1⟩ := id hX
      have hxj := Hp.join_get (σ := σd) hX1.hx
      try simp (maxSteps := 4000000) (disch := omega) only [push_cast, Nat.reduceLT, Nat.reduceEqDiff, Nat.reduceAdd, Nat.reduceMul, Nat.reduceSub, Nat.reduceLeDiff, Int.reduceToNat, Int.reduceLT, Int.reduceLE, Int.reduceAdd, Int.reduceSub, Int.reduceMul, Int.reduceNeg, Int.reduceEq, reduceCtorEq, Int.cast_ofNat_Int, Hp.get_set, opc_get', List.length_map, beq_self_eq_true, rcells, hw, hca, hdn, hl0, hl1, hl2, hxj]
      (repeat refine And.intro (by first | omega | (simp; done) | (simp_all; done) | (simp_all; omega)) ?_)
      all_goals try (first | refine guardT 60 rfl (fun hc => ?_) (fun hc => ?_) | refine guardF 60 rfl (fun hc => ?_) (fun hc => ?_)) <;> try simp only [push_cast] at hc
      all_goals try (exfalso; omega)
      all_goals try simp (maxSteps := 4000000) (disch := omega) only [push_cast, Nat.reduceLT, Nat.reduceEqDiff, Nat.reduceAdd, Nat.reduceMul, Nat.reduceSub, Nat.reduceLeDiff, Int.reduceToNat, Int.reduceLT, Int.reduceLE, Int.reduceAdd, Int.reduceSub, Int.reduceMul, Int.reduceNeg, Int.reduceEq, reduceCtorEq, Int.cast_ofNat_Int, Hp.get_set, opc_get', List.length_map, beq_self_eq_true, rcells, hw, hca, hdn, hl0, hl1, hl2, hxj]
      all_goals (repeat refine And.intro (by first | omega | (simp; done) | (simp_all; done) | (simp_all; omega)) ?_)
      all_goals try (
        refine callR ((waits_R hD).sub (HSub.join_left hj)) rfl ?_)
      all_goals try simp (maxSteps := 4000000) (disch := omega) only [push_cast, Nat.reduceLT, Nat.reduceEqDiff, Nat.reduceAdd, Nat.reduceMul, Nat.reduceSub, Nat.reduceLeDiff, Int.reduceToNat, Int.reduceLT, Int.reduceLE, Int.reduceAdd, Int.reduceSub, Int.reduceMul, Int.reduceNeg, Int.reduceEq, reduceCtorEq, Int.cast_ofNat_Int, Hp.get_set, opc_get', List.length_map, beq_self_eq_true, rcells, hw, hca, hdn, hl0, hl1, hl2, hxj]
      all_goals (repeat refine And.intro (by first | omega | (simp; done) | (simp_all; done) | (simp_all; omega)) ?_)
      all_goals try (
        refine callR ((rwaits_R hXl hX).sub HSub.join_right) rfl ?_)
      all_goals try simp (maxSteps := 4000000) (disch := omega) only [push_cast, Nat.reduceLT, Nat.reduceEqDiff, Nat.reduceAdd, Nat.reduceMul, Nat.reduceSub, Nat.reduceLeDiff, Int.reduceToNat, Int.reduceLT, Int.reduceLE, Int.reduceAdd, Int.reduceSub, Int.reduceMul, Int.reduceNeg, Int.reduceEq, reduceCtorEq, Int.cast_ofNat_Int, Hp.get_set, opc_get', List.length_map, beq_self_eq_true, rcells, hw, hca, hdn, hl0, hl1, hl2, hxj]
      all_goals (repeat refine And.intro (by first | omega | (simp; done) | (simp_all; done) | (simp_all; omega)) ?_)
      all_goals try (first | refine guardT 67 rfl (fun hc => ?_) (fun hc => ?_) | refine guardF 67 rfl (fun hc => ?_) (fun hc => ?_)) <;> try simp only [push_cast] at hc
      all_goals try (exfalso; omega)
      all_goals try simp (maxSteps := 4000000) (disch := omega) only [push_cast, Nat.reduceLT, Nat.reduceEqDiff, Nat.reduceAdd, Nat.reduceMul, Nat.reduceSub, Nat.reduceLeDiff, Int.reduceToNat, Int.reduceLT, Int.reduceLE, Int.reduceAdd, Int.reduceSub, Int.reduceMul, Int.reduceNeg, Int.reduceEq, reduceCtorEq, Int.cast_ofNat_Int, Hp.get_set, opc_get', List.length_map, beq_self_eq_true, rcells, hw, hca, hdn, hl0, hl1, hl2, hxj]
      all_goals (repeat refine And.intro (by first | omega | (simp; done) | (simp_all; done) | (simp_all; omega)) ?_)
      all_goals try (
        refine callR ((calls_R hD).sub (HSub.join_left hj)) rfl ?_)
      all_goals try simp (maxSteps := 4000000) (disch := omega) only [push_cast, Nat.reduceLT, Nat.reduceEqDiff, Nat.reduceAdd, Nat.reduceMul, Nat.reduceSub, Nat.reduceLeDiff, Int.reduceToNat, Int.reduceLT, Int.reduceLE, Int.reduceAdd, Int.reduceSub, Int.reduceMul, Int.reduceNeg, Int.reduceEq, reduceCtorEq, Int.cast_ofNat_Int, Hp.get_set, opc_get', List.length_map, beq_self_eq_true, rcells, hw, hca, hdn, hl0, hl1, hl2, hxj]
      all_goals (repeat refine And.intro (by first | omega | (simp; done) | (simp_all; done) | (simp_all; omega)) ?_)
      all_goals try (first | refine guardT 76 rfl (fun hc => ?_) (fun hc => ?_) | refine guardF 76 rfl (fun hc => ?_) (fun hc => ?_)) <;> try simp only [push_cast] at hc
      all_goals try (exfalso; omega)
      all_goals try simp (maxSteps := 4000000) (disch := omega) only [push_cast, Nat.reduceLT, Nat.reduceEqDiff, Nat.reduceAdd, Nat.reduceMul, Nat.reduceSub, Nat.reduceLeDiff, Int.reduceToNat, Int.reduceLT, Int.reduceLE, Int.reduceAdd, Int.reduceSub, Int.reduceMul, Int.reduceNeg, Int.reduceEq, reduceCtorEq, Int.cast_ofNat_Int, Hp.get_set, opc_get', List.length_map, beq_self_eq_true, rcells, hw, hca, hdn, hl0, hl1, hl2, hxj]
      all_goals (repeat refine And.intro (by first | omega | (simp; done) | (simp_all; done) | (simp_all; omega)) ?_)
      all_goals try (
        refine callR ((down_R hD).sub (HSub.join_left hj)) rfl ?_)
      all_goals try simp (maxSteps := 4000000) (disch := omega) only [push_cast, Nat.reduceLT, Nat.reduceEqDiff, Nat.reduceAdd, Nat.reduceMul, Nat.reduceSub, Nat.reduceLeDiff, Int.reduceToNat, Int.reduceLT, Int.reduceLE, Int.reduceAdd, Int.reduceSub, Int.reduceMul, Int.reduceNeg, Int.reduceEq, reduceCtorEq, Int.cast_ofNat_Int, Hp.get_set, opc_get', List.length_map, beq_self_eq_true, rcells, hw, hca, hdn, hl0, hl1, hl2, hxj]
      all_goals (repeat refine And.intro (by first | omega | (simp; done) | (simp_all; done) | (simp_all; omega)) ?_)
      all_goals try (first | refine guardT 85 rfl (fun hc => ?_) (fun hc => ?_) | refine guardF 85 rfl (fun hc => ?_) (fun hc => ?_)) <;> try simp only [push_cast] at hc
      all_goals try (exfalso; omega)
      all_goals try simp (maxSteps := 4000000) (disch := omega) only [push_cast, Nat.reduceLT, Nat.reduceEqDiff, Nat.reduceAdd, Nat.reduceMul, Nat.reduceSub, Nat.reduceLeDiff, Int.reduceToNat, Int.reduceLT, Int.reduceLE, Int.reduceAdd, Int.reduceSub, Int.reduceMul, Int.reduceNeg, Int.reduceEq, reduceCtorEq, Int.cast_ofNat_Int, Hp.get_set, opc_get', List.length_map, beq_self_eq_true, rcells, hw, hca, hdn, hl0, hl1, hl2, hxj]
      all_goals (repeat refine And.intro (by first | omega | (simp; done) | (simp_all; done) | (simp_all; omega)) ?_)
      all_goals try (
        refine callR ((len_R _ hD).sub (HSub.join_left hj)) rfl ?_)
      all_goals try simp (maxSteps := 4000000) (disch := omega) only [push_cast, Nat.reduceLT, Nat.reduceEqDiff, Nat.reduceAdd, Nat.reduceMul, Nat.reduceSub, Nat.reduceLeDiff, Int.reduceToNat, Int.reduceLT, Int.reduceLE, Int.reduceAdd, Int.reduceSub, Int.reduceMul, Int.reduceNeg, Int.reduceEq, reduceCtorEq, Int.cast_ofNat_Int, Hp.get_set, opc_get', List.length_map, beq_self_eq_true, rcells, hw, hca, hdn, hl0, hl1, hl2, hxj]
      all_goals (repeat refine And.intro (by first | omega | (simp; done) | (simp_all; done) | (simp_all; omega)) ?_)
      all_goals try (
        refine callR ((rlen_nX _ hXl hR.xs hX).sub HSub.join_right) rfl ?_)
      all_goals try simp (maxSteps := 4000000) (disch := omega) only [push_cast, Nat.reduceLT, Nat.reduceEqDiff, Nat.reduceAdd, Nat.reduceMul, Nat.reduceSub, Nat.reduceLeDiff, Int.reduceToNat, Int.reduceLT, Int.reduceLE, Int.reduceAdd, Int.reduceSub, Int.reduceMul, Int.reduceNeg, Int.reduceEq, reduceCtorEq, Int.cast_ofNat_Int, Hp.get_set, opc_get', List.length_map, beq_self_eq_true, rcells, hw, hca, hdn, hl0, hl1, hl2, hxj]
      all_goals (repeat refine And.intro (by first | omega | (simp; done) | (simp_all; done) | (simp_all; omega)) ?_)
      all_goals try (first | refine guardT 92 rfl (fun hc => ?_) (fun hc => ?_) | refine guardF 92 rfl (fun hc => ?_) (fun hc => ?_)) <;> try simp only [push_cast] at hc
      all_goals try (exfalso; omega)
      all_goals try simp (maxSteps := 4000000) (disch := omega) only [push_cast, Nat.reduceLT, Nat.reduceEqDiff, Nat.reduceAdd, Nat.reduceMul, Nat.reduceSub, Nat.reduceLeDiff, Int.reduceToNat, Int.reduceLT, Int.reduceLE, Int.reduceAdd, Int.reduceSub, Int.reduceMul, Int.reduceNeg, Int.reduceEq, reduceCtorEq, Int.cast_ofNat_Int, Hp.get_set, opc_get', List.length_map, beq_self_eq_true, rcells, hw, hca, hdn, hl0, hl1, hl2, hxj]
      all_goals (repeat refine And.intro (by first | omega | (simp; done) | (simp_all; done) | (simp_all; omega)) ?_)
      all_goals try (
        refine callR ((len_R _ hD).sub (HSub.join_left hj)) rfl ?_)
      all_goals try simp (maxSteps := 4000000) (disch := omega) only [push_cast, Nat.reduceLT, Nat.reduceEqDiff, Nat.reduceAdd, Nat.reduceMul, Nat.reduceSub, Nat.reduceLeDiff, Int.reduceToNat, Int.reduceLT, Int.reduceLE, Int.reduceAdd, Int.reduceSub, Int.reduceMul, Int.reduceNeg, Int.reduceEq, reduceCtorEq, Int.cast_ofNat_Int, Hp.get_set, opc_get', List.length_map, beq_self_eq_true, rcells, hw, hca, hdn, hl0, hl1, hl2, hxj]
      all_goals (repeat refine And.intro (by first | omega | (simp; done) | (simp_all; done) | (simp_all; omega)) ?_)
      all_goals try (
        refine callR ((rlen_nX _ hXl hR.xs hX).sub HSub.join_right) rfl ?_)
      all_goals try simp (maxSteps := 4000000) (disch := omega) only [push_cast, Nat.reduceLT, Nat.reduceEqDiff, Nat.reduceAdd, Nat.reduceMul, Nat.reduceSub, Nat.reduceLeDiff, Int.reduceToNat, Int.reduceLT, Int.reduceLE, Int.reduceAdd, Int.reduceSub, Int.reduceMul, Int.reduceNeg, Int.reduceEq, reduceCtorEq, Int.cast_ofNat_Int, Hp.get_set, opc_get', List.length_map, beq_self_eq_true, rcells, hw, hca, hdn, hl0, hl1, hl2, hxj]
      all_goals (repeat refine And.intro (by first | omega | (simp; done) | (simp_all; done) | (simp_all; omega)) ?_)
      all_goals try (first | refine guardT 99 rfl (fun hc => ?_) (fun hc => ?_) | refine guardF 99 rfl (fun hc => ?_) (fun hc => ?_)) <;> try simp only [push_cast] at hc
      all_goals try (exfalso; omega)
      all_goals try simp (maxSteps := 4000000) (disch := omega) only [push_cast, Nat.reduceLT, Nat.reduceEqDiff, Nat.reduceAdd, Nat.reduceMul, Nat.reduceSub, Nat.reduceLeDiff, Int.reduceToNat, Int.reduceLT, Int.reduceLE, Int.reduceAdd, Int.reduceSub, Int.reduceMul, Int.reduceNeg, Int.reduceEq, reduceCtorEq, Int.cast_ofNat_Int, Hp.get_set, opc_get', List.length_map, beq_self_eq_true, rcells, hw, hca, hdn, hl0, hl1, hl2, hxj]
      all_goals (repeat refine And.intro (by first | omega | (simp; done) | (simp_all; done) | (simp_all; omega)) ?_)
      all_goals try (
        refine callR ((len_R _ hD).sub (HSub.join_left hj)) rfl ?_)
      all_goals try simp (maxSteps := 4000000) (disch := omega) only [push_cast, Nat.reduceLT, Nat.reduceEqDiff, Nat.reduceAdd, Nat.reduceMul, Nat.reduceSub, Nat.reduceLeDiff, Int.reduceToNat, Int.reduceLT, Int.reduceLE, Int.reduceAdd, Int.reduceSub, Int.reduceMul, Int.reduceNeg, Int.reduceEq, reduceCtorEq, Int.cast_ofNat_Int, Hp.get_set, opc_get', List.length_map, beq_self_eq_true, rcells, hw, hca, hdn, hl0, hl1, hl2, hxj]
      all_goals (repeat refine And.intro (by first | omega | (simp; done) | (simp_all; done) | (simp_all; omega)) ?_)
      all_goals
       refine Qk hK [1, 5, 7, 9, 103] ?_
       clear hK K
       refine CI rfl (fun hc => ?_) (fun hc => ?_)
       ·
        all_goals try (cases hc; done)
        all_goals try simp only [push_cast] at hc
        all_goals try (exfalso; omega)
        all_goals
         refine WS.seq ?_
         refine A1 [4] (by decide) ?_
         refine Rt ?_
         simp only [push_cast]
         refine hQ0 _ _ _ ?_
         try simp (maxSteps := 4000000) only [push_cast, Int.reduceToNat, Int.reduceLT, Int.reduceLE, Int.reduceAdd, Int.reduceSub, Int.reduceMul, Int.reduceNeg, Int.reduceEq, reduceCtorEq, Nat.reduceLeDiff, Nat.reduceLT, Nat.reduceEqDiff, Nat.reduceAdd, Nat.reduceMul, Nat.reduceSub, Int.cast_ofNat_Int, opc_get', List.length_map, beq_self_eq_true, rcells, hw, hca, hdn, hl0, hl1, hl2, hxj]
         first | done | rfl | (simp; done) | (simp_all; done) | (simp_all; omega)
       all_goals try (cases hc; done)
       all_goals try simp only [push_cast] at hc
       all_goals try (exfalso; omega)
       all_goals
        refine Sk ?_
        simp only [push_cast, WS, Nat.reduceEqDiff]
        refine hK1 _ _ ?_
        clear hK1 K1
        refine WS_keep [1, 5, 7, 9] _ ?_
        refine R0 fun K hK => ?_
        try simp (maxSteps := 4000000) (disch := omega) only [push_cast, Nat.reduceLT, Nat.reduceEqDiff, Int.reduceToNat, Int.reduceLT, Int.reduceLE, Int.reduceAdd, Int.reduceSub, Int.reduceMul, Int.reduceNeg, Int.reduceEq, reduceCtorEq, Int.cast_ofNat_Int, Hp.get_set, opc_get', List.length_map, beq_self_eq_true, rcells, hw, hca, hdn, hl0, hl1, hl2, hxj]
        (repeat refine And.intro (by first | omega | (simp; done) | (simp_all; done) | (simp_all; omega)) ?_)
        refine Qk hK [1, 5, 7, 9] ?_
        clear hK K
        refine Ag (hM0 _ _ ?_)
        refine ⟨_, ?_, i + 1, σd, σx, D, X,  rfl, ?_, ?_, ?_⟩
        · first | omega | (simp; done) | (simp_all; done) | (simp_all; omega)
        · (try simp (disch := omega) only [push_cast, Int.reduceToNat, Int.reduceLT, Int.reduceLE, Int.reduceAdd, Int.reduceSub, Int.reduceMul, Int.reduceNeg, Int.reduceEq, reduceCtorEq, Nat.reduceLeDiff, Nat.reduceLT, Nat.reduceEqDiff, Nat.reduceAdd, Nat.reduceMul, Nat.reduceSub, Int.cast_ofNat_Int, opc_get', List.length_map, beq_self_eq_true, rcells, hw, hca, hdn, hl0, hl1, hl2, hxj]) <;> (first | done | rfl | (simp; done) | (simp; omega) | omega | (simp_all; done) | (simp_all; omega))
        · first | rfl | (try simp (disch := omega) only [push_cast, Int.reduceToNat, Int.reduceLT, Int.reduceLE, Int.reduceAdd, Int.reduceSub, Int.reduceMul, Int.reduceNeg, Int.reduceEq, reduceCtorEq, Nat.reduceLeDiff, Nat.reduceLT, Nat.reduceEqDiff, Nat.reduceAdd, Nat.reduceMul, Nat.reduceSub, Int.cast_ofNat_Int, opc_get', List.length_map, beq_self_eq_true, rcells, hw, hca, hdn, hl0, hl1, hl2, hxj]) <;> (first | done | rfl | (simp; done) | (simp; omega) | omega | (simp_all; done) | (simp_all; omega))
        · exact ⟨by omega, by omega, hD, hX, hj, hR⟩
theorem lives_spec (quota : Int) (ops : List Op) (hl : ops.length ≤ 140737488351232) (hg : ∀ o ∈ ops, o.Good) : PSpec Go.Proofs.Try.prog 9 [.int .i64 quota, .sl 6 (ops.map opV) .no] (.bool true) := by
  by_cases hq : quota < 1 ∨ 65536 < quota
  · exact lives_bad quota ops hq
  · exact lives_ok quota ops hq hl hg
end Go.Vm.Try
