/- Walks of functions of the program, and laws of what they compute. -/
import Derived.Test.YtbicfijohjijhaaVdX
set_option linter.unusedSimpArgs false
set_option linter.unusedVariables false
set_option maxHeartbeats 4000000
namespace Go.Vm.Try
open Go.Proofs
def zcells : List V := [.int .i64 0, .nilm, .nilm, .int .i64 0, .int .i64 0, .sl 0 [] .full, .int .i64 0, .bool false, .int .i64 0, .bool false]
structure Op where
  kind : Int
  file : Int
  sector : Int
  n : Int
  by_ : UInt8
  b : List UInt8
def opc (o : Op) : List V := [.int .i64 o.kind, .int .i64 o.file, .int .i64 o.sector, .int .i64 o.n, .int .u8 o.by_.toNat, .sl 1 (o.b.map u8) .no]
def six : List V := [.int .i64 6, .int .i64 6, .int .i64 6, .int .i64 6, .int .i64 6, .int .i64 6]
theorem six_len : ∀ i : Nat, i < 6 → 0 < (six.drop i).length
  | 0, _ | 1, _ | 2, _ | 3, _ | 4, _ | 5, _ => by decide
  | n + 6, h => by omega
theorem six_get : ∀ i : Nat, i < 6 → (six.drop i).getD 0 .dead = .int .i64 6
  | 0, _ | 1, _ | 2, _ | 3, _ | 4, _ | 5, _ => rfl
  | n + 6, h => by omega

theorem made_zero {σ : Hp} {d : Nat} (hd : σ.get d = some (.cells zcells)) : Spec Go.Proofs.Try.prog 46 [.ptr d 0] (σ) (fun v σ' => v = .bool false ∧ σ' = σ) := by
 refine introS (n := 12) (rs := [.tmp 2]) (fn := Go.Proofs.Try.f46) (by rfl) rfl (by kernel_rfl) rfl rfl (Nat.le_of_ble_eq_true rfl) (fun Q0 hQ0 => ?_)
 refine WS.seq ?_
 refine A1 [0] (by decide) ?_
 refine WS.seq ?_
 refine R0 fun K hK => ?_
 try simp (maxSteps := 4000000) (disch := omega) only [push_cast, Nat.reduceLT, Nat.reduceEqDiff, Nat.reduceAdd, Nat.reduceMul, Nat.reduceSub, Nat.reduceLeDiff, Int.reduceToNat, Int.reduceLT, Int.reduceLE, Int.reduceAdd, Int.reduceSub, Int.reduceMul, Int.reduceNeg, Int.reduceEq, reduceCtorEq, Int.cast_ofNat_Int, Hp.get_set, zcells, hd]
 (repeat refine And.intro (by first | omega | (simp; done) | (simp_all; done) | (simp_all; omega)) ?_)
 all_goals try (first | refine guardT 5 rfl (fun hc => ?_) (fun hc => ?_) | refine guardF 5 rfl (fun hc => ?_) (fun hc => ?_)) <;> try simp only [push_cast] at hc
 all_goals try (exfalso; omega)
 all_goals try simp (maxSteps := 4000000) (disch := omega) only [push_cast, Nat.reduceLT, Nat.reduceEqDiff, Nat.reduceAdd, Nat.reduceMul, Nat.reduceSub, Nat.reduceLeDiff, Int.reduceToNat, Int.reduceLT, Int.reduceLE, Int.reduceAdd, Int.reduceSub, Int.reduceMul, Int.reduceNeg, Int.reduceEq, reduceCtorEq, Int.cast_ofNat_Int, Hp.get_set, zcells, hd]
 all_goals (repeat refine And.intro (by first | omega | (simp; done) | (simp_all; done) | (simp_all; omega)) ?_)
 all_goals
  refine Qk hK [2] ?_
  clear hK K
  refine Rt ?_
  refine hQ0 _ _ _ ?_
  try simp (maxSteps := 4000000) only [push_cast, Int.reduceToNat, Int.reduceLT, Int.reduceLE, Int.reduceAdd, Int.reduceSub, Int.reduceMul, Int.reduceNeg, Int.reduceEq, reduceCtorEq, Nat.reduceLeDiff, Nat.reduceLT, Nat.reduceEqDiff, Nat.reduceAdd, Nat.reduceMul, Nat.reduceSub, Int.cast_ofNat_Int, zcells, hd]
  first | done | exact ⟨_, HSub.refl _, rfl, rfl⟩ | exact ⟨_, HSub.refl _, rfl⟩ | (refine ⟨_, HSub.refl _, ?_, rfl⟩; first | (simp; done) | (simp_all; done) | (simp only; (repeat' split) <;> first | rfl | omega | (simp_all; done))) | (refine ⟨_, by (show HSub _ _; repeat (first | exact HSub.refl _ | exact HSub.empty _ | refine HSub.set (by first | assumption | simp_all) ?_ | refine HSub.del (by first | assumption | simp_all) ?_)), ?_, rfl⟩; first | (simp; done) | (simp_all; done) | (simp only; (repeat' split) <;> first | rfl | omega | (simp_all; done)))
theorem ask_zero {σ : Hp} {d : Nat} (file : Int) (w : Bool) (hd : σ.get d = some (.cells zcells)) : Spec Go.Proofs.Try.prog 43 [.ptr d 0, .int .i64 file, .bool w] (σ) (fun v σ' => v = .int .i64 6 ∧ σ' = σ) := by
 refine introS (n := 26) (rs := [.tmp 6]) (fn := Go.Proofs.Try.f43) (by rfl) rfl (by kernel_rfl) rfl rfl (Nat.le_of_ble_eq_true rfl) (fun Q0 hQ0 => ?_)
 refine WS.seq ?_
 refine A1 [0, 1, 2] (by decide) ?_
 refine WS.seq ?_
 refine Bk fun K0 hK0 => ?_
 refine WS.seq ?_
 refine R0 fun K hK => ?_
 try simp (maxSteps := 4000000) (disch := omega) only [push_cast, Nat.reduceLT, Nat.reduceEqDiff, Int.reduceToNat, Int.reduceLT, Int.reduceLE, Int.reduceAdd, Int.reduceSub, Int.reduceMul, Int.reduceNeg, Int.reduceEq, reduceCtorEq, Int.cast_ofNat_Int, Hp.get_set, zcells, hd]
 first
  | (refine callS (made_zero hd) (fun v τ h => ?_)
     obtain ⟨rfl, rfl⟩ := h)
  | (refine callS (made_spec hd) (fun v τ h => ?_)
     obtain ⟨rfl, rfl⟩ := h)
  | (refine callP (made_nil ) rfl ?_)
 try simp (maxSteps := 4000000) (disch := omega) only [push_cast, Nat.reduceLT, Nat.reduceEqDiff, Int.reduceToNat, Int.reduceLT, Int.reduceLE, Int.reduceAdd, Int.reduceSub, Int.reduceMul, Int.reduceNeg, Int.reduceEq, reduceCtorEq, Int.cast_ofNat_Int, Hp.get_set, zcells, hd]
 refine Qk hK [0, 1, 2, 7] ?_
 clear hK K
 refine CI rfl (fun hc => ?_) (fun hc => ?_)
 ·
  all_goals try (cases hc; done)
  all_goals try simp only [push_cast] at hc
  all_goals try (exfalso; omega)
  all_goals
   refine WS.seq ?_
   refine A1 [6] (by decide) ?_
   refine Rt ?_
   simp only [push_cast]
   refine hQ0 _ _ _ ?_
   try simp (maxSteps := 4000000) only [push_cast, Int.reduceToNat, Int.reduceLT, Int.reduceLE, Int.reduceAdd, Int.reduceSub, Int.reduceMul, Int.reduceNeg, Int.reduceEq, reduceCtorEq, Nat.reduceLeDiff, Nat.reduceLT, Nat.reduceEqDiff, Nat.reduceAdd, Nat.reduceMul, Nat.reduceSub, Int.cast_ofNat_Int, zcells, hd]
   first | done | exact ⟨_, HSub.refl _, rfl, rfl⟩ | exact ⟨_, HSub.refl _, rfl⟩ | (refine ⟨_, HSub.refl _, ?_, rfl⟩; first | (simp; done) | (simp_all; done) | (simp only; (repeat' split) <;> first | rfl | omega | (simp_all; done))) | (refine ⟨_, by (show HSub _ _; repeat (first | exact HSub.refl _ | exact HSub.empty _ | refine HSub.set (by first | assumption | simp_all) ?_ | refine HSub.del (by first | assumption | simp_all) ?_)), ?_, rfl⟩; first | (simp; done) | (simp_all; done) | (simp only; (repeat' split) <;> first | rfl | omega | (simp_all; done)))
 all_goals try (cases hc; done)
 all_goals try simp only [push_cast] at hc
 all_goals try (exfalso; omega)
 all_goals
  refine WS.seq ?_
  refine R0 fun K hK => ?_
  try simp (maxSteps := 4000000) (disch := omega) only [push_cast, Nat.reduceLT, Nat.reduceEqDiff, Int.reduceToNat, Int.reduceLT, Int.reduceLE, Int.reduceAdd, Int.reduceSub, Int.reduceMul, Int.reduceNeg, Int.reduceEq, reduceCtorEq, Int.cast_ofNat_Int, Hp.get_set, zcells, hd]
  all_goals try (first | refine guardT 14 rfl (fun hc => ?_) (fun hc => ?_) | refine guardF 14 rfl (fun hc => ?_) (fun hc => ?_)) <;> try simp only [push_cast] at hc
  all_goals try (exfalso; omega)
  all_goals try simp (maxSteps := 4000000) (disch := omega) only [push_cast, Nat.reduceLT, Nat.reduceEqDiff, Int.reduceToNat, Int.reduceLT, Int.reduceLE, Int.reduceAdd, Int.reduceSub, Int.reduceMul, Int.reduceNeg, Int.reduceEq, reduceCtorEq, Int.cast_ofNat_Int, Hp.get_set, zcells, hd]
  all_goals try (first | refine guardT 18 rfl (fun hc => ?_) (fun hc => ?_) | refine guardF 18 rfl (fun hc => ?_) (fun hc => ?_)) <;> try simp only [push_cast] at hc
  all_goals try (exfalso; omega)
  all_goals try simp (maxSteps := 4000000) (disch := omega) only [push_cast, Nat.reduceLT, Nat.reduceEqDiff, Int.reduceToNat, Int.reduceLT, Int.reduceLE, Int.reduceAdd, Int.reduceSub, Int.reduceMul, Int.reduceNeg, Int.reduceEq, reduceCtorEq, Int.cast_ofNat_Int, Hp.get_set, zcells, hd]
  all_goals
   refine Qk hK [0, 11] ?_
   clear hK K
   refine CI rfl (fun hc => ?_) (fun hc => ?_)
   ·
    all_goals try (cases hc; done)
    all_goals try simp only [push_cast] at hc
    all_goals try (exfalso; omega)
    all_goals
     refine WS.seq ?_
     refine A1 [6] (by decide) ?_
     refine Rt ?_
     simp only [push_cast]
     refine hQ0 _ _ _ ?_
     try simp (maxSteps := 4000000) only [push_cast, Int.reduceToNat, Int.reduceLT, Int.reduceLE, Int.reduceAdd, Int.reduceSub, Int.reduceMul, Int.reduceNeg, Int.reduceEq, reduceCtorEq, Nat.reduceLeDiff, Nat.reduceLT, Nat.reduceEqDiff, Nat.reduceAdd, Nat.reduceMul, Nat.reduceSub, Int.cast_ofNat_Int, zcells, hd]
     first | done | exact ⟨_, HSub.refl _, rfl, rfl⟩ | exact ⟨_, HSub.refl _, rfl⟩ | (refine ⟨_, HSub.refl _, ?_, rfl⟩; first | (simp; done) | (simp_all; done) | (simp only; (repeat' split) <;> first | rfl | omega | (simp_all; done))) | (refine ⟨_, by (show HSub _ _; repeat (first | exact HSub.refl _ | exact HSub.empty _ | refine HSub.set (by first | assumption | simp_all) ?_ | refine HSub.del (by first | assumption | simp_all) ?_)), ?_, rfl⟩; first | (simp; done) | (simp_all; done) | (simp only; (repeat' split) <;> first | rfl | omega | (simp_all; done)))
   all_goals try (cases hc; done)
   all_goals try simp only [push_cast] at hc
   all_goals try (exfalso; omega)
   all_goals
    refine WS.seq ?_
    refine R0 fun K hK => ?_
    try simp (maxSteps := 4000000) (disch := omega) only [push_cast, Nat.reduceLT, Nat.reduceEqDiff, Nat.reduceAdd, Nat.reduceMul, Nat.reduceSub, Nat.reduceLeDiff, Hp.get_set, zcells, hd]
    (repeat refine And.intro (by first | omega | (simp; done) | (simp_all; done) | (simp_all; omega)) ?_)
    refine Qk hK [21] ?_
    clear hK K
    refine CI rfl (fun hc => ?_) (fun hc => ?_)
    ·
     all_goals try (cases hc; done)
     all_goals try simp only [push_cast] at hc
     all_goals try (exfalso; omega)
     all_goals
      refine WS.seq ?_
      refine A1 [6] (by decide) ?_
      refine Rt ?_
      simp only [push_cast]
      refine hQ0 _ _ _ ?_
      try simp (maxSteps := 4000000) only [push_cast, Int.reduceToNat, Int.reduceLT, Int.reduceLE, Int.reduceAdd, Int.reduceSub, Int.reduceMul, Int.reduceNeg, Int.reduceEq, reduceCtorEq, Nat.reduceLeDiff, Nat.reduceLT, Nat.reduceEqDiff, Nat.reduceAdd, Nat.reduceMul, Nat.reduceSub, Int.cast_ofNat_Int, zcells, hd]
      first | done | exact ⟨_, HSub.refl _, rfl, rfl⟩ | exact ⟨_, HSub.refl _, rfl⟩ | (refine ⟨_, HSub.refl _, ?_, rfl⟩; first | (simp; done) | (simp_all; done) | (simp only; (repeat' split) <;> first | rfl | omega | (simp_all; done))) | (refine ⟨_, by (show HSub _ _; repeat (first | exact HSub.refl _ | exact HSub.empty _ | refine HSub.set (by first | assumption | simp_all) ?_ | refine HSub.del (by first | assumption | simp_all) ?_)), ?_, rfl⟩; first | (simp; done) | (simp_all; done) | (simp only; (repeat' split) <;> first | rfl | omega | (simp_all; done)))
    all_goals try (cases hc; done)
    all_goals try simp only [push_cast] at hc
    all_goals try (exfalso; omega)
    all_goals
     refine Sk ?_
     simp only [push_cast, WS, Nat.reduceEqDiff]
     refine hK0 _ _ ?_
     clear hK0
     try clear K0
     refine WS_keep [] _ ?_
     refine WS.seq ?_
     refine A1 [6] (by decide) ?_
     refine Rt ?_
     refine hQ0 _ _ _ ?_
     try simp (maxSteps := 4000000) only [push_cast, Int.reduceToNat, Int.reduceLT, Int.reduceLE, Int.reduceAdd, Int.reduceSub, Int.reduceMul, Int.reduceNeg, Int.reduceEq, reduceCtorEq, Nat.reduceLeDiff, Nat.reduceLT, Nat.reduceEqDiff, Nat.reduceAdd, Nat.reduceMul, Nat.reduceSub, Int.cast_ofNat_Int, zcells, hd]
     first | done | exact ⟨_, HSub.refl _, rfl, rfl⟩ | exact ⟨_, HSub.refl _, rfl⟩ | (refine ⟨_, HSub.refl _, ?_, rfl⟩; first | (simp; done) | (simp_all; done) | (simp only; (repeat' split) <;> first | rfl | omega | (simp_all; done))) | (refine ⟨_, by (show HSub _ _; repeat (first | exact HSub.refl _ | exact HSub.empty _ | refine HSub.set (by first | assumption | simp_all) ?_ | refine HSub.del (by first | assumption | simp_all) ?_)), ?_, rfl⟩; first | (simp; done) | (simp_all; done) | (simp only; (repeat' split) <;> first | rfl | omega | (simp_all; done)))
theorem read_zero {σ : Hp} {d : Nat} (file s : Int) (hd : σ.get d = some (.cells zcells)) : Spec Go.Proofs.Try.prog 30 [.ptr d 0, .int .i64 file, .int .i64 s] (σ) (fun v σ' => v = .tup [.sl 0 [] .full, .int .i64 6] ∧ σ' = σ) := by
 refine introS (n := 38) (rs := [.tmp 6, .tmp 7]) (fn := Go.Proofs.Try.f30) (by rfl) rfl (by kernel_rfl) rfl rfl (Nat.le_of_ble_eq_true rfl) (fun Q0 hQ0 => ?_)
 refine WS.seq ?_
 refine R0 fun K hK => ?_
 try simp (maxSteps := 4000000) (disch := omega) only [push_cast, Nat.reduceLT, Nat.reduceEqDiff, Nat.reduceAdd, Nat.reduceMul, Nat.reduceSub, Nat.reduceLeDiff, Int.reduceToNat, Int.reduceLT, Int.reduceLE, Int.reduceAdd, Int.reduceSub, Int.reduceMul, Int.reduceNeg, Int.reduceEq, reduceCtorEq, Int.cast_ofNat_Int, Hp.get_set, zcells, hd]
 refine Qk hK [0, 1, 2] ?_
 clear hK K
 refine WS.seq (WS.seq ?_)
 refine R0 fun K hK => ?_
 try simp (maxSteps := 4000000) (disch := omega) only [push_cast, Nat.reduceLT, Nat.reduceEqDiff, Int.reduceToNat, Int.reduceLT, Int.reduceLE, Int.reduceAdd, Int.reduceSub, Int.reduceMul, Int.reduceNeg, Int.reduceEq, reduceCtorEq, Int.cast_ofNat_Int, Hp.get_set, zcells, hd]
 first
  | (refine callS (ask_zero _ _ hd) (fun v τ h => ?_)
     obtain ⟨rfl, rfl⟩ := h)
  | (refine callP (ask_nil _ _) rfl ?_)
  | (refine callS (ask_spec _ _ hd) (fun v τ h => ?_)
     obtain ⟨rfl, rfl⟩ := h)
 try simp (maxSteps := 4000000) (disch := omega) only [push_cast, Nat.reduceLT, Nat.reduceEqDiff, Int.reduceToNat, Int.reduceLT, Int.reduceLE, Int.reduceAdd, Int.reduceSub, Int.reduceMul, Int.reduceNeg, Int.reduceEq, reduceCtorEq, Int.cast_ofNat_Int, Hp.get_set, zcells, hd]
 refine Qk hK [0, 1, 2, 8] ?_
 clear hK K
 refine WS.seq ?_
 refine R0 fun K hK => ?_
 try simp (maxSteps := 4000000) (disch := omega) only [push_cast, Nat.reduceLT, Nat.reduceEqDiff, Int.reduceToNat, Int.reduceLT, Int.reduceLE, Int.reduceAdd, Int.reduceSub, Int.reduceMul, Int.reduceNeg, Int.reduceEq, reduceCtorEq, Int.cast_ofNat_Int, Hp.get_set, zcells, hd]
 refine Qk hK [0, 1, 2, 8, 16] ?_
 clear hK K
 refine CI rfl (fun hc => ?_) (fun hc => ?_)
 ·
  all_goals try (cases hc; done)
  all_goals try simp only [push_cast] at hc
  all_goals try (exfalso; omega)
  all_goals
   refine WS.seq ?_
   refine R0 fun K hK => ?_
   try simp (maxSteps := 4000000) (disch := omega) only [push_cast, Nat.reduceLT, Nat.reduceEqDiff, Nat.reduceAdd, Nat.reduceMul, Nat.reduceSub, Nat.reduceLeDiff, Int.reduceToNat, Int.reduceLT, Int.reduceLE, Int.reduceAdd, Int.reduceSub, Int.reduceMul, Int.reduceNeg, Int.reduceEq, reduceCtorEq, Int.cast_ofNat_Int, Hp.get_set, zcells, hd]
   refine Qk hK [6, 7] ?_
   clear hK K
   refine Rt ?_
   refine hQ0 _ _ _ ?_
   try simp (maxSteps := 4000000) only [push_cast, Int.reduceToNat, Int.reduceLT, Int.reduceLE, Int.reduceAdd, Int.reduceSub, Int.reduceMul, Int.reduceNeg, Int.reduceEq, reduceCtorEq, Nat.reduceLeDiff, Nat.reduceLT, Nat.reduceEqDiff, Nat.reduceAdd, Nat.reduceMul, Nat.reduceSub, Int.cast_ofNat_Int, zcells, hd]
   first | done | exact ⟨_, HSub.refl _, rfl, rfl⟩ | exact ⟨_, HSub.refl _, rfl⟩ | (refine ⟨_, HSub.refl _, ?_, rfl⟩; first | (simp; done) | (simp_all; done) | (simp only; (repeat' split) <;> first | rfl | omega | (simp_all; done))) | (refine ⟨_, by (show HSub _ _; repeat (first | exact HSub.refl _ | exact HSub.empty _ | refine HSub.set (by first | assumption | simp_all) ?_ | refine HSub.del (by first | assumption | simp_all) ?_)), ?_, rfl⟩; first | (simp; done) | (simp_all; done) | (simp only; (repeat' split) <;> first | rfl | omega | (simp_all; done)))
 all_goals try (cases hc; done)
 all_goals try simp only [push_cast] at hc
 all_goals try (exfalso; omega)
 all_goals
  refine Sk ?_
  refine WS.seq (WS.seq ?_)
  refine R0 fun K hK => ?_
  try simp (maxSteps := 4000000) (disch := omega) only [push_cast, Nat.reduceLT, Nat.reduceEqDiff, Nat.reduceAdd, Nat.reduceMul, Nat.reduceSub, Nat.reduceLeDiff, Int.reduceToNat, Int.reduceLT, Int.reduceLE, Int.reduceAdd, Int.reduceSub, Int.reduceMul, Int.reduceNeg, Int.reduceEq, reduceCtorEq, Int.cast_ofNat_Int, Hp.get_set, zcells, hd]
  (repeat refine And.intro (by first | omega | (simp; done) | (simp_all; done) | (simp_all; omega)) ?_)
  refine Qk hK [0, 1, 2, 25] ?_
  clear hK K
  refine CI rfl (fun hc => ?_) (fun hc => ?_)
  ·
   all_goals try (cases hc; done)
   all_goals try simp only [push_cast] at hc
   all_goals try (exfalso; omega)
   all_goals
    refine WS.seq ?_
    refine R0 fun K hK => ?_
    try simp (maxSteps := 4000000) (disch := omega) only [push_cast, Nat.reduceLT, Nat.reduceEqDiff, Nat.reduceAdd, Nat.reduceMul, Nat.reduceSub, Nat.reduceLeDiff, Int.reduceToNat, Int.reduceLT, Int.reduceLE, Int.reduceAdd, Int.reduceSub, Int.reduceMul, Int.reduceNeg, Int.reduceEq, reduceCtorEq, Int.cast_ofNat_Int, Hp.get_set, zcells, hd]
    refine Qk hK [6, 7] ?_
    clear hK K
    refine Rt ?_
    refine hQ0 _ _ _ ?_
    try simp (maxSteps := 4000000) only [push_cast, Int.reduceToNat, Int.reduceLT, Int.reduceLE, Int.reduceAdd, Int.reduceSub, Int.reduceMul, Int.reduceNeg, Int.reduceEq, reduceCtorEq, Nat.reduceLeDiff, Nat.reduceLT, Nat.reduceEqDiff, Nat.reduceAdd, Nat.reduceMul, Nat.reduceSub, Int.cast_ofNat_Int, zcells, hd]
    first | done | exact ⟨_, HSub.refl _, rfl, rfl⟩ | exact ⟨_, HSub.refl _, rfl⟩ | (refine ⟨_, HSub.refl _, ?_, rfl⟩; first | (simp; done) | (simp_all; done) | (simp only; (repeat' split) <;> first | rfl | omega | (simp_all; done))) | (refine ⟨_, by (show HSub _ _; repeat (first | exact HSub.refl _ | exact HSub.empty _ | refine HSub.set (by first | assumption | simp_all) ?_ | refine HSub.del (by first | assumption | simp_all) ?_)), ?_, rfl⟩; first | (simp; done) | (simp_all; done) | (simp only; (repeat' split) <;> first | rfl | omega | (simp_all; done)))
  all_goals try (cases hc; done)
  all_goals try simp only [push_cast] at hc
  all_goals try (exfalso; omega)
  all_goals
   refine Sk ?_
   refine WS.seq ?_
   refine R0 fun K hK => ?_
   try simp (maxSteps := 4000000) (disch := omega) only [push_cast, Nat.reduceLT, Nat.reduceEqDiff, Nat.reduceAdd, Nat.reduceMul, Nat.reduceSub, Nat.reduceLeDiff, Int.reduceToNat, Int.reduceLT, Int.reduceLE, Int.reduceAdd, Int.reduceSub, Int.reduceMul, Int.reduceNeg, Int.reduceEq, reduceCtorEq, Int.cast_ofNat_Int, Hp.get_set, zcells, hd]
   (repeat refine And.intro (by first | omega | (simp; done) | (simp_all; done) | (simp_all; omega)) ?_)
   refine fun g6_0 hg6_0 => ?_
   try simp only [Hp.set_none, Hp.join_none_iff] at hg6_0
   have nhd_6_0 := Hp.ne_get hd (by first | exact hg6_0 | exact hg6_0.2.2 | exact hg6_0.2.2.2.2 | exact hg6_0.2.2.2.2.2.2 | simp_all)
   try simp (maxSteps := 4000000) (disch := omega) only [push_cast, Nat.reduceLT, Nat.reduceEqDiff, Nat.reduceAdd, Nat.reduceMul, Nat.reduceSub, Nat.reduceLeDiff, Int.reduceToNat, Int.reduceLT, Int.reduceLE, Int.reduceAdd, Int.reduceSub, Int.reduceMul, Int.reduceNeg, Int.reduceEq, reduceCtorEq, Int.cast_ofNat_Int, Hp.get_set, zcells, hd, hg6_0, nhd_6_0]
   (repeat refine And.intro (by first | omega | (simp; done) | (simp_all; done) | (simp_all; omega)) ?_)
   refine Qk hK [0, 1, 2, 9] ?_
   clear hK K
   refine WS.seq ?_
   refine R0 fun K hK => ?_
   try simp (maxSteps := 4000000) (disch := omega) only [push_cast, Nat.reduceLT, Nat.reduceEqDiff, Nat.reduceAdd, Nat.reduceMul, Nat.reduceSub, Nat.reduceLeDiff, Int.reduceToNat, Int.reduceLT, Int.reduceLE, Int.reduceAdd, Int.reduceSub, Int.reduceMul, Int.reduceNeg, Int.reduceEq, reduceCtorEq, Int.cast_ofNat_Int, Hp.get_set, zcells, hd, hg6_0, nhd_6_0]
   (repeat refine And.intro (by first | omega | (simp; done) | (simp_all; done) | (simp_all; omega)) ?_)
   try simp (maxSteps := 4000000) (disch := omega) only [push_cast, Nat.reduceLT, Nat.reduceEqDiff, Nat.reduceAdd, Nat.reduceMul, Nat.reduceSub, Nat.reduceLeDiff, Int.reduceToNat, Int.reduceLT, Int.reduceLE, Int.reduceAdd, Int.reduceSub, Int.reduceMul, Int.reduceNeg, Int.reduceEq, reduceCtorEq, Int.cast_ofNat_Int, Hp.get_set, zcells, hd, hg6_0, nhd_6_0]
   (repeat refine And.intro (by first | omega | (simp; done) | (simp_all; done) | (simp_all; omega)) ?_)
   refine Qk hK [9] ?_
   clear hK K
   refine WS.seq ?_
   refine R0 fun K hK => ?_
   try simp (maxSteps := 4000000) (disch := omega) only [push_cast, Nat.reduceLT, Nat.reduceEqDiff, Hp.get_set, zcells, hd, hg6_0, nhd_6_0]
   refine Qk hK [6, 7] ?_
   clear hK K
   refine Rt ?_
   refine hQ0 _ _ _ ?_
   try simp (maxSteps := 4000000) only [push_cast, Int.reduceToNat, Int.reduceLT, Int.reduceLE, Int.reduceAdd, Int.reduceSub, Int.reduceMul, Int.reduceNeg, Int.reduceEq, reduceCtorEq, Nat.reduceLeDiff, Nat.reduceLT, Nat.reduceEqDiff, Nat.reduceAdd, Nat.reduceMul, Nat.reduceSub, Int.cast_ofNat_Int, zcells, hd, hg6_0, nhd_6_0]
   first | done | exact ⟨_, HSub.refl _, rfl, rfl⟩ | exact ⟨_, HSub.refl _, rfl⟩ | (refine ⟨_, HSub.refl _, ?_, rfl⟩; first | (simp; done) | (simp_all; done) | (simp only; (repeat' split) <;> first | rfl | omega | (simp_all; done))) | (refine ⟨_, by (show HSub _ _; repeat (first | exact HSub.refl _ | exact HSub.empty _ | refine HSub.set (by first | assumption | simp_all) ?_ | refine HSub.del (by first | assumption | simp_all) ?_)), ?_, rfl⟩; first | (simp; done) | (simp_all; done) | (simp only; (repeat' split) <;> first | rfl | omega | (simp_all; done)))
theorem sync_zero {σ : Hp} {d : Nat} (file : Int) (hd : σ.get d = some (.cells zcells)) : Spec Go.Proofs.Try.prog 29 [.ptr d 0, .int .i64 file] (σ) (fun v σ' => v = .int .i64 6 ∧ σ' = σ) := by
 refine introS (n := 52) (rs := [.tmp 4]) (fn := Go.Proofs.Try.f29) (by rfl) rfl (by kernel_rfl) rfl rfl (Nat.le_of_ble_eq_true rfl) (fun Q0 hQ0 => ?_)
 refine WS.seq ?_
 refine A1 [0, 1] (by decide) ?_
 refine WS.seq (WS.seq ?_)
 refine R0 fun K hK => ?_
 try simp (maxSteps := 4000000) (disch := omega) only [push_cast, Nat.reduceLT, Nat.reduceEqDiff, Hp.get_set, zcells, hd]
 first
  | (refine callS (ask_zero _ _ hd) (fun v τ h => ?_)
     obtain ⟨rfl, rfl⟩ := h)
  | (refine callP (ask_nil _ _) rfl ?_)
  | (refine callS (ask_spec _ _ hd) (fun v τ h => ?_)
     obtain ⟨rfl, rfl⟩ := h)
 try simp (maxSteps := 4000000) (disch := omega) only [push_cast, Nat.reduceLT, Nat.reduceEqDiff, Hp.get_set, zcells, hd]
 refine Qk hK [0, 1, 5] ?_
 clear hK K
 refine WS.seq ?_
 refine R0 fun K hK => ?_
 try simp (maxSteps := 4000000) (disch := omega) only [push_cast, Nat.reduceLT, Nat.reduceEqDiff, Int.reduceToNat, Int.reduceLT, Int.reduceLE, Int.reduceAdd, Int.reduceSub, Int.reduceMul, Int.reduceNeg, Int.reduceEq, reduceCtorEq, Int.cast_ofNat_Int, Hp.get_set, zcells, hd]
 refine Qk hK [0, 1, 5, 14] ?_
 clear hK K
 refine CI rfl (fun hc => ?_) (fun hc => ?_)
 ·
  all_goals try (cases hc; done)
  all_goals try simp only [push_cast] at hc
  all_goals try (exfalso; omega)
  all_goals
   refine WS.seq ?_
   refine R0 fun K hK => ?_
   try simp (maxSteps := 4000000) (disch := omega) only [push_cast, Nat.reduceLT, Nat.reduceEqDiff, Hp.get_set, zcells, hd]
   refine Qk hK [4] ?_
   clear hK K
   refine Rt ?_
   refine hQ0 _ _ _ ?_
   try simp (maxSteps := 4000000) only [push_cast, Int.reduceToNat, Int.reduceLT, Int.reduceLE, Int.reduceAdd, Int.reduceSub, Int.reduceMul, Int.reduceNeg, Int.reduceEq, reduceCtorEq, Nat.reduceLeDiff, Nat.reduceLT, Nat.reduceEqDiff, Nat.reduceAdd, Nat.reduceMul, Nat.reduceSub, Int.cast_ofNat_Int, zcells, hd]
   first | done | exact ⟨_, HSub.refl _, rfl, rfl⟩ | exact ⟨_, HSub.refl _, rfl⟩ | (refine ⟨_, HSub.refl _, ?_, rfl⟩; first | (simp; done) | (simp_all; done) | (simp only; (repeat' split) <;> first | rfl | omega | (simp_all; done))) | (refine ⟨_, by (show HSub _ _; repeat (first | exact HSub.refl _ | exact HSub.empty _ | refine HSub.set (by first | assumption | simp_all) ?_ | refine HSub.del (by first | assumption | simp_all) ?_)), ?_, rfl⟩; first | (simp; done) | (simp_all; done) | (simp only; (repeat' split) <;> first | rfl | omega | (simp_all; done)))
 all_goals try (cases hc; done)
 all_goals try simp only [push_cast] at hc
 all_goals try (exfalso; omega)
 all_goals
  skip
theorem crash_zero {σ : Hp} {d : Nat} {tag : Tag} (es : List V) (hd : σ.get d = some (.cells zcells)) : Spec Go.Proofs.Try.prog 34 [.ptr d 0, .sl 1 es tag] (σ) (fun v σ' => v = .int .i64 6 ∧ σ' = σ) := by
 refine introS (n := 98) (rs := [.tmp 4]) (fn := Go.Proofs.Try.f34) (by rfl) rfl (by kernel_rfl) rfl rfl (Nat.le_of_ble_eq_true rfl) (fun Q0 hQ0 => ?_)
 refine WS.seq ?_
 refine A1 [0, 1] (by decide) ?_
 refine WS.seq (WS.seq ?_)
 refine R0 fun K hK => ?_
 try simp (maxSteps := 4000000) (disch := omega) only [push_cast, Nat.reduceLT, Nat.reduceEqDiff, Int.reduceToNat, Int.reduceLT, Int.reduceLE, Int.reduceAdd, Int.reduceSub, Int.reduceMul, Int.reduceNeg, Int.reduceEq, reduceCtorEq, Int.cast_ofNat_Int, Hp.get_set, zcells, hd]
 first
  | (refine callS (made_zero hd) (fun v τ h => ?_)
     obtain ⟨rfl, rfl⟩ := h)
  | (refine callS (made_spec hd) (fun v τ h => ?_)
     obtain ⟨rfl, rfl⟩ := h)
  | (refine callP (made_nil ) rfl ?_)
 try simp (maxSteps := 4000000) (disch := omega) only [push_cast, Nat.reduceLT, Nat.reduceEqDiff, Int.reduceToNat, Int.reduceLT, Int.reduceLE, Int.reduceAdd, Int.reduceSub, Int.reduceMul, Int.reduceNeg, Int.reduceEq, reduceCtorEq, Int.cast_ofNat_Int, Hp.get_set, zcells, hd]
 refine Qk hK [0, 1, 11] ?_
 clear hK K
 refine CI rfl (fun hc => ?_) (fun hc => ?_)
 ·
  all_goals try (cases hc; done)
  all_goals try simp only [push_cast] at hc
  all_goals try (exfalso; omega)
  all_goals
   refine WS.seq ?_
   refine A1 [4] (by decide) ?_
   refine Rt ?_
   refine hQ0 _ _ _ ?_
   try simp (maxSteps := 4000000) only [push_cast, Int.reduceToNat, Int.reduceLT, Int.reduceLE, Int.reduceAdd, Int.reduceSub, Int.reduceMul, Int.reduceNeg, Int.reduceEq, reduceCtorEq, Nat.reduceLeDiff, Nat.reduceLT, Nat.reduceEqDiff, Nat.reduceAdd, Nat.reduceMul, Nat.reduceSub, Int.cast_ofNat_Int, zcells, hd]
   first | done | exact ⟨_, HSub.refl _, rfl, rfl⟩ | exact ⟨_, HSub.refl _, rfl⟩ | (refine ⟨_, HSub.refl _, ?_, rfl⟩; first | (simp; done) | (simp_all; done) | (simp only; (repeat' split) <;> first | rfl | omega | (simp_all; done))) | (refine ⟨_, by (show HSub _ _; repeat (first | exact HSub.refl _ | exact HSub.empty _ | refine HSub.set (by first | assumption | simp_all) ?_ | refine HSub.del (by first | assumption | simp_all) ?_)), ?_, rfl⟩; first | (simp; done) | (simp_all; done) | (simp only; (repeat' split) <;> first | rfl | omega | (simp_all; done)))
 all_goals try (cases hc; done)
 all_goals try simp only [push_cast] at hc
 all_goals try (exfalso; omega)
 all_goals
  skip
theorem len_zero {σ : Hp} {d : Nat} (file : Int) (hd : σ.get d = some (.cells zcells)) : Spec Go.Proofs.Try.prog 31 [.ptr d 0, .int .i64 file] (σ) (fun v σ' => v = .int .i64 0 ∧ σ' = σ) := by
 refine introS (n := 22) (rs := [.tmp 4]) (fn := Go.Proofs.Try.f31) (by rfl) rfl (by kernel_rfl) rfl rfl (Nat.le_of_ble_eq_true rfl) (fun Q0 hQ0 => ?_)
 refine WS.seq ?_
 refine A1 [0, 1] (by decide) ?_
 refine WS.seq (WS.seq ?_)
 refine R0 fun K hK => ?_
 try simp (maxSteps := 4000000) (disch := omega) only [push_cast, Nat.reduceLT, Nat.reduceEqDiff, Int.reduceToNat, Int.reduceLT, Int.reduceLE, Int.reduceAdd, Int.reduceSub, Int.reduceMul, Int.reduceNeg, Int.reduceEq, reduceCtorEq, Int.cast_ofNat_Int, Hp.get_set, zcells, hd]
 first
  | (refine callS (made_zero hd) (fun v τ h => ?_)
     obtain ⟨rfl, rfl⟩ := h)
  | (refine callS (made_spec hd) (fun v τ h => ?_)
     obtain ⟨rfl, rfl⟩ := h)
  | (refine callP (made_nil ) rfl ?_)
 try simp (maxSteps := 4000000) (disch := omega) only [push_cast, Nat.reduceLT, Nat.reduceEqDiff, Int.reduceToNat, Int.reduceLT, Int.reduceLE, Int.reduceAdd, Int.reduceSub, Int.reduceMul, Int.reduceNeg, Int.reduceEq, reduceCtorEq, Int.cast_ofNat_Int, Hp.get_set, zcells, hd]
 all_goals try (first | refine guardT 8 rfl (fun hc => ?_) (fun hc => ?_) | refine guardF 8 rfl (fun hc => ?_) (fun hc => ?_)) <;> try simp only [push_cast] at hc
 all_goals try (exfalso; omega)
 all_goals try simp (maxSteps := 4000000) (disch := omega) only [push_cast, Nat.reduceLT, Nat.reduceEqDiff, Int.reduceToNat, Int.reduceLT, Int.reduceLE, Int.reduceAdd, Int.reduceSub, Int.reduceMul, Int.reduceNeg, Int.reduceEq, reduceCtorEq, Int.cast_ofNat_Int, Hp.get_set, zcells, hd]
 all_goals try (first | refine guardT 12 rfl (fun hc => ?_) (fun hc => ?_) | refine guardF 12 rfl (fun hc => ?_) (fun hc => ?_)) <;> try simp only [push_cast] at hc
 all_goals try (exfalso; omega)
 all_goals try simp (maxSteps := 4000000) (disch := omega) only [push_cast, Nat.reduceLT, Nat.reduceEqDiff, Int.reduceToNat, Int.reduceLT, Int.reduceLE, Int.reduceAdd, Int.reduceSub, Int.reduceMul, Int.reduceNeg, Int.reduceEq, reduceCtorEq, Int.cast_ofNat_Int, Hp.get_set, zcells, hd]
 all_goals
  refine Qk hK [0, 1, 15] ?_
  clear hK K
  refine CI rfl (fun hc => ?_) (fun hc => ?_)
  ·
   all_goals try (cases hc; done)
   all_goals try simp only [push_cast] at hc
   all_goals try (exfalso; omega)
   all_goals
    refine WS.seq ?_
    refine A1 [4] (by decide) ?_
    refine Rt ?_
    refine hQ0 _ _ _ ?_
    try simp (maxSteps := 4000000) only [push_cast, Int.reduceToNat, Int.reduceLT, Int.reduceLE, Int.reduceAdd, Int.reduceSub, Int.reduceMul, Int.reduceNeg, Int.reduceEq, reduceCtorEq, Nat.reduceLeDiff, Nat.reduceLT, Nat.reduceEqDiff, Nat.reduceAdd, Nat.reduceMul, Nat.reduceSub, Int.cast_ofNat_Int, zcells, hd]
    first | done | exact ⟨_, HSub.refl _, rfl, rfl⟩ | exact ⟨_, HSub.refl _, rfl⟩ | (refine ⟨_, HSub.refl _, ?_, rfl⟩; first | (simp; done) | (simp_all; done) | (simp only; (repeat' split) <;> first | rfl | omega | (simp_all; done))) | (refine ⟨_, by (show HSub _ _; repeat (first | exact HSub.refl _ | exact HSub.empty _ | refine HSub.set (by first | assumption | simp_all) ?_ | refine HSub.del (by first | assumption | simp_all) ?_)), ?_, rfl⟩; first | (simp; done) | (simp_all; done) | (simp only; (repeat' split) <;> first | rfl | omega | (simp_all; done)))
  all_goals try (cases hc; done)
  all_goals try simp only [push_cast] at hc
  all_goals try (exfalso; omega)
  all_goals
   refine Sk ?_
   refine WS.seq ?_
   refine R0 fun K hK => ?_
   try simp (maxSteps := 4000000) (disch := omega) only [push_cast, Nat.reduceLT, Nat.reduceEqDiff, Nat.reduceAdd, Nat.reduceMul, Nat.reduceSub, Nat.reduceLeDiff, Int.reduceToNat, Int.reduceLT, Int.reduceLE, Int.reduceAdd, Int.reduceSub, Int.reduceMul, Int.reduceNeg, Int.reduceEq, reduceCtorEq, Int.cast_ofNat_Int, Hp.get_set, zcells, hd]
   (repeat refine And.intro (by first | omega | (simp; done) | (simp_all; done) | (simp_all; omega)) ?_)
   refine Qk hK [4] ?_
   clear hK K
   refine Rt ?_
   refine hQ0 _ _ _ ?_
   try simp (maxSteps := 4000000) only [push_cast, Int.reduceToNat, Int.reduceLT, Int.reduceLE, Int.reduceAdd, Int.reduceSub, Int.reduceMul, Int.reduceNeg, Int.reduceEq, reduceCtorEq, Nat.reduceLeDiff, Nat.reduceLT, Nat.reduceEqDiff, Nat.reduceAdd, Nat.reduceMul, Nat.reduceSub, Int.cast_ofNat_Int, zcells, hd]
   first | done | exact ⟨_, HSub.refl _, rfl, rfl⟩ | exact ⟨_, HSub.refl _, rfl⟩ | (refine ⟨_, HSub.refl _, ?_, rfl⟩; first | (simp; done) | (simp_all; done) | (simp only; (repeat' split) <;> first | rfl | omega | (simp_all; done))) | (refine ⟨_, by (show HSub _ _; repeat (first | exact HSub.refl _ | exact HSub.empty _ | refine HSub.set (by first | assumption | simp_all) ?_ | refine HSub.del (by first | assumption | simp_all) ?_)), ?_, rfl⟩; first | (simp; done) | (simp_all; done) | (simp only; (repeat' split) <;> first | rfl | omega | (simp_all; done)))
theorem calls_zero {σ : Hp} {d : Nat}  (hd : σ.get d = some (.cells zcells)) : Spec Go.Proofs.Try.prog 39 [.ptr d 0] (σ) (fun v σ' => v = .int .i64 0 ∧ σ' = σ) := by
 refine introS (n := 9) (rs := [.tmp 2]) (fn := Go.Proofs.Try.f39) (by rfl) rfl (by kernel_rfl) rfl rfl (Nat.le_of_ble_eq_true rfl) (fun Q0 hQ0 => ?_)
 refine WS.seq ?_
 refine A1 [0] (by decide) ?_
 refine WS.seq (WS.seq ?_)
 refine R0 fun K hK => ?_
 try simp (maxSteps := 4000000) (disch := omega) only [push_cast, Nat.reduceLT, Nat.reduceEqDiff, Int.reduceToNat, Int.reduceLT, Int.reduceLE, Int.reduceAdd, Int.reduceSub, Int.reduceMul, Int.reduceNeg, Int.reduceEq, reduceCtorEq, Int.cast_ofNat_Int, Hp.get_set, zcells, hd]
 refine Qk hK [0, 4] ?_
 clear hK K
 refine CI rfl (fun hc => ?_) (fun hc => ?_)
 ·
  all_goals try (cases hc; done)
  all_goals try simp only [push_cast] at hc
  all_goals try (exfalso; omega)
  all_goals
   refine WS.seq ?_
   refine A1 [2] (by decide) ?_
   refine Rt ?_
   refine hQ0 _ _ _ ?_
   try simp (maxSteps := 4000000) only [push_cast, Int.reduceToNat, Int.reduceLT, Int.reduceLE, Int.reduceAdd, Int.reduceSub, Int.reduceMul, Int.reduceNeg, Int.reduceEq, reduceCtorEq, Nat.reduceLeDiff, Nat.reduceLT, Nat.reduceEqDiff, Nat.reduceAdd, Nat.reduceMul, Nat.reduceSub, Int.cast_ofNat_Int, zcells, hd]
   first | done | exact ⟨_, HSub.refl _, rfl, rfl⟩ | exact ⟨_, HSub.refl _, rfl⟩ | (refine ⟨_, HSub.refl _, ?_, rfl⟩; first | (simp; done) | (simp_all; done) | (simp only; (repeat' split) <;> first | rfl | omega | (simp_all; done))) | (refine ⟨_, by (show HSub _ _; repeat (first | exact HSub.refl _ | exact HSub.empty _ | refine HSub.set (by first | assumption | simp_all) ?_ | refine HSub.del (by first | assumption | simp_all) ?_)), ?_, rfl⟩; first | (simp; done) | (simp_all; done) | (simp only; (repeat' split) <;> first | rfl | omega | (simp_all; done)))
 all_goals try (cases hc; done)
 all_goals try simp only [push_cast] at hc
 all_goals try (exfalso; omega)
 all_goals
  refine Sk ?_
  refine WS.seq ?_
  refine R0 fun K hK => ?_
  try simp (maxSteps := 4000000) (disch := omega) only [push_cast, Nat.reduceLT, Nat.reduceEqDiff, Nat.reduceAdd, Nat.reduceMul, Nat.reduceSub, Nat.reduceLeDiff, Hp.get_set, zcells, hd]
  (repeat refine And.intro (by first | omega | (simp; done) | (simp_all; done) | (simp_all; omega)) ?_)
  refine Qk hK [2] ?_
  clear hK K
  refine Rt ?_
  refine hQ0 _ _ _ ?_
  try simp (maxSteps := 4000000) only [push_cast, Int.reduceToNat, Int.reduceLT, Int.reduceLE, Int.reduceAdd, Int.reduceSub, Int.reduceMul, Int.reduceNeg, Int.reduceEq, reduceCtorEq, Nat.reduceLeDiff, Nat.reduceLT, Nat.reduceEqDiff, Nat.reduceAdd, Nat.reduceMul, Nat.reduceSub, Int.cast_ofNat_Int, zcells, hd]
  first | done | exact ⟨_, HSub.refl _, rfl, rfl⟩ | exact ⟨_, HSub.refl _, rfl⟩ | (refine ⟨_, HSub.refl _, ?_, rfl⟩; first | (simp; done) | (simp_all; done) | (simp only; (repeat' split) <;> first | rfl | omega | (simp_all; done))) | (refine ⟨_, by (show HSub _ _; repeat (first | exact HSub.refl _ | exact HSub.empty _ | refine HSub.set (by first | assumption | simp_all) ?_ | refine HSub.del (by first | assumption | simp_all) ?_)), ?_, rfl⟩; first | (simp; done) | (simp_all; done) | (simp only; (repeat' split) <;> first | rfl | omega | (simp_all; done)))
theorem down_zero {σ : Hp} {d : Nat}  (hd : σ.get d = some (.cells zcells)) : Spec Go.Proofs.Try.prog 40 [.ptr d 0] (σ) (fun v σ' => v = .bool false ∧ σ' = σ) := by
 refine introS (n := 11) (rs := [.tmp 2]) (fn := Go.Proofs.Try.f40) (by rfl) rfl (by kernel_rfl) rfl rfl (Nat.le_of_ble_eq_true rfl) (fun Q0 hQ0 => ?_)
 refine WS.seq ?_
 refine A1 [0] (by decide) ?_
 refine WS.seq ?_
 refine R0 fun K hK => ?_
 try simp (maxSteps := 4000000) (disch := omega) only [push_cast, Nat.reduceLT, Nat.reduceEqDiff, Nat.reduceAdd, Nat.reduceMul, Nat.reduceSub, Nat.reduceLeDiff, Int.reduceToNat, Int.reduceLT, Int.reduceLE, Int.reduceAdd, Int.reduceSub, Int.reduceMul, Int.reduceNeg, Int.reduceEq, reduceCtorEq, Int.cast_ofNat_Int, Hp.get_set, zcells, hd]
 (repeat refine And.intro (by first | omega | (simp; done) | (simp_all; done) | (simp_all; omega)) ?_)
 all_goals try (first | refine guardT 5 rfl (fun hc => ?_) (fun hc => ?_) | refine guardF 5 rfl (fun hc => ?_) (fun hc => ?_)) <;> try simp only [push_cast] at hc
 all_goals try (exfalso; omega)
 all_goals try simp (maxSteps := 4000000) (disch := omega) only [push_cast, Nat.reduceLT, Nat.reduceEqDiff, Nat.reduceAdd, Nat.reduceMul, Nat.reduceSub, Nat.reduceLeDiff, Int.reduceToNat, Int.reduceLT, Int.reduceLE, Int.reduceAdd, Int.reduceSub, Int.reduceMul, Int.reduceNeg, Int.reduceEq, reduceCtorEq, Int.cast_ofNat_Int, Hp.get_set, zcells, hd]
 all_goals (repeat refine And.intro (by first | omega | (simp; done) | (simp_all; done) | (simp_all; omega)) ?_)
 all_goals
  refine Qk hK [2] ?_
  clear hK K
  refine Rt ?_
  refine hQ0 _ _ _ ?_
  try simp (maxSteps := 4000000) only [push_cast, Int.reduceToNat, Int.reduceLT, Int.reduceLE, Int.reduceAdd, Int.reduceSub, Int.reduceMul, Int.reduceNeg, Int.reduceEq, reduceCtorEq, Nat.reduceLeDiff, Nat.reduceLT, Nat.reduceEqDiff, Nat.reduceAdd, Nat.reduceMul, Nat.reduceSub, Int.cast_ofNat_Int, zcells, hd]
  first | done | exact ⟨_, HSub.refl _, rfl, rfl⟩ | exact ⟨_, HSub.refl _, rfl⟩ | (refine ⟨_, HSub.refl _, ?_, rfl⟩; first | (simp; done) | (simp_all; done) | (simp only; (repeat' split) <;> first | rfl | omega | (simp_all; done))) | (refine ⟨_, by (show HSub _ _; repeat (first | exact HSub.refl _ | exact HSub.empty _ | refine HSub.set (by first | assumption | simp_all) ?_ | refine HSub.del (by first | assumption | simp_all) ?_)), ?_, rfl⟩; first | (simp; done) | (simp_all; done) | (simp only; (repeat' split) <;> first | rfl | omega | (simp_all; done)))
theorem read_nil (file s : Int) : PSpec Go.Proofs.Try.prog 30 [.nilp, .int .i64 file, .int .i64 s] (.tup [.sl 0 [] .full, .int .i64 6]) := by
 refine introP (n := 38) (rs := [.tmp 6, .tmp 7]) (fn := Go.Proofs.Try.f30) (by rfl) rfl (by kernel_rfl) rfl rfl (Nat.le_of_ble_eq_true rfl) (fun Q0 hQ0 => ?_)
 refine WS.seq ?_
 refine R0 fun K hK => ?_
 try simp (maxSteps := 4000000) (disch := omega) only [push_cast, Nat.reduceLT, Nat.reduceEqDiff, Nat.reduceAdd, Nat.reduceMul, Nat.reduceSub, Nat.reduceLeDiff, Int.reduceToNat, Int.reduceLT, Int.reduceLE, Int.reduceAdd, Int.reduceSub, Int.reduceMul, Int.reduceNeg, Int.reduceEq, reduceCtorEq, Int.cast_ofNat_Int, Hp.get_set]
 refine Qk hK [0, 1, 2] ?_
 clear hK K
 refine WS.seq (WS.seq ?_)
 refine R0 fun K hK => ?_
 try simp (maxSteps := 4000000) (disch := omega) only [push_cast, Nat.reduceLT, Nat.reduceEqDiff, Int.reduceToNat, Int.reduceLT, Int.reduceLE, Int.reduceAdd, Int.reduceSub, Int.reduceMul, Int.reduceNeg, Int.reduceEq, reduceCtorEq, Int.cast_ofNat_Int, Hp.get_set]
 first
  | (refine callS (ask_zero _ _ hd) (fun v τ h => ?_)
     obtain ⟨rfl, rfl⟩ := h)
  | (refine callP (ask_nil _ _) rfl ?_)
  | (refine callS (ask_spec _ _ hd) (fun v τ h => ?_)
     obtain ⟨rfl, rfl⟩ := h)
 try simp (maxSteps := 4000000) (disch := omega) only [push_cast, Nat.reduceLT, Nat.reduceEqDiff, Int.reduceToNat, Int.reduceLT, Int.reduceLE, Int.reduceAdd, Int.reduceSub, Int.reduceMul, Int.reduceNeg, Int.reduceEq, reduceCtorEq, Int.cast_ofNat_Int, Hp.get_set]
 refine Qk hK [0, 1, 2, 8] ?_
 clear hK K
 refine WS.seq ?_
 refine R0 fun K hK => ?_
 try simp (maxSteps := 4000000) (disch := omega) only [push_cast, Nat.reduceLT, Nat.reduceEqDiff, Int.reduceToNat, Int.reduceLT, Int.reduceLE, Int.reduceAdd, Int.reduceSub, Int.reduceMul, Int.reduceNeg, Int.reduceEq, reduceCtorEq, Int.cast_ofNat_Int, Hp.get_set]
 refine Qk hK [0, 1, 2, 8, 16] ?_
 clear hK K
 refine CI rfl (fun hc => ?_) (fun hc => ?_)
 ·
  all_goals try (cases hc; done)
  all_goals try simp only [push_cast] at hc
  all_goals try (exfalso; omega)
  all_goals
   refine WS.seq ?_
   refine R0 fun K hK => ?_
   try simp (maxSteps := 4000000) (disch := omega) only [push_cast, Nat.reduceLT, Nat.reduceEqDiff, Nat.reduceAdd, Nat.reduceMul, Nat.reduceSub, Nat.reduceLeDiff, Int.reduceToNat, Int.reduceLT, Int.reduceLE, Int.reduceAdd, Int.reduceSub, Int.reduceMul, Int.reduceNeg, Int.reduceEq, reduceCtorEq, Int.cast_ofNat_Int, Hp.get_set]
   refine Qk hK [6, 7] ?_
   clear hK K
   refine Rt ?_
   refine hQ0 _ _ _ ?_
   try simp (maxSteps := 4000000) only [push_cast, Int.reduceToNat, Int.reduceLT, Int.reduceLE, Int.reduceAdd, Int.reduceSub, Int.reduceMul, Int.reduceNeg, Int.reduceEq, reduceCtorEq, Nat.reduceLeDiff, Nat.reduceLT, Nat.reduceEqDiff, Nat.reduceAdd, Nat.reduceMul, Nat.reduceSub, Int.cast_ofNat_Int]
   first | done | rfl | (simp; done) | (simp_all; done) | (simp_all; omega)
 all_goals try (cases hc; done)
 all_goals try simp only [push_cast] at hc
 all_goals try (exfalso; omega)
 all_goals
  refine Sk ?_
  refine WS.seq (WS.seq ?_)
  refine R0 fun K hK => ?_
  try simp (maxSteps := 4000000) (disch := omega) only [push_cast, Nat.reduceLT, Nat.reduceEqDiff, Nat.reduceAdd, Nat.reduceMul, Nat.reduceSub, Nat.reduceLeDiff, Int.reduceToNat, Int.reduceLT, Int.reduceLE, Int.reduceAdd, Int.reduceSub, Int.reduceMul, Int.reduceNeg, Int.reduceEq, reduceCtorEq, Int.cast_ofNat_Int, Hp.get_set]
  (repeat refine And.intro (by first | omega | (simp; done) | (simp_all; done) | (simp_all; omega)) ?_)
  refine Qk hK [0, 1, 2, 25] ?_
  clear hK K
  refine CI rfl (fun hc => ?_) (fun hc => ?_)
  ·
   all_goals try (cases hc; done)
   all_goals try simp only [push_cast] at hc
   all_goals try (exfalso; omega)
   all_goals
    refine WS.seq ?_
    refine R0 fun K hK => ?_
    try simp (maxSteps := 4000000) (disch := omega) only [push_cast, Nat.reduceLT, Nat.reduceEqDiff, Nat.reduceAdd, Nat.reduceMul, Nat.reduceSub, Nat.reduceLeDiff, Int.reduceToNat, Int.reduceLT, Int.reduceLE, Int.reduceAdd, Int.reduceSub, Int.reduceMul, Int.reduceNeg, Int.reduceEq, reduceCtorEq, Int.cast_ofNat_Int, Hp.get_set]
    refine Qk hK [6, 7] ?_
    clear hK K
    refine Rt ?_
    refine hQ0 _ _ _ ?_
    try simp (maxSteps := 4000000) only [push_cast, Int.reduceToNat, Int.reduceLT, Int.reduceLE, Int.reduceAdd, Int.reduceSub, Int.reduceMul, Int.reduceNeg, Int.reduceEq, reduceCtorEq, Nat.reduceLeDiff, Nat.reduceLT, Nat.reduceEqDiff, Nat.reduceAdd, Nat.reduceMul, Nat.reduceSub, Int.cast_ofNat_Int]
    first | done | rfl | (simp; done) | (simp_all; done) | (simp_all; omega)
  all_goals try (cases hc; done)
  all_goals try simp only [push_cast] at hc
  all_goals try (exfalso; omega)
  all_goals
   refine Sk ?_
   refine WS.seq ?_
   refine R0 fun K hK => ?_
   try simp (maxSteps := 4000000) (disch := omega) only [push_cast, Nat.reduceLT, Nat.reduceEqDiff, Nat.reduceAdd, Nat.reduceMul, Nat.reduceSub, Nat.reduceLeDiff, Int.reduceToNat, Int.reduceLT, Int.reduceLE, Int.reduceAdd, Int.reduceSub, Int.reduceMul, Int.reduceNeg, Int.reduceEq, reduceCtorEq, Int.cast_ofNat_Int, Hp.get_set]
   (repeat refine And.intro (by first | omega | (simp; done) | (simp_all; done) | (simp_all; omega)) ?_)
   refine fun g6_0 hg6_0 => ?_
   try simp only [Hp.set_none, Hp.join_none_iff] at hg6_0
   try simp (maxSteps := 4000000) (disch := omega) only [push_cast, Nat.reduceLT, Nat.reduceEqDiff, Nat.reduceAdd, Nat.reduceMul, Nat.reduceSub, Nat.reduceLeDiff, Int.reduceToNat, Int.reduceLT, Int.reduceLE, Int.reduceAdd, Int.reduceSub, Int.reduceMul, Int.reduceNeg, Int.reduceEq, reduceCtorEq, Int.cast_ofNat_Int, Hp.get_set, hg6_0]
   (repeat refine And.intro (by first | omega | (simp; done) | (simp_all; done) | (simp_all; omega)) ?_)
   refine Qk hK [0, 1, 2, 9] ?_
   clear hK K
   refine WS.seq ?_
   refine R0 fun K hK => ?_
   try simp (maxSteps := 4000000) (disch := omega) only [push_cast, Nat.reduceLT, Nat.reduceEqDiff, Nat.reduceAdd, Nat.reduceMul, Nat.reduceSub, Nat.reduceLeDiff, Int.reduceToNat, Int.reduceLT, Int.reduceLE, Int.reduceAdd, Int.reduceSub, Int.reduceMul, Int.reduceNeg, Int.reduceEq, reduceCtorEq, Int.cast_ofNat_Int, Hp.get_set, hg6_0]
   (repeat refine And.intro (by first | omega | (simp; done) | (simp_all; done) | (simp_all; omega)) ?_)
   try simp (maxSteps := 4000000) (disch := omega) only [push_cast, Nat.reduceLT, Nat.reduceEqDiff, Nat.reduceAdd, Nat.reduceMul, Nat.reduceSub, Nat.reduceLeDiff, Int.reduceToNat, Int.reduceLT, Int.reduceLE, Int.reduceAdd, Int.reduceSub, Int.reduceMul, Int.reduceNeg, Int.reduceEq, reduceCtorEq, Int.cast_ofNat_Int, Hp.get_set, hg6_0]
   (repeat refine And.intro (by first | omega | (simp; done) | (simp_all; done) | (simp_all; omega)) ?_)
   refine Qk hK [9] ?_
   clear hK K
   refine WS.seq ?_
   refine R0 fun K hK => ?_
   try simp (maxSteps := 4000000) (disch := omega) only [push_cast, Nat.reduceLT, Nat.reduceEqDiff, Hp.get_set, hg6_0]
   refine Qk hK [6, 7] ?_
   clear hK K
   refine Rt ?_
   refine hQ0 _ _ _ ?_
   try simp (maxSteps := 4000000) only [push_cast, Int.reduceToNat, Int.reduceLT, Int.reduceLE, Int.reduceAdd, Int.reduceSub, Int.reduceMul, Int.reduceNeg, Int.reduceEq, reduceCtorEq, Nat.reduceLeDiff, Nat.reduceLT, Nat.reduceEqDiff, Nat.reduceAdd, Nat.reduceMul, Nat.reduceSub, Int.cast_ofNat_Int, hg6_0]
   first | done | rfl | (simp; done) | (simp_all; done) | (simp_all; omega)
theorem write_nil (file s : Int) : PSpec Go.Proofs.Try.prog 27 [.nilp, .int .i64 file, .int .i64 s, .sl 0 [] .full] (.int .i64 6) := by
 refine introP (n := 97) (rs := [.tmp 8]) (fn := Go.Proofs.Try.f27) (by rfl) rfl (by kernel_rfl) rfl rfl (Nat.le_of_ble_eq_true rfl) (fun Q0 hQ0 => ?_)
 refine WS.seq ?_
 refine A1 [0, 1, 2, 3] (by decide) ?_
 refine WS.seq (WS.seq ?_)
 refine R0 fun K hK => ?_
 try simp (maxSteps := 4000000) (disch := omega) only [push_cast, Nat.reduceLT, Nat.reduceEqDiff, Int.reduceToNat, Int.reduceLT, Int.reduceLE, Int.reduceAdd, Int.reduceSub, Int.reduceMul, Int.reduceNeg, Int.reduceEq, reduceCtorEq, Int.cast_ofNat_Int, Hp.get_set]
 all_goals try (first | refine guardT 17 rfl (fun hc => ?_) (fun hc => ?_) | refine guardF 17 rfl (fun hc => ?_) (fun hc => ?_)) <;> try simp only [push_cast] at hc
 all_goals try (exfalso; omega)
 all_goals try simp (maxSteps := 4000000) (disch := omega) only [push_cast, Nat.reduceLT, Nat.reduceEqDiff, Int.reduceToNat, Int.reduceLT, Int.reduceLE, Int.reduceAdd, Int.reduceSub, Int.reduceMul, Int.reduceNeg, Int.reduceEq, reduceCtorEq, Int.cast_ofNat_Int, Hp.get_set]
 all_goals try (first | refine guardT 21 rfl (fun hc => ?_) (fun hc => ?_) | refine guardF 21 rfl (fun hc => ?_) (fun hc => ?_)) <;> try simp only [push_cast] at hc
 all_goals try (exfalso; omega)
 all_goals try simp (maxSteps := 4000000) (disch := omega) only [push_cast, Nat.reduceLT, Nat.reduceEqDiff, Int.reduceToNat, Int.reduceLT, Int.reduceLE, Int.reduceAdd, Int.reduceSub, Int.reduceMul, Int.reduceNeg, Int.reduceEq, reduceCtorEq, Int.cast_ofNat_Int, Hp.get_set]
 all_goals try (
   first
    | (refine callS (ask_zero _ _ hd) (fun v τ h => ?_)
       obtain ⟨rfl, rfl⟩ := h)
    | (refine callP (ask_nil _ _) rfl ?_)
    | (refine callS (ask_spec _ _ hd) (fun v τ h => ?_)
       obtain ⟨rfl, rfl⟩ := h))
 all_goals try simp (maxSteps := 4000000) (disch := omega) only [push_cast, Nat.reduceLT, Nat.reduceEqDiff, Int.reduceToNat, Int.reduceLT, Int.reduceLE, Int.reduceAdd, Int.reduceSub, Int.reduceMul, Int.reduceNeg, Int.reduceEq, reduceCtorEq, Int.cast_ofNat_Int, Hp.get_set]
 all_goals
  refine Qk hK [0, 1, 2, 3, 9] ?_
  clear hK K
  refine WS.seq ?_
  refine R0 fun K hK => ?_
  try simp (maxSteps := 4000000) (disch := omega) only [push_cast, Nat.reduceLT, Nat.reduceEqDiff, Int.reduceToNat, Int.reduceLT, Int.reduceLE, Int.reduceAdd, Int.reduceSub, Int.reduceMul, Int.reduceNeg, Int.reduceEq, reduceCtorEq, Int.cast_ofNat_Int, Hp.get_set]
  refine Qk hK [0, 1, 2, 3, 9, 28] ?_
  clear hK K
  refine CI rfl (fun hc => ?_) (fun hc => ?_)
  ·
   all_goals try (cases hc; done)
   all_goals try simp only [push_cast] at hc
   all_goals try (exfalso; omega)
   all_goals
    refine WS.seq ?_
    refine R0 fun K hK => ?_
    try simp (maxSteps := 4000000) (disch := omega) only [push_cast, Nat.reduceLT, Nat.reduceEqDiff, Hp.get_set]
    refine Qk hK [8] ?_
    clear hK K
    refine Rt ?_
    refine hQ0 _ _ _ ?_
    try simp (maxSteps := 4000000) only [push_cast, Int.reduceToNat, Int.reduceLT, Int.reduceLE, Int.reduceAdd, Int.reduceSub, Int.reduceMul, Int.reduceNeg, Int.reduceEq, reduceCtorEq, Nat.reduceLeDiff, Nat.reduceLT, Nat.reduceEqDiff, Nat.reduceAdd, Nat.reduceMul, Nat.reduceSub, Int.cast_ofNat_Int]
    first | done | rfl | (simp; done) | (simp_all; done) | (simp_all; omega)
  all_goals try (cases hc; done)
  all_goals try simp only [push_cast] at hc
  all_goals try (exfalso; omega)
  all_goals
   refine Sk ?_
   refine WS.seq (WS.seq ?_)
   refine RD [] [] fo (by kernel_rfl) fun K hK => ?_
   try simp (maxSteps := 4000000) (disch := omega) only [push_cast, Nat.reduceLT, Nat.reduceEqDiff, Nat.reduceAdd, Nat.reduceMul, Nat.reduceSub, Nat.reduceLeDiff, Int.reduceToNat, Int.reduceLT, Int.reduceLE, Int.reduceAdd, Int.reduceSub, Int.reduceMul, Int.reduceNeg, Int.reduceEq, reduceCtorEq, Int.cast_ofNat_Int, Hp.get_set]
   (repeat refine And.intro (by first | omega | (simp; done) | (simp_all; done) | (simp_all; omega)) ?_)
   all_goals try (first | refine guardT 38 rfl (fun hc => ?_) (fun hc => ?_) | refine guardF 38 rfl (fun hc => ?_) (fun hc => ?_)) <;> try simp only [push_cast] at hc
   all_goals try (exfalso; omega)
   all_goals try simp (maxSteps := 4000000) (disch := omega) only [push_cast, Nat.reduceLT, Nat.reduceEqDiff, Nat.reduceAdd, Nat.reduceMul, Nat.reduceSub, Nat.reduceLeDiff, Int.reduceToNat, Int.reduceLT, Int.reduceLE, Int.reduceAdd, Int.reduceSub, Int.reduceMul, Int.reduceNeg, Int.reduceEq, reduceCtorEq, Int.cast_ofNat_Int, Hp.get_set]
   all_goals (repeat refine And.intro (by first | omega | (simp; done) | (simp_all; done) | (simp_all; omega)) ?_)
   all_goals
    refine Qk hK [0, 1, 2, 3, 54] ?_
    clear hK K
    refine CI rfl (fun hc => ?_) (fun hc => ?_)
    ·
     all_goals try (cases hc; done)
     all_goals try simp only [push_cast] at hc
     all_goals try (exfalso; omega)
     all_goals
      refine WS.seq ?_
      refine A1 [8] (by decide) ?_
      refine Rt ?_
      refine hQ0 _ _ _ ?_
      try simp (maxSteps := 4000000) only [push_cast, Int.reduceToNat, Int.reduceLT, Int.reduceLE, Int.reduceAdd, Int.reduceSub, Int.reduceMul, Int.reduceNeg, Int.reduceEq, reduceCtorEq, Nat.reduceLeDiff, Nat.reduceLT, Nat.reduceEqDiff, Nat.reduceAdd, Nat.reduceMul, Nat.reduceSub, Int.cast_ofNat_Int]
      first | done | rfl | (simp; done) | (simp_all; done) | (simp_all; omega)
    all_goals try (cases hc; done)
    all_goals try simp only [push_cast] at hc
    all_goals try (exfalso; omega)
    all_goals
     refine Sk ?_
     refine WS.seq (WS.seq ?_)
     refine R0 fun K hK => ?_
     try simp (maxSteps := 4000000) (disch := omega) only [push_cast, Nat.reduceLT, Nat.reduceEqDiff, Hp.get_set]
     refine callS (change_spec (by first | omega | (simp; done) | (simp_all; done) | (simp_all; omega))) (fun v τ h => ?_)
     obtain ⟨rfl, rfl⟩ := h
     try simp (maxSteps := 4000000) (disch := omega) only [push_cast, Nat.reduceLT, Nat.reduceEqDiff, Hp.get_set]
     refine Qk hK [0, 1, 2, 3, 10] ?_
     clear hK K
     refine WS.seq ?_
     refine R0 fun K hK => ?_
     try simp (maxSteps := 4000000) (disch := omega) only [push_cast, Nat.reduceLT, Nat.reduceEqDiff, Int.reduceToNat, Int.reduceLT, Int.reduceLE, Int.reduceAdd, Int.reduceSub, Int.reduceMul, Int.reduceNeg, Int.reduceEq, reduceCtorEq, Int.cast_ofNat_Int, Hp.get_set]
     refine Qk hK [0, 1, 2, 3, 10, 58] ?_
     clear hK K
     refine CI rfl (fun hc => ?_) (fun hc => ?_)
     ·
      all_goals try (cases hc; done)
      all_goals try simp only [push_cast] at hc
      all_goals try (exfalso; omega)
      all_goals
       refine WS.seq ?_
       refine R0 fun K hK => ?_
       try simp (maxSteps := 4000000) (disch := omega) only [push_cast, Nat.reduceLT, Nat.reduceEqDiff, Hp.get_set]
       refine Qk hK [8] ?_
       clear hK K
       refine Rt ?_
       refine hQ0 _ _ _ ?_
       try simp (maxSteps := 4000000) only [push_cast, Int.reduceToNat, Int.reduceLT, Int.reduceLE, Int.reduceAdd, Int.reduceSub, Int.reduceMul, Int.reduceNeg, Int.reduceEq, reduceCtorEq, Nat.reduceLeDiff, Nat.reduceLT, Nat.reduceEqDiff, Nat.reduceAdd, Nat.reduceMul, Nat.reduceSub, Int.cast_ofNat_Int]
       first | done | rfl | (simp; done) | (simp_all; done) | (simp_all; omega)
     all_goals try (cases hc; done)
     all_goals try simp only [push_cast] at hc
     all_goals try (exfalso; omega)
     all_goals
      refine Sk ?_
      refine WS.seq ?_
      refine R0 fun K hK => ?_
      try simp (maxSteps := 4000000) (disch := omega) only [push_cast, Nat.reduceLT, Nat.reduceEqDiff, Nat.reduceAdd, Nat.reduceMul, Nat.reduceSub, Nat.reduceLeDiff, Hp.get_set]
      (repeat refine And.intro (by first | omega | (simp; done) | (simp_all; done) | (simp_all; omega)) ?_)
      refine fun g9_3 hg9_3 => ?_
      try simp only [Hp.set_none, Hp.join_none_iff] at hg9_3
      try simp (maxSteps := 4000000) (disch := omega) only [push_cast, Nat.reduceLT, Nat.reduceEqDiff, Nat.reduceAdd, Nat.reduceMul, Nat.reduceSub, Nat.reduceLeDiff, Hp.get_set, hg9_3]
      (repeat refine And.intro (by first | omega | (simp; done) | (simp_all; done) | (simp_all; omega)) ?_)
      refine Qk hK [0, 1, 2, 3, 11] ?_
      clear hK K
      refine WS.seq ?_
      refine R0 fun K hK => ?_
      try simp (maxSteps := 4000000) (disch := omega) only [push_cast, Nat.reduceLT, Nat.reduceEqDiff, Hp.get_set, hg9_3]
      refine callP (clone_spec (by simp [uniV, V.cells, V.one, u8]) (by simp; omega)) rfl ?_
      try simp (maxSteps := 4000000) (disch := omega) only [push_cast, Nat.reduceLT, Nat.reduceEqDiff, Hp.get_set, hg9_3]
      refine Qk hK [0, 1, 2, 11, 12] ?_
      clear hK K
      refine WS.seq ?_
      refine RD [] [] fo (by kernel_rfl) fun K hK => ?_
      try simp (maxSteps := 4000000) (disch := omega) only [push_cast, Nat.reduceLT, Nat.reduceEqDiff, Nat.reduceAdd, Nat.reduceMul, Nat.reduceSub, Nat.reduceLeDiff, Hp.get_set, hg9_3]
      (repeat refine And.intro (by first | omega | (simp; done) | (simp_all; done) | (simp_all; omega)) ?_)
      refine Qk hK [0, 1, 2, 11, 12] ?_
      clear hK K
      refine WS.seq ?_
      refine RD [] [] fo (by kernel_rfl) fun K hK => ?_
      try simp (maxSteps := 4000000) (disch := omega) only [push_cast, Nat.reduceLT, Nat.reduceEqDiff, Nat.reduceAdd, Nat.reduceMul, Nat.reduceSub, Nat.reduceLeDiff, Int.reduceToNat, Int.reduceLT, Int.reduceLE, Int.reduceAdd, Int.reduceSub, Int.reduceMul, Int.reduceNeg, Int.reduceEq, reduceCtorEq, Int.cast_ofNat_Int, Hp.get_set, hg9_3]
      (repeat refine And.intro (by first | omega | (simp; done) | (simp_all; done) | (simp_all; omega)) ?_)
      refine Qk hK [0, 11, 12] ?_
      clear hK K
      refine WS.seq ?_
      refine RD [] [] fo (by kernel_rfl) fun K hK => ?_
      try simp (maxSteps := 4000000) (disch := omega) only [push_cast, Nat.reduceLT, Nat.reduceEqDiff, Nat.reduceAdd, Nat.reduceMul, Nat.reduceSub, Nat.reduceLeDiff, Int.reduceToNat, Int.reduceLT, Int.reduceLE, Int.reduceAdd, Int.reduceSub, Int.reduceMul, Int.reduceNeg, Int.reduceEq, reduceCtorEq, Int.cast_ofNat_Int, Hp.get_set, hg9_3]
      (repeat refine And.intro (by first | omega | (simp; done) | (simp_all; done) | (simp_all; omega)) ?_)
      try simp (maxSteps := 4000000) (disch := omega) only [push_cast, Nat.reduceLT, Nat.reduceEqDiff, Nat.reduceAdd, Nat.reduceMul, Nat.reduceSub, Nat.reduceLeDiff, Int.reduceToNat, Int.reduceLT, Int.reduceLE, Int.reduceAdd, Int.reduceSub, Int.reduceMul, Int.reduceNeg, Int.reduceEq, reduceCtorEq, Int.cast_ofNat_Int, Hp.get_set, hg9_3]
      (repeat refine And.intro (by first | omega | (simp; done) | (simp_all; done) | (simp_all; omega)) ?_)
      try simp (maxSteps := 4000000) (disch := omega) only [push_cast, Nat.reduceLT, Nat.reduceEqDiff, Nat.reduceAdd, Nat.reduceMul, Nat.reduceSub, Nat.reduceLeDiff, Int.reduceToNat, Int.reduceLT, Int.reduceLE, Int.reduceAdd, Int.reduceSub, Int.reduceMul, Int.reduceNeg, Int.reduceEq, reduceCtorEq, Int.cast_ofNat_Int, Hp.get_set, hg9_3]
      (repeat refine And.intro (by first | omega | (simp; done) | (simp_all; done) | (simp_all; omega)) ?_)
      try simp (maxSteps := 4000000) (disch := omega) only [push_cast, Nat.reduceLT, Nat.reduceEqDiff, Nat.reduceAdd, Nat.reduceMul, Nat.reduceSub, Nat.reduceLeDiff, Int.reduceToNat, Int.reduceLT, Int.reduceLE, Int.reduceAdd, Int.reduceSub, Int.reduceMul, Int.reduceNeg, Int.reduceEq, reduceCtorEq, Int.cast_ofNat_Int, Hp.get_set, hg9_3]
      (repeat refine And.intro (by first | omega | (simp; done) | (simp_all; done) | (simp_all; omega)) ?_)
      refine Qk hK [] ?_
      clear hK K
      refine WS.seq ?_
      refine A1 [8] (by decide) ?_
      refine Rt ?_
      refine hQ0 _ _ _ ?_
      try simp (maxSteps := 4000000) only [push_cast, Int.reduceToNat, Int.reduceLT, Int.reduceLE, Int.reduceAdd, Int.reduceSub, Int.reduceMul, Int.reduceNeg, Int.reduceEq, reduceCtorEq, Nat.reduceLeDiff, Nat.reduceLT, Nat.reduceEqDiff, Nat.reduceAdd, Nat.reduceMul, Nat.reduceSub, Int.cast_ofNat_Int, hg9_3]
      first | done | rfl | (simp; done) | (simp_all; done) | (simp_all; omega)
theorem nobody_spec (o : Op) : PSpec Go.Proofs.Try.prog 10 [.agg (opc o)] (.bool true) := by
 refine introP (n := 91) (rs := [.tmp 2]) (fn := Go.Proofs.Try.f10) (by rfl) rfl (by kernel_rfl) rfl rfl (Nat.le_of_ble_eq_true rfl) (fun Q0 hQ0 => ?_)
 refine WS.seq ?_
 refine R0 fun K hK => ?_
 try simp (maxSteps := 4000000) (disch := omega) only [push_cast, Nat.reduceLT, Nat.reduceEqDiff, Hp.get_set, opc, List.length_map, zcells]
 (repeat refine And.intro (by first | omega | (simp; done) | (simp_all; done) | (simp_all; omega)) ?_)
 refine fun g0_0 hg0_0 => ?_
 try simp only [Hp.set_none, Hp.join_none_iff] at hg0_0
 try simp (maxSteps := 4000000) (disch := omega) only [push_cast, Nat.reduceLT, Nat.reduceEqDiff, Hp.get_set, opc, List.length_map, zcells, hg0_0]
 (repeat refine And.intro (by first | omega | (simp; done) | (simp_all; done) | (simp_all; omega)) ?_)
 refine Qk hK [1] ?_
 clear hK K
 refine S_frz 1 rfl hg0_0 ?_
 refine WS.seq (WS.seq ?_)
 refine R0 fun K hK => ?_
 try simp (maxSteps := 4000000) (disch := omega) only [push_cast, Nat.reduceLT, Nat.reduceEqDiff, Nat.reduceAdd, Nat.reduceMul, Nat.reduceSub, Nat.reduceLeDiff, Int.reduceToNat, Int.reduceLT, Int.reduceLE, Int.reduceAdd, Int.reduceSub, Int.reduceMul, Int.reduceNeg, Int.reduceEq, reduceCtorEq, Int.cast_ofNat_Int, Hp.get_set, opc, List.length_map, zcells]
 (repeat refine And.intro (by first | omega | (simp; done) | (simp_all; done) | (simp_all; omega)) ?_)
 refine Qk hK [1, 14] ?_
 clear hK K
 refine CI rfl (fun hc => ?_) (fun hc => ?_)
 ·
  all_goals try (cases hc; done)
  all_goals try simp only [push_cast] at hc
  all_goals try (exfalso; omega)
  all_goals
   refine WS.seq ?_
   refine R0 fun K hK => ?_
   try simp (maxSteps := 4000000) (disch := omega) only [push_cast, Nat.reduceLT, Nat.reduceEqDiff, Hp.get_set, opc, List.length_map, zcells]
   refine callP (alive_spec ) rfl ?_
   try simp (maxSteps := 4000000) (disch := omega) only [push_cast, Nat.reduceLT, Nat.reduceEqDiff, Hp.get_set, opc, List.length_map, zcells]
   refine Qk hK [2] ?_
   clear hK K
   refine Rt ?_
   refine hQ0 _ _ _ ?_
   try simp (maxSteps := 4000000) only [push_cast, Int.reduceToNat, Int.reduceLT, Int.reduceLE, Int.reduceAdd, Int.reduceSub, Int.reduceMul, Int.reduceNeg, Int.reduceEq, reduceCtorEq, Nat.reduceLeDiff, Nat.reduceLT, Nat.reduceEqDiff, Nat.reduceAdd, Nat.reduceMul, Nat.reduceSub, Int.cast_ofNat_Int, opc, List.length_map, zcells]
   first | done | rfl | (simp; done) | (simp_all; done) | (simp_all; omega)
 all_goals try (cases hc; done)
 all_goals try simp only [push_cast] at hc
 all_goals try (exfalso; omega)
 all_goals
  refine Sk ?_
  refine WS.seq ?_
  refine A1 [1, 3] (by decide) ?_
  refine WS.seq ?_
  refine R0 fun K hK => ?_
  try simp (maxSteps := 4000000) (disch := omega) only [push_cast, Nat.reduceLT, Nat.reduceEqDiff, Hp.get_set, opc, List.length_map, zcells]
  refine fun gu hgu => ?_
  try simp only [Hp.set_none, Hp.join_none_iff] at hgu
  try simp (maxSteps := 4000000) (disch := omega) only [push_cast, Nat.reduceLT, Nat.reduceEqDiff, Hp.get_set, opc, List.length_map, zcells, hgu]
  refine Qk hK [1, 3, 4] ?_
  clear hK K
  have hu : (Hp.empty.set gu (.cells zcells)).get gu = some (.cells zcells) := Hp.get_set_same _ _ _
  change WS _ _ _ _ _ (Hp.empty.set gu (.cells zcells))
  refine WS.seq ?_
  refine R0 fun K hK => ?_
  try simp (maxSteps := 4000000) (disch := omega) only [push_cast, Nat.reduceLT, Nat.reduceEqDiff, Nat.reduceAdd, Nat.reduceMul, Nat.reduceSub, Nat.reduceLeDiff, Hp.get_set, opc, List.length_map, zcells]
  (repeat refine And.intro (by first | omega | (simp; done) | (simp_all; done) | (simp_all; omega)) ?_)
  refine callP (read_nil _ _) rfl ?_
  try simp (maxSteps := 4000000) (disch := omega) only [push_cast, Nat.reduceLT, Nat.reduceEqDiff, Nat.reduceAdd, Nat.reduceMul, Nat.reduceSub, Nat.reduceLeDiff, Hp.get_set, opc, List.length_map, zcells]
  (repeat refine And.intro (by first | omega | (simp; done) | (simp_all; done) | (simp_all; omega)) ?_)
  refine Qk hK [1, 3, 4, 6] ?_
  clear hK K
  refine WS.seq ?_
  refine R0 fun K hK => ?_
  try simp (maxSteps := 4000000) (disch := omega) only [push_cast, Nat.reduceLT, Nat.reduceEqDiff, Nat.reduceAdd, Nat.reduceMul, Nat.reduceSub, Nat.reduceLeDiff, Hp.get_set, opc, List.length_map, zcells]
  (repeat refine And.intro (by first | omega | (simp; done) | (simp_all; done) | (simp_all; omega)) ?_)
  refine callR (fun τ hs => read_zero _ _ (hs _ _ hu)) rfl ?_
  try simp (maxSteps := 4000000) (disch := omega) only [push_cast, Nat.reduceLT, Nat.reduceEqDiff, Nat.reduceAdd, Nat.reduceMul, Nat.reduceSub, Nat.reduceLeDiff, Hp.get_set, opc, List.length_map, zcells]
  (repeat refine And.intro (by first | omega | (simp; done) | (simp_all; done) | (simp_all; omega)) ?_)
  refine Qk hK [1, 3, 4, 6, 8] ?_
  clear hK K
  refine WS.seq ?_
  refine RD [37, 39, 42, 46, 49] [27, 33, 1000029, 1000034] fo (by kernel_rfl) fun K hK => ?_
  try simp (maxSteps := 4000000) (disch := omega) only [push_cast, Nat.reduceLT, Nat.reduceEqDiff, Nat.reduceAdd, Nat.reduceMul, Nat.reduceSub, Nat.reduceLeDiff, Int.reduceToNat, Int.reduceLT, Int.reduceLE, Int.reduceAdd, Int.reduceSub, Int.reduceMul, Int.reduceNeg, Int.reduceEq, reduceCtorEq, Int.cast_ofNat_Int, Hp.get_set, opc, List.length_map, zcells]
  (repeat refine And.intro (by first | omega | (simp; done) | (simp_all; done) | (simp_all; omega)) ?_)
  refine callP (write_nil _ _) rfl ?_
  try simp (maxSteps := 4000000) (disch := omega) only [push_cast, Nat.reduceLT, Nat.reduceEqDiff, Nat.reduceAdd, Nat.reduceMul, Nat.reduceSub, Nat.reduceLeDiff, Int.reduceToNat, Int.reduceLT, Int.reduceLE, Int.reduceAdd, Int.reduceSub, Int.reduceMul, Int.reduceNeg, Int.reduceEq, reduceCtorEq, Int.cast_ofNat_Int, Hp.get_set, opc, List.length_map, zcells]
  (repeat refine And.intro (by first | omega | (simp; done) | (simp_all; done) | (simp_all; omega)) ?_)
  refine callR (fun τ hs => sync_zero _ (hs _ _ hu)) rfl ?_
  try simp (maxSteps := 4000000) (disch := omega) only [push_cast, Nat.reduceLT, Nat.reduceEqDiff, Nat.reduceAdd, Nat.reduceMul, Nat.reduceSub, Nat.reduceLeDiff, Int.reduceToNat, Int.reduceLT, Int.reduceLE, Int.reduceAdd, Int.reduceSub, Int.reduceMul, Int.reduceNeg, Int.reduceEq, reduceCtorEq, Int.cast_ofNat_Int, Hp.get_set, opc, List.length_map, zcells]
  (repeat refine And.intro (by first | omega | (simp; done) | (simp_all; done) | (simp_all; omega)) ?_)
  refine callP (fail_nil _) rfl ?_
  try simp (maxSteps := 4000000) (disch := omega) only [push_cast, Nat.reduceLT, Nat.reduceEqDiff, Nat.reduceAdd, Nat.reduceMul, Nat.reduceSub, Nat.reduceLeDiff, Int.reduceToNat, Int.reduceLT, Int.reduceLE, Int.reduceAdd, Int.reduceSub, Int.reduceMul, Int.reduceNeg, Int.reduceEq, reduceCtorEq, Int.cast_ofNat_Int, Hp.get_set, opc, List.length_map, zcells]
  (repeat refine And.intro (by first | omega | (simp; done) | (simp_all; done) | (simp_all; omega)) ?_)
  refine callR (fun τ hs => crash_zero _ (hs _ _ hu)) rfl ?_
  try simp (maxSteps := 4000000) (disch := omega) only [push_cast, Nat.reduceLT, Nat.reduceEqDiff, Nat.reduceAdd, Nat.reduceMul, Nat.reduceSub, Nat.reduceLeDiff, Int.reduceToNat, Int.reduceLT, Int.reduceLE, Int.reduceAdd, Int.reduceSub, Int.reduceMul, Int.reduceNeg, Int.reduceEq, reduceCtorEq, Int.cast_ofNat_Int, Hp.get_set, opc, List.length_map, zcells]
  (repeat refine And.intro (by first | omega | (simp; done) | (simp_all; done) | (simp_all; omega)) ?_)
  refine fun g7_19 hg7_19 => ?_
  try simp only [Hp.set_none, Hp.join_none_iff] at hg7_19
  try simp (maxSteps := 4000000) (disch := omega) only [push_cast, Nat.reduceLT, Nat.reduceEqDiff, Nat.reduceAdd, Nat.reduceMul, Nat.reduceSub, Nat.reduceLeDiff, Int.reduceToNat, Int.reduceLT, Int.reduceLE, Int.reduceAdd, Int.reduceSub, Int.reduceMul, Int.reduceNeg, Int.reduceEq, reduceCtorEq, Int.cast_ofNat_Int, Hp.get_set, opc, List.length_map, zcells, hg7_19]
  (repeat refine And.intro (by first | omega | (simp; done) | (simp_all; done) | (simp_all; omega)) ?_)
  refine Qk hK [1, 3, 4, 9] ?_
  clear hK K
  simp only [Hp.set_set]
  refine S_frz 9 rfl (by simp [Hp.set_none, hg7_19] <;> simp_all [Hp.get_set]) ?_
  refine WS.seq (WS.seq ?_)
  refine A1 [1, 3, 4, 9, 10] (by decide) ?_
  refine Bk fun K0 hK0 => ?_
  refine WS_keep [1, 3, 4, 9, 10] _ ?_
  refine Lp (fun m env σ' => ∃ (i : Nat), m = 6 - i ∧ env = [(1, .pv (opc o)), (3, .nilp), (4, .ptr gu 0), (9, .pv six), (10, .int .i64 i)] ∧ σ' = Hp.empty.set gu (.cells zcells) ∧ (i ≤ 6)) ?_ ?_
  · refine ⟨_, 0,  rfl, ?_, ?_, ?_⟩
    · (try simp (disch := omega) only [push_cast, Int.reduceToNat, Int.reduceLT, Int.reduceLE, Int.reduceAdd, Int.reduceSub, Int.reduceMul, Int.reduceNeg, Int.reduceEq, reduceCtorEq, Nat.reduceLeDiff, Nat.reduceLT, Nat.reduceEqDiff, Nat.reduceAdd, Nat.reduceMul, Nat.reduceSub, Int.cast_ofNat_Int, opc, List.length_map, zcells]) <;> (first | done | rfl | (simp; done) | (simp; omega) | omega | (simp_all; done) | (simp_all; omega))
    · first | rfl | (try simp (disch := omega) only [push_cast, Int.reduceToNat, Int.reduceLT, Int.reduceLE, Int.reduceAdd, Int.reduceSub, Int.reduceMul, Int.reduceNeg, Int.reduceEq, reduceCtorEq, Nat.reduceLeDiff, Nat.reduceLT, Nat.reduceEqDiff, Nat.reduceAdd, Nat.reduceMul, Nat.reduceSub, Int.cast_ofNat_Int, opc, List.length_map, zcells]) <;> (first | done | rfl | (simp; done) | (simp; omega) | omega | (simp_all; done) | (simp_all; omega))
    · first | omega | (simp; done) | (simp_all; done) | (simp_all; omega)
  intro m env σ' hJ M0 hM0
  obtain ⟨i, rfl, rfl, rfl, hi⟩ := hJ
  refine WS.seq (WS.seq ?_)
  refine R0 fun K hK => ?_
  try simp (maxSteps := 4000000) (disch := omega) only [push_cast, Nat.reduceLT, Nat.reduceEqDiff, Int.reduceToNat, Int.reduceLT, Int.reduceLE, Int.reduceAdd, Int.reduceSub, Int.reduceMul, Int.reduceNeg, Int.reduceEq, reduceCtorEq, Int.cast_ofNat_Int, Hp.get_set, opc, List.length_map, zcells]
  refine Qk hK [1, 3, 4, 9, 10, 53] ?_
  clear hK K
  refine CI rfl (fun hc => ?_) (fun hc => ?_)
  rotate_left
  ·
   all_goals try (cases hc; done)
   all_goals try simp only [push_cast] at hc
   all_goals try (exfalso; omega)
   all_goals
    refine Ex ?_
    simp only [push_cast, WS, Nat.reduceEqDiff]
    refine hK0 _ _ ?_
    clear hK0
    try clear K0
    refine WS_keep [1, 3, 4] _ ?_
    refine WS.seq ?_
    refine RD [64, 67] [32, 1000031, 1000035, 1000039, 1000040, 1000042] fo (by kernel_rfl) fun K hK => ?_
    try simp (maxSteps := 4000000) (disch := omega) only [push_cast, Nat.reduceLT, Nat.reduceEqDiff, Nat.reduceAdd, Nat.reduceMul, Nat.reduceSub, Nat.reduceLeDiff, Int.reduceToNat, Int.reduceLT, Int.reduceLE, Int.reduceAdd, Int.reduceSub, Int.reduceMul, Int.reduceNeg, Int.reduceEq, reduceCtorEq, Int.cast_ofNat_Int, Hp.get_set, opc, List.length_map, zcells]
    (repeat refine And.intro (by first | omega | (simp; done) | (simp_all; done) | (simp_all; omega)) ?_)
    refine callP alive_spec rfl ?_
    try simp (maxSteps := 4000000) (disch := omega) only [push_cast, Nat.reduceLT, Nat.reduceEqDiff, Nat.reduceAdd, Nat.reduceMul, Nat.reduceSub, Nat.reduceLeDiff, Int.reduceToNat, Int.reduceLT, Int.reduceLE, Int.reduceAdd, Int.reduceSub, Int.reduceMul, Int.reduceNeg, Int.reduceEq, reduceCtorEq, Int.cast_ofNat_Int, Hp.get_set, opc, List.length_map, zcells]
    (repeat refine And.intro (by first | omega | (simp; done) | (simp_all; done) | (simp_all; omega)) ?_)
    all_goals try (first | refine guardT 61 rfl (fun hc => ?_) (fun hc => ?_) | refine guardF 61 rfl (fun hc => ?_) (fun hc => ?_)) <;> try simp only [push_cast] at hc
    all_goals try (exfalso; omega)
    all_goals try simp (maxSteps := 4000000) (disch := omega) only [push_cast, Nat.reduceLT, Nat.reduceEqDiff, Nat.reduceAdd, Nat.reduceMul, Nat.reduceSub, Nat.reduceLeDiff, Int.reduceToNat, Int.reduceLT, Int.reduceLE, Int.reduceAdd, Int.reduceSub, Int.reduceMul, Int.reduceNeg, Int.reduceEq, reduceCtorEq, Int.cast_ofNat_Int, Hp.get_set, opc, List.length_map, zcells]
    all_goals (repeat refine And.intro (by first | omega | (simp; done) | (simp_all; done) | (simp_all; omega)) ?_)
    all_goals try (
      refine callR (PSpec.R (len_nil _) _) rfl ?_)
    all_goals try simp (maxSteps := 4000000) (disch := omega) only [push_cast, Nat.reduceLT, Nat.reduceEqDiff, Nat.reduceAdd, Nat.reduceMul, Nat.reduceSub, Nat.reduceLeDiff, Int.reduceToNat, Int.reduceLT, Int.reduceLE, Int.reduceAdd, Int.reduceSub, Int.reduceMul, Int.reduceNeg, Int.reduceEq, reduceCtorEq, Int.cast_ofNat_Int, Hp.get_set, opc, List.length_map, zcells]
    all_goals (repeat refine And.intro (by first | omega | (simp; done) | (simp_all; done) | (simp_all; omega)) ?_)
    all_goals try (
      refine callR (fun τ hs => len_zero _ (hs _ _ hu)) rfl ?_)
    all_goals try simp (maxSteps := 4000000) (disch := omega) only [push_cast, Nat.reduceLT, Nat.reduceEqDiff, Nat.reduceAdd, Nat.reduceMul, Nat.reduceSub, Nat.reduceLeDiff, Int.reduceToNat, Int.reduceLT, Int.reduceLE, Int.reduceAdd, Int.reduceSub, Int.reduceMul, Int.reduceNeg, Int.reduceEq, reduceCtorEq, Int.cast_ofNat_Int, Hp.get_set, opc, List.length_map, zcells]
    all_goals (repeat refine And.intro (by first | omega | (simp; done) | (simp_all; done) | (simp_all; omega)) ?_)
    all_goals try (
      refine callR (PSpec.R waits_nil _) rfl ?_)
    all_goals try simp (maxSteps := 4000000) (disch := omega) only [push_cast, Nat.reduceLT, Nat.reduceEqDiff, Nat.reduceAdd, Nat.reduceMul, Nat.reduceSub, Nat.reduceLeDiff, Int.reduceToNat, Int.reduceLT, Int.reduceLE, Int.reduceAdd, Int.reduceSub, Int.reduceMul, Int.reduceNeg, Int.reduceEq, reduceCtorEq, Int.cast_ofNat_Int, Hp.get_set, opc, List.length_map, zcells]
    all_goals (repeat refine And.intro (by first | omega | (simp; done) | (simp_all; done) | (simp_all; omega)) ?_)
    all_goals try (
      refine callR (fun τ hs => calls_zero (hs _ _ hu)) rfl ?_)
    all_goals try simp (maxSteps := 4000000) (disch := omega) only [push_cast, Nat.reduceLT, Nat.reduceEqDiff, Nat.reduceAdd, Nat.reduceMul, Nat.reduceSub, Nat.reduceLeDiff, Int.reduceToNat, Int.reduceLT, Int.reduceLE, Int.reduceAdd, Int.reduceSub, Int.reduceMul, Int.reduceNeg, Int.reduceEq, reduceCtorEq, Int.cast_ofNat_Int, Hp.get_set, opc, List.length_map, zcells]
    all_goals (repeat refine And.intro (by first | omega | (simp; done) | (simp_all; done) | (simp_all; omega)) ?_)
    all_goals try (first | refine guardT 77 rfl (fun hc => ?_) (fun hc => ?_) | refine guardF 77 rfl (fun hc => ?_) (fun hc => ?_)) <;> try simp only [push_cast] at hc
    all_goals try (exfalso; omega)
    all_goals try simp (maxSteps := 4000000) (disch := omega) only [push_cast, Nat.reduceLT, Nat.reduceEqDiff, Nat.reduceAdd, Nat.reduceMul, Nat.reduceSub, Nat.reduceLeDiff, Int.reduceToNat, Int.reduceLT, Int.reduceLE, Int.reduceAdd, Int.reduceSub, Int.reduceMul, Int.reduceNeg, Int.reduceEq, reduceCtorEq, Int.cast_ofNat_Int, Hp.get_set, opc, List.length_map, zcells]
    all_goals (repeat refine And.intro (by first | omega | (simp; done) | (simp_all; done) | (simp_all; omega)) ?_)
    all_goals try (
      refine callR (PSpec.R down_nil _) rfl ?_)
    all_goals try simp (maxSteps := 4000000) (disch := omega) only [push_cast, Nat.reduceLT, Nat.reduceEqDiff, Nat.reduceAdd, Nat.reduceMul, Nat.reduceSub, Nat.reduceLeDiff, Int.reduceToNat, Int.reduceLT, Int.reduceLE, Int.reduceAdd, Int.reduceSub, Int.reduceMul, Int.reduceNeg, Int.reduceEq, reduceCtorEq, Int.cast_ofNat_Int, Hp.get_set, opc, List.length_map, zcells]
    all_goals (repeat refine And.intro (by first | omega | (simp; done) | (simp_all; done) | (simp_all; omega)) ?_)
    all_goals try (first | refine guardT 82 rfl (fun hc => ?_) (fun hc => ?_) | refine guardF 82 rfl (fun hc => ?_) (fun hc => ?_)) <;> try simp only [push_cast] at hc
    all_goals try (exfalso; omega)
    all_goals try simp (maxSteps := 4000000) (disch := omega) only [push_cast, Nat.reduceLT, Nat.reduceEqDiff, Nat.reduceAdd, Nat.reduceMul, Nat.reduceSub, Nat.reduceLeDiff, Int.reduceToNat, Int.reduceLT, Int.reduceLE, Int.reduceAdd, Int.reduceSub, Int.reduceMul, Int.reduceNeg, Int.reduceEq, reduceCtorEq, Int.cast_ofNat_Int, Hp.get_set, opc, List.length_map, zcells]
    all_goals (repeat refine And.intro (by first | omega | (simp; done) | (simp_all; done) | (simp_all; omega)) ?_)
    all_goals try (
      refine callR (fun τ hs => down_zero (hs _ _ hu)) rfl ?_)
    all_goals try simp (maxSteps := 4000000) (disch := omega) only [push_cast, Nat.reduceLT, Nat.reduceEqDiff, Nat.reduceAdd, Nat.reduceMul, Nat.reduceSub, Nat.reduceLeDiff, Int.reduceToNat, Int.reduceLT, Int.reduceLE, Int.reduceAdd, Int.reduceSub, Int.reduceMul, Int.reduceNeg, Int.reduceEq, reduceCtorEq, Int.cast_ofNat_Int, Hp.get_set, opc, List.length_map, zcells]
    all_goals (repeat refine And.intro (by first | omega | (simp; done) | (simp_all; done) | (simp_all; omega)) ?_)
    all_goals try (first | refine guardT 86 rfl (fun hc => ?_) (fun hc => ?_) | refine guardF 86 rfl (fun hc => ?_) (fun hc => ?_)) <;> try simp only [push_cast] at hc
    all_goals try (exfalso; omega)
    all_goals try simp (maxSteps := 4000000) (disch := omega) only [push_cast, Nat.reduceLT, Nat.reduceEqDiff, Nat.reduceAdd, Nat.reduceMul, Nat.reduceSub, Nat.reduceLeDiff, Int.reduceToNat, Int.reduceLT, Int.reduceLE, Int.reduceAdd, Int.reduceSub, Int.reduceMul, Int.reduceNeg, Int.reduceEq, reduceCtorEq, Int.cast_ofNat_Int, Hp.get_set, opc, List.length_map, zcells]
    all_goals (repeat refine And.intro (by first | omega | (simp; done) | (simp_all; done) | (simp_all; omega)) ?_)
    all_goals try (
      refine callR (PSpec.R (quota_nil _) _) rfl ?_)
    all_goals try simp (maxSteps := 4000000) (disch := omega) only [push_cast, Nat.reduceLT, Nat.reduceEqDiff, Nat.reduceAdd, Nat.reduceMul, Nat.reduceSub, Nat.reduceLeDiff, Int.reduceToNat, Int.reduceLT, Int.reduceLE, Int.reduceAdd, Int.reduceSub, Int.reduceMul, Int.reduceNeg, Int.reduceEq, reduceCtorEq, Int.cast_ofNat_Int, Hp.get_set, opc, List.length_map, zcells]
    all_goals (repeat refine And.intro (by first | omega | (simp; done) | (simp_all; done) | (simp_all; omega)) ?_)
    all_goals
     refine Qk hK [2] ?_
     clear hK K
     refine Rt ?_
     refine hQ0 _ _ _ ?_
     try simp (maxSteps := 4000000) only [push_cast, Int.reduceToNat, Int.reduceLT, Int.reduceLE, Int.reduceAdd, Int.reduceSub, Int.reduceMul, Int.reduceNeg, Int.reduceEq, reduceCtorEq, Nat.reduceLeDiff, Nat.reduceLT, Nat.reduceEqDiff, Nat.reduceAdd, Nat.reduceMul, Nat.reduceSub, Int.cast_ofNat_Int, opc, List.length_map, zcells]
     first | done | rfl | (simp; done) | (simp_all; done) | (simp_all; omega)
  all_goals try (cases hc; done)
  all_goals try simp only [push_cast] at hc
  all_goals try (exfalso; omega)
  all_goals
   refine Sk ?_
   refine WS.seq ?_
   refine Bk fun K1 hK1 => ?_
   refine WS.seq ?_
   refine R0 fun K hK => ?_
   try simp (maxSteps := 4000000) (disch := omega) only [push_cast, Nat.reduceLT, Nat.reduceEqDiff, Nat.reduceAdd, Nat.reduceMul, Nat.reduceSub, Nat.reduceLeDiff, Int.reduceToNat, Int.reduceLT, Int.reduceLE, Int.reduceAdd, Int.reduceSub, Int.reduceMul, Int.reduceNeg, Int.reduceEq, reduceCtorEq, Int.cast_ofNat_Int, Hp.get_set, opc, List.length_map, zcells, six_get, six_len]
   (repeat refine And.intro (by first | omega | (simp; done) | (simp_all; done) | (simp_all; omega)) ?_)
   refine Qk hK [1, 3, 4, 9, 10, 59] ?_
   clear hK K
   refine CI rfl (fun hc => ?_) (fun hc => ?_)
   ·
    all_goals try (cases hc; done)
    all_goals try simp only [push_cast] at hc
    all_goals try (exfalso; omega)
    all_goals
     refine WS.seq ?_
     refine A1 [2] (by decide) ?_
     refine Rt ?_
     simp only [push_cast]
     refine hQ0 _ _ _ ?_
     try simp (maxSteps := 4000000) only [push_cast, Int.reduceToNat, Int.reduceLT, Int.reduceLE, Int.reduceAdd, Int.reduceSub, Int.reduceMul, Int.reduceNeg, Int.reduceEq, reduceCtorEq, Nat.reduceLeDiff, Nat.reduceLT, Nat.reduceEqDiff, Nat.reduceAdd, Nat.reduceMul, Nat.reduceSub, Int.cast_ofNat_Int, opc, List.length_map, zcells]
     first | done | rfl | (simp; done) | (simp_all; done) | (simp_all; omega)
   all_goals try (cases hc; done)
   all_goals try simp only [push_cast] at hc
   all_goals try (exfalso; omega)
   all_goals
    refine Sk ?_
    simp only [push_cast, WS, Nat.reduceEqDiff]
    refine hK1 _ _ ?_
    clear hK1
    try clear K1
    refine WS_keep [1, 3, 4, 9, 10] _ ?_
    refine R0 fun K hK => ?_
    try simp (maxSteps := 4000000) (disch := omega) only [push_cast, Nat.reduceLT, Nat.reduceEqDiff, Int.reduceToNat, Int.reduceLT, Int.reduceLE, Int.reduceAdd, Int.reduceSub, Int.reduceMul, Int.reduceNeg, Int.reduceEq, reduceCtorEq, Int.cast_ofNat_Int, Hp.get_set, opc, List.length_map, zcells]
    (repeat refine And.intro (by first | omega | (simp; done) | (simp_all; done) | (simp_all; omega)) ?_)
    refine Qk hK [1, 3, 4, 9, 10] ?_
    clear hK K
    refine Ag (hM0 _ _ ?_)
    refine ⟨_, ?_, i + 1,  rfl, ?_, ?_, ?_⟩
    · first | omega | (simp; done) | (simp_all; done) | (simp_all; omega)
    · (try simp (disch := omega) only [push_cast, Int.reduceToNat, Int.reduceLT, Int.reduceLE, Int.reduceAdd, Int.reduceSub, Int.reduceMul, Int.reduceNeg, Int.reduceEq, reduceCtorEq, Nat.reduceLeDiff, Nat.reduceLT, Nat.reduceEqDiff, Nat.reduceAdd, Nat.reduceMul, Nat.reduceSub, Int.cast_ofNat_Int, opc, List.length_map, zcells]) <;> (first | done | rfl | (simp; done) | (simp; omega) | omega | (simp_all; done) | (simp_all; omega))
    · first | rfl | (try simp (disch := omega) only [push_cast, Int.reduceToNat, Int.reduceLT, Int.reduceLE, Int.reduceAdd, Int.reduceSub, Int.reduceMul, Int.reduceNeg, Int.reduceEq, reduceCtorEq, Nat.reduceLeDiff, Nat.reduceLT, Nat.reduceEqDiff, Nat.reduceAdd, Nat.reduceMul, Nat.reduceSub, Int.cast_ofNat_Int, opc, List.length_map, zcells]) <;> (first | done | rfl | (simp; done) | (simp; omega) | omega | (simp_all; done) | (simp_all; omega))
    · first | omega | (simp; done) | (simp_all; done) | (simp_all; omega)
end Go.Vm.Try
