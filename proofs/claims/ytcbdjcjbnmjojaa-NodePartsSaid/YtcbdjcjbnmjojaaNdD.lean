/- Walks of functions of the program, and laws of what they compute. -/
import Derived.Test.YtcbdjcjbnmjojaaNdC
set_option linter.unusedSimpArgs false
set_option linter.unusedVariables false
set_option maxHeartbeats 4000000
set_option maxRecDepth 20000
namespace Go.Vm.Try
open Go.Proofs Go.Vm.Node
theorem put_first (n : Nat) (rest : List UInt8) : putL (List.replicate n [V.int .u8 0]).flatten 0 ((rest.map u8).take n) = (first n rest).map u8 := by
  have e0 : (List.replicate n [V.int .u8 0]).flatten = List.replicate n (V.int .u8 0) := by
    induction n with
    | zero => rfl
    | succ n ih => simp [List.replicate_succ, ih]
  rw [e0, putL_at (by simp; omega), first]
  simp [u8]
  omega
theorem sub_over {σ : Hp} {g r : Nat} {a b : Blk} (hg : σ.get g = none) (hn : r ≠ g) : HSub (σ.set r b) (((σ.set g a).set r b).del g) := fun i k x => by
  rw [Hp.get_del]
  by_cases e : i = g
  · subst e; rw [Hp.get_set_ne _ _ (Ne.symm hn), hg] at x; cases x
  · rw [if_neg e]
    by_cases e2 : i = r
    · subst e2; rw [Hp.get_set_same] at x ⊢; exact x
    · rw [Hp.get_set_ne _ _ e2] at x ⊢; rw [Hp.get_set_ne _ _ e]; exact x
theorem drop_min (rest : List UInt8) (n : Nat) : (List.take rest.length (rest.map u8)).drop (min rest.length n) = (rest.drop n).map u8 := by
  rw [List.take_of_length_le (by simp), List.map_drop]
  by_cases h : rest.length ≤ n
  · rw [Nat.min_eq_left h, List.drop_eq_nil_of_le (by simp), List.drop_eq_nil_of_le (by simp; exact h)]
  · rw [Nat.min_eq_right (by omega)]
theorem val_snoc (l : List UInt8) (b : UInt8) : val (l ++ [b]) = 256 * val l + b.toNat := by simp [val]
theorem number_step {v c : Nat} (hv : v < 16777216) (hc : c < 256) : IntKind.i64.wrap ((((IntKind.i64.wrap ((v : Int) * 2 ^ min 8 IntKind.i64.bits) % 2 ^ IntKind.i64.bits).toNat ||| (IntKind.i64.wrap (c : Int) % 2 ^ IntKind.i64.bits).toNat : Nat)) : Int) = ((256 * v + c : Nat) : Int) := by
  have e1 : (2 : Int) ^ min 8 IntKind.i64.bits = 256 := rfl
  have e2 : (2 : Int) ^ IntKind.i64.bits = 18446744073709551616 := rfl
  have e3 : IntKind.i64.wrap ((v : Int) * 256) = (v : Int) * 256 := i64w (by omega) (by omega)
  have e4 : IntKind.i64.wrap (c : Int) = c := i64w (by omega) (by omega)
  have e5 : (((v : Int) * 256) % 18446744073709551616).toNat = v <<< 8 := by rw [Nat.shiftLeft_eq]; omega
  have e6 : ((c : Int) % 18446744073709551616).toNat = c := by omega
  rw [e1, e2, e3, e4, e5, e6, ← Nat.shiftLeft_add_eq_or_of_lt (by omega : c < 2 ^ 8), Nat.shiftLeft_eq, i64w (by omega) (by omega)]
  omega
theorem val_step {l : List UInt8} {k : Nat} (h : k < l.length) : val (l.take (k + 1)) = 256 * val (l.take k) + (l.getD k 0).toNat := by
  rw [List.take_succ_eq_append_getElem h, val_snoc]; simp [h]
theorem zflat (n : Nat) : (List.replicate n [V.int .u8 0]).flatten.length = n := by simp
theorem one_take2 (l : List UInt8) (n : Nat) : ((l.map u8).take n).all V.one = true := List.all_eq_true.2 fun c hc => by
  obtain ⟨b, _, rfl⟩ := List.mem_map.1 (List.mem_of_mem_take hc)
  rfl
theorem val_ltA : ∀ (l : List UInt8) (a : Nat), l.foldl (fun a b => 256 * a + b.toNat) a < (a + 1) * 256 ^ l.length
  | [], a => by simp
  | b :: l, a => by
    have ih := val_ltA l (256 * a + b.toNat)
    have := b.toNat_lt
    rw [List.foldl_cons, List.length_cons, Nat.pow_succ]
    refine Nat.lt_of_lt_of_le ih ?_
    have e : (a + 1) * (256 ^ l.length * 256) = (256 * a + 256) * 256 ^ l.length := by rw [Nat.mul_comm (256 ^ l.length) 256, ← Nat.mul_assoc]; congr 1; omega
    rw [e]
    exact Nat.mul_le_mul_right _ (by omega)
theorem val_lt (l : List UInt8) : val l < 256 ^ l.length := by
  have := val_ltA l 0
  simpa [val] using this

theorem next_spec {σ : Hp} {r : Nat} (rest : List UInt8) (n : Nat) (hn : n ≤ 100000) (hl : rest.length ≤ 100000) (hr : σ.get r = some (.cells [.sl 1 (rest.map u8) .no])) : Spec Go.Proofs.Try.prog 63 [.ptr r 0, .int .i64 n] (σ) (fun v σ' => v = .sl 1 ((first n rest).map u8) .no ∧ σ' = σ.set r (.cells [.sl 1 ((rest.drop n).map u8) .no])) := by
 refine introS (n := 25) (rs := [.tmp 4]) (fn := Go.Proofs.Try.f63) (by first | exact Go.Proofs.Try.func63 | rfl) rfl (by kernel_rfl) rfl rfl (Nat.le_of_ble_eq_true rfl) (fun Q0 hQ0 => ?_)
 refine WS.seq ?_
 refine A1 [0, 1] (by decide) ?_
 refine WS.seq ?_
 refine R0 fun K hK => ?_
 try simp (maxSteps := 4000000) (disch := omega) only [push_cast, Nat.reduceLT, Nat.reduceEqDiff, Nat.reduceAdd, Nat.reduceMul, Nat.reduceSub, Nat.reduceLeDiff, Int.reduceToNat, Int.reduceLT, Int.reduceLE, Int.reduceAdd, Int.reduceSub, Int.reduceMul, Int.reduceNeg, Int.reduceEq, reduceCtorEq, Int.cast_ofNat_Int, Hp.get_set, Hp.set_set, Hp.get_set_same, List.length_map, put_first, zflat, one_take2, hr]
 (repeat refine And.intro (by first | omega | (simp; done) | (simp_all; done) | (simp_all; omega)) ?_)
 refine fun ga hga => ?_
 try simp only [Hp.set_none, Hp.join_none_iff] at hga
 have nhr_a := Hp.ne_get hr (by first | exact hga | exact hga.2.2 | exact hga.2.2.2.2 | exact hga.2.2.2.2.2.2 | simp_all)
 try simp (maxSteps := 4000000) (disch := omega) only [push_cast, Nat.reduceLT, Nat.reduceEqDiff, Nat.reduceAdd, Nat.reduceMul, Nat.reduceSub, Nat.reduceLeDiff, Int.reduceToNat, Int.reduceLT, Int.reduceLE, Int.reduceAdd, Int.reduceSub, Int.reduceMul, Int.reduceNeg, Int.reduceEq, reduceCtorEq, Int.cast_ofNat_Int, Hp.get_set, Hp.set_set, Hp.get_set_same, List.length_map, put_first, zflat, one_take2, hr, hga, nhr_a]
 (repeat refine And.intro (by first | omega | (simp; done) | (simp_all; done) | (simp_all; omega)) ?_)
 refine Qk hK [0, 5] ?_
 clear hK K
 refine WS.seq ?_
 refine R0 fun K hK => ?_
 try simp (maxSteps := 4000000) (disch := omega) only [push_cast, Nat.reduceLT, Nat.reduceEqDiff, Nat.reduceAdd, Nat.reduceMul, Nat.reduceSub, Nat.reduceLeDiff, Int.reduceToNat, Int.reduceLT, Int.reduceLE, Int.reduceAdd, Int.reduceSub, Int.reduceMul, Int.reduceNeg, Int.reduceEq, reduceCtorEq, Int.cast_ofNat_Int, Hp.get_set, Hp.set_set, Hp.get_set_same, List.length_map, put_first, zflat, one_take2, hr, hga, nhr_a]
 (repeat refine And.intro (by first | omega | (simp; done) | (simp_all; done) | (simp_all; omega)) ?_)
 try simp (maxSteps := 4000000) (disch := omega) only [push_cast, Nat.reduceLT, Nat.reduceEqDiff, Nat.reduceAdd, Nat.reduceMul, Nat.reduceSub, Nat.reduceLeDiff, Int.reduceToNat, Int.reduceLT, Int.reduceLE, Int.reduceAdd, Int.reduceSub, Int.reduceMul, Int.reduceNeg, Int.reduceEq, reduceCtorEq, Int.cast_ofNat_Int, Hp.get_set, Hp.set_set, Hp.get_set_same, List.length_map, put_first, zflat, one_take2, hr, hga, nhr_a]
 (repeat refine And.intro (by first | omega | (simp; done) | (simp_all; done) | (simp_all; omega)) ?_)
 refine Qk hK [0, 5, 6] ?_
 clear hK K
 refine WS.seq ?_
 refine R0 fun K hK => ?_
 try simp (maxSteps := 4000000) (disch := omega) only [push_cast, Nat.reduceLT, Nat.reduceEqDiff, Nat.reduceAdd, Nat.reduceMul, Nat.reduceSub, Nat.reduceLeDiff, Int.reduceToNat, Int.reduceLT, Int.reduceLE, Int.reduceAdd, Int.reduceSub, Int.reduceMul, Int.reduceNeg, Int.reduceEq, reduceCtorEq, Int.cast_ofNat_Int, Hp.get_set, Hp.set_set, Hp.get_set_same, List.length_map, put_first, zflat, one_take2, hr, hga, nhr_a]
 (repeat refine And.intro (by first | omega | (simp; done) | (simp_all; done) | (simp_all; omega)) ?_)
 refine Qk hK [5] ?_
 clear hK K
 refine WS.seq ?_
 refine R0 fun K hK => ?_
 try simp (maxSteps := 4000000) (disch := omega) only [push_cast, Nat.reduceLT, Nat.reduceEqDiff, Hp.get_set, Hp.set_set, Hp.get_set_same, List.length_map, put_first, zflat, one_take2, hr, hga, nhr_a]
 refine Qk hK [4] ?_
 clear hK K
 refine S_freezeS 4 rfl (by rw [Hp.get_set_ne _ _ (Ne.symm (of_eq_false nhr_a.1)), Hp.get_set_same]) (by rw [List.length_map, first_len]) ?_
 refine S_untag 4 rfl ?_
 refine Rt ?_
 refine hQ0 _ _ _ ?_
 try simp (maxSteps := 4000000) only [push_cast, Int.reduceToNat, Int.reduceLT, Int.reduceLE, Int.reduceAdd, Int.reduceSub, Int.reduceMul, Int.reduceNeg, Int.reduceEq, reduceCtorEq, Nat.reduceLeDiff, Nat.reduceLT, Nat.reduceEqDiff, Nat.reduceAdd, Nat.reduceMul, Nat.reduceSub, Int.cast_ofNat_Int, Hp.set_set, Hp.get_set_same, List.length_map, put_first, zflat, one_take2, hr, hga, nhr_a]
 rw [drop_min]
 exact ⟨_, sub_over hga (of_eq_false nhr_a.1), rfl⟩
theorem number_spec {σ : Hp} {r : Nat} (rest : List UInt8) (n : Nat) (hn : n ≤ 4) (hl : rest.length ≤ 100000) (hr : σ.get r = some (.cells [.sl 1 (rest.map u8) .no])) : Spec Go.Proofs.Try.prog 62 [.ptr r 0, .int .i64 n] (σ) (fun v σ' => v = .int .i64 (val (first n rest)) ∧ σ' = σ.set r (.cells [.sl 1 ((rest.drop n).map u8) .no])) := by
 refine introS (n := 23) (rs := [.tmp 4]) (fn := Go.Proofs.Try.f62) (by first | exact Go.Proofs.Try.func62 | rfl) rfl (by kernel_rfl) rfl rfl (Nat.le_of_ble_eq_true rfl) (fun Q0 hQ0 => ?_)
 refine WS.seq ?_
 refine A1 [0, 1] (by decide) ?_
 refine WS.seq ?_
 refine A1 [0, 1, 5] (by decide) ?_
 refine WS.seq (WS.seq ?_)
 refine R0 fun K hK => ?_
 try simp (maxSteps := 4000000) (disch := omega) only [push_cast, Nat.reduceLT, Nat.reduceEqDiff, Int.reduceToNat, Int.reduceLT, Int.reduceLE, Int.reduceAdd, Int.reduceSub, Int.reduceMul, Int.reduceNeg, Int.reduceEq, reduceCtorEq, Int.cast_ofNat_Int, Hp.get_set, Hp.set_set, Hp.get_set_same, List.length_map, getD_u8, first_len, hr]
 refine callS (next_spec rest n (by omega) hl hr) (fun v τ h => ?_)
 obtain ⟨rfl, rfl⟩ := h
 try simp (maxSteps := 4000000) (disch := omega) only [push_cast, Nat.reduceLT, Nat.reduceEqDiff, Int.reduceToNat, Int.reduceLT, Int.reduceLE, Int.reduceAdd, Int.reduceSub, Int.reduceMul, Int.reduceNeg, Int.reduceEq, reduceCtorEq, Int.cast_ofNat_Int, Hp.get_set, Hp.set_set, Hp.get_set_same, List.length_map, getD_u8, first_len, hr]
 refine Qk hK [5, 10, 11, 12] ?_
 clear hK K
 refine Bk fun K0 hK0 => ?_
 refine WS_keep [5, 10, 11, 12] _ ?_
 refine Lp (fun m env σ' => ∃ (k : Nat), m = n - k ∧ env = [(5, .int .i64 (val ((first n rest).take k))), (10, .sl 1 ((first n rest).map u8) .no), (11, .int .i64 n), (12, .int .i64 k)] ∧ σ' = σ.set r (.cells [.sl 1 ((rest.drop n).map u8) .no]) ∧ (k ≤ n)) ?_ ?_
 · refine ⟨_, 0,  rfl, ?_, ?_, ?_⟩
   · (try simp (disch := omega) only [push_cast, Int.reduceToNat, Int.reduceLT, Int.reduceLE, Int.reduceAdd, Int.reduceSub, Int.reduceMul, Int.reduceNeg, Int.reduceEq, reduceCtorEq, Nat.reduceLeDiff, Nat.reduceLT, Nat.reduceEqDiff, Nat.reduceAdd, Nat.reduceMul, Nat.reduceSub, Int.cast_ofNat_Int, Hp.set_set, Hp.get_set_same, List.length_map, getD_u8, first_len, hr]) <;> (first | done | rfl | (simp; done) | (simp; omega) | omega | (simp_all; done) | (simp_all; omega))
   · first | rfl | (try simp (disch := omega) only [push_cast, Int.reduceToNat, Int.reduceLT, Int.reduceLE, Int.reduceAdd, Int.reduceSub, Int.reduceMul, Int.reduceNeg, Int.reduceEq, reduceCtorEq, Nat.reduceLeDiff, Nat.reduceLT, Nat.reduceEqDiff, Nat.reduceAdd, Nat.reduceMul, Nat.reduceSub, Int.cast_ofNat_Int, Hp.set_set, Hp.get_set_same, List.length_map, getD_u8, first_len, hr]) <;> (first | done | rfl | (simp; done) | (simp; omega) | omega | (simp_all; done) | (simp_all; omega))
   · first | omega | (simp; done) | (simp_all; done) | (simp_all; omega)
 intro m env σ' hJ M0 hM0
 obtain ⟨k, rfl, rfl, rfl, hk⟩ := hJ
 have hfl := first_len n rest
 have hv := val_lt ((first n rest).take k)
 have hvt : ((first n rest).take k).length = k := by simp [hfl]; omega
 rw [hvt] at hv
 refine WS.seq ?_
 refine R0 fun K hK => ?_
 try simp (maxSteps := 4000000) (disch := omega) only [push_cast, Nat.reduceLT, Nat.reduceEqDiff, Int.reduceToNat, Int.reduceLT, Int.reduceLE, Int.reduceAdd, Int.reduceSub, Int.reduceMul, Int.reduceNeg, Int.reduceEq, reduceCtorEq, Int.cast_ofNat_Int, Hp.get_set, Hp.set_set, Hp.get_set_same, List.length_map, getD_u8, first_len, hr]
 refine Qk hK [5, 10, 11, 12, 13] ?_
 clear hK K
 refine WS.seq ?_
 refine CI rfl (fun hc => ?_) (fun hc => ?_)
 rotate_left
 ·
  all_goals try (cases hc; done)
  all_goals try simp only [push_cast] at hc
  all_goals try (exfalso; omega)
  all_goals
   refine Ex ?_
   simp only [push_cast, WS, Nat.reduceEqDiff]
   refine hK0 _ _ ?_
   clear hK0
   try clear K0
   refine WS_keep [5] _ ?_
   refine WS.seq ?_
   refine R0 fun K hK => ?_
   try simp (maxSteps := 4000000) (disch := omega) only [push_cast, Nat.reduceLT, Nat.reduceEqDiff, Hp.get_set, Hp.set_set, Hp.get_set_same, List.length_map, getD_u8, first_len, hr]
   refine Qk hK [4] ?_
   clear hK K
   refine Rt ?_
   refine hQ0 _ _ _ ?_
   try simp (maxSteps := 4000000) only [push_cast, Int.reduceToNat, Int.reduceLT, Int.reduceLE, Int.reduceAdd, Int.reduceSub, Int.reduceMul, Int.reduceNeg, Int.reduceEq, reduceCtorEq, Nat.reduceLeDiff, Nat.reduceLT, Nat.reduceEqDiff, Nat.reduceAdd, Nat.reduceMul, Nat.reduceSub, Int.cast_ofNat_Int, Hp.set_set, Hp.get_set_same, List.length_map, getD_u8, first_len, hr]
   obtain rfl : k = n := by omega
   rw [List.take_of_length_le (by omega)]
   exact ⟨_, HSub.refl _, rfl, rfl⟩
 all_goals try (cases hc; done)
 all_goals try simp only [push_cast] at hc
 all_goals try (exfalso; omega)
 all_goals
  have hkn : k < n := by omega
  have hk3 : k ≤ 3 := by omega
  have hv2 : val ((first n rest).take k) < 16777216 := Nat.lt_of_lt_of_le hv (Nat.pow_le_pow_right (by decide) hk3)
  have hns := number_step hv2 ((first n rest).getD k 0).toNat_lt
  have hvs := val_step (l := first n rest) (k := k) (by omega)
  refine Sk ?_
  refine WS.seq ?_
  refine Bk fun K1 hK1 => ?_
  refine WS.seq ?_
  refine R0 fun K hK => ?_
  try simp (maxSteps := 4000000) (disch := omega) only [push_cast, Nat.reduceLT, Nat.reduceEqDiff, Nat.reduceAdd, Nat.reduceMul, Nat.reduceSub, Nat.reduceLeDiff, Int.reduceToNat, Int.reduceLT, Int.reduceLE, Int.reduceAdd, Int.reduceSub, Int.reduceMul, Int.reduceNeg, Int.reduceEq, reduceCtorEq, Int.cast_ofNat_Int, Hp.get_set, Hp.set_set, Hp.get_set_same, List.length_map, getD_u8, first_len, hr, hns]
  (repeat refine And.intro (by first | omega | (simp; done) | (simp_all; done) | (simp_all; omega)) ?_)
  refine Qk hK [5, 7, 10, 11, 12] ?_
  clear hK K
  refine R0 fun K hK => ?_
  try simp (maxSteps := 4000000) (disch := omega) only [push_cast, Nat.reduceLT, Nat.reduceEqDiff, Int.reduceToNat, Int.reduceLT, Int.reduceLE, Int.reduceAdd, Int.reduceSub, Int.reduceMul, Int.reduceNeg, Int.reduceEq, reduceCtorEq, Int.cast_ofNat_Int, Hp.get_set, Hp.set_set, Hp.get_set_same, List.length_map, getD_u8, first_len, hr, hns]
  (repeat refine And.intro (by first | omega | (simp; done) | (simp_all; done) | (simp_all; omega)) ?_)
  refine Qk hK [5, 10, 11, 12] ?_
  clear hK K
  simp only [push_cast, WS, Nat.reduceEqDiff]
  refine hK1 _ _ ?_
  clear hK1
  try clear K1
  refine WS_keep [5, 10, 11, 12] _ ?_
  refine R0 fun K hK => ?_
  try simp (maxSteps := 4000000) (disch := omega) only [push_cast, Nat.reduceLT, Nat.reduceEqDiff, Int.reduceToNat, Int.reduceLT, Int.reduceLE, Int.reduceAdd, Int.reduceSub, Int.reduceMul, Int.reduceNeg, Int.reduceEq, reduceCtorEq, Int.cast_ofNat_Int, Hp.get_set, Hp.set_set, Hp.get_set_same, List.length_map, getD_u8, first_len, hr, hns]
  (repeat refine And.intro (by first | omega | (simp; done) | (simp_all; done) | (simp_all; omega)) ?_)
  refine Qk hK [5, 10, 11, 12] ?_
  clear hK K
  refine Ag (hM0 _ _ ?_)
  refine ⟨_, ?_, k + 1,  rfl, ?_, ?_, ?_⟩
  · first | omega | (simp; done) | (simp_all; done) | (simp_all; omega)
  · (try simp (disch := omega) only [push_cast, Int.reduceToNat, Int.reduceLT, Int.reduceLE, Int.reduceAdd, Int.reduceSub, Int.reduceMul, Int.reduceNeg, Int.reduceEq, reduceCtorEq, Nat.reduceLeDiff, Nat.reduceLT, Nat.reduceEqDiff, Nat.reduceAdd, Nat.reduceMul, Nat.reduceSub, Int.cast_ofNat_Int, Hp.set_set, Hp.get_set_same, List.length_map, getD_u8, first_len, hr, hns]) <;> (first | done | rfl | (simp; done) | (simp; omega) | omega | (simp_all; done) | (simp_all; omega))
  · first | rfl | (try simp (disch := omega) only [push_cast, Int.reduceToNat, Int.reduceLT, Int.reduceLE, Int.reduceAdd, Int.reduceSub, Int.reduceMul, Int.reduceNeg, Int.reduceEq, reduceCtorEq, Nat.reduceLeDiff, Nat.reduceLT, Nat.reduceEqDiff, Nat.reduceAdd, Nat.reduceMul, Nat.reduceSub, Int.cast_ofNat_Int, Hp.set_set, Hp.get_set_same, List.length_map, getD_u8, first_len, hr, hns]) <;> (first | done | rfl | (simp; done) | (simp; omega) | omega | (simp_all; done) | (simp_all; omega))
  · first | omega | (simp; done) | (simp_all; done) | (simp_all; omega)
end Go.Vm.Try
