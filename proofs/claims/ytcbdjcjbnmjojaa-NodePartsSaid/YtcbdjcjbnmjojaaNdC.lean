/- Walks of functions of the program, and laws of what they compute. -/
import Derived.Test.YtcbdjcjbnmjojaaNdB
set_option linter.unusedSimpArgs false
set_option linter.unusedVariables false
set_option maxHeartbeats 4000000
set_option maxRecDepth 20000
namespace Go.Vm.Try
open Go.Proofs Go.Vm.Node
theorem wide_byte {v : Int} (hv : 0 ≤ v ∧ v < 18446744073709551616) {s k : Nat} (hk : k < s) (hs : s ≤ 8) : V.int .u8 (IntKind.u8.wrap (v.fdiv (2 ^ min (8 * ((s : Int) - 1 - k)).toNat IntKind.u64.bits))) = u8 (b8 v (s - 1 - k)) := by
  have h1 : (8 * ((s : Int) - 1 - k)).toNat = 8 * (s - 1 - k) := by omega
  have h2 : min (8 * (s - 1 - k)) IntKind.u64.bits = 8 * (s - 1 - k) := Nat.min_eq_left (by show _ ≤ 64; omega)
  have h3 : ((256 ^ (s - 1 - k) : Nat) : Int) = 2 ^ (8 * (s - 1 - k)) := by
    rw [Int.pow_mul]; simp
  rw [h1, h2, u8, b8_nat, h3, Int.fdiv_eq_ediv_of_nonneg _ (by exact Int.le_of_lt (Int.pow_pos (by decide)))]
  congr 1
theorem beW_step {v : Int} {s k : Nat} (hk : k < s) : (beW s v).take (k + 1) = (beW s v).take k ++ [b8 v (s - 1 - k)] := by
  rw [List.take_succ_eq_append_getElem (by rw [beW_len]; exact hk)]
  simp [beW]

theorem Size_spec (n : Nd) (hn : Sm n) : PSpec Go.Proofs.Try.prog 20 [encN n] (.int .i64 (if right n = true then sizeN n else 0)) := by
 refine introP (n := 8) (rs := [.tmp 2]) (fn := Go.Proofs.Try.f20) (by first | exact Go.Proofs.Try.func20 | rfl) rfl (by kernel_rfl) rfl rfl (Nat.le_of_ble_eq_true rfl) (fun Q0 hQ0 => ?_)
 refine WS.seq ?_
 refine R0 fun K hK => ?_
 try simp (maxSteps := 4000000) (disch := omega) only [push_cast, Nat.reduceLT, Nat.reduceEqDiff, Hp.get_set, encN]
 (repeat refine And.intro (by first | omega | (simp; done) | (simp_all; done) | (simp_all; omega)) ?_)
 refine fun g0_0 hg0_0 => ?_
 try simp only [Hp.set_none, Hp.join_none_iff] at hg0_0
 try simp (maxSteps := 4000000) (disch := omega) only [push_cast, Nat.reduceLT, Nat.reduceEqDiff, Hp.get_set, encN, hg0_0]
 (repeat refine And.intro (by first | omega | (simp; done) | (simp_all; done) | (simp_all; omega)) ?_)
 refine Qk hK [1] ?_
 clear hK K
 refine S_frz 1 rfl rfl ?_
 refine WS.seq (WS.seq ?_)
 refine R0 fun K hK => ?_
 try simp (maxSteps := 4000000) (disch := omega) only [push_cast, Nat.reduceLT, Nat.reduceEqDiff, Nat.reduceAdd, Nat.reduceMul, Nat.reduceSub, Nat.reduceLeDiff, Int.reduceToNat, Int.reduceLT, Int.reduceLE, Int.reduceAdd, Int.reduceSub, Int.reduceMul, Int.reduceNeg, Int.reduceEq, reduceCtorEq, Int.cast_ofNat_Int, Hp.get_set, encN, hg0_0]
 (repeat refine And.intro (by first | omega | (simp; done) | (simp_all; done) | (simp_all; omega)) ?_)
 refine callP (right_spec n hn) rfl ?_
 try simp (maxSteps := 4000000) (disch := omega) only [push_cast, Nat.reduceLT, Nat.reduceEqDiff, Nat.reduceAdd, Nat.reduceMul, Nat.reduceSub, Nat.reduceLeDiff, Int.reduceToNat, Int.reduceLT, Int.reduceLE, Int.reduceAdd, Int.reduceSub, Int.reduceMul, Int.reduceNeg, Int.reduceEq, reduceCtorEq, Int.cast_ofNat_Int, Hp.get_set, encN, hg0_0]
 (repeat refine And.intro (by first | omega | (simp; done) | (simp_all; done) | (simp_all; omega)) ?_)
 refine Qk hK [1, 5] ?_
 clear hK K
 refine CI rfl (fun hc => ?_) (fun hc => ?_)
 ·
  all_goals try (cases hc; done)
  all_goals try simp only [push_cast] at hc
  all_goals try (exfalso; omega)
  all_goals
   refine WS.seq ?_
   refine A1 [2] (by decide) ?_
   refine Rt ?_
   refine hQ0 _ _ _ ?_
   try simp (maxSteps := 4000000) only [push_cast, Int.reduceToNat, Int.reduceLT, Int.reduceLE, Int.reduceAdd, Int.reduceSub, Int.reduceMul, Int.reduceNeg, Int.reduceEq, reduceCtorEq, Nat.reduceLeDiff, Nat.reduceLT, Nat.reduceEqDiff, Nat.reduceAdd, Nat.reduceMul, Nat.reduceSub, Int.cast_ofNat_Int, encN, hg0_0]
   first | done | rfl | (simp; done) | (simp_all; done) | (simp_all; omega)
 all_goals try (cases hc; done)
 all_goals try simp only [push_cast] at hc
 all_goals try (exfalso; omega)
 all_goals
  refine Sk ?_
  refine WS.seq ?_
  refine R0 fun K hK => ?_
  try simp (maxSteps := 4000000) (disch := omega) only [push_cast, Nat.reduceLT, Nat.reduceEqDiff, Nat.reduceAdd, Nat.reduceMul, Nat.reduceSub, Nat.reduceLeDiff, Hp.get_set, encN, hg0_0]
  (repeat refine And.intro (by first | omega | (simp; done) | (simp_all; done) | (simp_all; omega)) ?_)
  refine callP (size_spec n hc hn) rfl ?_
  try simp (maxSteps := 4000000) (disch := omega) only [push_cast, Nat.reduceLT, Nat.reduceEqDiff, Nat.reduceAdd, Nat.reduceMul, Nat.reduceSub, Nat.reduceLeDiff, Hp.get_set, encN, hg0_0]
  (repeat refine And.intro (by first | omega | (simp; done) | (simp_all; done) | (simp_all; omega)) ?_)
  refine Qk hK [2] ?_
  clear hK K
  refine Rt ?_
  refine hQ0 _ _ _ ?_
  try simp (maxSteps := 4000000) only [push_cast, Int.reduceToNat, Int.reduceLT, Int.reduceLE, Int.reduceAdd, Int.reduceSub, Int.reduceMul, Int.reduceNeg, Int.reduceEq, reduceCtorEq, Nat.reduceLeDiff, Nat.reduceLT, Nat.reduceEqDiff, Nat.reduceAdd, Nat.reduceMul, Nat.reduceSub, Int.cast_ofNat_Int, encN, hg0_0]
  first | done | rfl | (simp; done) | (simp_all; done) | (simp_all; omega)
theorem wide_spec {σ : Hp} {g : Nat} (b : List UInt8) (s : Nat) (v : Int) (hs : s ≤ 8) (hv : 0 ≤ v ∧ v < 18446744073709551616) (hl : b.length ≤ 1000000) (hg : σ.get g = some (.tok 1 b.length)) : Spec Go.Proofs.Try.prog 53 [.sl 1 (b.map u8) (.tk g), .int .i64 s, .int .u64 v] (σ) (fun r σ' => r = .sl 1 ((b ++ beW s v).map u8) (.tk g) ∧ σ' = σ.set g (.tok 1 (b.length + s))) := by
 refine introS (n := 25) (rs := [.tmp 6]) (fn := Go.Proofs.Try.f53) (by first | exact Go.Proofs.Try.func53 | rfl) rfl (by kernel_rfl) rfl rfl (Nat.le_of_ble_eq_true rfl) (fun Q0 hQ0 => ?_)
 refine WS.seq ?_
 refine A1 [0, 1, 2] (by decide) ?_
 refine WS.seq (WS.seq ?_)
 refine R0 fun K hK => ?_
 try simp (maxSteps := 4000000) (disch := omega) only [push_cast, Nat.reduceLT, Nat.reduceEqDiff, Hp.get_set, Hp.set_set, Hp.get_set_same, List.length_map, u8, hg]
 refine Qk hK [0, 1, 2, 8, 9] ?_
 clear hK K
 refine Bk fun K0 hK0 => ?_
 refine WS_keep [0, 1, 2, 8, 9] _ ?_
 refine Lp (fun m env σ' => ∃ (k : Nat), m = s - k ∧ env = [(0, .sl 1 ((b ++ (beW s v).take k).map u8) (.tk g)), (1, .int .i64 s), (2, .int .u64 v), (8, .int .i64 s), (9, .int .i64 k)] ∧ σ' = σ.set g (.tok 1 (b.length + k)) ∧ (k ≤ s)) ?_ ?_
 · refine ⟨_, 0,  rfl, ?_, ?_, ?_⟩
   · (try simp (disch := omega) only [push_cast, Int.reduceToNat, Int.reduceLT, Int.reduceLE, Int.reduceAdd, Int.reduceSub, Int.reduceMul, Int.reduceNeg, Int.reduceEq, reduceCtorEq, Nat.reduceLeDiff, Nat.reduceLT, Nat.reduceEqDiff, Nat.reduceAdd, Nat.reduceMul, Nat.reduceSub, Int.cast_ofNat_Int, Hp.set_set, Hp.get_set_same, List.length_map, u8, hg]) <;> (first | done | rfl | exact (Hp.set_same hg).symm | (simp [beW_step hks, u8]; done) | (rw [htl]; done) | (simp; done) | (simp; omega) | omega | (simp_all; done) | (simp_all; omega))
   · first | rfl | (try simp (disch := omega) only [push_cast, Int.reduceToNat, Int.reduceLT, Int.reduceLE, Int.reduceAdd, Int.reduceSub, Int.reduceMul, Int.reduceNeg, Int.reduceEq, reduceCtorEq, Nat.reduceLeDiff, Nat.reduceLT, Nat.reduceEqDiff, Nat.reduceAdd, Nat.reduceMul, Nat.reduceSub, Int.cast_ofNat_Int, Hp.set_set, Hp.get_set_same, List.length_map, u8, hg]) <;> (first | done | rfl | exact (Hp.set_same hg).symm | (simp [beW_step hks, u8]; done) | (rw [htl]; done) | (simp; done) | (simp; omega) | omega | (simp_all; done) | (simp_all; omega))
   · first | omega | (simp; done) | (simp_all; done) | (simp_all; omega)
 intro m env σ' hJ M0 hM0
 obtain ⟨k, rfl, rfl, rfl, hk⟩ := hJ
 have hbl := beW_len s v
 have htl : (b ++ (beW s v).take k).length = b.length + k := by simp [hbl]; omega
 have hroom : room (b ++ (beW s v).take k).length 1 1 := by unfold room; omega
 refine WS.seq ?_
 refine R0 fun K hK => ?_
 try simp (maxSteps := 4000000) (disch := omega) only [push_cast, Nat.reduceLT, Nat.reduceEqDiff, Int.reduceToNat, Int.reduceLT, Int.reduceLE, Int.reduceAdd, Int.reduceSub, Int.reduceMul, Int.reduceNeg, Int.reduceEq, reduceCtorEq, Int.cast_ofNat_Int, Hp.get_set, Hp.set_set, Hp.get_set_same, List.length_map, u8, hg]
 refine Qk hK [0, 1, 2, 8, 9, 10] ?_
 clear hK K
 refine WS.seq ?_
 refine CI rfl (fun hc => ?_) (fun hc => ?_)
 rotate_left
 ·
  all_goals try (cases hc; done)
  all_goals try simp only [push_cast] at hc
  all_goals try (exfalso; omega)
  all_goals
   refine Ex ?_
   simp only [push_cast, WS, Nat.reduceEqDiff]
   refine hK0 _ _ ?_
   clear hK0
   try clear K0
   refine WS_keep [0] _ ?_
   refine WS.seq ?_
   refine R0 fun K hK => ?_
   try simp (maxSteps := 4000000) (disch := omega) only [push_cast, Nat.reduceLT, Nat.reduceEqDiff, Hp.get_set, Hp.set_set, Hp.get_set_same, List.length_map, u8, hg]
   refine Qk hK [6] ?_
   clear hK K
   refine Rt ?_
   refine hQ0 _ _ _ ?_
   try simp (maxSteps := 4000000) only [push_cast, Int.reduceToNat, Int.reduceLT, Int.reduceLE, Int.reduceAdd, Int.reduceSub, Int.reduceMul, Int.reduceNeg, Int.reduceEq, reduceCtorEq, Nat.reduceLeDiff, Nat.reduceLT, Nat.reduceEqDiff, Nat.reduceAdd, Nat.reduceMul, Nat.reduceSub, Int.cast_ofNat_Int, Hp.set_set, Hp.get_set_same, List.length_map, u8, hg]
   obtain rfl : k = s := by omega
   exact ⟨_, HSub.refl _, by rw [List.take_of_length_le (by omega)], rfl⟩
 all_goals try (cases hc; done)
 all_goals try simp only [push_cast] at hc
 all_goals try (exfalso; omega)
 all_goals
  have hks : k < s := by omega
  have hwb := wide_byte hv hks hs
  refine Sk ?_
  refine WS.seq ?_
  refine Bk fun K1 hK1 => ?_
  refine WS.seq ?_
  refine R0 fun K hK => ?_
  try simp (maxSteps := 4000000) (disch := omega) only [push_cast, Nat.reduceLT, Nat.reduceEqDiff, Hp.get_set, Hp.set_set, Hp.get_set_same, List.length_map, u8, hg, hwb]
  refine Qk hK [0, 1, 2, 7, 8, 9] ?_
  clear hK K
  refine R0 fun K hK => ?_
  try simp (maxSteps := 4000000) (disch := omega) only [push_cast, Nat.reduceLT, Nat.reduceEqDiff, Nat.reduceAdd, Nat.reduceMul, Nat.reduceSub, Nat.reduceLeDiff, Int.reduceToNat, Int.reduceLT, Int.reduceLE, Int.reduceAdd, Int.reduceSub, Int.reduceMul, Int.reduceNeg, Int.reduceEq, reduceCtorEq, Int.cast_ofNat_Int, Hp.get_set, Hp.set_set, Hp.get_set_same, List.length_map, u8, hg, hwb]
  (repeat refine And.intro (by first | omega | (simp; done) | (simp_all; done) | (simp_all; omega)) ?_)
  try simp (maxSteps := 4000000) (disch := omega) only [push_cast, Nat.reduceLT, Nat.reduceEqDiff, Nat.reduceAdd, Nat.reduceMul, Nat.reduceSub, Nat.reduceLeDiff, Int.reduceToNat, Int.reduceLT, Int.reduceLE, Int.reduceAdd, Int.reduceSub, Int.reduceMul, Int.reduceNeg, Int.reduceEq, reduceCtorEq, Int.cast_ofNat_Int, Hp.get_set, Hp.set_set, Hp.get_set_same, List.length_map, u8, hg, hwb]
  (repeat refine And.intro (by first | omega | (simp; done) | (simp_all; done) | (simp_all; omega)) ?_)
  try simp (maxSteps := 4000000) (disch := omega) only [push_cast, Nat.reduceLT, Nat.reduceEqDiff, Nat.reduceAdd, Nat.reduceMul, Nat.reduceSub, Nat.reduceLeDiff, Int.reduceToNat, Int.reduceLT, Int.reduceLE, Int.reduceAdd, Int.reduceSub, Int.reduceMul, Int.reduceNeg, Int.reduceEq, reduceCtorEq, Int.cast_ofNat_Int, Hp.get_set, Hp.set_set, Hp.get_set_same, List.length_map, u8, hg, hwb]
  (repeat refine And.intro (by first | omega | (simp; done) | (simp_all; done) | (simp_all; omega)) ?_)
  try simp (maxSteps := 4000000) (disch := omega) only [push_cast, Nat.reduceLT, Nat.reduceEqDiff, Nat.reduceAdd, Nat.reduceMul, Nat.reduceSub, Nat.reduceLeDiff, Int.reduceToNat, Int.reduceLT, Int.reduceLE, Int.reduceAdd, Int.reduceSub, Int.reduceMul, Int.reduceNeg, Int.reduceEq, reduceCtorEq, Int.cast_ofNat_Int, Hp.get_set, Hp.set_set, Hp.get_set_same, List.length_map, u8, hg, hwb]
  (repeat refine And.intro (by first | omega | (simp; done) | (simp_all; done) | (simp_all; omega)) ?_)
  refine Qk hK [0, 1, 2, 8, 9] ?_
  clear hK K
  simp only [push_cast, WS, Nat.reduceEqDiff]
  refine hK1 _ _ ?_
  clear hK1
  try clear K1
  refine WS_keep [0, 1, 2, 8, 9] _ ?_
  refine R0 fun K hK => ?_
  try simp (maxSteps := 4000000) (disch := omega) only [push_cast, Nat.reduceLT, Nat.reduceEqDiff, Int.reduceToNat, Int.reduceLT, Int.reduceLE, Int.reduceAdd, Int.reduceSub, Int.reduceMul, Int.reduceNeg, Int.reduceEq, reduceCtorEq, Int.cast_ofNat_Int, Hp.get_set, Hp.set_set, Hp.get_set_same, List.length_map, u8, hg, hwb]
  (repeat refine And.intro (by first | omega | (simp; done) | (simp_all; done) | (simp_all; omega)) ?_)
  refine Qk hK [0, 1, 2, 8, 9] ?_
  clear hK K
  refine Ag (hM0 _ _ ?_)
  refine ⟨_, ?_, k + 1,  rfl, ?_, ?_, ?_⟩
  · first | omega | (simp; done) | (simp_all; done) | (simp_all; omega)
  · (try simp (disch := omega) only [push_cast, Int.reduceToNat, Int.reduceLT, Int.reduceLE, Int.reduceAdd, Int.reduceSub, Int.reduceMul, Int.reduceNeg, Int.reduceEq, reduceCtorEq, Nat.reduceLeDiff, Nat.reduceLT, Nat.reduceEqDiff, Nat.reduceAdd, Nat.reduceMul, Nat.reduceSub, Int.cast_ofNat_Int, Hp.set_set, Hp.get_set_same, List.length_map, u8, hg, hwb]) <;> (first | done | rfl | exact (Hp.set_same hg).symm | (simp [beW_step hks, u8]; done) | (rw [htl]; done) | (simp; done) | (simp; omega) | omega | (simp_all; done) | (simp_all; omega))
  · first | rfl | (try simp (disch := omega) only [push_cast, Int.reduceToNat, Int.reduceLT, Int.reduceLE, Int.reduceAdd, Int.reduceSub, Int.reduceMul, Int.reduceNeg, Int.reduceEq, reduceCtorEq, Nat.reduceLeDiff, Nat.reduceLT, Nat.reduceEqDiff, Nat.reduceAdd, Nat.reduceMul, Nat.reduceSub, Int.cast_ofNat_Int, Hp.set_set, Hp.get_set_same, List.length_map, u8, hg, hwb]) <;> (first | done | rfl | exact (Hp.set_same hg).symm | (simp [beW_step hks, u8]; done) | (rw [htl]; done) | (simp; done) | (simp; omega) | omega | (simp_all; done) | (simp_all; omega))
  · first | omega | (simp; done) | (simp_all; done) | (simp_all; omega)
theorem wide_nil (s : Nat) (v : Int) (hs : s ≤ 8) (hv : 0 ≤ v ∧ v < 18446744073709551616) : PSpec Go.Proofs.Try.prog 53 [.sl 0 [] .full, .int .i64 s, .int .u64 v] (.sl 1 ((beW s v).map u8) .no) :=
  Spec.pure (Spec.tok 1 (Post := fun _ v' _ => v' = .sl 1 ((beW s v).map u8) .no) (fun g hg => (wide_spec (g := g) [] s v hs hv (by simp) (Hp.get_set_same _ _ _)).wkR (Wk.untag _ _ _)) (fun _ _ _ h => h) (by kernel_rfl))

theorem page_spec (p : Int) (h : 0 ≤ p ∧ p < 4294967296) : PSpec Go.Proofs.Try.prog 54 [.int .i64 p] (.sl 1 ((beW 4 p).map u8) .no) := by
 refine introP (n := 6) (rs := [.tmp 2]) (fn := Go.Proofs.Try.f54) (by first | exact Go.Proofs.Try.func54 | rfl) rfl (by kernel_rfl) rfl rfl (Nat.le_of_ble_eq_true rfl) (fun Q0 hQ0 => ?_)
 refine WS.seq ?_
 refine A1 [0] (by decide) ?_
 refine WS.seq ?_
 refine R0 fun K hK => ?_
 try simp (maxSteps := 4000000) (disch := omega) only [push_cast, Nat.reduceLT, Nat.reduceEqDiff, Nat.reduceAdd, Nat.reduceMul, Nat.reduceSub, Nat.reduceLeDiff, Int.reduceToNat, Int.reduceLT, Int.reduceLE, Int.reduceAdd, Int.reduceSub, Int.reduceMul, Int.reduceNeg, Int.reduceEq, reduceCtorEq, Int.cast_ofNat_Int, Hp.get_set, u64w]
 (repeat refine And.intro (by first | omega | (simp; done) | (simp_all; done) | (simp_all; omega)) ?_)
 refine callP (wide_nil 4 p (by omega) (by omega)) rfl ?_
 try simp (maxSteps := 4000000) (disch := omega) only [push_cast, Nat.reduceLT, Nat.reduceEqDiff, Nat.reduceAdd, Nat.reduceMul, Nat.reduceSub, Nat.reduceLeDiff, Int.reduceToNat, Int.reduceLT, Int.reduceLE, Int.reduceAdd, Int.reduceSub, Int.reduceMul, Int.reduceNeg, Int.reduceEq, reduceCtorEq, Int.cast_ofNat_Int, Hp.get_set, u64w]
 (repeat refine And.intro (by first | omega | (simp; done) | (simp_all; done) | (simp_all; omega)) ?_)
 refine Qk hK [2] ?_
 clear hK K
 refine Rt ?_
 refine hQ0 _ _ _ ?_
 try simp (maxSteps := 4000000) only [push_cast, Int.reduceToNat, Int.reduceLT, Int.reduceLE, Int.reduceAdd, Int.reduceSub, Int.reduceMul, Int.reduceNeg, Int.reduceEq, reduceCtorEq, Nat.reduceLeDiff, Nat.reduceLT, Nat.reduceEqDiff, Nat.reduceAdd, Nat.reduceMul, Nat.reduceSub, Int.cast_ofNat_Int, u64w]
 first | done | rfl | (simp; done) | (simp_all; done) | (simp_all; omega)
theorem hd_len (n : Nd) : (hd (toR n)).length = if n.leaf then 3 else 7 := by
  unfold hd toR
  cases n.leaf <;> simp [beW_len]
theorem page_eq (n : Nd) : page (toR n) = hd (toR n) ++ bTo n n.keys.length ++ List.replicate (512 - sizeN n) 0 := by
  rw [bTo_all]; rfl
theorem writeN_no {n : Nd} (h : right n = false) : writeN n = ([], 3) := by simp [writeN, h]
theorem writeN_long {n : Nd} (h : right n = true) (h2 : 512 < sizeN n) : writeN n = ([], 2) := by
  rw [writeN, if_pos h, if_neg (show ¬ (bytesR (toR n)).length ≤ 512 from Nat.not_le_of_lt h2)]
theorem writeN_ok {n : Nd} (h : right n = true) (h2 : sizeN n ≤ 512) : writeN n = (page (toR n), 0) := by
  rw [writeN, if_pos h, if_pos (show (bytesR (toR n)).length ≤ 512 from h2)]
theorem bTo_mono {n : Nd} {k : Nat} (h : k ≤ n.keys.length) : (bTo n k).length ≤ (bTo n n.keys.length).length := by
  have e : parts n = (parts n).take k ++ (parts n).drop k := (List.take_append_drop k _).symm
  rw [bTo_all]
  conv => rhs; rw [e]
  unfold bTo body
  rw [List.flatMap_append, List.length_append]
  omega
theorem out_inner {n : Nd} {k : Nat} (hl : n.leaf = false) (hk : k < n.keys.length) : hd (toR n) ++ bTo n (k + 1) = hd (toR n) ++ bTo n k ++ [UInt8.ofNat (n.keys.getD k []).length] ++ n.keys.getD k [] ++ beW 4 (n.kids.getD (k + 1) 0) := by
  rw [bTo_succ hk]
  simp only [pb, ptAt, hl, Bool.false_eq_true, if_false, false_and, List.nil_append, List.append_assoc, List.singleton_append, List.cons_append]
theorem out_leaf {n : Nd} {k : Nat} (hl : n.leaf = true) (hk : k < n.keys.length) : hd (toR n) ++ bTo n (k + 1) = hd (toR n) ++ bTo n k ++ [UInt8.ofNat (n.keys.getD k []).length] ++ beW 2 (n.cells.getD k default).len ++ n.keys.getD k [] ++ (if (n.cells.getD k default).len ≤ 120 then (n.cells.getD k default).data else beW 4 (n.cells.getD k default).page) := by
  rw [bTo_succ hk]
  simp only [pb, ptAt, hl, if_true, true_and, List.append_assoc, List.singleton_append, List.cons_append, List.nil_append]
theorem key_byte (l : List UInt8) {k : Nat} (h : k ≤ 100) : l.map u8 ++ [V.int .u8 k] = (l ++ [UInt8.ofNat k]).map u8 := by
  have : (UInt8.ofNat k).toNat = k := by rw [UInt8.toNat_ofNat']; omega
  simp [u8, this]

theorem write_spec (n : Nd) (hn : Sm n) : PSpec Go.Proofs.Try.prog 16 [encN n] (.tup [.sl 1 ((writeN n).1.map u8) .no, .int .i64 (writeN n).2]) := by
 refine introP (n := 96) (rs := [.tmp 2, .tmp 3]) (fn := Go.Proofs.Try.f16) (by first | exact Go.Proofs.Try.func16 | rfl) rfl (by kernel_rfl) rfl rfl (Nat.le_of_ble_eq_true rfl) (fun Q0 hQ0 => ?_)
 obtain ⟨hn1, hn2, hn3⟩ := id hn
 refine WS.seq ?_
 refine R0 fun K hK => ?_
 try simp (maxSteps := 4000000) (disch := omega) only [push_cast, Nat.reduceLT, Nat.reduceEqDiff, Nat.reduceAdd, Nat.reduceMul, Nat.reduceSub, Nat.reduceLeDiff, Int.reduceToNat, Int.reduceLT, Int.reduceLE, Int.reduceAdd, Int.reduceSub, Int.reduceMul, Int.reduceNeg, Int.reduceEq, reduceCtorEq, Int.cast_ofNat_Int, Hp.get_set, all_anyC, all_anyP, key_get, cell_get, kid_get, encC, List.length_map, encN, Hp.set_set, Hp.get_set_same, List.length_map, u64w, u8w, i64w]
 (repeat refine And.intro (by first | (unfold Go.Vm.room; and_intros <;> (try simp only [List.length_map, List.length_append, List.length_cons, List.length_nil, List.length_replicate, beW_len]) <;> omega) | omega | (simp; done) | (simp_all; done) | (simp_all; omega)) ?_)
 refine fun g0_0 hg0_0 => ?_
 try simp only [Hp.set_none, Hp.join_none_iff] at hg0_0
 try simp (maxSteps := 4000000) (disch := omega) only [push_cast, Nat.reduceLT, Nat.reduceEqDiff, Nat.reduceAdd, Nat.reduceMul, Nat.reduceSub, Nat.reduceLeDiff, Int.reduceToNat, Int.reduceLT, Int.reduceLE, Int.reduceAdd, Int.reduceSub, Int.reduceMul, Int.reduceNeg, Int.reduceEq, reduceCtorEq, Int.cast_ofNat_Int, Hp.get_set, all_anyC, all_anyP, key_get, cell_get, kid_get, encC, List.length_map, encN, Hp.set_set, Hp.get_set_same, List.length_map, u64w, u8w, i64w, hg0_0]
 (repeat refine And.intro (by first | (unfold Go.Vm.room; and_intros <;> (try simp only [List.length_map, List.length_append, List.length_cons, List.length_nil, List.length_replicate, beW_len]) <;> omega) | omega | (simp; done) | (simp_all; done) | (simp_all; omega)) ?_)
 refine Qk hK [1] ?_
 clear hK K
 refine S_frz 1 rfl rfl ?_
 refine WS.seq ?_
 refine Bk fun K0 hK0 => ?_
 refine WS.seq ?_
 refine R0 fun K hK => ?_
 try simp (maxSteps := 4000000) (disch := omega) only [push_cast, Nat.reduceLT, Nat.reduceEqDiff, Nat.reduceAdd, Nat.reduceMul, Nat.reduceSub, Nat.reduceLeDiff, Int.reduceToNat, Int.reduceLT, Int.reduceLE, Int.reduceAdd, Int.reduceSub, Int.reduceMul, Int.reduceNeg, Int.reduceEq, reduceCtorEq, Int.cast_ofNat_Int, Hp.get_set, all_anyC, all_anyP, key_get, cell_get, kid_get, encC, List.length_map, encN, Hp.set_set, Hp.get_set_same, List.length_map, u64w, u8w, i64w, hg0_0]
 (repeat refine And.intro (by first | (unfold Go.Vm.room; and_intros <;> (try simp only [List.length_map, List.length_append, List.length_cons, List.length_nil, List.length_replicate, beW_len]) <;> omega) | omega | (simp; done) | (simp_all; done) | (simp_all; omega)) ?_)
 refine callP (right_spec n hn) rfl ?_
 try simp (maxSteps := 4000000) (disch := omega) only [push_cast, Nat.reduceLT, Nat.reduceEqDiff, Nat.reduceAdd, Nat.reduceMul, Nat.reduceSub, Nat.reduceLeDiff, Int.reduceToNat, Int.reduceLT, Int.reduceLE, Int.reduceAdd, Int.reduceSub, Int.reduceMul, Int.reduceNeg, Int.reduceEq, reduceCtorEq, Int.cast_ofNat_Int, Hp.get_set, all_anyC, all_anyP, key_get, cell_get, kid_get, encC, List.length_map, encN, Hp.set_set, Hp.get_set_same, List.length_map, u64w, u8w, i64w, hg0_0]
 (repeat refine And.intro (by first | (unfold Go.Vm.room; and_intros <;> (try simp only [List.length_map, List.length_append, List.length_cons, List.length_nil, List.length_replicate, beW_len]) <;> omega) | omega | (simp; done) | (simp_all; done) | (simp_all; omega)) ?_)
 refine Qk hK [1, 9] ?_
 clear hK K
 refine CI rfl (fun hc => ?_) (fun hc => ?_)
 ·
  all_goals try (cases hc; done)
  all_goals try simp only [push_cast] at hc
  all_goals try (exfalso; omega)
  all_goals
   refine WS.seq ?_
   refine R0 fun K hK => ?_
   try simp (maxSteps := 4000000) (disch := omega) only [push_cast, Nat.reduceLT, Nat.reduceEqDiff, Nat.reduceAdd, Nat.reduceMul, Nat.reduceSub, Nat.reduceLeDiff, Int.reduceToNat, Int.reduceLT, Int.reduceLE, Int.reduceAdd, Int.reduceSub, Int.reduceMul, Int.reduceNeg, Int.reduceEq, reduceCtorEq, Int.cast_ofNat_Int, Hp.get_set, all_anyC, all_anyP, key_get, cell_get, kid_get, encC, List.length_map, encN, Hp.set_set, Hp.get_set_same, List.length_map, u64w, u8w, i64w, hg0_0]
   refine Qk hK [2, 3] ?_
   clear hK K
   refine S_wk 2 rfl (Wk.nil 0 1 .full) ?_
   refine Rt ?_
   simp only [push_cast]
   refine hQ0 _ _ _ ?_
   try simp (maxSteps := 4000000) only [push_cast, Int.reduceToNat, Int.reduceLT, Int.reduceLE, Int.reduceAdd, Int.reduceSub, Int.reduceMul, Int.reduceNeg, Int.reduceEq, reduceCtorEq, Nat.reduceLeDiff, Nat.reduceLT, Nat.reduceEqDiff, Nat.reduceAdd, Nat.reduceMul, Nat.reduceSub, Int.cast_ofNat_Int, all_anyC, all_anyP, key_get, cell_get, kid_get, encC, List.length_map, encN, Hp.set_set, Hp.get_set_same, List.length_map, u64w, u8w, i64w, hg0_0]
   rw [writeN_no hc]
   rfl
 all_goals try (cases hc; done)
 all_goals try simp only [push_cast] at hc
 all_goals try (exfalso; omega)
 all_goals
  have hr := hc
  have hle := bTo_le hr
  have hsz := sizeN_eq n
  refine WS.seq ?_
  refine R0 fun K hK => ?_
  try simp (maxSteps := 4000000) (disch := omega) only [push_cast, Nat.reduceLT, Nat.reduceEqDiff, Nat.reduceAdd, Nat.reduceMul, Nat.reduceSub, Nat.reduceLeDiff, Int.reduceToNat, Int.reduceLT, Int.reduceLE, Int.reduceAdd, Int.reduceSub, Int.reduceMul, Int.reduceNeg, Int.reduceEq, reduceCtorEq, Int.cast_ofNat_Int, Hp.get_set, all_anyC, all_anyP, key_get, cell_get, kid_get, encC, List.length_map, encN, Hp.set_set, Hp.get_set_same, List.length_map, u64w, u8w, i64w, hg0_0]
  (repeat refine And.intro (by first | (unfold Go.Vm.room; and_intros <;> (try simp only [List.length_map, List.length_append, List.length_cons, List.length_nil, List.length_replicate, beW_len]) <;> omega) | omega | (simp; done) | (simp_all; done) | (simp_all; omega)) ?_)
  refine callP (size_spec n hr hn) rfl ?_
  try simp (maxSteps := 4000000) (disch := omega) only [push_cast, Nat.reduceLT, Nat.reduceEqDiff, Nat.reduceAdd, Nat.reduceMul, Nat.reduceSub, Nat.reduceLeDiff, Int.reduceToNat, Int.reduceLT, Int.reduceLE, Int.reduceAdd, Int.reduceSub, Int.reduceMul, Int.reduceNeg, Int.reduceEq, reduceCtorEq, Int.cast_ofNat_Int, Hp.get_set, all_anyC, all_anyP, key_get, cell_get, kid_get, encC, List.length_map, encN, Hp.set_set, Hp.get_set_same, List.length_map, u64w, u8w, i64w, hg0_0]
  (repeat refine And.intro (by first | (unfold Go.Vm.room; and_intros <;> (try simp only [List.length_map, List.length_append, List.length_cons, List.length_nil, List.length_replicate, beW_len]) <;> omega) | omega | (simp; done) | (simp_all; done) | (simp_all; omega)) ?_)
  refine Qk hK [1, 13] ?_
  clear hK K
  refine CI rfl (fun hc => ?_) (fun hc => ?_)
  ·
   all_goals try (cases hc; done)
   all_goals try simp only [push_cast] at hc
   all_goals try (exfalso; omega)
   all_goals
    refine WS.seq ?_
    refine R0 fun K hK => ?_
    try simp (maxSteps := 4000000) (disch := omega) only [push_cast, Nat.reduceLT, Nat.reduceEqDiff, Nat.reduceAdd, Nat.reduceMul, Nat.reduceSub, Nat.reduceLeDiff, Int.reduceToNat, Int.reduceLT, Int.reduceLE, Int.reduceAdd, Int.reduceSub, Int.reduceMul, Int.reduceNeg, Int.reduceEq, reduceCtorEq, Int.cast_ofNat_Int, Hp.get_set, all_anyC, all_anyP, key_get, cell_get, kid_get, encC, List.length_map, encN, Hp.set_set, Hp.get_set_same, List.length_map, u64w, u8w, i64w, hg0_0]
    refine Qk hK [2, 3] ?_
    clear hK K
    refine S_wk 2 rfl (Wk.nil 0 1 .full) ?_
    refine Rt ?_
    simp only [push_cast]
    refine hQ0 _ _ _ ?_
    try simp (maxSteps := 4000000) only [push_cast, Int.reduceToNat, Int.reduceLT, Int.reduceLE, Int.reduceAdd, Int.reduceSub, Int.reduceMul, Int.reduceNeg, Int.reduceEq, reduceCtorEq, Nat.reduceLeDiff, Nat.reduceLT, Nat.reduceEqDiff, Nat.reduceAdd, Nat.reduceMul, Nat.reduceSub, Int.cast_ofNat_Int, all_anyC, all_anyP, key_get, cell_get, kid_get, encC, List.length_map, encN, Hp.set_set, Hp.get_set_same, List.length_map, u64w, u8w, i64w, hg0_0]
    rw [writeN_long hr (by omega)]
    rfl
  all_goals try (cases hc; done)
  all_goals try simp only [push_cast] at hc
  all_goals try (exfalso; omega)
  all_goals
   obtain ⟨lf, hl⟩ : ∃ b, n.leaf = b := ⟨_, rfl⟩
   have hhl := hd_len n
   have hsz5 : sizeN n ≤ 512 := by omega
   cases lf
   all_goals
   rw [hl] at hhl hsz
   simp only [Bool.false_eq_true, if_false, if_true] at hhl hsz
   refine Sk ?_
   simp only [push_cast, WS, Nat.reduceEqDiff]
   refine hK0 _ _ ?_
   clear hK0
   try clear K0
   refine WS_keep [1] _ ?_
   refine WS.seq ?_
   refine A1 [1, 4] (by decide) ?_
   refine WS.seq (WS.seq ?_)
   refine R0 fun K hK => ?_
   try simp (maxSteps := 4000000) (disch := omega) only [push_cast, Nat.reduceLT, Nat.reduceEqDiff, Nat.reduceAdd, Nat.reduceMul, Nat.reduceSub, Nat.reduceLeDiff, Hp.get_set, all_anyC, all_anyP, key_get, cell_get, kid_get, encC, List.length_map, encN, Hp.set_set, Hp.get_set_same, List.length_map, u64w, u8w, i64w, hg0_0, hl]
   (repeat refine And.intro (by first | (unfold Go.Vm.room; and_intros <;> (try simp only [List.length_map, List.length_append, List.length_cons, List.length_nil, List.length_replicate, beW_len]) <;> omega) | omega | (simp; done) | (simp_all; done) | (simp_all; omega)) ?_)
   refine Qk hK [1, 4, 18] ?_
   clear hK K
   refine CI rfl (fun hc => ?_) (fun hc => ?_)
   ·
    all_goals try (cases hc; done)
    all_goals try simp only [push_cast] at hc
    all_goals try (exfalso; omega)
    all_goals
     refine A1 [1, 4] (by decide) ?_
     refine WS.seq ?_
     refine RU [20] [] fun K hK => ?_
     try simp (maxSteps := 4000000) (disch := omega) only [push_cast, Nat.reduceLT, Nat.reduceEqDiff, Nat.reduceAdd, Nat.reduceMul, Nat.reduceSub, Nat.reduceLeDiff, Int.reduceToNat, Int.reduceLT, Int.reduceLE, Int.reduceAdd, Int.reduceSub, Int.reduceMul, Int.reduceNeg, Int.reduceEq, reduceCtorEq, Int.cast_ofNat_Int, Hp.get_set, all_anyC, all_anyP, key_get, cell_get, kid_get, encC, List.length_map, encN, Hp.set_set, Hp.get_set_same, List.length_map, u64w, u8w, i64w, hg0_0, hl]
     (repeat refine And.intro (by first | (unfold Go.Vm.room; and_intros <;> (try simp only [List.length_map, List.length_append, List.length_cons, List.length_nil, List.length_replicate, beW_len]) <;> omega) | omega | (simp; done) | (simp_all; done) | (simp_all; omega)) ?_)
     refine fun ga hga => ?_
     try simp only [Hp.set_none, Hp.join_none_iff] at hga
     try simp (maxSteps := 4000000) (disch := omega) only [push_cast, Nat.reduceLT, Nat.reduceEqDiff, Nat.reduceAdd, Nat.reduceMul, Nat.reduceSub, Nat.reduceLeDiff, Int.reduceToNat, Int.reduceLT, Int.reduceLE, Int.reduceAdd, Int.reduceSub, Int.reduceMul, Int.reduceNeg, Int.reduceEq, reduceCtorEq, Int.cast_ofNat_Int, Hp.get_set, all_anyC, all_anyP, key_get, cell_get, kid_get, encC, List.length_map, encN, Hp.set_set, Hp.get_set_same, List.length_map, u64w, u8w, i64w, hg0_0, hl, hga]
     (repeat refine And.intro (by first | (unfold Go.Vm.room; and_intros <;> (try simp only [List.length_map, List.length_append, List.length_cons, List.length_nil, List.length_replicate, beW_len]) <;> omega) | omega | (simp; done) | (simp_all; done) | (simp_all; omega)) ?_)
     first
     | (refine callS (wide_spec ([1]) 2 (n.keys.length) (by omega) (by omega) (by simp) (by exact Hp.get_set_same _ _ _)) (fun v τ h => ?_); obtain ⟨rfl, rfl⟩ := h)
     | (refine callS (wide_spec ([2]) 2 (n.keys.length) (by omega) (by omega) (by simp) (by exact Hp.get_set_same _ _ _)) (fun v τ h => ?_); obtain ⟨rfl, rfl⟩ := h)
     try simp (maxSteps := 4000000) (disch := omega) only [push_cast, Nat.reduceLT, Nat.reduceEqDiff, Nat.reduceAdd, Nat.reduceMul, Nat.reduceSub, Nat.reduceLeDiff, Int.reduceToNat, Int.reduceLT, Int.reduceLE, Int.reduceAdd, Int.reduceSub, Int.reduceMul, Int.reduceNeg, Int.reduceEq, reduceCtorEq, Int.cast_ofNat_Int, Hp.get_set, all_anyC, all_anyP, key_get, cell_get, kid_get, encC, List.length_map, encN, Hp.set_set, Hp.get_set_same, List.length_map, u64w, u8w, i64w, hg0_0, hl, hga]
     (repeat refine And.intro (by first | (unfold Go.Vm.room; and_intros <;> (try simp only [List.length_map, List.length_append, List.length_cons, List.length_nil, List.length_replicate, beW_len]) <;> omega) | omega | (simp; done) | (simp_all; done) | (simp_all; omega)) ?_)
     refine Qk hK [1, 5] ?_
     clear hK K
     refine WS.seq (WS.seq ?_)
     refine R0 fun K hK => ?_
     try simp (maxSteps := 4000000) (disch := omega) only [push_cast, Nat.reduceLT, Nat.reduceEqDiff, Nat.reduceAdd, Nat.reduceMul, Nat.reduceSub, Nat.reduceLeDiff, Int.reduceToNat, Int.reduceLT, Int.reduceLE, Int.reduceAdd, Int.reduceSub, Int.reduceMul, Int.reduceNeg, Int.reduceEq, reduceCtorEq, Int.cast_ofNat_Int, Hp.get_set, all_anyC, all_anyP, key_get, cell_get, kid_get, encC, List.length_map, encN, Hp.set_set, Hp.get_set_same, List.length_map, u64w, u8w, i64w, hg0_0, hl, hga]
     (repeat refine And.intro (by first | (unfold Go.Vm.room; and_intros <;> (try simp only [List.length_map, List.length_append, List.length_cons, List.length_nil, List.length_replicate, beW_len]) <;> omega) | omega | (simp; done) | (simp_all; done) | (simp_all; omega)) ?_)
     refine Qk hK [1, 5, 28] ?_
     clear hK K
     refine CI rfl (fun hc => ?_) (fun hc => ?_)
     ·
      all_goals try (cases hc; done)
      all_goals try simp only [push_cast] at hc
      all_goals try (exfalso; omega)
      all_goals
       have hki := (shape_inner (right_shape hr) hl).1
       have hkd := right_kid hr hl (i := 0) (by omega)
       refine R0 fun K hK => ?_
       try simp (maxSteps := 4000000) (disch := omega) only [push_cast, Nat.reduceLT, Nat.reduceEqDiff, Nat.reduceAdd, Nat.reduceMul, Nat.reduceSub, Nat.reduceLeDiff, Int.reduceToNat, Int.reduceLT, Int.reduceLE, Int.reduceAdd, Int.reduceSub, Int.reduceMul, Int.reduceNeg, Int.reduceEq, reduceCtorEq, Int.cast_ofNat_Int, Hp.get_set, all_anyC, all_anyP, key_get, cell_get, kid_get, encC, List.length_map, encN, Hp.set_set, Hp.get_set_same, List.length_map, u64w, u8w, i64w, hg0_0, hl, hga]
       (repeat refine And.intro (by first | (unfold Go.Vm.room; and_intros <;> (try simp only [List.length_map, List.length_append, List.length_cons, List.length_nil, List.length_replicate, beW_len]) <;> omega) | omega | (simp; done) | (simp_all; done) | (simp_all; omega)) ?_)
       try simp (maxSteps := 4000000) (disch := omega) only [push_cast, Nat.reduceLT, Nat.reduceEqDiff, Nat.reduceAdd, Nat.reduceMul, Nat.reduceSub, Nat.reduceLeDiff, Int.reduceToNat, Int.reduceLT, Int.reduceLE, Int.reduceAdd, Int.reduceSub, Int.reduceMul, Int.reduceNeg, Int.reduceEq, reduceCtorEq, Int.cast_ofNat_Int, Hp.get_set, all_anyC, all_anyP, key_get, cell_get, kid_get, encC, List.length_map, encN, Hp.set_set, Hp.get_set_same, List.length_map, u64w, u8w, i64w, hg0_0, hl, hga]
       (repeat refine And.intro (by first | (unfold Go.Vm.room; and_intros <;> (try simp only [List.length_map, List.length_append, List.length_cons, List.length_nil, List.length_replicate, beW_len]) <;> omega) | omega | (simp; done) | (simp_all; done) | (simp_all; omega)) ?_)
       refine callP (page_spec _ (by first | (unfold Go.Vm.room; and_intros <;> (try simp only [List.length_map, List.length_append, List.length_cons, List.length_nil, List.length_replicate, beW_len]) <;> omega) | omega | (simp; done) | (simp_all; done) | (simp_all; omega))) rfl ?_
       try simp (maxSteps := 4000000) (disch := omega) only [push_cast, Nat.reduceLT, Nat.reduceEqDiff, Nat.reduceAdd, Nat.reduceMul, Nat.reduceSub, Nat.reduceLeDiff, Int.reduceToNat, Int.reduceLT, Int.reduceLE, Int.reduceAdd, Int.reduceSub, Int.reduceMul, Int.reduceNeg, Int.reduceEq, reduceCtorEq, Int.cast_ofNat_Int, Hp.get_set, all_anyC, all_anyP, key_get, cell_get, kid_get, encC, List.length_map, encN, Hp.set_set, Hp.get_set_same, List.length_map, u64w, u8w, i64w, hg0_0, hl, hga]
       (repeat refine And.intro (by first | (unfold Go.Vm.room; and_intros <;> (try simp only [List.length_map, List.length_append, List.length_cons, List.length_nil, List.length_replicate, beW_len]) <;> omega) | omega | (simp; done) | (simp_all; done) | (simp_all; omega)) ?_)
       try simp (maxSteps := 4000000) (disch := omega) only [push_cast, Nat.reduceLT, Nat.reduceEqDiff, Nat.reduceAdd, Nat.reduceMul, Nat.reduceSub, Nat.reduceLeDiff, Int.reduceToNat, Int.reduceLT, Int.reduceLE, Int.reduceAdd, Int.reduceSub, Int.reduceMul, Int.reduceNeg, Int.reduceEq, reduceCtorEq, Int.cast_ofNat_Int, Hp.get_set, all_anyC, all_anyP, key_get, cell_get, kid_get, encC, List.length_map, encN, Hp.set_set, Hp.get_set_same, List.length_map, u64w, u8w, i64w, hg0_0, hl, hga]
       (repeat refine And.intro (by first | (unfold Go.Vm.room; and_intros <;> (try simp only [List.length_map, List.length_append, List.length_cons, List.length_nil, List.length_replicate, beW_len]) <;> omega) | omega | (simp; done) | (simp_all; done) | (simp_all; omega)) ?_)
       try simp (maxSteps := 4000000) (disch := omega) only [push_cast, Nat.reduceLT, Nat.reduceEqDiff, Nat.reduceAdd, Nat.reduceMul, Nat.reduceSub, Nat.reduceLeDiff, Int.reduceToNat, Int.reduceLT, Int.reduceLE, Int.reduceAdd, Int.reduceSub, Int.reduceMul, Int.reduceNeg, Int.reduceEq, reduceCtorEq, Int.cast_ofNat_Int, Hp.get_set, all_anyC, all_anyP, key_get, cell_get, kid_get, encC, List.length_map, encN, Hp.set_set, Hp.get_set_same, List.length_map, u64w, u8w, i64w, hg0_0, hl, hga]
       (repeat refine And.intro (by first | (unfold Go.Vm.room; and_intros <;> (try simp only [List.length_map, List.length_append, List.length_cons, List.length_nil, List.length_replicate, beW_len]) <;> omega) | omega | (simp; done) | (simp_all; done) | (simp_all; omega)) ?_)
       try simp (maxSteps := 4000000) (disch := omega) only [push_cast, Nat.reduceLT, Nat.reduceEqDiff, Nat.reduceAdd, Nat.reduceMul, Nat.reduceSub, Nat.reduceLeDiff, Int.reduceToNat, Int.reduceLT, Int.reduceLE, Int.reduceAdd, Int.reduceSub, Int.reduceMul, Int.reduceNeg, Int.reduceEq, reduceCtorEq, Int.cast_ofNat_Int, Hp.get_set, all_anyC, all_anyP, key_get, cell_get, kid_get, encC, List.length_map, encN, Hp.set_set, Hp.get_set_same, List.length_map, u64w, u8w, i64w, hg0_0, hl, hga]
       (repeat refine And.intro (by first | (unfold Go.Vm.room; and_intros <;> (try simp only [List.length_map, List.length_append, List.length_cons, List.length_nil, List.length_replicate, beW_len]) <;> omega) | omega | (simp; done) | (simp_all; done) | (simp_all; omega)) ?_)
       refine Qk hK [1, 5] ?_
       clear hK K
       refine WS.seq (WS.seq ?_)
       refine R0 fun K hK => ?_
       try simp (maxSteps := 4000000) (disch := omega) only [push_cast, Nat.reduceLT, Nat.reduceEqDiff, Nat.reduceAdd, Nat.reduceMul, Nat.reduceSub, Nat.reduceLeDiff, Int.reduceToNat, Int.reduceLT, Int.reduceLE, Int.reduceAdd, Int.reduceSub, Int.reduceMul, Int.reduceNeg, Int.reduceEq, reduceCtorEq, Int.cast_ofNat_Int, Hp.get_set, all_anyC, all_anyP, key_get, cell_get, kid_get, encC, List.length_map, encN, Hp.set_set, Hp.get_set_same, List.length_map, u64w, u8w, i64w, hg0_0, hl, hga]
       (repeat refine And.intro (by first | (unfold Go.Vm.room; and_intros <;> (try simp only [List.length_map, List.length_append, List.length_cons, List.length_nil, List.length_replicate, beW_len]) <;> omega) | omega | (simp; done) | (simp_all; done) | (simp_all; omega)) ?_)
       refine Qk hK [1, 5, 37, 38, 39] ?_
       clear hK K
       refine Bk fun K1 hK1 => ?_
       refine WS_keep [1, 5, 37, 38, 39] _ ?_
       refine Lp (fun m env σ' => ∃ (k : Nat), m = n.keys.length - k ∧ env = [(1, .pv [.bool n.leaf, .sl 1 (n.keys.map st) .no, .sl 3 (n.cells.map encC) .no, .sl 1 (n.kids.map (V.int .i64)) .no]), (5, .sl 1 ((hd (toR n) ++ bTo n k).map u8) (.tk ga)), (37, .sl 1 (n.keys.map st) .no), (38, .int .i64 n.keys.length), (39, .int .i64 k)] ∧ σ' = Hp.empty.set ga (.tok 1 (hd (toR n) ++ bTo n k).length) ∧ (k ≤ n.keys.length)) ?_ ?_
       · refine ⟨_, 0,  rfl, ?_, ?_, ?_⟩
         · (try simp (disch := omega) only [push_cast, Int.reduceToNat, Int.reduceLT, Int.reduceLE, Int.reduceAdd, Int.reduceSub, Int.reduceMul, Int.reduceNeg, Int.reduceEq, reduceCtorEq, Nat.reduceLeDiff, Nat.reduceLT, Nat.reduceEqDiff, Nat.reduceAdd, Nat.reduceMul, Nat.reduceSub, Int.cast_ofNat_Int, all_anyC, all_anyP, key_get, cell_get, kid_get, encC, List.length_map, encN, Hp.set_set, Hp.get_set_same, List.length_map, u64w, u8w, i64w, hg0_0, hl, hga]) <;> (first | done | rfl | (simp [hd, toR, hl, parts_len, bTo_zero, beW_len, u8]; done) | (rw [hout]; simp only [List.map_append, List.append_assoc]; done) | (rw [hout]; simp only [Hp.set_set, List.length_append, List.length_cons, List.length_nil, List.length_map, beW_len]; congr 2 <;> omega) | (rw [hout]; simp only [Hp.set_set, List.length_append, List.length_cons, List.length_nil, List.length_map, beW_len]; done) | (simp; done) | (simp; omega) | omega | (simp_all; done) | (simp_all; omega))
         · first | rfl | (try simp (disch := omega) only [push_cast, Int.reduceToNat, Int.reduceLT, Int.reduceLE, Int.reduceAdd, Int.reduceSub, Int.reduceMul, Int.reduceNeg, Int.reduceEq, reduceCtorEq, Nat.reduceLeDiff, Nat.reduceLT, Nat.reduceEqDiff, Nat.reduceAdd, Nat.reduceMul, Nat.reduceSub, Int.cast_ofNat_Int, all_anyC, all_anyP, key_get, cell_get, kid_get, encC, List.length_map, encN, Hp.set_set, Hp.get_set_same, List.length_map, u64w, u8w, i64w, hg0_0, hl, hga]) <;> (first | done | rfl | (simp [hd, toR, hl, parts_len, bTo_zero, beW_len, u8]; done) | (rw [hout]; simp only [List.map_append, List.append_assoc]; done) | (rw [hout]; simp only [Hp.set_set, List.length_append, List.length_cons, List.length_nil, List.length_map, beW_len]; congr 2 <;> omega) | (rw [hout]; simp only [Hp.set_set, List.length_append, List.length_cons, List.length_nil, List.length_map, beW_len]; done) | (simp; done) | (simp; omega) | omega | (simp_all; done) | (simp_all; omega))
         · first | omega | (simp; done) | (simp_all; done) | (simp_all; omega)
       intro m env σ' hJ M1 hM1
       obtain ⟨k, rfl, rfl, rfl, hk⟩ := hJ
       have hbk := bTo_mono hk
       have hol : (hd (toR n) ++ bTo n k).length = (hd (toR n)).length + (bTo n k).length := List.length_append
       refine WS.seq ?_
       refine R0 fun K hK => ?_
       try simp (maxSteps := 4000000) (disch := omega) only [push_cast, Nat.reduceLT, Nat.reduceEqDiff, Int.reduceToNat, Int.reduceLT, Int.reduceLE, Int.reduceAdd, Int.reduceSub, Int.reduceMul, Int.reduceNeg, Int.reduceEq, reduceCtorEq, Int.cast_ofNat_Int, Hp.get_set, all_anyC, all_anyP, key_get, cell_get, kid_get, encC, List.length_map, encN, Hp.set_set, Hp.get_set_same, List.length_map, u64w, u8w, i64w, hg0_0, hl, hga]
       refine Qk hK [1, 5, 37, 38, 39, 40] ?_
       clear hK K
       refine WS.seq ?_
       refine CI rfl (fun hc => ?_) (fun hc => ?_)
       rotate_left
       ·
        all_goals try (cases hc; done)
        all_goals try simp only [push_cast] at hc
        all_goals try (exfalso; omega)
        all_goals
         obtain rfl : k = n.keys.length := by omega
         have hos : (hd (toR n) ++ bTo n n.keys.length).length = sizeN n := by omega
         have htn : ((512 : Int) - (sizeN n : Int)).toNat = 512 - sizeN n := by omega
         refine Ex ?_
         simp only [push_cast, WS, Nat.reduceEqDiff]
         refine hK1 _ _ ?_
         clear hK1
         try clear K1
         refine WS_keep [5] _ ?_
         refine WS.seq ?_
         refine R0 fun K hK => ?_
         try simp (maxSteps := 4000000) (disch := omega) only [push_cast, Nat.reduceLT, Nat.reduceEqDiff, Nat.reduceAdd, Nat.reduceMul, Nat.reduceSub, Nat.reduceLeDiff, Int.reduceToNat, Int.reduceLT, Int.reduceLE, Int.reduceAdd, Int.reduceSub, Int.reduceMul, Int.reduceNeg, Int.reduceEq, reduceCtorEq, Int.cast_ofNat_Int, Hp.get_set, all_anyC, all_anyP, key_get, cell_get, kid_get, encC, List.length_map, encN, Hp.set_set, Hp.get_set_same, List.length_map, u64w, u8w, i64w, hg0_0, hl, hga, hos, htn]
         (repeat refine And.intro (by first | (unfold Go.Vm.room; and_intros <;> (try simp only [List.length_map, List.length_append, List.length_cons, List.length_nil, List.length_replicate, beW_len]) <;> omega) | omega | (simp; done) | (simp_all; done) | (simp_all; omega)) ?_)
         try simp (maxSteps := 4000000) (disch := omega) only [push_cast, Nat.reduceLT, Nat.reduceEqDiff, Nat.reduceAdd, Nat.reduceMul, Nat.reduceSub, Nat.reduceLeDiff, Int.reduceToNat, Int.reduceLT, Int.reduceLE, Int.reduceAdd, Int.reduceSub, Int.reduceMul, Int.reduceNeg, Int.reduceEq, reduceCtorEq, Int.cast_ofNat_Int, Hp.get_set, all_anyC, all_anyP, key_get, cell_get, kid_get, encC, List.length_map, encN, Hp.set_set, Hp.get_set_same, List.length_map, u64w, u8w, i64w, hg0_0, hl, hga, hos, htn]
         (repeat refine And.intro (by first | (unfold Go.Vm.room; and_intros <;> (try simp only [List.length_map, List.length_append, List.length_cons, List.length_nil, List.length_replicate, beW_len]) <;> omega) | omega | (simp; done) | (simp_all; done) | (simp_all; omega)) ?_)
         try simp (maxSteps := 4000000) (disch := omega) only [push_cast, Nat.reduceLT, Nat.reduceEqDiff, Nat.reduceAdd, Nat.reduceMul, Nat.reduceSub, Nat.reduceLeDiff, Int.reduceToNat, Int.reduceLT, Int.reduceLE, Int.reduceAdd, Int.reduceSub, Int.reduceMul, Int.reduceNeg, Int.reduceEq, reduceCtorEq, Int.cast_ofNat_Int, Hp.get_set, all_anyC, all_anyP, key_get, cell_get, kid_get, encC, List.length_map, encN, Hp.set_set, Hp.get_set_same, List.length_map, u64w, u8w, i64w, hg0_0, hl, hga, hos, htn]
         (repeat refine And.intro (by first | (unfold Go.Vm.room; and_intros <;> (try simp only [List.length_map, List.length_append, List.length_cons, List.length_nil, List.length_replicate, beW_len]) <;> omega) | omega | (simp; done) | (simp_all; done) | (simp_all; omega)) ?_)
         try simp (maxSteps := 4000000) (disch := omega) only [push_cast, Nat.reduceLT, Nat.reduceEqDiff, Nat.reduceAdd, Nat.reduceMul, Nat.reduceSub, Nat.reduceLeDiff, Int.reduceToNat, Int.reduceLT, Int.reduceLE, Int.reduceAdd, Int.reduceSub, Int.reduceMul, Int.reduceNeg, Int.reduceEq, reduceCtorEq, Int.cast_ofNat_Int, Hp.get_set, all_anyC, all_anyP, key_get, cell_get, kid_get, encC, List.length_map, encN, Hp.set_set, Hp.get_set_same, List.length_map, u64w, u8w, i64w, hg0_0, hl, hga, hos, htn]
         (repeat refine And.intro (by first | (unfold Go.Vm.room; and_intros <;> (try simp only [List.length_map, List.length_append, List.length_cons, List.length_nil, List.length_replicate, beW_len]) <;> omega) | omega | (simp; done) | (simp_all; done) | (simp_all; omega)) ?_)
         refine Qk hK [2, 3] ?_
         clear hK K
         refine S_wk 2 rfl (Wk.untag _ _ _) ?_
         refine Rt ?_
         refine hQ0 _ _ _ ?_
         try simp (maxSteps := 4000000) only [push_cast, Int.reduceToNat, Int.reduceLT, Int.reduceLE, Int.reduceAdd, Int.reduceSub, Int.reduceMul, Int.reduceNeg, Int.reduceEq, reduceCtorEq, Nat.reduceLeDiff, Nat.reduceLT, Nat.reduceEqDiff, Nat.reduceAdd, Nat.reduceMul, Nat.reduceSub, Int.cast_ofNat_Int, all_anyC, all_anyP, key_get, cell_get, kid_get, encC, List.length_map, encN, Hp.set_set, Hp.get_set_same, List.length_map, u64w, u8w, i64w, hg0_0, hl, hga, hos, htn]
         rw [writeN_ok hr hsz5, page_eq]
         simp
       all_goals try (cases hc; done)
       all_goals try simp only [push_cast] at hc
       all_goals try (exfalso; omega)
       all_goals
        have hkk : k < n.keys.length := by omega
        have hky := (right_keys hr k hkk).1
        have hkb := key_byte (hd (toR n) ++ bTo n k) hky
        have hb1 := congrArg List.length (bTo_succ hkk)
        have hbp := pbl_le hr hkk
        refine Sk ?_
        refine WS.seq ?_
        refine Bk fun K2 hK2 => ?_
        refine WS.seq ?_
        refine R0 fun K hK => ?_
        try simp (maxSteps := 4000000) (disch := omega) only [push_cast, Nat.reduceLT, Nat.reduceEqDiff, Nat.reduceAdd, Nat.reduceMul, Nat.reduceSub, Nat.reduceLeDiff, Int.reduceToNat, Int.reduceLT, Int.reduceLE, Int.reduceAdd, Int.reduceSub, Int.reduceMul, Int.reduceNeg, Int.reduceEq, reduceCtorEq, Int.cast_ofNat_Int, Hp.get_set, all_anyC, all_anyP, key_get, cell_get, kid_get, encC, List.length_map, encN, Hp.set_set, Hp.get_set_same, List.length_map, u64w, u8w, i64w, hg0_0, hl, hga, hkb]
        (repeat refine And.intro (by first | (unfold Go.Vm.room; and_intros <;> (try simp only [List.length_map, List.length_append, List.length_cons, List.length_nil, List.length_replicate, beW_len]) <;> omega) | omega | (simp; done) | (simp_all; done) | (simp_all; omega)) ?_)
        refine Qk hK [1, 5, 6, 7, 37, 38, 39] ?_
        clear hK K
        refine WS.seq ?_
        refine R0 fun K hK => ?_
        try simp (maxSteps := 4000000) (disch := omega) only [push_cast, Nat.reduceLT, Nat.reduceEqDiff, Nat.reduceAdd, Nat.reduceMul, Nat.reduceSub, Nat.reduceLeDiff, Int.reduceToNat, Int.reduceLT, Int.reduceLE, Int.reduceAdd, Int.reduceSub, Int.reduceMul, Int.reduceNeg, Int.reduceEq, reduceCtorEq, Int.cast_ofNat_Int, Hp.get_set, all_anyC, all_anyP, key_get, cell_get, kid_get, encC, List.length_map, encN, Hp.set_set, Hp.get_set_same, List.length_map, u64w, u8w, i64w, hg0_0, hl, hga, hkb]
        (repeat refine And.intro (by first | (unfold Go.Vm.room; and_intros <;> (try simp only [List.length_map, List.length_append, List.length_cons, List.length_nil, List.length_replicate, beW_len]) <;> omega) | omega | (simp; done) | (simp_all; done) | (simp_all; omega)) ?_)
        try simp (maxSteps := 4000000) (disch := omega) only [push_cast, Nat.reduceLT, Nat.reduceEqDiff, Nat.reduceAdd, Nat.reduceMul, Nat.reduceSub, Nat.reduceLeDiff, Int.reduceToNat, Int.reduceLT, Int.reduceLE, Int.reduceAdd, Int.reduceSub, Int.reduceMul, Int.reduceNeg, Int.reduceEq, reduceCtorEq, Int.cast_ofNat_Int, Hp.get_set, all_anyC, all_anyP, key_get, cell_get, kid_get, encC, List.length_map, encN, Hp.set_set, Hp.get_set_same, List.length_map, u64w, u8w, i64w, hg0_0, hl, hga, hkb]
        (repeat refine And.intro (by first | (unfold Go.Vm.room; and_intros <;> (try simp only [List.length_map, List.length_append, List.length_cons, List.length_nil, List.length_replicate, beW_len]) <;> omega) | omega | (simp; done) | (simp_all; done) | (simp_all; omega)) ?_)
        try simp (maxSteps := 4000000) (disch := omega) only [push_cast, Nat.reduceLT, Nat.reduceEqDiff, Nat.reduceAdd, Nat.reduceMul, Nat.reduceSub, Nat.reduceLeDiff, Int.reduceToNat, Int.reduceLT, Int.reduceLE, Int.reduceAdd, Int.reduceSub, Int.reduceMul, Int.reduceNeg, Int.reduceEq, reduceCtorEq, Int.cast_ofNat_Int, Hp.get_set, all_anyC, all_anyP, key_get, cell_get, kid_get, encC, List.length_map, encN, Hp.set_set, Hp.get_set_same, List.length_map, u64w, u8w, i64w, hg0_0, hl, hga, hkb]
        (repeat refine And.intro (by first | (unfold Go.Vm.room; and_intros <;> (try simp only [List.length_map, List.length_append, List.length_cons, List.length_nil, List.length_replicate, beW_len]) <;> omega) | omega | (simp; done) | (simp_all; done) | (simp_all; omega)) ?_)
        try simp (maxSteps := 4000000) (disch := omega) only [push_cast, Nat.reduceLT, Nat.reduceEqDiff, Nat.reduceAdd, Nat.reduceMul, Nat.reduceSub, Nat.reduceLeDiff, Int.reduceToNat, Int.reduceLT, Int.reduceLE, Int.reduceAdd, Int.reduceSub, Int.reduceMul, Int.reduceNeg, Int.reduceEq, reduceCtorEq, Int.cast_ofNat_Int, Hp.get_set, all_anyC, all_anyP, key_get, cell_get, kid_get, encC, List.length_map, encN, Hp.set_set, Hp.get_set_same, List.length_map, u64w, u8w, i64w, hg0_0, hl, hga, hkb]
        (repeat refine And.intro (by first | (unfold Go.Vm.room; and_intros <;> (try simp only [List.length_map, List.length_append, List.length_cons, List.length_nil, List.length_replicate, beW_len]) <;> omega) | omega | (simp; done) | (simp_all; done) | (simp_all; omega)) ?_)
        refine Qk hK [1, 5, 6, 7, 37, 38, 39] ?_
        clear hK K
        refine WS.seq (WS.seq ?_)
        refine R0 fun K hK => ?_
        try simp (maxSteps := 4000000) (disch := omega) only [push_cast, Nat.reduceLT, Nat.reduceEqDiff, Nat.reduceAdd, Nat.reduceMul, Nat.reduceSub, Nat.reduceLeDiff, Int.reduceToNat, Int.reduceLT, Int.reduceLE, Int.reduceAdd, Int.reduceSub, Int.reduceMul, Int.reduceNeg, Int.reduceEq, reduceCtorEq, Int.cast_ofNat_Int, Hp.get_set, all_anyC, all_anyP, key_get, cell_get, kid_get, encC, List.length_map, encN, Hp.set_set, Hp.get_set_same, List.length_map, u64w, u8w, i64w, hg0_0, hl, hga, hkb]
        (repeat refine And.intro (by first | (unfold Go.Vm.room; and_intros <;> (try simp only [List.length_map, List.length_append, List.length_cons, List.length_nil, List.length_replicate, beW_len]) <;> omega) | omega | (simp; done) | (simp_all; done) | (simp_all; omega)) ?_)
        refine Qk hK [1, 5, 6, 7, 37, 38, 39, 52] ?_
        clear hK K
        refine CI rfl (fun hc => ?_) (fun hc => ?_)
        ·
         all_goals try (cases hc; done)
         all_goals try simp only [push_cast] at hc
         all_goals try (exfalso; omega)
         all_goals
          have hki := (shape_inner (right_shape hr) hl).1
          have hkd := right_kid hr hl (i := k + 1) (by omega)
          have hout := out_inner hl hkk
          refine WS.seq ?_
          refine R0 fun K hK => ?_
          try simp (maxSteps := 4000000) (disch := omega) only [push_cast, Nat.reduceLT, Nat.reduceEqDiff, Nat.reduceAdd, Nat.reduceMul, Nat.reduceSub, Nat.reduceLeDiff, Int.reduceToNat, Int.reduceLT, Int.reduceLE, Int.reduceAdd, Int.reduceSub, Int.reduceMul, Int.reduceNeg, Int.reduceEq, reduceCtorEq, Int.cast_ofNat_Int, Hp.get_set, all_anyC, all_anyP, key_get, cell_get, kid_get, encC, List.length_map, encN, Hp.set_set, Hp.get_set_same, List.length_map, u64w, u8w, i64w, hg0_0, hl, hga, hkb]
          (repeat refine And.intro (by first | (unfold Go.Vm.room; and_intros <;> (try simp only [List.length_map, List.length_append, List.length_cons, List.length_nil, List.length_replicate, beW_len]) <;> omega) | omega | (simp; done) | (simp_all; done) | (simp_all; omega)) ?_)
          try simp (maxSteps := 4000000) (disch := omega) only [push_cast, Nat.reduceLT, Nat.reduceEqDiff, Nat.reduceAdd, Nat.reduceMul, Nat.reduceSub, Nat.reduceLeDiff, Int.reduceToNat, Int.reduceLT, Int.reduceLE, Int.reduceAdd, Int.reduceSub, Int.reduceMul, Int.reduceNeg, Int.reduceEq, reduceCtorEq, Int.cast_ofNat_Int, Hp.get_set, all_anyC, all_anyP, key_get, cell_get, kid_get, encC, List.length_map, encN, Hp.set_set, Hp.get_set_same, List.length_map, u64w, u8w, i64w, hg0_0, hl, hga, hkb]
          (repeat refine And.intro (by first | (unfold Go.Vm.room; and_intros <;> (try simp only [List.length_map, List.length_append, List.length_cons, List.length_nil, List.length_replicate, beW_len]) <;> omega) | omega | (simp; done) | (simp_all; done) | (simp_all; omega)) ?_)
          try simp (maxSteps := 4000000) (disch := omega) only [push_cast, Nat.reduceLT, Nat.reduceEqDiff, Nat.reduceAdd, Nat.reduceMul, Nat.reduceSub, Nat.reduceLeDiff, Int.reduceToNat, Int.reduceLT, Int.reduceLE, Int.reduceAdd, Int.reduceSub, Int.reduceMul, Int.reduceNeg, Int.reduceEq, reduceCtorEq, Int.cast_ofNat_Int, Hp.get_set, all_anyC, all_anyP, key_get, cell_get, kid_get, encC, List.length_map, encN, Hp.set_set, Hp.get_set_same, List.length_map, u64w, u8w, i64w, hg0_0, hl, hga, hkb]
          (repeat refine And.intro (by first | (unfold Go.Vm.room; and_intros <;> (try simp only [List.length_map, List.length_append, List.length_cons, List.length_nil, List.length_replicate, beW_len]) <;> omega) | omega | (simp; done) | (simp_all; done) | (simp_all; omega)) ?_)
          try simp (maxSteps := 4000000) (disch := omega) only [push_cast, Nat.reduceLT, Nat.reduceEqDiff, Nat.reduceAdd, Nat.reduceMul, Nat.reduceSub, Nat.reduceLeDiff, Int.reduceToNat, Int.reduceLT, Int.reduceLE, Int.reduceAdd, Int.reduceSub, Int.reduceMul, Int.reduceNeg, Int.reduceEq, reduceCtorEq, Int.cast_ofNat_Int, Hp.get_set, all_anyC, all_anyP, key_get, cell_get, kid_get, encC, List.length_map, encN, Hp.set_set, Hp.get_set_same, List.length_map, u64w, u8w, i64w, hg0_0, hl, hga, hkb]
          (repeat refine And.intro (by first | (unfold Go.Vm.room; and_intros <;> (try simp only [List.length_map, List.length_append, List.length_cons, List.length_nil, List.length_replicate, beW_len]) <;> omega) | omega | (simp; done) | (simp_all; done) | (simp_all; omega)) ?_)
          refine Qk hK [1, 5, 6, 37, 38, 39] ?_
          clear hK K
          refine WS.seq ?_
          refine R0 fun K hK => ?_
          try simp (maxSteps := 4000000) (disch := omega) only [push_cast, Nat.reduceLT, Nat.reduceEqDiff, Nat.reduceAdd, Nat.reduceMul, Nat.reduceSub, Nat.reduceLeDiff, Int.reduceToNat, Int.reduceLT, Int.reduceLE, Int.reduceAdd, Int.reduceSub, Int.reduceMul, Int.reduceNeg, Int.reduceEq, reduceCtorEq, Int.cast_ofNat_Int, Hp.get_set, all_anyC, all_anyP, key_get, cell_get, kid_get, encC, List.length_map, encN, Hp.set_set, Hp.get_set_same, List.length_map, u64w, u8w, i64w, hg0_0, hl, hga, hkb]
          (repeat refine And.intro (by first | (unfold Go.Vm.room; and_intros <;> (try simp only [List.length_map, List.length_append, List.length_cons, List.length_nil, List.length_replicate, beW_len]) <;> omega) | omega | (simp; done) | (simp_all; done) | (simp_all; omega)) ?_)
          try simp (maxSteps := 4000000) (disch := omega) only [push_cast, Nat.reduceLT, Nat.reduceEqDiff, Nat.reduceAdd, Nat.reduceMul, Nat.reduceSub, Nat.reduceLeDiff, Int.reduceToNat, Int.reduceLT, Int.reduceLE, Int.reduceAdd, Int.reduceSub, Int.reduceMul, Int.reduceNeg, Int.reduceEq, reduceCtorEq, Int.cast_ofNat_Int, Hp.get_set, all_anyC, all_anyP, key_get, cell_get, kid_get, encC, List.length_map, encN, Hp.set_set, Hp.get_set_same, List.length_map, u64w, u8w, i64w, hg0_0, hl, hga, hkb]
          (repeat refine And.intro (by first | (unfold Go.Vm.room; and_intros <;> (try simp only [List.length_map, List.length_append, List.length_cons, List.length_nil, List.length_replicate, beW_len]) <;> omega) | omega | (simp; done) | (simp_all; done) | (simp_all; omega)) ?_)
          refine callP (page_spec _ (by first | (unfold Go.Vm.room; and_intros <;> (try simp only [List.length_map, List.length_append, List.length_cons, List.length_nil, List.length_replicate, beW_len]) <;> omega) | omega | (simp; done) | (simp_all; done) | (simp_all; omega))) rfl ?_
          try simp (maxSteps := 4000000) (disch := omega) only [push_cast, Nat.reduceLT, Nat.reduceEqDiff, Nat.reduceAdd, Nat.reduceMul, Nat.reduceSub, Nat.reduceLeDiff, Int.reduceToNat, Int.reduceLT, Int.reduceLE, Int.reduceAdd, Int.reduceSub, Int.reduceMul, Int.reduceNeg, Int.reduceEq, reduceCtorEq, Int.cast_ofNat_Int, Hp.get_set, all_anyC, all_anyP, key_get, cell_get, kid_get, encC, List.length_map, encN, Hp.set_set, Hp.get_set_same, List.length_map, u64w, u8w, i64w, hg0_0, hl, hga, hkb]
          (repeat refine And.intro (by first | (unfold Go.Vm.room; and_intros <;> (try simp only [List.length_map, List.length_append, List.length_cons, List.length_nil, List.length_replicate, beW_len]) <;> omega) | omega | (simp; done) | (simp_all; done) | (simp_all; omega)) ?_)
          try simp (maxSteps := 4000000) (disch := omega) only [push_cast, Nat.reduceLT, Nat.reduceEqDiff, Nat.reduceAdd, Nat.reduceMul, Nat.reduceSub, Nat.reduceLeDiff, Int.reduceToNat, Int.reduceLT, Int.reduceLE, Int.reduceAdd, Int.reduceSub, Int.reduceMul, Int.reduceNeg, Int.reduceEq, reduceCtorEq, Int.cast_ofNat_Int, Hp.get_set, all_anyC, all_anyP, key_get, cell_get, kid_get, encC, List.length_map, encN, Hp.set_set, Hp.get_set_same, List.length_map, u64w, u8w, i64w, hg0_0, hl, hga, hkb]
          (repeat refine And.intro (by first | (unfold Go.Vm.room; and_intros <;> (try simp only [List.length_map, List.length_append, List.length_cons, List.length_nil, List.length_replicate, beW_len]) <;> omega) | omega | (simp; done) | (simp_all; done) | (simp_all; omega)) ?_)
          try simp (maxSteps := 4000000) (disch := omega) only [push_cast, Nat.reduceLT, Nat.reduceEqDiff, Nat.reduceAdd, Nat.reduceMul, Nat.reduceSub, Nat.reduceLeDiff, Int.reduceToNat, Int.reduceLT, Int.reduceLE, Int.reduceAdd, Int.reduceSub, Int.reduceMul, Int.reduceNeg, Int.reduceEq, reduceCtorEq, Int.cast_ofNat_Int, Hp.get_set, all_anyC, all_anyP, key_get, cell_get, kid_get, encC, List.length_map, encN, Hp.set_set, Hp.get_set_same, List.length_map, u64w, u8w, i64w, hg0_0, hl, hga, hkb]
          (repeat refine And.intro (by first | (unfold Go.Vm.room; and_intros <;> (try simp only [List.length_map, List.length_append, List.length_cons, List.length_nil, List.length_replicate, beW_len]) <;> omega) | omega | (simp; done) | (simp_all; done) | (simp_all; omega)) ?_)
          try simp (maxSteps := 4000000) (disch := omega) only [push_cast, Nat.reduceLT, Nat.reduceEqDiff, Nat.reduceAdd, Nat.reduceMul, Nat.reduceSub, Nat.reduceLeDiff, Int.reduceToNat, Int.reduceLT, Int.reduceLE, Int.reduceAdd, Int.reduceSub, Int.reduceMul, Int.reduceNeg, Int.reduceEq, reduceCtorEq, Int.cast_ofNat_Int, Hp.get_set, all_anyC, all_anyP, key_get, cell_get, kid_get, encC, List.length_map, encN, Hp.set_set, Hp.get_set_same, List.length_map, u64w, u8w, i64w, hg0_0, hl, hga, hkb]
          (repeat refine And.intro (by first | (unfold Go.Vm.room; and_intros <;> (try simp only [List.length_map, List.length_append, List.length_cons, List.length_nil, List.length_replicate, beW_len]) <;> omega) | omega | (simp; done) | (simp_all; done) | (simp_all; omega)) ?_)
          refine Qk hK [1, 5, 37, 38, 39] ?_
          clear hK K
          refine Ex ?_
          simp only [push_cast, WS, Nat.reduceEqDiff]
          refine hK2 _ _ ?_
          clear hK2
          try clear K2
          refine WS_keep [1, 5, 37, 38, 39] _ ?_
          refine R0 fun K hK => ?_
          try simp (maxSteps := 4000000) (disch := omega) only [push_cast, Nat.reduceLT, Nat.reduceEqDiff, Int.reduceToNat, Int.reduceLT, Int.reduceLE, Int.reduceAdd, Int.reduceSub, Int.reduceMul, Int.reduceNeg, Int.reduceEq, reduceCtorEq, Int.cast_ofNat_Int, Hp.get_set, all_anyC, all_anyP, key_get, cell_get, kid_get, encC, List.length_map, encN, Hp.set_set, Hp.get_set_same, List.length_map, u64w, u8w, i64w, hg0_0, hl, hga, hkb]
          (repeat refine And.intro (by first | (unfold Go.Vm.room; and_intros <;> (try simp only [List.length_map, List.length_append, List.length_cons, List.length_nil, List.length_replicate, beW_len]) <;> omega) | omega | (simp; done) | (simp_all; done) | (simp_all; omega)) ?_)
          refine Qk hK [1, 5, 37, 38, 39] ?_
          clear hK K
          refine Ag (hM1 _ _ ?_)
          refine ⟨_, ?_, k + 1,  rfl, ?_, ?_, ?_⟩
          · first | omega | (simp; done) | (simp_all; done) | (simp_all; omega)
          · (try simp (disch := omega) only [push_cast, Int.reduceToNat, Int.reduceLT, Int.reduceLE, Int.reduceAdd, Int.reduceSub, Int.reduceMul, Int.reduceNeg, Int.reduceEq, reduceCtorEq, Nat.reduceLeDiff, Nat.reduceLT, Nat.reduceEqDiff, Nat.reduceAdd, Nat.reduceMul, Nat.reduceSub, Int.cast_ofNat_Int, all_anyC, all_anyP, key_get, cell_get, kid_get, encC, List.length_map, encN, Hp.set_set, Hp.get_set_same, List.length_map, u64w, u8w, i64w, hg0_0, hl, hga, hkb]) <;> (first | done | rfl | (simp [hd, toR, hl, parts_len, bTo_zero, beW_len, u8]; done) | (rw [hout]; simp only [List.map_append, List.append_assoc]; done) | (rw [hout]; simp only [Hp.set_set, List.length_append, List.length_cons, List.length_nil, List.length_map, beW_len]; congr 2 <;> omega) | (rw [hout]; simp only [Hp.set_set, List.length_append, List.length_cons, List.length_nil, List.length_map, beW_len]; done) | (simp; done) | (simp; omega) | omega | (simp_all; done) | (simp_all; omega))
          · first | rfl | (try simp (disch := omega) only [push_cast, Int.reduceToNat, Int.reduceLT, Int.reduceLE, Int.reduceAdd, Int.reduceSub, Int.reduceMul, Int.reduceNeg, Int.reduceEq, reduceCtorEq, Nat.reduceLeDiff, Nat.reduceLT, Nat.reduceEqDiff, Nat.reduceAdd, Nat.reduceMul, Nat.reduceSub, Int.cast_ofNat_Int, all_anyC, all_anyP, key_get, cell_get, kid_get, encC, List.length_map, encN, Hp.set_set, Hp.get_set_same, List.length_map, u64w, u8w, i64w, hg0_0, hl, hga, hkb]) <;> (first | done | rfl | (simp [hd, toR, hl, parts_len, bTo_zero, beW_len, u8]; done) | (rw [hout]; simp only [List.map_append, List.append_assoc]; done) | (rw [hout]; simp only [Hp.set_set, List.length_append, List.length_cons, List.length_nil, List.length_map, beW_len]; congr 2 <;> omega) | (rw [hout]; simp only [Hp.set_set, List.length_append, List.length_cons, List.length_nil, List.length_map, beW_len]; done) | (simp; done) | (simp; omega) | omega | (simp_all; done) | (simp_all; omega))
          · first | omega | (simp; done) | (simp_all; done) | (simp_all; omega)
        all_goals try (cases hc; done)
        all_goals try simp only [push_cast] at hc
        all_goals try (exfalso; omega)
        all_goals
         have hcl := (shape_leaf (right_shape hr) hl).1
         have hci := cright_len (right_cell hr hl hkk)
         have hout := out_leaf hl hkk
         refine Sk ?_
         refine WS.seq ?_
         refine R0 fun K hK => ?_
         try simp (maxSteps := 4000000) (disch := omega) only [push_cast, Nat.reduceLT, Nat.reduceEqDiff, Nat.reduceAdd, Nat.reduceMul, Nat.reduceSub, Nat.reduceLeDiff, Int.reduceToNat, Int.reduceLT, Int.reduceLE, Int.reduceAdd, Int.reduceSub, Int.reduceMul, Int.reduceNeg, Int.reduceEq, reduceCtorEq, Int.cast_ofNat_Int, Hp.get_set, all_anyC, all_anyP, key_get, cell_get, kid_get, encC, List.length_map, encN, Hp.set_set, Hp.get_set_same, List.length_map, u64w, u8w, i64w, hg0_0, hl, hga, hkb]
         (repeat refine And.intro (by first | (unfold Go.Vm.room; and_intros <;> (try simp only [List.length_map, List.length_append, List.length_cons, List.length_nil, List.length_replicate, beW_len]) <;> omega) | omega | (simp; done) | (simp_all; done) | (simp_all; omega)) ?_)
         refine fun g18_5 hg18_5 => ?_
         try simp only [Hp.set_none, Hp.join_none_iff] at hg18_5
         try simp (maxSteps := 4000000) (disch := omega) only [push_cast, Nat.reduceLT, Nat.reduceEqDiff, Nat.reduceAdd, Nat.reduceMul, Nat.reduceSub, Nat.reduceLeDiff, Int.reduceToNat, Int.reduceLT, Int.reduceLE, Int.reduceAdd, Int.reduceSub, Int.reduceMul, Int.reduceNeg, Int.reduceEq, reduceCtorEq, Int.cast_ofNat_Int, Hp.get_set, all_anyC, all_anyP, key_get, cell_get, kid_get, encC, List.length_map, encN, Hp.set_set, Hp.get_set_same, List.length_map, u64w, u8w, i64w, hg0_0, hl, hga, hkb, hg18_5]
         (repeat refine And.intro (by first | (unfold Go.Vm.room; and_intros <;> (try simp only [List.length_map, List.length_append, List.length_cons, List.length_nil, List.length_replicate, beW_len]) <;> omega) | omega | (simp; done) | (simp_all; done) | (simp_all; omega)) ?_)
         refine Qk hK [1, 5, 7, 8, 37, 38, 39] ?_
         clear hK K
         refine S_frz 8 rfl (Hp.set_none.2 hg18_5) ?_
         refine WS.seq ?_
         refine R0 fun K hK => ?_
         try simp (maxSteps := 4000000) (disch := omega) only [push_cast, Nat.reduceLT, Nat.reduceEqDiff, Nat.reduceAdd, Nat.reduceMul, Nat.reduceSub, Nat.reduceLeDiff, Int.reduceToNat, Int.reduceLT, Int.reduceLE, Int.reduceAdd, Int.reduceSub, Int.reduceMul, Int.reduceNeg, Int.reduceEq, reduceCtorEq, Int.cast_ofNat_Int, Hp.get_set, all_anyC, all_anyP, key_get, cell_get, kid_get, encC, List.length_map, encN, Hp.set_set, Hp.get_set_same, List.length_map, u64w, u8w, i64w, hg0_0, hl, hga, hkb, hg18_5]
         (repeat refine And.intro (by first | (unfold Go.Vm.room; and_intros <;> (try simp only [List.length_map, List.length_append, List.length_cons, List.length_nil, List.length_replicate, beW_len]) <;> omega) | omega | (simp; done) | (simp_all; done) | (simp_all; omega)) ?_)
         refine callS (wide_spec ((hd (toR n) ++ bTo n k) ++ [UInt8.ofNat (n.keys.getD k []).length]) 2 ((n.cells.getD k default).len) (by omega) (by omega) (by simp; omega) (by rw [Hp.get_set_same]; simp <;> omega)) (fun v τ h => ?_); obtain ⟨rfl, rfl⟩ := h
         try simp (maxSteps := 4000000) (disch := omega) only [push_cast, Nat.reduceLT, Nat.reduceEqDiff, Nat.reduceAdd, Nat.reduceMul, Nat.reduceSub, Nat.reduceLeDiff, Int.reduceToNat, Int.reduceLT, Int.reduceLE, Int.reduceAdd, Int.reduceSub, Int.reduceMul, Int.reduceNeg, Int.reduceEq, reduceCtorEq, Int.cast_ofNat_Int, Hp.get_set, all_anyC, all_anyP, key_get, cell_get, kid_get, encC, List.length_map, encN, Hp.set_set, Hp.get_set_same, List.length_map, u64w, u8w, i64w, hg0_0, hl, hga, hkb, hg18_5]
         (repeat refine And.intro (by first | (unfold Go.Vm.room; and_intros <;> (try simp only [List.length_map, List.length_append, List.length_cons, List.length_nil, List.length_replicate, beW_len]) <;> omega) | omega | (simp; done) | (simp_all; done) | (simp_all; omega)) ?_)
         refine Qk hK [1, 5, 7, 8, 37, 38, 39] ?_
         clear hK K
         refine WS.seq ?_
         refine R0 fun K hK => ?_
         try simp (maxSteps := 4000000) (disch := omega) only [push_cast, Nat.reduceLT, Nat.reduceEqDiff, Nat.reduceAdd, Nat.reduceMul, Nat.reduceSub, Nat.reduceLeDiff, Int.reduceToNat, Int.reduceLT, Int.reduceLE, Int.reduceAdd, Int.reduceSub, Int.reduceMul, Int.reduceNeg, Int.reduceEq, reduceCtorEq, Int.cast_ofNat_Int, Hp.get_set, all_anyC, all_anyP, key_get, cell_get, kid_get, encC, List.length_map, encN, Hp.set_set, Hp.get_set_same, List.length_map, u64w, u8w, i64w, hg0_0, hl, hga, hkb, hg18_5]
         (repeat refine And.intro (by first | (unfold Go.Vm.room; and_intros <;> (try simp only [List.length_map, List.length_append, List.length_cons, List.length_nil, List.length_replicate, beW_len]) <;> omega) | omega | (simp; done) | (simp_all; done) | (simp_all; omega)) ?_)
         try simp (maxSteps := 4000000) (disch := omega) only [push_cast, Nat.reduceLT, Nat.reduceEqDiff, Nat.reduceAdd, Nat.reduceMul, Nat.reduceSub, Nat.reduceLeDiff, Int.reduceToNat, Int.reduceLT, Int.reduceLE, Int.reduceAdd, Int.reduceSub, Int.reduceMul, Int.reduceNeg, Int.reduceEq, reduceCtorEq, Int.cast_ofNat_Int, Hp.get_set, all_anyC, all_anyP, key_get, cell_get, kid_get, encC, List.length_map, encN, Hp.set_set, Hp.get_set_same, List.length_map, u64w, u8w, i64w, hg0_0, hl, hga, hkb, hg18_5]
         (repeat refine And.intro (by first | (unfold Go.Vm.room; and_intros <;> (try simp only [List.length_map, List.length_append, List.length_cons, List.length_nil, List.length_replicate, beW_len]) <;> omega) | omega | (simp; done) | (simp_all; done) | (simp_all; omega)) ?_)
         try simp (maxSteps := 4000000) (disch := omega) only [push_cast, Nat.reduceLT, Nat.reduceEqDiff, Nat.reduceAdd, Nat.reduceMul, Nat.reduceSub, Nat.reduceLeDiff, Int.reduceToNat, Int.reduceLT, Int.reduceLE, Int.reduceAdd, Int.reduceSub, Int.reduceMul, Int.reduceNeg, Int.reduceEq, reduceCtorEq, Int.cast_ofNat_Int, Hp.get_set, all_anyC, all_anyP, key_get, cell_get, kid_get, encC, List.length_map, encN, Hp.set_set, Hp.get_set_same, List.length_map, u64w, u8w, i64w, hg0_0, hl, hga, hkb, hg18_5]
         (repeat refine And.intro (by first | (unfold Go.Vm.room; and_intros <;> (try simp only [List.length_map, List.length_append, List.length_cons, List.length_nil, List.length_replicate, beW_len]) <;> omega) | omega | (simp; done) | (simp_all; done) | (simp_all; omega)) ?_)
         try simp (maxSteps := 4000000) (disch := omega) only [push_cast, Nat.reduceLT, Nat.reduceEqDiff, Nat.reduceAdd, Nat.reduceMul, Nat.reduceSub, Nat.reduceLeDiff, Int.reduceToNat, Int.reduceLT, Int.reduceLE, Int.reduceAdd, Int.reduceSub, Int.reduceMul, Int.reduceNeg, Int.reduceEq, reduceCtorEq, Int.cast_ofNat_Int, Hp.get_set, all_anyC, all_anyP, key_get, cell_get, kid_get, encC, List.length_map, encN, Hp.set_set, Hp.get_set_same, List.length_map, u64w, u8w, i64w, hg0_0, hl, hga, hkb, hg18_5]
         (repeat refine And.intro (by first | (unfold Go.Vm.room; and_intros <;> (try simp only [List.length_map, List.length_append, List.length_cons, List.length_nil, List.length_replicate, beW_len]) <;> omega) | omega | (simp; done) | (simp_all; done) | (simp_all; omega)) ?_)
         refine Qk hK [1, 5, 8, 37, 38, 39] ?_
         clear hK K
         refine WS.seq ?_
         refine R0 fun K hK => ?_
         try simp (maxSteps := 4000000) (disch := omega) only [push_cast, Nat.reduceLT, Nat.reduceEqDiff, Nat.reduceAdd, Nat.reduceMul, Nat.reduceSub, Nat.reduceLeDiff, Int.reduceToNat, Int.reduceLT, Int.reduceLE, Int.reduceAdd, Int.reduceSub, Int.reduceMul, Int.reduceNeg, Int.reduceEq, reduceCtorEq, Int.cast_ofNat_Int, Hp.get_set, all_anyC, all_anyP, key_get, cell_get, kid_get, encC, List.length_map, encN, Hp.set_set, Hp.get_set_same, List.length_map, u64w, u8w, i64w, hg0_0, hl, hga, hkb, hg18_5]
         (repeat refine And.intro (by first | (unfold Go.Vm.room; and_intros <;> (try simp only [List.length_map, List.length_append, List.length_cons, List.length_nil, List.length_replicate, beW_len]) <;> omega) | omega | (simp; done) | (simp_all; done) | (simp_all; omega)) ?_)
         refine Qk hK [1, 5, 8, 37, 38, 39, 80] ?_
         clear hK K
         refine CI rfl (fun hc => ?_) (fun hc => ?_)
         ·
          all_goals try (cases hc; done)
          all_goals try simp only [push_cast] at hc
          all_goals try (exfalso; omega)
          all_goals
           rw [if_pos hc] at hout
           refine R0 fun K hK => ?_
           try simp (maxSteps := 4000000) (disch := omega) only [push_cast, Nat.reduceLT, Nat.reduceEqDiff, Nat.reduceAdd, Nat.reduceMul, Nat.reduceSub, Nat.reduceLeDiff, Int.reduceToNat, Int.reduceLT, Int.reduceLE, Int.reduceAdd, Int.reduceSub, Int.reduceMul, Int.reduceNeg, Int.reduceEq, reduceCtorEq, Int.cast_ofNat_Int, Hp.get_set, all_anyC, all_anyP, key_get, cell_get, kid_get, encC, List.length_map, encN, Hp.set_set, Hp.get_set_same, List.length_map, u64w, u8w, i64w, hg0_0, hl, hga, hkb, hg18_5]
           (repeat refine And.intro (by first | (unfold Go.Vm.room; and_intros <;> (try simp only [List.length_map, List.length_append, List.length_cons, List.length_nil, List.length_replicate, beW_len]) <;> omega) | omega | (simp; done) | (simp_all; done) | (simp_all; omega)) ?_)
           try simp (maxSteps := 4000000) (disch := omega) only [push_cast, Nat.reduceLT, Nat.reduceEqDiff, Nat.reduceAdd, Nat.reduceMul, Nat.reduceSub, Nat.reduceLeDiff, Int.reduceToNat, Int.reduceLT, Int.reduceLE, Int.reduceAdd, Int.reduceSub, Int.reduceMul, Int.reduceNeg, Int.reduceEq, reduceCtorEq, Int.cast_ofNat_Int, Hp.get_set, all_anyC, all_anyP, key_get, cell_get, kid_get, encC, List.length_map, encN, Hp.set_set, Hp.get_set_same, List.length_map, u64w, u8w, i64w, hg0_0, hl, hga, hkb, hg18_5]
           (repeat refine And.intro (by first | (unfold Go.Vm.room; and_intros <;> (try simp only [List.length_map, List.length_append, List.length_cons, List.length_nil, List.length_replicate, beW_len]) <;> omega) | omega | (simp; done) | (simp_all; done) | (simp_all; omega)) ?_)
           try simp (maxSteps := 4000000) (disch := omega) only [push_cast, Nat.reduceLT, Nat.reduceEqDiff, Nat.reduceAdd, Nat.reduceMul, Nat.reduceSub, Nat.reduceLeDiff, Int.reduceToNat, Int.reduceLT, Int.reduceLE, Int.reduceAdd, Int.reduceSub, Int.reduceMul, Int.reduceNeg, Int.reduceEq, reduceCtorEq, Int.cast_ofNat_Int, Hp.get_set, all_anyC, all_anyP, key_get, cell_get, kid_get, encC, List.length_map, encN, Hp.set_set, Hp.get_set_same, List.length_map, u64w, u8w, i64w, hg0_0, hl, hga, hkb, hg18_5]
           (repeat refine And.intro (by first | (unfold Go.Vm.room; and_intros <;> (try simp only [List.length_map, List.length_append, List.length_cons, List.length_nil, List.length_replicate, beW_len]) <;> omega) | omega | (simp; done) | (simp_all; done) | (simp_all; omega)) ?_)
           try simp (maxSteps := 4000000) (disch := omega) only [push_cast, Nat.reduceLT, Nat.reduceEqDiff, Nat.reduceAdd, Nat.reduceMul, Nat.reduceSub, Nat.reduceLeDiff, Int.reduceToNat, Int.reduceLT, Int.reduceLE, Int.reduceAdd, Int.reduceSub, Int.reduceMul, Int.reduceNeg, Int.reduceEq, reduceCtorEq, Int.cast_ofNat_Int, Hp.get_set, all_anyC, all_anyP, key_get, cell_get, kid_get, encC, List.length_map, encN, Hp.set_set, Hp.get_set_same, List.length_map, u64w, u8w, i64w, hg0_0, hl, hga, hkb, hg18_5]
           (repeat refine And.intro (by first | (unfold Go.Vm.room; and_intros <;> (try simp only [List.length_map, List.length_append, List.length_cons, List.length_nil, List.length_replicate, beW_len]) <;> omega) | omega | (simp; done) | (simp_all; done) | (simp_all; omega)) ?_)
           refine Qk hK [1, 5, 37, 38, 39] ?_
           clear hK K
           simp only [push_cast, WS, Nat.reduceEqDiff]
           refine hK2 _ _ ?_
           clear hK2
           try clear K2
           refine WS_keep [1, 5, 37, 38, 39] _ ?_
           refine R0 fun K hK => ?_
           try simp (maxSteps := 4000000) (disch := omega) only [push_cast, Nat.reduceLT, Nat.reduceEqDiff, Int.reduceToNat, Int.reduceLT, Int.reduceLE, Int.reduceAdd, Int.reduceSub, Int.reduceMul, Int.reduceNeg, Int.reduceEq, reduceCtorEq, Int.cast_ofNat_Int, Hp.get_set, all_anyC, all_anyP, key_get, cell_get, kid_get, encC, List.length_map, encN, Hp.set_set, Hp.get_set_same, List.length_map, u64w, u8w, i64w, hg0_0, hl, hga, hkb, hg18_5]
           (repeat refine And.intro (by first | (unfold Go.Vm.room; and_intros <;> (try simp only [List.length_map, List.length_append, List.length_cons, List.length_nil, List.length_replicate, beW_len]) <;> omega) | omega | (simp; done) | (simp_all; done) | (simp_all; omega)) ?_)
           refine Qk hK [1, 5, 37, 38, 39] ?_
           clear hK K
           refine Ag (hM1 _ _ ?_)
           refine ⟨_, ?_, k + 1,  rfl, ?_, ?_, ?_⟩
           · first | omega | (simp; done) | (simp_all; done) | (simp_all; omega)
           · (try simp (disch := omega) only [push_cast, Int.reduceToNat, Int.reduceLT, Int.reduceLE, Int.reduceAdd, Int.reduceSub, Int.reduceMul, Int.reduceNeg, Int.reduceEq, reduceCtorEq, Nat.reduceLeDiff, Nat.reduceLT, Nat.reduceEqDiff, Nat.reduceAdd, Nat.reduceMul, Nat.reduceSub, Int.cast_ofNat_Int, all_anyC, all_anyP, key_get, cell_get, kid_get, encC, List.length_map, encN, Hp.set_set, Hp.get_set_same, List.length_map, u64w, u8w, i64w, hg0_0, hl, hga, hkb, hg18_5]) <;> (first | done | rfl | (simp [hd, toR, hl, parts_len, bTo_zero, beW_len, u8]; done) | (rw [hout]; simp only [List.map_append, List.append_assoc]; done) | (rw [hout]; simp only [Hp.set_set, List.length_append, List.length_cons, List.length_nil, List.length_map, beW_len]; congr 2 <;> omega) | (rw [hout]; simp only [Hp.set_set, List.length_append, List.length_cons, List.length_nil, List.length_map, beW_len]; done) | (simp; done) | (simp; omega) | omega | (simp_all; done) | (simp_all; omega))
           · first | rfl | (try simp (disch := omega) only [push_cast, Int.reduceToNat, Int.reduceLT, Int.reduceLE, Int.reduceAdd, Int.reduceSub, Int.reduceMul, Int.reduceNeg, Int.reduceEq, reduceCtorEq, Nat.reduceLeDiff, Nat.reduceLT, Nat.reduceEqDiff, Nat.reduceAdd, Nat.reduceMul, Nat.reduceSub, Int.cast_ofNat_Int, all_anyC, all_anyP, key_get, cell_get, kid_get, encC, List.length_map, encN, Hp.set_set, Hp.get_set_same, List.length_map, u64w, u8w, i64w, hg0_0, hl, hga, hkb, hg18_5]) <;> (first | done | rfl | (simp [hd, toR, hl, parts_len, bTo_zero, beW_len, u8]; done) | (rw [hout]; simp only [List.map_append, List.append_assoc]; done) | (rw [hout]; simp only [Hp.set_set, List.length_append, List.length_cons, List.length_nil, List.length_map, beW_len]; congr 2 <;> omega) | (rw [hout]; simp only [Hp.set_set, List.length_append, List.length_cons, List.length_nil, List.length_map, beW_len]; done) | (simp; done) | (simp; omega) | omega | (simp_all; done) | (simp_all; omega))
           · first | omega | (simp; done) | (simp_all; done) | (simp_all; omega)
         ·
          all_goals try (cases hc; done)
          all_goals try simp only [push_cast] at hc
          all_goals try (exfalso; omega)
          all_goals
           rw [if_neg (by omega)] at hout
           refine R0 fun K hK => ?_
           try simp (maxSteps := 4000000) (disch := omega) only [push_cast, Nat.reduceLT, Nat.reduceEqDiff, Nat.reduceAdd, Nat.reduceMul, Nat.reduceSub, Nat.reduceLeDiff, Int.reduceToNat, Int.reduceLT, Int.reduceLE, Int.reduceAdd, Int.reduceSub, Int.reduceMul, Int.reduceNeg, Int.reduceEq, reduceCtorEq, Int.cast_ofNat_Int, Hp.get_set, all_anyC, all_anyP, key_get, cell_get, kid_get, encC, List.length_map, encN, Hp.set_set, Hp.get_set_same, List.length_map, u64w, u8w, i64w, hg0_0, hl, hga, hkb, hg18_5]
           (repeat refine And.intro (by first | (unfold Go.Vm.room; and_intros <;> (try simp only [List.length_map, List.length_append, List.length_cons, List.length_nil, List.length_replicate, beW_len]) <;> omega) | omega | (simp; done) | (simp_all; done) | (simp_all; omega)) ?_)
           try simp (maxSteps := 4000000) (disch := omega) only [push_cast, Nat.reduceLT, Nat.reduceEqDiff, Nat.reduceAdd, Nat.reduceMul, Nat.reduceSub, Nat.reduceLeDiff, Int.reduceToNat, Int.reduceLT, Int.reduceLE, Int.reduceAdd, Int.reduceSub, Int.reduceMul, Int.reduceNeg, Int.reduceEq, reduceCtorEq, Int.cast_ofNat_Int, Hp.get_set, all_anyC, all_anyP, key_get, cell_get, kid_get, encC, List.length_map, encN, Hp.set_set, Hp.get_set_same, List.length_map, u64w, u8w, i64w, hg0_0, hl, hga, hkb, hg18_5]
           (repeat refine And.intro (by first | (unfold Go.Vm.room; and_intros <;> (try simp only [List.length_map, List.length_append, List.length_cons, List.length_nil, List.length_replicate, beW_len]) <;> omega) | omega | (simp; done) | (simp_all; done) | (simp_all; omega)) ?_)
           refine callP (page_spec _ (by first | (unfold Go.Vm.room; and_intros <;> (try simp only [List.length_map, List.length_append, List.length_cons, List.length_nil, List.length_replicate, beW_len]) <;> omega) | omega | (simp; done) | (simp_all; done) | (simp_all; omega))) rfl ?_
           try simp (maxSteps := 4000000) (disch := omega) only [push_cast, Nat.reduceLT, Nat.reduceEqDiff, Nat.reduceAdd, Nat.reduceMul, Nat.reduceSub, Nat.reduceLeDiff, Int.reduceToNat, Int.reduceLT, Int.reduceLE, Int.reduceAdd, Int.reduceSub, Int.reduceMul, Int.reduceNeg, Int.reduceEq, reduceCtorEq, Int.cast_ofNat_Int, Hp.get_set, all_anyC, all_anyP, key_get, cell_get, kid_get, encC, List.length_map, encN, Hp.set_set, Hp.get_set_same, List.length_map, u64w, u8w, i64w, hg0_0, hl, hga, hkb, hg18_5]
           (repeat refine And.intro (by first | (unfold Go.Vm.room; and_intros <;> (try simp only [List.length_map, List.length_append, List.length_cons, List.length_nil, List.length_replicate, beW_len]) <;> omega) | omega | (simp; done) | (simp_all; done) | (simp_all; omega)) ?_)
           try simp (maxSteps := 4000000) (disch := omega) only [push_cast, Nat.reduceLT, Nat.reduceEqDiff, Nat.reduceAdd, Nat.reduceMul, Nat.reduceSub, Nat.reduceLeDiff, Int.reduceToNat, Int.reduceLT, Int.reduceLE, Int.reduceAdd, Int.reduceSub, Int.reduceMul, Int.reduceNeg, Int.reduceEq, reduceCtorEq, Int.cast_ofNat_Int, Hp.get_set, all_anyC, all_anyP, key_get, cell_get, kid_get, encC, List.length_map, encN, Hp.set_set, Hp.get_set_same, List.length_map, u64w, u8w, i64w, hg0_0, hl, hga, hkb, hg18_5]
           (repeat refine And.intro (by first | (unfold Go.Vm.room; and_intros <;> (try simp only [List.length_map, List.length_append, List.length_cons, List.length_nil, List.length_replicate, beW_len]) <;> omega) | omega | (simp; done) | (simp_all; done) | (simp_all; omega)) ?_)
           try simp (maxSteps := 4000000) (disch := omega) only [push_cast, Nat.reduceLT, Nat.reduceEqDiff, Nat.reduceAdd, Nat.reduceMul, Nat.reduceSub, Nat.reduceLeDiff, Int.reduceToNat, Int.reduceLT, Int.reduceLE, Int.reduceAdd, Int.reduceSub, Int.reduceMul, Int.reduceNeg, Int.reduceEq, reduceCtorEq, Int.cast_ofNat_Int, Hp.get_set, all_anyC, all_anyP, key_get, cell_get, kid_get, encC, List.length_map, encN, Hp.set_set, Hp.get_set_same, List.length_map, u64w, u8w, i64w, hg0_0, hl, hga, hkb, hg18_5]
           (repeat refine And.intro (by first | (unfold Go.Vm.room; and_intros <;> (try simp only [List.length_map, List.length_append, List.length_cons, List.length_nil, List.length_replicate, beW_len]) <;> omega) | omega | (simp; done) | (simp_all; done) | (simp_all; omega)) ?_)
           try simp (maxSteps := 4000000) (disch := omega) only [push_cast, Nat.reduceLT, Nat.reduceEqDiff, Nat.reduceAdd, Nat.reduceMul, Nat.reduceSub, Nat.reduceLeDiff, Int.reduceToNat, Int.reduceLT, Int.reduceLE, Int.reduceAdd, Int.reduceSub, Int.reduceMul, Int.reduceNeg, Int.reduceEq, reduceCtorEq, Int.cast_ofNat_Int, Hp.get_set, all_anyC, all_anyP, key_get, cell_get, kid_get, encC, List.length_map, encN, Hp.set_set, Hp.get_set_same, List.length_map, u64w, u8w, i64w, hg0_0, hl, hga, hkb, hg18_5]
           (repeat refine And.intro (by first | (unfold Go.Vm.room; and_intros <;> (try simp only [List.length_map, List.length_append, List.length_cons, List.length_nil, List.length_replicate, beW_len]) <;> omega) | omega | (simp; done) | (simp_all; done) | (simp_all; omega)) ?_)
           refine Qk hK [1, 5, 37, 38, 39] ?_
           clear hK K
           simp only [push_cast, WS, Nat.reduceEqDiff]
           refine hK2 _ _ ?_
           clear hK2
           try clear K2
           refine WS_keep [1, 5, 37, 38, 39] _ ?_
           refine R0 fun K hK => ?_
           try simp (maxSteps := 4000000) (disch := omega) only [push_cast, Nat.reduceLT, Nat.reduceEqDiff, Int.reduceToNat, Int.reduceLT, Int.reduceLE, Int.reduceAdd, Int.reduceSub, Int.reduceMul, Int.reduceNeg, Int.reduceEq, reduceCtorEq, Int.cast_ofNat_Int, Hp.get_set, all_anyC, all_anyP, key_get, cell_get, kid_get, encC, List.length_map, encN, Hp.set_set, Hp.get_set_same, List.length_map, u64w, u8w, i64w, hg0_0, hl, hga, hkb, hg18_5]
           (repeat refine And.intro (by first | (unfold Go.Vm.room; and_intros <;> (try simp only [List.length_map, List.length_append, List.length_cons, List.length_nil, List.length_replicate, beW_len]) <;> omega) | omega | (simp; done) | (simp_all; done) | (simp_all; omega)) ?_)
           refine Qk hK [1, 5, 37, 38, 39] ?_
           clear hK K
           refine Ag (hM1 _ _ ?_)
           refine ⟨_, ?_, k + 1,  rfl, ?_, ?_, ?_⟩
           · first | omega | (simp; done) | (simp_all; done) | (simp_all; omega)
           · (try simp (disch := omega) only [push_cast, Int.reduceToNat, Int.reduceLT, Int.reduceLE, Int.reduceAdd, Int.reduceSub, Int.reduceMul, Int.reduceNeg, Int.reduceEq, reduceCtorEq, Nat.reduceLeDiff, Nat.reduceLT, Nat.reduceEqDiff, Nat.reduceAdd, Nat.reduceMul, Nat.reduceSub, Int.cast_ofNat_Int, all_anyC, all_anyP, key_get, cell_get, kid_get, encC, List.length_map, encN, Hp.set_set, Hp.get_set_same, List.length_map, u64w, u8w, i64w, hg0_0, hl, hga, hkb, hg18_5]) <;> (first | done | rfl | (simp [hd, toR, hl, parts_len, bTo_zero, beW_len, u8]; done) | (rw [hout]; simp only [List.map_append, List.append_assoc]; done) | (rw [hout]; simp only [Hp.set_set, List.length_append, List.length_cons, List.length_nil, List.length_map, beW_len]; congr 2 <;> omega) | (rw [hout]; simp only [Hp.set_set, List.length_append, List.length_cons, List.length_nil, List.length_map, beW_len]; done) | (simp; done) | (simp; omega) | omega | (simp_all; done) | (simp_all; omega))
           · first | rfl | (try simp (disch := omega) only [push_cast, Int.reduceToNat, Int.reduceLT, Int.reduceLE, Int.reduceAdd, Int.reduceSub, Int.reduceMul, Int.reduceNeg, Int.reduceEq, reduceCtorEq, Nat.reduceLeDiff, Nat.reduceLT, Nat.reduceEqDiff, Nat.reduceAdd, Nat.reduceMul, Nat.reduceSub, Int.cast_ofNat_Int, all_anyC, all_anyP, key_get, cell_get, kid_get, encC, List.length_map, encN, Hp.set_set, Hp.get_set_same, List.length_map, u64w, u8w, i64w, hg0_0, hl, hga, hkb, hg18_5]) <;> (first | done | rfl | (simp [hd, toR, hl, parts_len, bTo_zero, beW_len, u8]; done) | (rw [hout]; simp only [List.map_append, List.append_assoc]; done) | (rw [hout]; simp only [Hp.set_set, List.length_append, List.length_cons, List.length_nil, List.length_map, beW_len]; congr 2 <;> omega) | (rw [hout]; simp only [Hp.set_set, List.length_append, List.length_cons, List.length_nil, List.length_map, beW_len]; done) | (simp; done) | (simp; omega) | omega | (simp_all; done) | (simp_all; omega))
           · first | omega | (simp; done) | (simp_all; done) | (simp_all; omega)
     ·
      all_goals try (cases hc; done)
      all_goals try simp only [push_cast] at hc
      all_goals try (exfalso; omega)
      all_goals
       refine Sk ?_
       refine WS.seq (WS.seq ?_)
       refine R0 fun K hK => ?_
       try simp (maxSteps := 4000000) (disch := omega) only [push_cast, Nat.reduceLT, Nat.reduceEqDiff, Nat.reduceAdd, Nat.reduceMul, Nat.reduceSub, Nat.reduceLeDiff, Int.reduceToNat, Int.reduceLT, Int.reduceLE, Int.reduceAdd, Int.reduceSub, Int.reduceMul, Int.reduceNeg, Int.reduceEq, reduceCtorEq, Int.cast_ofNat_Int, Hp.get_set, all_anyC, all_anyP, key_get, cell_get, kid_get, encC, List.length_map, encN, Hp.set_set, Hp.get_set_same, List.length_map, u64w, u8w, i64w, hg0_0, hl, hga]
       (repeat refine And.intro (by first | (unfold Go.Vm.room; and_intros <;> (try simp only [List.length_map, List.length_append, List.length_cons, List.length_nil, List.length_replicate, beW_len]) <;> omega) | omega | (simp; done) | (simp_all; done) | (simp_all; omega)) ?_)
       refine Qk hK [1, 5, 37, 38, 39] ?_
       clear hK K
       refine Bk fun K1 hK1 => ?_
       refine WS_keep [1, 5, 37, 38, 39] _ ?_
       refine Lp (fun m env σ' => ∃ (k : Nat), m = n.keys.length - k ∧ env = [(1, .pv [.bool n.leaf, .sl 1 (n.keys.map st) .no, .sl 3 (n.cells.map encC) .no, .sl 1 (n.kids.map (V.int .i64)) .no]), (5, .sl 1 ((hd (toR n) ++ bTo n k).map u8) (.tk ga)), (37, .sl 1 (n.keys.map st) .no), (38, .int .i64 n.keys.length), (39, .int .i64 k)] ∧ σ' = Hp.empty.set ga (.tok 1 (hd (toR n) ++ bTo n k).length) ∧ (k ≤ n.keys.length)) ?_ ?_
       · refine ⟨_, 0,  rfl, ?_, ?_, ?_⟩
         · (try simp (disch := omega) only [push_cast, Int.reduceToNat, Int.reduceLT, Int.reduceLE, Int.reduceAdd, Int.reduceSub, Int.reduceMul, Int.reduceNeg, Int.reduceEq, reduceCtorEq, Nat.reduceLeDiff, Nat.reduceLT, Nat.reduceEqDiff, Nat.reduceAdd, Nat.reduceMul, Nat.reduceSub, Int.cast_ofNat_Int, all_anyC, all_anyP, key_get, cell_get, kid_get, encC, List.length_map, encN, Hp.set_set, Hp.get_set_same, List.length_map, u64w, u8w, i64w, hg0_0, hl, hga]) <;> (first | done | rfl | (simp [hd, toR, hl, parts_len, bTo_zero, beW_len, u8]; done) | (rw [hout]; simp only [List.map_append, List.append_assoc]; done) | (rw [hout]; simp only [Hp.set_set, List.length_append, List.length_cons, List.length_nil, List.length_map, beW_len]; congr 2 <;> omega) | (rw [hout]; simp only [Hp.set_set, List.length_append, List.length_cons, List.length_nil, List.length_map, beW_len]; done) | (simp; done) | (simp; omega) | omega | (simp_all; done) | (simp_all; omega))
         · first | rfl | (try simp (disch := omega) only [push_cast, Int.reduceToNat, Int.reduceLT, Int.reduceLE, Int.reduceAdd, Int.reduceSub, Int.reduceMul, Int.reduceNeg, Int.reduceEq, reduceCtorEq, Nat.reduceLeDiff, Nat.reduceLT, Nat.reduceEqDiff, Nat.reduceAdd, Nat.reduceMul, Nat.reduceSub, Int.cast_ofNat_Int, all_anyC, all_anyP, key_get, cell_get, kid_get, encC, List.length_map, encN, Hp.set_set, Hp.get_set_same, List.length_map, u64w, u8w, i64w, hg0_0, hl, hga]) <;> (first | done | rfl | (simp [hd, toR, hl, parts_len, bTo_zero, beW_len, u8]; done) | (rw [hout]; simp only [List.map_append, List.append_assoc]; done) | (rw [hout]; simp only [Hp.set_set, List.length_append, List.length_cons, List.length_nil, List.length_map, beW_len]; congr 2 <;> omega) | (rw [hout]; simp only [Hp.set_set, List.length_append, List.length_cons, List.length_nil, List.length_map, beW_len]; done) | (simp; done) | (simp; omega) | omega | (simp_all; done) | (simp_all; omega))
         · first | omega | (simp; done) | (simp_all; done) | (simp_all; omega)
       intro m env σ' hJ M1 hM1
       obtain ⟨k, rfl, rfl, rfl, hk⟩ := hJ
       have hbk := bTo_mono hk
       have hol : (hd (toR n) ++ bTo n k).length = (hd (toR n)).length + (bTo n k).length := List.length_append
       refine WS.seq ?_
       refine R0 fun K hK => ?_
       try simp (maxSteps := 4000000) (disch := omega) only [push_cast, Nat.reduceLT, Nat.reduceEqDiff, Int.reduceToNat, Int.reduceLT, Int.reduceLE, Int.reduceAdd, Int.reduceSub, Int.reduceMul, Int.reduceNeg, Int.reduceEq, reduceCtorEq, Int.cast_ofNat_Int, Hp.get_set, all_anyC, all_anyP, key_get, cell_get, kid_get, encC, List.length_map, encN, Hp.set_set, Hp.get_set_same, List.length_map, u64w, u8w, i64w, hg0_0, hl, hga]
       refine Qk hK [1, 5, 37, 38, 39, 40] ?_
       clear hK K
       refine WS.seq ?_
       refine CI rfl (fun hc => ?_) (fun hc => ?_)
       rotate_left
       ·
        all_goals try (cases hc; done)
        all_goals try simp only [push_cast] at hc
        all_goals try (exfalso; omega)
        all_goals
         obtain rfl : k = n.keys.length := by omega
         have hos : (hd (toR n) ++ bTo n n.keys.length).length = sizeN n := by omega
         have htn : ((512 : Int) - (sizeN n : Int)).toNat = 512 - sizeN n := by omega
         refine Ex ?_
         simp only [push_cast, WS, Nat.reduceEqDiff]
         refine hK1 _ _ ?_
         clear hK1
         try clear K1
         refine WS_keep [5] _ ?_
         refine WS.seq ?_
         refine R0 fun K hK => ?_
         try simp (maxSteps := 4000000) (disch := omega) only [push_cast, Nat.reduceLT, Nat.reduceEqDiff, Nat.reduceAdd, Nat.reduceMul, Nat.reduceSub, Nat.reduceLeDiff, Int.reduceToNat, Int.reduceLT, Int.reduceLE, Int.reduceAdd, Int.reduceSub, Int.reduceMul, Int.reduceNeg, Int.reduceEq, reduceCtorEq, Int.cast_ofNat_Int, Hp.get_set, all_anyC, all_anyP, key_get, cell_get, kid_get, encC, List.length_map, encN, Hp.set_set, Hp.get_set_same, List.length_map, u64w, u8w, i64w, hg0_0, hl, hga, hos, htn]
         (repeat refine And.intro (by first | (unfold Go.Vm.room; and_intros <;> (try simp only [List.length_map, List.length_append, List.length_cons, List.length_nil, List.length_replicate, beW_len]) <;> omega) | omega | (simp; done) | (simp_all; done) | (simp_all; omega)) ?_)
         try simp (maxSteps := 4000000) (disch := omega) only [push_cast, Nat.reduceLT, Nat.reduceEqDiff, Nat.reduceAdd, Nat.reduceMul, Nat.reduceSub, Nat.reduceLeDiff, Int.reduceToNat, Int.reduceLT, Int.reduceLE, Int.reduceAdd, Int.reduceSub, Int.reduceMul, Int.reduceNeg, Int.reduceEq, reduceCtorEq, Int.cast_ofNat_Int, Hp.get_set, all_anyC, all_anyP, key_get, cell_get, kid_get, encC, List.length_map, encN, Hp.set_set, Hp.get_set_same, List.length_map, u64w, u8w, i64w, hg0_0, hl, hga, hos, htn]
         (repeat refine And.intro (by first | (unfold Go.Vm.room; and_intros <;> (try simp only [List.length_map, List.length_append, List.length_cons, List.length_nil, List.length_replicate, beW_len]) <;> omega) | omega | (simp; done) | (simp_all; done) | (simp_all; omega)) ?_)
         try simp (maxSteps := 4000000) (disch := omega) only [push_cast, Nat.reduceLT, Nat.reduceEqDiff, Nat.reduceAdd, Nat.reduceMul, Nat.reduceSub, Nat.reduceLeDiff, Int.reduceToNat, Int.reduceLT, Int.reduceLE, Int.reduceAdd, Int.reduceSub, Int.reduceMul, Int.reduceNeg, Int.reduceEq, reduceCtorEq, Int.cast_ofNat_Int, Hp.get_set, all_anyC, all_anyP, key_get, cell_get, kid_get, encC, List.length_map, encN, Hp.set_set, Hp.get_set_same, List.length_map, u64w, u8w, i64w, hg0_0, hl, hga, hos, htn]
         (repeat refine And.intro (by first | (unfold Go.Vm.room; and_intros <;> (try simp only [List.length_map, List.length_append, List.length_cons, List.length_nil, List.length_replicate, beW_len]) <;> omega) | omega | (simp; done) | (simp_all; done) | (simp_all; omega)) ?_)
         try simp (maxSteps := 4000000) (disch := omega) only [push_cast, Nat.reduceLT, Nat.reduceEqDiff, Nat.reduceAdd, Nat.reduceMul, Nat.reduceSub, Nat.reduceLeDiff, Int.reduceToNat, Int.reduceLT, Int.reduceLE, Int.reduceAdd, Int.reduceSub, Int.reduceMul, Int.reduceNeg, Int.reduceEq, reduceCtorEq, Int.cast_ofNat_Int, Hp.get_set, all_anyC, all_anyP, key_get, cell_get, kid_get, encC, List.length_map, encN, Hp.set_set, Hp.get_set_same, List.length_map, u64w, u8w, i64w, hg0_0, hl, hga, hos, htn]
         (repeat refine And.intro (by first | (unfold Go.Vm.room; and_intros <;> (try simp only [List.length_map, List.length_append, List.length_cons, List.length_nil, List.length_replicate, beW_len]) <;> omega) | omega | (simp; done) | (simp_all; done) | (simp_all; omega)) ?_)
         refine Qk hK [2, 3] ?_
         clear hK K
         refine S_wk 2 rfl (Wk.untag _ _ _) ?_
         refine Rt ?_
         refine hQ0 _ _ _ ?_
         try simp (maxSteps := 4000000) only [push_cast, Int.reduceToNat, Int.reduceLT, Int.reduceLE, Int.reduceAdd, Int.reduceSub, Int.reduceMul, Int.reduceNeg, Int.reduceEq, reduceCtorEq, Nat.reduceLeDiff, Nat.reduceLT, Nat.reduceEqDiff, Nat.reduceAdd, Nat.reduceMul, Nat.reduceSub, Int.cast_ofNat_Int, all_anyC, all_anyP, key_get, cell_get, kid_get, encC, List.length_map, encN, Hp.set_set, Hp.get_set_same, List.length_map, u64w, u8w, i64w, hg0_0, hl, hga, hos, htn]
         rw [writeN_ok hr hsz5, page_eq]
         simp
       all_goals try (cases hc; done)
       all_goals try simp only [push_cast] at hc
       all_goals try (exfalso; omega)
       all_goals
        have hkk : k < n.keys.length := by omega
        have hky := (right_keys hr k hkk).1
        have hkb := key_byte (hd (toR n) ++ bTo n k) hky
        have hb1 := congrArg List.length (bTo_succ hkk)
        have hbp := pbl_le hr hkk
        refine Sk ?_
        refine WS.seq ?_
        refine Bk fun K2 hK2 => ?_
        refine WS.seq ?_
        refine R0 fun K hK => ?_
        try simp (maxSteps := 4000000) (disch := omega) only [push_cast, Nat.reduceLT, Nat.reduceEqDiff, Nat.reduceAdd, Nat.reduceMul, Nat.reduceSub, Nat.reduceLeDiff, Int.reduceToNat, Int.reduceLT, Int.reduceLE, Int.reduceAdd, Int.reduceSub, Int.reduceMul, Int.reduceNeg, Int.reduceEq, reduceCtorEq, Int.cast_ofNat_Int, Hp.get_set, all_anyC, all_anyP, key_get, cell_get, kid_get, encC, List.length_map, encN, Hp.set_set, Hp.get_set_same, List.length_map, u64w, u8w, i64w, hg0_0, hl, hga, hkb]
        (repeat refine And.intro (by first | (unfold Go.Vm.room; and_intros <;> (try simp only [List.length_map, List.length_append, List.length_cons, List.length_nil, List.length_replicate, beW_len]) <;> omega) | omega | (simp; done) | (simp_all; done) | (simp_all; omega)) ?_)
        refine Qk hK [1, 5, 6, 7, 37, 38, 39] ?_
        clear hK K
        refine WS.seq ?_
        refine R0 fun K hK => ?_
        try simp (maxSteps := 4000000) (disch := omega) only [push_cast, Nat.reduceLT, Nat.reduceEqDiff, Nat.reduceAdd, Nat.reduceMul, Nat.reduceSub, Nat.reduceLeDiff, Int.reduceToNat, Int.reduceLT, Int.reduceLE, Int.reduceAdd, Int.reduceSub, Int.reduceMul, Int.reduceNeg, Int.reduceEq, reduceCtorEq, Int.cast_ofNat_Int, Hp.get_set, all_anyC, all_anyP, key_get, cell_get, kid_get, encC, List.length_map, encN, Hp.set_set, Hp.get_set_same, List.length_map, u64w, u8w, i64w, hg0_0, hl, hga, hkb]
        (repeat refine And.intro (by first | (unfold Go.Vm.room; and_intros <;> (try simp only [List.length_map, List.length_append, List.length_cons, List.length_nil, List.length_replicate, beW_len]) <;> omega) | omega | (simp; done) | (simp_all; done) | (simp_all; omega)) ?_)
        try simp (maxSteps := 4000000) (disch := omega) only [push_cast, Nat.reduceLT, Nat.reduceEqDiff, Nat.reduceAdd, Nat.reduceMul, Nat.reduceSub, Nat.reduceLeDiff, Int.reduceToNat, Int.reduceLT, Int.reduceLE, Int.reduceAdd, Int.reduceSub, Int.reduceMul, Int.reduceNeg, Int.reduceEq, reduceCtorEq, Int.cast_ofNat_Int, Hp.get_set, all_anyC, all_anyP, key_get, cell_get, kid_get, encC, List.length_map, encN, Hp.set_set, Hp.get_set_same, List.length_map, u64w, u8w, i64w, hg0_0, hl, hga, hkb]
        (repeat refine And.intro (by first | (unfold Go.Vm.room; and_intros <;> (try simp only [List.length_map, List.length_append, List.length_cons, List.length_nil, List.length_replicate, beW_len]) <;> omega) | omega | (simp; done) | (simp_all; done) | (simp_all; omega)) ?_)
        try simp (maxSteps := 4000000) (disch := omega) only [push_cast, Nat.reduceLT, Nat.reduceEqDiff, Nat.reduceAdd, Nat.reduceMul, Nat.reduceSub, Nat.reduceLeDiff, Int.reduceToNat, Int.reduceLT, Int.reduceLE, Int.reduceAdd, Int.reduceSub, Int.reduceMul, Int.reduceNeg, Int.reduceEq, reduceCtorEq, Int.cast_ofNat_Int, Hp.get_set, all_anyC, all_anyP, key_get, cell_get, kid_get, encC, List.length_map, encN, Hp.set_set, Hp.get_set_same, List.length_map, u64w, u8w, i64w, hg0_0, hl, hga, hkb]
        (repeat refine And.intro (by first | (unfold Go.Vm.room; and_intros <;> (try simp only [List.length_map, List.length_append, List.length_cons, List.length_nil, List.length_replicate, beW_len]) <;> omega) | omega | (simp; done) | (simp_all; done) | (simp_all; omega)) ?_)
        try simp (maxSteps := 4000000) (disch := omega) only [push_cast, Nat.reduceLT, Nat.reduceEqDiff, Nat.reduceAdd, Nat.reduceMul, Nat.reduceSub, Nat.reduceLeDiff, Int.reduceToNat, Int.reduceLT, Int.reduceLE, Int.reduceAdd, Int.reduceSub, Int.reduceMul, Int.reduceNeg, Int.reduceEq, reduceCtorEq, Int.cast_ofNat_Int, Hp.get_set, all_anyC, all_anyP, key_get, cell_get, kid_get, encC, List.length_map, encN, Hp.set_set, Hp.get_set_same, List.length_map, u64w, u8w, i64w, hg0_0, hl, hga, hkb]
        (repeat refine And.intro (by first | (unfold Go.Vm.room; and_intros <;> (try simp only [List.length_map, List.length_append, List.length_cons, List.length_nil, List.length_replicate, beW_len]) <;> omega) | omega | (simp; done) | (simp_all; done) | (simp_all; omega)) ?_)
        refine Qk hK [1, 5, 6, 7, 37, 38, 39] ?_
        clear hK K
        refine WS.seq (WS.seq ?_)
        refine R0 fun K hK => ?_
        try simp (maxSteps := 4000000) (disch := omega) only [push_cast, Nat.reduceLT, Nat.reduceEqDiff, Nat.reduceAdd, Nat.reduceMul, Nat.reduceSub, Nat.reduceLeDiff, Int.reduceToNat, Int.reduceLT, Int.reduceLE, Int.reduceAdd, Int.reduceSub, Int.reduceMul, Int.reduceNeg, Int.reduceEq, reduceCtorEq, Int.cast_ofNat_Int, Hp.get_set, all_anyC, all_anyP, key_get, cell_get, kid_get, encC, List.length_map, encN, Hp.set_set, Hp.get_set_same, List.length_map, u64w, u8w, i64w, hg0_0, hl, hga, hkb]
        (repeat refine And.intro (by first | (unfold Go.Vm.room; and_intros <;> (try simp only [List.length_map, List.length_append, List.length_cons, List.length_nil, List.length_replicate, beW_len]) <;> omega) | omega | (simp; done) | (simp_all; done) | (simp_all; omega)) ?_)
        refine Qk hK [1, 5, 6, 7, 37, 38, 39, 52] ?_
        clear hK K
        refine CI rfl (fun hc => ?_) (fun hc => ?_)
        ·
         all_goals try (cases hc; done)
         all_goals try simp only [push_cast] at hc
         all_goals try (exfalso; omega)
         all_goals
          have hki := (shape_inner (right_shape hr) hl).1
          have hkd := right_kid hr hl (i := k + 1) (by omega)
          have hout := out_inner hl hkk
          refine WS.seq ?_
          refine R0 fun K hK => ?_
          try simp (maxSteps := 4000000) (disch := omega) only [push_cast, Nat.reduceLT, Nat.reduceEqDiff, Nat.reduceAdd, Nat.reduceMul, Nat.reduceSub, Nat.reduceLeDiff, Int.reduceToNat, Int.reduceLT, Int.reduceLE, Int.reduceAdd, Int.reduceSub, Int.reduceMul, Int.reduceNeg, Int.reduceEq, reduceCtorEq, Int.cast_ofNat_Int, Hp.get_set, all_anyC, all_anyP, key_get, cell_get, kid_get, encC, List.length_map, encN, Hp.set_set, Hp.get_set_same, List.length_map, u64w, u8w, i64w, hg0_0, hl, hga, hkb]
          (repeat refine And.intro (by first | (unfold Go.Vm.room; and_intros <;> (try simp only [List.length_map, List.length_append, List.length_cons, List.length_nil, List.length_replicate, beW_len]) <;> omega) | omega | (simp; done) | (simp_all; done) | (simp_all; omega)) ?_)
          try simp (maxSteps := 4000000) (disch := omega) only [push_cast, Nat.reduceLT, Nat.reduceEqDiff, Nat.reduceAdd, Nat.reduceMul, Nat.reduceSub, Nat.reduceLeDiff, Int.reduceToNat, Int.reduceLT, Int.reduceLE, Int.reduceAdd, Int.reduceSub, Int.reduceMul, Int.reduceNeg, Int.reduceEq, reduceCtorEq, Int.cast_ofNat_Int, Hp.get_set, all_anyC, all_anyP, key_get, cell_get, kid_get, encC, List.length_map, encN, Hp.set_set, Hp.get_set_same, List.length_map, u64w, u8w, i64w, hg0_0, hl, hga, hkb]
          (repeat refine And.intro (by first | (unfold Go.Vm.room; and_intros <;> (try simp only [List.length_map, List.length_append, List.length_cons, List.length_nil, List.length_replicate, beW_len]) <;> omega) | omega | (simp; done) | (simp_all; done) | (simp_all; omega)) ?_)
          try simp (maxSteps := 4000000) (disch := omega) only [push_cast, Nat.reduceLT, Nat.reduceEqDiff, Nat.reduceAdd, Nat.reduceMul, Nat.reduceSub, Nat.reduceLeDiff, Int.reduceToNat, Int.reduceLT, Int.reduceLE, Int.reduceAdd, Int.reduceSub, Int.reduceMul, Int.reduceNeg, Int.reduceEq, reduceCtorEq, Int.cast_ofNat_Int, Hp.get_set, all_anyC, all_anyP, key_get, cell_get, kid_get, encC, List.length_map, encN, Hp.set_set, Hp.get_set_same, List.length_map, u64w, u8w, i64w, hg0_0, hl, hga, hkb]
          (repeat refine And.intro (by first | (unfold Go.Vm.room; and_intros <;> (try simp only [List.length_map, List.length_append, List.length_cons, List.length_nil, List.length_replicate, beW_len]) <;> omega) | omega | (simp; done) | (simp_all; done) | (simp_all; omega)) ?_)
          try simp (maxSteps := 4000000) (disch := omega) only [push_cast, Nat.reduceLT, Nat.reduceEqDiff, Nat.reduceAdd, Nat.reduceMul, Nat.reduceSub, Nat.reduceLeDiff, Int.reduceToNat, Int.reduceLT, Int.reduceLE, Int.reduceAdd, Int.reduceSub, Int.reduceMul, Int.reduceNeg, Int.reduceEq, reduceCtorEq, Int.cast_ofNat_Int, Hp.get_set, all_anyC, all_anyP, key_get, cell_get, kid_get, encC, List.length_map, encN, Hp.set_set, Hp.get_set_same, List.length_map, u64w, u8w, i64w, hg0_0, hl, hga, hkb]
          (repeat refine And.intro (by first | (unfold Go.Vm.room; and_intros <;> (try simp only [List.length_map, List.length_append, List.length_cons, List.length_nil, List.length_replicate, beW_len]) <;> omega) | omega | (simp; done) | (simp_all; done) | (simp_all; omega)) ?_)
          refine Qk hK [1, 5, 6, 37, 38, 39] ?_
          clear hK K
          refine WS.seq ?_
          refine R0 fun K hK => ?_
          try simp (maxSteps := 4000000) (disch := omega) only [push_cast, Nat.reduceLT, Nat.reduceEqDiff, Nat.reduceAdd, Nat.reduceMul, Nat.reduceSub, Nat.reduceLeDiff, Int.reduceToNat, Int.reduceLT, Int.reduceLE, Int.reduceAdd, Int.reduceSub, Int.reduceMul, Int.reduceNeg, Int.reduceEq, reduceCtorEq, Int.cast_ofNat_Int, Hp.get_set, all_anyC, all_anyP, key_get, cell_get, kid_get, encC, List.length_map, encN, Hp.set_set, Hp.get_set_same, List.length_map, u64w, u8w, i64w, hg0_0, hl, hga, hkb]
          (repeat refine And.intro (by first | (unfold Go.Vm.room; and_intros <;> (try simp only [List.length_map, List.length_append, List.length_cons, List.length_nil, List.length_replicate, beW_len]) <;> omega) | omega | (simp; done) | (simp_all; done) | (simp_all; omega)) ?_)
          try simp (maxSteps := 4000000) (disch := omega) only [push_cast, Nat.reduceLT, Nat.reduceEqDiff, Nat.reduceAdd, Nat.reduceMul, Nat.reduceSub, Nat.reduceLeDiff, Int.reduceToNat, Int.reduceLT, Int.reduceLE, Int.reduceAdd, Int.reduceSub, Int.reduceMul, Int.reduceNeg, Int.reduceEq, reduceCtorEq, Int.cast_ofNat_Int, Hp.get_set, all_anyC, all_anyP, key_get, cell_get, kid_get, encC, List.length_map, encN, Hp.set_set, Hp.get_set_same, List.length_map, u64w, u8w, i64w, hg0_0, hl, hga, hkb]
          (repeat refine And.intro (by first | (unfold Go.Vm.room; and_intros <;> (try simp only [List.length_map, List.length_append, List.length_cons, List.length_nil, List.length_replicate, beW_len]) <;> omega) | omega | (simp; done) | (simp_all; done) | (simp_all; omega)) ?_)
          refine callP (page_spec _ (by first | (unfold Go.Vm.room; and_intros <;> (try simp only [List.length_map, List.length_append, List.length_cons, List.length_nil, List.length_replicate, beW_len]) <;> omega) | omega | (simp; done) | (simp_all; done) | (simp_all; omega))) rfl ?_
          try simp (maxSteps := 4000000) (disch := omega) only [push_cast, Nat.reduceLT, Nat.reduceEqDiff, Nat.reduceAdd, Nat.reduceMul, Nat.reduceSub, Nat.reduceLeDiff, Int.reduceToNat, Int.reduceLT, Int.reduceLE, Int.reduceAdd, Int.reduceSub, Int.reduceMul, Int.reduceNeg, Int.reduceEq, reduceCtorEq, Int.cast_ofNat_Int, Hp.get_set, all_anyC, all_anyP, key_get, cell_get, kid_get, encC, List.length_map, encN, Hp.set_set, Hp.get_set_same, List.length_map, u64w, u8w, i64w, hg0_0, hl, hga, hkb]
          (repeat refine And.intro (by first | (unfold Go.Vm.room; and_intros <;> (try simp only [List.length_map, List.length_append, List.length_cons, List.length_nil, List.length_replicate, beW_len]) <;> omega) | omega | (simp; done) | (simp_all; done) | (simp_all; omega)) ?_)
          try simp (maxSteps := 4000000) (disch := omega) only [push_cast, Nat.reduceLT, Nat.reduceEqDiff, Nat.reduceAdd, Nat.reduceMul, Nat.reduceSub, Nat.reduceLeDiff, Int.reduceToNat, Int.reduceLT, Int.reduceLE, Int.reduceAdd, Int.reduceSub, Int.reduceMul, Int.reduceNeg, Int.reduceEq, reduceCtorEq, Int.cast_ofNat_Int, Hp.get_set, all_anyC, all_anyP, key_get, cell_get, kid_get, encC, List.length_map, encN, Hp.set_set, Hp.get_set_same, List.length_map, u64w, u8w, i64w, hg0_0, hl, hga, hkb]
          (repeat refine And.intro (by first | (unfold Go.Vm.room; and_intros <;> (try simp only [List.length_map, List.length_append, List.length_cons, List.length_nil, List.length_replicate, beW_len]) <;> omega) | omega | (simp; done) | (simp_all; done) | (simp_all; omega)) ?_)
          try simp (maxSteps := 4000000) (disch := omega) only [push_cast, Nat.reduceLT, Nat.reduceEqDiff, Nat.reduceAdd, Nat.reduceMul, Nat.reduceSub, Nat.reduceLeDiff, Int.reduceToNat, Int.reduceLT, Int.reduceLE, Int.reduceAdd, Int.reduceSub, Int.reduceMul, Int.reduceNeg, Int.reduceEq, reduceCtorEq, Int.cast_ofNat_Int, Hp.get_set, all_anyC, all_anyP, key_get, cell_get, kid_get, encC, List.length_map, encN, Hp.set_set, Hp.get_set_same, List.length_map, u64w, u8w, i64w, hg0_0, hl, hga, hkb]
          (repeat refine And.intro (by first | (unfold Go.Vm.room; and_intros <;> (try simp only [List.length_map, List.length_append, List.length_cons, List.length_nil, List.length_replicate, beW_len]) <;> omega) | omega | (simp; done) | (simp_all; done) | (simp_all; omega)) ?_)
          try simp (maxSteps := 4000000) (disch := omega) only [push_cast, Nat.reduceLT, Nat.reduceEqDiff, Nat.reduceAdd, Nat.reduceMul, Nat.reduceSub, Nat.reduceLeDiff, Int.reduceToNat, Int.reduceLT, Int.reduceLE, Int.reduceAdd, Int.reduceSub, Int.reduceMul, Int.reduceNeg, Int.reduceEq, reduceCtorEq, Int.cast_ofNat_Int, Hp.get_set, all_anyC, all_anyP, key_get, cell_get, kid_get, encC, List.length_map, encN, Hp.set_set, Hp.get_set_same, List.length_map, u64w, u8w, i64w, hg0_0, hl, hga, hkb]
          (repeat refine And.intro (by first | (unfold Go.Vm.room; and_intros <;> (try simp only [List.length_map, List.length_append, List.length_cons, List.length_nil, List.length_replicate, beW_len]) <;> omega) | omega | (simp; done) | (simp_all; done) | (simp_all; omega)) ?_)
          refine Qk hK [1, 5, 37, 38, 39] ?_
          clear hK K
          refine Ex ?_
          simp only [push_cast, WS, Nat.reduceEqDiff]
          refine hK2 _ _ ?_
          clear hK2
          try clear K2
          refine WS_keep [1, 5, 37, 38, 39] _ ?_
          refine R0 fun K hK => ?_
          try simp (maxSteps := 4000000) (disch := omega) only [push_cast, Nat.reduceLT, Nat.reduceEqDiff, Int.reduceToNat, Int.reduceLT, Int.reduceLE, Int.reduceAdd, Int.reduceSub, Int.reduceMul, Int.reduceNeg, Int.reduceEq, reduceCtorEq, Int.cast_ofNat_Int, Hp.get_set, all_anyC, all_anyP, key_get, cell_get, kid_get, encC, List.length_map, encN, Hp.set_set, Hp.get_set_same, List.length_map, u64w, u8w, i64w, hg0_0, hl, hga, hkb]
          (repeat refine And.intro (by first | (unfold Go.Vm.room; and_intros <;> (try simp only [List.length_map, List.length_append, List.length_cons, List.length_nil, List.length_replicate, beW_len]) <;> omega) | omega | (simp; done) | (simp_all; done) | (simp_all; omega)) ?_)
          refine Qk hK [1, 5, 37, 38, 39] ?_
          clear hK K
          refine Ag (hM1 _ _ ?_)
          refine ⟨_, ?_, k + 1,  rfl, ?_, ?_, ?_⟩
          · first | omega | (simp; done) | (simp_all; done) | (simp_all; omega)
          · (try simp (disch := omega) only [push_cast, Int.reduceToNat, Int.reduceLT, Int.reduceLE, Int.reduceAdd, Int.reduceSub, Int.reduceMul, Int.reduceNeg, Int.reduceEq, reduceCtorEq, Nat.reduceLeDiff, Nat.reduceLT, Nat.reduceEqDiff, Nat.reduceAdd, Nat.reduceMul, Nat.reduceSub, Int.cast_ofNat_Int, all_anyC, all_anyP, key_get, cell_get, kid_get, encC, List.length_map, encN, Hp.set_set, Hp.get_set_same, List.length_map, u64w, u8w, i64w, hg0_0, hl, hga, hkb]) <;> (first | done | rfl | (simp [hd, toR, hl, parts_len, bTo_zero, beW_len, u8]; done) | (rw [hout]; simp only [List.map_append, List.append_assoc]; done) | (rw [hout]; simp only [Hp.set_set, List.length_append, List.length_cons, List.length_nil, List.length_map, beW_len]; congr 2 <;> omega) | (rw [hout]; simp only [Hp.set_set, List.length_append, List.length_cons, List.length_nil, List.length_map, beW_len]; done) | (simp; done) | (simp; omega) | omega | (simp_all; done) | (simp_all; omega))
          · first | rfl | (try simp (disch := omega) only [push_cast, Int.reduceToNat, Int.reduceLT, Int.reduceLE, Int.reduceAdd, Int.reduceSub, Int.reduceMul, Int.reduceNeg, Int.reduceEq, reduceCtorEq, Nat.reduceLeDiff, Nat.reduceLT, Nat.reduceEqDiff, Nat.reduceAdd, Nat.reduceMul, Nat.reduceSub, Int.cast_ofNat_Int, all_anyC, all_anyP, key_get, cell_get, kid_get, encC, List.length_map, encN, Hp.set_set, Hp.get_set_same, List.length_map, u64w, u8w, i64w, hg0_0, hl, hga, hkb]) <;> (first | done | rfl | (simp [hd, toR, hl, parts_len, bTo_zero, beW_len, u8]; done) | (rw [hout]; simp only [List.map_append, List.append_assoc]; done) | (rw [hout]; simp only [Hp.set_set, List.length_append, List.length_cons, List.length_nil, List.length_map, beW_len]; congr 2 <;> omega) | (rw [hout]; simp only [Hp.set_set, List.length_append, List.length_cons, List.length_nil, List.length_map, beW_len]; done) | (simp; done) | (simp; omega) | omega | (simp_all; done) | (simp_all; omega))
          · first | omega | (simp; done) | (simp_all; done) | (simp_all; omega)
        all_goals try (cases hc; done)
        all_goals try simp only [push_cast] at hc
        all_goals try (exfalso; omega)
        all_goals
         have hcl := (shape_leaf (right_shape hr) hl).1
         have hci := cright_len (right_cell hr hl hkk)
         have hout := out_leaf hl hkk
         refine Sk ?_
         refine WS.seq ?_
         refine R0 fun K hK => ?_
         try simp (maxSteps := 4000000) (disch := omega) only [push_cast, Nat.reduceLT, Nat.reduceEqDiff, Nat.reduceAdd, Nat.reduceMul, Nat.reduceSub, Nat.reduceLeDiff, Int.reduceToNat, Int.reduceLT, Int.reduceLE, Int.reduceAdd, Int.reduceSub, Int.reduceMul, Int.reduceNeg, Int.reduceEq, reduceCtorEq, Int.cast_ofNat_Int, Hp.get_set, all_anyC, all_anyP, key_get, cell_get, kid_get, encC, List.length_map, encN, Hp.set_set, Hp.get_set_same, List.length_map, u64w, u8w, i64w, hg0_0, hl, hga, hkb]
         (repeat refine And.intro (by first | (unfold Go.Vm.room; and_intros <;> (try simp only [List.length_map, List.length_append, List.length_cons, List.length_nil, List.length_replicate, beW_len]) <;> omega) | omega | (simp; done) | (simp_all; done) | (simp_all; omega)) ?_)
         refine fun g18_5 hg18_5 => ?_
         try simp only [Hp.set_none, Hp.join_none_iff] at hg18_5
         try simp (maxSteps := 4000000) (disch := omega) only [push_cast, Nat.reduceLT, Nat.reduceEqDiff, Nat.reduceAdd, Nat.reduceMul, Nat.reduceSub, Nat.reduceLeDiff, Int.reduceToNat, Int.reduceLT, Int.reduceLE, Int.reduceAdd, Int.reduceSub, Int.reduceMul, Int.reduceNeg, Int.reduceEq, reduceCtorEq, Int.cast_ofNat_Int, Hp.get_set, all_anyC, all_anyP, key_get, cell_get, kid_get, encC, List.length_map, encN, Hp.set_set, Hp.get_set_same, List.length_map, u64w, u8w, i64w, hg0_0, hl, hga, hkb, hg18_5]
         (repeat refine And.intro (by first | (unfold Go.Vm.room; and_intros <;> (try simp only [List.length_map, List.length_append, List.length_cons, List.length_nil, List.length_replicate, beW_len]) <;> omega) | omega | (simp; done) | (simp_all; done) | (simp_all; omega)) ?_)
         refine Qk hK [1, 5, 7, 8, 37, 38, 39] ?_
         clear hK K
         refine S_frz 8 rfl (Hp.set_none.2 hg18_5) ?_
         refine WS.seq ?_
         refine R0 fun K hK => ?_
         try simp (maxSteps := 4000000) (disch := omega) only [push_cast, Nat.reduceLT, Nat.reduceEqDiff, Nat.reduceAdd, Nat.reduceMul, Nat.reduceSub, Nat.reduceLeDiff, Int.reduceToNat, Int.reduceLT, Int.reduceLE, Int.reduceAdd, Int.reduceSub, Int.reduceMul, Int.reduceNeg, Int.reduceEq, reduceCtorEq, Int.cast_ofNat_Int, Hp.get_set, all_anyC, all_anyP, key_get, cell_get, kid_get, encC, List.length_map, encN, Hp.set_set, Hp.get_set_same, List.length_map, u64w, u8w, i64w, hg0_0, hl, hga, hkb, hg18_5]
         (repeat refine And.intro (by first | (unfold Go.Vm.room; and_intros <;> (try simp only [List.length_map, List.length_append, List.length_cons, List.length_nil, List.length_replicate, beW_len]) <;> omega) | omega | (simp; done) | (simp_all; done) | (simp_all; omega)) ?_)
         refine callS (wide_spec ((hd (toR n) ++ bTo n k) ++ [UInt8.ofNat (n.keys.getD k []).length]) 2 ((n.cells.getD k default).len) (by omega) (by omega) (by simp; omega) (by rw [Hp.get_set_same]; simp <;> omega)) (fun v τ h => ?_); obtain ⟨rfl, rfl⟩ := h
         try simp (maxSteps := 4000000) (disch := omega) only [push_cast, Nat.reduceLT, Nat.reduceEqDiff, Nat.reduceAdd, Nat.reduceMul, Nat.reduceSub, Nat.reduceLeDiff, Int.reduceToNat, Int.reduceLT, Int.reduceLE, Int.reduceAdd, Int.reduceSub, Int.reduceMul, Int.reduceNeg, Int.reduceEq, reduceCtorEq, Int.cast_ofNat_Int, Hp.get_set, all_anyC, all_anyP, key_get, cell_get, kid_get, encC, List.length_map, encN, Hp.set_set, Hp.get_set_same, List.length_map, u64w, u8w, i64w, hg0_0, hl, hga, hkb, hg18_5]
         (repeat refine And.intro (by first | (unfold Go.Vm.room; and_intros <;> (try simp only [List.length_map, List.length_append, List.length_cons, List.length_nil, List.length_replicate, beW_len]) <;> omega) | omega | (simp; done) | (simp_all; done) | (simp_all; omega)) ?_)
         refine Qk hK [1, 5, 7, 8, 37, 38, 39] ?_
         clear hK K
         refine WS.seq ?_
         refine R0 fun K hK => ?_
         try simp (maxSteps := 4000000) (disch := omega) only [push_cast, Nat.reduceLT, Nat.reduceEqDiff, Nat.reduceAdd, Nat.reduceMul, Nat.reduceSub, Nat.reduceLeDiff, Int.reduceToNat, Int.reduceLT, Int.reduceLE, Int.reduceAdd, Int.reduceSub, Int.reduceMul, Int.reduceNeg, Int.reduceEq, reduceCtorEq, Int.cast_ofNat_Int, Hp.get_set, all_anyC, all_anyP, key_get, cell_get, kid_get, encC, List.length_map, encN, Hp.set_set, Hp.get_set_same, List.length_map, u64w, u8w, i64w, hg0_0, hl, hga, hkb, hg18_5]
         (repeat refine And.intro (by first | (unfold Go.Vm.room; and_intros <;> (try simp only [List.length_map, List.length_append, List.length_cons, List.length_nil, List.length_replicate, beW_len]) <;> omega) | omega | (simp; done) | (simp_all; done) | (simp_all; omega)) ?_)
         try simp (maxSteps := 4000000) (disch := omega) only [push_cast, Nat.reduceLT, Nat.reduceEqDiff, Nat.reduceAdd, Nat.reduceMul, Nat.reduceSub, Nat.reduceLeDiff, Int.reduceToNat, Int.reduceLT, Int.reduceLE, Int.reduceAdd, Int.reduceSub, Int.reduceMul, Int.reduceNeg, Int.reduceEq, reduceCtorEq, Int.cast_ofNat_Int, Hp.get_set, all_anyC, all_anyP, key_get, cell_get, kid_get, encC, List.length_map, encN, Hp.set_set, Hp.get_set_same, List.length_map, u64w, u8w, i64w, hg0_0, hl, hga, hkb, hg18_5]
         (repeat refine And.intro (by first | (unfold Go.Vm.room; and_intros <;> (try simp only [List.length_map, List.length_append, List.length_cons, List.length_nil, List.length_replicate, beW_len]) <;> omega) | omega | (simp; done) | (simp_all; done) | (simp_all; omega)) ?_)
         try simp (maxSteps := 4000000) (disch := omega) only [push_cast, Nat.reduceLT, Nat.reduceEqDiff, Nat.reduceAdd, Nat.reduceMul, Nat.reduceSub, Nat.reduceLeDiff, Int.reduceToNat, Int.reduceLT, Int.reduceLE, Int.reduceAdd, Int.reduceSub, Int.reduceMul, Int.reduceNeg, Int.reduceEq, reduceCtorEq, Int.cast_ofNat_Int, Hp.get_set, all_anyC, all_anyP, key_get, cell_get, kid_get, encC, List.length_map, encN, Hp.set_set, Hp.get_set_same, List.length_map, u64w, u8w, i64w, hg0_0, hl, hga, hkb, hg18_5]
         (repeat refine And.intro (by first | (unfold Go.Vm.room; and_intros <;> (try simp only [List.length_map, List.length_append, List.length_cons, List.length_nil, List.length_replicate, beW_len]) <;> omega) | omega | (simp; done) | (simp_all; done) | (simp_all; omega)) ?_)
         try simp (maxSteps := 4000000) (disch := omega) only [push_cast, Nat.reduceLT, Nat.reduceEqDiff, Nat.reduceAdd, Nat.reduceMul, Nat.reduceSub, Nat.reduceLeDiff, Int.reduceToNat, Int.reduceLT, Int.reduceLE, Int.reduceAdd, Int.reduceSub, Int.reduceMul, Int.reduceNeg, Int.reduceEq, reduceCtorEq, Int.cast_ofNat_Int, Hp.get_set, all_anyC, all_anyP, key_get, cell_get, kid_get, encC, List.length_map, encN, Hp.set_set, Hp.get_set_same, List.length_map, u64w, u8w, i64w, hg0_0, hl, hga, hkb, hg18_5]
         (repeat refine And.intro (by first | (unfold Go.Vm.room; and_intros <;> (try simp only [List.length_map, List.length_append, List.length_cons, List.length_nil, List.length_replicate, beW_len]) <;> omega) | omega | (simp; done) | (simp_all; done) | (simp_all; omega)) ?_)
         refine Qk hK [1, 5, 8, 37, 38, 39] ?_
         clear hK K
         refine WS.seq ?_
         refine R0 fun K hK => ?_
         try simp (maxSteps := 4000000) (disch := omega) only [push_cast, Nat.reduceLT, Nat.reduceEqDiff, Nat.reduceAdd, Nat.reduceMul, Nat.reduceSub, Nat.reduceLeDiff, Int.reduceToNat, Int.reduceLT, Int.reduceLE, Int.reduceAdd, Int.reduceSub, Int.reduceMul, Int.reduceNeg, Int.reduceEq, reduceCtorEq, Int.cast_ofNat_Int, Hp.get_set, all_anyC, all_anyP, key_get, cell_get, kid_get, encC, List.length_map, encN, Hp.set_set, Hp.get_set_same, List.length_map, u64w, u8w, i64w, hg0_0, hl, hga, hkb, hg18_5]
         (repeat refine And.intro (by first | (unfold Go.Vm.room; and_intros <;> (try simp only [List.length_map, List.length_append, List.length_cons, List.length_nil, List.length_replicate, beW_len]) <;> omega) | omega | (simp; done) | (simp_all; done) | (simp_all; omega)) ?_)
         refine Qk hK [1, 5, 8, 37, 38, 39, 80] ?_
         clear hK K
         refine CI rfl (fun hc => ?_) (fun hc => ?_)
         ·
          all_goals try (cases hc; done)
          all_goals try simp only [push_cast] at hc
          all_goals try (exfalso; omega)
          all_goals
           rw [if_pos hc] at hout
           refine R0 fun K hK => ?_
           try simp (maxSteps := 4000000) (disch := omega) only [push_cast, Nat.reduceLT, Nat.reduceEqDiff, Nat.reduceAdd, Nat.reduceMul, Nat.reduceSub, Nat.reduceLeDiff, Int.reduceToNat, Int.reduceLT, Int.reduceLE, Int.reduceAdd, Int.reduceSub, Int.reduceMul, Int.reduceNeg, Int.reduceEq, reduceCtorEq, Int.cast_ofNat_Int, Hp.get_set, all_anyC, all_anyP, key_get, cell_get, kid_get, encC, List.length_map, encN, Hp.set_set, Hp.get_set_same, List.length_map, u64w, u8w, i64w, hg0_0, hl, hga, hkb, hg18_5]
           (repeat refine And.intro (by first | (unfold Go.Vm.room; and_intros <;> (try simp only [List.length_map, List.length_append, List.length_cons, List.length_nil, List.length_replicate, beW_len]) <;> omega) | omega | (simp; done) | (simp_all; done) | (simp_all; omega)) ?_)
           try simp (maxSteps := 4000000) (disch := omega) only [push_cast, Nat.reduceLT, Nat.reduceEqDiff, Nat.reduceAdd, Nat.reduceMul, Nat.reduceSub, Nat.reduceLeDiff, Int.reduceToNat, Int.reduceLT, Int.reduceLE, Int.reduceAdd, Int.reduceSub, Int.reduceMul, Int.reduceNeg, Int.reduceEq, reduceCtorEq, Int.cast_ofNat_Int, Hp.get_set, all_anyC, all_anyP, key_get, cell_get, kid_get, encC, List.length_map, encN, Hp.set_set, Hp.get_set_same, List.length_map, u64w, u8w, i64w, hg0_0, hl, hga, hkb, hg18_5]
           (repeat refine And.intro (by first | (unfold Go.Vm.room; and_intros <;> (try simp only [List.length_map, List.length_append, List.length_cons, List.length_nil, List.length_replicate, beW_len]) <;> omega) | omega | (simp; done) | (simp_all; done) | (simp_all; omega)) ?_)
           try simp (maxSteps := 4000000) (disch := omega) only [push_cast, Nat.reduceLT, Nat.reduceEqDiff, Nat.reduceAdd, Nat.reduceMul, Nat.reduceSub, Nat.reduceLeDiff, Int.reduceToNat, Int.reduceLT, Int.reduceLE, Int.reduceAdd, Int.reduceSub, Int.reduceMul, Int.reduceNeg, Int.reduceEq, reduceCtorEq, Int.cast_ofNat_Int, Hp.get_set, all_anyC, all_anyP, key_get, cell_get, kid_get, encC, List.length_map, encN, Hp.set_set, Hp.get_set_same, List.length_map, u64w, u8w, i64w, hg0_0, hl, hga, hkb, hg18_5]
           (repeat refine And.intro (by first | (unfold Go.Vm.room; and_intros <;> (try simp only [List.length_map, List.length_append, List.length_cons, List.length_nil, List.length_replicate, beW_len]) <;> omega) | omega | (simp; done) | (simp_all; done) | (simp_all; omega)) ?_)
           try simp (maxSteps := 4000000) (disch := omega) only [push_cast, Nat.reduceLT, Nat.reduceEqDiff, Nat.reduceAdd, Nat.reduceMul, Nat.reduceSub, Nat.reduceLeDiff, Int.reduceToNat, Int.reduceLT, Int.reduceLE, Int.reduceAdd, Int.reduceSub, Int.reduceMul, Int.reduceNeg, Int.reduceEq, reduceCtorEq, Int.cast_ofNat_Int, Hp.get_set, all_anyC, all_anyP, key_get, cell_get, kid_get, encC, List.length_map, encN, Hp.set_set, Hp.get_set_same, List.length_map, u64w, u8w, i64w, hg0_0, hl, hga, hkb, hg18_5]
           (repeat refine And.intro (by first | (unfold Go.Vm.room; and_intros <;> (try simp only [List.length_map, List.length_append, List.length_cons, List.length_nil, List.length_replicate, beW_len]) <;> omega) | omega | (simp; done) | (simp_all; done) | (simp_all; omega)) ?_)
           refine Qk hK [1, 5, 37, 38, 39] ?_
           clear hK K
           simp only [push_cast, WS, Nat.reduceEqDiff]
           refine hK2 _ _ ?_
           clear hK2
           try clear K2
           refine WS_keep [1, 5, 37, 38, 39] _ ?_
           refine R0 fun K hK => ?_
           try simp (maxSteps := 4000000) (disch := omega) only [push_cast, Nat.reduceLT, Nat.reduceEqDiff, Int.reduceToNat, Int.reduceLT, Int.reduceLE, Int.reduceAdd, Int.reduceSub, Int.reduceMul, Int.reduceNeg, Int.reduceEq, reduceCtorEq, Int.cast_ofNat_Int, Hp.get_set, all_anyC, all_anyP, key_get, cell_get, kid_get, encC, List.length_map, encN, Hp.set_set, Hp.get_set_same, List.length_map, u64w, u8w, i64w, hg0_0, hl, hga, hkb, hg18_5]
           (repeat refine And.intro (by first | (unfold Go.Vm.room; and_intros <;> (try simp only [List.length_map, List.length_append, List.length_cons, List.length_nil, List.length_replicate, beW_len]) <;> omega) | omega | (simp; done) | (simp_all; done) | (simp_all; omega)) ?_)
           refine Qk hK [1, 5, 37, 38, 39] ?_
           clear hK K
           refine Ag (hM1 _ _ ?_)
           refine ⟨_, ?_, k + 1,  rfl, ?_, ?_, ?_⟩
           · first | omega | (simp; done) | (simp_all; done) | (simp_all; omega)
           · (try simp (disch := omega) only [push_cast, Int.reduceToNat, Int.reduceLT, Int.reduceLE, Int.reduceAdd, Int.reduceSub, Int.reduceMul, Int.reduceNeg, Int.reduceEq, reduceCtorEq, Nat.reduceLeDiff, Nat.reduceLT, Nat.reduceEqDiff, Nat.reduceAdd, Nat.reduceMul, Nat.reduceSub, Int.cast_ofNat_Int, all_anyC, all_anyP, key_get, cell_get, kid_get, encC, List.length_map, encN, Hp.set_set, Hp.get_set_same, List.length_map, u64w, u8w, i64w, hg0_0, hl, hga, hkb, hg18_5]) <;> (first | done | rfl | (simp [hd, toR, hl, parts_len, bTo_zero, beW_len, u8]; done) | (rw [hout]; simp only [List.map_append, List.append_assoc]; done) | (rw [hout]; simp only [Hp.set_set, List.length_append, List.length_cons, List.length_nil, List.length_map, beW_len]; congr 2 <;> omega) | (rw [hout]; simp only [Hp.set_set, List.length_append, List.length_cons, List.length_nil, List.length_map, beW_len]; done) | (simp; done) | (simp; omega) | omega | (simp_all; done) | (simp_all; omega))
           · first | rfl | (try simp (disch := omega) only [push_cast, Int.reduceToNat, Int.reduceLT, Int.reduceLE, Int.reduceAdd, Int.reduceSub, Int.reduceMul, Int.reduceNeg, Int.reduceEq, reduceCtorEq, Nat.reduceLeDiff, Nat.reduceLT, Nat.reduceEqDiff, Nat.reduceAdd, Nat.reduceMul, Nat.reduceSub, Int.cast_ofNat_Int, all_anyC, all_anyP, key_get, cell_get, kid_get, encC, List.length_map, encN, Hp.set_set, Hp.get_set_same, List.length_map, u64w, u8w, i64w, hg0_0, hl, hga, hkb, hg18_5]) <;> (first | done | rfl | (simp [hd, toR, hl, parts_len, bTo_zero, beW_len, u8]; done) | (rw [hout]; simp only [List.map_append, List.append_assoc]; done) | (rw [hout]; simp only [Hp.set_set, List.length_append, List.length_cons, List.length_nil, List.length_map, beW_len]; congr 2 <;> omega) | (rw [hout]; simp only [Hp.set_set, List.length_append, List.length_cons, List.length_nil, List.length_map, beW_len]; done) | (simp; done) | (simp; omega) | omega | (simp_all; done) | (simp_all; omega))
           · first | omega | (simp; done) | (simp_all; done) | (simp_all; omega)
         ·
          all_goals try (cases hc; done)
          all_goals try simp only [push_cast] at hc
          all_goals try (exfalso; omega)
          all_goals
           rw [if_neg (by omega)] at hout
           refine R0 fun K hK => ?_
           try simp (maxSteps := 4000000) (disch := omega) only [push_cast, Nat.reduceLT, Nat.reduceEqDiff, Nat.reduceAdd, Nat.reduceMul, Nat.reduceSub, Nat.reduceLeDiff, Int.reduceToNat, Int.reduceLT, Int.reduceLE, Int.reduceAdd, Int.reduceSub, Int.reduceMul, Int.reduceNeg, Int.reduceEq, reduceCtorEq, Int.cast_ofNat_Int, Hp.get_set, all_anyC, all_anyP, key_get, cell_get, kid_get, encC, List.length_map, encN, Hp.set_set, Hp.get_set_same, List.length_map, u64w, u8w, i64w, hg0_0, hl, hga, hkb, hg18_5]
           (repeat refine And.intro (by first | (unfold Go.Vm.room; and_intros <;> (try simp only [List.length_map, List.length_append, List.length_cons, List.length_nil, List.length_replicate, beW_len]) <;> omega) | omega | (simp; done) | (simp_all; done) | (simp_all; omega)) ?_)
           try simp (maxSteps := 4000000) (disch := omega) only [push_cast, Nat.reduceLT, Nat.reduceEqDiff, Nat.reduceAdd, Nat.reduceMul, Nat.reduceSub, Nat.reduceLeDiff, Int.reduceToNat, Int.reduceLT, Int.reduceLE, Int.reduceAdd, Int.reduceSub, Int.reduceMul, Int.reduceNeg, Int.reduceEq, reduceCtorEq, Int.cast_ofNat_Int, Hp.get_set, all_anyC, all_anyP, key_get, cell_get, kid_get, encC, List.length_map, encN, Hp.set_set, Hp.get_set_same, List.length_map, u64w, u8w, i64w, hg0_0, hl, hga, hkb, hg18_5]
           (repeat refine And.intro (by first | (unfold Go.Vm.room; and_intros <;> (try simp only [List.length_map, List.length_append, List.length_cons, List.length_nil, List.length_replicate, beW_len]) <;> omega) | omega | (simp; done) | (simp_all; done) | (simp_all; omega)) ?_)
           refine callP (page_spec _ (by first | (unfold Go.Vm.room; and_intros <;> (try simp only [List.length_map, List.length_append, List.length_cons, List.length_nil, List.length_replicate, beW_len]) <;> omega) | omega | (simp; done) | (simp_all; done) | (simp_all; omega))) rfl ?_
           try simp (maxSteps := 4000000) (disch := omega) only [push_cast, Nat.reduceLT, Nat.reduceEqDiff, Nat.reduceAdd, Nat.reduceMul, Nat.reduceSub, Nat.reduceLeDiff, Int.reduceToNat, Int.reduceLT, Int.reduceLE, Int.reduceAdd, Int.reduceSub, Int.reduceMul, Int.reduceNeg, Int.reduceEq, reduceCtorEq, Int.cast_ofNat_Int, Hp.get_set, all_anyC, all_anyP, key_get, cell_get, kid_get, encC, List.length_map, encN, Hp.set_set, Hp.get_set_same, List.length_map, u64w, u8w, i64w, hg0_0, hl, hga, hkb, hg18_5]
           (repeat refine And.intro (by first | (unfold Go.Vm.room; and_intros <;> (try simp only [List.length_map, List.length_append, List.length_cons, List.length_nil, List.length_replicate, beW_len]) <;> omega) | omega | (simp; done) | (simp_all; done) | (simp_all; omega)) ?_)
           try simp (maxSteps := 4000000) (disch := omega) only [push_cast, Nat.reduceLT, Nat.reduceEqDiff, Nat.reduceAdd, Nat.reduceMul, Nat.reduceSub, Nat.reduceLeDiff, Int.reduceToNat, Int.reduceLT, Int.reduceLE, Int.reduceAdd, Int.reduceSub, Int.reduceMul, Int.reduceNeg, Int.reduceEq, reduceCtorEq, Int.cast_ofNat_Int, Hp.get_set, all_anyC, all_anyP, key_get, cell_get, kid_get, encC, List.length_map, encN, Hp.set_set, Hp.get_set_same, List.length_map, u64w, u8w, i64w, hg0_0, hl, hga, hkb, hg18_5]
           (repeat refine And.intro (by first | (unfold Go.Vm.room; and_intros <;> (try simp only [List.length_map, List.length_append, List.length_cons, List.length_nil, List.length_replicate, beW_len]) <;> omega) | omega | (simp; done) | (simp_all; done) | (simp_all; omega)) ?_)
           try simp (maxSteps := 4000000) (disch := omega) only [push_cast, Nat.reduceLT, Nat.reduceEqDiff, Nat.reduceAdd, Nat.reduceMul, Nat.reduceSub, Nat.reduceLeDiff, Int.reduceToNat, Int.reduceLT, Int.reduceLE, Int.reduceAdd, Int.reduceSub, Int.reduceMul, Int.reduceNeg, Int.reduceEq, reduceCtorEq, Int.cast_ofNat_Int, Hp.get_set, all_anyC, all_anyP, key_get, cell_get, kid_get, encC, List.length_map, encN, Hp.set_set, Hp.get_set_same, List.length_map, u64w, u8w, i64w, hg0_0, hl, hga, hkb, hg18_5]
           (repeat refine And.intro (by first | (unfold Go.Vm.room; and_intros <;> (try simp only [List.length_map, List.length_append, List.length_cons, List.length_nil, List.length_replicate, beW_len]) <;> omega) | omega | (simp; done) | (simp_all; done) | (simp_all; omega)) ?_)
           try simp (maxSteps := 4000000) (disch := omega) only [push_cast, Nat.reduceLT, Nat.reduceEqDiff, Nat.reduceAdd, Nat.reduceMul, Nat.reduceSub, Nat.reduceLeDiff, Int.reduceToNat, Int.reduceLT, Int.reduceLE, Int.reduceAdd, Int.reduceSub, Int.reduceMul, Int.reduceNeg, Int.reduceEq, reduceCtorEq, Int.cast_ofNat_Int, Hp.get_set, all_anyC, all_anyP, key_get, cell_get, kid_get, encC, List.length_map, encN, Hp.set_set, Hp.get_set_same, List.length_map, u64w, u8w, i64w, hg0_0, hl, hga, hkb, hg18_5]
           (repeat refine And.intro (by first | (unfold Go.Vm.room; and_intros <;> (try simp only [List.length_map, List.length_append, List.length_cons, List.length_nil, List.length_replicate, beW_len]) <;> omega) | omega | (simp; done) | (simp_all; done) | (simp_all; omega)) ?_)
           refine Qk hK [1, 5, 37, 38, 39] ?_
           clear hK K
           simp only [push_cast, WS, Nat.reduceEqDiff]
           refine hK2 _ _ ?_
           clear hK2
           try clear K2
           refine WS_keep [1, 5, 37, 38, 39] _ ?_
           refine R0 fun K hK => ?_
           try simp (maxSteps := 4000000) (disch := omega) only [push_cast, Nat.reduceLT, Nat.reduceEqDiff, Int.reduceToNat, Int.reduceLT, Int.reduceLE, Int.reduceAdd, Int.reduceSub, Int.reduceMul, Int.reduceNeg, Int.reduceEq, reduceCtorEq, Int.cast_ofNat_Int, Hp.get_set, all_anyC, all_anyP, key_get, cell_get, kid_get, encC, List.length_map, encN, Hp.set_set, Hp.get_set_same, List.length_map, u64w, u8w, i64w, hg0_0, hl, hga, hkb, hg18_5]
           (repeat refine And.intro (by first | (unfold Go.Vm.room; and_intros <;> (try simp only [List.length_map, List.length_append, List.length_cons, List.length_nil, List.length_replicate, beW_len]) <;> omega) | omega | (simp; done) | (simp_all; done) | (simp_all; omega)) ?_)
           refine Qk hK [1, 5, 37, 38, 39] ?_
           clear hK K
           refine Ag (hM1 _ _ ?_)
           refine ⟨_, ?_, k + 1,  rfl, ?_, ?_, ?_⟩
           · first | omega | (simp; done) | (simp_all; done) | (simp_all; omega)
           · (try simp (disch := omega) only [push_cast, Int.reduceToNat, Int.reduceLT, Int.reduceLE, Int.reduceAdd, Int.reduceSub, Int.reduceMul, Int.reduceNeg, Int.reduceEq, reduceCtorEq, Nat.reduceLeDiff, Nat.reduceLT, Nat.reduceEqDiff, Nat.reduceAdd, Nat.reduceMul, Nat.reduceSub, Int.cast_ofNat_Int, all_anyC, all_anyP, key_get, cell_get, kid_get, encC, List.length_map, encN, Hp.set_set, Hp.get_set_same, List.length_map, u64w, u8w, i64w, hg0_0, hl, hga, hkb, hg18_5]) <;> (first | done | rfl | (simp [hd, toR, hl, parts_len, bTo_zero, beW_len, u8]; done) | (rw [hout]; simp only [List.map_append, List.append_assoc]; done) | (rw [hout]; simp only [Hp.set_set, List.length_append, List.length_cons, List.length_nil, List.length_map, beW_len]; congr 2 <;> omega) | (rw [hout]; simp only [Hp.set_set, List.length_append, List.length_cons, List.length_nil, List.length_map, beW_len]; done) | (simp; done) | (simp; omega) | omega | (simp_all; done) | (simp_all; omega))
           · first | rfl | (try simp (disch := omega) only [push_cast, Int.reduceToNat, Int.reduceLT, Int.reduceLE, Int.reduceAdd, Int.reduceSub, Int.reduceMul, Int.reduceNeg, Int.reduceEq, reduceCtorEq, Nat.reduceLeDiff, Nat.reduceLT, Nat.reduceEqDiff, Nat.reduceAdd, Nat.reduceMul, Nat.reduceSub, Int.cast_ofNat_Int, all_anyC, all_anyP, key_get, cell_get, kid_get, encC, List.length_map, encN, Hp.set_set, Hp.get_set_same, List.length_map, u64w, u8w, i64w, hg0_0, hl, hga, hkb, hg18_5]) <;> (first | done | rfl | (simp [hd, toR, hl, parts_len, bTo_zero, beW_len, u8]; done) | (rw [hout]; simp only [List.map_append, List.append_assoc]; done) | (rw [hout]; simp only [Hp.set_set, List.length_append, List.length_cons, List.length_nil, List.length_map, beW_len]; congr 2 <;> omega) | (rw [hout]; simp only [Hp.set_set, List.length_append, List.length_cons, List.length_nil, List.length_map, beW_len]; done) | (simp; done) | (simp; omega) | omega | (simp_all; done) | (simp_all; omega))
           · first | omega | (simp; done) | (simp_all; done) | (simp_all; omega)
   ·
    all_goals try (cases hc; done)
    all_goals try simp only [push_cast] at hc
    all_goals try (exfalso; omega)
    all_goals
     refine Sk ?_
     refine WS.seq ?_
     refine RU [20] [] fun K hK => ?_
     try simp (maxSteps := 4000000) (disch := omega) only [push_cast, Nat.reduceLT, Nat.reduceEqDiff, Nat.reduceAdd, Nat.reduceMul, Nat.reduceSub, Nat.reduceLeDiff, Int.reduceToNat, Int.reduceLT, Int.reduceLE, Int.reduceAdd, Int.reduceSub, Int.reduceMul, Int.reduceNeg, Int.reduceEq, reduceCtorEq, Int.cast_ofNat_Int, Hp.get_set, all_anyC, all_anyP, key_get, cell_get, kid_get, encC, List.length_map, encN, Hp.set_set, Hp.get_set_same, List.length_map, u64w, u8w, i64w, hg0_0, hl]
     (repeat refine And.intro (by first | (unfold Go.Vm.room; and_intros <;> (try simp only [List.length_map, List.length_append, List.length_cons, List.length_nil, List.length_replicate, beW_len]) <;> omega) | omega | (simp; done) | (simp_all; done) | (simp_all; omega)) ?_)
     refine fun ga hga => ?_
     try simp only [Hp.set_none, Hp.join_none_iff] at hga
     try simp (maxSteps := 4000000) (disch := omega) only [push_cast, Nat.reduceLT, Nat.reduceEqDiff, Nat.reduceAdd, Nat.reduceMul, Nat.reduceSub, Nat.reduceLeDiff, Int.reduceToNat, Int.reduceLT, Int.reduceLE, Int.reduceAdd, Int.reduceSub, Int.reduceMul, Int.reduceNeg, Int.reduceEq, reduceCtorEq, Int.cast_ofNat_Int, Hp.get_set, all_anyC, all_anyP, key_get, cell_get, kid_get, encC, List.length_map, encN, Hp.set_set, Hp.get_set_same, List.length_map, u64w, u8w, i64w, hg0_0, hl, hga]
     (repeat refine And.intro (by first | (unfold Go.Vm.room; and_intros <;> (try simp only [List.length_map, List.length_append, List.length_cons, List.length_nil, List.length_replicate, beW_len]) <;> omega) | omega | (simp; done) | (simp_all; done) | (simp_all; omega)) ?_)
     first
     | (refine callS (wide_spec ([1]) 2 (n.keys.length) (by omega) (by omega) (by simp) (by exact Hp.get_set_same _ _ _)) (fun v τ h => ?_); obtain ⟨rfl, rfl⟩ := h)
     | (refine callS (wide_spec ([2]) 2 (n.keys.length) (by omega) (by omega) (by simp) (by exact Hp.get_set_same _ _ _)) (fun v τ h => ?_); obtain ⟨rfl, rfl⟩ := h)
     try simp (maxSteps := 4000000) (disch := omega) only [push_cast, Nat.reduceLT, Nat.reduceEqDiff, Nat.reduceAdd, Nat.reduceMul, Nat.reduceSub, Nat.reduceLeDiff, Int.reduceToNat, Int.reduceLT, Int.reduceLE, Int.reduceAdd, Int.reduceSub, Int.reduceMul, Int.reduceNeg, Int.reduceEq, reduceCtorEq, Int.cast_ofNat_Int, Hp.get_set, all_anyC, all_anyP, key_get, cell_get, kid_get, encC, List.length_map, encN, Hp.set_set, Hp.get_set_same, List.length_map, u64w, u8w, i64w, hg0_0, hl, hga]
     (repeat refine And.intro (by first | (unfold Go.Vm.room; and_intros <;> (try simp only [List.length_map, List.length_append, List.length_cons, List.length_nil, List.length_replicate, beW_len]) <;> omega) | omega | (simp; done) | (simp_all; done) | (simp_all; omega)) ?_)
     refine Qk hK [1, 5] ?_
     clear hK K
     refine WS.seq (WS.seq ?_)
     refine R0 fun K hK => ?_
     try simp (maxSteps := 4000000) (disch := omega) only [push_cast, Nat.reduceLT, Nat.reduceEqDiff, Nat.reduceAdd, Nat.reduceMul, Nat.reduceSub, Nat.reduceLeDiff, Int.reduceToNat, Int.reduceLT, Int.reduceLE, Int.reduceAdd, Int.reduceSub, Int.reduceMul, Int.reduceNeg, Int.reduceEq, reduceCtorEq, Int.cast_ofNat_Int, Hp.get_set, all_anyC, all_anyP, key_get, cell_get, kid_get, encC, List.length_map, encN, Hp.set_set, Hp.get_set_same, List.length_map, u64w, u8w, i64w, hg0_0, hl, hga]
     (repeat refine And.intro (by first | (unfold Go.Vm.room; and_intros <;> (try simp only [List.length_map, List.length_append, List.length_cons, List.length_nil, List.length_replicate, beW_len]) <;> omega) | omega | (simp; done) | (simp_all; done) | (simp_all; omega)) ?_)
     refine Qk hK [1, 5, 28] ?_
     clear hK K
     refine CI rfl (fun hc => ?_) (fun hc => ?_)
     ·
      all_goals try (cases hc; done)
      all_goals try simp only [push_cast] at hc
      all_goals try (exfalso; omega)
      all_goals
       have hki := (shape_inner (right_shape hr) hl).1
       have hkd := right_kid hr hl (i := 0) (by omega)
       refine R0 fun K hK => ?_
       try simp (maxSteps := 4000000) (disch := omega) only [push_cast, Nat.reduceLT, Nat.reduceEqDiff, Nat.reduceAdd, Nat.reduceMul, Nat.reduceSub, Nat.reduceLeDiff, Int.reduceToNat, Int.reduceLT, Int.reduceLE, Int.reduceAdd, Int.reduceSub, Int.reduceMul, Int.reduceNeg, Int.reduceEq, reduceCtorEq, Int.cast_ofNat_Int, Hp.get_set, all_anyC, all_anyP, key_get, cell_get, kid_get, encC, List.length_map, encN, Hp.set_set, Hp.get_set_same, List.length_map, u64w, u8w, i64w, hg0_0, hl, hga]
       (repeat refine And.intro (by first | (unfold Go.Vm.room; and_intros <;> (try simp only [List.length_map, List.length_append, List.length_cons, List.length_nil, List.length_replicate, beW_len]) <;> omega) | omega | (simp; done) | (simp_all; done) | (simp_all; omega)) ?_)
       try simp (maxSteps := 4000000) (disch := omega) only [push_cast, Nat.reduceLT, Nat.reduceEqDiff, Nat.reduceAdd, Nat.reduceMul, Nat.reduceSub, Nat.reduceLeDiff, Int.reduceToNat, Int.reduceLT, Int.reduceLE, Int.reduceAdd, Int.reduceSub, Int.reduceMul, Int.reduceNeg, Int.reduceEq, reduceCtorEq, Int.cast_ofNat_Int, Hp.get_set, all_anyC, all_anyP, key_get, cell_get, kid_get, encC, List.length_map, encN, Hp.set_set, Hp.get_set_same, List.length_map, u64w, u8w, i64w, hg0_0, hl, hga]
       (repeat refine And.intro (by first | (unfold Go.Vm.room; and_intros <;> (try simp only [List.length_map, List.length_append, List.length_cons, List.length_nil, List.length_replicate, beW_len]) <;> omega) | omega | (simp; done) | (simp_all; done) | (simp_all; omega)) ?_)
       refine callP (page_spec _ (by first | (unfold Go.Vm.room; and_intros <;> (try simp only [List.length_map, List.length_append, List.length_cons, List.length_nil, List.length_replicate, beW_len]) <;> omega) | omega | (simp; done) | (simp_all; done) | (simp_all; omega))) rfl ?_
       try simp (maxSteps := 4000000) (disch := omega) only [push_cast, Nat.reduceLT, Nat.reduceEqDiff, Nat.reduceAdd, Nat.reduceMul, Nat.reduceSub, Nat.reduceLeDiff, Int.reduceToNat, Int.reduceLT, Int.reduceLE, Int.reduceAdd, Int.reduceSub, Int.reduceMul, Int.reduceNeg, Int.reduceEq, reduceCtorEq, Int.cast_ofNat_Int, Hp.get_set, all_anyC, all_anyP, key_get, cell_get, kid_get, encC, List.length_map, encN, Hp.set_set, Hp.get_set_same, List.length_map, u64w, u8w, i64w, hg0_0, hl, hga]
       (repeat refine And.intro (by first | (unfold Go.Vm.room; and_intros <;> (try simp only [List.length_map, List.length_append, List.length_cons, List.length_nil, List.length_replicate, beW_len]) <;> omega) | omega | (simp; done) | (simp_all; done) | (simp_all; omega)) ?_)
       try simp (maxSteps := 4000000) (disch := omega) only [push_cast, Nat.reduceLT, Nat.reduceEqDiff, Nat.reduceAdd, Nat.reduceMul, Nat.reduceSub, Nat.reduceLeDiff, Int.reduceToNat, Int.reduceLT, Int.reduceLE, Int.reduceAdd, Int.reduceSub, Int.reduceMul, Int.reduceNeg, Int.reduceEq, reduceCtorEq, Int.cast_ofNat_Int, Hp.get_set, all_anyC, all_anyP, key_get, cell_get, kid_get, encC, List.length_map, encN, Hp.set_set, Hp.get_set_same, List.length_map, u64w, u8w, i64w, hg0_0, hl, hga]
       (repeat refine And.intro (by first | (unfold Go.Vm.room; and_intros <;> (try simp only [List.length_map, List.length_append, List.length_cons, List.length_nil, List.length_replicate, beW_len]) <;> omega) | omega | (simp; done) | (simp_all; done) | (simp_all; omega)) ?_)
       try simp (maxSteps := 4000000) (disch := omega) only [push_cast, Nat.reduceLT, Nat.reduceEqDiff, Nat.reduceAdd, Nat.reduceMul, Nat.reduceSub, Nat.reduceLeDiff, Int.reduceToNat, Int.reduceLT, Int.reduceLE, Int.reduceAdd, Int.reduceSub, Int.reduceMul, Int.reduceNeg, Int.reduceEq, reduceCtorEq, Int.cast_ofNat_Int, Hp.get_set, all_anyC, all_anyP, key_get, cell_get, kid_get, encC, List.length_map, encN, Hp.set_set, Hp.get_set_same, List.length_map, u64w, u8w, i64w, hg0_0, hl, hga]
       (repeat refine And.intro (by first | (unfold Go.Vm.room; and_intros <;> (try simp only [List.length_map, List.length_append, List.length_cons, List.length_nil, List.length_replicate, beW_len]) <;> omega) | omega | (simp; done) | (simp_all; done) | (simp_all; omega)) ?_)
       try simp (maxSteps := 4000000) (disch := omega) only [push_cast, Nat.reduceLT, Nat.reduceEqDiff, Nat.reduceAdd, Nat.reduceMul, Nat.reduceSub, Nat.reduceLeDiff, Int.reduceToNat, Int.reduceLT, Int.reduceLE, Int.reduceAdd, Int.reduceSub, Int.reduceMul, Int.reduceNeg, Int.reduceEq, reduceCtorEq, Int.cast_ofNat_Int, Hp.get_set, all_anyC, all_anyP, key_get, cell_get, kid_get, encC, List.length_map, encN, Hp.set_set, Hp.get_set_same, List.length_map, u64w, u8w, i64w, hg0_0, hl, hga]
       (repeat refine And.intro (by first | (unfold Go.Vm.room; and_intros <;> (try simp only [List.length_map, List.length_append, List.length_cons, List.length_nil, List.length_replicate, beW_len]) <;> omega) | omega | (simp; done) | (simp_all; done) | (simp_all; omega)) ?_)
       refine Qk hK [1, 5] ?_
       clear hK K
       refine WS.seq (WS.seq ?_)
       refine R0 fun K hK => ?_
       try simp (maxSteps := 4000000) (disch := omega) only [push_cast, Nat.reduceLT, Nat.reduceEqDiff, Nat.reduceAdd, Nat.reduceMul, Nat.reduceSub, Nat.reduceLeDiff, Int.reduceToNat, Int.reduceLT, Int.reduceLE, Int.reduceAdd, Int.reduceSub, Int.reduceMul, Int.reduceNeg, Int.reduceEq, reduceCtorEq, Int.cast_ofNat_Int, Hp.get_set, all_anyC, all_anyP, key_get, cell_get, kid_get, encC, List.length_map, encN, Hp.set_set, Hp.get_set_same, List.length_map, u64w, u8w, i64w, hg0_0, hl, hga]
       (repeat refine And.intro (by first | (unfold Go.Vm.room; and_intros <;> (try simp only [List.length_map, List.length_append, List.length_cons, List.length_nil, List.length_replicate, beW_len]) <;> omega) | omega | (simp; done) | (simp_all; done) | (simp_all; omega)) ?_)
       refine Qk hK [1, 5, 37, 38, 39] ?_
       clear hK K
       refine Bk fun K1 hK1 => ?_
       refine WS_keep [1, 5, 37, 38, 39] _ ?_
       refine Lp (fun m env σ' => ∃ (k : Nat), m = n.keys.length - k ∧ env = [(1, .pv [.bool n.leaf, .sl 1 (n.keys.map st) .no, .sl 3 (n.cells.map encC) .no, .sl 1 (n.kids.map (V.int .i64)) .no]), (5, .sl 1 ((hd (toR n) ++ bTo n k).map u8) (.tk ga)), (37, .sl 1 (n.keys.map st) .no), (38, .int .i64 n.keys.length), (39, .int .i64 k)] ∧ σ' = Hp.empty.set ga (.tok 1 (hd (toR n) ++ bTo n k).length) ∧ (k ≤ n.keys.length)) ?_ ?_
       · refine ⟨_, 0,  rfl, ?_, ?_, ?_⟩
         · (try simp (disch := omega) only [push_cast, Int.reduceToNat, Int.reduceLT, Int.reduceLE, Int.reduceAdd, Int.reduceSub, Int.reduceMul, Int.reduceNeg, Int.reduceEq, reduceCtorEq, Nat.reduceLeDiff, Nat.reduceLT, Nat.reduceEqDiff, Nat.reduceAdd, Nat.reduceMul, Nat.reduceSub, Int.cast_ofNat_Int, all_anyC, all_anyP, key_get, cell_get, kid_get, encC, List.length_map, encN, Hp.set_set, Hp.get_set_same, List.length_map, u64w, u8w, i64w, hg0_0, hl, hga]) <;> (first | done | rfl | (simp [hd, toR, hl, parts_len, bTo_zero, beW_len, u8]; done) | (rw [hout]; simp only [List.map_append, List.append_assoc]; done) | (rw [hout]; simp only [Hp.set_set, List.length_append, List.length_cons, List.length_nil, List.length_map, beW_len]; congr 2 <;> omega) | (rw [hout]; simp only [Hp.set_set, List.length_append, List.length_cons, List.length_nil, List.length_map, beW_len]; done) | (simp; done) | (simp; omega) | omega | (simp_all; done) | (simp_all; omega))
         · first | rfl | (try simp (disch := omega) only [push_cast, Int.reduceToNat, Int.reduceLT, Int.reduceLE, Int.reduceAdd, Int.reduceSub, Int.reduceMul, Int.reduceNeg, Int.reduceEq, reduceCtorEq, Nat.reduceLeDiff, Nat.reduceLT, Nat.reduceEqDiff, Nat.reduceAdd, Nat.reduceMul, Nat.reduceSub, Int.cast_ofNat_Int, all_anyC, all_anyP, key_get, cell_get, kid_get, encC, List.length_map, encN, Hp.set_set, Hp.get_set_same, List.length_map, u64w, u8w, i64w, hg0_0, hl, hga]) <;> (first | done | rfl | (simp [hd, toR, hl, parts_len, bTo_zero, beW_len, u8]; done) | (rw [hout]; simp only [List.map_append, List.append_assoc]; done) | (rw [hout]; simp only [Hp.set_set, List.length_append, List.length_cons, List.length_nil, List.length_map, beW_len]; congr 2 <;> omega) | (rw [hout]; simp only [Hp.set_set, List.length_append, List.length_cons, List.length_nil, List.length_map, beW_len]; done) | (simp; done) | (simp; omega) | omega | (simp_all; done) | (simp_all; omega))
         · first | omega | (simp; done) | (simp_all; done) | (simp_all; omega)
       intro m env σ' hJ M1 hM1
       obtain ⟨k, rfl, rfl, rfl, hk⟩ := hJ
       have hbk := bTo_mono hk
       have hol : (hd (toR n) ++ bTo n k).length = (hd (toR n)).length + (bTo n k).length := List.length_append
       refine WS.seq ?_
       refine R0 fun K hK => ?_
       try simp (maxSteps := 4000000) (disch := omega) only [push_cast, Nat.reduceLT, Nat.reduceEqDiff, Int.reduceToNat, Int.reduceLT, Int.reduceLE, Int.reduceAdd, Int.reduceSub, Int.reduceMul, Int.reduceNeg, Int.reduceEq, reduceCtorEq, Int.cast_ofNat_Int, Hp.get_set, all_anyC, all_anyP, key_get, cell_get, kid_get, encC, List.length_map, encN, Hp.set_set, Hp.get_set_same, List.length_map, u64w, u8w, i64w, hg0_0, hl, hga]
       refine Qk hK [1, 5, 37, 38, 39, 40] ?_
       clear hK K
       refine WS.seq ?_
       refine CI rfl (fun hc => ?_) (fun hc => ?_)
       rotate_left
       ·
        all_goals try (cases hc; done)
        all_goals try simp only [push_cast] at hc
        all_goals try (exfalso; omega)
        all_goals
         obtain rfl : k = n.keys.length := by omega
         have hos : (hd (toR n) ++ bTo n n.keys.length).length = sizeN n := by omega
         have htn : ((512 : Int) - (sizeN n : Int)).toNat = 512 - sizeN n := by omega
         refine Ex ?_
         simp only [push_cast, WS, Nat.reduceEqDiff]
         refine hK1 _ _ ?_
         clear hK1
         try clear K1
         refine WS_keep [5] _ ?_
         refine WS.seq ?_
         refine R0 fun K hK => ?_
         try simp (maxSteps := 4000000) (disch := omega) only [push_cast, Nat.reduceLT, Nat.reduceEqDiff, Nat.reduceAdd, Nat.reduceMul, Nat.reduceSub, Nat.reduceLeDiff, Int.reduceToNat, Int.reduceLT, Int.reduceLE, Int.reduceAdd, Int.reduceSub, Int.reduceMul, Int.reduceNeg, Int.reduceEq, reduceCtorEq, Int.cast_ofNat_Int, Hp.get_set, all_anyC, all_anyP, key_get, cell_get, kid_get, encC, List.length_map, encN, Hp.set_set, Hp.get_set_same, List.length_map, u64w, u8w, i64w, hg0_0, hl, hga, hos, htn]
         (repeat refine And.intro (by first | (unfold Go.Vm.room; and_intros <;> (try simp only [List.length_map, List.length_append, List.length_cons, List.length_nil, List.length_replicate, beW_len]) <;> omega) | omega | (simp; done) | (simp_all; done) | (simp_all; omega)) ?_)
         try simp (maxSteps := 4000000) (disch := omega) only [push_cast, Nat.reduceLT, Nat.reduceEqDiff, Nat.reduceAdd, Nat.reduceMul, Nat.reduceSub, Nat.reduceLeDiff, Int.reduceToNat, Int.reduceLT, Int.reduceLE, Int.reduceAdd, Int.reduceSub, Int.reduceMul, Int.reduceNeg, Int.reduceEq, reduceCtorEq, Int.cast_ofNat_Int, Hp.get_set, all_anyC, all_anyP, key_get, cell_get, kid_get, encC, List.length_map, encN, Hp.set_set, Hp.get_set_same, List.length_map, u64w, u8w, i64w, hg0_0, hl, hga, hos, htn]
         (repeat refine And.intro (by first | (unfold Go.Vm.room; and_intros <;> (try simp only [List.length_map, List.length_append, List.length_cons, List.length_nil, List.length_replicate, beW_len]) <;> omega) | omega | (simp; done) | (simp_all; done) | (simp_all; omega)) ?_)
         try simp (maxSteps := 4000000) (disch := omega) only [push_cast, Nat.reduceLT, Nat.reduceEqDiff, Nat.reduceAdd, Nat.reduceMul, Nat.reduceSub, Nat.reduceLeDiff, Int.reduceToNat, Int.reduceLT, Int.reduceLE, Int.reduceAdd, Int.reduceSub, Int.reduceMul, Int.reduceNeg, Int.reduceEq, reduceCtorEq, Int.cast_ofNat_Int, Hp.get_set, all_anyC, all_anyP, key_get, cell_get, kid_get, encC, List.length_map, encN, Hp.set_set, Hp.get_set_same, List.length_map, u64w, u8w, i64w, hg0_0, hl, hga, hos, htn]
         (repeat refine And.intro (by first | (unfold Go.Vm.room; and_intros <;> (try simp only [List.length_map, List.length_append, List.length_cons, List.length_nil, List.length_replicate, beW_len]) <;> omega) | omega | (simp; done) | (simp_all; done) | (simp_all; omega)) ?_)
         try simp (maxSteps := 4000000) (disch := omega) only [push_cast, Nat.reduceLT, Nat.reduceEqDiff, Nat.reduceAdd, Nat.reduceMul, Nat.reduceSub, Nat.reduceLeDiff, Int.reduceToNat, Int.reduceLT, Int.reduceLE, Int.reduceAdd, Int.reduceSub, Int.reduceMul, Int.reduceNeg, Int.reduceEq, reduceCtorEq, Int.cast_ofNat_Int, Hp.get_set, all_anyC, all_anyP, key_get, cell_get, kid_get, encC, List.length_map, encN, Hp.set_set, Hp.get_set_same, List.length_map, u64w, u8w, i64w, hg0_0, hl, hga, hos, htn]
         (repeat refine And.intro (by first | (unfold Go.Vm.room; and_intros <;> (try simp only [List.length_map, List.length_append, List.length_cons, List.length_nil, List.length_replicate, beW_len]) <;> omega) | omega | (simp; done) | (simp_all; done) | (simp_all; omega)) ?_)
         refine Qk hK [2, 3] ?_
         clear hK K
         refine S_wk 2 rfl (Wk.untag _ _ _) ?_
         refine Rt ?_
         refine hQ0 _ _ _ ?_
         try simp (maxSteps := 4000000) only [push_cast, Int.reduceToNat, Int.reduceLT, Int.reduceLE, Int.reduceAdd, Int.reduceSub, Int.reduceMul, Int.reduceNeg, Int.reduceEq, reduceCtorEq, Nat.reduceLeDiff, Nat.reduceLT, Nat.reduceEqDiff, Nat.reduceAdd, Nat.reduceMul, Nat.reduceSub, Int.cast_ofNat_Int, all_anyC, all_anyP, key_get, cell_get, kid_get, encC, List.length_map, encN, Hp.set_set, Hp.get_set_same, List.length_map, u64w, u8w, i64w, hg0_0, hl, hga, hos, htn]
         rw [writeN_ok hr hsz5, page_eq]
         simp
       all_goals try (cases hc; done)
       all_goals try simp only [push_cast] at hc
       all_goals try (exfalso; omega)
       all_goals
        have hkk : k < n.keys.length := by omega
        have hky := (right_keys hr k hkk).1
        have hkb := key_byte (hd (toR n) ++ bTo n k) hky
        have hb1 := congrArg List.length (bTo_succ hkk)
        have hbp := pbl_le hr hkk
        refine Sk ?_
        refine WS.seq ?_
        refine Bk fun K2 hK2 => ?_
        refine WS.seq ?_
        refine R0 fun K hK => ?_
        try simp (maxSteps := 4000000) (disch := omega) only [push_cast, Nat.reduceLT, Nat.reduceEqDiff, Nat.reduceAdd, Nat.reduceMul, Nat.reduceSub, Nat.reduceLeDiff, Int.reduceToNat, Int.reduceLT, Int.reduceLE, Int.reduceAdd, Int.reduceSub, Int.reduceMul, Int.reduceNeg, Int.reduceEq, reduceCtorEq, Int.cast_ofNat_Int, Hp.get_set, all_anyC, all_anyP, key_get, cell_get, kid_get, encC, List.length_map, encN, Hp.set_set, Hp.get_set_same, List.length_map, u64w, u8w, i64w, hg0_0, hl, hga, hkb]
        (repeat refine And.intro (by first | (unfold Go.Vm.room; and_intros <;> (try simp only [List.length_map, List.length_append, List.length_cons, List.length_nil, List.length_replicate, beW_len]) <;> omega) | omega | (simp; done) | (simp_all; done) | (simp_all; omega)) ?_)
        refine Qk hK [1, 5, 6, 7, 37, 38, 39] ?_
        clear hK K
        refine WS.seq ?_
        refine R0 fun K hK => ?_
        try simp (maxSteps := 4000000) (disch := omega) only [push_cast, Nat.reduceLT, Nat.reduceEqDiff, Nat.reduceAdd, Nat.reduceMul, Nat.reduceSub, Nat.reduceLeDiff, Int.reduceToNat, Int.reduceLT, Int.reduceLE, Int.reduceAdd, Int.reduceSub, Int.reduceMul, Int.reduceNeg, Int.reduceEq, reduceCtorEq, Int.cast_ofNat_Int, Hp.get_set, all_anyC, all_anyP, key_get, cell_get, kid_get, encC, List.length_map, encN, Hp.set_set, Hp.get_set_same, List.length_map, u64w, u8w, i64w, hg0_0, hl, hga, hkb]
        (repeat refine And.intro (by first | (unfold Go.Vm.room; and_intros <;> (try simp only [List.length_map, List.length_append, List.length_cons, List.length_nil, List.length_replicate, beW_len]) <;> omega) | omega | (simp; done) | (simp_all; done) | (simp_all; omega)) ?_)
        try simp (maxSteps := 4000000) (disch := omega) only [push_cast, Nat.reduceLT, Nat.reduceEqDiff, Nat.reduceAdd, Nat.reduceMul, Nat.reduceSub, Nat.reduceLeDiff, Int.reduceToNat, Int.reduceLT, Int.reduceLE, Int.reduceAdd, Int.reduceSub, Int.reduceMul, Int.reduceNeg, Int.reduceEq, reduceCtorEq, Int.cast_ofNat_Int, Hp.get_set, all_anyC, all_anyP, key_get, cell_get, kid_get, encC, List.length_map, encN, Hp.set_set, Hp.get_set_same, List.length_map, u64w, u8w, i64w, hg0_0, hl, hga, hkb]
        (repeat refine And.intro (by first | (unfold Go.Vm.room; and_intros <;> (try simp only [List.length_map, List.length_append, List.length_cons, List.length_nil, List.length_replicate, beW_len]) <;> omega) | omega | (simp; done) | (simp_all; done) | (simp_all; omega)) ?_)
        try simp (maxSteps := 4000000) (disch := omega) only [push_cast, Nat.reduceLT, Nat.reduceEqDiff, Nat.reduceAdd, Nat.reduceMul, Nat.reduceSub, Nat.reduceLeDiff, Int.reduceToNat, Int.reduceLT, Int.reduceLE, Int.reduceAdd, Int.reduceSub, Int.reduceMul, Int.reduceNeg, Int.reduceEq, reduceCtorEq, Int.cast_ofNat_Int, Hp.get_set, all_anyC, all_anyP, key_get, cell_get, kid_get, encC, List.length_map, encN, Hp.set_set, Hp.get_set_same, List.length_map, u64w, u8w, i64w, hg0_0, hl, hga, hkb]
        (repeat refine And.intro (by first | (unfold Go.Vm.room; and_intros <;> (try simp only [List.length_map, List.length_append, List.length_cons, List.length_nil, List.length_replicate, beW_len]) <;> omega) | omega | (simp; done) | (simp_all; done) | (simp_all; omega)) ?_)
        try simp (maxSteps := 4000000) (disch := omega) only [push_cast, Nat.reduceLT, Nat.reduceEqDiff, Nat.reduceAdd, Nat.reduceMul, Nat.reduceSub, Nat.reduceLeDiff, Int.reduceToNat, Int.reduceLT, Int.reduceLE, Int.reduceAdd, Int.reduceSub, Int.reduceMul, Int.reduceNeg, Int.reduceEq, reduceCtorEq, Int.cast_ofNat_Int, Hp.get_set, all_anyC, all_anyP, key_get, cell_get, kid_get, encC, List.length_map, encN, Hp.set_set, Hp.get_set_same, List.length_map, u64w, u8w, i64w, hg0_0, hl, hga, hkb]
        (repeat refine And.intro (by first | (unfold Go.Vm.room; and_intros <;> (try simp only [List.length_map, List.length_append, List.length_cons, List.length_nil, List.length_replicate, beW_len]) <;> omega) | omega | (simp; done) | (simp_all; done) | (simp_all; omega)) ?_)
        refine Qk hK [1, 5, 6, 7, 37, 38, 39] ?_
        clear hK K
        refine WS.seq (WS.seq ?_)
        refine R0 fun K hK => ?_
        try simp (maxSteps := 4000000) (disch := omega) only [push_cast, Nat.reduceLT, Nat.reduceEqDiff, Nat.reduceAdd, Nat.reduceMul, Nat.reduceSub, Nat.reduceLeDiff, Int.reduceToNat, Int.reduceLT, Int.reduceLE, Int.reduceAdd, Int.reduceSub, Int.reduceMul, Int.reduceNeg, Int.reduceEq, reduceCtorEq, Int.cast_ofNat_Int, Hp.get_set, all_anyC, all_anyP, key_get, cell_get, kid_get, encC, List.length_map, encN, Hp.set_set, Hp.get_set_same, List.length_map, u64w, u8w, i64w, hg0_0, hl, hga, hkb]
        (repeat refine And.intro (by first | (unfold Go.Vm.room; and_intros <;> (try simp only [List.length_map, List.length_append, List.length_cons, List.length_nil, List.length_replicate, beW_len]) <;> omega) | omega | (simp; done) | (simp_all; done) | (simp_all; omega)) ?_)
        refine Qk hK [1, 5, 6, 7, 37, 38, 39, 52] ?_
        clear hK K
        refine CI rfl (fun hc => ?_) (fun hc => ?_)
        ·
         all_goals try (cases hc; done)
         all_goals try simp only [push_cast] at hc
         all_goals try (exfalso; omega)
         all_goals
          have hki := (shape_inner (right_shape hr) hl).1
          have hkd := right_kid hr hl (i := k + 1) (by omega)
          have hout := out_inner hl hkk
          refine WS.seq ?_
          refine R0 fun K hK => ?_
          try simp (maxSteps := 4000000) (disch := omega) only [push_cast, Nat.reduceLT, Nat.reduceEqDiff, Nat.reduceAdd, Nat.reduceMul, Nat.reduceSub, Nat.reduceLeDiff, Int.reduceToNat, Int.reduceLT, Int.reduceLE, Int.reduceAdd, Int.reduceSub, Int.reduceMul, Int.reduceNeg, Int.reduceEq, reduceCtorEq, Int.cast_ofNat_Int, Hp.get_set, all_anyC, all_anyP, key_get, cell_get, kid_get, encC, List.length_map, encN, Hp.set_set, Hp.get_set_same, List.length_map, u64w, u8w, i64w, hg0_0, hl, hga, hkb]
          (repeat refine And.intro (by first | (unfold Go.Vm.room; and_intros <;> (try simp only [List.length_map, List.length_append, List.length_cons, List.length_nil, List.length_replicate, beW_len]) <;> omega) | omega | (simp; done) | (simp_all; done) | (simp_all; omega)) ?_)
          try simp (maxSteps := 4000000) (disch := omega) only [push_cast, Nat.reduceLT, Nat.reduceEqDiff, Nat.reduceAdd, Nat.reduceMul, Nat.reduceSub, Nat.reduceLeDiff, Int.reduceToNat, Int.reduceLT, Int.reduceLE, Int.reduceAdd, Int.reduceSub, Int.reduceMul, Int.reduceNeg, Int.reduceEq, reduceCtorEq, Int.cast_ofNat_Int, Hp.get_set, all_anyC, all_anyP, key_get, cell_get, kid_get, encC, List.length_map, encN, Hp.set_set, Hp.get_set_same, List.length_map, u64w, u8w, i64w, hg0_0, hl, hga, hkb]
          (repeat refine And.intro (by first | (unfold Go.Vm.room; and_intros <;> (try simp only [List.length_map, List.length_append, List.length_cons, List.length_nil, List.length_replicate, beW_len]) <;> omega) | omega | (simp; done) | (simp_all; done) | (simp_all; omega)) ?_)
          try simp (maxSteps := 4000000) (disch := omega) only [push_cast, Nat.reduceLT, Nat.reduceEqDiff, Nat.reduceAdd, Nat.reduceMul, Nat.reduceSub, Nat.reduceLeDiff, Int.reduceToNat, Int.reduceLT, Int.reduceLE, Int.reduceAdd, Int.reduceSub, Int.reduceMul, Int.reduceNeg, Int.reduceEq, reduceCtorEq, Int.cast_ofNat_Int, Hp.get_set, all_anyC, all_anyP, key_get, cell_get, kid_get, encC, List.length_map, encN, Hp.set_set, Hp.get_set_same, List.length_map, u64w, u8w, i64w, hg0_0, hl, hga, hkb]
          (repeat refine And.intro (by first | (unfold Go.Vm.room; and_intros <;> (try simp only [List.length_map, List.length_append, List.length_cons, List.length_nil, List.length_replicate, beW_len]) <;> omega) | omega | (simp; done) | (simp_all; done) | (simp_all; omega)) ?_)
          try simp (maxSteps := 4000000) (disch := omega) only [push_cast, Nat.reduceLT, Nat.reduceEqDiff, Nat.reduceAdd, Nat.reduceMul, Nat.reduceSub, Nat.reduceLeDiff, Int.reduceToNat, Int.reduceLT, Int.reduceLE, Int.reduceAdd, Int.reduceSub, Int.reduceMul, Int.reduceNeg, Int.reduceEq, reduceCtorEq, Int.cast_ofNat_Int, Hp.get_set, all_anyC, all_anyP, key_get, cell_get, kid_get, encC, List.length_map, encN, Hp.set_set, Hp.get_set_same, List.length_map, u64w, u8w, i64w, hg0_0, hl, hga, hkb]
          (repeat refine And.intro (by first | (unfold Go.Vm.room; and_intros <;> (try simp only [List.length_map, List.length_append, List.length_cons, List.length_nil, List.length_replicate, beW_len]) <;> omega) | omega | (simp; done) | (simp_all; done) | (simp_all; omega)) ?_)
          refine Qk hK [1, 5, 6, 37, 38, 39] ?_
          clear hK K
          refine WS.seq ?_
          refine R0 fun K hK => ?_
          try simp (maxSteps := 4000000) (disch := omega) only [push_cast, Nat.reduceLT, Nat.reduceEqDiff, Nat.reduceAdd, Nat.reduceMul, Nat.reduceSub, Nat.reduceLeDiff, Int.reduceToNat, Int.reduceLT, Int.reduceLE, Int.reduceAdd, Int.reduceSub, Int.reduceMul, Int.reduceNeg, Int.reduceEq, reduceCtorEq, Int.cast_ofNat_Int, Hp.get_set, all_anyC, all_anyP, key_get, cell_get, kid_get, encC, List.length_map, encN, Hp.set_set, Hp.get_set_same, List.length_map, u64w, u8w, i64w, hg0_0, hl, hga, hkb]
          (repeat refine And.intro (by first | (unfold Go.Vm.room; and_intros <;> (try simp only [List.length_map, List.length_append, List.length_cons, List.length_nil, List.length_replicate, beW_len]) <;> omega) | omega | (simp; done) | (simp_all; done) | (simp_all; omega)) ?_)
          try simp (maxSteps := 4000000) (disch := omega) only [push_cast, Nat.reduceLT, Nat.reduceEqDiff, Nat.reduceAdd, Nat.reduceMul, Nat.reduceSub, Nat.reduceLeDiff, Int.reduceToNat, Int.reduceLT, Int.reduceLE, Int.reduceAdd, Int.reduceSub, Int.reduceMul, Int.reduceNeg, Int.reduceEq, reduceCtorEq, Int.cast_ofNat_Int, Hp.get_set, all_anyC, all_anyP, key_get, cell_get, kid_get, encC, List.length_map, encN, Hp.set_set, Hp.get_set_same, List.length_map, u64w, u8w, i64w, hg0_0, hl, hga, hkb]
          (repeat refine And.intro (by first | (unfold Go.Vm.room; and_intros <;> (try simp only [List.length_map, List.length_append, List.length_cons, List.length_nil, List.length_replicate, beW_len]) <;> omega) | omega | (simp; done) | (simp_all; done) | (simp_all; omega)) ?_)
          refine callP (page_spec _ (by first | (unfold Go.Vm.room; and_intros <;> (try simp only [List.length_map, List.length_append, List.length_cons, List.length_nil, List.length_replicate, beW_len]) <;> omega) | omega | (simp; done) | (simp_all; done) | (simp_all; omega))) rfl ?_
          try simp (maxSteps := 4000000) (disch := omega) only [push_cast, Nat.reduceLT, Nat.reduceEqDiff, Nat.reduceAdd, Nat.reduceMul, Nat.reduceSub, Nat.reduceLeDiff, Int.reduceToNat, Int.reduceLT, Int.reduceLE, Int.reduceAdd, Int.reduceSub, Int.reduceMul, Int.reduceNeg, Int.reduceEq, reduceCtorEq, Int.cast_ofNat_Int, Hp.get_set, all_anyC, all_anyP, key_get, cell_get, kid_get, encC, List.length_map, encN, Hp.set_set, Hp.get_set_same, List.length_map, u64w, u8w, i64w, hg0_0, hl, hga, hkb]
          (repeat refine And.intro (by first | (unfold Go.Vm.room; and_intros <;> (try simp only [List.length_map, List.length_append, List.length_cons, List.length_nil, List.length_replicate, beW_len]) <;> omega) | omega | (simp; done) | (simp_all; done) | (simp_all; omega)) ?_)
          try simp (maxSteps := 4000000) (disch := omega) only [push_cast, Nat.reduceLT, Nat.reduceEqDiff, Nat.reduceAdd, Nat.reduceMul, Nat.reduceSub, Nat.reduceLeDiff, Int.reduceToNat, Int.reduceLT, Int.reduceLE, Int.reduceAdd, Int.reduceSub, Int.reduceMul, Int.reduceNeg, Int.reduceEq, reduceCtorEq, Int.cast_ofNat_Int, Hp.get_set, all_anyC, all_anyP, key_get, cell_get, kid_get, encC, List.length_map, encN, Hp.set_set, Hp.get_set_same, List.length_map, u64w, u8w, i64w, hg0_0, hl, hga, hkb]
          (repeat refine And.intro (by first | (unfold Go.Vm.room; and_intros <;> (try simp only [List.length_map, List.length_append, List.length_cons, List.length_nil, List.length_replicate, beW_len]) <;> omega) | omega | (simp; done) | (simp_all; done) | (simp_all; omega)) ?_)
          try simp (maxSteps := 4000000) (disch := omega) only [push_cast, Nat.reduceLT, Nat.reduceEqDiff, Nat.reduceAdd, Nat.reduceMul, Nat.reduceSub, Nat.reduceLeDiff, Int.reduceToNat, Int.reduceLT, Int.reduceLE, Int.reduceAdd, Int.reduceSub, Int.reduceMul, Int.reduceNeg, Int.reduceEq, reduceCtorEq, Int.cast_ofNat_Int, Hp.get_set, all_anyC, all_anyP, key_get, cell_get, kid_get, encC, List.length_map, encN, Hp.set_set, Hp.get_set_same, List.length_map, u64w, u8w, i64w, hg0_0, hl, hga, hkb]
          (repeat refine And.intro (by first | (unfold Go.Vm.room; and_intros <;> (try simp only [List.length_map, List.length_append, List.length_cons, List.length_nil, List.length_replicate, beW_len]) <;> omega) | omega | (simp; done) | (simp_all; done) | (simp_all; omega)) ?_)
          try simp (maxSteps := 4000000) (disch := omega) only [push_cast, Nat.reduceLT, Nat.reduceEqDiff, Nat.reduceAdd, Nat.reduceMul, Nat.reduceSub, Nat.reduceLeDiff, Int.reduceToNat, Int.reduceLT, Int.reduceLE, Int.reduceAdd, Int.reduceSub, Int.reduceMul, Int.reduceNeg, Int.reduceEq, reduceCtorEq, Int.cast_ofNat_Int, Hp.get_set, all_anyC, all_anyP, key_get, cell_get, kid_get, encC, List.length_map, encN, Hp.set_set, Hp.get_set_same, List.length_map, u64w, u8w, i64w, hg0_0, hl, hga, hkb]
          (repeat refine And.intro (by first | (unfold Go.Vm.room; and_intros <;> (try simp only [List.length_map, List.length_append, List.length_cons, List.length_nil, List.length_replicate, beW_len]) <;> omega) | omega | (simp; done) | (simp_all; done) | (simp_all; omega)) ?_)
          refine Qk hK [1, 5, 37, 38, 39] ?_
          clear hK K
          refine Ex ?_
          simp only [push_cast, WS, Nat.reduceEqDiff]
          refine hK2 _ _ ?_
          clear hK2
          try clear K2
          refine WS_keep [1, 5, 37, 38, 39] _ ?_
          refine R0 fun K hK => ?_
          try simp (maxSteps := 4000000) (disch := omega) only [push_cast, Nat.reduceLT, Nat.reduceEqDiff, Int.reduceToNat, Int.reduceLT, Int.reduceLE, Int.reduceAdd, Int.reduceSub, Int.reduceMul, Int.reduceNeg, Int.reduceEq, reduceCtorEq, Int.cast_ofNat_Int, Hp.get_set, all_anyC, all_anyP, key_get, cell_get, kid_get, encC, List.length_map, encN, Hp.set_set, Hp.get_set_same, List.length_map, u64w, u8w, i64w, hg0_0, hl, hga, hkb]
          (repeat refine And.intro (by first | (unfold Go.Vm.room; and_intros <;> (try simp only [List.length_map, List.length_append, List.length_cons, List.length_nil, List.length_replicate, beW_len]) <;> omega) | omega | (simp; done) | (simp_all; done) | (simp_all; omega)) ?_)
          refine Qk hK [1, 5, 37, 38, 39] ?_
          clear hK K
          refine Ag (hM1 _ _ ?_)
          refine ⟨_, ?_, k + 1,  rfl, ?_, ?_, ?_⟩
          · first | omega | (simp; done) | (simp_all; done) | (simp_all; omega)
          · (try simp (disch := omega) only [push_cast, Int.reduceToNat, Int.reduceLT, Int.reduceLE, Int.reduceAdd, Int.reduceSub, Int.reduceMul, Int.reduceNeg, Int.reduceEq, reduceCtorEq, Nat.reduceLeDiff, Nat.reduceLT, Nat.reduceEqDiff, Nat.reduceAdd, Nat.reduceMul, Nat.reduceSub, Int.cast_ofNat_Int, all_anyC, all_anyP, key_get, cell_get, kid_get, encC, List.length_map, encN, Hp.set_set, Hp.get_set_same, List.length_map, u64w, u8w, i64w, hg0_0, hl, hga, hkb]) <;> (first | done | rfl | (simp [hd, toR, hl, parts_len, bTo_zero, beW_len, u8]; done) | (rw [hout]; simp only [List.map_append, List.append_assoc]; done) | (rw [hout]; simp only [Hp.set_set, List.length_append, List.length_cons, List.length_nil, List.length_map, beW_len]; congr 2 <;> omega) | (rw [hout]; simp only [Hp.set_set, List.length_append, List.length_cons, List.length_nil, List.length_map, beW_len]; done) | (simp; done) | (simp; omega) | omega | (simp_all; done) | (simp_all; omega))
          · first | rfl | (try simp (disch := omega) only [push_cast, Int.reduceToNat, Int.reduceLT, Int.reduceLE, Int.reduceAdd, Int.reduceSub, Int.reduceMul, Int.reduceNeg, Int.reduceEq, reduceCtorEq, Nat.reduceLeDiff, Nat.reduceLT, Nat.reduceEqDiff, Nat.reduceAdd, Nat.reduceMul, Nat.reduceSub, Int.cast_ofNat_Int, all_anyC, all_anyP, key_get, cell_get, kid_get, encC, List.length_map, encN, Hp.set_set, Hp.get_set_same, List.length_map, u64w, u8w, i64w, hg0_0, hl, hga, hkb]) <;> (first | done | rfl | (simp [hd, toR, hl, parts_len, bTo_zero, beW_len, u8]; done) | (rw [hout]; simp only [List.map_append, List.append_assoc]; done) | (rw [hout]; simp only [Hp.set_set, List.length_append, List.length_cons, List.length_nil, List.length_map, beW_len]; congr 2 <;> omega) | (rw [hout]; simp only [Hp.set_set, List.length_append, List.length_cons, List.length_nil, List.length_map, beW_len]; done) | (simp; done) | (simp; omega) | omega | (simp_all; done) | (simp_all; omega))
          · first | omega | (simp; done) | (simp_all; done) | (simp_all; omega)
        all_goals try (cases hc; done)
        all_goals try simp only [push_cast] at hc
        all_goals try (exfalso; omega)
        all_goals
         have hcl := (shape_leaf (right_shape hr) hl).1
         have hci := cright_len (right_cell hr hl hkk)
         have hout := out_leaf hl hkk
         refine Sk ?_
         refine WS.seq ?_
         refine R0 fun K hK => ?_
         try simp (maxSteps := 4000000) (disch := omega) only [push_cast, Nat.reduceLT, Nat.reduceEqDiff, Nat.reduceAdd, Nat.reduceMul, Nat.reduceSub, Nat.reduceLeDiff, Int.reduceToNat, Int.reduceLT, Int.reduceLE, Int.reduceAdd, Int.reduceSub, Int.reduceMul, Int.reduceNeg, Int.reduceEq, reduceCtorEq, Int.cast_ofNat_Int, Hp.get_set, all_anyC, all_anyP, key_get, cell_get, kid_get, encC, List.length_map, encN, Hp.set_set, Hp.get_set_same, List.length_map, u64w, u8w, i64w, hg0_0, hl, hga, hkb]
         (repeat refine And.intro (by first | (unfold Go.Vm.room; and_intros <;> (try simp only [List.length_map, List.length_append, List.length_cons, List.length_nil, List.length_replicate, beW_len]) <;> omega) | omega | (simp; done) | (simp_all; done) | (simp_all; omega)) ?_)
         refine fun g18_5 hg18_5 => ?_
         try simp only [Hp.set_none, Hp.join_none_iff] at hg18_5
         try simp (maxSteps := 4000000) (disch := omega) only [push_cast, Nat.reduceLT, Nat.reduceEqDiff, Nat.reduceAdd, Nat.reduceMul, Nat.reduceSub, Nat.reduceLeDiff, Int.reduceToNat, Int.reduceLT, Int.reduceLE, Int.reduceAdd, Int.reduceSub, Int.reduceMul, Int.reduceNeg, Int.reduceEq, reduceCtorEq, Int.cast_ofNat_Int, Hp.get_set, all_anyC, all_anyP, key_get, cell_get, kid_get, encC, List.length_map, encN, Hp.set_set, Hp.get_set_same, List.length_map, u64w, u8w, i64w, hg0_0, hl, hga, hkb, hg18_5]
         (repeat refine And.intro (by first | (unfold Go.Vm.room; and_intros <;> (try simp only [List.length_map, List.length_append, List.length_cons, List.length_nil, List.length_replicate, beW_len]) <;> omega) | omega | (simp; done) | (simp_all; done) | (simp_all; omega)) ?_)
         refine Qk hK [1, 5, 7, 8, 37, 38, 39] ?_
         clear hK K
         refine S_frz 8 rfl (Hp.set_none.2 hg18_5) ?_
         refine WS.seq ?_
         refine R0 fun K hK => ?_
         try simp (maxSteps := 4000000) (disch := omega) only [push_cast, Nat.reduceLT, Nat.reduceEqDiff, Nat.reduceAdd, Nat.reduceMul, Nat.reduceSub, Nat.reduceLeDiff, Int.reduceToNat, Int.reduceLT, Int.reduceLE, Int.reduceAdd, Int.reduceSub, Int.reduceMul, Int.reduceNeg, Int.reduceEq, reduceCtorEq, Int.cast_ofNat_Int, Hp.get_set, all_anyC, all_anyP, key_get, cell_get, kid_get, encC, List.length_map, encN, Hp.set_set, Hp.get_set_same, List.length_map, u64w, u8w, i64w, hg0_0, hl, hga, hkb, hg18_5]
         (repeat refine And.intro (by first | (unfold Go.Vm.room; and_intros <;> (try simp only [List.length_map, List.length_append, List.length_cons, List.length_nil, List.length_replicate, beW_len]) <;> omega) | omega | (simp; done) | (simp_all; done) | (simp_all; omega)) ?_)
         refine callS (wide_spec ((hd (toR n) ++ bTo n k) ++ [UInt8.ofNat (n.keys.getD k []).length]) 2 ((n.cells.getD k default).len) (by omega) (by omega) (by simp; omega) (by rw [Hp.get_set_same]; simp <;> omega)) (fun v τ h => ?_); obtain ⟨rfl, rfl⟩ := h
         try simp (maxSteps := 4000000) (disch := omega) only [push_cast, Nat.reduceLT, Nat.reduceEqDiff, Nat.reduceAdd, Nat.reduceMul, Nat.reduceSub, Nat.reduceLeDiff, Int.reduceToNat, Int.reduceLT, Int.reduceLE, Int.reduceAdd, Int.reduceSub, Int.reduceMul, Int.reduceNeg, Int.reduceEq, reduceCtorEq, Int.cast_ofNat_Int, Hp.get_set, all_anyC, all_anyP, key_get, cell_get, kid_get, encC, List.length_map, encN, Hp.set_set, Hp.get_set_same, List.length_map, u64w, u8w, i64w, hg0_0, hl, hga, hkb, hg18_5]
         (repeat refine And.intro (by first | (unfold Go.Vm.room; and_intros <;> (try simp only [List.length_map, List.length_append, List.length_cons, List.length_nil, List.length_replicate, beW_len]) <;> omega) | omega | (simp; done) | (simp_all; done) | (simp_all; omega)) ?_)
         refine Qk hK [1, 5, 7, 8, 37, 38, 39] ?_
         clear hK K
         refine WS.seq ?_
         refine R0 fun K hK => ?_
         try simp (maxSteps := 4000000) (disch := omega) only [push_cast, Nat.reduceLT, Nat.reduceEqDiff, Nat.reduceAdd, Nat.reduceMul, Nat.reduceSub, Nat.reduceLeDiff, Int.reduceToNat, Int.reduceLT, Int.reduceLE, Int.reduceAdd, Int.reduceSub, Int.reduceMul, Int.reduceNeg, Int.reduceEq, reduceCtorEq, Int.cast_ofNat_Int, Hp.get_set, all_anyC, all_anyP, key_get, cell_get, kid_get, encC, List.length_map, encN, Hp.set_set, Hp.get_set_same, List.length_map, u64w, u8w, i64w, hg0_0, hl, hga, hkb, hg18_5]
         (repeat refine And.intro (by first | (unfold Go.Vm.room; and_intros <;> (try simp only [List.length_map, List.length_append, List.length_cons, List.length_nil, List.length_replicate, beW_len]) <;> omega) | omega | (simp; done) | (simp_all; done) | (simp_all; omega)) ?_)
         try simp (maxSteps := 4000000) (disch := omega) only [push_cast, Nat.reduceLT, Nat.reduceEqDiff, Nat.reduceAdd, Nat.reduceMul, Nat.reduceSub, Nat.reduceLeDiff, Int.reduceToNat, Int.reduceLT, Int.reduceLE, Int.reduceAdd, Int.reduceSub, Int.reduceMul, Int.reduceNeg, Int.reduceEq, reduceCtorEq, Int.cast_ofNat_Int, Hp.get_set, all_anyC, all_anyP, key_get, cell_get, kid_get, encC, List.length_map, encN, Hp.set_set, Hp.get_set_same, List.length_map, u64w, u8w, i64w, hg0_0, hl, hga, hkb, hg18_5]
         (repeat refine And.intro (by first | (unfold Go.Vm.room; and_intros <;> (try simp only [List.length_map, List.length_append, List.length_cons, List.length_nil, List.length_replicate, beW_len]) <;> omega) | omega | (simp; done) | (simp_all; done) | (simp_all; omega)) ?_)
         try simp (maxSteps := 4000000) (disch := omega) only [push_cast, Nat.reduceLT, Nat.reduceEqDiff, Nat.reduceAdd, Nat.reduceMul, Nat.reduceSub, Nat.reduceLeDiff, Int.reduceToNat, Int.reduceLT, Int.reduceLE, Int.reduceAdd, Int.reduceSub, Int.reduceMul, Int.reduceNeg, Int.reduceEq, reduceCtorEq, Int.cast_ofNat_Int, Hp.get_set, all_anyC, all_anyP, key_get, cell_get, kid_get, encC, List.length_map, encN, Hp.set_set, Hp.get_set_same, List.length_map, u64w, u8w, i64w, hg0_0, hl, hga, hkb, hg18_5]
         (repeat refine And.intro (by first | (unfold Go.Vm.room; and_intros <;> (try simp only [List.length_map, List.length_append, List.length_cons, List.length_nil, List.length_replicate, beW_len]) <;> omega) | omega | (simp; done) | (simp_all; done) | (simp_all; omega)) ?_)
         try simp (maxSteps := 4000000) (disch := omega) only [push_cast, Nat.reduceLT, Nat.reduceEqDiff, Nat.reduceAdd, Nat.reduceMul, Nat.reduceSub, Nat.reduceLeDiff, Int.reduceToNat, Int.reduceLT, Int.reduceLE, Int.reduceAdd, Int.reduceSub, Int.reduceMul, Int.reduceNeg, Int.reduceEq, reduceCtorEq, Int.cast_ofNat_Int, Hp.get_set, all_anyC, all_anyP, key_get, cell_get, kid_get, encC, List.length_map, encN, Hp.set_set, Hp.get_set_same, List.length_map, u64w, u8w, i64w, hg0_0, hl, hga, hkb, hg18_5]
         (repeat refine And.intro (by first | (unfold Go.Vm.room; and_intros <;> (try simp only [List.length_map, List.length_append, List.length_cons, List.length_nil, List.length_replicate, beW_len]) <;> omega) | omega | (simp; done) | (simp_all; done) | (simp_all; omega)) ?_)
         refine Qk hK [1, 5, 8, 37, 38, 39] ?_
         clear hK K
         refine WS.seq ?_
         refine R0 fun K hK => ?_
         try simp (maxSteps := 4000000) (disch := omega) only [push_cast, Nat.reduceLT, Nat.reduceEqDiff, Nat.reduceAdd, Nat.reduceMul, Nat.reduceSub, Nat.reduceLeDiff, Int.reduceToNat, Int.reduceLT, Int.reduceLE, Int.reduceAdd, Int.reduceSub, Int.reduceMul, Int.reduceNeg, Int.reduceEq, reduceCtorEq, Int.cast_ofNat_Int, Hp.get_set, all_anyC, all_anyP, key_get, cell_get, kid_get, encC, List.length_map, encN, Hp.set_set, Hp.get_set_same, List.length_map, u64w, u8w, i64w, hg0_0, hl, hga, hkb, hg18_5]
         (repeat refine And.intro (by first | (unfold Go.Vm.room; and_intros <;> (try simp only [List.length_map, List.length_append, List.length_cons, List.length_nil, List.length_replicate, beW_len]) <;> omega) | omega | (simp; done) | (simp_all; done) | (simp_all; omega)) ?_)
         refine Qk hK [1, 5, 8, 37, 38, 39, 80] ?_
         clear hK K
         refine CI rfl (fun hc => ?_) (fun hc => ?_)
         ·
          all_goals try (cases hc; done)
          all_goals try simp only [push_cast] at hc
          all_goals try (exfalso; omega)
          all_goals
           rw [if_pos hc] at hout
           refine R0 fun K hK => ?_
           try simp (maxSteps := 4000000) (disch := omega) only [push_cast, Nat.reduceLT, Nat.reduceEqDiff, Nat.reduceAdd, Nat.reduceMul, Nat.reduceSub, Nat.reduceLeDiff, Int.reduceToNat, Int.reduceLT, Int.reduceLE, Int.reduceAdd, Int.reduceSub, Int.reduceMul, Int.reduceNeg, Int.reduceEq, reduceCtorEq, Int.cast_ofNat_Int, Hp.get_set, all_anyC, all_anyP, key_get, cell_get, kid_get, encC, List.length_map, encN, Hp.set_set, Hp.get_set_same, List.length_map, u64w, u8w, i64w, hg0_0, hl, hga, hkb, hg18_5]
           (repeat refine And.intro (by first | (unfold Go.Vm.room; and_intros <;> (try simp only [List.length_map, List.length_append, List.length_cons, List.length_nil, List.length_replicate, beW_len]) <;> omega) | omega | (simp; done) | (simp_all; done) | (simp_all; omega)) ?_)
           try simp (maxSteps := 4000000) (disch := omega) only [push_cast, Nat.reduceLT, Nat.reduceEqDiff, Nat.reduceAdd, Nat.reduceMul, Nat.reduceSub, Nat.reduceLeDiff, Int.reduceToNat, Int.reduceLT, Int.reduceLE, Int.reduceAdd, Int.reduceSub, Int.reduceMul, Int.reduceNeg, Int.reduceEq, reduceCtorEq, Int.cast_ofNat_Int, Hp.get_set, all_anyC, all_anyP, key_get, cell_get, kid_get, encC, List.length_map, encN, Hp.set_set, Hp.get_set_same, List.length_map, u64w, u8w, i64w, hg0_0, hl, hga, hkb, hg18_5]
           (repeat refine And.intro (by first | (unfold Go.Vm.room; and_intros <;> (try simp only [List.length_map, List.length_append, List.length_cons, List.length_nil, List.length_replicate, beW_len]) <;> omega) | omega | (simp; done) | (simp_all; done) | (simp_all; omega)) ?_)
           try simp (maxSteps := 4000000) (disch := omega) only [push_cast, Nat.reduceLT, Nat.reduceEqDiff, Nat.reduceAdd, Nat.reduceMul, Nat.reduceSub, Nat.reduceLeDiff, Int.reduceToNat, Int.reduceLT, Int.reduceLE, Int.reduceAdd, Int.reduceSub, Int.reduceMul, Int.reduceNeg, Int.reduceEq, reduceCtorEq, Int.cast_ofNat_Int, Hp.get_set, all_anyC, all_anyP, key_get, cell_get, kid_get, encC, List.length_map, encN, Hp.set_set, Hp.get_set_same, List.length_map, u64w, u8w, i64w, hg0_0, hl, hga, hkb, hg18_5]
           (repeat refine And.intro (by first | (unfold Go.Vm.room; and_intros <;> (try simp only [List.length_map, List.length_append, List.length_cons, List.length_nil, List.length_replicate, beW_len]) <;> omega) | omega | (simp; done) | (simp_all; done) | (simp_all; omega)) ?_)
           try simp (maxSteps := 4000000) (disch := omega) only [push_cast, Nat.reduceLT, Nat.reduceEqDiff, Nat.reduceAdd, Nat.reduceMul, Nat.reduceSub, Nat.reduceLeDiff, Int.reduceToNat, Int.reduceLT, Int.reduceLE, Int.reduceAdd, Int.reduceSub, Int.reduceMul, Int.reduceNeg, Int.reduceEq, reduceCtorEq, Int.cast_ofNat_Int, Hp.get_set, all_anyC, all_anyP, key_get, cell_get, kid_get, encC, List.length_map, encN, Hp.set_set, Hp.get_set_same, List.length_map, u64w, u8w, i64w, hg0_0, hl, hga, hkb, hg18_5]
           (repeat refine And.intro (by first | (unfold Go.Vm.room; and_intros <;> (try simp only [List.length_map, List.length_append, List.length_cons, List.length_nil, List.length_replicate, beW_len]) <;> omega) | omega | (simp; done) | (simp_all; done) | (simp_all; omega)) ?_)
           refine Qk hK [1, 5, 37, 38, 39] ?_
           clear hK K
           simp only [push_cast, WS, Nat.reduceEqDiff]
           refine hK2 _ _ ?_
           clear hK2
           try clear K2
           refine WS_keep [1, 5, 37, 38, 39] _ ?_
           refine R0 fun K hK => ?_
           try simp (maxSteps := 4000000) (disch := omega) only [push_cast, Nat.reduceLT, Nat.reduceEqDiff, Int.reduceToNat, Int.reduceLT, Int.reduceLE, Int.reduceAdd, Int.reduceSub, Int.reduceMul, Int.reduceNeg, Int.reduceEq, reduceCtorEq, Int.cast_ofNat_Int, Hp.get_set, all_anyC, all_anyP, key_get, cell_get, kid_get, encC, List.length_map, encN, Hp.set_set, Hp.get_set_same, List.length_map, u64w, u8w, i64w, hg0_0, hl, hga, hkb, hg18_5]
           (repeat refine And.intro (by first | (unfold Go.Vm.room; and_intros <;> (try simp only [List.length_map, List.length_append, List.length_cons, List.length_nil, List.length_replicate, beW_len]) <;> omega) | omega | (simp; done) | (simp_all; done) | (simp_all; omega)) ?_)
           refine Qk hK [1, 5, 37, 38, 39] ?_
           clear hK K
           refine Ag (hM1 _ _ ?_)
           refine ⟨_, ?_, k + 1,  rfl, ?_, ?_, ?_⟩
           · first | omega | (simp; done) | (simp_all; done) | (simp_all; omega)
           · (try simp (disch := omega) only [push_cast, Int.reduceToNat, Int.reduceLT, Int.reduceLE, Int.reduceAdd, Int.reduceSub, Int.reduceMul, Int.reduceNeg, Int.reduceEq, reduceCtorEq, Nat.reduceLeDiff, Nat.reduceLT, Nat.reduceEqDiff, Nat.reduceAdd, Nat.reduceMul, Nat.reduceSub, Int.cast_ofNat_Int, all_anyC, all_anyP, key_get, cell_get, kid_get, encC, List.length_map, encN, Hp.set_set, Hp.get_set_same, List.length_map, u64w, u8w, i64w, hg0_0, hl, hga, hkb, hg18_5]) <;> (first | done | rfl | (simp [hd, toR, hl, parts_len, bTo_zero, beW_len, u8]; done) | (rw [hout]; simp only [List.map_append, List.append_assoc]; done) | (rw [hout]; simp only [Hp.set_set, List.length_append, List.length_cons, List.length_nil, List.length_map, beW_len]; congr 2 <;> omega) | (rw [hout]; simp only [Hp.set_set, List.length_append, List.length_cons, List.length_nil, List.length_map, beW_len]; done) | (simp; done) | (simp; omega) | omega | (simp_all; done) | (simp_all; omega))
           · first | rfl | (try simp (disch := omega) only [push_cast, Int.reduceToNat, Int.reduceLT, Int.reduceLE, Int.reduceAdd, Int.reduceSub, Int.reduceMul, Int.reduceNeg, Int.reduceEq, reduceCtorEq, Nat.reduceLeDiff, Nat.reduceLT, Nat.reduceEqDiff, Nat.reduceAdd, Nat.reduceMul, Nat.reduceSub, Int.cast_ofNat_Int, all_anyC, all_anyP, key_get, cell_get, kid_get, encC, List.length_map, encN, Hp.set_set, Hp.get_set_same, List.length_map, u64w, u8w, i64w, hg0_0, hl, hga, hkb, hg18_5]) <;> (first | done | rfl | (simp [hd, toR, hl, parts_len, bTo_zero, beW_len, u8]; done) | (rw [hout]; simp only [List.map_append, List.append_assoc]; done) | (rw [hout]; simp only [Hp.set_set, List.length_append, List.length_cons, List.length_nil, List.length_map, beW_len]; congr 2 <;> omega) | (rw [hout]; simp only [Hp.set_set, List.length_append, List.length_cons, List.length_nil, List.length_map, beW_len]; done) | (simp; done) | (simp; omega) | omega | (simp_all; done) | (simp_all; omega))
           · first | omega | (simp; done) | (simp_all; done) | (simp_all; omega)
         ·
          all_goals try (cases hc; done)
          all_goals try simp only [push_cast] at hc
          all_goals try (exfalso; omega)
          all_goals
           rw [if_neg (by omega)] at hout
           refine R0 fun K hK => ?_
           try simp (maxSteps := 4000000) (disch := omega) only [push_cast, Nat.reduceLT, Nat.reduceEqDiff, Nat.reduceAdd, Nat.reduceMul, Nat.reduceSub, Nat.reduceLeDiff, Int.reduceToNat, Int.reduceLT, Int.reduceLE, Int.reduceAdd, Int.reduceSub, Int.reduceMul, Int.reduceNeg, Int.reduceEq, reduceCtorEq, Int.cast_ofNat_Int, Hp.get_set, all_anyC, all_anyP, key_get, cell_get, kid_get, encC, List.length_map, encN, Hp.set_set, Hp.get_set_same, List.length_map, u64w, u8w, i64w, hg0_0, hl, hga, hkb, hg18_5]
           (repeat refine And.intro (by first | (unfold Go.Vm.room; and_intros <;> (try simp only [List.length_map, List.length_append, List.length_cons, List.length_nil, List.length_replicate, beW_len]) <;> omega) | omega | (simp; done) | (simp_all; done) | (simp_all; omega)) ?_)
           try simp (maxSteps := 4000000) (disch := omega) only [push_cast, Nat.reduceLT, Nat.reduceEqDiff, Nat.reduceAdd, Nat.reduceMul, Nat.reduceSub, Nat.reduceLeDiff, Int.reduceToNat, Int.reduceLT, Int.reduceLE, Int.reduceAdd, Int.reduceSub, Int.reduceMul, Int.reduceNeg, Int.reduceEq, reduceCtorEq, Int.cast_ofNat_Int, Hp.get_set, all_anyC, all_anyP, key_get, cell_get, kid_get, encC, List.length_map, encN, Hp.set_set, Hp.get_set_same, List.length_map, u64w, u8w, i64w, hg0_0, hl, hga, hkb, hg18_5]
           (repeat refine And.intro (by first | (unfold Go.Vm.room; and_intros <;> (try simp only [List.length_map, List.length_append, List.length_cons, List.length_nil, List.length_replicate, beW_len]) <;> omega) | omega | (simp; done) | (simp_all; done) | (simp_all; omega)) ?_)
           refine callP (page_spec _ (by first | (unfold Go.Vm.room; and_intros <;> (try simp only [List.length_map, List.length_append, List.length_cons, List.length_nil, List.length_replicate, beW_len]) <;> omega) | omega | (simp; done) | (simp_all; done) | (simp_all; omega))) rfl ?_
           try simp (maxSteps := 4000000) (disch := omega) only [push_cast, Nat.reduceLT, Nat.reduceEqDiff, Nat.reduceAdd, Nat.reduceMul, Nat.reduceSub, Nat.reduceLeDiff, Int.reduceToNat, Int.reduceLT, Int.reduceLE, Int.reduceAdd, Int.reduceSub, Int.reduceMul, Int.reduceNeg, Int.reduceEq, reduceCtorEq, Int.cast_ofNat_Int, Hp.get_set, all_anyC, all_anyP, key_get, cell_get, kid_get, encC, List.length_map, encN, Hp.set_set, Hp.get_set_same, List.length_map, u64w, u8w, i64w, hg0_0, hl, hga, hkb, hg18_5]
           (repeat refine And.intro (by first | (unfold Go.Vm.room; and_intros <;> (try simp only [List.length_map, List.length_append, List.length_cons, List.length_nil, List.length_replicate, beW_len]) <;> omega) | omega | (simp; done) | (simp_all; done) | (simp_all; omega)) ?_)
           try simp (maxSteps := 4000000) (disch := omega) only [push_cast, Nat.reduceLT, Nat.reduceEqDiff, Nat.reduceAdd, Nat.reduceMul, Nat.reduceSub, Nat.reduceLeDiff, Int.reduceToNat, Int.reduceLT, Int.reduceLE, Int.reduceAdd, Int.reduceSub, Int.reduceMul, Int.reduceNeg, Int.reduceEq, reduceCtorEq, Int.cast_ofNat_Int, Hp.get_set, all_anyC, all_anyP, key_get, cell_get, kid_get, encC, List.length_map, encN, Hp.set_set, Hp.get_set_same, List.length_map, u64w, u8w, i64w, hg0_0, hl, hga, hkb, hg18_5]
           (repeat refine And.intro (by first | (unfold Go.Vm.room; and_intros <;> (try simp only [List.length_map, List.length_append, List.length_cons, List.length_nil, List.length_replicate, beW_len]) <;> omega) | omega | (simp; done) | (simp_all; done) | (simp_all; omega)) ?_)
           try simp (maxSteps := 4000000) (disch := omega) only [push_cast, Nat.reduceLT, Nat.reduceEqDiff, Nat.reduceAdd, Nat.reduceMul, Nat.reduceSub, Nat.reduceLeDiff, Int.reduceToNat, Int.reduceLT, Int.reduceLE, Int.reduceAdd, Int.reduceSub, Int.reduceMul, Int.reduceNeg, Int.reduceEq, reduceCtorEq, Int.cast_ofNat_Int, Hp.get_set, all_anyC, all_anyP, key_get, cell_get, kid_get, encC, List.length_map, encN, Hp.set_set, Hp.get_set_same, List.length_map, u64w, u8w, i64w, hg0_0, hl, hga, hkb, hg18_5]
           (repeat refine And.intro (by first | (unfold Go.Vm.room; and_intros <;> (try simp only [List.length_map, List.length_append, List.length_cons, List.length_nil, List.length_replicate, beW_len]) <;> omega) | omega | (simp; done) | (simp_all; done) | (simp_all; omega)) ?_)
           try simp (maxSteps := 4000000) (disch := omega) only [push_cast, Nat.reduceLT, Nat.reduceEqDiff, Nat.reduceAdd, Nat.reduceMul, Nat.reduceSub, Nat.reduceLeDiff, Int.reduceToNat, Int.reduceLT, Int.reduceLE, Int.reduceAdd, Int.reduceSub, Int.reduceMul, Int.reduceNeg, Int.reduceEq, reduceCtorEq, Int.cast_ofNat_Int, Hp.get_set, all_anyC, all_anyP, key_get, cell_get, kid_get, encC, List.length_map, encN, Hp.set_set, Hp.get_set_same, List.length_map, u64w, u8w, i64w, hg0_0, hl, hga, hkb, hg18_5]
           (repeat refine And.intro (by first | (unfold Go.Vm.room; and_intros <;> (try simp only [List.length_map, List.length_append, List.length_cons, List.length_nil, List.length_replicate, beW_len]) <;> omega) | omega | (simp; done) | (simp_all; done) | (simp_all; omega)) ?_)
           refine Qk hK [1, 5, 37, 38, 39] ?_
           clear hK K
           simp only [push_cast, WS, Nat.reduceEqDiff]
           refine hK2 _ _ ?_
           clear hK2
           try clear K2
           refine WS_keep [1, 5, 37, 38, 39] _ ?_
           refine R0 fun K hK => ?_
           try simp (maxSteps := 4000000) (disch := omega) only [push_cast, Nat.reduceLT, Nat.reduceEqDiff, Int.reduceToNat, Int.reduceLT, Int.reduceLE, Int.reduceAdd, Int.reduceSub, Int.reduceMul, Int.reduceNeg, Int.reduceEq, reduceCtorEq, Int.cast_ofNat_Int, Hp.get_set, all_anyC, all_anyP, key_get, cell_get, kid_get, encC, List.length_map, encN, Hp.set_set, Hp.get_set_same, List.length_map, u64w, u8w, i64w, hg0_0, hl, hga, hkb, hg18_5]
           (repeat refine And.intro (by first | (unfold Go.Vm.room; and_intros <;> (try simp only [List.length_map, List.length_append, List.length_cons, List.length_nil, List.length_replicate, beW_len]) <;> omega) | omega | (simp; done) | (simp_all; done) | (simp_all; omega)) ?_)
           refine Qk hK [1, 5, 37, 38, 39] ?_
           clear hK K
           refine Ag (hM1 _ _ ?_)
           refine ⟨_, ?_, k + 1,  rfl, ?_, ?_, ?_⟩
           · first | omega | (simp; done) | (simp_all; done) | (simp_all; omega)
           · (try simp (disch := omega) only [push_cast, Int.reduceToNat, Int.reduceLT, Int.reduceLE, Int.reduceAdd, Int.reduceSub, Int.reduceMul, Int.reduceNeg, Int.reduceEq, reduceCtorEq, Nat.reduceLeDiff, Nat.reduceLT, Nat.reduceEqDiff, Nat.reduceAdd, Nat.reduceMul, Nat.reduceSub, Int.cast_ofNat_Int, all_anyC, all_anyP, key_get, cell_get, kid_get, encC, List.length_map, encN, Hp.set_set, Hp.get_set_same, List.length_map, u64w, u8w, i64w, hg0_0, hl, hga, hkb, hg18_5]) <;> (first | done | rfl | (simp [hd, toR, hl, parts_len, bTo_zero, beW_len, u8]; done) | (rw [hout]; simp only [List.map_append, List.append_assoc]; done) | (rw [hout]; simp only [Hp.set_set, List.length_append, List.length_cons, List.length_nil, List.length_map, beW_len]; congr 2 <;> omega) | (rw [hout]; simp only [Hp.set_set, List.length_append, List.length_cons, List.length_nil, List.length_map, beW_len]; done) | (simp; done) | (simp; omega) | omega | (simp_all; done) | (simp_all; omega))
           · first | rfl | (try simp (disch := omega) only [push_cast, Int.reduceToNat, Int.reduceLT, Int.reduceLE, Int.reduceAdd, Int.reduceSub, Int.reduceMul, Int.reduceNeg, Int.reduceEq, reduceCtorEq, Nat.reduceLeDiff, Nat.reduceLT, Nat.reduceEqDiff, Nat.reduceAdd, Nat.reduceMul, Nat.reduceSub, Int.cast_ofNat_Int, all_anyC, all_anyP, key_get, cell_get, kid_get, encC, List.length_map, encN, Hp.set_set, Hp.get_set_same, List.length_map, u64w, u8w, i64w, hg0_0, hl, hga, hkb, hg18_5]) <;> (first | done | rfl | (simp [hd, toR, hl, parts_len, bTo_zero, beW_len, u8]; done) | (rw [hout]; simp only [List.map_append, List.append_assoc]; done) | (rw [hout]; simp only [Hp.set_set, List.length_append, List.length_cons, List.length_nil, List.length_map, beW_len]; congr 2 <;> omega) | (rw [hout]; simp only [Hp.set_set, List.length_append, List.length_cons, List.length_nil, List.length_map, beW_len]; done) | (simp; done) | (simp; omega) | omega | (simp_all; done) | (simp_all; omega))
           · first | omega | (simp; done) | (simp_all; done) | (simp_all; omega)
     ·
      all_goals try (cases hc; done)
      all_goals try simp only [push_cast] at hc
      all_goals try (exfalso; omega)
      all_goals
       refine Sk ?_
       refine WS.seq (WS.seq ?_)
       refine R0 fun K hK => ?_
       try simp (maxSteps := 4000000) (disch := omega) only [push_cast, Nat.reduceLT, Nat.reduceEqDiff, Nat.reduceAdd, Nat.reduceMul, Nat.reduceSub, Nat.reduceLeDiff, Int.reduceToNat, Int.reduceLT, Int.reduceLE, Int.reduceAdd, Int.reduceSub, Int.reduceMul, Int.reduceNeg, Int.reduceEq, reduceCtorEq, Int.cast_ofNat_Int, Hp.get_set, all_anyC, all_anyP, key_get, cell_get, kid_get, encC, List.length_map, encN, Hp.set_set, Hp.get_set_same, List.length_map, u64w, u8w, i64w, hg0_0, hl, hga]
       (repeat refine And.intro (by first | (unfold Go.Vm.room; and_intros <;> (try simp only [List.length_map, List.length_append, List.length_cons, List.length_nil, List.length_replicate, beW_len]) <;> omega) | omega | (simp; done) | (simp_all; done) | (simp_all; omega)) ?_)
       refine Qk hK [1, 5, 37, 38, 39] ?_
       clear hK K
       refine Bk fun K1 hK1 => ?_
       refine WS_keep [1, 5, 37, 38, 39] _ ?_
       refine Lp (fun m env σ' => ∃ (k : Nat), m = n.keys.length - k ∧ env = [(1, .pv [.bool n.leaf, .sl 1 (n.keys.map st) .no, .sl 3 (n.cells.map encC) .no, .sl 1 (n.kids.map (V.int .i64)) .no]), (5, .sl 1 ((hd (toR n) ++ bTo n k).map u8) (.tk ga)), (37, .sl 1 (n.keys.map st) .no), (38, .int .i64 n.keys.length), (39, .int .i64 k)] ∧ σ' = Hp.empty.set ga (.tok 1 (hd (toR n) ++ bTo n k).length) ∧ (k ≤ n.keys.length)) ?_ ?_
       · refine ⟨_, 0,  rfl, ?_, ?_, ?_⟩
         · (try simp (disch := omega) only [push_cast, Int.reduceToNat, Int.reduceLT, Int.reduceLE, Int.reduceAdd, Int.reduceSub, Int.reduceMul, Int.reduceNeg, Int.reduceEq, reduceCtorEq, Nat.reduceLeDiff, Nat.reduceLT, Nat.reduceEqDiff, Nat.reduceAdd, Nat.reduceMul, Nat.reduceSub, Int.cast_ofNat_Int, all_anyC, all_anyP, key_get, cell_get, kid_get, encC, List.length_map, encN, Hp.set_set, Hp.get_set_same, List.length_map, u64w, u8w, i64w, hg0_0, hl, hga]) <;> (first | done | rfl | (simp [hd, toR, hl, parts_len, bTo_zero, beW_len, u8]; done) | (rw [hout]; simp only [List.map_append, List.append_assoc]; done) | (rw [hout]; simp only [Hp.set_set, List.length_append, List.length_cons, List.length_nil, List.length_map, beW_len]; congr 2 <;> omega) | (rw [hout]; simp only [Hp.set_set, List.length_append, List.length_cons, List.length_nil, List.length_map, beW_len]; done) | (simp; done) | (simp; omega) | omega | (simp_all; done) | (simp_all; omega))
         · first | rfl | (try simp (disch := omega) only [push_cast, Int.reduceToNat, Int.reduceLT, Int.reduceLE, Int.reduceAdd, Int.reduceSub, Int.reduceMul, Int.reduceNeg, Int.reduceEq, reduceCtorEq, Nat.reduceLeDiff, Nat.reduceLT, Nat.reduceEqDiff, Nat.reduceAdd, Nat.reduceMul, Nat.reduceSub, Int.cast_ofNat_Int, all_anyC, all_anyP, key_get, cell_get, kid_get, encC, List.length_map, encN, Hp.set_set, Hp.get_set_same, List.length_map, u64w, u8w, i64w, hg0_0, hl, hga]) <;> (first | done | rfl | (simp [hd, toR, hl, parts_len, bTo_zero, beW_len, u8]; done) | (rw [hout]; simp only [List.map_append, List.append_assoc]; done) | (rw [hout]; simp only [Hp.set_set, List.length_append, List.length_cons, List.length_nil, List.length_map, beW_len]; congr 2 <;> omega) | (rw [hout]; simp only [Hp.set_set, List.length_append, List.length_cons, List.length_nil, List.length_map, beW_len]; done) | (simp; done) | (simp; omega) | omega | (simp_all; done) | (simp_all; omega))
         · first | omega | (simp; done) | (simp_all; done) | (simp_all; omega)
       intro m env σ' hJ M1 hM1
       obtain ⟨k, rfl, rfl, rfl, hk⟩ := hJ
       have hbk := bTo_mono hk
       have hol : (hd (toR n) ++ bTo n k).length = (hd (toR n)).length + (bTo n k).length := List.length_append
       refine WS.seq ?_
       refine R0 fun K hK => ?_
       try simp (maxSteps := 4000000) (disch := omega) only [push_cast, Nat.reduceLT, Nat.reduceEqDiff, Int.reduceToNat, Int.reduceLT, Int.reduceLE, Int.reduceAdd, Int.reduceSub, Int.reduceMul, Int.reduceNeg, Int.reduceEq, reduceCtorEq, Int.cast_ofNat_Int, Hp.get_set, all_anyC, all_anyP, key_get, cell_get, kid_get, encC, List.length_map, encN, Hp.set_set, Hp.get_set_same, List.length_map, u64w, u8w, i64w, hg0_0, hl, hga]
       refine Qk hK [1, 5, 37, 38, 39, 40] ?_
       clear hK K
       refine WS.seq ?_
       refine CI rfl (fun hc => ?_) (fun hc => ?_)
       rotate_left
       ·
        all_goals try (cases hc; done)
        all_goals try simp only [push_cast] at hc
        all_goals try (exfalso; omega)
        all_goals
         obtain rfl : k = n.keys.length := by omega
         have hos : (hd (toR n) ++ bTo n n.keys.length).length = sizeN n := by omega
         have htn : ((512 : Int) - (sizeN n : Int)).toNat = 512 - sizeN n := by omega
         refine Ex ?_
         simp only [push_cast, WS, Nat.reduceEqDiff]
         refine hK1 _ _ ?_
         clear hK1
         try clear K1
         refine WS_keep [5] _ ?_
         refine WS.seq ?_
         refine R0 fun K hK => ?_
         try simp (maxSteps := 4000000) (disch := omega) only [push_cast, Nat.reduceLT, Nat.reduceEqDiff, Nat.reduceAdd, Nat.reduceMul, Nat.reduceSub, Nat.reduceLeDiff, Int.reduceToNat, Int.reduceLT, Int.reduceLE, Int.reduceAdd, Int.reduceSub, Int.reduceMul, Int.reduceNeg, Int.reduceEq, reduceCtorEq, Int.cast_ofNat_Int, Hp.get_set, all_anyC, all_anyP, key_get, cell_get, kid_get, encC, List.length_map, encN, Hp.set_set, Hp.get_set_same, List.length_map, u64w, u8w, i64w, hg0_0, hl, hga, hos, htn]
         (repeat refine And.intro (by first | (unfold Go.Vm.room; and_intros <;> (try simp only [List.length_map, List.length_append, List.length_cons, List.length_nil, List.length_replicate, beW_len]) <;> omega) | omega | (simp; done) | (simp_all; done) | (simp_all; omega)) ?_)
         try simp (maxSteps := 4000000) (disch := omega) only [push_cast, Nat.reduceLT, Nat.reduceEqDiff, Nat.reduceAdd, Nat.reduceMul, Nat.reduceSub, Nat.reduceLeDiff, Int.reduceToNat, Int.reduceLT, Int.reduceLE, Int.reduceAdd, Int.reduceSub, Int.reduceMul, Int.reduceNeg, Int.reduceEq, reduceCtorEq, Int.cast_ofNat_Int, Hp.get_set, all_anyC, all_anyP, key_get, cell_get, kid_get, encC, List.length_map, encN, Hp.set_set, Hp.get_set_same, List.length_map, u64w, u8w, i64w, hg0_0, hl, hga, hos, htn]
         (repeat refine And.intro (by first | (unfold Go.Vm.room; and_intros <;> (try simp only [List.length_map, List.length_append, List.length_cons, List.length_nil, List.length_replicate, beW_len]) <;> omega) | omega | (simp; done) | (simp_all; done) | (simp_all; omega)) ?_)
         try simp (maxSteps := 4000000) (disch := omega) only [push_cast, Nat.reduceLT, Nat.reduceEqDiff, Nat.reduceAdd, Nat.reduceMul, Nat.reduceSub, Nat.reduceLeDiff, Int.reduceToNat, Int.reduceLT, Int.reduceLE, Int.reduceAdd, Int.reduceSub, Int.reduceMul, Int.reduceNeg, Int.reduceEq, reduceCtorEq, Int.cast_ofNat_Int, Hp.get_set, all_anyC, all_anyP, key_get, cell_get, kid_get, encC, List.length_map, encN, Hp.set_set, Hp.get_set_same, List.length_map, u64w, u8w, i64w, hg0_0, hl, hga, hos, htn]
         (repeat refine And.intro (by first | (unfold Go.Vm.room; and_intros <;> (try simp only [List.length_map, List.length_append, List.length_cons, List.length_nil, List.length_replicate, beW_len]) <;> omega) | omega | (simp; done) | (simp_all; done) | (simp_all; omega)) ?_)
         try simp (maxSteps := 4000000) (disch := omega) only [push_cast, Nat.reduceLT, Nat.reduceEqDiff, Nat.reduceAdd, Nat.reduceMul, Nat.reduceSub, Nat.reduceLeDiff, Int.reduceToNat, Int.reduceLT, Int.reduceLE, Int.reduceAdd, Int.reduceSub, Int.reduceMul, Int.reduceNeg, Int.reduceEq, reduceCtorEq, Int.cast_ofNat_Int, Hp.get_set, all_anyC, all_anyP, key_get, cell_get, kid_get, encC, List.length_map, encN, Hp.set_set, Hp.get_set_same, List.length_map, u64w, u8w, i64w, hg0_0, hl, hga, hos, htn]
         (repeat refine And.intro (by first | (unfold Go.Vm.room; and_intros <;> (try simp only [List.length_map, List.length_append, List.length_cons, List.length_nil, List.length_replicate, beW_len]) <;> omega) | omega | (simp; done) | (simp_all; done) | (simp_all; omega)) ?_)
         refine Qk hK [2, 3] ?_
         clear hK K
         refine S_wk 2 rfl (Wk.untag _ _ _) ?_
         refine Rt ?_
         refine hQ0 _ _ _ ?_
         try simp (maxSteps := 4000000) only [push_cast, Int.reduceToNat, Int.reduceLT, Int.reduceLE, Int.reduceAdd, Int.reduceSub, Int.reduceMul, Int.reduceNeg, Int.reduceEq, reduceCtorEq, Nat.reduceLeDiff, Nat.reduceLT, Nat.reduceEqDiff, Nat.reduceAdd, Nat.reduceMul, Nat.reduceSub, Int.cast_ofNat_Int, all_anyC, all_anyP, key_get, cell_get, kid_get, encC, List.length_map, encN, Hp.set_set, Hp.get_set_same, List.length_map, u64w, u8w, i64w, hg0_0, hl, hga, hos, htn]
         rw [writeN_ok hr hsz5, page_eq]
         simp
       all_goals try (cases hc; done)
       all_goals try simp only [push_cast] at hc
       all_goals try (exfalso; omega)
       all_goals
        have hkk : k < n.keys.length := by omega
        have hky := (right_keys hr k hkk).1
        have hkb := key_byte (hd (toR n) ++ bTo n k) hky
        have hb1 := congrArg List.length (bTo_succ hkk)
        have hbp := pbl_le hr hkk
        refine Sk ?_
        refine WS.seq ?_
        refine Bk fun K2 hK2 => ?_
        refine WS.seq ?_
        refine R0 fun K hK => ?_
        try simp (maxSteps := 4000000) (disch := omega) only [push_cast, Nat.reduceLT, Nat.reduceEqDiff, Nat.reduceAdd, Nat.reduceMul, Nat.reduceSub, Nat.reduceLeDiff, Int.reduceToNat, Int.reduceLT, Int.reduceLE, Int.reduceAdd, Int.reduceSub, Int.reduceMul, Int.reduceNeg, Int.reduceEq, reduceCtorEq, Int.cast_ofNat_Int, Hp.get_set, all_anyC, all_anyP, key_get, cell_get, kid_get, encC, List.length_map, encN, Hp.set_set, Hp.get_set_same, List.length_map, u64w, u8w, i64w, hg0_0, hl, hga, hkb]
        (repeat refine And.intro (by first | (unfold Go.Vm.room; and_intros <;> (try simp only [List.length_map, List.length_append, List.length_cons, List.length_nil, List.length_replicate, beW_len]) <;> omega) | omega | (simp; done) | (simp_all; done) | (simp_all; omega)) ?_)
        refine Qk hK [1, 5, 6, 7, 37, 38, 39] ?_
        clear hK K
        refine WS.seq ?_
        refine R0 fun K hK => ?_
        try simp (maxSteps := 4000000) (disch := omega) only [push_cast, Nat.reduceLT, Nat.reduceEqDiff, Nat.reduceAdd, Nat.reduceMul, Nat.reduceSub, Nat.reduceLeDiff, Int.reduceToNat, Int.reduceLT, Int.reduceLE, Int.reduceAdd, Int.reduceSub, Int.reduceMul, Int.reduceNeg, Int.reduceEq, reduceCtorEq, Int.cast_ofNat_Int, Hp.get_set, all_anyC, all_anyP, key_get, cell_get, kid_get, encC, List.length_map, encN, Hp.set_set, Hp.get_set_same, List.length_map, u64w, u8w, i64w, hg0_0, hl, hga, hkb]
        (repeat refine And.intro (by first | (unfold Go.Vm.room; and_intros <;> (try simp only [List.length_map, List.length_append, List.length_cons, List.length_nil, List.length_replicate, beW_len]) <;> omega) | omega | (simp; done) | (simp_all; done) | (simp_all; omega)) ?_)
        try simp (maxSteps := 4000000) (disch := omega) only [push_cast, Nat.reduceLT, Nat.reduceEqDiff, Nat.reduceAdd, Nat.reduceMul, Nat.reduceSub, Nat.reduceLeDiff, Int.reduceToNat, Int.reduceLT, Int.reduceLE, Int.reduceAdd, Int.reduceSub, Int.reduceMul, Int.reduceNeg, Int.reduceEq, reduceCtorEq, Int.cast_ofNat_Int, Hp.get_set, all_anyC, all_anyP, key_get, cell_get, kid_get, encC, List.length_map, encN, Hp.set_set, Hp.get_set_same, List.length_map, u64w, u8w, i64w, hg0_0, hl, hga, hkb]
        (repeat refine And.intro (by first | (unfold Go.Vm.room; and_intros <;> (try simp only [List.length_map, List.length_append, List.length_cons, List.length_nil, List.length_replicate, beW_len]) <;> omega) | omega | (simp; done) | (simp_all; done) | (simp_all; omega)) ?_)
        try simp (maxSteps := 4000000) (disch := omega) only [push_cast, Nat.reduceLT, Nat.reduceEqDiff, Nat.reduceAdd, Nat.reduceMul, Nat.reduceSub, Nat.reduceLeDiff, Int.reduceToNat, Int.reduceLT, Int.reduceLE, Int.reduceAdd, Int.reduceSub, Int.reduceMul, Int.reduceNeg, Int.reduceEq, reduceCtorEq, Int.cast_ofNat_Int, Hp.get_set, all_anyC, all_anyP, key_get, cell_get, kid_get, encC, List.length_map, encN, Hp.set_set, Hp.get_set_same, List.length_map, u64w, u8w, i64w, hg0_0, hl, hga, hkb]
        (repeat refine And.intro (by first | (unfold Go.Vm.room; and_intros <;> (try simp only [List.length_map, List.length_append, List.length_cons, List.length_nil, List.length_replicate, beW_len]) <;> omega) | omega | (simp; done) | (simp_all; done) | (simp_all; omega)) ?_)
        try simp (maxSteps := 4000000) (disch := omega) only [push_cast, Nat.reduceLT, Nat.reduceEqDiff, Nat.reduceAdd, Nat.reduceMul, Nat.reduceSub, Nat.reduceLeDiff, Int.reduceToNat, Int.reduceLT, Int.reduceLE, Int.reduceAdd, Int.reduceSub, Int.reduceMul, Int.reduceNeg, Int.reduceEq, reduceCtorEq, Int.cast_ofNat_Int, Hp.get_set, all_anyC, all_anyP, key_get, cell_get, kid_get, encC, List.length_map, encN, Hp.set_set, Hp.get_set_same, List.length_map, u64w, u8w, i64w, hg0_0, hl, hga, hkb]
        (repeat refine And.intro (by first | (unfold Go.Vm.room; and_intros <;> (try simp only [List.length_map, List.length_append, List.length_cons, List.length_nil, List.length_replicate, beW_len]) <;> omega) | omega | (simp; done) | (simp_all; done) | (simp_all; omega)) ?_)
        refine Qk hK [1, 5, 6, 7, 37, 38, 39] ?_
        clear hK K
        refine WS.seq (WS.seq ?_)
        refine R0 fun K hK => ?_
        try simp (maxSteps := 4000000) (disch := omega) only [push_cast, Nat.reduceLT, Nat.reduceEqDiff, Nat.reduceAdd, Nat.reduceMul, Nat.reduceSub, Nat.reduceLeDiff, Int.reduceToNat, Int.reduceLT, Int.reduceLE, Int.reduceAdd, Int.reduceSub, Int.reduceMul, Int.reduceNeg, Int.reduceEq, reduceCtorEq, Int.cast_ofNat_Int, Hp.get_set, all_anyC, all_anyP, key_get, cell_get, kid_get, encC, List.length_map, encN, Hp.set_set, Hp.get_set_same, List.length_map, u64w, u8w, i64w, hg0_0, hl, hga, hkb]
        (repeat refine And.intro (by first | (unfold Go.Vm.room; and_intros <;> (try simp only [List.length_map, List.length_append, List.length_cons, List.length_nil, List.length_replicate, beW_len]) <;> omega) | omega | (simp; done) | (simp_all; done) | (simp_all; omega)) ?_)
        refine Qk hK [1, 5, 6, 7, 37, 38, 39, 52] ?_
        clear hK K
        refine CI rfl (fun hc => ?_) (fun hc => ?_)
        ·
         all_goals try (cases hc; done)
         all_goals try simp only [push_cast] at hc
         all_goals try (exfalso; omega)
         all_goals
          have hki := (shape_inner (right_shape hr) hl).1
          have hkd := right_kid hr hl (i := k + 1) (by omega)
          have hout := out_inner hl hkk
          refine WS.seq ?_
          refine R0 fun K hK => ?_
          try simp (maxSteps := 4000000) (disch := omega) only [push_cast, Nat.reduceLT, Nat.reduceEqDiff, Nat.reduceAdd, Nat.reduceMul, Nat.reduceSub, Nat.reduceLeDiff, Int.reduceToNat, Int.reduceLT, Int.reduceLE, Int.reduceAdd, Int.reduceSub, Int.reduceMul, Int.reduceNeg, Int.reduceEq, reduceCtorEq, Int.cast_ofNat_Int, Hp.get_set, all_anyC, all_anyP, key_get, cell_get, kid_get, encC, List.length_map, encN, Hp.set_set, Hp.get_set_same, List.length_map, u64w, u8w, i64w, hg0_0, hl, hga, hkb]
          (repeat refine And.intro (by first | (unfold Go.Vm.room; and_intros <;> (try simp only [List.length_map, List.length_append, List.length_cons, List.length_nil, List.length_replicate, beW_len]) <;> omega) | omega | (simp; done) | (simp_all; done) | (simp_all; omega)) ?_)
          try simp (maxSteps := 4000000) (disch := omega) only [push_cast, Nat.reduceLT, Nat.reduceEqDiff, Nat.reduceAdd, Nat.reduceMul, Nat.reduceSub, Nat.reduceLeDiff, Int.reduceToNat, Int.reduceLT, Int.reduceLE, Int.reduceAdd, Int.reduceSub, Int.reduceMul, Int.reduceNeg, Int.reduceEq, reduceCtorEq, Int.cast_ofNat_Int, Hp.get_set, all_anyC, all_anyP, key_get, cell_get, kid_get, encC, List.length_map, encN, Hp.set_set, Hp.get_set_same, List.length_map, u64w, u8w, i64w, hg0_0, hl, hga, hkb]
          (repeat refine And.intro (by first | (unfold Go.Vm.room; and_intros <;> (try simp only [List.length_map, List.length_append, List.length_cons, List.length_nil, List.length_replicate, beW_len]) <;> omega) | omega | (simp; done) | (simp_all; done) | (simp_all; omega)) ?_)
          try simp (maxSteps := 4000000) (disch := omega) only [push_cast, Nat.reduceLT, Nat.reduceEqDiff, Nat.reduceAdd, Nat.reduceMul, Nat.reduceSub, Nat.reduceLeDiff, Int.reduceToNat, Int.reduceLT, Int.reduceLE, Int.reduceAdd, Int.reduceSub, Int.reduceMul, Int.reduceNeg, Int.reduceEq, reduceCtorEq, Int.cast_ofNat_Int, Hp.get_set, all_anyC, all_anyP, key_get, cell_get, kid_get, encC, List.length_map, encN, Hp.set_set, Hp.get_set_same, List.length_map, u64w, u8w, i64w, hg0_0, hl, hga, hkb]
          (repeat refine And.intro (by first | (unfold Go.Vm.room; and_intros <;> (try simp only [List.length_map, List.length_append, List.length_cons, List.length_nil, List.length_replicate, beW_len]) <;> omega) | omega | (simp; done) | (simp_all; done) | (simp_all; omega)) ?_)
          try simp (maxSteps := 4000000) (disch := omega) only [push_cast, Nat.reduceLT, Nat.reduceEqDiff, Nat.reduceAdd, Nat.reduceMul, Nat.reduceSub, Nat.reduceLeDiff, Int.reduceToNat, Int.reduceLT, Int.reduceLE, Int.reduceAdd, Int.reduceSub, Int.reduceMul, Int.reduceNeg, Int.reduceEq, reduceCtorEq, Int.cast_ofNat_Int, Hp.get_set, all_anyC, all_anyP, key_get, cell_get, kid_get, encC, List.length_map, encN, Hp.set_set, Hp.get_set_same, List.length_map, u64w, u8w, i64w, hg0_0, hl, hga, hkb]
          (repeat refine And.intro (by first | (unfold Go.Vm.room; and_intros <;> (try simp only [List.length_map, List.length_append, List.length_cons, List.length_nil, List.length_replicate, beW_len]) <;> omega) | omega | (simp; done) | (simp_all; done) | (simp_all; omega)) ?_)
          refine Qk hK [1, 5, 6, 37, 38, 39] ?_
          clear hK K
          refine WS.seq ?_
          refine R0 fun K hK => ?_
          try simp (maxSteps := 4000000) (disch := omega) only [push_cast, Nat.reduceLT, Nat.reduceEqDiff, Nat.reduceAdd, Nat.reduceMul, Nat.reduceSub, Nat.reduceLeDiff, Int.reduceToNat, Int.reduceLT, Int.reduceLE, Int.reduceAdd, Int.reduceSub, Int.reduceMul, Int.reduceNeg, Int.reduceEq, reduceCtorEq, Int.cast_ofNat_Int, Hp.get_set, all_anyC, all_anyP, key_get, cell_get, kid_get, encC, List.length_map, encN, Hp.set_set, Hp.get_set_same, List.length_map, u64w, u8w, i64w, hg0_0, hl, hga, hkb]
          (repeat refine And.intro (by first | (unfold Go.Vm.room; and_intros <;> (try simp only [List.length_map, List.length_append, List.length_cons, List.length_nil, List.length_replicate, beW_len]) <;> omega) | omega | (simp; done) | (simp_all; done) | (simp_all; omega)) ?_)
          try simp (maxSteps := 4000000) (disch := omega) only [push_cast, Nat.reduceLT, Nat.reduceEqDiff, Nat.reduceAdd, Nat.reduceMul, Nat.reduceSub, Nat.reduceLeDiff, Int.reduceToNat, Int.reduceLT, Int.reduceLE, Int.reduceAdd, Int.reduceSub, Int.reduceMul, Int.reduceNeg, Int.reduceEq, reduceCtorEq, Int.cast_ofNat_Int, Hp.get_set, all_anyC, all_anyP, key_get, cell_get, kid_get, encC, List.length_map, encN, Hp.set_set, Hp.get_set_same, List.length_map, u64w, u8w, i64w, hg0_0, hl, hga, hkb]
          (repeat refine And.intro (by first | (unfold Go.Vm.room; and_intros <;> (try simp only [List.length_map, List.length_append, List.length_cons, List.length_nil, List.length_replicate, beW_len]) <;> omega) | omega | (simp; done) | (simp_all; done) | (simp_all; omega)) ?_)
          refine callP (page_spec _ (by first | (unfold Go.Vm.room; and_intros <;> (try simp only [List.length_map, List.length_append, List.length_cons, List.length_nil, List.length_replicate, beW_len]) <;> omega) | omega | (simp; done) | (simp_all; done) | (simp_all; omega))) rfl ?_
          try simp (maxSteps := 4000000) (disch := omega) only [push_cast, Nat.reduceLT, Nat.reduceEqDiff, Nat.reduceAdd, Nat.reduceMul, Nat.reduceSub, Nat.reduceLeDiff, Int.reduceToNat, Int.reduceLT, Int.reduceLE, Int.reduceAdd, Int.reduceSub, Int.reduceMul, Int.reduceNeg, Int.reduceEq, reduceCtorEq, Int.cast_ofNat_Int, Hp.get_set, all_anyC, all_anyP, key_get, cell_get, kid_get, encC, List.length_map, encN, Hp.set_set, Hp.get_set_same, List.length_map, u64w, u8w, i64w, hg0_0, hl, hga, hkb]
          (repeat refine And.intro (by first | (unfold Go.Vm.room; and_intros <;> (try simp only [List.length_map, List.length_append, List.length_cons, List.length_nil, List.length_replicate, beW_len]) <;> omega) | omega | (simp; done) | (simp_all; done) | (simp_all; omega)) ?_)
          try simp (maxSteps := 4000000) (disch := omega) only [push_cast, Nat.reduceLT, Nat.reduceEqDiff, Nat.reduceAdd, Nat.reduceMul, Nat.reduceSub, Nat.reduceLeDiff, Int.reduceToNat, Int.reduceLT, Int.reduceLE, Int.reduceAdd, Int.reduceSub, Int.reduceMul, Int.reduceNeg, Int.reduceEq, reduceCtorEq, Int.cast_ofNat_Int, Hp.get_set, all_anyC, all_anyP, key_get, cell_get, kid_get, encC, List.length_map, encN, Hp.set_set, Hp.get_set_same, List.length_map, u64w, u8w, i64w, hg0_0, hl, hga, hkb]
          (repeat refine And.intro (by first | (unfold Go.Vm.room; and_intros <;> (try simp only [List.length_map, List.length_append, List.length_cons, List.length_nil, List.length_replicate, beW_len]) <;> omega) | omega | (simp; done) | (simp_all; done) | (simp_all; omega)) ?_)
          try simp (maxSteps := 4000000) (disch := omega) only [push_cast, Nat.reduceLT, Nat.reduceEqDiff, Nat.reduceAdd, Nat.reduceMul, Nat.reduceSub, Nat.reduceLeDiff, Int.reduceToNat, Int.reduceLT, Int.reduceLE, Int.reduceAdd, Int.reduceSub, Int.reduceMul, Int.reduceNeg, Int.reduceEq, reduceCtorEq, Int.cast_ofNat_Int, Hp.get_set, all_anyC, all_anyP, key_get, cell_get, kid_get, encC, List.length_map, encN, Hp.set_set, Hp.get_set_same, List.length_map, u64w, u8w, i64w, hg0_0, hl, hga, hkb]
          (repeat refine And.intro (by first | (unfold Go.Vm.room; and_intros <;> (try simp only [List.length_map, List.length_append, List.length_cons, List.length_nil, List.length_replicate, beW_len]) <;> omega) | omega | (simp; done) | (simp_all; done) | (simp_all; omega)) ?_)
          try simp (maxSteps := 4000000) (disch := omega) only [push_cast, Nat.reduceLT, Nat.reduceEqDiff, Nat.reduceAdd, Nat.reduceMul, Nat.reduceSub, Nat.reduceLeDiff, Int.reduceToNat, Int.reduceLT, Int.reduceLE, Int.reduceAdd, Int.reduceSub, Int.reduceMul, Int.reduceNeg, Int.reduceEq, reduceCtorEq, Int.cast_ofNat_Int, Hp.get_set, all_anyC, all_anyP, key_get, cell_get, kid_get, encC, List.length_map, encN, Hp.set_set, Hp.get_set_same, List.length_map, u64w, u8w, i64w, hg0_0, hl, hga, hkb]
          (repeat refine And.intro (by first | (unfold Go.Vm.room; and_intros <;> (try simp only [List.length_map, List.length_append, List.length_cons, List.length_nil, List.length_replicate, beW_len]) <;> omega) | omega | (simp; done) | (simp_all; done) | (simp_all; omega)) ?_)
          refine Qk hK [1, 5, 37, 38, 39] ?_
          clear hK K
          refine Ex ?_
          simp only [push_cast, WS, Nat.reduceEqDiff]
          refine hK2 _ _ ?_
          clear hK2
          try clear K2
          refine WS_keep [1, 5, 37, 38, 39] _ ?_
          refine R0 fun K hK => ?_
          try simp (maxSteps := 4000000) (disch := omega) only [push_cast, Nat.reduceLT, Nat.reduceEqDiff, Int.reduceToNat, Int.reduceLT, Int.reduceLE, Int.reduceAdd, Int.reduceSub, Int.reduceMul, Int.reduceNeg, Int.reduceEq, reduceCtorEq, Int.cast_ofNat_Int, Hp.get_set, all_anyC, all_anyP, key_get, cell_get, kid_get, encC, List.length_map, encN, Hp.set_set, Hp.get_set_same, List.length_map, u64w, u8w, i64w, hg0_0, hl, hga, hkb]
          (repeat refine And.intro (by first | (unfold Go.Vm.room; and_intros <;> (try simp only [List.length_map, List.length_append, List.length_cons, List.length_nil, List.length_replicate, beW_len]) <;> omega) | omega | (simp; done) | (simp_all; done) | (simp_all; omega)) ?_)
          refine Qk hK [1, 5, 37, 38, 39] ?_
          clear hK K
          refine Ag (hM1 _ _ ?_)
          refine ⟨_, ?_, k + 1,  rfl, ?_, ?_, ?_⟩
          · first | omega | (simp; done) | (simp_all; done) | (simp_all; omega)
          · (try simp (disch := omega) only [push_cast, Int.reduceToNat, Int.reduceLT, Int.reduceLE, Int.reduceAdd, Int.reduceSub, Int.reduceMul, Int.reduceNeg, Int.reduceEq, reduceCtorEq, Nat.reduceLeDiff, Nat.reduceLT, Nat.reduceEqDiff, Nat.reduceAdd, Nat.reduceMul, Nat.reduceSub, Int.cast_ofNat_Int, all_anyC, all_anyP, key_get, cell_get, kid_get, encC, List.length_map, encN, Hp.set_set, Hp.get_set_same, List.length_map, u64w, u8w, i64w, hg0_0, hl, hga, hkb]) <;> (first | done | rfl | (simp [hd, toR, hl, parts_len, bTo_zero, beW_len, u8]; done) | (rw [hout]; simp only [List.map_append, List.append_assoc]; done) | (rw [hout]; simp only [Hp.set_set, List.length_append, List.length_cons, List.length_nil, List.length_map, beW_len]; congr 2 <;> omega) | (rw [hout]; simp only [Hp.set_set, List.length_append, List.length_cons, List.length_nil, List.length_map, beW_len]; done) | (simp; done) | (simp; omega) | omega | (simp_all; done) | (simp_all; omega))
          · first | rfl | (try simp (disch := omega) only [push_cast, Int.reduceToNat, Int.reduceLT, Int.reduceLE, Int.reduceAdd, Int.reduceSub, Int.reduceMul, Int.reduceNeg, Int.reduceEq, reduceCtorEq, Nat.reduceLeDiff, Nat.reduceLT, Nat.reduceEqDiff, Nat.reduceAdd, Nat.reduceMul, Nat.reduceSub, Int.cast_ofNat_Int, all_anyC, all_anyP, key_get, cell_get, kid_get, encC, List.length_map, encN, Hp.set_set, Hp.get_set_same, List.length_map, u64w, u8w, i64w, hg0_0, hl, hga, hkb]) <;> (first | done | rfl | (simp [hd, toR, hl, parts_len, bTo_zero, beW_len, u8]; done) | (rw [hout]; simp only [List.map_append, List.append_assoc]; done) | (rw [hout]; simp only [Hp.set_set, List.length_append, List.length_cons, List.length_nil, List.length_map, beW_len]; congr 2 <;> omega) | (rw [hout]; simp only [Hp.set_set, List.length_append, List.length_cons, List.length_nil, List.length_map, beW_len]; done) | (simp; done) | (simp; omega) | omega | (simp_all; done) | (simp_all; omega))
          · first | omega | (simp; done) | (simp_all; done) | (simp_all; omega)
        all_goals try (cases hc; done)
        all_goals try simp only [push_cast] at hc
        all_goals try (exfalso; omega)
        all_goals
         have hcl := (shape_leaf (right_shape hr) hl).1
         have hci := cright_len (right_cell hr hl hkk)
         have hout := out_leaf hl hkk
         refine Sk ?_
         refine WS.seq ?_
         refine R0 fun K hK => ?_
         try simp (maxSteps := 4000000) (disch := omega) only [push_cast, Nat.reduceLT, Nat.reduceEqDiff, Nat.reduceAdd, Nat.reduceMul, Nat.reduceSub, Nat.reduceLeDiff, Int.reduceToNat, Int.reduceLT, Int.reduceLE, Int.reduceAdd, Int.reduceSub, Int.reduceMul, Int.reduceNeg, Int.reduceEq, reduceCtorEq, Int.cast_ofNat_Int, Hp.get_set, all_anyC, all_anyP, key_get, cell_get, kid_get, encC, List.length_map, encN, Hp.set_set, Hp.get_set_same, List.length_map, u64w, u8w, i64w, hg0_0, hl, hga, hkb]
         (repeat refine And.intro (by first | (unfold Go.Vm.room; and_intros <;> (try simp only [List.length_map, List.length_append, List.length_cons, List.length_nil, List.length_replicate, beW_len]) <;> omega) | omega | (simp; done) | (simp_all; done) | (simp_all; omega)) ?_)
         refine fun g18_5 hg18_5 => ?_
         try simp only [Hp.set_none, Hp.join_none_iff] at hg18_5
         try simp (maxSteps := 4000000) (disch := omega) only [push_cast, Nat.reduceLT, Nat.reduceEqDiff, Nat.reduceAdd, Nat.reduceMul, Nat.reduceSub, Nat.reduceLeDiff, Int.reduceToNat, Int.reduceLT, Int.reduceLE, Int.reduceAdd, Int.reduceSub, Int.reduceMul, Int.reduceNeg, Int.reduceEq, reduceCtorEq, Int.cast_ofNat_Int, Hp.get_set, all_anyC, all_anyP, key_get, cell_get, kid_get, encC, List.length_map, encN, Hp.set_set, Hp.get_set_same, List.length_map, u64w, u8w, i64w, hg0_0, hl, hga, hkb, hg18_5]
         (repeat refine And.intro (by first | (unfold Go.Vm.room; and_intros <;> (try simp only [List.length_map, List.length_append, List.length_cons, List.length_nil, List.length_replicate, beW_len]) <;> omega) | omega | (simp; done) | (simp_all; done) | (simp_all; omega)) ?_)
         refine Qk hK [1, 5, 7, 8, 37, 38, 39] ?_
         clear hK K
         refine S_frz 8 rfl (Hp.set_none.2 hg18_5) ?_
         refine WS.seq ?_
         refine R0 fun K hK => ?_
         try simp (maxSteps := 4000000) (disch := omega) only [push_cast, Nat.reduceLT, Nat.reduceEqDiff, Nat.reduceAdd, Nat.reduceMul, Nat.reduceSub, Nat.reduceLeDiff, Int.reduceToNat, Int.reduceLT, Int.reduceLE, Int.reduceAdd, Int.reduceSub, Int.reduceMul, Int.reduceNeg, Int.reduceEq, reduceCtorEq, Int.cast_ofNat_Int, Hp.get_set, all_anyC, all_anyP, key_get, cell_get, kid_get, encC, List.length_map, encN, Hp.set_set, Hp.get_set_same, List.length_map, u64w, u8w, i64w, hg0_0, hl, hga, hkb, hg18_5]
         (repeat refine And.intro (by first | (unfold Go.Vm.room; and_intros <;> (try simp only [List.length_map, List.length_append, List.length_cons, List.length_nil, List.length_replicate, beW_len]) <;> omega) | omega | (simp; done) | (simp_all; done) | (simp_all; omega)) ?_)
         refine callS (wide_spec ((hd (toR n) ++ bTo n k) ++ [UInt8.ofNat (n.keys.getD k []).length]) 2 ((n.cells.getD k default).len) (by omega) (by omega) (by simp; omega) (by rw [Hp.get_set_same]; simp <;> omega)) (fun v τ h => ?_); obtain ⟨rfl, rfl⟩ := h
         try simp (maxSteps := 4000000) (disch := omega) only [push_cast, Nat.reduceLT, Nat.reduceEqDiff, Nat.reduceAdd, Nat.reduceMul, Nat.reduceSub, Nat.reduceLeDiff, Int.reduceToNat, Int.reduceLT, Int.reduceLE, Int.reduceAdd, Int.reduceSub, Int.reduceMul, Int.reduceNeg, Int.reduceEq, reduceCtorEq, Int.cast_ofNat_Int, Hp.get_set, all_anyC, all_anyP, key_get, cell_get, kid_get, encC, List.length_map, encN, Hp.set_set, Hp.get_set_same, List.length_map, u64w, u8w, i64w, hg0_0, hl, hga, hkb, hg18_5]
         (repeat refine And.intro (by first | (unfold Go.Vm.room; and_intros <;> (try simp only [List.length_map, List.length_append, List.length_cons, List.length_nil, List.length_replicate, beW_len]) <;> omega) | omega | (simp; done) | (simp_all; done) | (simp_all; omega)) ?_)
         refine Qk hK [1, 5, 7, 8, 37, 38, 39] ?_
         clear hK K
         refine WS.seq ?_
         refine R0 fun K hK => ?_
         try simp (maxSteps := 4000000) (disch := omega) only [push_cast, Nat.reduceLT, Nat.reduceEqDiff, Nat.reduceAdd, Nat.reduceMul, Nat.reduceSub, Nat.reduceLeDiff, Int.reduceToNat, Int.reduceLT, Int.reduceLE, Int.reduceAdd, Int.reduceSub, Int.reduceMul, Int.reduceNeg, Int.reduceEq, reduceCtorEq, Int.cast_ofNat_Int, Hp.get_set, all_anyC, all_anyP, key_get, cell_get, kid_get, encC, List.length_map, encN, Hp.set_set, Hp.get_set_same, List.length_map, u64w, u8w, i64w, hg0_0, hl, hga, hkb, hg18_5]
         (repeat refine And.intro (by first | (unfold Go.Vm.room; and_intros <;> (try simp only [List.length_map, List.length_append, List.length_cons, List.length_nil, List.length_replicate, beW_len]) <;> omega) | omega | (simp; done) | (simp_all; done) | (simp_all; omega)) ?_)
         try simp (maxSteps := 4000000) (disch := omega) only [push_cast, Nat.reduceLT, Nat.reduceEqDiff, Nat.reduceAdd, Nat.reduceMul, Nat.reduceSub, Nat.reduceLeDiff, Int.reduceToNat, Int.reduceLT, Int.reduceLE, Int.reduceAdd, Int.reduceSub, Int.reduceMul, Int.reduceNeg, Int.reduceEq, reduceCtorEq, Int.cast_ofNat_Int, Hp.get_set, all_anyC, all_anyP, key_get, cell_get, kid_get, encC, List.length_map, encN, Hp.set_set, Hp.get_set_same, List.length_map, u64w, u8w, i64w, hg0_0, hl, hga, hkb, hg18_5]
         (repeat refine And.intro (by first | (unfold Go.Vm.room; and_intros <;> (try simp only [List.length_map, List.length_append, List.length_cons, List.length_nil, List.length_replicate, beW_len]) <;> omega) | omega | (simp; done) | (simp_all; done) | (simp_all; omega)) ?_)
         try simp (maxSteps := 4000000) (disch := omega) only [push_cast, Nat.reduceLT, Nat.reduceEqDiff, Nat.reduceAdd, Nat.reduceMul, Nat.reduceSub, Nat.reduceLeDiff, Int.reduceToNat, Int.reduceLT, Int.reduceLE, Int.reduceAdd, Int.reduceSub, Int.reduceMul, Int.reduceNeg, Int.reduceEq, reduceCtorEq, Int.cast_ofNat_Int, Hp.get_set, all_anyC, all_anyP, key_get, cell_get, kid_get, encC, List.length_map, encN, Hp.set_set, Hp.get_set_same, List.length_map, u64w, u8w, i64w, hg0_0, hl, hga, hkb, hg18_5]
         (repeat refine And.intro (by first | (unfold Go.Vm.room; and_intros <;> (try simp only [List.length_map, List.length_append, List.length_cons, List.length_nil, List.length_replicate, beW_len]) <;> omega) | omega | (simp; done) | (simp_all; done) | (simp_all; omega)) ?_)
         try simp (maxSteps := 4000000) (disch := omega) only [push_cast, Nat.reduceLT, Nat.reduceEqDiff, Nat.reduceAdd, Nat.reduceMul, Nat.reduceSub, Nat.reduceLeDiff, Int.reduceToNat, Int.reduceLT, Int.reduceLE, Int.reduceAdd, Int.reduceSub, Int.reduceMul, Int.reduceNeg, Int.reduceEq, reduceCtorEq, Int.cast_ofNat_Int, Hp.get_set, all_anyC, all_anyP, key_get, cell_get, kid_get, encC, List.length_map, encN, Hp.set_set, Hp.get_set_same, List.length_map, u64w, u8w, i64w, hg0_0, hl, hga, hkb, hg18_5]
         (repeat refine And.intro (by first | (unfold Go.Vm.room; and_intros <;> (try simp only [List.length_map, List.length_append, List.length_cons, List.length_nil, List.length_replicate, beW_len]) <;> omega) | omega | (simp; done) | (simp_all; done) | (simp_all; omega)) ?_)
         refine Qk hK [1, 5, 8, 37, 38, 39] ?_
         clear hK K
         refine WS.seq ?_
         refine R0 fun K hK => ?_
         try simp (maxSteps := 4000000) (disch := omega) only [push_cast, Nat.reduceLT, Nat.reduceEqDiff, Nat.reduceAdd, Nat.reduceMul, Nat.reduceSub, Nat.reduceLeDiff, Int.reduceToNat, Int.reduceLT, Int.reduceLE, Int.reduceAdd, Int.reduceSub, Int.reduceMul, Int.reduceNeg, Int.reduceEq, reduceCtorEq, Int.cast_ofNat_Int, Hp.get_set, all_anyC, all_anyP, key_get, cell_get, kid_get, encC, List.length_map, encN, Hp.set_set, Hp.get_set_same, List.length_map, u64w, u8w, i64w, hg0_0, hl, hga, hkb, hg18_5]
         (repeat refine And.intro (by first | (unfold Go.Vm.room; and_intros <;> (try simp only [List.length_map, List.length_append, List.length_cons, List.length_nil, List.length_replicate, beW_len]) <;> omega) | omega | (simp; done) | (simp_all; done) | (simp_all; omega)) ?_)
         refine Qk hK [1, 5, 8, 37, 38, 39, 80] ?_
         clear hK K
         refine CI rfl (fun hc => ?_) (fun hc => ?_)
         ·
          all_goals try (cases hc; done)
          all_goals try simp only [push_cast] at hc
          all_goals try (exfalso; omega)
          all_goals
           rw [if_pos hc] at hout
           refine R0 fun K hK => ?_
           try simp (maxSteps := 4000000) (disch := omega) only [push_cast, Nat.reduceLT, Nat.reduceEqDiff, Nat.reduceAdd, Nat.reduceMul, Nat.reduceSub, Nat.reduceLeDiff, Int.reduceToNat, Int.reduceLT, Int.reduceLE, Int.reduceAdd, Int.reduceSub, Int.reduceMul, Int.reduceNeg, Int.reduceEq, reduceCtorEq, Int.cast_ofNat_Int, Hp.get_set, all_anyC, all_anyP, key_get, cell_get, kid_get, encC, List.length_map, encN, Hp.set_set, Hp.get_set_same, List.length_map, u64w, u8w, i64w, hg0_0, hl, hga, hkb, hg18_5]
           (repeat refine And.intro (by first | (unfold Go.Vm.room; and_intros <;> (try simp only [List.length_map, List.length_append, List.length_cons, List.length_nil, List.length_replicate, beW_len]) <;> omega) | omega | (simp; done) | (simp_all; done) | (simp_all; omega)) ?_)
           try simp (maxSteps := 4000000) (disch := omega) only [push_cast, Nat.reduceLT, Nat.reduceEqDiff, Nat.reduceAdd, Nat.reduceMul, Nat.reduceSub, Nat.reduceLeDiff, Int.reduceToNat, Int.reduceLT, Int.reduceLE, Int.reduceAdd, Int.reduceSub, Int.reduceMul, Int.reduceNeg, Int.reduceEq, reduceCtorEq, Int.cast_ofNat_Int, Hp.get_set, all_anyC, all_anyP, key_get, cell_get, kid_get, encC, List.length_map, encN, Hp.set_set, Hp.get_set_same, List.length_map, u64w, u8w, i64w, hg0_0, hl, hga, hkb, hg18_5]
           (repeat refine And.intro (by first | (unfold Go.Vm.room; and_intros <;> (try simp only [List.length_map, List.length_append, List.length_cons, List.length_nil, List.length_replicate, beW_len]) <;> omega) | omega | (simp; done) | (simp_all; done) | (simp_all; omega)) ?_)
           try simp (maxSteps := 4000000) (disch := omega) only [push_cast, Nat.reduceLT, Nat.reduceEqDiff, Nat.reduceAdd, Nat.reduceMul, Nat.reduceSub, Nat.reduceLeDiff, Int.reduceToNat, Int.reduceLT, Int.reduceLE, Int.reduceAdd, Int.reduceSub, Int.reduceMul, Int.reduceNeg, Int.reduceEq, reduceCtorEq, Int.cast_ofNat_Int, Hp.get_set, all_anyC, all_anyP, key_get, cell_get, kid_get, encC, List.length_map, encN, Hp.set_set, Hp.get_set_same, List.length_map, u64w, u8w, i64w, hg0_0, hl, hga, hkb, hg18_5]
           (repeat refine And.intro (by first | (unfold Go.Vm.room; and_intros <;> (try simp only [List.length_map, List.length_append, List.length_cons, List.length_nil, List.length_replicate, beW_len]) <;> omega) | omega | (simp; done) | (simp_all; done) | (simp_all; omega)) ?_)
           try simp (maxSteps := 4000000) (disch := omega) only [push_cast, Nat.reduceLT, Nat.reduceEqDiff, Nat.reduceAdd, Nat.reduceMul, Nat.reduceSub, Nat.reduceLeDiff, Int.reduceToNat, Int.reduceLT, Int.reduceLE, Int.reduceAdd, Int.reduceSub, Int.reduceMul, Int.reduceNeg, Int.reduceEq, reduceCtorEq, Int.cast_ofNat_Int, Hp.get_set, all_anyC, all_anyP, key_get, cell_get, kid_get, encC, List.length_map, encN, Hp.set_set, Hp.get_set_same, List.length_map, u64w, u8w, i64w, hg0_0, hl, hga, hkb, hg18_5]
           (repeat refine And.intro (by first | (unfold Go.Vm.room; and_intros <;> (try simp only [List.length_map, List.length_append, List.length_cons, List.length_nil, List.length_replicate, beW_len]) <;> omega) | omega | (simp; done) | (simp_all; done) | (simp_all; omega)) ?_)
           refine Qk hK [1, 5, 37, 38, 39] ?_
           clear hK K
           simp only [push_cast, WS, Nat.reduceEqDiff]
           refine hK2 _ _ ?_
           clear hK2
           try clear K2
           refine WS_keep [1, 5, 37, 38, 39] _ ?_
           refine R0 fun K hK => ?_
           try simp (maxSteps := 4000000) (disch := omega) only [push_cast, Nat.reduceLT, Nat.reduceEqDiff, Int.reduceToNat, Int.reduceLT, Int.reduceLE, Int.reduceAdd, Int.reduceSub, Int.reduceMul, Int.reduceNeg, Int.reduceEq, reduceCtorEq, Int.cast_ofNat_Int, Hp.get_set, all_anyC, all_anyP, key_get, cell_get, kid_get, encC, List.length_map, encN, Hp.set_set, Hp.get_set_same, List.length_map, u64w, u8w, i64w, hg0_0, hl, hga, hkb, hg18_5]
           (repeat refine And.intro (by first | (unfold Go.Vm.room; and_intros <;> (try simp only [List.length_map, List.length_append, List.length_cons, List.length_nil, List.length_replicate, beW_len]) <;> omega) | omega | (simp; done) | (simp_all; done) | (simp_all; omega)) ?_)
           refine Qk hK [1, 5, 37, 38, 39] ?_
           clear hK K
           refine Ag (hM1 _ _ ?_)
           refine ⟨_, ?_, k + 1,  rfl, ?_, ?_, ?_⟩
           · first | omega | (simp; done) | (simp_all; done) | (simp_all; omega)
           · (try simp (disch := omega) only [push_cast, Int.reduceToNat, Int.reduceLT, Int.reduceLE, Int.reduceAdd, Int.reduceSub, Int.reduceMul, Int.reduceNeg, Int.reduceEq, reduceCtorEq, Nat.reduceLeDiff, Nat.reduceLT, Nat.reduceEqDiff, Nat.reduceAdd, Nat.reduceMul, Nat.reduceSub, Int.cast_ofNat_Int, all_anyC, all_anyP, key_get, cell_get, kid_get, encC, List.length_map, encN, Hp.set_set, Hp.get_set_same, List.length_map, u64w, u8w, i64w, hg0_0, hl, hga, hkb, hg18_5]) <;> (first | done | rfl | (simp [hd, toR, hl, parts_len, bTo_zero, beW_len, u8]; done) | (rw [hout]; simp only [List.map_append, List.append_assoc]; done) | (rw [hout]; simp only [Hp.set_set, List.length_append, List.length_cons, List.length_nil, List.length_map, beW_len]; congr 2 <;> omega) | (rw [hout]; simp only [Hp.set_set, List.length_append, List.length_cons, List.length_nil, List.length_map, beW_len]; done) | (simp; done) | (simp; omega) | omega | (simp_all; done) | (simp_all; omega))
           · first | rfl | (try simp (disch := omega) only [push_cast, Int.reduceToNat, Int.reduceLT, Int.reduceLE, Int.reduceAdd, Int.reduceSub, Int.reduceMul, Int.reduceNeg, Int.reduceEq, reduceCtorEq, Nat.reduceLeDiff, Nat.reduceLT, Nat.reduceEqDiff, Nat.reduceAdd, Nat.reduceMul, Nat.reduceSub, Int.cast_ofNat_Int, all_anyC, all_anyP, key_get, cell_get, kid_get, encC, List.length_map, encN, Hp.set_set, Hp.get_set_same, List.length_map, u64w, u8w, i64w, hg0_0, hl, hga, hkb, hg18_5]) <;> (first | done | rfl | (simp [hd, toR, hl, parts_len, bTo_zero, beW_len, u8]; done) | (rw [hout]; simp only [List.map_append, List.append_assoc]; done) | (rw [hout]; simp only [Hp.set_set, List.length_append, List.length_cons, List.length_nil, List.length_map, beW_len]; congr 2 <;> omega) | (rw [hout]; simp only [Hp.set_set, List.length_append, List.length_cons, List.length_nil, List.length_map, beW_len]; done) | (simp; done) | (simp; omega) | omega | (simp_all; done) | (simp_all; omega))
           · first | omega | (simp; done) | (simp_all; done) | (simp_all; omega)
         ·
          all_goals try (cases hc; done)
          all_goals try simp only [push_cast] at hc
          all_goals try (exfalso; omega)
          all_goals
           rw [if_neg (by omega)] at hout
           refine R0 fun K hK => ?_
           try simp (maxSteps := 4000000) (disch := omega) only [push_cast, Nat.reduceLT, Nat.reduceEqDiff, Nat.reduceAdd, Nat.reduceMul, Nat.reduceSub, Nat.reduceLeDiff, Int.reduceToNat, Int.reduceLT, Int.reduceLE, Int.reduceAdd, Int.reduceSub, Int.reduceMul, Int.reduceNeg, Int.reduceEq, reduceCtorEq, Int.cast_ofNat_Int, Hp.get_set, all_anyC, all_anyP, key_get, cell_get, kid_get, encC, List.length_map, encN, Hp.set_set, Hp.get_set_same, List.length_map, u64w, u8w, i64w, hg0_0, hl, hga, hkb, hg18_5]
           (repeat refine And.intro (by first | (unfold Go.Vm.room; and_intros <;> (try simp only [List.length_map, List.length_append, List.length_cons, List.length_nil, List.length_replicate, beW_len]) <;> omega) | omega | (simp; done) | (simp_all; done) | (simp_all; omega)) ?_)
           try simp (maxSteps := 4000000) (disch := omega) only [push_cast, Nat.reduceLT, Nat.reduceEqDiff, Nat.reduceAdd, Nat.reduceMul, Nat.reduceSub, Nat.reduceLeDiff, Int.reduceToNat, Int.reduceLT, Int.reduceLE, Int.reduceAdd, Int.reduceSub, Int.reduceMul, Int.reduceNeg, Int.reduceEq, reduceCtorEq, Int.cast_ofNat_Int, Hp.get_set, all_anyC, all_anyP, key_get, cell_get, kid_get, encC, List.length_map, encN, Hp.set_set, Hp.get_set_same, List.length_map, u64w, u8w, i64w, hg0_0, hl, hga, hkb, hg18_5]
           (repeat refine And.intro (by first | (unfold Go.Vm.room; and_intros <;> (try simp only [List.length_map, List.length_append, List.length_cons, List.length_nil, List.length_replicate, beW_len]) <;> omega) | omega | (simp; done) | (simp_all; done) | (simp_all; omega)) ?_)
           refine callP (page_spec _ (by first | (unfold Go.Vm.room; and_intros <;> (try simp only [List.length_map, List.length_append, List.length_cons, List.length_nil, List.length_replicate, beW_len]) <;> omega) | omega | (simp; done) | (simp_all; done) | (simp_all; omega))) rfl ?_
           try simp (maxSteps := 4000000) (disch := omega) only [push_cast, Nat.reduceLT, Nat.reduceEqDiff, Nat.reduceAdd, Nat.reduceMul, Nat.reduceSub, Nat.reduceLeDiff, Int.reduceToNat, Int.reduceLT, Int.reduceLE, Int.reduceAdd, Int.reduceSub, Int.reduceMul, Int.reduceNeg, Int.reduceEq, reduceCtorEq, Int.cast_ofNat_Int, Hp.get_set, all_anyC, all_anyP, key_get, cell_get, kid_get, encC, List.length_map, encN, Hp.set_set, Hp.get_set_same, List.length_map, u64w, u8w, i64w, hg0_0, hl, hga, hkb, hg18_5]
           (repeat refine And.intro (by first | (unfold Go.Vm.room; and_intros <;> (try simp only [List.length_map, List.length_append, List.length_cons, List.length_nil, List.length_replicate, beW_len]) <;> omega) | omega | (simp; done) | (simp_all; done) | (simp_all; omega)) ?_)
           try simp (maxSteps := 4000000) (disch := omega) only [push_cast, Nat.reduceLT, Nat.reduceEqDiff, Nat.reduceAdd, Nat.reduceMul, Nat.reduceSub, Nat.reduceLeDiff, Int.reduceToNat, Int.reduceLT, Int.reduceLE, Int.reduceAdd, Int.reduceSub, Int.reduceMul, Int.reduceNeg, Int.reduceEq, reduceCtorEq, Int.cast_ofNat_Int, Hp.get_set, all_anyC, all_anyP, key_get, cell_get, kid_get, encC, List.length_map, encN, Hp.set_set, Hp.get_set_same, List.length_map, u64w, u8w, i64w, hg0_0, hl, hga, hkb, hg18_5]
           (repeat refine And.intro (by first | (unfold Go.Vm.room; and_intros <;> (try simp only [List.length_map, List.length_append, List.length_cons, List.length_nil, List.length_replicate, beW_len]) <;> omega) | omega | (simp; done) | (simp_all; done) | (simp_all; omega)) ?_)
           try simp (maxSteps := 4000000) (disch := omega) only [push_cast, Nat.reduceLT, Nat.reduceEqDiff, Nat.reduceAdd, Nat.reduceMul, Nat.reduceSub, Nat.reduceLeDiff, Int.reduceToNat, Int.reduceLT, Int.reduceLE, Int.reduceAdd, Int.reduceSub, Int.reduceMul, Int.reduceNeg, Int.reduceEq, reduceCtorEq, Int.cast_ofNat_Int, Hp.get_set, all_anyC, all_anyP, key_get, cell_get, kid_get, encC, List.length_map, encN, Hp.set_set, Hp.get_set_same, List.length_map, u64w, u8w, i64w, hg0_0, hl, hga, hkb, hg18_5]
           (repeat refine And.intro (by first | (unfold Go.Vm.room; and_intros <;> (try simp only [List.length_map, List.length_append, List.length_cons, List.length_nil, List.length_replicate, beW_len]) <;> omega) | omega | (simp; done) | (simp_all; done) | (simp_all; omega)) ?_)
           try simp (maxSteps := 4000000) (disch := omega) only [push_cast, Nat.reduceLT, Nat.reduceEqDiff, Nat.reduceAdd, Nat.reduceMul, Nat.reduceSub, Nat.reduceLeDiff, Int.reduceToNat, Int.reduceLT, Int.reduceLE, Int.reduceAdd, Int.reduceSub, Int.reduceMul, Int.reduceNeg, Int.reduceEq, reduceCtorEq, Int.cast_ofNat_Int, Hp.get_set, all_anyC, all_anyP, key_get, cell_get, kid_get, encC, List.length_map, encN, Hp.set_set, Hp.get_set_same, List.length_map, u64w, u8w, i64w, hg0_0, hl, hga, hkb, hg18_5]
           (repeat refine And.intro (by first | (unfold Go.Vm.room; and_intros <;> (try simp only [List.length_map, List.length_append, List.length_cons, List.length_nil, List.length_replicate, beW_len]) <;> omega) | omega | (simp; done) | (simp_all; done) | (simp_all; omega)) ?_)
           refine Qk hK [1, 5, 37, 38, 39] ?_
           clear hK K
           simp only [push_cast, WS, Nat.reduceEqDiff]
           refine hK2 _ _ ?_
           clear hK2
           try clear K2
           refine WS_keep [1, 5, 37, 38, 39] _ ?_
           refine R0 fun K hK => ?_
           try simp (maxSteps := 4000000) (disch := omega) only [push_cast, Nat.reduceLT, Nat.reduceEqDiff, Int.reduceToNat, Int.reduceLT, Int.reduceLE, Int.reduceAdd, Int.reduceSub, Int.reduceMul, Int.reduceNeg, Int.reduceEq, reduceCtorEq, Int.cast_ofNat_Int, Hp.get_set, all_anyC, all_anyP, key_get, cell_get, kid_get, encC, List.length_map, encN, Hp.set_set, Hp.get_set_same, List.length_map, u64w, u8w, i64w, hg0_0, hl, hga, hkb, hg18_5]
           (repeat refine And.intro (by first | (unfold Go.Vm.room; and_intros <;> (try simp only [List.length_map, List.length_append, List.length_cons, List.length_nil, List.length_replicate, beW_len]) <;> omega) | omega | (simp; done) | (simp_all; done) | (simp_all; omega)) ?_)
           refine Qk hK [1, 5, 37, 38, 39] ?_
           clear hK K
           refine Ag (hM1 _ _ ?_)
           refine ⟨_, ?_, k + 1,  rfl, ?_, ?_, ?_⟩
           · first | omega | (simp; done) | (simp_all; done) | (simp_all; omega)
           · (try simp (disch := omega) only [push_cast, Int.reduceToNat, Int.reduceLT, Int.reduceLE, Int.reduceAdd, Int.reduceSub, Int.reduceMul, Int.reduceNeg, Int.reduceEq, reduceCtorEq, Nat.reduceLeDiff, Nat.reduceLT, Nat.reduceEqDiff, Nat.reduceAdd, Nat.reduceMul, Nat.reduceSub, Int.cast_ofNat_Int, all_anyC, all_anyP, key_get, cell_get, kid_get, encC, List.length_map, encN, Hp.set_set, Hp.get_set_same, List.length_map, u64w, u8w, i64w, hg0_0, hl, hga, hkb, hg18_5]) <;> (first | done | rfl | (simp [hd, toR, hl, parts_len, bTo_zero, beW_len, u8]; done) | (rw [hout]; simp only [List.map_append, List.append_assoc]; done) | (rw [hout]; simp only [Hp.set_set, List.length_append, List.length_cons, List.length_nil, List.length_map, beW_len]; congr 2 <;> omega) | (rw [hout]; simp only [Hp.set_set, List.length_append, List.length_cons, List.length_nil, List.length_map, beW_len]; done) | (simp; done) | (simp; omega) | omega | (simp_all; done) | (simp_all; omega))
           · first | rfl | (try simp (disch := omega) only [push_cast, Int.reduceToNat, Int.reduceLT, Int.reduceLE, Int.reduceAdd, Int.reduceSub, Int.reduceMul, Int.reduceNeg, Int.reduceEq, reduceCtorEq, Nat.reduceLeDiff, Nat.reduceLT, Nat.reduceEqDiff, Nat.reduceAdd, Nat.reduceMul, Nat.reduceSub, Int.cast_ofNat_Int, all_anyC, all_anyP, key_get, cell_get, kid_get, encC, List.length_map, encN, Hp.set_set, Hp.get_set_same, List.length_map, u64w, u8w, i64w, hg0_0, hl, hga, hkb, hg18_5]) <;> (first | done | rfl | (simp [hd, toR, hl, parts_len, bTo_zero, beW_len, u8]; done) | (rw [hout]; simp only [List.map_append, List.append_assoc]; done) | (rw [hout]; simp only [Hp.set_set, List.length_append, List.length_cons, List.length_nil, List.length_map, beW_len]; congr 2 <;> omega) | (rw [hout]; simp only [Hp.set_set, List.length_append, List.length_cons, List.length_nil, List.length_map, beW_len]; done) | (simp; done) | (simp; omega) | omega | (simp_all; done) | (simp_all; omega))
           · first | omega | (simp; done) | (simp_all; done) | (simp_all; omega)
end Go.Vm.Try
