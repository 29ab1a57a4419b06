/- Walks of functions of the program, and laws of what they compute. -/
import Derived.Test.YtbicfijohjijhaaVdV
set_option linter.unusedSimpArgs false
set_option linter.unusedVariables false
set_option maxHeartbeats 4000000
namespace Go.Vm.Try
open Go.Proofs
theorem DiskAt.hd {D : Disk} {d : Nat} {σ : Hp} (h : DiskAt D d σ) : ∃ g1 g2 gt, σ.get d = some (.cells (dcells D g1 g2 (.sl 3 (D.waits.map encW) (.tk gt)))) := by
  obtain ⟨g1, g2, gt, s1, c1, s2, c2, h⟩ := h
  exact ⟨g1, g2, gt, h.hd⟩
theorem len_R {σ : Hp} {D : Disk} {d : Nat} (file : Int) (h : DiskAt D d σ) : RSpec Go.Proofs.Try.prog 31 [.ptr d 0, .int .i64 file] σ (.int .i64 (lenV D file)) := by
  obtain ⟨g1, g2, gt, h⟩ := h.hd
  exact fun τ hs => len_spec file (hs _ _ h)
theorem waits_R {σ : Hp} {D : Disk} {d : Nat} (h : DiskAt D d σ) : RSpec Go.Proofs.Try.prog 35 [.ptr d 0] σ (.int .i64 D.waits.length) := by
  obtain ⟨g1, g2, gt, h⟩ := h.hd
  exact fun τ hs => waits_spec (hs _ _ h)
theorem calls_R {σ : Hp} {D : Disk} {d : Nat} (h : DiskAt D d σ) : RSpec Go.Proofs.Try.prog 39 [.ptr d 0] σ (.int .i64 D.calls) := by
  obtain ⟨g1, g2, gt, h⟩ := h.hd
  exact fun τ hs => calls_spec (hs _ _ h)
theorem down_R {σ : Hp} {D : Disk} {d : Nat} (h : DiskAt D d σ) : RSpec Go.Proofs.Try.prog 40 [.ptr d 0] σ (.bool D.down) := by
  obtain ⟨g1, g2, gt, h⟩ := h.hd
  exact fun τ hs => down_spec (hs _ _ h)
def fsz (n : Int) : Int := if 0 < n ∧ n < 200 then n else 128
theorem fsz_b (n : Int) : 0 < fsz n ∧ fsz n < 200 := by unfold fsz; split <;> omega
def fullB (b : UInt8) (n : Int) : Sec := List.replicate (fsz n).toNat b
theorem zrep (n : Nat) : (List.replicate n [V.int .u8 0]).flatten = (List.replicate n (0 : UInt8)).map u8 := by
  induction n with
  | zero => rfl
  | succ n ih => rw [List.replicate_succ, List.flatten_cons, ih, List.replicate_succ]; rfl
def frow (b : UInt8) (m i : Nat) : List V := (List.replicate i b ++ List.replicate (m - i) (0 : UInt8)).map u8
theorem frow_set (b : UInt8) (m i : Nat) (h : i < m) : (frow b m i).set i (.int .u8 b.toNat) = frow b m (i + 1) := by
  unfold frow
  have e : m - i = (m - (i + 1)) + 1 := by omega
  rw [e, List.replicate_succ, List.map_append, List.map_append, List.set_append_right _ _ (by simp)]
  simp [List.replicate_succ', u8]
theorem frow_len (b : UInt8) (m i : Nat) (h : i ≤ m) : (frow b m i).length = m := by simp [frow]; omega
theorem frow_end (b : UInt8) (m : Nat) : frow b m m = (List.replicate m b).map u8 := by simp [frow]

theorem full_spec (b : UInt8) (n : Int) : PSpec Go.Proofs.Try.prog 28 [.int .u8 b.toNat, .int .i64 n] (.sl 1 ((fullB b n).map u8) .no) := by
 refine introP (n := 28) (rs := [.tmp 4]) (fn := Go.Proofs.Try.f28) (by rfl) rfl (by kernel_rfl) rfl rfl (Nat.le_of_ble_eq_true rfl) (fun Q0 hQ0 => ?_)
 obtain ⟨hf1, hf2⟩ := fsz_b n
 refine WS.seq ?_
 refine A1 [0, 1] (by decide) ?_
 refine WS.seq ?_
 refine A1 [0, 1, 5] (by decide) ?_
 refine WS.seq (WS.seq ?_)
 refine R0 fun K hK => ?_
 try simp (maxSteps := 4000000) (disch := omega) only [push_cast, Nat.reduceLT, Nat.reduceEqDiff, Int.reduceToNat, Int.reduceLT, Int.reduceLE, Int.reduceAdd, Int.reduceSub, Int.reduceMul, Int.reduceNeg, Int.reduceEq, reduceCtorEq, Int.cast_ofNat_Int, Hp.get_set]
 all_goals try (first | refine guardT 10 rfl (fun hc => ?_) (fun hc => ?_) | refine guardF 10 rfl (fun hc => ?_) (fun hc => ?_)) <;> try simp only [push_cast] at hc
 all_goals try (exfalso; omega)
 all_goals try simp (maxSteps := 4000000) (disch := omega) only [push_cast, Nat.reduceLT, Nat.reduceEqDiff, Int.reduceToNat, Int.reduceLT, Int.reduceLE, Int.reduceAdd, Int.reduceSub, Int.reduceMul, Int.reduceNeg, Int.reduceEq, reduceCtorEq, Int.cast_ofNat_Int, Hp.get_set]
 all_goals
  refine Qk hK [0, 1, 5, 13] ?_
  clear hK K
  refine WS.cutk [0, 5] (fun env σ' => env = [(0, .int .u8 b.toNat), (5, .int .i64 (fsz n))] ∧ σ' = Hp.empty ∧ (True)) (fun Mc hMc => ?_) ?_ rfl
  ·
   refine CI rfl (fun hc => ?_) (fun hc => ?_)
   ·
    all_goals try (cases hc; done)
    all_goals try simp only [push_cast] at hc
    all_goals try (exfalso; omega)
    all_goals
     refine R0 fun K hK => ?_
     try simp (maxSteps := 4000000) (disch := omega) only [push_cast, Nat.reduceLT, Nat.reduceEqDiff, Hp.get_set]
     refine Qk hK [0, 5] ?_
     clear hK K
     refine Ag (hMc _ _ ?_)
     refine ⟨ ?_, ?_, ?_⟩
     · (try simp (disch := omega) only [push_cast, Int.reduceToNat, Int.reduceLT, Int.reduceLE, Int.reduceAdd, Int.reduceSub, Int.reduceMul, Int.reduceNeg, Int.reduceEq, reduceCtorEq, Nat.reduceLeDiff, Nat.reduceLT, Nat.reduceEqDiff, Nat.reduceAdd, Nat.reduceMul, Nat.reduceSub, Int.cast_ofNat_Int]) <;> (first | done | rfl | (rw [fsz, if_pos (by omega)]) | (rw [fsz, if_neg (by omega)]) | (simp; done) | (simp; omega) | omega | (simp_all; done) | (simp_all; omega))
     · first | rfl | (try simp (disch := omega) only [push_cast, Int.reduceToNat, Int.reduceLT, Int.reduceLE, Int.reduceAdd, Int.reduceSub, Int.reduceMul, Int.reduceNeg, Int.reduceEq, reduceCtorEq, Nat.reduceLeDiff, Nat.reduceLT, Nat.reduceEqDiff, Nat.reduceAdd, Nat.reduceMul, Nat.reduceSub, Int.cast_ofNat_Int]) <;> (first | done | rfl | (rw [fsz, if_pos (by omega)]) | (rw [fsz, if_neg (by omega)]) | (simp; done) | (simp; omega) | omega | (simp_all; done) | (simp_all; omega))
     · first | omega | (simp; done) | (simp_all; done) | (simp_all; omega)
   ·
    all_goals try (cases hc; done)
    all_goals try simp only [push_cast] at hc
    all_goals try (exfalso; omega)
    all_goals
     refine Sk ?_
     refine Ag (hMc _ _ ?_)
     refine ⟨ ?_, ?_, ?_⟩
     · (try simp (disch := omega) only [push_cast, Int.reduceToNat, Int.reduceLT, Int.reduceLE, Int.reduceAdd, Int.reduceSub, Int.reduceMul, Int.reduceNeg, Int.reduceEq, reduceCtorEq, Nat.reduceLeDiff, Nat.reduceLT, Nat.reduceEqDiff, Nat.reduceAdd, Nat.reduceMul, Nat.reduceSub, Int.cast_ofNat_Int]) <;> (first | done | rfl | (rw [fsz, if_pos (by omega)]) | (rw [fsz, if_neg (by omega)]) | (simp; done) | (simp; omega) | omega | (simp_all; done) | (simp_all; omega))
     · first | rfl | (try simp (disch := omega) only [push_cast, Int.reduceToNat, Int.reduceLT, Int.reduceLE, Int.reduceAdd, Int.reduceSub, Int.reduceMul, Int.reduceNeg, Int.reduceEq, reduceCtorEq, Nat.reduceLeDiff, Nat.reduceLT, Nat.reduceEqDiff, Nat.reduceAdd, Nat.reduceMul, Nat.reduceSub, Int.cast_ofNat_Int]) <;> (first | done | rfl | (rw [fsz, if_pos (by omega)]) | (rw [fsz, if_neg (by omega)]) | (simp; done) | (simp; omega) | omega | (simp_all; done) | (simp_all; omega))
     · first | omega | (simp; done) | (simp_all; done) | (simp_all; omega)
  rintro env σ' ⟨rfl, rfl, hi⟩
  refine WS.seq ?_
  refine R0 fun K hK => ?_
  try simp (maxSteps := 4000000) (disch := omega) only [push_cast, Nat.reduceLT, Nat.reduceEqDiff, Nat.reduceAdd, Nat.reduceMul, Nat.reduceSub, Nat.reduceLeDiff, Int.reduceToNat, Int.reduceLT, Int.reduceLE, Int.reduceAdd, Int.reduceSub, Int.reduceMul, Int.reduceNeg, Int.reduceEq, reduceCtorEq, Int.cast_ofNat_Int, Hp.get_set]
  (repeat refine And.intro (by first | omega | (simp; done) | (simp_all; done) | (simp_all; omega)) ?_)
  refine fun g4_1 hg4_1 => ?_
  try simp only [Hp.set_none, Hp.join_none_iff] at hg4_1
  try simp (maxSteps := 4000000) (disch := omega) only [push_cast, Nat.reduceLT, Nat.reduceEqDiff, Nat.reduceAdd, Nat.reduceMul, Nat.reduceSub, Nat.reduceLeDiff, Int.reduceToNat, Int.reduceLT, Int.reduceLE, Int.reduceAdd, Int.reduceSub, Int.reduceMul, Int.reduceNeg, Int.reduceEq, reduceCtorEq, Int.cast_ofNat_Int, Hp.get_set, hg4_1]
  (repeat refine And.intro (by first | omega | (simp; done) | (simp_all; done) | (simp_all; omega)) ?_)
  refine Qk hK [0, 6] ?_
  clear hK K
  refine WS.seq (WS.seq ?_)
  refine A1 [0, 6, 7] (by decide) ?_
  refine Bk fun K0 hK0 => ?_
  refine WS_keep [0, 6, 7] _ ?_
  refine Lp (fun m env σ' => ∃ (i : Nat), m = (fsz n).toNat - i ∧ env = [(0, .int .u8 b.toNat), (6, .bs g4_1 0 (fsz n).toNat (fsz n).toNat 1), (7, .int .i64 i)] ∧ σ' = Hp.empty.set g4_1 (.cells (frow b (fsz n).toNat i)) ∧ (i ≤ (fsz n).toNat)) ?_ ?_
  · refine ⟨_, 0,  rfl, ?_, ?_, ?_⟩
    · (try simp (disch := omega) only [push_cast, Int.reduceToNat, Int.reduceLT, Int.reduceLE, Int.reduceAdd, Int.reduceSub, Int.reduceMul, Int.reduceNeg, Int.reduceEq, reduceCtorEq, Nat.reduceLeDiff, Nat.reduceLT, Nat.reduceEqDiff, Nat.reduceAdd, Nat.reduceMul, Nat.reduceSub, Int.cast_ofNat_Int, hg4_1]) <;> (first | done | rfl | (rw [zrep]; simp [frow]; done) | (rw [Hp.set_set, frow_set _ _ _ (by omega)]) | (simp; done) | (simp; omega) | omega | (simp_all; done) | (simp_all; omega))
    · first | rfl | (try simp (disch := omega) only [push_cast, Int.reduceToNat, Int.reduceLT, Int.reduceLE, Int.reduceAdd, Int.reduceSub, Int.reduceMul, Int.reduceNeg, Int.reduceEq, reduceCtorEq, Nat.reduceLeDiff, Nat.reduceLT, Nat.reduceEqDiff, Nat.reduceAdd, Nat.reduceMul, Nat.reduceSub, Int.cast_ofNat_Int, hg4_1]) <;> (first | done | rfl | (rw [zrep]; simp [frow]; done) | (rw [Hp.set_set, frow_set _ _ _ (by omega)]) | (simp; done) | (simp; omega) | omega | (simp_all; done) | (simp_all; omega))
    · first | omega | (simp; done) | (simp_all; done) | (simp_all; omega)
  intro m env σ' hJ M0 hM0
  obtain ⟨i, rfl, rfl, rfl, hi⟩ := hJ
  have hfl := frow_len b (fsz n).toNat i hi
  refine WS.seq (WS.seq ?_)
  refine R0 fun K hK => ?_
  try simp (maxSteps := 4000000) (disch := omega) only [push_cast, Nat.reduceLT, Nat.reduceEqDiff, Int.reduceToNat, Int.reduceLT, Int.reduceLE, Int.reduceAdd, Int.reduceSub, Int.reduceMul, Int.reduceNeg, Int.reduceEq, reduceCtorEq, Int.cast_ofNat_Int, Hp.get_set, hg4_1, hfl]
  refine Qk hK [0, 6, 7, 20] ?_
  clear hK K
  refine CI rfl (fun hc => ?_) (fun hc => ?_)
  rotate_left
  ·
   all_goals try (cases hc; done)
   all_goals try simp only [push_cast] at hc
   all_goals try (exfalso; omega)
   all_goals
    refine Ex ?_
    simp only [push_cast, WS, Nat.reduceEqDiff]
    refine hK0 _ _ ?_
    clear hK0
    try clear K0
    refine WS_keep [6] _ ?_
    refine WS.seq ?_
    refine R0 fun K hK => ?_
    try simp (maxSteps := 4000000) (disch := omega) only [push_cast, Nat.reduceLT, Nat.reduceEqDiff, Hp.get_set, hg4_1, hfl]
    refine Qk hK [4] ?_
    clear hK K
    have hie : i = (fsz n).toNat := by omega
    subst hie
    refine S_freezeS 4 rfl (Hp.get_set_same _ _ _) (frow_len _ _ _ (Nat.le_refl _)) ?_
    refine S_untag 4 rfl ?_
    refine Rt ?_
    refine hQ0 _ _ _ ?_
    try simp (maxSteps := 4000000) only [push_cast, Int.reduceToNat, Int.reduceLT, Int.reduceLE, Int.reduceAdd, Int.reduceSub, Int.reduceMul, Int.reduceNeg, Int.reduceEq, reduceCtorEq, Nat.reduceLeDiff, Nat.reduceLT, Nat.reduceEqDiff, Nat.reduceAdd, Nat.reduceMul, Nat.reduceSub, Int.cast_ofNat_Int, hg4_1, hfl]
    rw [frow_end]; rfl
  all_goals try (cases hc; done)
  all_goals try simp only [push_cast] at hc
  all_goals try (exfalso; omega)
  all_goals
   refine Sk ?_
   refine WS.seq ?_
   refine Bk fun K1 hK1 => ?_
   refine R0 fun K hK => ?_
   try simp (maxSteps := 4000000) (disch := omega) only [push_cast, Nat.reduceLT, Nat.reduceEqDiff, Nat.reduceAdd, Nat.reduceMul, Nat.reduceSub, Nat.reduceLeDiff, Int.reduceToNat, Int.reduceLT, Int.reduceLE, Int.reduceAdd, Int.reduceSub, Int.reduceMul, Int.reduceNeg, Int.reduceEq, reduceCtorEq, Int.cast_ofNat_Int, Hp.get_set, hg4_1, hfl]
   (repeat refine And.intro (by first | omega | (simp; done) | (simp_all; done) | (simp_all; omega)) ?_)
   refine Qk hK [0, 6, 7] ?_
   clear hK K
   simp only [push_cast, WS, Nat.reduceEqDiff]
   refine hK1 _ _ ?_
   clear hK1
   try clear K1
   refine WS_keep [0, 6, 7] _ ?_
   refine R0 fun K hK => ?_
   try simp (maxSteps := 4000000) (disch := omega) only [push_cast, Nat.reduceLT, Nat.reduceEqDiff, Int.reduceToNat, Int.reduceLT, Int.reduceLE, Int.reduceAdd, Int.reduceSub, Int.reduceMul, Int.reduceNeg, Int.reduceEq, reduceCtorEq, Int.cast_ofNat_Int, Hp.get_set, hg4_1, hfl]
   (repeat refine And.intro (by first | omega | (simp; done) | (simp_all; done) | (simp_all; omega)) ?_)
   refine Qk hK [0, 6, 7] ?_
   clear hK K
   refine Ag (hM0 _ _ ?_)
   refine ⟨_, ?_, i + 1,  rfl, ?_, ?_, ?_⟩
   · first | omega | (simp; done) | (simp_all; done) | (simp_all; omega)
   · (try simp (disch := omega) only [push_cast, Int.reduceToNat, Int.reduceLT, Int.reduceLE, Int.reduceAdd, Int.reduceSub, Int.reduceMul, Int.reduceNeg, Int.reduceEq, reduceCtorEq, Nat.reduceLeDiff, Nat.reduceLT, Nat.reduceEqDiff, Nat.reduceAdd, Nat.reduceMul, Nat.reduceSub, Int.cast_ofNat_Int, hg4_1, hfl]) <;> (first | done | rfl | (rw [zrep]; simp [frow]; done) | (rw [Hp.set_set, frow_set _ _ _ (by omega)]) | (simp; done) | (simp; omega) | omega | (simp_all; done) | (simp_all; omega))
   · first | rfl | (try simp (disch := omega) only [push_cast, Int.reduceToNat, Int.reduceLT, Int.reduceLE, Int.reduceAdd, Int.reduceSub, Int.reduceMul, Int.reduceNeg, Int.reduceEq, reduceCtorEq, Nat.reduceLeDiff, Nat.reduceLT, Nat.reduceEqDiff, Nat.reduceAdd, Nat.reduceMul, Nat.reduceSub, Int.cast_ofNat_Int, hg4_1, hfl]) <;> (first | done | rfl | (rw [zrep]; simp [frow]; done) | (rw [Hp.set_set, frow_set _ _ _ (by omega)]) | (simp; done) | (simp; omega) | omega | (simp_all; done) | (simp_all; omega))
   · first | omega | (simp; done) | (simp_all; done) | (simp_all; omega)
end Go.Vm.Try
