/- Walks of functions of the program, and laws of what they compute. -/
import Derived.Test.YtbicfijohjijhaaVdW
set_option linter.unusedSimpArgs false
set_option linter.unusedVariables false
set_option maxHeartbeats 4000000
namespace Go.Vm.Try
open Go.Proofs
theorem look_none {p : Plc} : ∀ {m : List PS}, look p m = none ↔ p ∉ m.map (·.1)
  | [] => by simp [look]
  | (q, b) :: m => by
    have := look_none (p := p) (m := m)
    by_cases e : q = p
    · subst e; simp [look]
    · simp only [look, if_neg e, this, List.map_cons, List.mem_cons, not_or]
      exact ⟨fun h => ⟨Ne.symm e, h⟩, fun h => h.2⟩
theorem look_some {p : Plc} {b : Sec} : ∀ {m : List PS}, (m.map (·.1)).Nodup → (look p m = some b ↔ (p, b) ∈ m)
  | [], _ => by simp [look]
  | (q, c) :: m, h => by
    rw [List.map_cons, List.nodup_cons] at h
    have ih := look_some (p := p) (b := b) (m := m) h.2
    by_cases e : q = p
    · subst e
      simp only [look, if_true, Option.some.injEq, List.mem_cons, Prod.mk.injEq, true_and]
      constructor
      · intro e; exact .inl e.symm
      · rintro (e | hm)
        · exact e.symm
        · exact absurd (List.mem_map.2 ⟨_, hm, rfl⟩) h.1
    · simp only [look, if_neg e, ih, List.mem_cons, Prod.mk.injEq]
      constructor
      · exact .inr
      · rintro (⟨e2, _⟩ | hm)
        · exact absurd e2.symm e
        · exact hm
theorem look_perm {p : Plc} {m m' : List PS} (hp : m.Perm m') (hn : (m'.map (·.1)).Nodup) : look p m = look p m' := by
  have hn2 : (m.map (·.1)).Nodup := ((hp.map (·.1)).nodup_iff).2 hn
  cases h : look p m' with
  | none => rw [look_none] at h ⊢; exact fun hm => h ((hp.map (·.1)).mem_iff.1 hm)
  | some b => rw [look_some hn] at h; rw [look_some hn2]; exact hp.mem_iff.2 h
theorem sizeL_perm (f : Int) {m m' : List PS} (hp : m.Perm m') : sizeL f m = sizeL f m' := by
  unfold sizeL
  refine hp.foldl_eq' (fun x _ y _ z => ?_) 0
  by_cases h1 : x.1.1 = f <;> by_cases h2 : y.1.1 = f <;> simp only [h1, h2, if_true, if_false]
  unfold maxI; (repeat' split) <;> omega
theorem ok_new (q : Int) : (Disk.new q).Ok := by simp [Disk.Ok, Disk.new]
instance (D : Disk) : Decidable D.Ok := by unfold Disk.Ok; infer_instance
instance (p : Plc) : Decidable (okP p) := by unfold okP; infer_instance
theorem Disk.Ok2.of {D : Disk} (h : (∀ e ∈ D.sure, okP e.1) ∧ (∀ e ∈ D.waits, okP e.1) ∧ (D.sure.map (·.1)).Nodup) : D.Ok2 := ⟨h.1, h.2.1, h.2.2⟩
def E1 : Disk := writeD (Disk.new 3) 0 3 (fullB 1 0)
def E2 : Disk := writeD E1 0 1 (fullB 1 0)
def E3 : Disk := syncF E2 0
def E4 : Disk := writeD E3 0 1 (fullB 2 0)
def E5 : Disk := writeD E4 1 0 (fullB 3 0)
def S6 : List PS := crashS E5 [2]
theorem fullB_len (b : UInt8) : (fullB b 0).length ≤ 140737488355328 := by simp [fullB, fsz]

set_option maxRecDepth 100000 in
theorem alive_spec  : PSpec Go.Proofs.Try.prog 32 [] (.bool true) := by
 refine introP (n := 97) (rs := [.tmp 0]) (fn := Go.Proofs.Try.f32) (by rfl) rfl (by kernel_rfl) rfl rfl (Nat.le_of_ble_eq_true rfl) (fun Q0 hQ0 => ?_)
 refine WS.seq ?_
 refine A1 [] (by decide) ?_
 refine WS.seq ?_
 refine R0 fun K hK => ?_
 try simp (maxSteps := 4000000) (disch := omega) only [push_cast, Nat.reduceLT, Nat.reduceEqDiff, Nat.reduceAdd, Nat.reduceMul, Nat.reduceSub, Nat.reduceLeDiff, Hp.get_set]
 refine callS (new_spec 3) (fun v τ h => ?_)
 rw [newP, if_neg (by omega)] at h
 obtain ⟨d, rfl, hD⟩ := h
 try simp (maxSteps := 4000000) (disch := omega) only [push_cast, Nat.reduceLT, Nat.reduceEqDiff, Nat.reduceAdd, Nat.reduceMul, Nat.reduceSub, Nat.reduceLeDiff, Hp.get_set]
 refine Qk hK [1, 2] ?_
 clear hK K
 refine WS.seq (WS.seq ?_)
 refine R0 fun K hK => ?_
 try simp (maxSteps := 4000000) (disch := omega) only [push_cast, Nat.reduceLT, Nat.reduceEqDiff, Int.reduceToNat, Int.reduceLT, Int.reduceLE, Int.reduceAdd, Int.reduceSub, Int.reduceMul, Int.reduceNeg, Int.reduceEq, reduceCtorEq, Int.cast_ofNat_Int, Hp.get_set]
 all_goals try (first | refine guardT 16 rfl (fun hc => ?_) (fun hc => ?_) | refine guardF 16 rfl (fun hc => ?_) (fun hc => ?_)) <;> try simp only [push_cast] at hc
 all_goals try (exfalso; omega)
 all_goals try simp (maxSteps := 4000000) (disch := omega) only [push_cast, Nat.reduceLT, Nat.reduceEqDiff, Int.reduceToNat, Int.reduceLT, Int.reduceLE, Int.reduceAdd, Int.reduceSub, Int.reduceMul, Int.reduceNeg, Int.reduceEq, reduceCtorEq, Int.cast_ofNat_Int, Hp.get_set]
 all_goals
  refine Qk hK [1, 19] ?_
  clear hK K
  refine CI rfl (fun hc => ?_) (fun hc => ?_)
  ·
   all_goals try (cases hc; done)
   all_goals try simp only [push_cast] at hc
   all_goals try (exfalso; omega)
   all_goals
    refine WS.seq ?_
    refine A1 [0] (by decide) ?_
    refine Rt ?_
    refine hQ0 _ _ _ ?_
    try simp (maxSteps := 4000000) only [push_cast, Int.reduceToNat, Int.reduceLT, Int.reduceLE, Int.reduceAdd, Int.reduceSub, Int.reduceMul, Int.reduceNeg, Int.reduceEq, reduceCtorEq, Nat.reduceLeDiff, Nat.reduceLT, Nat.reduceEqDiff, Nat.reduceAdd, Nat.reduceMul, Nat.reduceSub, Int.cast_ofNat_Int]
    first | done | rfl | (simp; done) | (simp_all; done) | (simp_all; omega)
  all_goals try (cases hc; done)
  all_goals try simp only [push_cast] at hc
  all_goals try (exfalso; omega)
  all_goals
   refine Sk ?_
   refine WS.seq ?_
   refine R0 fun K hK => ?_
   try simp (maxSteps := 4000000) (disch := omega) only [push_cast, Nat.reduceLT, Nat.reduceEqDiff, Hp.get_set]
   refine callP (full_spec 1 0) rfl ?_
   try simp (maxSteps := 4000000) (disch := omega) only [push_cast, Nat.reduceLT, Nat.reduceEqDiff, Hp.get_set]
   refine callS (write_spec (D := Disk.new 3) 0 3 (fullB 1 0) (by decide +kernel) (fullB_len _) (by decide +kernel) hD) (fun v τ h => ?_)
   obtain ⟨rfl, hD⟩ := h
   change DiskAt E1 d τ at hD
   try simp (maxSteps := 4000000) (disch := omega) only [push_cast, Nat.reduceLT, Nat.reduceEqDiff, Hp.get_set]
   refine Qk hK [1, 3] ?_
   clear hK K
   refine WS.seq ?_
   refine R0 fun K hK => ?_
   try simp (maxSteps := 4000000) (disch := omega) only [push_cast, Nat.reduceLT, Nat.reduceEqDiff, Hp.get_set]
   refine callP (full_spec 1 0) rfl ?_
   try simp (maxSteps := 4000000) (disch := omega) only [push_cast, Nat.reduceLT, Nat.reduceEqDiff, Hp.get_set]
   refine callS (write_spec (D := E1) 0 1 (fullB 1 0) (by decide +kernel) (fullB_len _) (by decide +kernel) hD) (fun v τ h => ?_)
   obtain ⟨rfl, hD⟩ := h
   change DiskAt E2 d τ at hD
   try simp (maxSteps := 4000000) (disch := omega) only [push_cast, Nat.reduceLT, Nat.reduceEqDiff, Hp.get_set]
   refine Qk hK [1, 3, 4] ?_
   clear hK K
   refine WS.seq ?_
   refine R0 fun K hK => ?_
   try simp (maxSteps := 4000000) (disch := omega) only [push_cast, Nat.reduceLT, Nat.reduceEqDiff, Hp.get_set]
   refine callS (sync_spec (D := E2) 0 (by decide +kernel) hD) (fun v τ h => ?_)
   obtain ⟨rfl, hD⟩ := h
   change DiskAt E3 d τ at hD
   try simp (maxSteps := 4000000) (disch := omega) only [push_cast, Nat.reduceLT, Nat.reduceEqDiff, Hp.get_set]
   refine Qk hK [1, 3, 4] ?_
   clear hK K
   refine WS.seq ?_
   refine R0 fun K hK => ?_
   try simp (maxSteps := 4000000) (disch := omega) only [push_cast, Nat.reduceLT, Nat.reduceEqDiff, Hp.get_set]
   refine callP (full_spec 2 0) rfl ?_
   try simp (maxSteps := 4000000) (disch := omega) only [push_cast, Nat.reduceLT, Nat.reduceEqDiff, Hp.get_set]
   refine callS (write_spec (D := E3) 0 1 (fullB 2 0) (by decide +kernel) (fullB_len _) (by decide +kernel) hD) (fun v τ h => ?_)
   obtain ⟨rfl, hD⟩ := h
   change DiskAt E4 d τ at hD
   try simp (maxSteps := 4000000) (disch := omega) only [push_cast, Nat.reduceLT, Nat.reduceEqDiff, Hp.get_set]
   refine Qk hK [1, 3, 4] ?_
   clear hK K
   refine WS.seq ?_
   refine R0 fun K hK => ?_
   try simp (maxSteps := 4000000) (disch := omega) only [push_cast, Nat.reduceLT, Nat.reduceEqDiff, Hp.get_set]
   refine callP (full_spec 3 0) rfl ?_
   try simp (maxSteps := 4000000) (disch := omega) only [push_cast, Nat.reduceLT, Nat.reduceEqDiff, Hp.get_set]
   refine callS (write_spec (D := E4) 1 0 (fullB 3 0) (by decide +kernel) (fullB_len _) (by decide +kernel) hD) (fun v τ h => ?_)
   obtain ⟨rfl, hD⟩ := h
   change DiskAt E5 d τ at hD
   try simp (maxSteps := 4000000) (disch := omega) only [push_cast, Nat.reduceLT, Nat.reduceEqDiff, Hp.get_set]
   refine Qk hK [1, 3, 4] ?_
   clear hK K
   refine WS.seq ?_
   refine R0 fun K hK => ?_
   try simp (maxSteps := 4000000) (disch := omega) only [push_cast, Nat.reduceLT, Nat.reduceEqDiff, Nat.reduceAdd, Nat.reduceMul, Nat.reduceSub, Nat.reduceLeDiff, Int.reduceToNat, Int.reduceLT, Int.reduceLE, Int.reduceAdd, Int.reduceSub, Int.reduceMul, Int.reduceNeg, Int.reduceEq, reduceCtorEq, Int.cast_ofNat_Int, Hp.get_set]
   (repeat refine And.intro (by first | omega | (simp; done) | (simp_all; done) | (simp_all; omega)) ?_)
   refine callS (crash_spec (D := E5) [2] (by decide +kernel) (by decide) (Disk.Ok2.of (by decide +kernel)) hD) (fun v τ h => ?_)
   obtain ⟨rfl, sh, hp, hD⟩ := h
   change sh.Perm S6 at hp
   change DiskAt (crashD E5 S6 sh) d τ at hD
   have hn6 : (S6.map (·.1)).Nodup := by decide +kernel
   have hz0 : sizeL 0 sh = 2 := (sizeL_perm 0 hp).trans (by decide +kernel)
   have hz1 : sizeL 1 sh = 1 := (sizeL_perm 1 hp).trans (by decide +kernel)
   have hl0 : look (0, 1) sh = some (fullB 1 0) := (look_perm hp hn6).trans (by decide +kernel)
   have hl1 : look (1, 0) sh = some (fullB 3 0) := (look_perm hp hn6).trans (by decide +kernel)
   have hok6 : (crashD E5 S6 sh).Ok := ⟨(by decide +kernel : ∀ e ∈ S6, e.2.length = 128), fun e he => (by decide +kernel : ∀ e ∈ S6, e.2.length = 128) e (hp.mem_iff.1 he), by simp [crashD], by simp [crashD, hz0], by simp [crashD, hz0], by simp [crashD, hz1], by simp [crashD, hz1]⟩
   have hv0 : readV (crashD E5 S6 sh) 0 1 = row (fullB 1 0) := by simp [readV, readE, askV, dsize, crashD, hz0, readB, hl0]
   have he0 : readE (crashD E5 S6 sh) 0 1 = 0 := by simp [readE, askV, dsize, crashD, hz0]
   have hv1 : readV (crashD E5 S6 sh) 1 0 = row (fullB 3 0) := by simp [readV, readE, askV, dsize, crashD, hz1, readB, hl1]
   have he1 : readE (crashD E5 S6 sh) 1 0 = 0 := by simp [readE, askV, dsize, crashD, hz1]
   try simp (maxSteps := 4000000) (disch := omega) only [push_cast, Nat.reduceLT, Nat.reduceEqDiff, Nat.reduceAdd, Nat.reduceMul, Nat.reduceSub, Nat.reduceLeDiff, Int.reduceToNat, Int.reduceLT, Int.reduceLE, Int.reduceAdd, Int.reduceSub, Int.reduceMul, Int.reduceNeg, Int.reduceEq, reduceCtorEq, Int.cast_ofNat_Int, Hp.get_set, hv0, he0, hv1, he1, row]
   (repeat refine And.intro (by first | omega | (simp; done) | (simp_all; done) | (simp_all; omega)) ?_)
   refine Qk hK [1, 3, 4, 5] ?_
   clear hK K
   refine WS.seq ?_
   refine R0 fun K hK => ?_
   try simp (maxSteps := 4000000) (disch := omega) only [push_cast, Nat.reduceLT, Nat.reduceEqDiff, Nat.reduceAdd, Nat.reduceMul, Nat.reduceSub, Nat.reduceLeDiff, Hp.get_set, hv0, he0, hv1, he1, row]
   refine callS (read_spec (D := crashD E5 S6 sh) _ _ hok6 hD) (fun v τ h => ?_)
   obtain ⟨rfl, rfl⟩ := h
   try simp (maxSteps := 4000000) (disch := omega) only [push_cast, Nat.reduceLT, Nat.reduceEqDiff, Nat.reduceAdd, Nat.reduceMul, Nat.reduceSub, Nat.reduceLeDiff, Hp.get_set, hv0, he0, hv1, he1, row]
   refine Qk hK [1, 3, 4, 5, 6, 7] ?_
   clear hK K
   refine WS.seq ?_
   refine R0 fun K hK => ?_
   try simp (maxSteps := 4000000) (disch := omega) only [push_cast, Nat.reduceLT, Nat.reduceEqDiff, Nat.reduceAdd, Nat.reduceMul, Nat.reduceSub, Nat.reduceLeDiff, Hp.get_set, hv0, he0, hv1, he1, row]
   refine callS (read_spec (D := crashD E5 S6 sh) _ _ hok6 hD) (fun v τ h => ?_)
   obtain ⟨rfl, rfl⟩ := h
   try simp (maxSteps := 4000000) (disch := omega) only [push_cast, Nat.reduceLT, Nat.reduceEqDiff, Nat.reduceAdd, Nat.reduceMul, Nat.reduceSub, Nat.reduceLeDiff, Hp.get_set, hv0, he0, hv1, he1, row]
   refine Qk hK [1, 3, 4, 5, 6, 7, 8, 9] ?_
   clear hK K
   refine WS.seq ?_
   have w1 : writeE (Disk.new 3) 0 3 (fullB 1 0).length = 50 := by decide +kernel
   have w2 : writeE E1 0 1 (fullB 1 0).length = 0 := by decide +kernel
   have k1 : (((fullB 1 0).map u8).length : Int) = 128 := by decide +kernel
   have k2 : (((fullB 3 0).map u8).length : Int) = 128 := by decide +kernel
   have k3 : ((fullB 1 0).map u8).getD 0 .dead = .int .u8 1 := by simp [fullB, fsz, u8]
   have k4 : ((fullB 3 0).map u8).getD 0 .dead = .int .u8 3 := by simp [fullB, fsz, u8]
   have k5 : lenV (crashD E5 S6 sh) 0 = 2 := by simp [lenV, crashD, hz0]
   have k6 : (crashD E5 S6 sh).calls = 4 := by show E5.calls = 4; decide +kernel
   refine R0 fun K hK => ?_
   try simp (maxSteps := 4000000) (disch := omega) only [push_cast, Nat.reduceLT, Nat.reduceEqDiff, Nat.reduceAdd, Nat.reduceMul, Nat.reduceSub, Nat.reduceLeDiff, Int.reduceToNat, Int.reduceLT, Int.reduceLE, Int.reduceAdd, Int.reduceSub, Int.reduceMul, Int.reduceNeg, Int.reduceEq, reduceCtorEq, Int.cast_ofNat_Int, Hp.get_set, hv0, he0, hv1, he1, row, w1, w2, k1, k2, k3, k4, k5, k6]
   (repeat refine And.intro (by first | omega | (simp; done) | (simp_all; done) | (simp_all; omega)) ?_)
   all_goals try (first | refine guardT 49 rfl (fun hc => ?_) (fun hc => ?_) | refine guardF 49 rfl (fun hc => ?_) (fun hc => ?_)) <;> try simp only [push_cast] at hc
   all_goals try (exfalso; omega)
   all_goals try simp (maxSteps := 4000000) (disch := omega) only [push_cast, Nat.reduceLT, Nat.reduceEqDiff, Nat.reduceAdd, Nat.reduceMul, Nat.reduceSub, Nat.reduceLeDiff, Int.reduceToNat, Int.reduceLT, Int.reduceLE, Int.reduceAdd, Int.reduceSub, Int.reduceMul, Int.reduceNeg, Int.reduceEq, reduceCtorEq, Int.cast_ofNat_Int, Hp.get_set, hv0, he0, hv1, he1, row, w1, w2, k1, k2, k3, k4, k5, k6]
   all_goals (repeat refine And.intro (by first | omega | (simp; done) | (simp_all; done) | (simp_all; omega)) ?_)
   all_goals try (first | refine guardT 53 rfl (fun hc => ?_) (fun hc => ?_) | refine guardF 53 rfl (fun hc => ?_) (fun hc => ?_)) <;> try simp only [push_cast] at hc
   all_goals try (exfalso; omega)
   all_goals try simp (maxSteps := 4000000) (disch := omega) only [push_cast, Nat.reduceLT, Nat.reduceEqDiff, Nat.reduceAdd, Nat.reduceMul, Nat.reduceSub, Nat.reduceLeDiff, Int.reduceToNat, Int.reduceLT, Int.reduceLE, Int.reduceAdd, Int.reduceSub, Int.reduceMul, Int.reduceNeg, Int.reduceEq, reduceCtorEq, Int.cast_ofNat_Int, Hp.get_set, hv0, he0, hv1, he1, row, w1, w2, k1, k2, k3, k4, k5, k6]
   all_goals (repeat refine And.intro (by first | omega | (simp; done) | (simp_all; done) | (simp_all; omega)) ?_)
   all_goals try (first | refine guardT 57 rfl (fun hc => ?_) (fun hc => ?_) | refine guardF 57 rfl (fun hc => ?_) (fun hc => ?_)) <;> try simp only [push_cast] at hc
   all_goals try (exfalso; omega)
   all_goals try simp (maxSteps := 4000000) (disch := omega) only [push_cast, Nat.reduceLT, Nat.reduceEqDiff, Nat.reduceAdd, Nat.reduceMul, Nat.reduceSub, Nat.reduceLeDiff, Int.reduceToNat, Int.reduceLT, Int.reduceLE, Int.reduceAdd, Int.reduceSub, Int.reduceMul, Int.reduceNeg, Int.reduceEq, reduceCtorEq, Int.cast_ofNat_Int, Hp.get_set, hv0, he0, hv1, he1, row, w1, w2, k1, k2, k3, k4, k5, k6]
   all_goals (repeat refine And.intro (by first | omega | (simp; done) | (simp_all; done) | (simp_all; omega)) ?_)
   all_goals try (first | refine guardT 61 rfl (fun hc => ?_) (fun hc => ?_) | refine guardF 61 rfl (fun hc => ?_) (fun hc => ?_)) <;> try simp only [push_cast] at hc
   all_goals try (exfalso; omega)
   all_goals try simp (maxSteps := 4000000) (disch := omega) only [push_cast, Nat.reduceLT, Nat.reduceEqDiff, Nat.reduceAdd, Nat.reduceMul, Nat.reduceSub, Nat.reduceLeDiff, Int.reduceToNat, Int.reduceLT, Int.reduceLE, Int.reduceAdd, Int.reduceSub, Int.reduceMul, Int.reduceNeg, Int.reduceEq, reduceCtorEq, Int.cast_ofNat_Int, Hp.get_set, hv0, he0, hv1, he1, row, w1, w2, k1, k2, k3, k4, k5, k6]
   all_goals (repeat refine And.intro (by first | omega | (simp; done) | (simp_all; done) | (simp_all; omega)) ?_)
   all_goals try (first | refine guardT 66 rfl (fun hc => ?_) (fun hc => ?_) | refine guardF 66 rfl (fun hc => ?_) (fun hc => ?_)) <;> try simp only [push_cast] at hc
   all_goals try (exfalso; omega)
   all_goals try simp (maxSteps := 4000000) (disch := omega) only [push_cast, Nat.reduceLT, Nat.reduceEqDiff, Nat.reduceAdd, Nat.reduceMul, Nat.reduceSub, Nat.reduceLeDiff, Int.reduceToNat, Int.reduceLT, Int.reduceLE, Int.reduceAdd, Int.reduceSub, Int.reduceMul, Int.reduceNeg, Int.reduceEq, reduceCtorEq, Int.cast_ofNat_Int, Hp.get_set, hv0, he0, hv1, he1, row, w1, w2, k1, k2, k3, k4, k5, k6]
   all_goals (repeat refine And.intro (by first | omega | (simp; done) | (simp_all; done) | (simp_all; omega)) ?_)
   all_goals try (first | refine guardT 72 rfl (fun hc => ?_) (fun hc => ?_) | refine guardF 72 rfl (fun hc => ?_) (fun hc => ?_)) <;> try simp only [push_cast] at hc
   all_goals try (exfalso; omega)
   all_goals try simp (maxSteps := 4000000) (disch := omega) only [push_cast, Nat.reduceLT, Nat.reduceEqDiff, Nat.reduceAdd, Nat.reduceMul, Nat.reduceSub, Nat.reduceLeDiff, Int.reduceToNat, Int.reduceLT, Int.reduceLE, Int.reduceAdd, Int.reduceSub, Int.reduceMul, Int.reduceNeg, Int.reduceEq, reduceCtorEq, Int.cast_ofNat_Int, Hp.get_set, hv0, he0, hv1, he1, row, w1, w2, k1, k2, k3, k4, k5, k6]
   all_goals (repeat refine And.intro (by first | omega | (simp; done) | (simp_all; done) | (simp_all; omega)) ?_)
   all_goals try (first | refine guardT 76 rfl (fun hc => ?_) (fun hc => ?_) | refine guardF 76 rfl (fun hc => ?_) (fun hc => ?_)) <;> try simp only [push_cast] at hc
   all_goals try (exfalso; omega)
   all_goals try simp (maxSteps := 4000000) (disch := omega) only [push_cast, Nat.reduceLT, Nat.reduceEqDiff, Nat.reduceAdd, Nat.reduceMul, Nat.reduceSub, Nat.reduceLeDiff, Int.reduceToNat, Int.reduceLT, Int.reduceLE, Int.reduceAdd, Int.reduceSub, Int.reduceMul, Int.reduceNeg, Int.reduceEq, reduceCtorEq, Int.cast_ofNat_Int, Hp.get_set, hv0, he0, hv1, he1, row, w1, w2, k1, k2, k3, k4, k5, k6]
   all_goals (repeat refine And.intro (by first | omega | (simp; done) | (simp_all; done) | (simp_all; omega)) ?_)
   all_goals try (first | refine guardT 81 rfl (fun hc => ?_) (fun hc => ?_) | refine guardF 81 rfl (fun hc => ?_) (fun hc => ?_)) <;> try simp only [push_cast] at hc
   all_goals try (exfalso; omega)
   all_goals try simp (maxSteps := 4000000) (disch := omega) only [push_cast, Nat.reduceLT, Nat.reduceEqDiff, Nat.reduceAdd, Nat.reduceMul, Nat.reduceSub, Nat.reduceLeDiff, Int.reduceToNat, Int.reduceLT, Int.reduceLE, Int.reduceAdd, Int.reduceSub, Int.reduceMul, Int.reduceNeg, Int.reduceEq, reduceCtorEq, Int.cast_ofNat_Int, Hp.get_set, hv0, he0, hv1, he1, row, w1, w2, k1, k2, k3, k4, k5, k6]
   all_goals (repeat refine And.intro (by first | omega | (simp; done) | (simp_all; done) | (simp_all; omega)) ?_)
   all_goals try (first | refine guardT 87 rfl (fun hc => ?_) (fun hc => ?_) | refine guardF 87 rfl (fun hc => ?_) (fun hc => ?_)) <;> try simp only [push_cast] at hc
   all_goals try (exfalso; omega)
   all_goals try simp (maxSteps := 4000000) (disch := omega) only [push_cast, Nat.reduceLT, Nat.reduceEqDiff, Nat.reduceAdd, Nat.reduceMul, Nat.reduceSub, Nat.reduceLeDiff, Int.reduceToNat, Int.reduceLT, Int.reduceLE, Int.reduceAdd, Int.reduceSub, Int.reduceMul, Int.reduceNeg, Int.reduceEq, reduceCtorEq, Int.cast_ofNat_Int, Hp.get_set, hv0, he0, hv1, he1, row, w1, w2, k1, k2, k3, k4, k5, k6]
   all_goals (repeat refine And.intro (by first | omega | (simp; done) | (simp_all; done) | (simp_all; omega)) ?_)
   all_goals try (
     refine callR (len_R _ hD) rfl ?_)
   all_goals try simp (maxSteps := 4000000) (disch := omega) only [push_cast, Nat.reduceLT, Nat.reduceEqDiff, Nat.reduceAdd, Nat.reduceMul, Nat.reduceSub, Nat.reduceLeDiff, Int.reduceToNat, Int.reduceLT, Int.reduceLE, Int.reduceAdd, Int.reduceSub, Int.reduceMul, Int.reduceNeg, Int.reduceEq, reduceCtorEq, Int.cast_ofNat_Int, Hp.get_set, hv0, he0, hv1, he1, row, w1, w2, k1, k2, k3, k4, k5, k6]
   all_goals (repeat refine And.intro (by first | omega | (simp; done) | (simp_all; done) | (simp_all; omega)) ?_)
   all_goals try (first | refine guardT 92 rfl (fun hc => ?_) (fun hc => ?_) | refine guardF 92 rfl (fun hc => ?_) (fun hc => ?_)) <;> try simp only [push_cast] at hc
   all_goals try (exfalso; omega)
   all_goals try simp (maxSteps := 4000000) (disch := omega) only [push_cast, Nat.reduceLT, Nat.reduceEqDiff, Nat.reduceAdd, Nat.reduceMul, Nat.reduceSub, Nat.reduceLeDiff, Int.reduceToNat, Int.reduceLT, Int.reduceLE, Int.reduceAdd, Int.reduceSub, Int.reduceMul, Int.reduceNeg, Int.reduceEq, reduceCtorEq, Int.cast_ofNat_Int, Hp.get_set, hv0, he0, hv1, he1, row, w1, w2, k1, k2, k3, k4, k5, k6]
   all_goals (repeat refine And.intro (by first | omega | (simp; done) | (simp_all; done) | (simp_all; omega)) ?_)
   all_goals try (
     refine callR (calls_R hD) rfl ?_)
   all_goals try simp (maxSteps := 4000000) (disch := omega) only [push_cast, Nat.reduceLT, Nat.reduceEqDiff, Nat.reduceAdd, Nat.reduceMul, Nat.reduceSub, Nat.reduceLeDiff, Int.reduceToNat, Int.reduceLT, Int.reduceLE, Int.reduceAdd, Int.reduceSub, Int.reduceMul, Int.reduceNeg, Int.reduceEq, reduceCtorEq, Int.cast_ofNat_Int, Hp.get_set, hv0, he0, hv1, he1, row, w1, w2, k1, k2, k3, k4, k5, k6]
   all_goals (repeat refine And.intro (by first | omega | (simp; done) | (simp_all; done) | (simp_all; omega)) ?_)
   all_goals
    refine Qk hK [0] ?_
    clear hK K
    refine Rt ?_
    refine hQ0 _ _ _ ?_
    try simp (maxSteps := 4000000) only [push_cast, Int.reduceToNat, Int.reduceLT, Int.reduceLE, Int.reduceAdd, Int.reduceSub, Int.reduceMul, Int.reduceNeg, Int.reduceEq, reduceCtorEq, Nat.reduceLeDiff, Nat.reduceLT, Nat.reduceEqDiff, Nat.reduceAdd, Nat.reduceMul, Nat.reduceSub, Int.cast_ofNat_Int, hv0, he0, hv1, he1, row, w1, w2, k1, k2, k3, k4, k5, k6]
    first | done | rfl | (simp; done) | (simp_all; done) | (simp_all; omega)
end Go.Vm.Try
