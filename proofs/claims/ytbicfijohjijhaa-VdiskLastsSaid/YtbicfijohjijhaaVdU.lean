/- Walks of functions of the program, and laws of what they compute. -/
import Derived.Test.YtbicfijohjijhaaVdT
set_option linter.unusedSimpArgs false
set_option linter.unusedVariables false
set_option maxHeartbeats 4000000
namespace Go.Vm.Try
open Go.Proofs
theorem cells_newE {τ : Hp} {g g' x : Nat} {cs ds : List V} (h : g' ≠ x) : cellsAt (((τ.del g).set g' (.cells cs)).set x (.cells ds)) g' = cs := by
  unfold cellsAt; rw [Hp.get_set_ne _ _ h]; simp
theorem flat_one (cs : List V) : flat [.agg cs] = cs := by simp [flat, V.cells]
theorem RAt.app {X : RDisk} {x gl cap : Nat} {tl : List V} {σ : Hp} (h : RAt X x gl cap tl σ) (w : RW) {g' cap' : Nat} {tl' : List V} (hg : g' = gl ∨ σ.get g' = none) (hc : X.l.length + 1 ≤ cap') (ht : tl'.length = (cap' - (X.l.length + 1)) * 4)
    {cs ds : List V} (hcs : cs = flat (X.l.map encR) ++ [.int .i64 w.f, .int .i64 w.s, row w.b, .bool w.sure] ++ tl') (hds : ds = rcells { X with l := X.l ++ [w] } g' cap') : RDiskAt { X with l := X.l ++ [w] } x (((σ.del gl).set g' (.cells cs)).set x (.cells ds)) := by
  have hne : g' ≠ x := by
    rcases hg with rfl | hg
    · exact h.n1
    · rintro rfl; rw [h.hx] at hg; cases hg
  subst hcs; subst hds
  refine ⟨g', cap', tl', ⟨by simp, ?_, ?_, ?_, hne⟩⟩
  · rw [cells_newE hne, flat_snoc]
  · rw [flat_snoc]
    simp only [List.length_append, rows_len encR 4 encR_len, List.length_cons, List.length_nil, ht]
    omega
  · left; rw [Hp.get_set_ne _ _ hne]; simp [isCells]

theorem rwrite_spec {σ : Hp} {X : RDisk} {x : Nat} {tag : Tag} (file s : Int) (b : Sec) (hn : X.l.length ≤ 1000000) (hs : ∀ w ∈ X.l, 0 ≤ w.s ∧ w.s ≤ 65535) (h : RDiskAt X x σ) : Spec Go.Proofs.Try.prog 47 [.ptr x 0, .int .i64 file, .int .i64 s, .sl 1 (b.map u8) tag] (σ) (fun v σ' => v = .int .i64 (rwriteE X file s b.length) ∧ RDiskAt (rwriteD X file s b) x σ') := by
 refine introS (n := 73) (rs := [.tmp 8]) (fn := Go.Proofs.Try.f47) (by rfl) rfl (by kernel_rfl) rfl rfl (Nat.le_of_ble_eq_true rfl) (fun Q0 hQ0 => ?_)
 have h0 := h
 obtain ⟨gl, cap, tl, hX⟩ := h
 have hx := hX.hx
 have hle := hX.le
 obtain ⟨hb0, hb1⟩ := rLen_bound file X.l hs
 obtain ⟨hb2, hb3⟩ := rLen_bound (1 - file) X.l hs
 refine WS.seq ?_
 refine A1 [0, 1, 2, 3] (by decide) ?_
 refine WS.seq (WS.seq ?_)
 refine R0 fun K hK => ?_
 try simp (maxSteps := 4000000) (disch := omega) only [push_cast, Nat.reduceLT, Nat.reduceEqDiff, Int.reduceToNat, Int.reduceLT, Int.reduceLE, Int.reduceAdd, Int.reduceSub, Int.reduceMul, Int.reduceNeg, Int.reduceEq, reduceCtorEq, Int.cast_ofNat_Int, Hp.get_set, rcells, List.length_map, room, hx]
 all_goals try (first | refine guardT 13 rfl (fun hc => ?_) (fun hc => ?_) | refine guardF 13 rfl (fun hc => ?_) (fun hc => ?_)) <;> try simp only [push_cast] at hc
 all_goals try (exfalso; omega)
 all_goals try simp (maxSteps := 4000000) (disch := omega) only [push_cast, Nat.reduceLT, Nat.reduceEqDiff, Int.reduceToNat, Int.reduceLT, Int.reduceLE, Int.reduceAdd, Int.reduceSub, Int.reduceMul, Int.reduceNeg, Int.reduceEq, reduceCtorEq, Int.cast_ofNat_Int, Hp.get_set, rcells, List.length_map, room, hx]
 all_goals try (first | refine guardT 17 rfl (fun hc => ?_) (fun hc => ?_) | refine guardF 17 rfl (fun hc => ?_) (fun hc => ?_)) <;> try simp only [push_cast] at hc
 all_goals try (exfalso; omega)
 all_goals try simp (maxSteps := 4000000) (disch := omega) only [push_cast, Nat.reduceLT, Nat.reduceEqDiff, Int.reduceToNat, Int.reduceLT, Int.reduceLE, Int.reduceAdd, Int.reduceSub, Int.reduceMul, Int.reduceNeg, Int.reduceEq, reduceCtorEq, Int.cast_ofNat_Int, Hp.get_set, rcells, List.length_map, room, hx]
 all_goals try (first | refine guardT 21 rfl (fun hc => ?_) (fun hc => ?_) | refine guardF 21 rfl (fun hc => ?_) (fun hc => ?_)) <;> try simp only [push_cast] at hc
 all_goals try (exfalso; omega)
 all_goals try simp (maxSteps := 4000000) (disch := omega) only [push_cast, Nat.reduceLT, Nat.reduceEqDiff, Int.reduceToNat, Int.reduceLT, Int.reduceLE, Int.reduceAdd, Int.reduceSub, Int.reduceMul, Int.reduceNeg, Int.reduceEq, reduceCtorEq, Int.cast_ofNat_Int, Hp.get_set, rcells, List.length_map, room, hx]
 all_goals try (first | refine guardT 25 rfl (fun hc => ?_) (fun hc => ?_) | refine guardF 25 rfl (fun hc => ?_) (fun hc => ?_)) <;> try simp only [push_cast] at hc
 all_goals try (exfalso; omega)
 all_goals try simp (maxSteps := 4000000) (disch := omega) only [push_cast, Nat.reduceLT, Nat.reduceEqDiff, Int.reduceToNat, Int.reduceLT, Int.reduceLE, Int.reduceAdd, Int.reduceSub, Int.reduceMul, Int.reduceNeg, Int.reduceEq, reduceCtorEq, Int.cast_ofNat_Int, Hp.get_set, rcells, List.length_map, room, hx]
 all_goals
  refine Qk hK [0, 1, 2, 3, 29] ?_
  clear hK K
  refine CI rfl (fun hc => ?_) (fun hc => ?_)
  ·
   all_goals try (cases hc; done)
   all_goals try simp only [push_cast] at hc
   all_goals try (exfalso; omega)
   all_goals
    refine WS.seq ?_
    refine A1 [8] (by decide) ?_
    refine Rt ?_
    refine hQ0 _ _ _ ?_
    try simp (maxSteps := 4000000) only [push_cast, Int.reduceToNat, Int.reduceLT, Int.reduceLE, Int.reduceAdd, Int.reduceSub, Int.reduceMul, Int.reduceNeg, Int.reduceEq, reduceCtorEq, Nat.reduceLeDiff, Nat.reduceLT, Nat.reduceEqDiff, Nat.reduceAdd, Nat.reduceMul, Nat.reduceSub, Int.cast_ofNat_Int, rcells, List.length_map, room, hx]
    have hB : rWbad file s b.length := by unfold rWbad; omega
    exact ⟨_, HSub.refl _, by rw [rwriteE, if_pos hB], by rw [rwriteD, if_pos (.inl hB)]; exact h0⟩
  all_goals try (cases hc; done)
  all_goals try simp only [push_cast] at hc
  all_goals try (exfalso; omega)
  all_goals
   have hB : ¬ rWbad file s b.length := by unfold rWbad; omega
   have hbl : b.length = 128 := by omega
   refine Sk ?_
   refine WS.seq (WS.seq ?_)
   refine R0 fun K hK => ?_
   try simp (maxSteps := 4000000) (disch := omega) only [push_cast, Nat.reduceLT, Nat.reduceEqDiff, Nat.reduceAdd, Nat.reduceMul, Nat.reduceSub, Nat.reduceLeDiff, Hp.get_set, rcells, List.length_map, room, hx]
   (repeat refine And.intro (by first | omega | (simp; done) | (simp_all; done) | (simp_all; omega)) ?_)
   refine Qk hK [0, 1, 2, 3, 33] ?_
   clear hK K
   refine CI rfl (fun hc => ?_) (fun hc => ?_)
   ·
    all_goals try (cases hc; done)
    all_goals try simp only [push_cast] at hc
    all_goals try (exfalso; omega)
    all_goals
     refine WS.seq ?_
     refine A1 [8] (by decide) ?_
     refine Rt ?_
     refine hQ0 _ _ _ ?_
     try simp (maxSteps := 4000000) only [push_cast, Int.reduceToNat, Int.reduceLT, Int.reduceLE, Int.reduceAdd, Int.reduceSub, Int.reduceMul, Int.reduceNeg, Int.reduceEq, reduceCtorEq, Nat.reduceLeDiff, Nat.reduceLT, Nat.reduceEqDiff, Nat.reduceAdd, Nat.reduceMul, Nat.reduceSub, Int.cast_ofNat_Int, rcells, List.length_map, room, hx]
     exact ⟨_, HSub.refl _, by rw [rwriteE, if_neg hB, if_pos hc], by rw [rwriteD, if_pos (.inr (.inl hc))]; exact h0⟩
   all_goals try (cases hc; done)
   all_goals try simp only [push_cast] at hc
   all_goals try (exfalso; omega)
   all_goals
    have hdn : ¬ X.down = true := by simp [hc]
    refine Sk ?_
    refine WS.seq (WS.seq ?_)
    refine RD [] [1000041] fo (by kernel_rfl) fun K hK => ?_
    try simp (maxSteps := 4000000) (disch := omega) only [push_cast, Nat.reduceLT, Nat.reduceEqDiff, Nat.reduceAdd, Nat.reduceMul, Nat.reduceSub, Nat.reduceLeDiff, Int.reduceToNat, Int.reduceLT, Int.reduceLE, Int.reduceAdd, Int.reduceSub, Int.reduceMul, Int.reduceNeg, Int.reduceEq, reduceCtorEq, Int.cast_ofNat_Int, Hp.get_set, rcells, List.length_map, room, hx]
    (repeat refine And.intro (by first | omega | (simp; done) | (simp_all; done) | (simp_all; omega)) ?_)
    refine callR (rlen_R _ hn hs hX) rfl ?_
    try simp (maxSteps := 4000000) (disch := omega) only [push_cast, Nat.reduceLT, Nat.reduceEqDiff, Nat.reduceAdd, Nat.reduceMul, Nat.reduceSub, Nat.reduceLeDiff, Int.reduceToNat, Int.reduceLT, Int.reduceLE, Int.reduceAdd, Int.reduceSub, Int.reduceMul, Int.reduceNeg, Int.reduceEq, reduceCtorEq, Int.cast_ofNat_Int, Hp.get_set, rcells, List.length_map, room, hx]
    (repeat refine And.intro (by first | omega | (simp; done) | (simp_all; done) | (simp_all; omega)) ?_)
    all_goals try (first | refine guardT 39 rfl (fun hc => ?_) (fun hc => ?_) | refine guardF 39 rfl (fun hc => ?_) (fun hc => ?_)) <;> try simp only [push_cast] at hc
    all_goals try (exfalso; omega)
    all_goals try simp (maxSteps := 4000000) (disch := omega) only [push_cast, Nat.reduceLT, Nat.reduceEqDiff, Nat.reduceAdd, Nat.reduceMul, Nat.reduceSub, Nat.reduceLeDiff, Int.reduceToNat, Int.reduceLT, Int.reduceLE, Int.reduceAdd, Int.reduceSub, Int.reduceMul, Int.reduceNeg, Int.reduceEq, reduceCtorEq, Int.cast_ofNat_Int, Hp.get_set, rcells, List.length_map, room, hx]
    all_goals (repeat refine And.intro (by first | omega | (simp; done) | (simp_all; done) | (simp_all; omega)) ?_)
    all_goals try (
      refine callR (rlen_R _ hn hs hX) rfl ?_)
    all_goals try simp (maxSteps := 4000000) (disch := omega) only [push_cast, Nat.reduceLT, Nat.reduceEqDiff, Nat.reduceAdd, Nat.reduceMul, Nat.reduceSub, Nat.reduceLeDiff, Int.reduceToNat, Int.reduceLT, Int.reduceLE, Int.reduceAdd, Int.reduceSub, Int.reduceMul, Int.reduceNeg, Int.reduceEq, reduceCtorEq, Int.cast_ofNat_Int, Hp.get_set, rcells, List.length_map, room, hx]
    all_goals (repeat refine And.intro (by first | omega | (simp; done) | (simp_all; done) | (simp_all; omega)) ?_)
    all_goals
     refine Qk hK [0, 1, 2, 3, 52] ?_
     clear hK K
     refine CI rfl (fun hc => ?_) (fun hc => ?_)
     ·
      all_goals try (cases hc; done)
      all_goals try simp only [push_cast] at hc
      all_goals try (exfalso; omega)
      all_goals
       refine WS.seq ?_
       refine A1 [8] (by decide) ?_
       refine Rt ?_
       refine hQ0 _ _ _ ?_
       try simp (maxSteps := 4000000) only [push_cast, Int.reduceToNat, Int.reduceLT, Int.reduceLE, Int.reduceAdd, Int.reduceSub, Int.reduceMul, Int.reduceNeg, Int.reduceEq, reduceCtorEq, Nat.reduceLeDiff, Nat.reduceLT, Nat.reduceEqDiff, Nat.reduceAdd, Nat.reduceMul, Nat.reduceSub, Int.cast_ofNat_Int, rcells, List.length_map, room, hx]
       have hF : rfull X file s := by unfold rfull; omega
       exact ⟨_, HSub.refl _, by rw [rwriteE, if_neg hB, if_neg hdn, if_pos hF], by rw [rwriteD, if_pos (.inr (.inr hF))]; exact h0⟩
     all_goals try (cases hc; done)
     all_goals try simp only [push_cast] at hc
     all_goals try (exfalso; omega)
     all_goals
      have hF : ¬ rfull X file s := by unfold rfull; omega
      refine Sk ?_
      refine WS.seq ?_
      refine R0 fun K hK => ?_
      try simp (maxSteps := 4000000) (disch := omega) only [push_cast, Nat.reduceLT, Nat.reduceEqDiff, Hp.get_set, rcells, List.length_map, room, hx]
      refine callS (rchange_spec h0) (fun v τ h => ?_)
      obtain ⟨rfl, h⟩ := h
      try simp (maxSteps := 4000000) (disch := omega) only [push_cast, Nat.reduceLT, Nat.reduceEqDiff, Hp.get_set, rcells, List.length_map, room, hx]
      refine Qk hK [0, 1, 2, 3, 9] ?_
      clear hK K
      obtain ⟨gl, cap, tl, hX⟩ := h
      have hXl := rchangeD_l X
      have hx := hX.hx
      have hpre := rpre hX
      have hlc := rlenc hX
      have hcc := hX.hc
      have hn2 : (rchangeD X).l.length ≤ 1000000 := by rw [hXl]; exact hn
      refine WS.seq (WS.seq ?_)
      refine R0 fun K hK => ?_
      try simp (maxSteps := 4000000) (disch := omega) only [push_cast, Nat.reduceLT, Nat.reduceEqDiff, Int.reduceToNat, Int.reduceLT, Int.reduceLE, Int.reduceAdd, Int.reduceSub, Int.reduceMul, Int.reduceNeg, Int.reduceEq, reduceCtorEq, Int.cast_ofNat_Int, Hp.get_set, rcells, List.length_map, room, hx]
      refine Qk hK [0, 1, 2, 3, 9, 56] ?_
      clear hK K
      refine CI rfl (fun hc => ?_) (fun hc => ?_)
      ·
       all_goals try (cases hc; done)
       all_goals try simp only [push_cast] at hc
       all_goals try (exfalso; omega)
       all_goals
        refine WS.seq ?_
        refine A1 [0, 1, 2, 3, 9, 10] (by decide) ?_
        refine RD [66] [] fo (by kernel_rfl) fun K hK => ?_
        try simp (maxSteps := 4000000) (disch := omega) only [push_cast, Nat.reduceLT, Nat.reduceEqDiff, Nat.reduceAdd, Nat.reduceMul, Nat.reduceSub, Nat.reduceLeDiff, Int.reduceToNat, Int.reduceLT, Int.reduceLE, Int.reduceAdd, Int.reduceSub, Int.reduceMul, Int.reduceNeg, Int.reduceEq, reduceCtorEq, Int.cast_ofNat_Int, Hp.get_set, rcells, List.length_map, room, hx, hcc, hlc, hpre, true_or, and_true, flat_one]
        (repeat refine And.intro (by first | omega | (simp; done) | (simp_all; done) | (simp_all; omega)) ?_)
        try simp (maxSteps := 4000000) (disch := omega) only [push_cast, Nat.reduceLT, Nat.reduceEqDiff, Nat.reduceAdd, Nat.reduceMul, Nat.reduceSub, Nat.reduceLeDiff, Int.reduceToNat, Int.reduceLT, Int.reduceLE, Int.reduceAdd, Int.reduceSub, Int.reduceMul, Int.reduceNeg, Int.reduceEq, reduceCtorEq, Int.cast_ofNat_Int, Hp.get_set, rcells, List.length_map, room, hx, hcc, hlc, hpre, true_or, and_true, flat_one]
        (repeat refine And.intro (by first | omega | (simp; done) | (simp_all; done) | (simp_all; omega)) ?_)
        try simp (maxSteps := 4000000) (disch := omega) only [push_cast, Nat.reduceLT, Nat.reduceEqDiff, Nat.reduceAdd, Nat.reduceMul, Nat.reduceSub, Nat.reduceLeDiff, Int.reduceToNat, Int.reduceLT, Int.reduceLE, Int.reduceAdd, Int.reduceSub, Int.reduceMul, Int.reduceNeg, Int.reduceEq, reduceCtorEq, Int.cast_ofNat_Int, Hp.get_set, rcells, List.length_map, room, hx, hcc, hlc, hpre, true_or, and_true, flat_one]
        (repeat refine And.intro (by first | omega | (simp; done) | (simp_all; done) | (simp_all; omega)) ?_)
        try simp (maxSteps := 4000000) (disch := omega) only [push_cast, Nat.reduceLT, Nat.reduceEqDiff, Nat.reduceAdd, Nat.reduceMul, Nat.reduceSub, Nat.reduceLeDiff, Int.reduceToNat, Int.reduceLT, Int.reduceLE, Int.reduceAdd, Int.reduceSub, Int.reduceMul, Int.reduceNeg, Int.reduceEq, reduceCtorEq, Int.cast_ofNat_Int, Hp.get_set, rcells, List.length_map, room, hx, hcc, hlc, hpre, true_or, and_true, flat_one]
        (repeat refine And.intro (by first | omega | (simp; done) | (simp_all; done) | (simp_all; omega)) ?_)
        refine fun g2 cap2 tl2 hg2 hc2 ht2 => ?_
        have hgx : g2 ≠ x := by
          rcases hg2 with rfl | hg2
          · exact hX.n1
          · rintro rfl; rw [hx] at hg2; cases hg2
        have hgx2 := ne2 hgx
        have hglx := ne2 hX.n1
        try simp (maxSteps := 4000000) (disch := omega) only [push_cast, Nat.reduceLT, Nat.reduceEqDiff, Nat.reduceAdd, Nat.reduceMul, Nat.reduceSub, Nat.reduceLeDiff, Int.reduceToNat, Int.reduceLT, Int.reduceLE, Int.reduceAdd, Int.reduceSub, Int.reduceMul, Int.reduceNeg, Int.reduceEq, reduceCtorEq, Int.cast_ofNat_Int, Hp.get_set, rcells, List.length_map, room, hx, hgx2, hglx, Hp.get_del, Hp.set_set, hcc, hlc, hpre, true_or, and_true, flat_one]
        (repeat refine And.intro (by first | omega | (simp; done) | (simp_all; done) | (simp_all; omega)) ?_)
        try simp (maxSteps := 4000000) (disch := omega) only [push_cast, Nat.reduceLT, Nat.reduceEqDiff, Nat.reduceAdd, Nat.reduceMul, Nat.reduceSub, Nat.reduceLeDiff, Int.reduceToNat, Int.reduceLT, Int.reduceLE, Int.reduceAdd, Int.reduceSub, Int.reduceMul, Int.reduceNeg, Int.reduceEq, reduceCtorEq, Int.cast_ofNat_Int, Hp.get_set, rcells, List.length_map, room, hx, hgx2, hglx, Hp.get_del, Hp.set_set, hcc, hlc, hpre, true_or, and_true, flat_one]
        (repeat refine And.intro (by first | omega | (simp; done) | (simp_all; done) | (simp_all; omega)) ?_)
        refine Qk hK [9] ?_
        clear hK K
        refine WS.seq ?_
        refine R0 fun K hK => ?_
        try simp (maxSteps := 4000000) (disch := omega) only [push_cast, Nat.reduceLT, Nat.reduceEqDiff, Hp.get_set, rcells, List.length_map, room, hx, hgx2, hglx, Hp.get_del, Hp.set_set]
        refine Qk hK [8] ?_
        clear hK K
        refine Rt ?_
        refine hQ0 _ _ _ ?_
        try simp (maxSteps := 4000000) only [push_cast, Int.reduceToNat, Int.reduceLT, Int.reduceLE, Int.reduceAdd, Int.reduceSub, Int.reduceMul, Int.reduceNeg, Int.reduceEq, reduceCtorEq, Nat.reduceLeDiff, Nat.reduceLT, Nat.reduceEqDiff, Nat.reduceAdd, Nat.reduceMul, Nat.reduceSub, Int.cast_ofNat_Int, rcells, List.length_map, room, hx, hgx2, hglx, Hp.get_del, Hp.set_set]
        by_cases hr : rchangeV X = 0
        · first
          | exact absurd hr hc
          | (refine ⟨_, HSub.refl _, by rw [rwriteE, if_neg hB, if_neg hdn, if_neg hF, hr], ?_⟩
             rw [rwriteD, if_neg (by rintro (h | h | h) <;> first | exact hB h | exact hdn h | exact hF h), if_pos hr, rputD]
             exact hX.app ⟨file, s, b, false⟩ hg2 hc2 (by simpa using ht2) rfl (by simp [rcells]))
        · first
          | exact absurd hc hr
          | exact ⟨_, HSub.refl _, by rw [rwriteE, if_neg hB, if_neg hdn, if_neg hF], by rw [rwriteD, if_neg (by rintro (h | h | h) <;> first | exact hB h | exact hdn h | exact hF h), if_neg hr]; exact ⟨gl, cap, tl, hX⟩⟩
      ·
       all_goals try (cases hc; done)
       all_goals try simp only [push_cast] at hc
       all_goals try (exfalso; omega)
       all_goals
        refine Sk ?_
        refine WS.seq ?_
        refine R0 fun K hK => ?_
        try simp (maxSteps := 4000000) (disch := omega) only [push_cast, Nat.reduceLT, Nat.reduceEqDiff, Hp.get_set, rcells, List.length_map, room, hx]
        refine Qk hK [8] ?_
        clear hK K
        refine Rt ?_
        refine hQ0 _ _ _ ?_
        try simp (maxSteps := 4000000) only [push_cast, Int.reduceToNat, Int.reduceLT, Int.reduceLE, Int.reduceAdd, Int.reduceSub, Int.reduceMul, Int.reduceNeg, Int.reduceEq, reduceCtorEq, Nat.reduceLeDiff, Nat.reduceLT, Nat.reduceEqDiff, Nat.reduceAdd, Nat.reduceMul, Nat.reduceSub, Int.cast_ofNat_Int, rcells, List.length_map, room, hx]
        by_cases hr : rchangeV X = 0
        · first
          | exact absurd hr hc
          | (refine ⟨_, HSub.refl _, by rw [rwriteE, if_neg hB, if_neg hdn, if_neg hF, hr], ?_⟩
             rw [rwriteD, if_neg (by rintro (h | h | h) <;> first | exact hB h | exact hdn h | exact hF h), if_pos hr, rputD]
             exact hX.app ⟨file, s, b, false⟩ hg2 hc2 (by simpa using ht2) rfl (by simp [rcells]))
        · first
          | exact absurd hc hr
          | exact ⟨_, HSub.refl _, by rw [rwriteE, if_neg hB, if_neg hdn, if_neg hF], by rw [rwriteD, if_neg (by rintro (h | h | h) <;> first | exact hB h | exact hdn h | exact hF h), if_neg hr]; exact ⟨gl, cap, tl, hX⟩⟩
end Go.Vm.Try
