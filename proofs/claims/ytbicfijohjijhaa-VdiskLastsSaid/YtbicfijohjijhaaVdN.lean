/- Walks of functions of the program, and laws of what they compute. -/
import Derived.Test.YtbicfijohjijhaaVdTok
set_option linter.unusedSimpArgs false
set_option linter.unusedVariables false
set_option maxHeartbeats 4000000
namespace Go.Vm.Try
open Go.Proofs
theorem Ls.wl {D : Disk} {U : List UInt8} {W : List (List UInt8)} {i : Nat} (h : Ls D U W i) {f s : Nat} (hf : f < 2) (hs : s < 4) : (W.getD (f * 4 + s) []).length ≤ i := by
  have hg := congrArg List.length (h.g f s hf hs)
  rw [List.length_map] at hg
  have : (wtg (f, s) D.waits).length ≤ D.waits.length := by unfold wtg; rw [List.length_map]; exact List.length_filter_le _ _
  have := h.w
  omega
theorem Ls.rooms {D : Disk} {U : List UInt8} {W : List (List UInt8)} {i : Nat} (h : Ls D U W i) {f s : Nat} (hf : f < 2) (hs : s < 4) (hi : i ≤ 100) : Go.Vm.room (W.getD (f * 4 + s) []).length 1 1 := by
  have := h.wl hf hs
  unfold Go.Vm.room; omega
theorem Wt.ne {τ : Hp} {gb : Nat} {W : List (List UInt8)} {T : List Nat} (h : Wt τ gb W T) (j : Nat) (hj : j < 8) : (gb = T.getD j 0) = False := by
  refine eq_false fun e => ?_
  have := h.t j hj
  rw [← e, h.g] at this; cases this
def St8 (d ga gb i : Nat) (σ : Hp) : Prop := ∃ (σd τl : Hp) (D : Disk) (U : List UInt8) (W : List (List UInt8)) (T : List Nat), σ = σd.join τl ∧ DiskAt D d σd ∧ Disj σd τl ∧ τl.get ga = some (.cells (U.map u8)) ∧ Wt τl gb W T ∧ Ls D U W i
theorem S_any8 {n : Nat} {P : Program} {env : Env} {Q : Exit → Env → Hp → Prop} {cs : List Code} {d ga gb i : Nat} {σ : Hp} (h : St8 d ga gb i σ)
    (k : ∀ (σd τl : Hp) (D : Disk) (U : List UInt8) (W : List (List UInt8)) (T : List Nat), DiskAt D d σd → Disj σd τl → τl.get ga = some (.cells (U.map u8)) → Wt τl gb W T → Ls D U W i → WS n P cs Q env (σd.join τl)) : WS n P cs Q env σ := by
  obtain ⟨σd, τl, D, U, W, T, rfl, h1, h2, h3, h4, h5⟩ := h
  exact k σd τl D U W T h1 h2 h3 h4 h5
theorem Wt.nea {τ : Hp} {gb ga : Nat} {W : List (List UInt8)} {T : List Nat} (h : Wt τ gb W T) {l : List V} (ha : τ.get ga = some (.cells l)) (j : Nat) (hj : j < 8) : ga ≠ T.getD j 0 := fun e => by
  have := h.t j hj
  rw [← e, ha] at this; cases this
theorem S_nil {n : Nat} {P : Program} {env : Env} {Q : Exit → Env → Hp → Prop} {c : Code} {cs : List Code} {σ τ : Hp} {gb ga j : Nat} {la : List V} {W : List (List UInt8)} {T : List Nat} (hw : Wt τ gb W T) (hj : j < 8) (hd : Disj σ τ) (ha : τ.get ga = some (.cells la)) (hab : gb ≠ ga)
    (h : ∀ τ' T', Wt τ' gb (W.set j []) T' → Disj σ τ' → τ'.get ga = some (.cells la) → WS n P (c :: cs) Q env (σ.join τ')) : WS n P (c :: cs) Q env (σ.join (τ.set gb (.cells ((wrow W T).set j (.sl 0 [] .full))))) := by
  have hl := wrow_len hw.lw hw.lt
  refine S_tokJ (g := gb) (i := j) (sz := 0) (hd.upd hw.g) (Hp.get_set_same _ _ _) (by simp [hl, hj]) (fun t ht hd' => ?_)
  have hgt : gb ≠ t := fun e => by rw [← e, Hp.get_set_same] at ht; cases ht
  have ht2 : τ.get t = none := by rwa [Hp.get_set_ne _ _ (Ne.symm hgt)] at ht
  have hat : ga ≠ t := fun e => by rw [← e, ha] at ht2; cases ht2
  exact h _ _ (hw.nil hj ht2 (by rw [List.set_set])) hd' (by rw [Hp.get_set_ne _ _ (Ne.symm hab), Hp.get_set_ne _ _ hat, Hp.get_set_ne _ _ (Ne.symm hab)]; exact ha)
theorem syW_at {f : Nat} {W : List (List UInt8)} (k : Nat) (h : f * 4 + k < W.length) : (syW f k W).getD (f * 4 + k) [] = W.getD (f * 4 + k) [] := by
  rw [syW_get _ _ _ _ (by omega), if_neg (by omega)]
theorem last_get {l : List UInt8} (h : 0 < l.length) : l.getLast? = some (l.getD (l.length - 1) 0) := by
  rw [List.getLast?_eq_getElem?]
  have : l.length - 1 < l.length := by omega
  simp [this]
theorem syU_some {f k : Nat} {W : List (List UInt8)} {U : List UInt8} (h : 0 < (W.getD (f * 4 + k) []).length) : syU f W (k + 1) U = (syU f W k U).set (f * 4 + k) ((W.getD (f * 4 + k) []).getD ((W.getD (f * 4 + k) []).length - 1) 0) := by
  rw [syU, last_get h]
theorem full_at (c : UInt8) : (fullB c 0).getD 0 0 = c := rfl
theorem full_len' (b : UInt8) : (fullB b 0).length = 128 := full_len b
theorem u8_int_eq (a b : UInt8) : ((a.toNat : Int) = (b.toNat : Int)) ↔ a = b := by
  rw [Int.ofNat_inj]; exact UInt8.toNat_inj
theorem in_true {b c : UInt8} {l : List UInt8} {j : Nat} (hb : true = true ↔ c = b ∨ c ∈ l.take j) (hj : j < l.length) : j + 1 ≤ l.length ∧ (true = true ↔ c = b ∨ c ∈ l.take (j + 1)) := by
  refine ⟨hj, ?_⟩
  refine ⟨fun _ => ?_, fun _ => rfl⟩
  rcases hb.1 rfl with h | h
  · exact .inl h
  · exact .inr (by rw [List.take_succ_eq_append_getElem hj]; exact List.mem_append_left _ h)
theorem in_step {b c : UInt8} {l : List UInt8} {j : Nat} (hb : false = true ↔ c = b ∨ c ∈ l.take j) (hj : j < l.length) : j + 1 ≤ l.length ∧ (decide (((l.getD j 0).toNat : Int) = (c.toNat : Int)) = true ↔ c = b ∨ c ∈ l.take (j + 1)) := by
  refine ⟨hj, ?_⟩
  have h1 : ¬ (c = b ∨ c ∈ l.take j) := fun h => by have := hb.2 h; cases this
  have h2 : l.getD j 0 = l[j] := by simp [hj]
  rw [decide_eq_true_iff, u8_int_eq, List.take_succ_eq_append_getElem hj, h2]
  constructor
  · intro h; exact .inr (by simp [h])
  · rintro (h | h)
    · exact absurd (.inl h) h1
    · rw [List.mem_append] at h
      rcases h with h | h
      · exact absurd (.inr h) h1
      · simpa using (List.mem_singleton.1 h).symm
theorem syU_none {f k : Nat} {W : List (List UInt8)} {U : List UInt8} (h : ¬ 0 < (W.getD (f * 4 + k) []).length) : syU f W (k + 1) U = syU f W k U := by
  have : W.getD (f * 4 + k) [] = [] := List.eq_nil_of_length_eq_zero (by omega)
  rw [syU, this]; rfl

theorem lasts_spec (ops : List Op) (keep : List UInt8) (hl : ops.length ≤ 140737488351232) (hkl : keep.length ≤ 140737488355328) : PSpec Go.Proofs.Try.prog 8 [.sl 6 (ops.map opV) .no, .sl 1 (keep.map u8) .no] (.bool true) := by
 refine introP (n := 243) (rs := [.tmp 4]) (fn := Go.Proofs.Try.f8) (by rfl) rfl (by kernel_rfl) rfl rfl (Nat.le_of_ble_eq_true rfl) (fun Q0 hQ0 => ?_)
 refine WS.seq ?_
 refine A1 [0, 1] (by decide) ?_
 refine WS.seq ?_
 refine R0 fun K hK => ?_
 try simp (maxSteps := 4000000) (disch := omega) only [push_cast, Nat.reduceLT, Nat.reduceEqDiff, Nat.reduceAdd, Nat.reduceMul, Nat.reduceSub, Nat.reduceLeDiff, Hp.get_set, and1, and3, opc_get', List.length_map, Hp.join_set, Hp.get_join, Option.some_or, u8_set, getD_u8]
 refine callS (new_spec 20) (fun v τ h => ?_)
 rw [newP, if_neg (by omega)] at h
 obtain ⟨d, rfl, hD⟩ := h
 try simp (maxSteps := 4000000) (disch := omega) only [push_cast, Nat.reduceLT, Nat.reduceEqDiff, Nat.reduceAdd, Nat.reduceMul, Nat.reduceSub, Nat.reduceLeDiff, Hp.get_set, and1, and3, opc_get', List.length_map, Hp.join_set, Hp.get_join, Option.some_or, u8_set, getD_u8]
 refine Qk hK [0, 1, 5, 6] ?_
 clear hK K
 refine WS.seq (WS.seq ?_)
 refine R0 fun K hK => ?_
 try simp (maxSteps := 4000000) (disch := omega) only [push_cast, Nat.reduceLT, Nat.reduceEqDiff, Int.reduceToNat, Int.reduceLT, Int.reduceLE, Int.reduceAdd, Int.reduceSub, Int.reduceMul, Int.reduceNeg, Int.reduceEq, reduceCtorEq, Int.cast_ofNat_Int, Hp.get_set, and1, and3, opc_get', List.length_map, Hp.join_set, Hp.get_join, Option.some_or, u8_set, getD_u8]
 all_goals try (first | refine guardT 27 rfl (fun hc => ?_) (fun hc => ?_) | refine guardF 27 rfl (fun hc => ?_) (fun hc => ?_)) <;> try simp only [push_cast] at hc
 all_goals try (exfalso; omega)
 all_goals try simp (maxSteps := 4000000) (disch := omega) only [push_cast, Nat.reduceLT, Nat.reduceEqDiff, Int.reduceToNat, Int.reduceLT, Int.reduceLE, Int.reduceAdd, Int.reduceSub, Int.reduceMul, Int.reduceNeg, Int.reduceEq, reduceCtorEq, Int.cast_ofNat_Int, Hp.get_set, and1, and3, opc_get', List.length_map, Hp.join_set, Hp.get_join, Option.some_or, u8_set, getD_u8]
 all_goals try (first | refine guardT 31 rfl (fun hc => ?_) (fun hc => ?_) | refine guardF 31 rfl (fun hc => ?_) (fun hc => ?_)) <;> try simp only [push_cast] at hc
 all_goals try (exfalso; omega)
 all_goals try simp (maxSteps := 4000000) (disch := omega) only [push_cast, Nat.reduceLT, Nat.reduceEqDiff, Int.reduceToNat, Int.reduceLT, Int.reduceLE, Int.reduceAdd, Int.reduceSub, Int.reduceMul, Int.reduceNeg, Int.reduceEq, reduceCtorEq, Int.cast_ofNat_Int, Hp.get_set, and1, and3, opc_get', List.length_map, Hp.join_set, Hp.get_join, Option.some_or, u8_set, getD_u8]
 all_goals
  refine Qk hK [0, 1, 5, 6, 35] ?_
  clear hK K
  refine CI rfl (fun hc => ?_) (fun hc => ?_)
  ·
   all_goals try (cases hc; done)
   all_goals try simp only [push_cast] at hc
   all_goals try (exfalso; omega)
   all_goals
    refine WS.seq ?_
    refine R0 fun K hK => ?_
    try simp (maxSteps := 4000000) (disch := omega) only [push_cast, Nat.reduceLT, Nat.reduceEqDiff, Int.reduceToNat, Int.reduceLT, Int.reduceLE, Int.reduceAdd, Int.reduceSub, Int.reduceMul, Int.reduceNeg, Int.reduceEq, reduceCtorEq, Int.cast_ofNat_Int, Hp.get_set, and1, and3, opc_get', List.length_map, Hp.join_set, Hp.get_join, Option.some_or, u8_set, getD_u8]
    all_goals try (first | refine guardT 38 rfl (fun hc => ?_) (fun hc => ?_) | refine guardF 38 rfl (fun hc => ?_) (fun hc => ?_)) <;> try simp only [push_cast] at hc
    all_goals try (exfalso; omega)
    all_goals try simp (maxSteps := 4000000) (disch := omega) only [push_cast, Nat.reduceLT, Nat.reduceEqDiff, Int.reduceToNat, Int.reduceLT, Int.reduceLE, Int.reduceAdd, Int.reduceSub, Int.reduceMul, Int.reduceNeg, Int.reduceEq, reduceCtorEq, Int.cast_ofNat_Int, Hp.get_set, and1, and3, opc_get', List.length_map, Hp.join_set, Hp.get_join, Option.some_or, u8_set, getD_u8]
    all_goals try (
      refine callP alive_spec rfl ?_)
    all_goals try simp (maxSteps := 4000000) (disch := omega) only [push_cast, Nat.reduceLT, Nat.reduceEqDiff, Int.reduceToNat, Int.reduceLT, Int.reduceLE, Int.reduceAdd, Int.reduceSub, Int.reduceMul, Int.reduceNeg, Int.reduceEq, reduceCtorEq, Int.cast_ofNat_Int, Hp.get_set, and1, and3, opc_get', List.length_map, Hp.join_set, Hp.get_join, Option.some_or, u8_set, getD_u8]
    all_goals
     refine Qk hK [4] ?_
     clear hK K
     refine Rt ?_
     refine hQ0 _ _ _ ?_
     try simp (maxSteps := 4000000) only [push_cast, Int.reduceToNat, Int.reduceLT, Int.reduceLE, Int.reduceAdd, Int.reduceSub, Int.reduceMul, Int.reduceNeg, Int.reduceEq, reduceCtorEq, Nat.reduceLeDiff, Nat.reduceLT, Nat.reduceEqDiff, Nat.reduceAdd, Nat.reduceMul, Nat.reduceSub, Int.cast_ofNat_Int, and1, and3, opc_get', List.length_map, Hp.join_set, Hp.get_join, Option.some_or, u8_set, getD_u8]
     first | done | rfl | (simp; done) | (simp_all; done) | (simp_all; omega)
  all_goals try (cases hc; done)
  all_goals try simp only [push_cast] at hc
  all_goals try (exfalso; omega)
  all_goals
   refine Sk ?_
   refine WS.seq ?_
   refine R0 fun K hK => ?_
   try simp (maxSteps := 4000000) (disch := omega) only [push_cast, Nat.reduceLT, Nat.reduceEqDiff, Hp.get_set, and1, and3, opc_get', List.length_map, Hp.join_set, Hp.get_join, Option.some_or, u8_set, getD_u8]
   refine fun ga hga => ?_
   try simp only [Hp.set_none, Hp.join_none_iff] at hga
   try simp (maxSteps := 4000000) (disch := omega) only [push_cast, Nat.reduceLT, Nat.reduceEqDiff, Hp.get_set, and1, and3, opc_get', List.length_map, Hp.join_set, Hp.get_join, Option.some_or, u8_set, getD_u8, hga]
   refine Qk hK [0, 1, 5, 7] ?_
   clear hK K
   refine WS.seq ?_
   refine R0 fun K hK => ?_
   try simp (maxSteps := 4000000) (disch := omega) only [push_cast, Nat.reduceLT, Nat.reduceEqDiff, Hp.get_set, and1, and3, opc_get', List.length_map, Hp.join_set, Hp.get_join, Option.some_or, u8_set, getD_u8, hga]
   refine fun gb hgb => ?_
   try simp only [Hp.set_none, Hp.join_none_iff] at hgb
   try simp (maxSteps := 4000000) (disch := omega) only [push_cast, Nat.reduceLT, Nat.reduceEqDiff, Hp.get_set, and1, and3, opc_get', List.length_map, Hp.join_set, Hp.get_join, Option.some_or, u8_set, getD_u8, hga, hgb]
   refine Qk hK [0, 1, 5, 7, 8] ?_
   clear hK K
   have hab : gb ≠ ga := fun e => by have := hgb.2.1; rw [e] at this; simp at this
   have hj0 : Disj τ ((Hp.empty.set ga (.cells ((List.replicate 8 (0 : UInt8)).map u8))).set gb (.cells (List.replicate 8 (V.sl 0 [] .full)))) := (Disj.new hga).set hgb.2.2 _
   have hje : (τ.set ga (.cells ((List.replicate 8 (0 : UInt8)).map u8))).set gb (.cells (List.replicate 8 (V.sl 0 [] .full))) = τ.join ((Hp.empty.set ga (.cells ((List.replicate 8 (0 : UInt8)).map u8))).set gb (.cells (List.replicate 8 (V.sl 0 [] .full)))) := by rw [Hp.set_join τ, Hp.join_set]
   change WS _ _ _ _ _ ((τ.set ga (.cells ((List.replicate 8 (0 : UInt8)).map u8))).set gb (.cells (List.replicate 8 (V.sl 0 [] .full))))
   rw [hje]
   clear hje
   refine S_tokN (gb := gb) (ga := ga) (la := (List.replicate 8 (0 : UInt8)).map u8) 8 0 _ [] rfl ⟨by rw [Hp.get_set_same]; rfl, rfl, fun t h => (by cases h), List.nodup_nil⟩ hj0 hab (by rw [Hp.get_set_ne _ _ (Ne.symm hab), Hp.get_set_same]) (fun τl T hw hj0 la => ?_)
   refine WS.seq (WS.seq ?_)
   refine A1 [0, 1, 5, 7, 8, 9] (by decide) ?_
   refine Bk fun K0 hK0 => ?_
   refine WS_keep [0, 1, 5, 7, 8, 9] _ ?_
   refine Lp (fun m env σ' => ∃ (i : Nat) (σd τl : Hp) (D : Disk) (U : List UInt8) (W : List (List UInt8)) (T : List Nat), m = ops.length - i ∧ env = [(0, .sl 6 (ops.map opV) .no), (1, .sl 1 (keep.map u8) .no), (5, .ptr d 0), (7, .ptr ga 0), (8, .ptr gb 0), (9, .int .i64 i)] ∧ σ' = σd.join τl ∧ (i ≤ ops.length ∧ i ≤ 100 ∧ DiskAt D d σd ∧ Disj σd τl ∧ τl.get ga = some (.cells (U.map u8)) ∧ Wt τl gb W T ∧ Ls D U W i)) ?_ ?_
   · refine ⟨_, 0, τ, τl, Disk.new 20, List.replicate 8 0, List.replicate 8 [], T,  rfl, ?_, ?_, ?_⟩
     · (try simp (disch := omega) only [push_cast, Int.reduceToNat, Int.reduceLT, Int.reduceLE, Int.reduceAdd, Int.reduceSub, Int.reduceMul, Int.reduceNeg, Int.reduceEq, reduceCtorEq, Nat.reduceLeDiff, Nat.reduceLT, Nat.reduceEqDiff, Nat.reduceAdd, Nat.reduceMul, Nat.reduceSub, Int.cast_ofNat_Int, and1, and3, opc_get', List.length_map, Hp.join_set, Hp.get_join, Option.some_or, u8_set, getD_u8, hga, hgb]) <;> (first | done | rfl | (simp; done) | (simp; omega) | omega | (simp_all; done) | (simp_all; omega))
     · first | rfl | (try simp (disch := omega) only [push_cast, Int.reduceToNat, Int.reduceLT, Int.reduceLE, Int.reduceAdd, Int.reduceSub, Int.reduceMul, Int.reduceNeg, Int.reduceEq, reduceCtorEq, Nat.reduceLeDiff, Nat.reduceLT, Nat.reduceEqDiff, Nat.reduceAdd, Nat.reduceMul, Nat.reduceSub, Int.cast_ofNat_Int, and1, and3, opc_get', List.length_map, Hp.join_set, Hp.get_join, Option.some_or, u8_set, getD_u8, hga, hgb]) <;> (first | done | rfl | (simp; done) | (simp; omega) | omega | (simp_all; done) | (simp_all; omega))
     · exact ⟨by omega, by omega, hD, hj0, la, hw, Ls.new⟩
   intro m env σ' hJ M0 hM0
   obtain ⟨i, σd, τl, D, U, W, T, rfl, rfl, rfl, hi, hi1, hD, hj, la, hw, hS⟩ := hJ
   have lb := hw.g
   have hlw := hw.lw
   have hlt := hw.lt
   have hlu := hS.lu
   have hlr := wrow_len hlw hlt
   refine WS.seq (WS.seq ?_)
   refine R0 fun K hK => ?_
   try simp (maxSteps := 4000000) (disch := omega) only [push_cast, Nat.reduceLT, Nat.reduceEqDiff, Int.reduceToNat, Int.reduceLT, Int.reduceLE, Int.reduceAdd, Int.reduceSub, Int.reduceMul, Int.reduceNeg, Int.reduceEq, reduceCtorEq, Int.cast_ofNat_Int, Hp.get_set, and1, and3, opc_get', List.length_map, Hp.join_set, Hp.get_join, Option.some_or, u8_set, getD_u8, hga, hgb, la, lb, hlr]
   all_goals try (first | refine guardT 45 rfl (fun hc => ?_) (fun hc => ?_) | refine guardF 45 rfl (fun hc => ?_) (fun hc => ?_)) <;> try simp only [push_cast] at hc
   all_goals try (exfalso; omega)
   all_goals try simp (maxSteps := 4000000) (disch := omega) only [push_cast, Nat.reduceLT, Nat.reduceEqDiff, Int.reduceToNat, Int.reduceLT, Int.reduceLE, Int.reduceAdd, Int.reduceSub, Int.reduceMul, Int.reduceNeg, Int.reduceEq, reduceCtorEq, Int.cast_ofNat_Int, Hp.get_set, and1, and3, opc_get', List.length_map, Hp.join_set, Hp.get_join, Option.some_or, u8_set, getD_u8, hga, hgb, la, lb, hlr]
   all_goals
    refine Qk hK [0, 1, 5, 7, 8, 9, 48] ?_
    clear hK K
    refine CI rfl (fun hc => ?_) (fun hc => ?_)
    rotate_left
    ·
     all_goals try (cases hc; done)
     all_goals try simp only [push_cast] at hc
     all_goals try (exfalso; omega)
     all_goals
      refine Ex ?_
      simp only [push_cast, WS, Nat.reduceEqDiff]
      refine hK0 _ _ ?_
      clear hK0
      try clear K0
      refine WS_keep [1, 5, 7, 8] _ ?_
      refine WS.seq (WS.seq ?_)
      refine R0 fun K hK => ?_
      try simp (maxSteps := 4000000) (disch := omega) only [push_cast, Nat.reduceLT, Nat.reduceEqDiff, Int.reduceToNat, Int.reduceLT, Int.reduceLE, Int.reduceAdd, Int.reduceSub, Int.reduceMul, Int.reduceNeg, Int.reduceEq, reduceCtorEq, Int.cast_ofNat_Int, Hp.get_set, and1, and3, opc_get', List.length_map, Hp.join_set, Hp.get_join, Option.some_or, u8_set, getD_u8, hga, hgb, la, lb, hlr]
      refine callF (crash_spec (D := D) keep (by have := hS.w; omega) (by omega) hS.ok2 hD) hj (fun v σ2 h hj2 => ?_)
      obtain ⟨rfl, sh, hp, hD2⟩ := h
      have hA := hS.crash keep hp
      generalize crashD D (crashS D keep) sh = E at hA hD2
      try simp (maxSteps := 4000000) (disch := omega) only [push_cast, Nat.reduceLT, Nat.reduceEqDiff, Int.reduceToNat, Int.reduceLT, Int.reduceLE, Int.reduceAdd, Int.reduceSub, Int.reduceMul, Int.reduceNeg, Int.reduceEq, reduceCtorEq, Int.cast_ofNat_Int, Hp.get_set, and1, and3, opc_get', List.length_map, Hp.join_set, Hp.get_join, Option.some_or, u8_set, getD_u8, hga, hgb, la, lb, hlr]
      refine Qk hK [5, 7, 8, 144] ?_
      clear hK K
      refine CI rfl (fun hc => ?_) (fun hc => ?_)
      ·
       all_goals try (cases hc; done)
       all_goals try simp only [push_cast] at hc
       all_goals try (exfalso; omega)
       all_goals
        refine WS.seq ?_
        refine A1 [4] (by decide) ?_
        refine Rt ?_
        refine hQ0 _ _ _ ?_
        try simp (maxSteps := 4000000) only [push_cast, Int.reduceToNat, Int.reduceLT, Int.reduceLE, Int.reduceAdd, Int.reduceSub, Int.reduceMul, Int.reduceNeg, Int.reduceEq, reduceCtorEq, Nat.reduceLeDiff, Nat.reduceLT, Nat.reduceEqDiff, Nat.reduceAdd, Nat.reduceMul, Nat.reduceSub, Int.cast_ofNat_Int, and1, and3, opc_get', List.length_map, Hp.join_set, Hp.get_join, Option.some_or, u8_set, getD_u8, hga, hgb, la, lb, hlr]
        first | done | rfl | (simp; done) | (simp_all; done) | (simp_all; omega)
      all_goals try (cases hc; done)
      all_goals try simp only [push_cast] at hc
      all_goals try (exfalso; omega)
      all_goals
       refine Sk ?_
       refine WS.seq (WS.seq ?_)
       refine A1 [5, 7, 8, 14] (by decide) ?_
       refine Bk fun K5 hK5 => ?_
       refine WS_keep [5, 7, 8, 14] _ ?_
       refine Lp (fun m env σ' => ∃ (f : Nat), m = 2 - f ∧ env = [(5, .ptr d 0), (7, .ptr ga 0), (8, .ptr gb 0), (14, .int .i64 f)] ∧ σ' = σ2.join τl ∧ (f ≤ 2)) ?_ ?_
       · refine ⟨_, 0,  rfl, ?_, ?_, ?_⟩
         · (try simp (disch := omega) only [push_cast, Int.reduceToNat, Int.reduceLT, Int.reduceLE, Int.reduceAdd, Int.reduceSub, Int.reduceMul, Int.reduceNeg, Int.reduceEq, reduceCtorEq, Nat.reduceLeDiff, Nat.reduceLT, Nat.reduceEqDiff, Nat.reduceAdd, Nat.reduceMul, Nat.reduceSub, Int.cast_ofNat_Int, and1, and3, opc_get', List.length_map, Hp.join_set, Hp.get_join, Option.some_or, u8_set, getD_u8, hga, hgb, la, lb, hlr]) <;> (first | done | rfl | (simp; done) | (simp; omega) | omega | (simp_all; done) | (simp_all; omega))
         · first | rfl | (try simp (disch := omega) only [push_cast, Int.reduceToNat, Int.reduceLT, Int.reduceLE, Int.reduceAdd, Int.reduceSub, Int.reduceMul, Int.reduceNeg, Int.reduceEq, reduceCtorEq, Nat.reduceLeDiff, Nat.reduceLT, Nat.reduceEqDiff, Nat.reduceAdd, Nat.reduceMul, Nat.reduceSub, Int.cast_ofNat_Int, and1, and3, opc_get', List.length_map, Hp.join_set, Hp.get_join, Option.some_or, u8_set, getD_u8, hga, hgb, la, lb, hlr]) <;> (first | done | rfl | (simp; done) | (simp; omega) | omega | (simp_all; done) | (simp_all; omega))
         · first | omega | (simp; done) | (simp_all; done) | (simp_all; omega)
       intro m env σ' hJ M5 hM5
       obtain ⟨f, rfl, rfl, rfl, hf2⟩ := hJ
       refine WS.seq (WS.seq ?_)
       refine R0 fun K hK => ?_
       try simp (maxSteps := 4000000) (disch := omega) only [push_cast, Nat.reduceLT, Nat.reduceEqDiff, Int.reduceToNat, Int.reduceLT, Int.reduceLE, Int.reduceAdd, Int.reduceSub, Int.reduceMul, Int.reduceNeg, Int.reduceEq, reduceCtorEq, Int.cast_ofNat_Int, Hp.get_set, and1, and3, opc_get', List.length_map, Hp.join_set, Hp.get_join, Option.some_or, u8_set, getD_u8, hga, hgb, la, lb, hlr]
       refine Qk hK [5, 7, 8, 14, 146] ?_
       clear hK K
       refine CI rfl (fun hc => ?_) (fun hc => ?_)
       rotate_left
       ·
        all_goals try (cases hc; done)
        all_goals try simp only [push_cast] at hc
        all_goals try (exfalso; omega)
        all_goals
         have hw0 := hA.w
         refine Ex ?_
         simp only [push_cast, WS, Nat.reduceEqDiff]
         refine hK5 _ _ ?_
         clear hK5
         try clear K5
         refine WS_keep [5] _ ?_
         refine WS.seq ?_
         refine R0 fun K hK => ?_
         try simp (maxSteps := 4000000) (disch := omega) only [push_cast, Nat.reduceLT, Nat.reduceEqDiff, Int.reduceToNat, Int.reduceLT, Int.reduceLE, Int.reduceAdd, Int.reduceSub, Int.reduceMul, Int.reduceNeg, Int.reduceEq, reduceCtorEq, Int.cast_ofNat_Int, Hp.get_set, and1, and3, opc_get', List.length_map, Hp.join_set, Hp.get_join, Option.some_or, u8_set, getD_u8, hga, hgb, la, lb, hlr, hw0]
         refine callP alive_spec rfl ?_
         try simp (maxSteps := 4000000) (disch := omega) only [push_cast, Nat.reduceLT, Nat.reduceEqDiff, Int.reduceToNat, Int.reduceLT, Int.reduceLE, Int.reduceAdd, Int.reduceSub, Int.reduceMul, Int.reduceNeg, Int.reduceEq, reduceCtorEq, Int.cast_ofNat_Int, Hp.get_set, and1, and3, opc_get', List.length_map, Hp.join_set, Hp.get_join, Option.some_or, u8_set, getD_u8, hga, hgb, la, lb, hlr, hw0]
         all_goals try (first | refine guardT 238 rfl (fun hc => ?_) (fun hc => ?_) | refine guardF 238 rfl (fun hc => ?_) (fun hc => ?_)) <;> try simp only [push_cast] at hc
         all_goals try (exfalso; omega)
         all_goals try simp (maxSteps := 4000000) (disch := omega) only [push_cast, Nat.reduceLT, Nat.reduceEqDiff, Int.reduceToNat, Int.reduceLT, Int.reduceLE, Int.reduceAdd, Int.reduceSub, Int.reduceMul, Int.reduceNeg, Int.reduceEq, reduceCtorEq, Int.cast_ofNat_Int, Hp.get_set, and1, and3, opc_get', List.length_map, Hp.join_set, Hp.get_join, Option.some_or, u8_set, getD_u8, hga, hgb, la, lb, hlr, hw0]
         all_goals try (
           refine callR ((waits_R hD2).sub (HSub.join_left hj2)) rfl ?_)
         all_goals try simp (maxSteps := 4000000) (disch := omega) only [push_cast, Nat.reduceLT, Nat.reduceEqDiff, Int.reduceToNat, Int.reduceLT, Int.reduceLE, Int.reduceAdd, Int.reduceSub, Int.reduceMul, Int.reduceNeg, Int.reduceEq, reduceCtorEq, Int.cast_ofNat_Int, Hp.get_set, and1, and3, opc_get', List.length_map, Hp.join_set, Hp.get_join, Option.some_or, u8_set, getD_u8, hga, hgb, la, lb, hlr, hw0]
         all_goals
          refine Qk hK [4] ?_
          clear hK K
          refine Rt ?_
          refine hQ0 _ _ _ ?_
          try simp (maxSteps := 4000000) only [push_cast, Int.reduceToNat, Int.reduceLT, Int.reduceLE, Int.reduceAdd, Int.reduceSub, Int.reduceMul, Int.reduceNeg, Int.reduceEq, reduceCtorEq, Nat.reduceLeDiff, Nat.reduceLT, Nat.reduceEqDiff, Nat.reduceAdd, Nat.reduceMul, Nat.reduceSub, Int.cast_ofNat_Int, and1, and3, opc_get', List.length_map, Hp.join_set, Hp.get_join, Option.some_or, u8_set, getD_u8, hga, hgb, la, lb, hlr]
          first | done | rfl | (simp; done) | (simp_all; done) | (simp_all; omega)
       all_goals try (cases hc; done)
       all_goals try simp only [push_cast] at hc
       all_goals try (exfalso; omega)
       all_goals
        have hf : f < 2 := by omega
        have hz := hA.z f hf
        refine Sk ?_
        refine WS.seq ?_
        refine Bk fun K6 hK6 => ?_
        refine WS.seq (WS.seq ?_)
        refine A1 [5, 7, 8, 14, 15] (by decide) ?_
        refine Bk fun K7 hK7 => ?_
        refine WS_keep [5, 7, 8, 14, 15] _ ?_
        refine Lp (fun m env σ' => ∃ (k : Nat), m = 5 - k ∧ env = [(5, .ptr d 0), (7, .ptr ga 0), (8, .ptr gb 0), (14, .int .i64 f), (15, .int .i64 k)] ∧ σ' = σ2.join τl ∧ ((k : Int) ≤ lenV E f)) ?_ ?_
        · refine ⟨_, 0,  rfl, ?_, ?_, ?_⟩
          · (try simp (disch := omega) only [push_cast, Int.reduceToNat, Int.reduceLT, Int.reduceLE, Int.reduceAdd, Int.reduceSub, Int.reduceMul, Int.reduceNeg, Int.reduceEq, reduceCtorEq, Nat.reduceLeDiff, Nat.reduceLT, Nat.reduceEqDiff, Nat.reduceAdd, Nat.reduceMul, Nat.reduceSub, Int.cast_ofNat_Int, and1, and3, opc_get', List.length_map, Hp.join_set, Hp.get_join, Option.some_or, u8_set, getD_u8, hga, hgb, la, lb, hlr]) <;> (first | done | rfl | (simp; done) | (simp; omega) | omega | (simp_all; done) | (simp_all; omega))
          · first | rfl | (try simp (disch := omega) only [push_cast, Int.reduceToNat, Int.reduceLT, Int.reduceLE, Int.reduceAdd, Int.reduceSub, Int.reduceMul, Int.reduceNeg, Int.reduceEq, reduceCtorEq, Nat.reduceLeDiff, Nat.reduceLT, Nat.reduceEqDiff, Nat.reduceAdd, Nat.reduceMul, Nat.reduceSub, Int.cast_ofNat_Int, and1, and3, opc_get', List.length_map, Hp.join_set, Hp.get_join, Option.some_or, u8_set, getD_u8, hga, hgb, la, lb, hlr]) <;> (first | done | rfl | (simp; done) | (simp; omega) | omega | (simp_all; done) | (simp_all; omega))
          · first | omega | (simp; done) | (simp_all; done) | (simp_all; omega)
        intro m env σ' hJ M7 hM7
        obtain ⟨k, rfl, rfl, rfl, hk⟩ := hJ
        refine WS.seq (WS.seq ?_)
        refine R0 fun K hK => ?_
        try simp (maxSteps := 4000000) (disch := omega) only [push_cast, Nat.reduceLT, Nat.reduceEqDiff, Int.reduceToNat, Int.reduceLT, Int.reduceLE, Int.reduceAdd, Int.reduceSub, Int.reduceMul, Int.reduceNeg, Int.reduceEq, reduceCtorEq, Int.cast_ofNat_Int, Hp.get_set, and1, and3, opc_get', List.length_map, Hp.join_set, Hp.get_join, Option.some_or, u8_set, getD_u8, hga, hgb, la, lb, hlr]
        refine callR ((len_R _ hD2).sub (HSub.join_left hj2)) rfl ?_
        try simp (maxSteps := 4000000) (disch := omega) only [push_cast, Nat.reduceLT, Nat.reduceEqDiff, Int.reduceToNat, Int.reduceLT, Int.reduceLE, Int.reduceAdd, Int.reduceSub, Int.reduceMul, Int.reduceNeg, Int.reduceEq, reduceCtorEq, Int.cast_ofNat_Int, Hp.get_set, and1, and3, opc_get', List.length_map, Hp.join_set, Hp.get_join, Option.some_or, u8_set, getD_u8, hga, hgb, la, lb, hlr]
        refine Qk hK [5, 7, 8, 14, 15, 153] ?_
        clear hK K
        refine CI rfl (fun hc => ?_) (fun hc => ?_)
        rotate_left
        ·
         all_goals try (cases hc; done)
         all_goals try simp only [push_cast] at hc
         all_goals try (exfalso; omega)
         all_goals
          obtain ⟨n, hn⟩ := Int.eq_ofNat_of_zero_le hz.1
          refine Ex ?_
          simp only [push_cast, WS, Nat.reduceEqDiff]
          refine hK7 _ _ ?_
          clear hK7
          try clear K7
          refine WS_keep [5, 7, 8, 14] _ ?_
          refine WS.seq ?_
          refine R0 fun K hK => ?_
          try simp (maxSteps := 4000000) (disch := omega) only [push_cast, Nat.reduceLT, Nat.reduceEqDiff, Hp.get_set, and1, and3, opc_get', List.length_map, Hp.join_set, Hp.get_join, Option.some_or, u8_set, getD_u8, hga, hgb, la, lb, hlr, hn]
          refine callR ((len_R _ hD2).sub (HSub.join_left hj2)) rfl ?_
          try simp (maxSteps := 4000000) (disch := omega) only [push_cast, Nat.reduceLT, Nat.reduceEqDiff, Hp.get_set, and1, and3, opc_get', List.length_map, Hp.join_set, Hp.get_join, Option.some_or, u8_set, getD_u8, hga, hgb, la, lb, hlr, hn]
          refine Qk hK [5, 7, 8, 14, 20] ?_
          clear hK K
          refine Bk fun K11 hK11 => ?_
          refine WS_keep [5, 7, 8, 14, 20] _ ?_
          refine Lp (fun m env σ' => ∃ (k : Nat), m = 5 - k ∧ env = [(5, .ptr d 0), (7, .ptr ga 0), (8, .ptr gb 0), (14, .int .i64 f), (20, .int .i64 k)] ∧ σ' = σ2.join τl ∧ (n ≤ k ∧ k ≤ 4)) ?_ ?_
          · refine ⟨_, n,  rfl, ?_, ?_, ?_⟩
            · (try simp (disch := omega) only [push_cast, Int.reduceToNat, Int.reduceLT, Int.reduceLE, Int.reduceAdd, Int.reduceSub, Int.reduceMul, Int.reduceNeg, Int.reduceEq, reduceCtorEq, Nat.reduceLeDiff, Nat.reduceLT, Nat.reduceEqDiff, Nat.reduceAdd, Nat.reduceMul, Nat.reduceSub, Int.cast_ofNat_Int, and1, and3, opc_get', List.length_map, Hp.join_set, Hp.get_join, Option.some_or, u8_set, getD_u8, hga, hgb, la, lb, hlr, hn]) <;> (first | done | rfl | (simp; done) | (simp; omega) | omega | (simp_all; done) | (simp_all; omega))
            · first | rfl | (try simp (disch := omega) only [push_cast, Int.reduceToNat, Int.reduceLT, Int.reduceLE, Int.reduceAdd, Int.reduceSub, Int.reduceMul, Int.reduceNeg, Int.reduceEq, reduceCtorEq, Nat.reduceLeDiff, Nat.reduceLT, Nat.reduceEqDiff, Nat.reduceAdd, Nat.reduceMul, Nat.reduceSub, Int.cast_ofNat_Int, and1, and3, opc_get', List.length_map, Hp.join_set, Hp.get_join, Option.some_or, u8_set, getD_u8, hga, hgb, la, lb, hlr, hn]) <;> (first | done | rfl | (simp; done) | (simp; omega) | omega | (simp_all; done) | (simp_all; omega))
            · first | omega | (simp; done) | (simp_all; done) | (simp_all; omega)
          intro m env σ' hJ M11 hM11
          obtain ⟨k, rfl, rfl, rfl, hk1, hk2⟩ := hJ
          refine WS.seq (WS.seq ?_)
          refine R0 fun K hK => ?_
          try simp (maxSteps := 4000000) (disch := omega) only [push_cast, Nat.reduceLT, Nat.reduceEqDiff, Int.reduceToNat, Int.reduceLT, Int.reduceLE, Int.reduceAdd, Int.reduceSub, Int.reduceMul, Int.reduceNeg, Int.reduceEq, reduceCtorEq, Int.cast_ofNat_Int, Hp.get_set, and1, and3, opc_get', List.length_map, Hp.join_set, Hp.get_join, Option.some_or, u8_set, getD_u8, hga, hgb, la, lb, hlr, hn]
          refine Qk hK [5, 7, 8, 14, 20, 224] ?_
          clear hK K
          refine CI rfl (fun hc => ?_) (fun hc => ?_)
          rotate_left
          ·
           all_goals try (cases hc; done)
           all_goals try simp only [push_cast] at hc
           all_goals try (exfalso; omega)
           all_goals
            refine Ex ?_
            simp only [push_cast, WS, Nat.reduceEqDiff]
            refine hK11 _ _ ?_
            clear hK11
            try clear K11
            simp only [push_cast, WS, Nat.reduceEqDiff]
            refine hK6 _ _ ?_
            clear hK6
            try clear K6
            refine WS_keep [5, 7, 8, 14] _ ?_
            refine R0 fun K hK => ?_
            try simp (maxSteps := 4000000) (disch := omega) only [push_cast, Nat.reduceLT, Nat.reduceEqDiff, Int.reduceToNat, Int.reduceLT, Int.reduceLE, Int.reduceAdd, Int.reduceSub, Int.reduceMul, Int.reduceNeg, Int.reduceEq, reduceCtorEq, Int.cast_ofNat_Int, Hp.get_set, and1, and3, opc_get', List.length_map, Hp.join_set, Hp.get_join, Option.some_or, u8_set, getD_u8, hga, hgb, la, lb, hlr, hn]
            (repeat refine And.intro (by first | omega | (simp; done) | (simp_all; done) | (simp_all; omega)) ?_)
            refine Qk hK [5, 7, 8, 14] ?_
            clear hK K
            refine Ag (hM5 _ _ ?_)
            refine ⟨_, ?_, f + 1,  rfl, ?_, ?_, ?_⟩
            · first | omega | (simp; done) | (simp_all; done) | (simp_all; omega)
            · (try simp (disch := omega) only [push_cast, Int.reduceToNat, Int.reduceLT, Int.reduceLE, Int.reduceAdd, Int.reduceSub, Int.reduceMul, Int.reduceNeg, Int.reduceEq, reduceCtorEq, Nat.reduceLeDiff, Nat.reduceLT, Nat.reduceEqDiff, Nat.reduceAdd, Nat.reduceMul, Nat.reduceSub, Int.cast_ofNat_Int, and1, and3, opc_get', List.length_map, Hp.join_set, Hp.get_join, Option.some_or, u8_set, getD_u8, hga, hgb, la, lb, hlr, hn]) <;> (first | done | rfl | (simp; done) | (simp; omega) | omega | (simp_all; done) | (simp_all; omega))
            · first | rfl | (try simp (disch := omega) only [push_cast, Int.reduceToNat, Int.reduceLT, Int.reduceLE, Int.reduceAdd, Int.reduceSub, Int.reduceMul, Int.reduceNeg, Int.reduceEq, reduceCtorEq, Nat.reduceLeDiff, Nat.reduceLT, Nat.reduceEqDiff, Nat.reduceAdd, Nat.reduceMul, Nat.reduceSub, Int.cast_ofNat_Int, and1, and3, opc_get', List.length_map, Hp.join_set, Hp.get_join, Option.some_or, u8_set, getD_u8, hga, hgb, la, lb, hlr, hn]) <;> (first | done | rfl | (simp; done) | (simp; omega) | omega | (simp_all; done) | (simp_all; omega))
            · first | omega | (simp; done) | (simp_all; done) | (simp_all; omega)
          all_goals try (cases hc; done)
          all_goals try simp only [push_cast] at hc
          all_goals try (exfalso; omega)
          all_goals
           have hn1 : ((U.getD (f * 4 + k) 0).toNat : Int) = 0 := by rw [hA.n f k hf (by omega) (by omega)]; rfl
           have hk0 : ((0 : Int) ≤ (k : Int)) = True := eq_true (by omega)
           refine Sk ?_
           refine WS.seq ?_
           refine Bk fun K12 hK12 => ?_
           refine WS.seq ?_
           refine R0 fun K hK => ?_
           try simp (maxSteps := 4000000) (disch := omega) only [push_cast, Nat.reduceLT, Nat.reduceEqDiff, Nat.reduceAdd, Nat.reduceMul, Nat.reduceSub, Nat.reduceLeDiff, Int.reduceToNat, Int.reduceLT, Int.reduceLE, Int.reduceAdd, Int.reduceSub, Int.reduceMul, Int.reduceNeg, Int.reduceEq, reduceCtorEq, Int.cast_ofNat_Int, Hp.get_set, and1, and3, opc_get', List.length_map, Hp.join_set, Hp.get_join, Option.some_or, u8_set, getD_u8, hga, hgb, la, lb, hlr, hn, hn1, hk0]
           (repeat refine And.intro (by first | omega | (simp; done) | (simp_all; done) | (simp_all; omega)) ?_)
           all_goals try (first | refine guardT 229 rfl (fun hc => ?_) (fun hc => ?_) | refine guardF 229 rfl (fun hc => ?_) (fun hc => ?_)) <;> try simp only [push_cast] at hc
           all_goals try (exfalso; omega)
           all_goals try simp (maxSteps := 4000000) (disch := omega) only [push_cast, Nat.reduceLT, Nat.reduceEqDiff, Nat.reduceAdd, Nat.reduceMul, Nat.reduceSub, Nat.reduceLeDiff, Int.reduceToNat, Int.reduceLT, Int.reduceLE, Int.reduceAdd, Int.reduceSub, Int.reduceMul, Int.reduceNeg, Int.reduceEq, reduceCtorEq, Int.cast_ofNat_Int, Hp.get_set, and1, and3, opc_get', List.length_map, Hp.join_set, Hp.get_join, Option.some_or, u8_set, getD_u8, hga, hgb, la, lb, hlr, hn, hn1, hk0]
           all_goals (repeat refine And.intro (by first | omega | (simp; done) | (simp_all; done) | (simp_all; omega)) ?_)
           all_goals
            refine Qk hK [5, 7, 8, 14, 20, 236] ?_
            clear hK K
            refine CI rfl (fun hc => ?_) (fun hc => ?_)
            ·
             all_goals try (cases hc; done)
             all_goals try simp only [push_cast] at hc
             all_goals try (exfalso; omega)
             all_goals
              refine WS.seq ?_
              refine A1 [4] (by decide) ?_
              refine Rt ?_
              simp only [push_cast]
              refine hQ0 _ _ _ ?_
              try simp (maxSteps := 4000000) only [push_cast, Int.reduceToNat, Int.reduceLT, Int.reduceLE, Int.reduceAdd, Int.reduceSub, Int.reduceMul, Int.reduceNeg, Int.reduceEq, reduceCtorEq, Nat.reduceLeDiff, Nat.reduceLT, Nat.reduceEqDiff, Nat.reduceAdd, Nat.reduceMul, Nat.reduceSub, Int.cast_ofNat_Int, and1, and3, opc_get', List.length_map, Hp.join_set, Hp.get_join, Option.some_or, u8_set, getD_u8, hga, hgb, la, lb, hlr, hn, hn1, hk0]
              first | done | rfl | (simp; done) | (simp_all; done) | (simp_all; omega)
            all_goals try (cases hc; done)
            all_goals try simp only [push_cast] at hc
            all_goals try (exfalso; omega)
            all_goals
             refine Sk ?_
             simp only [push_cast, WS, Nat.reduceEqDiff]
             refine hK12 _ _ ?_
             clear hK12
             try clear K12
             refine WS_keep [5, 7, 8, 14, 20] _ ?_
             refine R0 fun K hK => ?_
             try simp (maxSteps := 4000000) (disch := omega) only [push_cast, Nat.reduceLT, Nat.reduceEqDiff, Int.reduceToNat, Int.reduceLT, Int.reduceLE, Int.reduceAdd, Int.reduceSub, Int.reduceMul, Int.reduceNeg, Int.reduceEq, reduceCtorEq, Int.cast_ofNat_Int, Hp.get_set, and1, and3, opc_get', List.length_map, Hp.join_set, Hp.get_join, Option.some_or, u8_set, getD_u8, hga, hgb, la, lb, hlr, hn, hn1, hk0]
             (repeat refine And.intro (by first | omega | (simp; done) | (simp_all; done) | (simp_all; omega)) ?_)
             refine Qk hK [5, 7, 8, 14, 20] ?_
             clear hK K
             refine Ag (hM11 _ _ ?_)
             refine ⟨_, ?_, k + 1,  rfl, ?_, ?_, ?_⟩
             · first | omega | (simp; done) | (simp_all; done) | (simp_all; omega)
             · (try simp (disch := omega) only [push_cast, Int.reduceToNat, Int.reduceLT, Int.reduceLE, Int.reduceAdd, Int.reduceSub, Int.reduceMul, Int.reduceNeg, Int.reduceEq, reduceCtorEq, Nat.reduceLeDiff, Nat.reduceLT, Nat.reduceEqDiff, Nat.reduceAdd, Nat.reduceMul, Nat.reduceSub, Int.cast_ofNat_Int, and1, and3, opc_get', List.length_map, Hp.join_set, Hp.get_join, Option.some_or, u8_set, getD_u8, hga, hgb, la, lb, hlr, hn, hn1, hk0]) <;> (first | done | rfl | (simp; done) | (simp; omega) | omega | (simp_all; done) | (simp_all; omega))
             · first | rfl | (try simp (disch := omega) only [push_cast, Int.reduceToNat, Int.reduceLT, Int.reduceLE, Int.reduceAdd, Int.reduceSub, Int.reduceMul, Int.reduceNeg, Int.reduceEq, reduceCtorEq, Nat.reduceLeDiff, Nat.reduceLT, Nat.reduceEqDiff, Nat.reduceAdd, Nat.reduceMul, Nat.reduceSub, Int.cast_ofNat_Int, and1, and3, opc_get', List.length_map, Hp.join_set, Hp.get_join, Option.some_or, u8_set, getD_u8, hga, hgb, la, lb, hlr, hn, hn1, hk0]) <;> (first | done | rfl | (simp; done) | (simp; omega) | omega | (simp_all; done) | (simp_all; omega))
             · first | omega | (simp; done) | (simp_all; done) | (simp_all; omega)
        all_goals try (cases hc; done)
        all_goals try simp only [push_cast] at hc
        all_goals try (exfalso; omega)
        all_goals
         obtain ⟨hE, c, hc1, hc2⟩ := hA.r f k hf (by omega)
         have hk4 : k < 4 := by omega
         have hfa : ((fullB c 0).map u8).getD 0 .dead = .int .u8 c.toNat := rfl
         have hfl : (fullB c 0).length = 128 := rfl
         refine Sk ?_
         refine WS.seq ?_
         refine Bk fun K8 hK8 => ?_
         refine WS.seq ?_
         refine R0 fun K hK => ?_
         try simp (maxSteps := 4000000) (disch := omega) only [push_cast, Nat.reduceLT, Nat.reduceEqDiff, Nat.reduceAdd, Nat.reduceMul, Nat.reduceSub, Nat.reduceLeDiff, Hp.get_set, and1, and3, opc_get', List.length_map, Hp.join_set, Hp.get_join, Option.some_or, u8_set, getD_u8, hga, hgb, la, lb, hlr, hE, hc1, hfa, row]
         refine callS (read_spec (D := E) _ _ hA.ok (hD2.mono (HSub.join_left hj2))) (fun v τ2 h => ?_)
         obtain ⟨rfl, rfl⟩ := h
         try simp (maxSteps := 4000000) (disch := omega) only [push_cast, Nat.reduceLT, Nat.reduceEqDiff, Nat.reduceAdd, Nat.reduceMul, Nat.reduceSub, Nat.reduceLeDiff, Hp.get_set, and1, and3, opc_get', List.length_map, Hp.join_set, Hp.get_join, Option.some_or, u8_set, getD_u8, hga, hgb, la, lb, hlr, hE, hc1, hfa, row]
         refine Qk hK [5, 7, 8, 14, 15, 16, 17] ?_
         clear hK K
         refine WS.seq (WS.seq ?_)
         refine RD [] [28] fo (by kernel_rfl) fun K hK => ?_
         try simp (maxSteps := 4000000) (disch := omega) only [push_cast, Nat.reduceLT, Nat.reduceEqDiff, Nat.reduceAdd, Nat.reduceMul, Nat.reduceSub, Nat.reduceLeDiff, Int.reduceToNat, Int.reduceLT, Int.reduceLE, Int.reduceAdd, Int.reduceSub, Int.reduceMul, Int.reduceNeg, Int.reduceEq, reduceCtorEq, Int.cast_ofNat_Int, Hp.get_set, and1, and3, opc_get', List.length_map, Hp.join_set, Hp.get_join, Option.some_or, u8_set, getD_u8, hga, hgb, la, lb, hlr, hE, hc1, hfa, row, full_len, full_at, all_u8]
         (repeat refine And.intro (by first | omega | (simp; done) | (simp_all; done) | (simp_all; omega)) ?_)
         try simp (maxSteps := 4000000) (disch := omega) only [push_cast, Nat.reduceLT, Nat.reduceEqDiff, Nat.reduceAdd, Nat.reduceMul, Nat.reduceSub, Nat.reduceLeDiff, Int.reduceToNat, Int.reduceLT, Int.reduceLE, Int.reduceAdd, Int.reduceSub, Int.reduceMul, Int.reduceNeg, Int.reduceEq, reduceCtorEq, Int.cast_ofNat_Int, Hp.get_set, and1, and3, opc_get', List.length_map, Hp.join_set, Hp.get_join, Option.some_or, u8_set, getD_u8, hga, hgb, la, lb, hlr, hE, hc1, hfa, row, full_len, full_at, all_u8]
         (repeat refine And.intro (by first | omega | (simp; done) | (simp_all; done) | (simp_all; omega)) ?_)
         all_goals try (first | refine guardT 165 rfl (fun hc => ?_) (fun hc => ?_) | refine guardF 165 rfl (fun hc => ?_) (fun hc => ?_)) <;> try simp only [push_cast] at hc
         all_goals try (exfalso; omega)
         all_goals try simp (maxSteps := 4000000) (disch := omega) only [push_cast, Nat.reduceLT, Nat.reduceEqDiff, Nat.reduceAdd, Nat.reduceMul, Nat.reduceSub, Nat.reduceLeDiff, Int.reduceToNat, Int.reduceLT, Int.reduceLE, Int.reduceAdd, Int.reduceSub, Int.reduceMul, Int.reduceNeg, Int.reduceEq, reduceCtorEq, Int.cast_ofNat_Int, Hp.get_set, and1, and3, opc_get', List.length_map, Hp.join_set, Hp.get_join, Option.some_or, u8_set, getD_u8, hga, hgb, la, lb, hlr, hE, hc1, hfa, row, full_len, full_at, all_u8]
         all_goals (repeat refine And.intro (by first | omega | (simp; done) | (simp_all; done) | (simp_all; omega)) ?_)
         all_goals try simp (maxSteps := 4000000) (disch := omega) only [push_cast, Nat.reduceLT, Nat.reduceEqDiff, Nat.reduceAdd, Nat.reduceMul, Nat.reduceSub, Nat.reduceLeDiff, Int.reduceToNat, Int.reduceLT, Int.reduceLE, Int.reduceAdd, Int.reduceSub, Int.reduceMul, Int.reduceNeg, Int.reduceEq, reduceCtorEq, Int.cast_ofNat_Int, Hp.get_set, and1, and3, opc_get', List.length_map, Hp.join_set, Hp.get_join, Option.some_or, u8_set, getD_u8, hga, hgb, la, lb, hlr, hE, hc1, hfa, row, full_len, full_at, all_u8]
         all_goals (repeat refine And.intro (by first | omega | (simp; done) | (simp_all; done) | (simp_all; omega)) ?_)
         all_goals try (first | refine guardT 170 rfl (fun hc => ?_) (fun hc => ?_) | refine guardF 170 rfl (fun hc => ?_) (fun hc => ?_)) <;> try simp only [push_cast] at hc
         all_goals try (exfalso; omega)
         all_goals try simp (maxSteps := 4000000) (disch := omega) only [push_cast, Nat.reduceLT, Nat.reduceEqDiff, Nat.reduceAdd, Nat.reduceMul, Nat.reduceSub, Nat.reduceLeDiff, Int.reduceToNat, Int.reduceLT, Int.reduceLE, Int.reduceAdd, Int.reduceSub, Int.reduceMul, Int.reduceNeg, Int.reduceEq, reduceCtorEq, Int.cast_ofNat_Int, Hp.get_set, and1, and3, opc_get', List.length_map, Hp.join_set, Hp.get_join, Option.some_or, u8_set, getD_u8, hga, hgb, la, lb, hlr, hE, hc1, hfa, row, full_len, full_at, all_u8]
         all_goals (repeat refine And.intro (by first | omega | (simp; done) | (simp_all; done) | (simp_all; omega)) ?_)
         all_goals try simp (maxSteps := 4000000) (disch := omega) only [push_cast, Nat.reduceLT, Nat.reduceEqDiff, Nat.reduceAdd, Nat.reduceMul, Nat.reduceSub, Nat.reduceLeDiff, Int.reduceToNat, Int.reduceLT, Int.reduceLE, Int.reduceAdd, Int.reduceSub, Int.reduceMul, Int.reduceNeg, Int.reduceEq, reduceCtorEq, Int.cast_ofNat_Int, Hp.get_set, and1, and3, opc_get', List.length_map, Hp.join_set, Hp.get_join, Option.some_or, u8_set, getD_u8, hga, hgb, la, lb, hlr, hE, hc1, hfa, row, full_len, full_at, all_u8]
         all_goals (repeat refine And.intro (by first | omega | (simp; done) | (simp_all; done) | (simp_all; omega)) ?_)
         all_goals try (
           refine callP (full_spec _ 0) rfl ?_)
         all_goals try simp (maxSteps := 4000000) (disch := omega) only [push_cast, Nat.reduceLT, Nat.reduceEqDiff, Nat.reduceAdd, Nat.reduceMul, Nat.reduceSub, Nat.reduceLeDiff, Int.reduceToNat, Int.reduceLT, Int.reduceLE, Int.reduceAdd, Int.reduceSub, Int.reduceMul, Int.reduceNeg, Int.reduceEq, reduceCtorEq, Int.cast_ofNat_Int, Hp.get_set, and1, and3, opc_get', List.length_map, Hp.join_set, Hp.get_join, Option.some_or, u8_set, getD_u8, hga, hgb, la, lb, hlr, hE, hc1, hfa, row, full_len, full_at, all_u8]
         all_goals (repeat refine And.intro (by first | omega | (simp; done) | (simp_all; done) | (simp_all; omega)) ?_)
         all_goals try simp (maxSteps := 4000000) (disch := omega) only [push_cast, Nat.reduceLT, Nat.reduceEqDiff, Nat.reduceAdd, Nat.reduceMul, Nat.reduceSub, Nat.reduceLeDiff, Int.reduceToNat, Int.reduceLT, Int.reduceLE, Int.reduceAdd, Int.reduceSub, Int.reduceMul, Int.reduceNeg, Int.reduceEq, reduceCtorEq, Int.cast_ofNat_Int, Hp.get_set, and1, and3, opc_get', List.length_map, Hp.join_set, Hp.get_join, Option.some_or, u8_set, getD_u8, hga, hgb, la, lb, hlr, hE, hc1, hfa, row, full_len, full_at, all_u8]
         all_goals (repeat refine And.intro (by first | omega | (simp; done) | (simp_all; done) | (simp_all; omega)) ?_)
         all_goals try (first | refine guardT 180 rfl (fun hc => ?_) (fun hc => ?_) | refine guardF 180 rfl (fun hc => ?_) (fun hc => ?_)) <;> try simp only [push_cast] at hc
         all_goals try (exfalso; omega)
         all_goals try simp (maxSteps := 4000000) (disch := omega) only [push_cast, Nat.reduceLT, Nat.reduceEqDiff, Nat.reduceAdd, Nat.reduceMul, Nat.reduceSub, Nat.reduceLeDiff, Int.reduceToNat, Int.reduceLT, Int.reduceLE, Int.reduceAdd, Int.reduceSub, Int.reduceMul, Int.reduceNeg, Int.reduceEq, reduceCtorEq, Int.cast_ofNat_Int, Hp.get_set, and1, and3, opc_get', List.length_map, Hp.join_set, Hp.get_join, Option.some_or, u8_set, getD_u8, hga, hgb, la, lb, hlr, hE, hc1, hfa, row, full_len, full_at, all_u8]
         all_goals (repeat refine And.intro (by first | omega | (simp; done) | (simp_all; done) | (simp_all; omega)) ?_)
         all_goals try simp (maxSteps := 4000000) (disch := omega) only [push_cast, Nat.reduceLT, Nat.reduceEqDiff, Nat.reduceAdd, Nat.reduceMul, Nat.reduceSub, Nat.reduceLeDiff, Int.reduceToNat, Int.reduceLT, Int.reduceLE, Int.reduceAdd, Int.reduceSub, Int.reduceMul, Int.reduceNeg, Int.reduceEq, reduceCtorEq, Int.cast_ofNat_Int, Hp.get_set, and1, and3, opc_get', List.length_map, Hp.join_set, Hp.get_join, Option.some_or, u8_set, getD_u8, hga, hgb, la, lb, hlr, hE, hc1, hfa, row, full_len, full_at, all_u8]
         all_goals (repeat refine And.intro (by first | omega | (simp; done) | (simp_all; done) | (simp_all; omega)) ?_)
         all_goals
          refine Qk hK [5, 7, 8, 14, 15, 16, 183] ?_
          clear hK K
          refine CI rfl (fun hc => ?_) (fun hc => ?_)
          ·
           all_goals try (cases hc; done)
           all_goals try simp only [push_cast] at hc
           all_goals try (exfalso; omega)
           all_goals
            refine WS.seq ?_
            refine A1 [4] (by decide) ?_
            refine Rt ?_
            simp only [push_cast]
            refine hQ0 _ _ _ ?_
            try simp (maxSteps := 4000000) only [push_cast, Int.reduceToNat, Int.reduceLT, Int.reduceLE, Int.reduceAdd, Int.reduceSub, Int.reduceMul, Int.reduceNeg, Int.reduceEq, reduceCtorEq, Nat.reduceLeDiff, Nat.reduceLT, Nat.reduceEqDiff, Nat.reduceAdd, Nat.reduceMul, Nat.reduceSub, Int.cast_ofNat_Int, and1, and3, opc_get', List.length_map, Hp.join_set, Hp.get_join, Option.some_or, u8_set, getD_u8, hga, hgb, la, lb, hlr, hE, hc1, hfa]
            first | done | rfl | (simp; done) | (simp_all; done) | (simp_all; omega)
          all_goals try (cases hc; done)
          all_goals try simp only [push_cast] at hc
          all_goals try (exfalso; omega)
          all_goals
           refine Sk ?_
           refine WS.seq ?_
           refine RD [] [] fo (by kernel_rfl) fun K hK => ?_
           try simp (maxSteps := 4000000) (disch := omega) only [push_cast, Nat.reduceLT, Nat.reduceEqDiff, Nat.reduceAdd, Nat.reduceMul, Nat.reduceSub, Nat.reduceLeDiff, Int.reduceToNat, Int.reduceLT, Int.reduceLE, Int.reduceAdd, Int.reduceSub, Int.reduceMul, Int.reduceNeg, Int.reduceEq, reduceCtorEq, Int.cast_ofNat_Int, Hp.get_set, and1, and3, opc_get', List.length_map, Hp.join_set, Hp.get_join, Option.some_or, u8_set, getD_u8, hga, hgb, la, lb, hlr, hE, hc1, hfa, row, full_len, full_at]
           (repeat refine And.intro (by first | omega | (simp; done) | (simp_all; done) | (simp_all; omega)) ?_)
           refine Qk hK [5, 7, 8, 14, 15, 16, 18] ?_
           clear hK K
           have hUl := hA.lu
           have hwl := hS.wl hf (s := k) (by omega)
           have hwk := wrow_get hlw hlt (f * 4 + k) (by omega)
           refine WS.seq (WS.seq ?_)
           refine A1 [5, 7, 8, 14, 15, 16, 18, 19] (by decide) ?_
           refine Bk fun K9 hK9 => ?_
           refine WS_keep [5, 7, 8, 14, 15, 16, 18, 19] _ ?_
           refine Lp (fun m env σ' => ∃ (j : Nat) (b : Bool), m = (W.getD (f * 4 + k) []).length - j ∧ env = [(5, .ptr d 0), (7, .ptr ga 0), (8, .ptr gb 0), (14, .int .i64 f), (15, .int .i64 k), (16, .sl 1 ((fullB c 0).map u8) .no), (18, .bool b), (19, .int .i64 j)] ∧ σ' = σ2.join τl ∧ (j ≤ (W.getD (f * 4 + k) []).length ∧ (b = true ↔ c = U.getD (f * 4 + k) 0 ∨ c ∈ (W.getD (f * 4 + k) []).take j))) ?_ ?_
           · refine ⟨_, 0, decide ((c.toNat : Int) = ((U.getD (f * 4 + k) 0).toNat : Int)),  rfl, ?_, ?_, ?_⟩
             · (try simp (disch := omega) only [push_cast, Int.reduceToNat, Int.reduceLT, Int.reduceLE, Int.reduceAdd, Int.reduceSub, Int.reduceMul, Int.reduceNeg, Int.reduceEq, reduceCtorEq, Nat.reduceLeDiff, Nat.reduceLT, Nat.reduceEqDiff, Nat.reduceAdd, Nat.reduceMul, Nat.reduceSub, Int.cast_ofNat_Int, and1, and3, opc_get', List.length_map, Hp.join_set, Hp.get_join, Option.some_or, u8_set, getD_u8, hga, hgb, la, lb, hlr, hE, hc1, hfa, hwk]) <;> (first | done | rfl | (simp; done) | (simp; omega) | omega | (simp_all; done) | (simp_all; omega))
             · first | rfl | (try simp (disch := omega) only [push_cast, Int.reduceToNat, Int.reduceLT, Int.reduceLE, Int.reduceAdd, Int.reduceSub, Int.reduceMul, Int.reduceNeg, Int.reduceEq, reduceCtorEq, Nat.reduceLeDiff, Nat.reduceLT, Nat.reduceEqDiff, Nat.reduceAdd, Nat.reduceMul, Nat.reduceSub, Int.cast_ofNat_Int, and1, and3, opc_get', List.length_map, Hp.join_set, Hp.get_join, Option.some_or, u8_set, getD_u8, hga, hgb, la, lb, hlr, hE, hc1, hfa, hwk]) <;> (first | done | rfl | (simp; done) | (simp; omega) | omega | (simp_all; done) | (simp_all; omega))
             · exact ⟨by omega, by simp [u8_int_eq]⟩
           intro m env σ' hJ M9 hM9
           obtain ⟨j, b, rfl, rfl, rfl, hj, hb⟩ := hJ
           refine WS.seq (WS.seq ?_)
           refine R0 fun K hK => ?_
           try simp (maxSteps := 4000000) (disch := omega) only [push_cast, Nat.reduceLT, Nat.reduceEqDiff, Nat.reduceAdd, Nat.reduceMul, Nat.reduceSub, Nat.reduceLeDiff, Int.reduceToNat, Int.reduceLT, Int.reduceLE, Int.reduceAdd, Int.reduceSub, Int.reduceMul, Int.reduceNeg, Int.reduceEq, reduceCtorEq, Int.cast_ofNat_Int, Hp.get_set, and1, and3, opc_get', List.length_map, Hp.join_set, Hp.get_join, Option.some_or, u8_set, getD_u8, hga, hgb, la, lb, hlr, hE, hc1, hfa, hwk]
           (repeat refine And.intro (by first | omega | (simp; done) | (simp_all; done) | (simp_all; omega)) ?_)
           refine Qk hK [5, 7, 8, 14, 15, 16, 18, 19, 200] ?_
           clear hK K
           refine CI rfl (fun hc => ?_) (fun hc => ?_)
           rotate_left
           ·
            all_goals try (cases hc; done)
            all_goals try simp only [push_cast] at hc
            all_goals try (exfalso; omega)
            all_goals
             obtain rfl : j = (W.getD (f * 4 + k) []).length := by omega
             rw [List.take_length] at hb
             obtain rfl := hb.2 hc2
             refine Ex ?_
             simp only [push_cast, WS, Nat.reduceEqDiff]
             refine hK9 _ _ ?_
             clear hK9
             try clear K9
             refine WS_keep [5, 7, 8, 14, 15, 18] _ ?_
             refine WS.seq ?_
             refine R0 fun K hK => ?_
             try simp (maxSteps := 4000000) (disch := omega) only [push_cast, Nat.reduceLT, Nat.reduceEqDiff, Int.reduceToNat, Int.reduceLT, Int.reduceLE, Int.reduceAdd, Int.reduceSub, Int.reduceMul, Int.reduceNeg, Int.reduceEq, reduceCtorEq, Int.cast_ofNat_Int, Hp.get_set, and1, and3, opc_get', List.length_map, Hp.join_set, Hp.get_join, Option.some_or, u8_set, getD_u8, hga, hgb, la, lb, hlr, hE, hc1, hfa, hwk]
             refine Qk hK [5, 7, 8, 14, 15, 219] ?_
             clear hK K
             refine CI rfl (fun hc => ?_) (fun hc => ?_)
             ·
              all_goals try (cases hc; done)
              all_goals try simp only [push_cast] at hc
              all_goals try (exfalso; omega)
              all_goals
               refine WS.seq ?_
               refine A1 [4] (by decide) ?_
               refine Rt ?_
               simp only [push_cast]
               refine hQ0 _ _ _ ?_
               try simp (maxSteps := 4000000) only [push_cast, Int.reduceToNat, Int.reduceLT, Int.reduceLE, Int.reduceAdd, Int.reduceSub, Int.reduceMul, Int.reduceNeg, Int.reduceEq, reduceCtorEq, Nat.reduceLeDiff, Nat.reduceLT, Nat.reduceEqDiff, Nat.reduceAdd, Nat.reduceMul, Nat.reduceSub, Int.cast_ofNat_Int, and1, and3, opc_get', List.length_map, Hp.join_set, Hp.get_join, Option.some_or, u8_set, getD_u8, hga, hgb, la, lb, hlr, hE, hc1, hfa, hwk]
               first | done | rfl | (simp; done) | (simp_all; done) | (simp_all; omega)
             all_goals try (cases hc; done)
             all_goals try simp only [push_cast] at hc
             all_goals try (exfalso; omega)
             all_goals
              refine Sk ?_
              simp only [push_cast, WS, Nat.reduceEqDiff]
              refine hK8 _ _ ?_
              clear hK8
              try clear K8
              refine WS_keep [5, 7, 8, 14, 15] _ ?_
              refine R0 fun K hK => ?_
              try simp (maxSteps := 4000000) (disch := omega) only [push_cast, Nat.reduceLT, Nat.reduceEqDiff, Int.reduceToNat, Int.reduceLT, Int.reduceLE, Int.reduceAdd, Int.reduceSub, Int.reduceMul, Int.reduceNeg, Int.reduceEq, reduceCtorEq, Int.cast_ofNat_Int, Hp.get_set, and1, and3, opc_get', List.length_map, Hp.join_set, Hp.get_join, Option.some_or, u8_set, getD_u8, hga, hgb, la, lb, hlr, hE, hc1, hfa, hwk]
              (repeat refine And.intro (by first | omega | (simp; done) | (simp_all; done) | (simp_all; omega)) ?_)
              refine Qk hK [5, 7, 8, 14, 15] ?_
              clear hK K
              refine Ag (hM7 _ _ ?_)
              refine ⟨_, ?_, k + 1,  rfl, ?_, ?_, ?_⟩
              · first | omega | (simp; done) | (simp_all; done) | (simp_all; omega)
              · (try simp (disch := omega) only [push_cast, Int.reduceToNat, Int.reduceLT, Int.reduceLE, Int.reduceAdd, Int.reduceSub, Int.reduceMul, Int.reduceNeg, Int.reduceEq, reduceCtorEq, Nat.reduceLeDiff, Nat.reduceLT, Nat.reduceEqDiff, Nat.reduceAdd, Nat.reduceMul, Nat.reduceSub, Int.cast_ofNat_Int, and1, and3, opc_get', List.length_map, Hp.join_set, Hp.get_join, Option.some_or, u8_set, getD_u8, hga, hgb, la, lb, hlr, hE, hc1, hfa, hwk]) <;> (first | done | rfl | (simp; done) | (simp; omega) | omega | (simp_all; done) | (simp_all; omega))
              · first | rfl | (try simp (disch := omega) only [push_cast, Int.reduceToNat, Int.reduceLT, Int.reduceLE, Int.reduceAdd, Int.reduceSub, Int.reduceMul, Int.reduceNeg, Int.reduceEq, reduceCtorEq, Nat.reduceLeDiff, Nat.reduceLT, Nat.reduceEqDiff, Nat.reduceAdd, Nat.reduceMul, Nat.reduceSub, Int.cast_ofNat_Int, and1, and3, opc_get', List.length_map, Hp.join_set, Hp.get_join, Option.some_or, u8_set, getD_u8, hga, hgb, la, lb, hlr, hE, hc1, hfa, hwk]) <;> (first | done | rfl | (simp; done) | (simp; omega) | omega | (simp_all; done) | (simp_all; omega))
              · first | omega | (simp; done) | (simp_all; done) | (simp_all; omega)
           all_goals try (cases hc; done)
           all_goals try simp only [push_cast] at hc
           all_goals try (exfalso; omega)
           all_goals
            cases b
            all_goals
             refine Sk ?_
             refine WS.seq ?_
             refine Bk fun K10 hK10 => ?_
             refine RD [] [] fo (by kernel_rfl) fun K hK => ?_
             try simp (maxSteps := 4000000) (disch := omega) only [push_cast, Nat.reduceLT, Nat.reduceEqDiff, Nat.reduceAdd, Nat.reduceMul, Nat.reduceSub, Nat.reduceLeDiff, Int.reduceToNat, Int.reduceLT, Int.reduceLE, Int.reduceAdd, Int.reduceSub, Int.reduceMul, Int.reduceNeg, Int.reduceEq, reduceCtorEq, Int.cast_ofNat_Int, Hp.get_set, and1, and3, opc_get', List.length_map, Hp.join_set, Hp.get_join, Option.some_or, u8_set, getD_u8, hga, hgb, la, lb, hlr, hE, hc1, hfa, hwk]
             (repeat refine And.intro (by first | omega | (simp; done) | (simp_all; done) | (simp_all; omega)) ?_)
             all_goals try (first | refine guardT 204 rfl (fun hc => ?_) (fun hc => ?_) | refine guardF 204 rfl (fun hc => ?_) (fun hc => ?_)) <;> try simp only [push_cast] at hc
             all_goals try (exfalso; omega)
             all_goals try simp (maxSteps := 4000000) (disch := omega) only [push_cast, Nat.reduceLT, Nat.reduceEqDiff, Nat.reduceAdd, Nat.reduceMul, Nat.reduceSub, Nat.reduceLeDiff, Int.reduceToNat, Int.reduceLT, Int.reduceLE, Int.reduceAdd, Int.reduceSub, Int.reduceMul, Int.reduceNeg, Int.reduceEq, reduceCtorEq, Int.cast_ofNat_Int, Hp.get_set, and1, and3, opc_get', List.length_map, Hp.join_set, Hp.get_join, Option.some_or, u8_set, getD_u8, hga, hgb, la, lb, hlr, hE, hc1, hfa, hwk]
             all_goals (repeat refine And.intro (by first | omega | (simp; done) | (simp_all; done) | (simp_all; omega)) ?_)
             all_goals
              refine Qk hK [5, 7, 8, 14, 15, 16, 18, 19] ?_
              clear hK K
              simp only [push_cast, WS, Nat.reduceEqDiff]
              refine hK10 _ _ ?_
              clear hK10
              try clear K10
              refine WS_keep [5, 7, 8, 14, 15, 16, 18, 19] _ ?_
              refine R0 fun K hK => ?_
              try simp (maxSteps := 4000000) (disch := omega) only [push_cast, Nat.reduceLT, Nat.reduceEqDiff, Int.reduceToNat, Int.reduceLT, Int.reduceLE, Int.reduceAdd, Int.reduceSub, Int.reduceMul, Int.reduceNeg, Int.reduceEq, reduceCtorEq, Int.cast_ofNat_Int, Hp.get_set, and1, and3, opc_get', List.length_map, Hp.join_set, Hp.get_join, Option.some_or, u8_set, getD_u8, hga, hgb, la, lb, hlr, hE, hc1, hfa, hwk]
              (repeat refine And.intro (by first | omega | (simp; done) | (simp_all; done) | (simp_all; omega)) ?_)
              refine Qk hK [5, 7, 8, 14, 15, 16, 18, 19] ?_
              clear hK K
              refine Ag (hM9 _ _ ?_)
              first
               | (refine ⟨_, ?_, j + 1, true,  rfl, ?_, ?_, ?_⟩
                  · first | omega | (simp; done) | (simp_all; done) | (simp_all; omega)
                  · (try simp (disch := omega) only [push_cast, Int.reduceToNat, Int.reduceLT, Int.reduceLE, Int.reduceAdd, Int.reduceSub, Int.reduceMul, Int.reduceNeg, Int.reduceEq, reduceCtorEq, Nat.reduceLeDiff, Nat.reduceLT, Nat.reduceEqDiff, Nat.reduceAdd, Nat.reduceMul, Nat.reduceSub, Int.cast_ofNat_Int, and1, and3, opc_get', List.length_map, Hp.join_set, Hp.get_join, Option.some_or, u8_set, getD_u8, hga, hgb, la, lb, hlr, hE, hc1, hfa, hwk]) <;> (first | done | rfl | (simp; done) | (simp; omega) | omega | (simp_all; done) | (simp_all; omega))
                  · first | rfl | (try simp (disch := omega) only [push_cast, Int.reduceToNat, Int.reduceLT, Int.reduceLE, Int.reduceAdd, Int.reduceSub, Int.reduceMul, Int.reduceNeg, Int.reduceEq, reduceCtorEq, Nat.reduceLeDiff, Nat.reduceLT, Nat.reduceEqDiff, Nat.reduceAdd, Nat.reduceMul, Nat.reduceSub, Int.cast_ofNat_Int, and1, and3, opc_get', List.length_map, Hp.join_set, Hp.get_join, Option.some_or, u8_set, getD_u8, hga, hgb, la, lb, hlr, hE, hc1, hfa, hwk]) <;> (first | done | rfl | (simp; done) | (simp; omega) | omega | (simp_all; done) | (simp_all; omega))
                  · exact in_true hb (by omega))
               | (refine ⟨_, ?_, j + 1, decide ((((W.getD (f * 4 + k) []).getD j 0).toNat : Int) = (c.toNat : Int)),  rfl, ?_, ?_, ?_⟩
                  · first | omega | (simp; done) | (simp_all; done) | (simp_all; omega)
                  · (try simp (disch := omega) only [push_cast, Int.reduceToNat, Int.reduceLT, Int.reduceLE, Int.reduceAdd, Int.reduceSub, Int.reduceMul, Int.reduceNeg, Int.reduceEq, reduceCtorEq, Nat.reduceLeDiff, Nat.reduceLT, Nat.reduceEqDiff, Nat.reduceAdd, Nat.reduceMul, Nat.reduceSub, Int.cast_ofNat_Int, and1, and3, opc_get', List.length_map, Hp.join_set, Hp.get_join, Option.some_or, u8_set, getD_u8, hga, hgb, la, lb, hlr, hE, hc1, hfa, hwk]) <;> (first | done | rfl | (simp; done) | (simp; omega) | omega | (simp_all; done) | (simp_all; omega))
                  · first | rfl | (try simp (disch := omega) only [push_cast, Int.reduceToNat, Int.reduceLT, Int.reduceLE, Int.reduceAdd, Int.reduceSub, Int.reduceMul, Int.reduceNeg, Int.reduceEq, reduceCtorEq, Nat.reduceLeDiff, Nat.reduceLT, Nat.reduceEqDiff, Nat.reduceAdd, Nat.reduceMul, Nat.reduceSub, Int.cast_ofNat_Int, and1, and3, opc_get', List.length_map, Hp.join_set, Hp.get_join, Option.some_or, u8_set, getD_u8, hga, hgb, la, lb, hlr, hE, hc1, hfa, hwk]) <;> (first | done | rfl | (simp; done) | (simp; omega) | omega | (simp_all; done) | (simp_all; omega))
                  · exact in_step hb (by omega))
    all_goals try (cases hc; done)
    all_goals try simp only [push_cast] at hc
    all_goals try (exfalso; omega)
    all_goals
     refine Sk ?_
     refine WS.seq ?_
     refine Bk fun K1 hK1 => ?_
     refine WS.seq ?_
     refine RD [] [] fo (by kernel_rfl) fun K hK => ?_
     try simp (maxSteps := 4000000) (disch := omega) only [push_cast, Nat.reduceLT, Nat.reduceEqDiff, Nat.reduceAdd, Nat.reduceMul, Nat.reduceSub, Nat.reduceLeDiff, Int.reduceToNat, Int.reduceLT, Int.reduceLE, Int.reduceAdd, Int.reduceSub, Int.reduceMul, Int.reduceNeg, Int.reduceEq, reduceCtorEq, Int.cast_ofNat_Int, Hp.get_set, and1, and3, opc_get', List.length_map, Hp.join_set, Hp.get_join, Option.some_or, u8_set, getD_u8, hga, hgb, la, lb, hlr]
     (repeat refine And.intro (by first | omega | (simp; done) | (simp_all; done) | (simp_all; omega)) ?_)
     refine Qk hK [0, 1, 5, 7, 8, 9, 10, 11] ?_
     clear hK K
     have hf2 := lowN_lt (oat ops i).file (m := 2) (by omega)
     have hs4 := lowN_lt (oat ops i).sector (m := 4) (by omega)
     have hwg := wrow_get hlw hlt (lowN (oat ops i).file 2 * 4 + lowN (oat ops i).sector 4) (by omega)
     have htk := hw.t (lowN (oat ops i).file 2 * 4 + lowN (oat ops i).sector 4) (by omega)
     have hrm := hS.rooms hf2 hs4 hi1
     have hgn := hw.ne (lowN (oat ops i).file 2 * 4 + lowN (oat ops i).sector 4) (by omega)
     refine WS.seq ?_
     refine R0 fun K hK => ?_
     try simp (maxSteps := 4000000) (disch := omega) only [push_cast, Nat.reduceLT, Nat.reduceEqDiff, Nat.reduceAdd, Nat.reduceMul, Nat.reduceSub, Nat.reduceLeDiff, Int.reduceToNat, Int.reduceLT, Int.reduceLE, Int.reduceAdd, Int.reduceSub, Int.reduceMul, Int.reduceNeg, Int.reduceEq, reduceCtorEq, Int.cast_ofNat_Int, Hp.get_set, and1, and3, opc_get', List.length_map, Hp.join_set, Hp.get_join, Option.some_or, u8_set, getD_u8, hga, hgb, la, lb, hlr, hwg, htk, hgn]
     (repeat refine And.intro (by first | omega | (simp; done) | (simp_all; done) | (simp_all; omega)) ?_)
     refine Qk hK [0, 1, 5, 7, 8, 9, 10, 11, 67] ?_
     clear hK K
     refine Bk fun K2 hK2 => ?_
     refine WS.seq ?_
     refine R0 fun K hK => ?_
     try simp (maxSteps := 4000000) (disch := omega) only [push_cast, Nat.reduceLT, Nat.reduceEqDiff, Int.reduceToNat, Int.reduceLT, Int.reduceLE, Int.reduceAdd, Int.reduceSub, Int.reduceMul, Int.reduceNeg, Int.reduceEq, reduceCtorEq, Int.cast_ofNat_Int, Hp.get_set, and1, and3, opc_get', List.length_map, Hp.join_set, Hp.get_join, Option.some_or, u8_set, getD_u8, hga, hgb, la, lb, hlr, hwg, htk, hgn]
     refine Qk hK [0, 1, 5, 7, 8, 9, 10, 11, 67, 68] ?_
     clear hK K
     refine CI rfl (fun hc => ?_) (fun hc => ?_)
     ·
      all_goals try (cases hc; done)
      all_goals try simp only [push_cast] at hc
      all_goals try (exfalso; omega)
      all_goals
       refine WS.seq ?_
       refine R0 fun K hK => ?_
       try simp (maxSteps := 4000000) (disch := omega) only [push_cast, Nat.reduceLT, Nat.reduceEqDiff, Nat.reduceAdd, Nat.reduceMul, Nat.reduceSub, Nat.reduceLeDiff, Int.reduceToNat, Int.reduceLT, Int.reduceLE, Int.reduceAdd, Int.reduceSub, Int.reduceMul, Int.reduceNeg, Int.reduceEq, reduceCtorEq, Int.cast_ofNat_Int, Hp.get_set, and1, and3, opc_get', List.length_map, Hp.join_set, Hp.get_join, Option.some_or, u8_set, getD_u8, hga, hgb, la, lb, hlr, hwg, htk, hgn]
       (repeat refine And.intro (by first | omega | (simp; done) | (simp_all; done) | (simp_all; omega)) ?_)
       refine callP (full_spec _ 0) rfl ?_
       try simp (maxSteps := 4000000) (disch := omega) only [push_cast, Nat.reduceLT, Nat.reduceEqDiff, Nat.reduceAdd, Nat.reduceMul, Nat.reduceSub, Nat.reduceLeDiff, Int.reduceToNat, Int.reduceLT, Int.reduceLE, Int.reduceAdd, Int.reduceSub, Int.reduceMul, Int.reduceNeg, Int.reduceEq, reduceCtorEq, Int.cast_ofNat_Int, Hp.get_set, and1, and3, opc_get', List.length_map, Hp.join_set, Hp.get_join, Option.some_or, u8_set, getD_u8, hga, hgb, la, lb, hlr, hwg, htk, hgn]
       (repeat refine And.intro (by first | omega | (simp; done) | (simp_all; done) | (simp_all; omega)) ?_)
       refine callF (write_spec (D := D) _ _ (fullB (oat ops i).by_ 0) hS.ok (by simp [fullB, fsz]) (by have := hS.w; omega) hD) hj (fun v σ2 h hj2 => ?_)
       obtain ⟨rfl, hD2⟩ := h
       have hW := hS.write hf2 hs4 (oat ops i).by_
       try simp (maxSteps := 4000000) (disch := omega) only [push_cast, Nat.reduceLT, Nat.reduceEqDiff, Nat.reduceAdd, Nat.reduceMul, Nat.reduceSub, Nat.reduceLeDiff, Int.reduceToNat, Int.reduceLT, Int.reduceLE, Int.reduceAdd, Int.reduceSub, Int.reduceMul, Int.reduceNeg, Int.reduceEq, reduceCtorEq, Int.cast_ofNat_Int, Hp.get_set, and1, and3, opc_get', List.length_map, Hp.join_set, Hp.get_join, Option.some_or, u8_set, getD_u8, hga, hgb, la, lb, hlr, hwg, htk, hgn]
       (repeat refine And.intro (by first | omega | (simp; done) | (simp_all; done) | (simp_all; omega)) ?_)
       refine Qk hK [0, 1, 5, 7, 8, 9, 10, 11, 80] ?_
       clear hK K
       refine CI rfl (fun hc => ?_) (fun hc => ?_)
       ·
        all_goals try (cases hc; done)
        all_goals try simp only [push_cast] at hc
        all_goals try (exfalso; omega)
        all_goals
         refine RD [] [] fo (by kernel_rfl) fun K hK => ?_
         try simp (maxSteps := 4000000) (disch := omega) only [push_cast, Nat.reduceLT, Nat.reduceEqDiff, Nat.reduceAdd, Nat.reduceMul, Nat.reduceSub, Nat.reduceLeDiff, Int.reduceToNat, Int.reduceLT, Int.reduceLE, Int.reduceAdd, Int.reduceSub, Int.reduceMul, Int.reduceNeg, Int.reduceEq, reduceCtorEq, Int.cast_ofNat_Int, Hp.get_set, and1, and3, opc_get', List.length_map, Hp.join_set, Hp.get_join, Option.some_or, u8_set, getD_u8, hga, hgb, la, lb, hlr, hwg, htk, hgn]
         (repeat refine And.intro (by first | omega | (simp; done) | (simp_all; done) | (simp_all; omega)) ?_)
         try simp (maxSteps := 4000000) (disch := omega) only [push_cast, Nat.reduceLT, Nat.reduceEqDiff, Nat.reduceAdd, Nat.reduceMul, Nat.reduceSub, Nat.reduceLeDiff, Int.reduceToNat, Int.reduceLT, Int.reduceLE, Int.reduceAdd, Int.reduceSub, Int.reduceMul, Int.reduceNeg, Int.reduceEq, reduceCtorEq, Int.cast_ofNat_Int, Hp.get_set, and1, and3, opc_get', List.length_map, Hp.join_set, Hp.get_join, Option.some_or, u8_set, getD_u8, hga, hgb, la, lb, hlr, hwg, htk, hgn]
         (repeat refine And.intro (by first | omega | (simp; done) | (simp_all; done) | (simp_all; omega)) ?_)
         try simp (maxSteps := 4000000) (disch := omega) only [push_cast, Nat.reduceLT, Nat.reduceEqDiff, Nat.reduceAdd, Nat.reduceMul, Nat.reduceSub, Nat.reduceLeDiff, Int.reduceToNat, Int.reduceLT, Int.reduceLE, Int.reduceAdd, Int.reduceSub, Int.reduceMul, Int.reduceNeg, Int.reduceEq, reduceCtorEq, Int.cast_ofNat_Int, Hp.get_set, and1, and3, opc_get', List.length_map, Hp.join_set, Hp.get_join, Option.some_or, u8_set, getD_u8, hga, hgb, la, lb, hlr, hwg, htk, hgn]
         (repeat refine And.intro (by first | omega | (simp; done) | (simp_all; done) | (simp_all; omega)) ?_)
         try simp (maxSteps := 4000000) (disch := omega) only [push_cast, Nat.reduceLT, Nat.reduceEqDiff, Nat.reduceAdd, Nat.reduceMul, Nat.reduceSub, Nat.reduceLeDiff, Int.reduceToNat, Int.reduceLT, Int.reduceLE, Int.reduceAdd, Int.reduceSub, Int.reduceMul, Int.reduceNeg, Int.reduceEq, reduceCtorEq, Int.cast_ofNat_Int, Hp.get_set, and1, and3, opc_get', List.length_map, Hp.join_set, Hp.get_join, Option.some_or, u8_set, getD_u8, hga, hgb, la, lb, hlr, hwg, htk, hgn]
         (repeat refine And.intro (by first | omega | (simp; done) | (simp_all; done) | (simp_all; omega)) ?_)
         refine Qk hK [0, 1, 5, 7, 8, 9] ?_
         clear hK K
         simp only [push_cast, WS, Nat.reduceEqDiff]
         refine hK2 _ _ ?_
         clear hK2
         try clear K2
         simp only [push_cast, WS, Nat.reduceEqDiff]
         refine hK1 _ _ ?_
         clear hK1
         try clear K1
         refine WS_keep [0, 1, 5, 7, 8, 9] _ ?_
         refine S_any8 (d := d) (ga := ga) (gb := gb) (i := i + 1) (by
           first
           | exact ⟨σ2, _, _, _, _, _, rfl, hD2, (hj2.upd htk).upd (by simp only [Hp.get_set, hgn, if_false]; exact lb), by simp only [Hp.get_set, eq_false (Ne.symm hab), eq_false (hw.nea la (lowN (oat ops i).file 2 * 4 + lowN (oat ops i).sector 4) (by omega)), if_false]; exact la, hw.app (by omega) _ (by rfl) rfl, hW.elim (fun h => h.2) (fun h => absurd hc h.1)⟩
           | exact ⟨σ2, _, _, _, _, _, rfl, hD2, hj2, la, hw, hS2⟩
           | exact ⟨σ2, _, _, _, _, _, rfl, hD2, hj2, la, hw, hY.elim (fun h => absurd h.1 hc) (fun h => h.2)⟩
           | exact ⟨σ2, _, _, _, _, _, rfl, hD2, hj2, la, hw, hW.elim (fun h => absurd h.1 hc) (fun h => h.2)⟩
           | exact ⟨σd, _, _, _, _, _, rfl, hD, hj, la, hw, hS.up⟩) (fun σd τl D U W T hD hj la hw hS => ?_)
         refine R0 fun K hK => ?_
         try simp (maxSteps := 4000000) (disch := omega) only [push_cast, Nat.reduceLT, Nat.reduceEqDiff, Int.reduceToNat, Int.reduceLT, Int.reduceLE, Int.reduceAdd, Int.reduceSub, Int.reduceMul, Int.reduceNeg, Int.reduceEq, reduceCtorEq, Int.cast_ofNat_Int, Hp.get_set, and1, and3, opc_get', List.length_map, Hp.join_set, Hp.get_join, Option.some_or, u8_set, getD_u8, hga, hgb, la, lb, hlr, hwg, htk, hgn]
         (repeat refine And.intro (by first | omega | (simp; done) | (simp_all; done) | (simp_all; omega)) ?_)
         refine Qk hK [0, 1, 5, 7, 8, 9] ?_
         clear hK K
         refine Ag (hM0 _ _ ?_)
         refine ⟨_, ?_, i + 1, σd, τl, D, U, W, T,  rfl, ?_, ?_, ?_⟩
         · first | omega | (simp; done) | (simp_all; done) | (simp_all; omega)
         · (try simp (disch := omega) only [push_cast, Int.reduceToNat, Int.reduceLT, Int.reduceLE, Int.reduceAdd, Int.reduceSub, Int.reduceMul, Int.reduceNeg, Int.reduceEq, reduceCtorEq, Nat.reduceLeDiff, Nat.reduceLT, Nat.reduceEqDiff, Nat.reduceAdd, Nat.reduceMul, Nat.reduceSub, Int.cast_ofNat_Int, and1, and3, opc_get', List.length_map, Hp.join_set, Hp.get_join, Option.some_or, u8_set, getD_u8, hga, hgb, la, lb, hlr, hwg, htk, hgn]) <;> (first | done | rfl | (simp; done) | (simp; omega) | omega | (simp_all; done) | (simp_all; omega))
         · first | rfl | (try simp (disch := omega) only [push_cast, Int.reduceToNat, Int.reduceLT, Int.reduceLE, Int.reduceAdd, Int.reduceSub, Int.reduceMul, Int.reduceNeg, Int.reduceEq, reduceCtorEq, Nat.reduceLeDiff, Nat.reduceLT, Nat.reduceEqDiff, Nat.reduceAdd, Nat.reduceMul, Nat.reduceSub, Int.cast_ofNat_Int, and1, and3, opc_get', List.length_map, Hp.join_set, Hp.get_join, Option.some_or, u8_set, getD_u8, hga, hgb, la, lb, hlr, hwg, htk, hgn]) <;> (first | done | rfl | (simp; done) | (simp; omega) | omega | (simp_all; done) | (simp_all; omega))
         · exact ⟨by omega, by omega, hD, hj, la, hw, hS⟩
       ·
        all_goals try (cases hc; done)
        all_goals try simp only [push_cast] at hc
        all_goals try (exfalso; omega)
        all_goals
         refine Sk ?_
         simp only [push_cast, WS, Nat.reduceEqDiff]
         refine hK2 _ _ ?_
         clear hK2
         try clear K2
         simp only [push_cast, WS, Nat.reduceEqDiff]
         refine hK1 _ _ ?_
         clear hK1
         try clear K1
         refine WS_keep [0, 1, 5, 7, 8, 9] _ ?_
         refine S_any8 (d := d) (ga := ga) (gb := gb) (i := i + 1) (by
           first
           | exact ⟨σ2, _, _, _, _, _, rfl, hD2, (hj2.upd htk).upd (by simp only [Hp.get_set, hgn, if_false]; exact lb), by simp only [Hp.get_set, eq_false (Ne.symm hab), eq_false (hw.nea la (lowN (oat ops i).file 2 * 4 + lowN (oat ops i).sector 4) (by omega)), if_false]; exact la, hw.app (by omega) _ (by rfl) rfl, hW.elim (fun h => h.2) (fun h => absurd hc h.1)⟩
           | exact ⟨σ2, _, _, _, _, _, rfl, hD2, hj2, la, hw, hS2⟩
           | exact ⟨σ2, _, _, _, _, _, rfl, hD2, hj2, la, hw, hY.elim (fun h => absurd h.1 hc) (fun h => h.2)⟩
           | exact ⟨σ2, _, _, _, _, _, rfl, hD2, hj2, la, hw, hW.elim (fun h => absurd h.1 hc) (fun h => h.2)⟩
           | exact ⟨σd, _, _, _, _, _, rfl, hD, hj, la, hw, hS.up⟩) (fun σd τl D U W T hD hj la hw hS => ?_)
         refine R0 fun K hK => ?_
         try simp (maxSteps := 4000000) (disch := omega) only [push_cast, Nat.reduceLT, Nat.reduceEqDiff, Int.reduceToNat, Int.reduceLT, Int.reduceLE, Int.reduceAdd, Int.reduceSub, Int.reduceMul, Int.reduceNeg, Int.reduceEq, reduceCtorEq, Int.cast_ofNat_Int, Hp.get_set, and1, and3, opc_get', List.length_map, Hp.join_set, Hp.get_join, Option.some_or, u8_set, getD_u8, hga, hgb, la, lb, hlr, hwg, htk, hgn]
         (repeat refine And.intro (by first | omega | (simp; done) | (simp_all; done) | (simp_all; omega)) ?_)
         refine Qk hK [0, 1, 5, 7, 8, 9] ?_
         clear hK K
         refine Ag (hM0 _ _ ?_)
         refine ⟨_, ?_, i + 1, σd, τl, D, U, W, T,  rfl, ?_, ?_, ?_⟩
         · first | omega | (simp; done) | (simp_all; done) | (simp_all; omega)
         · (try simp (disch := omega) only [push_cast, Int.reduceToNat, Int.reduceLT, Int.reduceLE, Int.reduceAdd, Int.reduceSub, Int.reduceMul, Int.reduceNeg, Int.reduceEq, reduceCtorEq, Nat.reduceLeDiff, Nat.reduceLT, Nat.reduceEqDiff, Nat.reduceAdd, Nat.reduceMul, Nat.reduceSub, Int.cast_ofNat_Int, and1, and3, opc_get', List.length_map, Hp.join_set, Hp.get_join, Option.some_or, u8_set, getD_u8, hga, hgb, la, lb, hlr, hwg, htk, hgn]) <;> (first | done | rfl | (simp; done) | (simp; omega) | omega | (simp_all; done) | (simp_all; omega))
         · first | rfl | (try simp (disch := omega) only [push_cast, Int.reduceToNat, Int.reduceLT, Int.reduceLE, Int.reduceAdd, Int.reduceSub, Int.reduceMul, Int.reduceNeg, Int.reduceEq, reduceCtorEq, Nat.reduceLeDiff, Nat.reduceLT, Nat.reduceEqDiff, Nat.reduceAdd, Nat.reduceMul, Nat.reduceSub, Int.cast_ofNat_Int, and1, and3, opc_get', List.length_map, Hp.join_set, Hp.get_join, Option.some_or, u8_set, getD_u8, hga, hgb, la, lb, hlr, hwg, htk, hgn]) <;> (first | done | rfl | (simp; done) | (simp; omega) | omega | (simp_all; done) | (simp_all; omega))
         · exact ⟨by omega, by omega, hD, hj, la, hw, hS⟩
     ·
      all_goals try (cases hc; done)
      all_goals try simp only [push_cast] at hc
      all_goals try (exfalso; omega)
      all_goals
       refine WS.seq ?_
       refine R0 fun K hK => ?_
       try simp (maxSteps := 4000000) (disch := omega) only [push_cast, Nat.reduceLT, Nat.reduceEqDiff, Int.reduceToNat, Int.reduceLT, Int.reduceLE, Int.reduceAdd, Int.reduceSub, Int.reduceMul, Int.reduceNeg, Int.reduceEq, reduceCtorEq, Int.cast_ofNat_Int, Hp.get_set, and1, and3, opc_get', List.length_map, Hp.join_set, Hp.get_join, Option.some_or, u8_set, getD_u8, hga, hgb, la, lb, hlr, hwg, htk, hgn]
       refine Qk hK [0, 1, 5, 7, 8, 9, 10, 67, 97] ?_
       clear hK K
       refine CI rfl (fun hc => ?_) (fun hc => ?_)
       ·
        all_goals try (cases hc; done)
        all_goals try simp only [push_cast] at hc
        all_goals try (exfalso; omega)
        all_goals
         refine WS.seq (WS.seq ?_)
         refine R0 fun K hK => ?_
         try simp (maxSteps := 4000000) (disch := omega) only [push_cast, Nat.reduceLT, Nat.reduceEqDiff, Int.reduceToNat, Int.reduceLT, Int.reduceLE, Int.reduceAdd, Int.reduceSub, Int.reduceMul, Int.reduceNeg, Int.reduceEq, reduceCtorEq, Int.cast_ofNat_Int, Hp.get_set, and1, and3, opc_get', List.length_map, Hp.join_set, Hp.get_join, Option.some_or, u8_set, getD_u8, hga, hgb, la, lb, hlr, hwg, htk, hgn]
         refine callF (sync_spec (D := D) _ (by have := hS.w; omega) hD) hj (fun v σ2 h hj2 => ?_)
         obtain ⟨rfl, hD2⟩ := h
         have hY := hS.sync hf2
         try simp (maxSteps := 4000000) (disch := omega) only [push_cast, Nat.reduceLT, Nat.reduceEqDiff, Int.reduceToNat, Int.reduceLT, Int.reduceLE, Int.reduceAdd, Int.reduceSub, Int.reduceMul, Int.reduceNeg, Int.reduceEq, reduceCtorEq, Int.cast_ofNat_Int, Hp.get_set, and1, and3, opc_get', List.length_map, Hp.join_set, Hp.get_join, Option.some_or, u8_set, getD_u8, hga, hgb, la, lb, hlr, hwg, htk, hgn]
         refine Qk hK [0, 1, 5, 7, 8, 9, 10, 102] ?_
         clear hK K
         refine CI rfl (fun hc => ?_) (fun hc => ?_)
         ·
          all_goals try (cases hc; done)
          all_goals try simp only [push_cast] at hc
          all_goals try (exfalso; omega)
          all_goals
           refine Ex ?_
           simp only [push_cast, WS, Nat.reduceEqDiff]
           refine hK1 _ _ ?_
           clear hK1
           try clear K1
           refine WS_keep [0, 1, 5, 7, 8, 9] _ ?_
           refine S_any8 (d := d) (ga := ga) (gb := gb) (i := i + 1) (by
             first
             | exact ⟨σ2, _, _, _, _, _, rfl, hD2, (hj2.upd htk).upd (by simp only [Hp.get_set, hgn, if_false]; exact lb), by simp only [Hp.get_set, eq_false (Ne.symm hab), eq_false (hw.nea la (lowN (oat ops i).file 2 * 4 + lowN (oat ops i).sector 4) (by omega)), if_false]; exact la, hw.app (by omega) _ (by rfl) rfl, hW.elim (fun h => h.2) (fun h => absurd hc h.1)⟩
             | exact ⟨σ2, _, _, _, _, _, rfl, hD2, hj2, la, hw, hS2⟩
             | exact ⟨σ2, _, _, _, _, _, rfl, hD2, hj2, la, hw, hY.elim (fun h => absurd h.1 hc) (fun h => h.2)⟩
             | exact ⟨σ2, _, _, _, _, _, rfl, hD2, hj2, la, hw, hW.elim (fun h => absurd h.1 hc) (fun h => h.2)⟩
             | exact ⟨σd, _, _, _, _, _, rfl, hD, hj, la, hw, hS.up⟩) (fun σd τl D U W T hD hj la hw hS => ?_)
           refine R0 fun K hK => ?_
           try simp (maxSteps := 4000000) (disch := omega) only [push_cast, Nat.reduceLT, Nat.reduceEqDiff, Int.reduceToNat, Int.reduceLT, Int.reduceLE, Int.reduceAdd, Int.reduceSub, Int.reduceMul, Int.reduceNeg, Int.reduceEq, reduceCtorEq, Int.cast_ofNat_Int, Hp.get_set, and1, and3, opc_get', List.length_map, Hp.join_set, Hp.get_join, Option.some_or, u8_set, getD_u8, hga, hgb, la, lb, hlr, hwg, htk, hgn]
           (repeat refine And.intro (by first | omega | (simp; done) | (simp_all; done) | (simp_all; omega)) ?_)
           refine Qk hK [0, 1, 5, 7, 8, 9] ?_
           clear hK K
           refine Ag (hM0 _ _ ?_)
           refine ⟨_, ?_, i + 1, σd, τl, D, U, W, T,  rfl, ?_, ?_, ?_⟩
           · first | omega | (simp; done) | (simp_all; done) | (simp_all; omega)
           · (try simp (disch := omega) only [push_cast, Int.reduceToNat, Int.reduceLT, Int.reduceLE, Int.reduceAdd, Int.reduceSub, Int.reduceMul, Int.reduceNeg, Int.reduceEq, reduceCtorEq, Nat.reduceLeDiff, Nat.reduceLT, Nat.reduceEqDiff, Nat.reduceAdd, Nat.reduceMul, Nat.reduceSub, Int.cast_ofNat_Int, and1, and3, opc_get', List.length_map, Hp.join_set, Hp.get_join, Option.some_or, u8_set, getD_u8, hga, hgb, la, lb, hlr, hwg, htk, hgn]) <;> (first | done | rfl | (simp; done) | (simp; omega) | omega | (simp_all; done) | (simp_all; omega))
           · first | rfl | (try simp (disch := omega) only [push_cast, Int.reduceToNat, Int.reduceLT, Int.reduceLE, Int.reduceAdd, Int.reduceSub, Int.reduceMul, Int.reduceNeg, Int.reduceEq, reduceCtorEq, Nat.reduceLeDiff, Nat.reduceLT, Nat.reduceEqDiff, Nat.reduceAdd, Nat.reduceMul, Nat.reduceSub, Int.cast_ofNat_Int, and1, and3, opc_get', List.length_map, Hp.join_set, Hp.get_join, Option.some_or, u8_set, getD_u8, hga, hgb, la, lb, hlr, hwg, htk, hgn]) <;> (first | done | rfl | (simp; done) | (simp; omega) | omega | (simp_all; done) | (simp_all; omega))
           · exact ⟨by omega, by omega, hD, hj, la, hw, hS⟩
         all_goals try (cases hc; done)
         all_goals try simp only [push_cast] at hc
         all_goals try (exfalso; omega)
         all_goals
          have hS2 := hY.elim (fun h => h.2) (fun h => absurd (by simpa using hc) h.1)
          refine Sk ?_
          refine WS.seq ?_
          refine A1 [0, 1, 5, 7, 8, 9, 10, 12] (by decide) ?_
          refine Bk fun K3 hK3 => ?_
          refine WS_keep [0, 1, 5, 7, 8, 9, 10, 12] _ ?_
          refine Lp (fun m env σ' => ∃ (k : Nat) (τl : Hp) (T : List Nat), m = 4 - k ∧ env = [(0, .sl 6 (ops.map opV) .no), (1, .sl 1 (keep.map u8) .no), (5, .ptr d 0), (7, .ptr ga 0), (8, .ptr gb 0), (9, .int .i64 i), (10, .int .i64 (lowN (oat ops i).file 2)), (12, .int .i64 k)] ∧ σ' = σ2.join τl ∧ (k ≤ 4 ∧ Disj σ2 τl ∧ τl.get ga = some (.cells ((syU (lowN (oat ops i).file 2) W k U).map u8)) ∧ Wt τl gb (syW (lowN (oat ops i).file 2) k W) T)) ?_ ?_
          · refine ⟨_, 0, τl, T,  rfl, ?_, ?_, ?_⟩
            · (try simp (disch := omega) only [push_cast, Int.reduceToNat, Int.reduceLT, Int.reduceLE, Int.reduceAdd, Int.reduceSub, Int.reduceMul, Int.reduceNeg, Int.reduceEq, reduceCtorEq, Nat.reduceLeDiff, Nat.reduceLT, Nat.reduceEqDiff, Nat.reduceAdd, Nat.reduceMul, Nat.reduceSub, Int.cast_ofNat_Int, and1, and3, opc_get', List.length_map, Hp.join_set, Hp.get_join, Option.some_or, u8_set, getD_u8, hga, hgb, la, lb, hlr, hwg, htk, hgn]) <;> (first | done | rfl | (simp; done) | (simp; omega) | omega | (simp_all; done) | (simp_all; omega))
            · first | rfl | (try simp (disch := omega) only [push_cast, Int.reduceToNat, Int.reduceLT, Int.reduceLE, Int.reduceAdd, Int.reduceSub, Int.reduceMul, Int.reduceNeg, Int.reduceEq, reduceCtorEq, Nat.reduceLeDiff, Nat.reduceLT, Nat.reduceEqDiff, Nat.reduceAdd, Nat.reduceMul, Nat.reduceSub, Int.cast_ofNat_Int, and1, and3, opc_get', List.length_map, Hp.join_set, Hp.get_join, Option.some_or, u8_set, getD_u8, hga, hgb, la, lb, hlr, hwg, htk, hgn]) <;> (first | done | rfl | (simp; done) | (simp; omega) | omega | (simp_all; done) | (simp_all; omega))
            · exact ⟨by omega, hj2, la, hw⟩
          intro m env σ' hJ M3 hM3
          obtain ⟨k, τl, T, rfl, rfl, rfl, hk, hj2, la, hw⟩ := hJ
          have lb := hw.g
          have hlw := hw.lw
          have hlt := hw.lt
          have hlu2 := syU_len (lowN (oat ops i).file 2) W U k
          have hlr := wrow_len hlw hlt
          refine WS.seq (WS.seq ?_)
          refine R0 fun K hK => ?_
          try simp (maxSteps := 4000000) (disch := omega) only [push_cast, Nat.reduceLT, Nat.reduceEqDiff, Int.reduceToNat, Int.reduceLT, Int.reduceLE, Int.reduceAdd, Int.reduceSub, Int.reduceMul, Int.reduceNeg, Int.reduceEq, reduceCtorEq, Int.cast_ofNat_Int, Hp.get_set, and1, and3, opc_get', List.length_map, Hp.join_set, Hp.get_join, Option.some_or, u8_set, getD_u8, hga, hgb, hlr, hwg, htk, hgn, la, lb, hlr]
          refine Qk hK [0, 1, 5, 7, 8, 9, 10, 12, 104] ?_
          clear hK K
          refine CI rfl (fun hc => ?_) (fun hc => ?_)
          rotate_left
          ·
           all_goals try (cases hc; done)
           all_goals try simp only [push_cast] at hc
           all_goals try (exfalso; omega)
           all_goals
            obtain rfl : k = 4 := by omega
            refine Ex ?_
            simp only [push_cast, WS, Nat.reduceEqDiff]
            refine hK3 _ _ ?_
            clear hK3
            try clear K3
            simp only [push_cast, WS, Nat.reduceEqDiff]
            refine hK2 _ _ ?_
            clear hK2
            try clear K2
            simp only [push_cast, WS, Nat.reduceEqDiff]
            refine hK1 _ _ ?_
            clear hK1
            try clear K1
            refine WS_keep [0, 1, 5, 7, 8, 9] _ ?_
            refine S_any8 (d := d) (ga := ga) (gb := gb) (i := i + 1) (by
              first
              | exact ⟨σ2, _, _, _, _, _, rfl, hD2, (hj2.upd htk).upd (by simp only [Hp.get_set, hgn, if_false]; exact lb), by simp only [Hp.get_set, eq_false (Ne.symm hab), eq_false (hw.nea la (lowN (oat ops i).file 2 * 4 + lowN (oat ops i).sector 4) (by omega)), if_false]; exact la, hw.app (by omega) _ (by rfl) rfl, hW.elim (fun h => h.2) (fun h => absurd hc h.1)⟩
              | exact ⟨σ2, _, _, _, _, _, rfl, hD2, hj2, la, hw, hS2⟩
              | exact ⟨σ2, _, _, _, _, _, rfl, hD2, hj2, la, hw, hY.elim (fun h => absurd h.1 hc) (fun h => h.2)⟩
              | exact ⟨σ2, _, _, _, _, _, rfl, hD2, hj2, la, hw, hW.elim (fun h => absurd h.1 hc) (fun h => h.2)⟩
              | exact ⟨σd, _, _, _, _, _, rfl, hD, hj, la, hw, hS.up⟩) (fun σd τl D U W T hD hj la hw hS => ?_)
            refine R0 fun K hK => ?_
            try simp (maxSteps := 4000000) (disch := omega) only [push_cast, Nat.reduceLT, Nat.reduceEqDiff, Int.reduceToNat, Int.reduceLT, Int.reduceLE, Int.reduceAdd, Int.reduceSub, Int.reduceMul, Int.reduceNeg, Int.reduceEq, reduceCtorEq, Int.cast_ofNat_Int, Hp.get_set, and1, and3, opc_get', List.length_map, Hp.join_set, Hp.get_join, Option.some_or, u8_set, getD_u8, hga, hgb, hlr, hwg, htk, hgn, la, lb, hlr]
            (repeat refine And.intro (by first | omega | (simp; done) | (simp_all; done) | (simp_all; omega)) ?_)
            refine Qk hK [0, 1, 5, 7, 8, 9] ?_
            clear hK K
            refine Ag (hM0 _ _ ?_)
            refine ⟨_, ?_, i + 1, σd, τl, D, U, W, T,  rfl, ?_, ?_, ?_⟩
            · first | omega | (simp; done) | (simp_all; done) | (simp_all; omega)
            · (try simp (disch := omega) only [push_cast, Int.reduceToNat, Int.reduceLT, Int.reduceLE, Int.reduceAdd, Int.reduceSub, Int.reduceMul, Int.reduceNeg, Int.reduceEq, reduceCtorEq, Nat.reduceLeDiff, Nat.reduceLT, Nat.reduceEqDiff, Nat.reduceAdd, Nat.reduceMul, Nat.reduceSub, Int.cast_ofNat_Int, and1, and3, opc_get', List.length_map, Hp.join_set, Hp.get_join, Option.some_or, u8_set, getD_u8, hga, hgb, hlr, hwg, htk, hgn, la, lb, hlr]) <;> (first | done | rfl | (simp; done) | (simp; omega) | omega | (simp_all; done) | (simp_all; omega))
            · first | rfl | (try simp (disch := omega) only [push_cast, Int.reduceToNat, Int.reduceLT, Int.reduceLE, Int.reduceAdd, Int.reduceSub, Int.reduceMul, Int.reduceNeg, Int.reduceEq, reduceCtorEq, Nat.reduceLeDiff, Nat.reduceLT, Nat.reduceEqDiff, Nat.reduceAdd, Nat.reduceMul, Nat.reduceSub, Int.cast_ofNat_Int, and1, and3, opc_get', List.length_map, Hp.join_set, Hp.get_join, Option.some_or, u8_set, getD_u8, hga, hgb, hlr, hwg, htk, hgn, la, lb, hlr]) <;> (first | done | rfl | (simp; done) | (simp; omega) | omega | (simp_all; done) | (simp_all; omega))
            · exact ⟨by omega, by omega, hD, hj, la, hw, hS⟩
          all_goals try (cases hc; done)
          all_goals try simp only [push_cast] at hc
          all_goals try (exfalso; omega)
          all_goals
           have hwk := wrow_get hlw hlt (lowN (oat ops i).file 2 * 4 + k) (by omega)
           rw [syW_at k (by omega)] at hwk
           have hwl := hS.wl hf2 (s := k) (by omega)
           refine Sk ?_
           refine WS.seq ?_
           refine Bk fun K4 hK4 => ?_
           refine WS.seq (WS.seq ?_)
           refine R0 fun K hK => ?_
           try simp (maxSteps := 4000000) (disch := omega) only [push_cast, Nat.reduceLT, Nat.reduceEqDiff, Nat.reduceAdd, Nat.reduceMul, Nat.reduceSub, Nat.reduceLeDiff, Int.reduceToNat, Int.reduceLT, Int.reduceLE, Int.reduceAdd, Int.reduceSub, Int.reduceMul, Int.reduceNeg, Int.reduceEq, reduceCtorEq, Int.cast_ofNat_Int, Hp.get_set, and1, and3, opc_get', List.length_map, Hp.join_set, Hp.get_join, Option.some_or, u8_set, getD_u8, hga, hgb, hlr, hwg, htk, hgn, la, lb, hlr, hwk]
           (repeat refine And.intro (by first | omega | (simp; done) | (simp_all; done) | (simp_all; omega)) ?_)
           refine Qk hK [0, 1, 5, 7, 8, 9, 10, 12, 13] ?_
           clear hK K
           refine WS.seq ?_
           refine R0 fun K hK => ?_
           try simp (maxSteps := 4000000) (disch := omega) only [push_cast, Nat.reduceLT, Nat.reduceEqDiff, Int.reduceToNat, Int.reduceLT, Int.reduceLE, Int.reduceAdd, Int.reduceSub, Int.reduceMul, Int.reduceNeg, Int.reduceEq, reduceCtorEq, Int.cast_ofNat_Int, Hp.get_set, and1, and3, opc_get', List.length_map, Hp.join_set, Hp.get_join, Option.some_or, u8_set, getD_u8, hga, hgb, hlr, hwg, htk, hgn, la, lb, hlr, hwk]
           refine Qk hK [0, 1, 5, 7, 8, 9, 10, 12, 13, 114] ?_
           clear hK K
           refine CI rfl (fun hc => ?_) (fun hc => ?_)
           ·
            all_goals try (cases hc; done)
            all_goals try simp only [push_cast] at hc
            all_goals try (exfalso; omega)
            all_goals
             have hlm : (((W.getD (lowN (oat ops i).file 2 * 4 + k) []).length : Int) - 1).toNat = (W.getD (lowN (oat ops i).file 2 * 4 + k) []).length - 1 := by omega
             refine RD [] [] fo (by kernel_rfl) fun K hK => ?_
             try simp (maxSteps := 4000000) (disch := omega) only [push_cast, Nat.reduceLT, Nat.reduceEqDiff, Nat.reduceAdd, Nat.reduceMul, Nat.reduceSub, Nat.reduceLeDiff, Int.reduceToNat, Int.reduceLT, Int.reduceLE, Int.reduceAdd, Int.reduceSub, Int.reduceMul, Int.reduceNeg, Int.reduceEq, reduceCtorEq, Int.cast_ofNat_Int, Hp.get_set, and1, and3, opc_get', List.length_map, Hp.join_set, Hp.get_join, Option.some_or, u8_set, getD_u8, hga, hgb, hlr, hwg, htk, hgn, la, lb, hlr, hwk, hlm]
             (repeat refine And.intro (by first | omega | (simp; done) | (simp_all; done) | (simp_all; omega)) ?_)
             refine Qk hK [0, 1, 5, 7, 8, 9, 10, 12] ?_
             clear hK K
             refine R0 fun K hK => ?_
             try simp (maxSteps := 4000000) (disch := omega) only [push_cast, Nat.reduceLT, Nat.reduceEqDiff, Nat.reduceAdd, Nat.reduceMul, Nat.reduceSub, Nat.reduceLeDiff, Int.reduceToNat, Int.reduceLT, Int.reduceLE, Int.reduceAdd, Int.reduceSub, Int.reduceMul, Int.reduceNeg, Int.reduceEq, reduceCtorEq, Int.cast_ofNat_Int, Hp.get_set, and1, and3, opc_get', List.length_map, Hp.join_set, Hp.get_join, Option.some_or, u8_set, getD_u8, hga, hgb, hlr, hwg, htk, hgn, la, lb, hlr, hwk, hlm]
             (repeat refine And.intro (by first | omega | (simp; done) | (simp_all; done) | (simp_all; omega)) ?_)
             refine Qk hK [0, 1, 5, 7, 8, 9, 10, 12] ?_
             clear hK K
             simp only [push_cast, WS, Nat.reduceEqDiff]
             refine hK4 _ _ ?_
             clear hK4
             try clear K4
             refine WS_keep [0, 1, 5, 7, 8, 9, 10, 12] _ ?_
             first
             | refine S_nil (hw.keep la hab) (by omega) (hj2.upd la) (Hp.get_set_same _ _ _) hab (fun τl T hw hj2 la => ?_)
             | refine S_nil hw (by omega) hj2 la hab (fun τl T hw hj2 la => ?_)
             refine R0 fun K hK => ?_
             try simp (maxSteps := 4000000) (disch := omega) only [push_cast, Nat.reduceLT, Nat.reduceEqDiff, Int.reduceToNat, Int.reduceLT, Int.reduceLE, Int.reduceAdd, Int.reduceSub, Int.reduceMul, Int.reduceNeg, Int.reduceEq, reduceCtorEq, Int.cast_ofNat_Int, Hp.get_set, and1, and3, opc_get', List.length_map, Hp.join_set, Hp.get_join, Option.some_or, u8_set, getD_u8, hga, hgb, hlr, hwg, htk, hgn, la, lb, hlr, hwk, hlm]
             (repeat refine And.intro (by first | omega | (simp; done) | (simp_all; done) | (simp_all; omega)) ?_)
             refine Qk hK [0, 1, 5, 7, 8, 9, 10, 12] ?_
             clear hK K
             refine Ag (hM3 _ _ ?_)
             refine ⟨_, ?_, k + 1, τl, T,  rfl, ?_, ?_, ?_⟩
             · first | omega | (simp; done) | (simp_all; done) | (simp_all; omega)
             · (try simp (disch := omega) only [push_cast, Int.reduceToNat, Int.reduceLT, Int.reduceLE, Int.reduceAdd, Int.reduceSub, Int.reduceMul, Int.reduceNeg, Int.reduceEq, reduceCtorEq, Nat.reduceLeDiff, Nat.reduceLT, Nat.reduceEqDiff, Nat.reduceAdd, Nat.reduceMul, Nat.reduceSub, Int.cast_ofNat_Int, and1, and3, opc_get', List.length_map, Hp.join_set, Hp.get_join, Option.some_or, u8_set, getD_u8, hga, hgb, hlr, hwg, htk, hgn, la, lb, hlr, hwk, hlm]) <;> (first | done | rfl | (simp; done) | (simp; omega) | omega | (simp_all; done) | (simp_all; omega))
             · first | rfl | (try simp (disch := omega) only [push_cast, Int.reduceToNat, Int.reduceLT, Int.reduceLE, Int.reduceAdd, Int.reduceSub, Int.reduceMul, Int.reduceNeg, Int.reduceEq, reduceCtorEq, Nat.reduceLeDiff, Nat.reduceLT, Nat.reduceEqDiff, Nat.reduceAdd, Nat.reduceMul, Nat.reduceSub, Int.cast_ofNat_Int, and1, and3, opc_get', List.length_map, Hp.join_set, Hp.get_join, Option.some_or, u8_set, getD_u8, hga, hgb, hlr, hwg, htk, hgn, la, lb, hlr, hwk, hlm]) <;> (first | done | rfl | (simp; done) | (simp; omega) | omega | (simp_all; done) | (simp_all; omega))
             · first | exact ⟨by omega, hj2, (by rw [syU_some (by omega)]; exact la), hw⟩ | exact ⟨by omega, hj2, (by rw [syU_none (by omega)]; exact la), hw⟩
           ·
            all_goals try (cases hc; done)
            all_goals try simp only [push_cast] at hc
            all_goals try (exfalso; omega)
            all_goals
             refine Sk ?_
             refine R0 fun K hK => ?_
             try simp (maxSteps := 4000000) (disch := omega) only [push_cast, Nat.reduceLT, Nat.reduceEqDiff, Nat.reduceAdd, Nat.reduceMul, Nat.reduceSub, Nat.reduceLeDiff, Int.reduceToNat, Int.reduceLT, Int.reduceLE, Int.reduceAdd, Int.reduceSub, Int.reduceMul, Int.reduceNeg, Int.reduceEq, reduceCtorEq, Int.cast_ofNat_Int, Hp.get_set, and1, and3, opc_get', List.length_map, Hp.join_set, Hp.get_join, Option.some_or, u8_set, getD_u8, hga, hgb, hlr, hwg, htk, hgn, la, lb, hlr, hwk]
             (repeat refine And.intro (by first | omega | (simp; done) | (simp_all; done) | (simp_all; omega)) ?_)
             refine Qk hK [0, 1, 5, 7, 8, 9, 10, 12] ?_
             clear hK K
             simp only [push_cast, WS, Nat.reduceEqDiff]
             refine hK4 _ _ ?_
             clear hK4
             try clear K4
             refine WS_keep [0, 1, 5, 7, 8, 9, 10, 12] _ ?_
             first
             | refine S_nil (hw.keep la hab) (by omega) (hj2.upd la) (Hp.get_set_same _ _ _) hab (fun τl T hw hj2 la => ?_)
             | refine S_nil hw (by omega) hj2 la hab (fun τl T hw hj2 la => ?_)
             refine R0 fun K hK => ?_
             try simp (maxSteps := 4000000) (disch := omega) only [push_cast, Nat.reduceLT, Nat.reduceEqDiff, Int.reduceToNat, Int.reduceLT, Int.reduceLE, Int.reduceAdd, Int.reduceSub, Int.reduceMul, Int.reduceNeg, Int.reduceEq, reduceCtorEq, Int.cast_ofNat_Int, Hp.get_set, and1, and3, opc_get', List.length_map, Hp.join_set, Hp.get_join, Option.some_or, u8_set, getD_u8, hga, hgb, hlr, hwg, htk, hgn, la, lb, hlr, hwk]
             (repeat refine And.intro (by first | omega | (simp; done) | (simp_all; done) | (simp_all; omega)) ?_)
             refine Qk hK [0, 1, 5, 7, 8, 9, 10, 12] ?_
             clear hK K
             refine Ag (hM3 _ _ ?_)
             refine ⟨_, ?_, k + 1, τl, T,  rfl, ?_, ?_, ?_⟩
             · first | omega | (simp; done) | (simp_all; done) | (simp_all; omega)
             · (try simp (disch := omega) only [push_cast, Int.reduceToNat, Int.reduceLT, Int.reduceLE, Int.reduceAdd, Int.reduceSub, Int.reduceMul, Int.reduceNeg, Int.reduceEq, reduceCtorEq, Nat.reduceLeDiff, Nat.reduceLT, Nat.reduceEqDiff, Nat.reduceAdd, Nat.reduceMul, Nat.reduceSub, Int.cast_ofNat_Int, and1, and3, opc_get', List.length_map, Hp.join_set, Hp.get_join, Option.some_or, u8_set, getD_u8, hga, hgb, hlr, hwg, htk, hgn, la, lb, hlr, hwk]) <;> (first | done | rfl | (simp; done) | (simp; omega) | omega | (simp_all; done) | (simp_all; omega))
             · first | rfl | (try simp (disch := omega) only [push_cast, Int.reduceToNat, Int.reduceLT, Int.reduceLE, Int.reduceAdd, Int.reduceSub, Int.reduceMul, Int.reduceNeg, Int.reduceEq, reduceCtorEq, Nat.reduceLeDiff, Nat.reduceLT, Nat.reduceEqDiff, Nat.reduceAdd, Nat.reduceMul, Nat.reduceSub, Int.cast_ofNat_Int, and1, and3, opc_get', List.length_map, Hp.join_set, Hp.get_join, Option.some_or, u8_set, getD_u8, hga, hgb, hlr, hwg, htk, hgn, la, lb, hlr, hwk]) <;> (first | done | rfl | (simp; done) | (simp; omega) | omega | (simp_all; done) | (simp_all; omega))
             · first | exact ⟨by omega, hj2, (by rw [syU_some (by omega)]; exact la), hw⟩ | exact ⟨by omega, hj2, (by rw [syU_none (by omega)]; exact la), hw⟩
       ·
        all_goals try (cases hc; done)
        all_goals try simp only [push_cast] at hc
        all_goals try (exfalso; omega)
        all_goals
         refine WS.seq ?_
         refine R0 fun K hK => ?_
         try simp (maxSteps := 4000000) (disch := omega) only [push_cast, Nat.reduceLT, Nat.reduceEqDiff, Int.reduceToNat, Int.reduceLT, Int.reduceLE, Int.reduceAdd, Int.reduceSub, Int.reduceMul, Int.reduceNeg, Int.reduceEq, reduceCtorEq, Int.cast_ofNat_Int, Hp.get_set, and1, and3, opc_get', List.length_map, Hp.join_set, Hp.get_join, Option.some_or, u8_set, getD_u8, hga, hgb, la, lb, hlr, hwg, htk, hgn]
         refine Qk hK [0, 1, 5, 7, 8, 9, 132] ?_
         clear hK K
         refine CI rfl (fun hc => ?_) (fun hc => ?_)
         ·
          all_goals try (cases hc; done)
          all_goals try simp only [push_cast] at hc
          all_goals try (exfalso; omega)
          all_goals
           refine R0 fun K hK => ?_
           try simp (maxSteps := 4000000) (disch := omega) only [push_cast, Nat.reduceLT, Nat.reduceEqDiff, Nat.reduceAdd, Nat.reduceMul, Nat.reduceSub, Nat.reduceLeDiff, Int.reduceToNat, Int.reduceLT, Int.reduceLE, Int.reduceAdd, Int.reduceSub, Int.reduceMul, Int.reduceNeg, Int.reduceEq, reduceCtorEq, Int.cast_ofNat_Int, Hp.get_set, and1, and3, opc_get', List.length_map, Hp.join_set, Hp.get_join, Option.some_or, u8_set, getD_u8, hga, hgb, la, lb, hlr, hwg, htk, hgn]
           (repeat refine And.intro (by first | omega | (simp; done) | (simp_all; done) | (simp_all; omega)) ?_)
           refine callF (fail_spec (D := D) _ hD) hj (fun v σ2 h hj2 => ?_)
           obtain ⟨rfl, hD2⟩ := h
           have hS2 := (hS.fail (oat ops i).n).up
           try simp (maxSteps := 4000000) (disch := omega) only [push_cast, Nat.reduceLT, Nat.reduceEqDiff, Nat.reduceAdd, Nat.reduceMul, Nat.reduceSub, Nat.reduceLeDiff, Int.reduceToNat, Int.reduceLT, Int.reduceLE, Int.reduceAdd, Int.reduceSub, Int.reduceMul, Int.reduceNeg, Int.reduceEq, reduceCtorEq, Int.cast_ofNat_Int, Hp.get_set, and1, and3, opc_get', List.length_map, Hp.join_set, Hp.get_join, Option.some_or, u8_set, getD_u8, hga, hgb, la, lb, hlr, hwg, htk, hgn]
           (repeat refine And.intro (by first | omega | (simp; done) | (simp_all; done) | (simp_all; omega)) ?_)
           refine Qk hK [0, 1, 5, 7, 8, 9] ?_
           clear hK K
           simp only [push_cast, WS, Nat.reduceEqDiff]
           refine hK2 _ _ ?_
           clear hK2
           try clear K2
           simp only [push_cast, WS, Nat.reduceEqDiff]
           refine hK1 _ _ ?_
           clear hK1
           try clear K1
           refine WS_keep [0, 1, 5, 7, 8, 9] _ ?_
           refine S_any8 (d := d) (ga := ga) (gb := gb) (i := i + 1) (by
             first
             | exact ⟨σ2, _, _, _, _, _, rfl, hD2, (hj2.upd htk).upd (by simp only [Hp.get_set, hgn, if_false]; exact lb), by simp only [Hp.get_set, eq_false (Ne.symm hab), eq_false (hw.nea la (lowN (oat ops i).file 2 * 4 + lowN (oat ops i).sector 4) (by omega)), if_false]; exact la, hw.app (by omega) _ (by rfl) rfl, hW.elim (fun h => h.2) (fun h => absurd hc h.1)⟩
             | exact ⟨σ2, _, _, _, _, _, rfl, hD2, hj2, la, hw, hS2⟩
             | exact ⟨σ2, _, _, _, _, _, rfl, hD2, hj2, la, hw, hY.elim (fun h => absurd h.1 hc) (fun h => h.2)⟩
             | exact ⟨σ2, _, _, _, _, _, rfl, hD2, hj2, la, hw, hW.elim (fun h => absurd h.1 hc) (fun h => h.2)⟩
             | exact ⟨σd, _, _, _, _, _, rfl, hD, hj, la, hw, hS.up⟩) (fun σd τl D U W T hD hj la hw hS => ?_)
           refine R0 fun K hK => ?_
           try simp (maxSteps := 4000000) (disch := omega) only [push_cast, Nat.reduceLT, Nat.reduceEqDiff, Int.reduceToNat, Int.reduceLT, Int.reduceLE, Int.reduceAdd, Int.reduceSub, Int.reduceMul, Int.reduceNeg, Int.reduceEq, reduceCtorEq, Int.cast_ofNat_Int, Hp.get_set, and1, and3, opc_get', List.length_map, Hp.join_set, Hp.get_join, Option.some_or, u8_set, getD_u8, hga, hgb, la, lb, hlr, hwg, htk, hgn]
           (repeat refine And.intro (by first | omega | (simp; done) | (simp_all; done) | (simp_all; omega)) ?_)
           refine Qk hK [0, 1, 5, 7, 8, 9] ?_
           clear hK K
           refine Ag (hM0 _ _ ?_)
           refine ⟨_, ?_, i + 1, σd, τl, D, U, W, T,  rfl, ?_, ?_, ?_⟩
           · first | omega | (simp; done) | (simp_all; done) | (simp_all; omega)
           · (try simp (disch := omega) only [push_cast, Int.reduceToNat, Int.reduceLT, Int.reduceLE, Int.reduceAdd, Int.reduceSub, Int.reduceMul, Int.reduceNeg, Int.reduceEq, reduceCtorEq, Nat.reduceLeDiff, Nat.reduceLT, Nat.reduceEqDiff, Nat.reduceAdd, Nat.reduceMul, Nat.reduceSub, Int.cast_ofNat_Int, and1, and3, opc_get', List.length_map, Hp.join_set, Hp.get_join, Option.some_or, u8_set, getD_u8, hga, hgb, la, lb, hlr, hwg, htk, hgn]) <;> (first | done | rfl | (simp; done) | (simp; omega) | omega | (simp_all; done) | (simp_all; omega))
           · first | rfl | (try simp (disch := omega) only [push_cast, Int.reduceToNat, Int.reduceLT, Int.reduceLE, Int.reduceAdd, Int.reduceSub, Int.reduceMul, Int.reduceNeg, Int.reduceEq, reduceCtorEq, Nat.reduceLeDiff, Nat.reduceLT, Nat.reduceEqDiff, Nat.reduceAdd, Nat.reduceMul, Nat.reduceSub, Int.cast_ofNat_Int, and1, and3, opc_get', List.length_map, Hp.join_set, Hp.get_join, Option.some_or, u8_set, getD_u8, hga, hgb, la, lb, hlr, hwg, htk, hgn]) <;> (first | done | rfl | (simp; done) | (simp; omega) | omega | (simp_all; done) | (simp_all; omega))
           · exact ⟨by omega, by omega, hD, hj, la, hw, hS⟩
         ·
          all_goals try (cases hc; done)
          all_goals try simp only [push_cast] at hc
          all_goals try (exfalso; omega)
          all_goals
           refine Sk ?_
           simp only [push_cast, WS, Nat.reduceEqDiff]
           refine hK2 _ _ ?_
           clear hK2
           try clear K2
           simp only [push_cast, WS, Nat.reduceEqDiff]
           refine hK1 _ _ ?_
           clear hK1
           try clear K1
           refine WS_keep [0, 1, 5, 7, 8, 9] _ ?_
           refine S_any8 (d := d) (ga := ga) (gb := gb) (i := i + 1) (by
             first
             | exact ⟨σ2, _, _, _, _, _, rfl, hD2, (hj2.upd htk).upd (by simp only [Hp.get_set, hgn, if_false]; exact lb), by simp only [Hp.get_set, eq_false (Ne.symm hab), eq_false (hw.nea la (lowN (oat ops i).file 2 * 4 + lowN (oat ops i).sector 4) (by omega)), if_false]; exact la, hw.app (by omega) _ (by rfl) rfl, hW.elim (fun h => h.2) (fun h => absurd hc h.1)⟩
             | exact ⟨σ2, _, _, _, _, _, rfl, hD2, hj2, la, hw, hS2⟩
             | exact ⟨σ2, _, _, _, _, _, rfl, hD2, hj2, la, hw, hY.elim (fun h => absurd h.1 hc) (fun h => h.2)⟩
             | exact ⟨σ2, _, _, _, _, _, rfl, hD2, hj2, la, hw, hW.elim (fun h => absurd h.1 hc) (fun h => h.2)⟩
             | exact ⟨σd, _, _, _, _, _, rfl, hD, hj, la, hw, hS.up⟩) (fun σd τl D U W T hD hj la hw hS => ?_)
           refine R0 fun K hK => ?_
           try simp (maxSteps := 4000000) (disch := omega) only [push_cast, Nat.reduceLT, Nat.reduceEqDiff, Int.reduceToNat, Int.reduceLT, Int.reduceLE, Int.reduceAdd, Int.reduceSub, Int.reduceMul, Int.reduceNeg, Int.reduceEq, reduceCtorEq, Int.cast_ofNat_Int, Hp.get_set, and1, and3, opc_get', List.length_map, Hp.join_set, Hp.get_join, Option.some_or, u8_set, getD_u8, hga, hgb, la, lb, hlr, hwg, htk, hgn]
           (repeat refine And.intro (by first | omega | (simp; done) | (simp_all; done) | (simp_all; omega)) ?_)
           refine Qk hK [0, 1, 5, 7, 8, 9] ?_
           clear hK K
           refine Ag (hM0 _ _ ?_)
           refine ⟨_, ?_, i + 1, σd, τl, D, U, W, T,  rfl, ?_, ?_, ?_⟩
           · first | omega | (simp; done) | (simp_all; done) | (simp_all; omega)
           · (try simp (disch := omega) only [push_cast, Int.reduceToNat, Int.reduceLT, Int.reduceLE, Int.reduceAdd, Int.reduceSub, Int.reduceMul, Int.reduceNeg, Int.reduceEq, reduceCtorEq, Nat.reduceLeDiff, Nat.reduceLT, Nat.reduceEqDiff, Nat.reduceAdd, Nat.reduceMul, Nat.reduceSub, Int.cast_ofNat_Int, and1, and3, opc_get', List.length_map, Hp.join_set, Hp.get_join, Option.some_or, u8_set, getD_u8, hga, hgb, la, lb, hlr, hwg, htk, hgn]) <;> (first | done | rfl | (simp; done) | (simp; omega) | omega | (simp_all; done) | (simp_all; omega))
           · first | rfl | (try simp (disch := omega) only [push_cast, Int.reduceToNat, Int.reduceLT, Int.reduceLE, Int.reduceAdd, Int.reduceSub, Int.reduceMul, Int.reduceNeg, Int.reduceEq, reduceCtorEq, Nat.reduceLeDiff, Nat.reduceLT, Nat.reduceEqDiff, Nat.reduceAdd, Nat.reduceMul, Nat.reduceSub, Int.cast_ofNat_Int, and1, and3, opc_get', List.length_map, Hp.join_set, Hp.get_join, Option.some_or, u8_set, getD_u8, hga, hgb, la, lb, hlr, hwg, htk, hgn]) <;> (first | done | rfl | (simp; done) | (simp; omega) | omega | (simp_all; done) | (simp_all; omega))
           · exact ⟨by omega, by omega, hD, hj, la, hw, hS⟩
end Go.Vm.Try
