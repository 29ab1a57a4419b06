/- Walks of functions of the program, and laws of what they compute. -/
import Derived.Test.YtbicfijohjijhaaVdA
set_option linter.unusedSimpArgs false
set_option linter.unusedVariables false
set_option maxHeartbeats 4000000
namespace Go.Vm.Try
open Go.Proofs
def surely (f : Int) (ws : List (Plc × Sec)) (m : List (Plc × Sec)) : List (Plc × Sec) := ws.foldl (fun m w => if w.1.1 = f then setL w.1 w.2 m else m) m
def leftF (f : Int) (ws : List (Plc × Sec)) : List (Plc × Sec) := ws.filter fun w => !decide (w.1.1 = f)
def syncD (D : Disk) (f : Int) : Disk := { D with sure := surely f D.waits D.sure, waits := leftF f D.waits }
def syncE (D : Disk) (f : Int) : Int := if askV D f false = 0 then changeV D else askV D f false
def syncF (D : Disk) (f : Int) : Disk := if askV D f false = 0 then (if changeV D = 0 then syncD (changeD D) f else changeD D) else D
theorem getD_encW (l : List (Plc × Sec)) (i : Nat) (h : i < l.length) : (l.map encW).getD i .dead = encW (l.getD i default) := by simp [h]
theorem surely_take (f : Int) (ws : List (Plc × Sec)) (m : List (Plc × Sec)) (i : Nat) (h : i < ws.length) : surely f (ws.take (i + 1)) m = if (ws.getD i default).1.1 = f then setL (ws.getD i default).1 (ws.getD i default).2 (surely f (ws.take i) m) else surely f (ws.take i) m := by
  unfold surely
  rw [List.take_add_one, List.foldl_append]
  simp [h]
theorem leftF_take (f : Int) (ws : List (Plc × Sec)) (i : Nat) (h : i < ws.length) : leftF f (ws.take (i + 1)) = if (ws.getD i default).1.1 = f then leftF f (ws.take i) else leftF f (ws.take i) ++ [ws.getD i default] := by
  unfold leftF
  rw [List.take_add_one, List.filter_append]
  simp only [List.getElem?_eq_getElem h, Option.toList_some, List.getD_eq_getElem?_getD, Option.getD_some]
  by_cases e : (ws[i]).1.1 = f <;> simp [e]
theorem leftF_len (f : Int) (ws : List (Plc × Sec)) (i : Nat) : (leftF f (ws.take i)).length ≤ ws.length := by
  have h1 : (leftF f (ws.take i)).length ≤ (ws.take i).length := List.length_filter_le _ _
  have h2 : (ws.take i).length ≤ ws.length := by simp; omega
  omega
structure SyncJ (D : Disk) (f : Int) (d g1 g2 gl : Nat) (wv : V) (i : Nat) (σ : Hp) : Prop where
  hd : σ.get d = some (.cells (dcells D g1 g2 wv))
  m1 : ∃ s c, σ.get g1 = some (.map (encM (surely f (D.waits.take i) D.sure)) s c)
  m2 : ∃ s c, σ.get g2 = some (.map (encM D.shown) s c)
  l : σ.get gl = some (.tok 3 (leftF f (D.waits.take i)).length)
theorem encW_cells (w : Plc × Sec) : (encW w).cells = [.int .i64 w.1.1, .int .i64 w.1.2, row w.2] := rfl

theorem sync_spec {σ : Hp} {D : Disk} {d : Nat} (file : Int) (hwl : D.waits.length ≤ 1000000) (h : DiskAt D d σ) : Spec Go.Proofs.Try.prog 29 [.ptr d 0, .int .i64 file] (σ) (fun v σ' => v = .int .i64 (syncE D file) ∧ DiskAt (syncF D file) d σ') := by
 refine introS (n := 52) (rs := [.tmp 4]) (fn := Go.Proofs.Try.f29) (by rfl) rfl (by kernel_rfl) rfl rfl (Nat.le_of_ble_eq_true rfl) (fun Q0 hQ0 => ?_)
 have hD0 := h
 obtain ⟨g1, g2, gt, s1, c1, s2, c2, hD⟩ := h
 have hd := hD.hd
 refine WS.seq ?_
 refine A1 [0, 1] (by decide) ?_
 refine WS.seq (WS.seq ?_)
 refine R0 fun K hK => ?_
 try simp (maxSteps := 4000000) (disch := omega) only [push_cast, Nat.reduceLT, Nat.reduceEqDiff, Hp.get_set, dcells, List.length_map, getD_encW, encW, row, setV_enc2, keysOk_enc, isKey, isInt, room, hd]
 first
  | (refine callP (ask_nil _ _) rfl ?_)
  | (refine callS (ask_spec _ _ hd) (fun v τ h => ?_)
     obtain ⟨rfl, rfl⟩ := h)
 try simp (maxSteps := 4000000) (disch := omega) only [push_cast, Nat.reduceLT, Nat.reduceEqDiff, Hp.get_set, dcells, List.length_map, getD_encW, encW, row, setV_enc2, keysOk_enc, isKey, isInt, room, hd]
 refine Qk hK [0, 1, 5] ?_
 clear hK K
 refine WS.seq ?_
 refine R0 fun K hK => ?_
 try simp (maxSteps := 4000000) (disch := omega) only [push_cast, Nat.reduceLT, Nat.reduceEqDiff, Int.reduceToNat, Int.reduceLT, Int.reduceLE, Int.reduceAdd, Int.reduceSub, Int.reduceMul, Int.reduceNeg, Int.reduceEq, reduceCtorEq, Int.cast_ofNat_Int, Hp.get_set, dcells, List.length_map, getD_encW, encW, row, setV_enc2, keysOk_enc, isKey, isInt, room, hd]
 refine Qk hK [0, 1, 5, 14] ?_
 clear hK K
 refine CI rfl (fun hc => ?_) (fun hc => ?_)
 ·
  all_goals try (cases hc; done)
  all_goals try simp only [push_cast] at hc
  all_goals try (exfalso; omega)
  all_goals
   refine WS.seq ?_
   refine R0 fun K hK => ?_
   try simp (maxSteps := 4000000) (disch := omega) only [push_cast, Nat.reduceLT, Nat.reduceEqDiff, Hp.get_set, dcells, List.length_map, getD_encW, encW, row, setV_enc2, keysOk_enc, isKey, isInt, room, hd]
   refine Qk hK [4] ?_
   clear hK K
   refine Rt ?_
   refine hQ0 _ _ _ ?_
   try simp (maxSteps := 4000000) only [push_cast, Int.reduceToNat, Int.reduceLT, Int.reduceLE, Int.reduceAdd, Int.reduceSub, Int.reduceMul, Int.reduceNeg, Int.reduceEq, reduceCtorEq, Nat.reduceLeDiff, Nat.reduceLT, Nat.reduceEqDiff, Nat.reduceAdd, Nat.reduceMul, Nat.reduceSub, Int.cast_ofNat_Int, dcells, List.length_map, getD_encW, encW, row, setV_enc2, keysOk_enc, isKey, isInt, room, hd]
   refine ⟨_, HSub.refl _, ?_⟩
   rw [syncE, syncF, if_neg hc, if_neg hc]; exact ⟨rfl, hD0⟩
 all_goals try (cases hc; done)
 all_goals try simp only [push_cast] at hc
 all_goals try (exfalso; omega)
 all_goals
  have ha := hc
  refine Sk ?_
  refine WS.seq (WS.seq ?_)
  refine R0 fun K hK => ?_
  try simp (maxSteps := 4000000) (disch := omega) only [push_cast, Nat.reduceLT, Nat.reduceEqDiff, Hp.get_set, dcells, List.length_map, getD_encW, encW, row, setV_enc2, keysOk_enc, isKey, isInt, room, hd]
  refine callS (change_spec hD0) (fun v τ h => ?_)
  obtain ⟨rfl, h⟩ := h
  try simp (maxSteps := 4000000) (disch := omega) only [push_cast, Nat.reduceLT, Nat.reduceEqDiff, Hp.get_set, dcells, List.length_map, getD_encW, encW, row, setV_enc2, keysOk_enc, isKey, isInt, room, hd]
  refine Qk hK [0, 1, 6] ?_
  clear hK K
  refine WS.seq ?_
  refine R0 fun K hK => ?_
  try simp (maxSteps := 4000000) (disch := omega) only [push_cast, Nat.reduceLT, Nat.reduceEqDiff, Int.reduceToNat, Int.reduceLT, Int.reduceLE, Int.reduceAdd, Int.reduceSub, Int.reduceMul, Int.reduceNeg, Int.reduceEq, reduceCtorEq, Int.cast_ofNat_Int, Hp.get_set, dcells, List.length_map, getD_encW, encW, row, setV_enc2, keysOk_enc, isKey, isInt, room, hd]
  refine Qk hK [0, 1, 6, 19] ?_
  clear hK K
  refine CI rfl (fun hc => ?_) (fun hc => ?_)
  ·
   all_goals try (cases hc; done)
   all_goals try simp only [push_cast] at hc
   all_goals try (exfalso; omega)
   all_goals
    refine WS.seq ?_
    refine R0 fun K hK => ?_
    try simp (maxSteps := 4000000) (disch := omega) only [push_cast, Nat.reduceLT, Nat.reduceEqDiff, Hp.get_set, dcells, List.length_map, getD_encW, encW, row, setV_enc2, keysOk_enc, isKey, isInt, room, hd]
    refine Qk hK [4] ?_
    clear hK K
    refine Rt ?_
    refine hQ0 _ _ _ ?_
    try simp (maxSteps := 4000000) only [push_cast, Int.reduceToNat, Int.reduceLT, Int.reduceLE, Int.reduceAdd, Int.reduceSub, Int.reduceMul, Int.reduceNeg, Int.reduceEq, reduceCtorEq, Nat.reduceLeDiff, Nat.reduceLT, Nat.reduceEqDiff, Nat.reduceAdd, Nat.reduceMul, Nat.reduceSub, Int.cast_ofNat_Int, dcells, List.length_map, getD_encW, encW, row, setV_enc2, keysOk_enc, isKey, isInt, room, hd]
    refine ⟨_, HSub.refl _, ?_⟩
    rw [syncE, syncF, if_pos ha, if_pos ha, if_neg hc]; exact ⟨rfl, h⟩
  all_goals try (cases hc; done)
  all_goals try simp only [push_cast] at hc
  all_goals try (exfalso; omega)
  all_goals
   have hch := hc
   obtain ⟨g1, g2, gt, s1, c1, s2, c2, hD⟩ := h
   have hd := hD.hd
   have hm1 := hD.m1
   have hm2 := hD.m2
   obtain ⟨⟨n1, n2⟩, ⟨n3, n4⟩, ⟨n5, n6⟩, ⟨n7, n8⟩, ⟨n9, n10⟩, ⟨n11, n12⟩⟩ := hD.nes
   have hwl2 : (changeD D).waits.length ≤ 1000000 := by rw [changeD_waits]; exact hwl
   clear hwl
   generalize hE : changeD D = E at *
   refine Sk ?_
   refine WS.seq ?_
   refine A1 [0, 1, 7] (by decide) ?_
   refine WS.seq (WS.seq ?_)
   refine R0 fun K hK => ?_
   try simp (maxSteps := 4000000) (disch := omega) only [push_cast, Nat.reduceLT, Nat.reduceEqDiff, Nat.reduceAdd, Nat.reduceMul, Nat.reduceSub, Nat.reduceLeDiff, Int.reduceToNat, Int.reduceLT, Int.reduceLE, Int.reduceAdd, Int.reduceSub, Int.reduceMul, Int.reduceNeg, Int.reduceEq, reduceCtorEq, Int.cast_ofNat_Int, Hp.get_set, dcells, List.length_map, getD_encW, encW, row, setV_enc2, keysOk_enc, isKey, isInt, room, hd]
   (repeat refine And.intro (by first | omega | (simp; done) | (simp_all; done) | (simp_all; omega)) ?_)
   refine Qk hK [0, 1, 7, 24, 25, 26] ?_
   clear hK K
   refine S_tok 7 3 rfl (fun gl hgl => ?_)
   have nl1 := Hp.ne_get hd hgl
   have nl2 := Hp.ne_get hm1 hgl
   have nl3 := Hp.ne_get hm2 hgl
   refine Bk fun K0 hK0 => ?_
   refine WS_keep [0, 1, 7, 24, 25, 26] _ ?_
   refine Lp (fun m env σ' => ∃ (i : Nat), m = E.waits.length - i ∧ env = [(0, .ptr d 0), (1, .int .i64 file), (7, .sl 3 ((leftF file (E.waits.take i)).map encW) (.tk gl)), (24, .sl 3 (E.waits.map encW) (.tk gt)), (25, .int .i64 E.waits.length), (26, .int .i64 i)] ∧ σ' = σ' ∧ (i ≤ E.waits.length ∧ SyncJ E file d g1 g2 gl (.sl 3 (E.waits.map encW) (.tk gt)) i σ')) ?_ ?_
   · refine ⟨_, 0,  rfl, ?_, ?_, ?_⟩
     · (try simp (disch := omega) only [push_cast, Int.reduceToNat, Int.reduceLT, Int.reduceLE, Int.reduceAdd, Int.reduceSub, Int.reduceMul, Int.reduceNeg, Int.reduceEq, reduceCtorEq, Nat.reduceLeDiff, Nat.reduceLT, Nat.reduceEqDiff, Nat.reduceAdd, Nat.reduceMul, Nat.reduceSub, Int.cast_ofNat_Int, dcells, List.length_map, getD_encW, encW, row, setV_enc2, keysOk_enc, isKey, isInt, room, hd, n1, n2, nl1, nl2]) <;> (first | done | rfl | (simp [leftF]; done) | ((first | rw [leftF_take file E.waits i (by omega), if_pos hc] | rw [leftF_take file E.waits i (by omega), if_neg hc]) <;> simp [encW, row]) | (simp; done) | (simp; omega) | omega | (simp_all; done) | (simp_all; omega))
     · first | rfl | (try simp (disch := omega) only [push_cast, Int.reduceToNat, Int.reduceLT, Int.reduceLE, Int.reduceAdd, Int.reduceSub, Int.reduceMul, Int.reduceNeg, Int.reduceEq, reduceCtorEq, Nat.reduceLeDiff, Nat.reduceLT, Nat.reduceEqDiff, Nat.reduceAdd, Nat.reduceMul, Nat.reduceSub, Int.cast_ofNat_Int, dcells, List.length_map, getD_encW, encW, row, setV_enc2, keysOk_enc, isKey, isInt, room, hd, n1, n2, nl1, nl2]) <;> (first | done | rfl | (simp [leftF]; done) | ((first | rw [leftF_take file E.waits i (by omega), if_pos hc] | rw [leftF_take file E.waits i (by omega), if_neg hc]) <;> simp [encW, row]) | (simp; done) | (simp; omega) | omega | (simp_all; done) | (simp_all; omega))
     · exact ⟨by omega, ⟨by simp [Hp.get_set, nl1, hd], ⟨s1, c1, by simp [Hp.get_set, nl2, hm1, surely]⟩, ⟨s2, c2, by simp [Hp.get_set, nl3, hm2]⟩, by simp [Hp.get_set, leftF]⟩⟩
   intro m env σ' hJ M0 hM0
   obtain ⟨i, rfl, rfl, -, hi, hJ⟩ := hJ
   obtain ⟨hd, ⟨s1, c1, hm1⟩, ⟨s2, c2, hm2⟩, hl⟩ := hJ
   have hll := leftF_len file E.waits i
   refine WS.seq ?_
   refine R0 fun K hK => ?_
   try simp (maxSteps := 4000000) (disch := omega) only [push_cast, Nat.reduceLT, Nat.reduceEqDiff, Int.reduceToNat, Int.reduceLT, Int.reduceLE, Int.reduceAdd, Int.reduceSub, Int.reduceMul, Int.reduceNeg, Int.reduceEq, reduceCtorEq, Int.cast_ofNat_Int, Hp.get_set, dcells, List.length_map, getD_encW, encW, row, setV_enc2, keysOk_enc, isKey, isInt, room, n1, n2, nl1, nl2, hd, hm1, hm2, hl]
   refine Qk hK [0, 1, 7, 24, 25, 26, 27] ?_
   clear hK K
   refine WS.seq ?_
   refine CI rfl (fun hc => ?_) (fun hc => ?_)
   rotate_left
   ·
    all_goals try (cases hc; done)
    all_goals try simp only [push_cast] at hc
    all_goals try (exfalso; omega)
    all_goals
     refine Ex ?_
     simp only [push_cast, WS, Nat.reduceEqDiff]
     refine hK0 _ _ ?_
     clear hK0
     try clear K0
     refine WS_keep [0, 7] _ ?_
     refine WS.seq ?_
     refine R0 fun K hK => ?_
     try simp (maxSteps := 4000000) (disch := omega) only [push_cast, Nat.reduceLT, Nat.reduceEqDiff, Nat.reduceAdd, Nat.reduceMul, Nat.reduceSub, Nat.reduceLeDiff, Hp.get_set, dcells, List.length_map, getD_encW, encW, row, setV_enc2, keysOk_enc, isKey, isInt, room, n1, n2, nl1, nl2, hd, hm1, hm2, hl]
     (repeat refine And.intro (by first | omega | (simp; done) | (simp_all; done) | (simp_all; omega)) ?_)
     refine Qk hK [] ?_
     clear hK K
     refine WS.seq ?_
     refine A1 [4] (by decide) ?_
     refine Rt ?_
     refine hQ0 _ _ _ ?_
     try simp (maxSteps := 4000000) only [push_cast, Int.reduceToNat, Int.reduceLT, Int.reduceLE, Int.reduceAdd, Int.reduceSub, Int.reduceMul, Int.reduceNeg, Int.reduceEq, reduceCtorEq, Nat.reduceLeDiff, Nat.reduceLT, Nat.reduceEqDiff, Nat.reduceAdd, Nat.reduceMul, Nat.reduceSub, Int.cast_ofNat_Int, dcells, List.length_map, getD_encW, encW, row, setV_enc2, keysOk_enc, isKey, isInt, room, n1, n2, nl1, nl2, hd, hm1, hm2, hl]
     have hi2 : i = E.waits.length := by omega
     subst hi2
     refine ⟨_, HSub.refl _, ?_⟩
     rw [syncE, syncF, if_pos ha, if_pos ha, if_pos hch, hE, hch]
     refine ⟨rfl, DiskAt.of (gt := gl) (g1 := g1) (g2 := g2) ?_ ?_ ?_ ?_ ?_ ?_ ?_ ?_ ?_ ?_⟩
     · simp [Hp.get_set, dcells, syncD]
     · exact ⟨s1, c1, by simp [Hp.get_set, n1, hm1, syncD]⟩
     · exact ⟨s2, c2, by simp [Hp.get_set, n3, hm2, syncD]⟩
     · simp [Hp.get_set, nl1, hl, syncD]
     all_goals simp [n1, n3, n7, nl1, nl2, nl3]
   all_goals try (cases hc; done)
   all_goals try simp only [push_cast] at hc
   all_goals try (exfalso; omega)
   all_goals
    refine Sk ?_
    refine WS.seq ?_
    refine Bk fun K1 hK1 => ?_
    refine WS.seq ?_
    refine R0 fun K hK => ?_
    try simp (maxSteps := 4000000) (disch := omega) only [push_cast, Nat.reduceLT, Nat.reduceEqDiff, Nat.reduceAdd, Nat.reduceMul, Nat.reduceSub, Nat.reduceLeDiff, Int.reduceToNat, Int.reduceLT, Int.reduceLE, Int.reduceAdd, Int.reduceSub, Int.reduceMul, Int.reduceNeg, Int.reduceEq, reduceCtorEq, Int.cast_ofNat_Int, Hp.get_set, dcells, List.length_map, getD_encW, encW, row, setV_enc2, keysOk_enc, isKey, isInt, room, n1, n2, nl1, nl2, hd, hm1, hm2, hl]
    (repeat refine And.intro (by first | omega | (simp; done) | (simp_all; done) | (simp_all; omega)) ?_)
    refine fun g10_2 hg10_2 => ?_
    try simp only [Hp.set_none, Hp.join_none_iff] at hg10_2
    have nhd_10_2 := Hp.ne_get hd (by first | exact hg10_2 | exact hg10_2.2.2 | exact hg10_2.2.2.2.2 | exact hg10_2.2.2.2.2.2.2 | simp_all)
    have nhm1_10_2 := Hp.ne_get hm1 (by first | exact hg10_2 | exact hg10_2.2.2 | exact hg10_2.2.2.2.2 | exact hg10_2.2.2.2.2.2.2 | simp_all)
    have nhm2_10_2 := Hp.ne_get hm2 (by first | exact hg10_2 | exact hg10_2.2.2 | exact hg10_2.2.2.2.2 | exact hg10_2.2.2.2.2.2.2 | simp_all)
    have nhl_10_2 := Hp.ne_get hl (by first | exact hg10_2 | exact hg10_2.2.2 | exact hg10_2.2.2.2.2 | exact hg10_2.2.2.2.2.2.2 | simp_all)
    try simp (maxSteps := 4000000) (disch := omega) only [push_cast, Nat.reduceLT, Nat.reduceEqDiff, Nat.reduceAdd, Nat.reduceMul, Nat.reduceSub, Nat.reduceLeDiff, Int.reduceToNat, Int.reduceLT, Int.reduceLE, Int.reduceAdd, Int.reduceSub, Int.reduceMul, Int.reduceNeg, Int.reduceEq, reduceCtorEq, Int.cast_ofNat_Int, Hp.get_set, dcells, List.length_map, getD_encW, encW, row, setV_enc2, keysOk_enc, isKey, isInt, room, n1, n2, nl1, nl2, hd, hm1, hm2, hl, hg10_2, nhd_10_2, nhm1_10_2, nhm2_10_2, nhl_10_2]
    (repeat refine And.intro (by first | omega | (simp; done) | (simp_all; done) | (simp_all; omega)) ?_)
    refine Qk hK [0, 1, 7, 9, 24, 25, 26] ?_
    clear hK K
    refine WS.seq ?_
    refine R0 fun K hK => ?_
    try simp (maxSteps := 4000000) (disch := omega) only [push_cast, Nat.reduceLT, Nat.reduceEqDiff, Nat.reduceAdd, Nat.reduceMul, Nat.reduceSub, Nat.reduceLeDiff, Int.reduceToNat, Int.reduceLT, Int.reduceLE, Int.reduceAdd, Int.reduceSub, Int.reduceMul, Int.reduceNeg, Int.reduceEq, reduceCtorEq, Int.cast_ofNat_Int, Hp.get_set, dcells, List.length_map, getD_encW, encW, row, setV_enc2, keysOk_enc, isKey, isInt, room, n1, n2, nl1, nl2, hd, hm1, hm2, hl, hg10_2, nhd_10_2, nhm1_10_2, nhm2_10_2, nhl_10_2]
    (repeat refine And.intro (by first | omega | (simp; done) | (simp_all; done) | (simp_all; omega)) ?_)
    refine Qk hK [0, 1, 7, 9, 24, 25, 26, 34] ?_
    clear hK K
    refine CI rfl (fun hc => ?_) (fun hc => ?_)
    ·
     all_goals try (cases hc; done)
     all_goals try simp only [push_cast] at hc
     all_goals try (exfalso; omega)
     all_goals
      refine RD [] [] fo (by kernel_rfl) fun K hK => ?_
      try simp (maxSteps := 4000000) (disch := omega) only [push_cast, Nat.reduceLT, Nat.reduceEqDiff, Nat.reduceAdd, Nat.reduceMul, Nat.reduceSub, Nat.reduceLeDiff, Hp.get_set, dcells, List.length_map, getD_encW, encW, row, setV_enc2, keysOk_enc, isKey, isInt, room, n1, n2, nl1, nl2, hd, hm1, hm2, hl, hg10_2, nhd_10_2, nhm1_10_2, nhm2_10_2, nhl_10_2]
      (repeat refine And.intro (by first | omega | (simp; done) | (simp_all; done) | (simp_all; omega)) ?_)
      refine Qk hK [0, 1, 7, 24, 25, 26] ?_
      clear hK K
      simp only [push_cast, WS, Nat.reduceEqDiff]
      refine hK1 _ _ ?_
      clear hK1
      try clear K1
      refine WS_keep [0, 1, 7, 24, 25, 26] _ ?_
      refine R0 fun K hK => ?_
      try simp (maxSteps := 4000000) (disch := omega) only [push_cast, Nat.reduceLT, Nat.reduceEqDiff, Int.reduceToNat, Int.reduceLT, Int.reduceLE, Int.reduceAdd, Int.reduceSub, Int.reduceMul, Int.reduceNeg, Int.reduceEq, reduceCtorEq, Int.cast_ofNat_Int, Hp.get_set, dcells, List.length_map, getD_encW, encW, row, setV_enc2, keysOk_enc, isKey, isInt, room, n1, n2, nl1, nl2, hd, hm1, hm2, hl, hg10_2, nhd_10_2, nhm1_10_2, nhm2_10_2, nhl_10_2]
      (repeat refine And.intro (by first | omega | (simp; done) | (simp_all; done) | (simp_all; omega)) ?_)
      refine Qk hK [0, 1, 7, 24, 25, 26] ?_
      clear hK K
      refine Ag (hM0 _ _ ?_)
      refine ⟨_, ?_, i + 1,  rfl, ?_, ?_, ?_⟩
      · first | omega | (simp; done) | (simp_all; done) | (simp_all; omega)
      · (try simp (disch := omega) only [push_cast, Int.reduceToNat, Int.reduceLT, Int.reduceLE, Int.reduceAdd, Int.reduceSub, Int.reduceMul, Int.reduceNeg, Int.reduceEq, reduceCtorEq, Nat.reduceLeDiff, Nat.reduceLT, Nat.reduceEqDiff, Nat.reduceAdd, Nat.reduceMul, Nat.reduceSub, Int.cast_ofNat_Int, dcells, List.length_map, getD_encW, encW, row, setV_enc2, keysOk_enc, isKey, isInt, room, n1, n2, nl1, nl2, hd, hm1, hm2, hl, hg10_2, nhd_10_2, nhm1_10_2, nhm2_10_2, nhl_10_2]) <;> (first | done | rfl | (simp [leftF]; done) | ((first | rw [leftF_take file E.waits i (by omega), if_pos hc] | rw [leftF_take file E.waits i (by omega), if_neg hc]) <;> simp [encW, row]) | (simp; done) | (simp; omega) | omega | (simp_all; done) | (simp_all; omega))
      · first | rfl | (try simp (disch := omega) only [push_cast, Int.reduceToNat, Int.reduceLT, Int.reduceLE, Int.reduceAdd, Int.reduceSub, Int.reduceMul, Int.reduceNeg, Int.reduceEq, reduceCtorEq, Nat.reduceLeDiff, Nat.reduceLT, Nat.reduceEqDiff, Nat.reduceAdd, Nat.reduceMul, Nat.reduceSub, Int.cast_ofNat_Int, dcells, List.length_map, getD_encW, encW, row, setV_enc2, keysOk_enc, isKey, isInt, room, n1, n2, nl1, nl2, hd, hm1, hm2, hl, hg10_2, nhd_10_2, nhm1_10_2, nhm2_10_2, nhl_10_2]) <;> (first | done | rfl | (simp [leftF]; done) | ((first | rw [leftF_take file E.waits i (by omega), if_pos hc] | rw [leftF_take file E.waits i (by omega), if_neg hc]) <;> simp [encW, row]) | (simp; done) | (simp; omega) | omega | (simp_all; done) | (simp_all; omega))
      · 
         refine ⟨by omega, ⟨?_, ?_, ?_, ?_⟩⟩
         · simp [Hp.get_set, n1, n2, nl1, nhd_10_2, hd]
         · first
           | exact ⟨_, _, by rw [surely_take file E.waits E.sure i (by omega), if_pos hc]; simp only [Hp.get_set, n1, n2, nl2, nhm1_10_2, if_true, if_false, hm1] <;> rfl⟩
           | exact ⟨_, _, by rw [surely_take file E.waits E.sure i (by omega), if_neg hc]; simp only [Hp.get_set, n1, n2, nl2, nhm1_10_2, if_true, if_false, hm1] <;> rfl⟩
         · exact ⟨s2, c2, by simp only [Hp.get_set, n7, n8, nl3, nhm2_10_2, if_true, if_false, hm2]⟩
         · first
           | (rw [leftF_take file E.waits i (by omega), if_pos hc]; simp only [Hp.get_set, nl2, nl1, nhl_10_2, if_true, if_false, hl]; done)
           | (rw [leftF_take file E.waits i (by omega), if_neg hc]; simp [Hp.get_set, nl2, nl1, nhl_10_2, hl])
    ·
     all_goals try (cases hc; done)
     all_goals try simp only [push_cast] at hc
     all_goals try (exfalso; omega)
     all_goals
      refine R0 fun K hK => ?_
      try simp (maxSteps := 4000000) (disch := omega) only [push_cast, Nat.reduceLT, Nat.reduceEqDiff, Nat.reduceAdd, Nat.reduceMul, Nat.reduceSub, Nat.reduceLeDiff, Int.reduceToNat, Int.reduceLT, Int.reduceLE, Int.reduceAdd, Int.reduceSub, Int.reduceMul, Int.reduceNeg, Int.reduceEq, reduceCtorEq, Int.cast_ofNat_Int, Hp.get_set, dcells, List.length_map, getD_encW, encW, row, setV_enc2, keysOk_enc, isKey, isInt, room, n1, n2, nl1, nl2, hd, hm1, hm2, hl, hg10_2, nhd_10_2, nhm1_10_2, nhm2_10_2, nhl_10_2]
      (repeat refine And.intro (by first | omega | (simp; done) | (simp_all; done) | (simp_all; omega)) ?_)
      try simp (maxSteps := 4000000) (disch := omega) only [push_cast, Nat.reduceLT, Nat.reduceEqDiff, Nat.reduceAdd, Nat.reduceMul, Nat.reduceSub, Nat.reduceLeDiff, Int.reduceToNat, Int.reduceLT, Int.reduceLE, Int.reduceAdd, Int.reduceSub, Int.reduceMul, Int.reduceNeg, Int.reduceEq, reduceCtorEq, Int.cast_ofNat_Int, Hp.get_set, dcells, List.length_map, getD_encW, encW, row, setV_enc2, keysOk_enc, isKey, isInt, room, n1, n2, nl1, nl2, hd, hm1, hm2, hl, hg10_2, nhd_10_2, nhm1_10_2, nhm2_10_2, nhl_10_2]
      (repeat refine And.intro (by first | omega | (simp; done) | (simp_all; done) | (simp_all; omega)) ?_)
      try simp (maxSteps := 4000000) (disch := omega) only [push_cast, Nat.reduceLT, Nat.reduceEqDiff, Nat.reduceAdd, Nat.reduceMul, Nat.reduceSub, Nat.reduceLeDiff, Int.reduceToNat, Int.reduceLT, Int.reduceLE, Int.reduceAdd, Int.reduceSub, Int.reduceMul, Int.reduceNeg, Int.reduceEq, reduceCtorEq, Int.cast_ofNat_Int, Hp.get_set, dcells, List.length_map, getD_encW, encW, row, setV_enc2, keysOk_enc, isKey, isInt, room, n1, n2, nl1, nl2, hd, hm1, hm2, hl, hg10_2, nhd_10_2, nhm1_10_2, nhm2_10_2, nhl_10_2]
      (repeat refine And.intro (by first | omega | (simp; done) | (simp_all; done) | (simp_all; omega)) ?_)
      try simp (maxSteps := 4000000) (disch := omega) only [push_cast, Nat.reduceLT, Nat.reduceEqDiff, Nat.reduceAdd, Nat.reduceMul, Nat.reduceSub, Nat.reduceLeDiff, Int.reduceToNat, Int.reduceLT, Int.reduceLE, Int.reduceAdd, Int.reduceSub, Int.reduceMul, Int.reduceNeg, Int.reduceEq, reduceCtorEq, Int.cast_ofNat_Int, Hp.get_set, dcells, List.length_map, getD_encW, encW, row, setV_enc2, keysOk_enc, isKey, isInt, room, n1, n2, nl1, nl2, hd, hm1, hm2, hl, hg10_2, nhd_10_2, nhm1_10_2, nhm2_10_2, nhl_10_2]
      (repeat refine And.intro (by first | omega | (simp; done) | (simp_all; done) | (simp_all; omega)) ?_)
      refine Qk hK [0, 1, 7, 24, 25, 26] ?_
      clear hK K
      simp only [push_cast, WS, Nat.reduceEqDiff]
      refine hK1 _ _ ?_
      clear hK1
      try clear K1
      refine WS_keep [0, 1, 7, 24, 25, 26] _ ?_
      refine R0 fun K hK => ?_
      try simp (maxSteps := 4000000) (disch := omega) only [push_cast, Nat.reduceLT, Nat.reduceEqDiff, Int.reduceToNat, Int.reduceLT, Int.reduceLE, Int.reduceAdd, Int.reduceSub, Int.reduceMul, Int.reduceNeg, Int.reduceEq, reduceCtorEq, Int.cast_ofNat_Int, Hp.get_set, dcells, List.length_map, getD_encW, encW, row, setV_enc2, keysOk_enc, isKey, isInt, room, n1, n2, nl1, nl2, hd, hm1, hm2, hl, hg10_2, nhd_10_2, nhm1_10_2, nhm2_10_2, nhl_10_2]
      (repeat refine And.intro (by first | omega | (simp; done) | (simp_all; done) | (simp_all; omega)) ?_)
      refine Qk hK [0, 1, 7, 24, 25, 26] ?_
      clear hK K
      refine Ag (hM0 _ _ ?_)
      refine ⟨_, ?_, i + 1,  rfl, ?_, ?_, ?_⟩
      · first | omega | (simp; done) | (simp_all; done) | (simp_all; omega)
      · (try simp (disch := omega) only [push_cast, Int.reduceToNat, Int.reduceLT, Int.reduceLE, Int.reduceAdd, Int.reduceSub, Int.reduceMul, Int.reduceNeg, Int.reduceEq, reduceCtorEq, Nat.reduceLeDiff, Nat.reduceLT, Nat.reduceEqDiff, Nat.reduceAdd, Nat.reduceMul, Nat.reduceSub, Int.cast_ofNat_Int, dcells, List.length_map, getD_encW, encW, row, setV_enc2, keysOk_enc, isKey, isInt, room, n1, n2, nl1, nl2, hd, hm1, hm2, hl, hg10_2, nhd_10_2, nhm1_10_2, nhm2_10_2, nhl_10_2]) <;> (first | done | rfl | (simp [leftF]; done) | ((first | rw [leftF_take file E.waits i (by omega), if_pos hc] | rw [leftF_take file E.waits i (by omega), if_neg hc]) <;> simp [encW, row]) | (simp; done) | (simp; omega) | omega | (simp_all; done) | (simp_all; omega))
      · first | rfl | (try simp (disch := omega) only [push_cast, Int.reduceToNat, Int.reduceLT, Int.reduceLE, Int.reduceAdd, Int.reduceSub, Int.reduceMul, Int.reduceNeg, Int.reduceEq, reduceCtorEq, Nat.reduceLeDiff, Nat.reduceLT, Nat.reduceEqDiff, Nat.reduceAdd, Nat.reduceMul, Nat.reduceSub, Int.cast_ofNat_Int, dcells, List.length_map, getD_encW, encW, row, setV_enc2, keysOk_enc, isKey, isInt, room, n1, n2, nl1, nl2, hd, hm1, hm2, hl, hg10_2, nhd_10_2, nhm1_10_2, nhm2_10_2, nhl_10_2]) <;> (first | done | rfl | (simp [leftF]; done) | ((first | rw [leftF_take file E.waits i (by omega), if_pos hc] | rw [leftF_take file E.waits i (by omega), if_neg hc]) <;> simp [encW, row]) | (simp; done) | (simp; omega) | omega | (simp_all; done) | (simp_all; omega))
      · 
         refine ⟨by omega, ⟨?_, ?_, ?_, ?_⟩⟩
         · simp [Hp.get_set, n1, n2, nl1, nhd_10_2, hd]
         · first
           | exact ⟨_, _, by rw [surely_take file E.waits E.sure i (by omega), if_pos hc]; simp only [Hp.get_set, n1, n2, nl2, nhm1_10_2, if_true, if_false, hm1] <;> rfl⟩
           | exact ⟨_, _, by rw [surely_take file E.waits E.sure i (by omega), if_neg hc]; simp only [Hp.get_set, n1, n2, nl2, nhm1_10_2, if_true, if_false, hm1] <;> rfl⟩
         · exact ⟨s2, c2, by simp only [Hp.get_set, n7, n8, nl3, nhm2_10_2, if_true, if_false, hm2]⟩
         · first
           | (rw [leftF_take file E.waits i (by omega), if_pos hc]; simp only [Hp.get_set, nl2, nl1, nhl_10_2, if_true, if_false, hl]; done)
           | (rw [leftF_take file E.waits i (by omega), if_neg hc]; simp [Hp.get_set, nl2, nl1, nhl_10_2, hl])
end Go.Vm.Try
