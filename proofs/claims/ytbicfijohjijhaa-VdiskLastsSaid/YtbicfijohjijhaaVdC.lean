/- Walks of functions of the program, and laws of what they compute. -/
import Derived.Test.YtbicfijohjijhaaVdB
set_option linter.unusedSimpArgs false
set_option linter.unusedVariables false
set_option maxHeartbeats 4000000
namespace Go.Vm.Try
open Go.Proofs
theorem bit1 (c j : Nat) (hc : c ≤ 255) (hj : j < 8) : IntKind.u8.wrap ((BitVec.ofInt 8 ((c : Int).fdiv (2 ^ (min j 8))) &&& BitVec.ofInt 8 1).toNat : Nat) = ((c / 2 ^ j % 2 : Nat) : Int) := by
  have h1 : (c : Int).fdiv (2 ^ (min j 8)) = ((c / 2 ^ j : Nat) : Int) := by
    rw [Nat.min_eq_left (by omega), Int.fdiv_eq_ediv_of_nonneg _ (Int.le_of_lt (Int.pow_pos (by omega)))]
    norm_cast
  have h2 : c / 2 ^ j ≤ 255 := Nat.le_trans (Nat.div_le_self _ _) hc
  rw [h1, BitVec.toNat_and]
  clear h1
  generalize c / 2 ^ j = x at h2 ⊢
  have h3 : (BitVec.ofInt 8 1).toNat = 1 := by decide
  have h4 : (BitVec.ofInt 8 ((x : Nat) : Int)).toNat = x := by
    rw [BitVec.toNat_ofInt]; omega
  rw [h3, h4, Nat.and_one_is_mod, u8w (by omega) (by omega)]
def bitN (b : UInt8) (j : Nat) : Nat := b.toNat / 2 ^ j % 2
theorem bitK (b : UInt8) (j : Nat) (hj : j < 8) : IntKind.u8.wrap ((BitVec.ofInt IntKind.u8.bits ((b.toNat : Int).fdiv (2 ^ (min j IntKind.u8.bits))) &&& BitVec.ofInt IntKind.u8.bits 1).toNat : Nat) = ((bitN b j : Nat) : Int) := bit1 _ j (u8_nat b) hj
def dig (b : List UInt8) (i : Nat) : Bool := decide (i / 8 < b.length) && decide (bitN (b.getD (i/8) 0) (i % 8) = 1)
def keptS (keep : List UInt8) (ws : List (Plc × Sec)) (i : Nat) (m : List (Plc × Sec)) : List (Plc × Sec) := (List.range i).foldl (fun m i => if dig keep i then setL (ws.getD i default).1 (ws.getD i default).2 m else m) m
theorem keptS_succ (keep : List UInt8) (ws : List (Plc × Sec)) (i : Nat) (m : List (Plc × Sec)) : keptS keep ws (i + 1) m = if dig keep i then setL (ws.getD i default).1 (ws.getD i default).2 (keptS keep ws i m) else keptS keep ws i m := by
  unfold keptS; rw [List.range_succ, List.foldl_append]; rfl
def sizeL (f : Int) (l : List (Plc × Sec)) : Int := l.foldl (fun m e => if e.1.1 = f then maxI m (e.1.2 + 1) else m) 0
structure CrJ (D : Disk) (keep : List UInt8) (d g1 g2 gt : Nat) (i : Nat) (σ : Hp) : Prop where
  hd : σ.get d = some (.cells (dcells D g1 g2 (.sl 3 (D.waits.map encW) (.tk gt))))
  m1 : ∃ s c, σ.get g1 = some (.map (encM (keptS keep D.waits i D.sure)) s c)

abbrev PS := Plc × Sec
def okP (p : Plc) : Prop := (p.1 = 0 ∨ p.1 = 1) ∧ 0 ≤ p.2 ∧ p.2 ≤ 65535
structure Disk.Ok2 (D : Disk) : Prop where
  a : ∀ e ∈ D.sure, okP e.1
  b : ∀ e ∈ D.waits, okP e.1
  c : (D.sure.map (·.1)).Nodup
theorem setL_new {p : Plc} {b : Sec} : ∀ {m : List PS}, p ∉ m.map (·.1) → setL p b m = m ++ [(p, b)]
  | [], _ => rfl
  | (q, c) :: m, h => by
    have h1 : ¬ q = p := fun e => h (by simp [e])
    have h2 : p ∉ m.map (·.1) := fun e => h (List.mem_cons_of_mem _ e)
    rw [setL, if_neg h1, setL_new h2]; rfl
theorem setL_keys {p : Plc} {b : Sec} : ∀ {m : List PS}, ∀ q, q ∈ (setL p b m).map (·.1) ↔ q = p ∨ q ∈ m.map (·.1)
  | [], q => by simp [setL]
  | (r, c) :: m, q => by
    by_cases e : r = p
    · subst e; simp [setL]
    · rw [setL, if_neg e]
      have := setL_keys (p := p) (b := b) (m := m) q
      simp only [List.map_cons, List.mem_cons] at this ⊢
      rw [this]; constructor <;> (intro h; rcases h with h | h | h <;> simp [h])
theorem setL_nodup {p : Plc} {b : Sec} : ∀ {m : List PS}, (m.map (·.1)).Nodup → ((setL p b m).map (·.1)).Nodup
  | [], _ => by simp [setL]
  | (r, c) :: m, h => by
    by_cases e : r = p
    · subst e; simpa [setL] using h
    · rw [setL, if_neg e]
      rw [List.map_cons, List.nodup_cons] at h ⊢
      refine ⟨fun hm => ?_, setL_nodup h.2⟩
      rcases (setL_keys r).1 hm with h1 | h1
      · exact e h1
      · exact h.1 h1
theorem setL_mem {p : Plc} {b : Sec} {e : PS} : ∀ {m : List PS}, e ∈ setL p b m → e = (p, b) ∨ e ∈ m
  | [], h => by simpa [setL] using h
  | (r, c) :: m, h => by
    by_cases x : r = p
    · rw [setL, if_pos x] at h
      rcases List.mem_cons.1 h with h | h
      · exact .inl h
      · exact .inr (List.mem_cons_of_mem _ h)
    · rw [setL, if_neg x] at h
      rcases List.mem_cons.1 h with h | h
      · exact .inr (by rw [h]; exact List.mem_cons_self ..)
      · rcases setL_mem h with h | h
        · exact .inl h
        · exact .inr (List.mem_cons_of_mem _ h)
theorem keptS_ok {keep : List UInt8} {ws m : List PS} (Q : PS → Prop) (hw : ∀ e ∈ ws, Q e) (hm : ∀ e ∈ m, Q e) : ∀ i, i ≤ ws.length → ∀ e ∈ keptS keep ws i m, Q e
  | 0, _, e, h => hm e h
  | i + 1, hi, e, h => by
    rw [keptS_succ] at h
    split at h
    · rcases setL_mem h with h | h
      · subst h
        have h1 : i < ws.length := hi
        have h2 : ws.getD i default ∈ ws := by simp [h1]
        exact hw _ h2
      · exact keptS_ok Q hw hm i (by omega) e h
    · exact keptS_ok Q hw hm i (by omega) e h
theorem keptS_nodup {keep : List UInt8} {ws m : List PS} (hm : (m.map (·.1)).Nodup) : ∀ i, ((keptS keep ws i m).map (·.1)).Nodup
  | 0 => hm
  | i + 1 => by
    rw [keptS_succ]; split
    · exact setL_nodup (keptS_nodup hm i)
    · exact keptS_nodup hm i
def crashS (D : Disk) (keep : List UInt8) : List PS := keptS keep D.waits D.waits.length D.sure
def crashD (D : Disk) (S sh : List PS) : Disk := { D with sure := S, shown := sh, size0 := sizeL 0 sh, size1 := sizeL 1 sh, waits := [], plan := false, down := false }
def enc3 (e : PS × Nat) : (V × V) × Nat := ((plc e.1.1, row e.1.2), e.2)
theorem zip_enc (S : List PS) (st : List Nat) : (encM S).zip st = (S.zip st).map enc3 := by
  unfold encM; rw [List.zip_map_left]; rfl
theorem enc3_snd (l : List (PS × Nat)) : (l.map enc3).map (·.2) = l.map (·.2) := by simp [enc3]
structure CrK (D : Disk) (S : List PS) (st : List Nat) (clk : Nat) (d g1 g2 gi : Nat) (wv : V) (dn : List (PS × Nat)) (σ : Hp) : Prop where
  hd : σ.get d = some (.cells (dcells { D with size0 := sizeL 0 (dn.map (·.1)), size1 := sizeL 1 (dn.map (·.1)) } g1 g2 wv))
  m1 : σ.get g1 = some (.map (encM S) st clk)
  m2 : ∃ s c, σ.get g2 = some (.map (encM (dn.map (·.1))) s c)
  it : σ.get gi = some (.miter g1 clk (dn.map (·.2)) clk)
theorem sizeL_snoc (f : Int) (l : List PS) (e : PS) : sizeL f (l ++ [e]) = if e.1.1 = f then maxI (sizeL f l) (e.1.2 + 1) else sizeL f l := by
  unfold sizeL; rw [List.foldl_append]; rfl
theorem sizeL_bound (f : Int) (l : List PS) (h : ∀ e ∈ l, okP e.1) : 0 ≤ sizeL f l ∧ sizeL f l ≤ 65536 := by
  have : ∀ (l : List PS) (m : Int), (∀ e ∈ l, okP e.1) → 0 ≤ m → m ≤ 65536 → 0 ≤ l.foldl (fun m e => if e.1.1 = f then maxI m (e.1.2 + 1) else m) m ∧ l.foldl (fun m e => if e.1.1 = f then maxI m (e.1.2 + 1) else m) m ≤ 65536 := by
    intro l
    induction l with
    | nil => intro m _ h1 h2; exact ⟨h1, h2⟩
    | cons e l ih =>
      intro m h h1 h2
      obtain ⟨_, h3, h4⟩ := h e (List.mem_cons_self ..)
      refine ih _ (fun e he => h e (List.mem_cons_of_mem _ he)) ?_ ?_
      · unfold maxI; simp only []; split <;> (try split) <;> omega
      · unfold maxI; simp only []; split <;> (try split) <;> omega
  exact this l 0 h (by omega) (by omega)
theorem fresh_key {S : List PS} {st : List Nat} {dn lf : List (PS × Nat)} {e : PS × Nat} (hp : (dn ++ lf).Perm (S.zip st)) (hl : st.length = S.length) (hn : (S.map (·.1)).Nodup) (he : e ∈ lf) : e.1.1 ∉ (dn.map (·.1)).map (·.1) := by
  have h1 : (S.zip st).map (·.1) = S := by rw [List.map_fst_zip]; omega
  have h2 : ((dn ++ lf).map (·.1)).Perm S := by rw [← h1]; exact hp.map _
  have h3 := ((h2.map (·.1)).nodup_iff).2 hn
  rw [List.map_append, List.map_append, List.nodup_append] at h3
  intro hm
  exact h3.2.2 _ hm _ (List.mem_map.2 ⟨e.1, List.mem_map.2 ⟨e, he, rfl⟩, rfl⟩) rfl
theorem zip_len {S : List PS} {st : List Nat} {dn lf : List (PS × Nat)} (hp : (dn ++ lf).Perm (S.zip st)) (hl : st.length = S.length) (h : lf = []) : (dn.map (·.1)).Perm S := by
  subst h
  have h1 : (S.zip st).map (·.1) = S := by rw [List.map_fst_zip]; omega
  rw [List.append_nil] at hp
  rw [← h1]; exact hp.map _
theorem getLast_snoc (l : List Nat) (x : Nat) : (l ++ [x]).getLast? = some x := by simp

theorem crash_spec {σ : Hp} {D : Disk} {d : Nat} {tag : Tag} (keep : List UInt8) (hwl : D.waits.length ≤ 1000000) (hk : keep.length ≤ 1000000) (hok : D.Ok2) (h : DiskAt D d σ) : Spec Go.Proofs.Try.prog 34 [.ptr d 0, .sl 1 (keep.map u8) tag] (σ) (fun v σ' => v = .int .i64 0 ∧ ∃ sh, sh.Perm (crashS D keep) ∧ DiskAt (crashD D (crashS D keep) sh) d σ') := by
 refine introS (n := 98) (rs := [.tmp 4]) (fn := Go.Proofs.Try.f34) (by rfl) rfl (by kernel_rfl) rfl rfl (Nat.le_of_ble_eq_true rfl) (fun Q0 hQ0 => ?_)
 obtain ⟨g1, g2, gt, s1, c1, s2, c2, hD⟩ := h
 have hd := hD.hd
 have hm1 := hD.m1
 have hm2 := hD.m2
 obtain ⟨⟨n1, n2⟩, ⟨n3, n4⟩, ⟨n5, n6⟩, ⟨n7, n8⟩, ⟨n9, n10⟩, ⟨n11, n12⟩⟩ := hD.nes
 refine WS.seq ?_
 refine A1 [0, 1] (by decide) ?_
 refine WS.seq (WS.seq ?_)
 refine R0 fun K hK => ?_
 try simp (maxSteps := 4000000) (disch := omega) only [push_cast, Nat.reduceLT, Nat.reduceEqDiff, Int.reduceToNat, Int.reduceLT, Int.reduceLE, Int.reduceAdd, Int.reduceSub, Int.reduceMul, Int.reduceNeg, Int.reduceEq, reduceCtorEq, Int.cast_ofNat_Int, Hp.get_set, bitK, plc, dcells, List.length_map, getD_u8, getD_encW, encW, row, setV_enc2, keysOk_enc, isKey, isInt, room, n1, n2, n3, n4, hd, hm1, hm2]
 first
  | (refine callS (made_spec hd) (fun v τ h => ?_)
     obtain ⟨rfl, rfl⟩ := h)
  | (refine callP (made_nil ) rfl ?_)
 try simp (maxSteps := 4000000) (disch := omega) only [push_cast, Nat.reduceLT, Nat.reduceEqDiff, Int.reduceToNat, Int.reduceLT, Int.reduceLE, Int.reduceAdd, Int.reduceSub, Int.reduceMul, Int.reduceNeg, Int.reduceEq, reduceCtorEq, Int.cast_ofNat_Int, Hp.get_set, bitK, plc, dcells, List.length_map, getD_u8, getD_encW, encW, row, setV_enc2, keysOk_enc, isKey, isInt, room, n1, n2, n3, n4, hd, hm1, hm2]
 refine Qk hK [0, 1, 11] ?_
 clear hK K
 refine CI rfl (fun hc => ?_) (fun hc => ?_)
 ·
  all_goals try (cases hc; done)
  all_goals try simp only [push_cast] at hc
  all_goals try (exfalso; omega)
  all_goals
   refine WS.seq ?_
   refine A1 [4] (by decide) ?_
   refine Rt ?_
   refine hQ0 _ _ _ ?_
   try simp (maxSteps := 4000000) only [push_cast, Int.reduceToNat, Int.reduceLT, Int.reduceLE, Int.reduceAdd, Int.reduceSub, Int.reduceMul, Int.reduceNeg, Int.reduceEq, reduceCtorEq, Nat.reduceLeDiff, Nat.reduceLT, Nat.reduceEqDiff, Nat.reduceAdd, Nat.reduceMul, Nat.reduceSub, Int.cast_ofNat_Int, bitK, plc, dcells, List.length_map, getD_u8, getD_encW, encW, row, setV_enc2, keysOk_enc, isKey, isInt, room, n1, n2, n3, n4, hd, hm1, hm2]
   first | done | exact ⟨_, HSub.refl _, rfl, rfl⟩ | exact ⟨_, HSub.refl _, rfl⟩ | (refine ⟨_, HSub.refl _, ?_, rfl⟩; first | (simp; done) | (simp_all; done) | (simp only; (repeat' split) <;> first | rfl | omega | (simp_all; done))) | (refine ⟨_, by (show HSub _ _; repeat (first | exact HSub.refl _ | exact HSub.empty _ | refine HSub.set (by first | assumption | simp_all) ?_ | refine HSub.del (by first | assumption | simp_all) ?_)), ?_, rfl⟩; first | (simp; done) | (simp_all; done) | (simp only; (repeat' split) <;> first | rfl | omega | (simp_all; done)))
 all_goals try (cases hc; done)
 all_goals try simp only [push_cast] at hc
 all_goals try (exfalso; omega)
 all_goals
  refine Sk ?_
  refine WS.seq (WS.seq ?_)
  refine R0 fun K hK => ?_
  try simp (maxSteps := 4000000) (disch := omega) only [push_cast, Nat.reduceLT, Nat.reduceEqDiff, Nat.reduceAdd, Nat.reduceMul, Nat.reduceSub, Nat.reduceLeDiff, Int.reduceToNat, Int.reduceLT, Int.reduceLE, Int.reduceAdd, Int.reduceSub, Int.reduceMul, Int.reduceNeg, Int.reduceEq, reduceCtorEq, Int.cast_ofNat_Int, Hp.get_set, bitK, plc, dcells, List.length_map, getD_u8, getD_encW, encW, row, setV_enc2, keysOk_enc, isKey, isInt, room, n1, n2, n3, n4, hd, hm1, hm2]
  (repeat refine And.intro (by first | omega | (simp; done) | (simp_all; done) | (simp_all; omega)) ?_)
  refine Qk hK [0, 1, 15, 16, 17] ?_
  clear hK K
  refine Bk fun K0 hK0 => ?_
  refine WS_keep [0, 1, 15, 16, 17] _ ?_
  refine Lp (fun m env σ' => ∃ (i : Nat), m = D.waits.length - i ∧ env = [(0, .ptr d 0), (1, .sl 1 (keep.map u8) tag), (15, .sl 3 (D.waits.map encW) (.tk gt)), (16, .int .i64 D.waits.length), (17, .int .i64 i)] ∧ σ' = σ' ∧ (i ≤ D.waits.length ∧ CrJ D keep d g1 g2 gt i σ')) ?_ ?_
  · refine ⟨_, 0,  rfl, ?_, ?_, ?_⟩
    · (try simp (disch := omega) only [push_cast, Int.reduceToNat, Int.reduceLT, Int.reduceLE, Int.reduceAdd, Int.reduceSub, Int.reduceMul, Int.reduceNeg, Int.reduceEq, reduceCtorEq, Nat.reduceLeDiff, Nat.reduceLT, Nat.reduceEqDiff, Nat.reduceAdd, Nat.reduceMul, Nat.reduceSub, Int.cast_ofNat_Int, bitK, plc, dcells, List.length_map, getD_u8, getD_encW, encW, row, setV_enc2, keysOk_enc, isKey, isInt, room, n1, n2, n3, n4, hd, hm1, hm2]) <;> (first | done | rfl | (simp; done) | (simp; omega) | omega | (simp_all; done) | (simp_all; omega))
    · first | rfl | (try simp (disch := omega) only [push_cast, Int.reduceToNat, Int.reduceLT, Int.reduceLE, Int.reduceAdd, Int.reduceSub, Int.reduceMul, Int.reduceNeg, Int.reduceEq, reduceCtorEq, Nat.reduceLeDiff, Nat.reduceLT, Nat.reduceEqDiff, Nat.reduceAdd, Nat.reduceMul, Nat.reduceSub, Int.cast_ofNat_Int, bitK, plc, dcells, List.length_map, getD_u8, getD_encW, encW, row, setV_enc2, keysOk_enc, isKey, isInt, room, n1, n2, n3, n4, hd, hm1, hm2]) <;> (first | done | rfl | (simp; done) | (simp; omega) | omega | (simp_all; done) | (simp_all; omega))
    · exact ⟨by omega, ⟨hd, _, _, hm1⟩⟩
  intro m env σ' hJ M0 hM0
  obtain ⟨i, rfl, rfl, -, hi, hJ⟩ := hJ
  obtain ⟨hd, s1, c1, hm1⟩ := hJ
  refine WS.seq ?_
  refine R0 fun K hK => ?_
  try simp (maxSteps := 4000000) (disch := omega) only [push_cast, Nat.reduceLT, Nat.reduceEqDiff, Int.reduceToNat, Int.reduceLT, Int.reduceLE, Int.reduceAdd, Int.reduceSub, Int.reduceMul, Int.reduceNeg, Int.reduceEq, reduceCtorEq, Int.cast_ofNat_Int, Hp.get_set, bitK, plc, dcells, List.length_map, getD_u8, getD_encW, encW, row, setV_enc2, keysOk_enc, isKey, isInt, room, n1, n2, n3, n4, hd, hm1]
  refine Qk hK [0, 1, 15, 16, 17, 18] ?_
  clear hK K
  refine WS.seq ?_
  refine CI rfl (fun hc => ?_) (fun hc => ?_)
  rotate_left
  ·
   all_goals try (cases hc; done)
   all_goals try simp only [push_cast] at hc
   all_goals try (exfalso; omega)
   all_goals
    have hie : i = D.waits.length := by omega
    subst hie
    refine S_map hm1 (fun hl1 hl2 hl3 => ?_)
    generalize hS : keptS keep D.waits D.waits.length D.sure = S at *
    have hSok : ∀ e ∈ S, okP e.1 := by rw [← hS]; exact keptS_ok (fun e => okP e.1) hok.b hok.a _ (by omega)
    have hSn : (S.map (·.1)).Nodup := by rw [← hS]; exact keptS_nodup hok.c _
    have hl1s : s1.length = S.length := by simpa [encM] using hl1
    refine Ex ?_
    simp only [push_cast, WS, Nat.reduceEqDiff]
    refine hK0 _ _ ?_
    clear hK0
    try clear K0
    refine WS_keep [0] _ ?_
    refine WS.seq ?_
    refine R0 fun K hK => ?_
    try simp (maxSteps := 4000000) (disch := omega) only [push_cast, Nat.reduceLT, Nat.reduceEqDiff, Nat.reduceAdd, Nat.reduceMul, Nat.reduceSub, Nat.reduceLeDiff, Hp.get_set, bitK, plc, dcells, List.length_map, getD_u8, getD_encW, encW, row, setV_enc2, keysOk_enc, isKey, isInt, room, n1, n2, n3, n4, hd, hm1]
    (repeat refine And.intro (by first | omega | (simp; done) | (simp_all; done) | (simp_all; omega)) ?_)
    refine fun g9_1 hg9_1 => ?_
    try simp only [Hp.set_none, Hp.join_none_iff] at hg9_1
    have nhd_9_1 := Hp.ne_get hd (by first | exact hg9_1 | exact hg9_1.2.2 | exact hg9_1.2.2.2.2 | exact hg9_1.2.2.2.2.2.2 | simp_all)
    have nhm1_9_1 := Hp.ne_get hm1 (by first | exact hg9_1 | exact hg9_1.2.2 | exact hg9_1.2.2.2.2 | exact hg9_1.2.2.2.2.2.2 | simp_all)
    try simp (maxSteps := 4000000) (disch := omega) only [push_cast, Nat.reduceLT, Nat.reduceEqDiff, Nat.reduceAdd, Nat.reduceMul, Nat.reduceSub, Nat.reduceLeDiff, Hp.get_set, bitK, plc, dcells, List.length_map, getD_u8, getD_encW, encW, row, setV_enc2, keysOk_enc, isKey, isInt, room, n1, n2, n3, n4, hd, hm1, hg9_1, nhd_9_1, nhm1_9_1]
    (repeat refine And.intro (by first | omega | (simp; done) | (simp_all; done) | (simp_all; omega)) ?_)
    refine Qk hK [0] ?_
    clear hK K
    refine WS.seq ?_
    refine R0 fun K hK => ?_
    try simp (maxSteps := 4000000) (disch := omega) only [push_cast, Nat.reduceLT, Nat.reduceEqDiff, Nat.reduceAdd, Nat.reduceMul, Nat.reduceSub, Nat.reduceLeDiff, Hp.get_set, bitK, plc, dcells, List.length_map, getD_u8, getD_encW, encW, row, setV_enc2, keysOk_enc, isKey, isInt, room, n1, n2, n3, n4, hd, hm1, hg9_1, nhd_9_1, nhm1_9_1]
    (repeat refine And.intro (by first | omega | (simp; done) | (simp_all; done) | (simp_all; omega)) ?_)
    refine Qk hK [0] ?_
    clear hK K
    refine WS.seq (WS.seq ?_)
    refine R0 fun K hK => ?_
    try simp (maxSteps := 4000000) (disch := omega) only [push_cast, Nat.reduceLT, Nat.reduceEqDiff, Nat.reduceAdd, Nat.reduceMul, Nat.reduceSub, Nat.reduceLeDiff, Hp.get_set, bitK, plc, dcells, List.length_map, getD_u8, getD_encW, encW, row, setV_enc2, keysOk_enc, isKey, isInt, room, n1, n2, n3, n4, hd, hm1, hg9_1, nhd_9_1, nhm1_9_1]
    (repeat refine And.intro (by first | omega | (simp; done) | (simp_all; done) | (simp_all; omega)) ?_)
    refine fun g11_4 hg11_4 => ?_
    try simp only [Hp.set_none, Hp.join_none_iff] at hg11_4
    have nhd_11_4 := Hp.ne_get hd (by first | exact hg11_4 | exact hg11_4.2.2 | exact hg11_4.2.2.2.2 | exact hg11_4.2.2.2.2.2.2 | simp_all)
    have nhm1_11_4 := Hp.ne_get hm1 (by first | exact hg11_4 | exact hg11_4.2.2 | exact hg11_4.2.2.2.2 | exact hg11_4.2.2.2.2.2.2 | simp_all)
    try simp (maxSteps := 4000000) (disch := omega) only [push_cast, Nat.reduceLT, Nat.reduceEqDiff, Nat.reduceAdd, Nat.reduceMul, Nat.reduceSub, Nat.reduceLeDiff, Hp.get_set, bitK, plc, dcells, List.length_map, getD_u8, getD_encW, encW, row, setV_enc2, keysOk_enc, isKey, isInt, room, n1, n2, n3, n4, hd, hm1, hg9_1, nhd_9_1, nhm1_9_1, hg11_4, nhd_11_4, nhm1_11_4]
    (repeat refine And.intro (by first | omega | (simp; done) | (simp_all; done) | (simp_all; omega)) ?_)
    refine Qk hK [0, 60] ?_
    clear hK K
    refine Bk fun K2 hK2 => ?_
    refine WS_keep [0, 60] _ ?_
    refine Lp (fun m env σ' => ∃ (dn lf : List (PS × Nat)), m = lf.length ∧ env = [(0, .ptr d 0), (60, .it g11_4)] ∧ σ' = σ' ∧ ((dn ++ lf).Perm (S.zip s1) ∧ CrK D S s1 c1 d g1 g9_1 g11_4 (.sl 3 (D.waits.map encW) (.tk gt)) dn σ')) ?_ ?_
    · refine ⟨_, [], S.zip s1,  rfl, ?_, ?_, ?_⟩
      · (try simp (disch := omega) only [push_cast, Int.reduceToNat, Int.reduceLT, Int.reduceLE, Int.reduceAdd, Int.reduceSub, Int.reduceMul, Int.reduceNeg, Int.reduceEq, reduceCtorEq, Nat.reduceLeDiff, Nat.reduceLT, Nat.reduceEqDiff, Nat.reduceAdd, Nat.reduceMul, Nat.reduceSub, Int.cast_ofNat_Int, bitK, plc, dcells, List.length_map, getD_u8, getD_encW, encW, row, setV_enc2, keysOk_enc, isKey, isInt, room, n1, n2, n3, n4, hd, hm1, hg9_1, nhd_9_1, nhm1_9_1, hg11_4, nhd_11_4, nhm1_11_4]) <;> (first | done | rfl | (simp; done) | (simp; omega) | omega | (simp_all; done) | (simp_all; omega))
      · first | rfl | (try simp (disch := omega) only [push_cast, Int.reduceToNat, Int.reduceLT, Int.reduceLE, Int.reduceAdd, Int.reduceSub, Int.reduceMul, Int.reduceNeg, Int.reduceEq, reduceCtorEq, Nat.reduceLeDiff, Nat.reduceLT, Nat.reduceEqDiff, Nat.reduceAdd, Nat.reduceMul, Nat.reduceSub, Int.cast_ofNat_Int, bitK, plc, dcells, List.length_map, getD_u8, getD_encW, encW, row, setV_enc2, keysOk_enc, isKey, isInt, room, n1, n2, n3, n4, hd, hm1, hg9_1, nhd_9_1, nhm1_9_1, hg11_4, nhd_11_4, nhm1_11_4]) <;> (first | done | rfl | (simp; done) | (simp; omega) | omega | (simp_all; done) | (simp_all; omega))
      · exact ⟨List.Perm.refl _, ⟨by simp [Hp.get_set, nhd_9_1, nhd_11_4, dcells, sizeL], by simp only [Hp.get_set, n1, n2, nhm1_9_1, nhm1_11_4, if_false, hm1], ⟨[], 0, by simp_all [Hp.get_set, encM]⟩, by simp [Hp.get_set]⟩⟩
    intro m env σ' hJ M2 hM2
    obtain ⟨dn, lf, rfl, rfl, -, hp, hJ⟩ := hJ
    obtain ⟨hd, hm1, ⟨s2, c2, hm2⟩, hit⟩ := hJ
    refine WS.seq ?_
    refine R0 fun K hK => ?_
    try simp (maxSteps := 4000000) (disch := omega) only [push_cast, Nat.reduceLT, Nat.reduceEqDiff, Nat.reduceAdd, Nat.reduceMul, Nat.reduceSub, Nat.reduceLeDiff, Hp.get_set, bitK, plc, dcells, List.length_map, getD_u8, getD_encW, encW, row, setV_enc2, keysOk_enc, isKey, isInt, room, n1, n2, n3, n4, hg9_1, nhd_9_1, nhm1_9_1, hg11_4, nhd_11_4, nhm1_11_4, hd, hm1, hm2, hit, enc3_snd, enc3]
    (repeat refine And.intro (by first | omega | (simp; done) | (simp_all; done) | (simp_all; omega)) ?_)
    rw [← enc3_snd dn]
    refine AnyK.go (dn := dn.map enc3) (lf := lf.map enc3) (by rw [zip_enc, ← List.map_append]; exact hp.map _) hl2 hl1 (fun hnil => ?_) (fun e2 he2 => ?_)
    rotate_left
    obtain ⟨e, he, rfl⟩ := List.mem_map.1 he2
    rotate_left
    all_goals try simp (maxSteps := 4000000) (disch := omega) only [push_cast, Nat.reduceLT, Nat.reduceEqDiff, Nat.reduceAdd, Nat.reduceMul, Nat.reduceSub, Nat.reduceLeDiff, Hp.get_set, bitK, plc, dcells, List.length_map, getD_u8, getD_encW, encW, row, setV_enc2, keysOk_enc, isKey, isInt, room, n1, n2, n3, n4, hg9_1, nhd_9_1, nhm1_9_1, hg11_4, nhd_11_4, nhm1_11_4, hd, hm1, hm2, hit, enc3_snd, enc3]
    all_goals (repeat refine And.intro (by first | omega | (simp; done) | (simp_all; done) | (simp_all; omega)) ?_)
    all_goals
     refine Qk hK [0, 60, 62] ?_
     clear hK K
     refine WS.seq ?_
     refine CI rfl (fun hc => ?_) (fun hc => ?_)
     rotate_left
     ·
      all_goals try (cases hc; done)
      all_goals try simp only [push_cast] at hc
      all_goals try (exfalso; omega)
      all_goals
       refine Ex ?_
       simp only [push_cast, WS, Nat.reduceEqDiff]
       refine hK2 _ _ ?_
       clear hK2
       try clear K2
       refine WS_keep [0] _ ?_
       refine WS.seq ?_
       refine R0 fun K hK => ?_
       try simp (maxSteps := 4000000) (disch := omega) only [push_cast, Nat.reduceLT, Nat.reduceEqDiff, Nat.reduceAdd, Nat.reduceMul, Nat.reduceSub, Nat.reduceLeDiff, Int.reduceToNat, Int.reduceLT, Int.reduceLE, Int.reduceAdd, Int.reduceSub, Int.reduceMul, Int.reduceNeg, Int.reduceEq, reduceCtorEq, Int.cast_ofNat_Int, Hp.get_set, bitK, plc, dcells, List.length_map, getD_u8, getD_encW, encW, row, setV_enc2, keysOk_enc, isKey, isInt, room, n1, n2, n3, n4, hg9_1, nhd_9_1, nhm1_9_1, hg11_4, nhd_11_4, nhm1_11_4, hd, hm1, hm2, hit]
       (repeat refine And.intro (by first | omega | (simp; done) | (simp_all; done) | (simp_all; omega)) ?_)
       refine Qk hK [] ?_
       clear hK K
       refine WS.seq ?_
       refine A1 [4] (by decide) ?_
       refine S_tokH 3 (g := d) (i := 5) (Hp.get_set_same _ _ _) rfl ?_
       intro gtn htn
       refine Rt ?_
       refine hQ0 _ _ _ ?_
       try simp (maxSteps := 4000000) only [push_cast, Int.reduceToNat, Int.reduceLT, Int.reduceLE, Int.reduceAdd, Int.reduceSub, Int.reduceMul, Int.reduceNeg, Int.reduceEq, reduceCtorEq, Nat.reduceLeDiff, Nat.reduceLT, Nat.reduceEqDiff, Nat.reduceAdd, Nat.reduceMul, Nat.reduceSub, Int.cast_ofNat_Int, bitK, plc, dcells, List.length_map, getD_u8, getD_encW, encW, row, setV_enc2, keysOk_enc, isKey, isInt, room, n1, n2, n3, n4, hg9_1, nhd_9_1, nhm1_9_1, hg11_4, nhd_11_4, nhm1_11_4, hd, hm1, hm2, hit]
       have hS2 : crashS D keep = S := hS
       have hlf : lf = [] := by cases lf <;> simp_all
       simp only [Hp.set_none] at htn
       have ntd : (gtn = d) = False ∧ (d = gtn) = False := by first | exact ⟨htn.1, htn.2.1⟩ | (constructor <;> simp only [htn])
       have htz : σ'.get gtn = none := by simp only [htn]
       have nt1 := Hp.ne_get hm1 htz
       have nt2 := Hp.ne_get hm2 htz
       refine ⟨_, HSub.refl _, dn.map (·.1), by rw [hS2]; exact zip_len hp hl1s hlf, DiskAt.of (gt := gtn) (g1 := g1) (g2 := g9_1) ?_ ?_ ?_ ?_ ?_ ?_ ?_ ?_ ?_ ?_⟩
       · rw [hS2]; simp [Hp.get_set, dcells, crashD]
       · rw [hS2]; exact ⟨s1, c1, by simp [Hp.get_set, n1, n2, nt1, hm1, nhm1_11_4, crashD]⟩
       · exact ⟨s2, c2, by simp [Hp.get_set, nhd_9_1, nt2, hg11_4, hm2, crashD]⟩
       · simp [Hp.get_set, ntd, crashD]
       all_goals simp [n1, n2, ntd, nt1, nt2, nhd_9_1, nhm1_9_1]
     all_goals try (cases hc; done)
     all_goals try simp only [push_cast] at hc
     all_goals try (exfalso; omega)
     all_goals
      have hez := hp.mem_iff.1 (List.mem_append_right _ he)
      have hfs := findSt_mem (e := (plc e.1.1, row e.1.2)) hl2 (by rw [zip_enc]; exact List.mem_map.2 ⟨e, hez, rfl⟩)
      obtain ⟨hf, h3, h4⟩ := hSok e.1 (List.of_mem_zip hez).1
      have hset : setL (e.1.1.1, e.1.1.2) e.1.2 (dn.map (·.1)) = dn.map (·.1) ++ [e.1] := setL_new (fresh_key hp hl1s hSn he)
      simp only [plc, row] at hfs
      refine Sk ?_
      refine Bk fun K3 hK3 => ?_
      refine WS.seq ?_
      refine R0 fun K hK => ?_
      try simp (maxSteps := 4000000) (disch := omega) only [push_cast, Nat.reduceLT, Nat.reduceEqDiff, Nat.reduceAdd, Nat.reduceMul, Nat.reduceSub, Nat.reduceLeDiff, Hp.get_set, bitK, plc, dcells, List.length_map, getD_u8, getD_encW, encW, row, setV_enc2, keysOk_enc, isKey, isInt, room, n1, n2, n3, n4, hg9_1, nhd_9_1, nhm1_9_1, hg11_4, nhd_11_4, nhm1_11_4, hd, hm1, hm2, hit, hfs, hset, getLast_snoc]
      (repeat refine And.intro (by first | omega | (simp; done) | (simp_all; done) | (simp_all; omega)) ?_)
      refine fun g13_3 hg13_3 => ?_
      try simp only [Hp.set_none, Hp.join_none_iff] at hg13_3
      have nhd_13_3 := Hp.ne_get hd (by first | exact hg13_3 | exact hg13_3.2.2 | exact hg13_3.2.2.2.2 | exact hg13_3.2.2.2.2.2.2 | simp_all)
      have nhm1_13_3 := Hp.ne_get hm1 (by first | exact hg13_3 | exact hg13_3.2.2 | exact hg13_3.2.2.2.2 | exact hg13_3.2.2.2.2.2.2 | simp_all)
      have nhm2_13_3 := Hp.ne_get hm2 (by first | exact hg13_3 | exact hg13_3.2.2 | exact hg13_3.2.2.2.2 | exact hg13_3.2.2.2.2.2.2 | simp_all)
      have nhit_13_3 := Hp.ne_get hit (by first | exact hg13_3 | exact hg13_3.2.2 | exact hg13_3.2.2.2.2 | exact hg13_3.2.2.2.2.2.2 | simp_all)
      try simp (maxSteps := 4000000) (disch := omega) only [push_cast, Nat.reduceLT, Nat.reduceEqDiff, Nat.reduceAdd, Nat.reduceMul, Nat.reduceSub, Nat.reduceLeDiff, Hp.get_set, bitK, plc, dcells, List.length_map, getD_u8, getD_encW, encW, row, setV_enc2, keysOk_enc, isKey, isInt, room, n1, n2, n3, n4, hg9_1, nhd_9_1, nhm1_9_1, hg11_4, nhd_11_4, nhm1_11_4, hd, hm1, hm2, hit, hfs, hset, getLast_snoc, hg13_3, nhd_13_3, nhm1_13_3, nhm2_13_3, nhit_13_3]
      (repeat refine And.intro (by first | omega | (simp; done) | (simp_all; done) | (simp_all; omega)) ?_)
      refine Qk hK [0, 7, 8, 60] ?_
      clear hK K
      refine WS.seq ?_
      refine RD [] [] fo (by kernel_rfl) fun K hK => ?_
      try simp (maxSteps := 4000000) (disch := omega) only [push_cast, Nat.reduceLT, Nat.reduceEqDiff, Nat.reduceAdd, Nat.reduceMul, Nat.reduceSub, Nat.reduceLeDiff, Hp.get_set, bitK, plc, dcells, List.length_map, getD_u8, getD_encW, encW, row, setV_enc2, keysOk_enc, isKey, isInt, room, n1, n2, n3, n4, hg9_1, nhd_9_1, nhm1_9_1, hg11_4, nhd_11_4, nhm1_11_4, hd, hm1, hm2, hit, hfs, hset, getLast_snoc, hg13_3, nhd_13_3, nhm1_13_3, nhm2_13_3, nhit_13_3]
      (repeat refine And.intro (by first | omega | (simp; done) | (simp_all; done) | (simp_all; omega)) ?_)
      refine Qk hK [0, 7, 60] ?_
      clear hK K
      have hf0 := hf
      rcases hf with hf | hf
      all_goals
       refine RD [] [] fo (by kernel_rfl) fun K hK => ?_
       try simp (maxSteps := 4000000) (disch := omega) only [push_cast, Nat.reduceLT, Nat.reduceEqDiff, Nat.reduceAdd, Nat.reduceMul, Nat.reduceSub, Nat.reduceLeDiff, Int.reduceToNat, Int.reduceLT, Int.reduceLE, Int.reduceAdd, Int.reduceSub, Int.reduceMul, Int.reduceNeg, Int.reduceEq, reduceCtorEq, Int.cast_ofNat_Int, Hp.get_set, bitK, plc, dcells, List.length_map, getD_u8, getD_encW, encW, row, setV_enc2, keysOk_enc, isKey, isInt, room, n1, n2, n3, n4, hg9_1, nhd_9_1, nhm1_9_1, hg11_4, nhd_11_4, nhm1_11_4, hd, hm1, hm2, hit, hfs, hset, getLast_snoc, hg13_3, nhd_13_3, nhm1_13_3, nhm2_13_3, nhit_13_3, hf]
       (repeat refine And.intro (by first | omega | (simp; done) | (simp_all; done) | (simp_all; omega)) ?_)
       refine Qk hK [0, 60] ?_
       clear hK K
       simp only [push_cast, WS, Nat.reduceEqDiff]
       refine hK3 _ _ ?_
       clear hK3
       try clear K3
       refine Ag (hM2 _ _ ?_)
       refine ⟨_, ?_, dn ++ [e], lf.erase e,  rfl, ?_, ?_, ?_⟩
       · (rw [List.length_erase_of_mem he]; have := List.length_pos_of_mem he; omega)
       · (try simp (disch := omega) only [push_cast, Int.reduceToNat, Int.reduceLT, Int.reduceLE, Int.reduceAdd, Int.reduceSub, Int.reduceMul, Int.reduceNeg, Int.reduceEq, reduceCtorEq, Nat.reduceLeDiff, Nat.reduceLT, Nat.reduceEqDiff, Nat.reduceAdd, Nat.reduceMul, Nat.reduceSub, Int.cast_ofNat_Int, bitK, plc, dcells, List.length_map, getD_u8, getD_encW, encW, row, setV_enc2, keysOk_enc, isKey, isInt, room, n1, n2, n3, n4, hg9_1, nhd_9_1, nhm1_9_1, hg11_4, nhd_11_4, nhm1_11_4, hd, hm1, hm2, hit, hfs, hset, getLast_snoc, hg13_3, nhd_13_3, nhm1_13_3, nhm2_13_3, nhit_13_3, hf]) <;> (first | done | rfl | (simp; done) | (simp; omega) | omega | (simp_all; done) | (simp_all; omega))
       · first | rfl | (try simp (disch := omega) only [push_cast, Int.reduceToNat, Int.reduceLT, Int.reduceLE, Int.reduceAdd, Int.reduceSub, Int.reduceMul, Int.reduceNeg, Int.reduceEq, reduceCtorEq, Nat.reduceLeDiff, Nat.reduceLT, Nat.reduceEqDiff, Nat.reduceAdd, Nat.reduceMul, Nat.reduceSub, Int.cast_ofNat_Int, bitK, plc, dcells, List.length_map, getD_u8, getD_encW, encW, row, setV_enc2, keysOk_enc, isKey, isInt, room, n1, n2, n3, n4, hg9_1, nhd_9_1, nhm1_9_1, hg11_4, nhd_11_4, nhm1_11_4, hd, hm1, hm2, hit, hfs, hset, getLast_snoc, hg13_3, nhd_13_3, nhm1_13_3, nhm2_13_3, nhit_13_3, hf]) <;> (first | done | rfl | (simp; done) | (simp; omega) | omega | (simp_all; done) | (simp_all; omega))
       · 
                refine ⟨?_, ⟨?_, ?_, ?_, ?_⟩⟩
                · have h1 := (List.perm_cons_erase he).append_left dn
                  exact List.Perm.trans (by simpa using h1.symm) hp
                · simp [Hp.get_set, nhd_13_3, nhd_11_4, nhd_9_1, hg11_4, hg13_3, n1, n2, hd, dcells, sizeL_snoc, hf, maxI]
                · simp only [Hp.get_set, n1, n2, nhm1_13_3, nhm1_11_4, nhm1_9_1, hg11_4, hg13_3, if_true, if_false, hm1]
                · exact ⟨_, _, by rw [List.map_append]; simp only [Hp.get_set, nhm2_13_3, nhd_9_1, hg11_4, hg13_3, if_true, if_false, List.map_cons, List.map_nil] <;> rfl⟩
                · simp [Hp.get_set, hg11_4, hg13_3, nhd_11_4]
  all_goals try (cases hc; done)
  all_goals try simp only [push_cast] at hc
  all_goals try (exfalso; omega)
  all_goals
   refine Sk ?_
   refine WS.seq ?_
   refine Bk fun K1 hK1 => ?_
   refine WS.seq ?_
   refine R0 fun K hK => ?_
   try simp (maxSteps := 4000000) (disch := omega) only [push_cast, Nat.reduceLT, Nat.reduceEqDiff, Nat.reduceAdd, Nat.reduceMul, Nat.reduceSub, Nat.reduceLeDiff, Int.reduceToNat, Int.reduceLT, Int.reduceLE, Int.reduceAdd, Int.reduceSub, Int.reduceMul, Int.reduceNeg, Int.reduceEq, reduceCtorEq, Int.cast_ofNat_Int, Hp.get_set, bitK, plc, dcells, List.length_map, getD_u8, getD_encW, encW, row, setV_enc2, keysOk_enc, isKey, isInt, room, n1, n2, n3, n4, hd, hm1]
   (repeat refine And.intro (by first | omega | (simp; done) | (simp_all; done) | (simp_all; omega)) ?_)
   refine fun g5_3 hg5_3 => ?_
   try simp only [Hp.set_none, Hp.join_none_iff] at hg5_3
   have nhd_5_3 := Hp.ne_get hd (by first | exact hg5_3 | exact hg5_3.2.2 | exact hg5_3.2.2.2.2 | exact hg5_3.2.2.2.2.2.2 | simp_all)
   have nhm1_5_3 := Hp.ne_get hm1 (by first | exact hg5_3 | exact hg5_3.2.2 | exact hg5_3.2.2.2.2 | exact hg5_3.2.2.2.2.2.2 | simp_all)
   try simp (maxSteps := 4000000) (disch := omega) only [push_cast, Nat.reduceLT, Nat.reduceEqDiff, Nat.reduceAdd, Nat.reduceMul, Nat.reduceSub, Nat.reduceLeDiff, Int.reduceToNat, Int.reduceLT, Int.reduceLE, Int.reduceAdd, Int.reduceSub, Int.reduceMul, Int.reduceNeg, Int.reduceEq, reduceCtorEq, Int.cast_ofNat_Int, Hp.get_set, bitK, plc, dcells, List.length_map, getD_u8, getD_encW, encW, row, setV_enc2, keysOk_enc, isKey, isInt, room, n1, n2, n3, n4, hd, hm1, hg5_3, nhd_5_3, nhm1_5_3]
   (repeat refine And.intro (by first | omega | (simp; done) | (simp_all; done) | (simp_all; omega)) ?_)
   refine Qk hK [0, 1, 5, 6, 15, 16, 17] ?_
   clear hK K
   refine WS.seq ?_
   refine R0 fun K hK => ?_
   try simp (maxSteps := 4000000) (disch := omega) only [push_cast, Nat.reduceLT, Nat.reduceEqDiff, Nat.reduceAdd, Nat.reduceMul, Nat.reduceSub, Nat.reduceLeDiff, Int.reduceToNat, Int.reduceLT, Int.reduceLE, Int.reduceAdd, Int.reduceSub, Int.reduceMul, Int.reduceNeg, Int.reduceEq, reduceCtorEq, Int.cast_ofNat_Int, Hp.get_set, bitK, plc, dcells, List.length_map, getD_u8, getD_encW, encW, row, setV_enc2, keysOk_enc, isKey, isInt, room, n1, n2, n3, n4, hd, hm1, hg5_3, nhd_5_3, nhm1_5_3]
   (repeat refine And.intro (by first | omega | (simp; done) | (simp_all; done) | (simp_all; omega)) ?_)
   all_goals try (first | refine guardT 27 rfl (fun hc => ?_) (fun hc => ?_) | refine guardF 27 rfl (fun hc => ?_) (fun hc => ?_)) <;> try simp only [push_cast] at hc
   all_goals try (exfalso; omega)
   all_goals try simp (maxSteps := 4000000) (disch := omega) only [push_cast, Nat.reduceLT, Nat.reduceEqDiff, Nat.reduceAdd, Nat.reduceMul, Nat.reduceSub, Nat.reduceLeDiff, Int.reduceToNat, Int.reduceLT, Int.reduceLE, Int.reduceAdd, Int.reduceSub, Int.reduceMul, Int.reduceNeg, Int.reduceEq, reduceCtorEq, Int.cast_ofNat_Int, Hp.get_set, bitK, plc, dcells, List.length_map, getD_u8, getD_encW, encW, row, setV_enc2, keysOk_enc, isKey, isInt, room, n1, n2, n3, n4, hd, hm1, hg5_3, nhd_5_3, nhm1_5_3]
   all_goals (repeat refine And.intro (by first | omega | (simp; done) | (simp_all; done) | (simp_all; omega)) ?_)
   all_goals
    refine Qk hK [0, 1, 6, 15, 16, 17, 38] ?_
    clear hK K
    refine CI rfl (fun hc => ?_) (fun hc => ?_)
    ·
     all_goals try (cases hc; done)
     all_goals try simp only [push_cast] at hc
     all_goals try (exfalso; omega)
     all_goals
      refine RD [] [] fo (by kernel_rfl) fun K hK => ?_
      try simp (maxSteps := 4000000) (disch := omega) only [push_cast, Nat.reduceLT, Nat.reduceEqDiff, Nat.reduceAdd, Nat.reduceMul, Nat.reduceSub, Nat.reduceLeDiff, Hp.get_set, bitK, plc, dcells, List.length_map, getD_u8, getD_encW, encW, row, setV_enc2, keysOk_enc, isKey, isInt, room, n1, n2, n3, n4, hd, hm1, hg5_3, nhd_5_3, nhm1_5_3]
      (repeat refine And.intro (by first | omega | (simp; done) | (simp_all; done) | (simp_all; omega)) ?_)
      refine Qk hK [0, 1, 15, 16, 17] ?_
      clear hK K
      simp only [push_cast, WS, Nat.reduceEqDiff]
      refine hK1 _ _ ?_
      clear hK1
      try clear K1
      refine WS_keep [0, 1, 15, 16, 17] _ ?_
      refine R0 fun K hK => ?_
      try simp (maxSteps := 4000000) (disch := omega) only [push_cast, Nat.reduceLT, Nat.reduceEqDiff, Int.reduceToNat, Int.reduceLT, Int.reduceLE, Int.reduceAdd, Int.reduceSub, Int.reduceMul, Int.reduceNeg, Int.reduceEq, reduceCtorEq, Int.cast_ofNat_Int, Hp.get_set, bitK, plc, dcells, List.length_map, getD_u8, getD_encW, encW, row, setV_enc2, keysOk_enc, isKey, isInt, room, n1, n2, n3, n4, hd, hm1, hg5_3, nhd_5_3, nhm1_5_3]
      (repeat refine And.intro (by first | omega | (simp; done) | (simp_all; done) | (simp_all; omega)) ?_)
      refine Qk hK [0, 1, 15, 16, 17] ?_
      clear hK K
      refine Ag (hM0 _ _ ?_)
      refine ⟨_, ?_, i + 1,  rfl, ?_, ?_, ?_⟩
      · first | omega | (simp; done) | (simp_all; done) | (simp_all; omega)
      · (try simp (disch := omega) only [push_cast, Int.reduceToNat, Int.reduceLT, Int.reduceLE, Int.reduceAdd, Int.reduceSub, Int.reduceMul, Int.reduceNeg, Int.reduceEq, reduceCtorEq, Nat.reduceLeDiff, Nat.reduceLT, Nat.reduceEqDiff, Nat.reduceAdd, Nat.reduceMul, Nat.reduceSub, Int.cast_ofNat_Int, bitK, plc, dcells, List.length_map, getD_u8, getD_encW, encW, row, setV_enc2, keysOk_enc, isKey, isInt, room, n1, n2, n3, n4, hd, hm1, hg5_3, nhd_5_3, nhm1_5_3]) <;> (first | done | rfl | (simp; done) | (simp; omega) | omega | (simp_all; done) | (simp_all; omega))
      · first | rfl | (try simp (disch := omega) only [push_cast, Int.reduceToNat, Int.reduceLT, Int.reduceLE, Int.reduceAdd, Int.reduceSub, Int.reduceMul, Int.reduceNeg, Int.reduceEq, reduceCtorEq, Nat.reduceLeDiff, Nat.reduceLT, Nat.reduceEqDiff, Nat.reduceAdd, Nat.reduceMul, Nat.reduceSub, Int.cast_ofNat_Int, bitK, plc, dcells, List.length_map, getD_u8, getD_encW, encW, row, setV_enc2, keysOk_enc, isKey, isInt, room, n1, n2, n3, n4, hd, hm1, hg5_3, nhd_5_3, nhm1_5_3]) <;> (first | done | rfl | (simp; done) | (simp; omega) | omega | (simp_all; done) | (simp_all; omega))
      · exact ⟨by omega, ⟨by simp [Hp.get_set, n1, n2, nhd_5_3, hd], by
            first
            | exact ⟨_, _, by rw [keptS_succ, if_pos (by simp only [dig, Bool.and_eq_true, decide_eq_true_eq]; omega)]; simp only [Hp.get_set, n1, n2, nhm1_5_3, if_true, if_false, hm1] <;> rfl⟩
            | exact ⟨_, _, by rw [keptS_succ, if_neg (by simp only [dig, Bool.and_eq_true, decide_eq_true_eq]; omega)]; simp only [Hp.get_set, n1, n2, nhm1_5_3, if_true, if_false, hm1] <;> rfl⟩⟩⟩
    ·
     all_goals try (cases hc; done)
     all_goals try simp only [push_cast] at hc
     all_goals try (exfalso; omega)
     all_goals
      refine Sk ?_
      simp only [push_cast, WS, Nat.reduceEqDiff]
      refine hK1 _ _ ?_
      clear hK1
      try clear K1
      refine WS_keep [0, 1, 15, 16, 17] _ ?_
      refine R0 fun K hK => ?_
      try simp (maxSteps := 4000000) (disch := omega) only [push_cast, Nat.reduceLT, Nat.reduceEqDiff, Int.reduceToNat, Int.reduceLT, Int.reduceLE, Int.reduceAdd, Int.reduceSub, Int.reduceMul, Int.reduceNeg, Int.reduceEq, reduceCtorEq, Int.cast_ofNat_Int, Hp.get_set, bitK, plc, dcells, List.length_map, getD_u8, getD_encW, encW, row, setV_enc2, keysOk_enc, isKey, isInt, room, n1, n2, n3, n4, hd, hm1, hg5_3, nhd_5_3, nhm1_5_3]
      (repeat refine And.intro (by first | omega | (simp; done) | (simp_all; done) | (simp_all; omega)) ?_)
      refine Qk hK [0, 1, 15, 16, 17] ?_
      clear hK K
      refine Ag (hM0 _ _ ?_)
      refine ⟨_, ?_, i + 1,  rfl, ?_, ?_, ?_⟩
      · first | omega | (simp; done) | (simp_all; done) | (simp_all; omega)
      · (try simp (disch := omega) only [push_cast, Int.reduceToNat, Int.reduceLT, Int.reduceLE, Int.reduceAdd, Int.reduceSub, Int.reduceMul, Int.reduceNeg, Int.reduceEq, reduceCtorEq, Nat.reduceLeDiff, Nat.reduceLT, Nat.reduceEqDiff, Nat.reduceAdd, Nat.reduceMul, Nat.reduceSub, Int.cast_ofNat_Int, bitK, plc, dcells, List.length_map, getD_u8, getD_encW, encW, row, setV_enc2, keysOk_enc, isKey, isInt, room, n1, n2, n3, n4, hd, hm1, hg5_3, nhd_5_3, nhm1_5_3]) <;> (first | done | rfl | (simp; done) | (simp; omega) | omega | (simp_all; done) | (simp_all; omega))
      · first | rfl | (try simp (disch := omega) only [push_cast, Int.reduceToNat, Int.reduceLT, Int.reduceLE, Int.reduceAdd, Int.reduceSub, Int.reduceMul, Int.reduceNeg, Int.reduceEq, reduceCtorEq, Nat.reduceLeDiff, Nat.reduceLT, Nat.reduceEqDiff, Nat.reduceAdd, Nat.reduceMul, Nat.reduceSub, Int.cast_ofNat_Int, bitK, plc, dcells, List.length_map, getD_u8, getD_encW, encW, row, setV_enc2, keysOk_enc, isKey, isInt, room, n1, n2, n3, n4, hd, hm1, hg5_3, nhd_5_3, nhm1_5_3]) <;> (first | done | rfl | (simp; done) | (simp; omega) | omega | (simp_all; done) | (simp_all; omega))
      · exact ⟨by omega, ⟨by simp [Hp.get_set, n1, n2, nhd_5_3, hd], by
            first
            | exact ⟨_, _, by rw [keptS_succ, if_pos (by simp only [dig, Bool.and_eq_true, decide_eq_true_eq]; omega)]; simp only [Hp.get_set, n1, n2, nhm1_5_3, if_true, if_false, hm1] <;> rfl⟩
            | exact ⟨_, _, by rw [keptS_succ, if_neg (by simp only [dig, Bool.and_eq_true, decide_eq_true_eq]; omega)]; simp only [Hp.get_set, n1, n2, nhm1_5_3, if_true, if_false, hm1] <;> rfl⟩⟩⟩
end Go.Vm.Try
