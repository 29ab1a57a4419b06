/- Walks of functions of the program, and laws of what they compute. -/
import Derived.Test.YtbicfijohjijhaaVdS
set_option linter.unusedSimpArgs false
set_option linter.unusedVariables false
set_option maxHeartbeats 4000000
namespace Go.Vm.Try
open Go.Proofs
theorem digN (b : List UInt8) (i : Nat) (h : i / 8 < b.length) : dig b i = decide ((b.getD (i/8) 0).toNat / 2 ^ (i % 8) % 2 = 1) := by simp [dig, bitN, h]
def rWbad (f s : Int) (n : Nat) : Prop := (f ≠ 0 ∧ f ≠ 1) ∨ s < 0 ∨ 65535 < s ∨ n ≠ 128
instance (f s : Int) (n : Nat) : Decidable (rWbad f s n) := by unfold rWbad; infer_instance
def rfull (X : RDisk) (f s : Int) : Prop := rLen f X.l ≤ s ∧ X.quota < s + 1 + rLen (1 - f) X.l
instance (X : RDisk) (f s : Int) : Decidable (rfull X f s) := by unfold rfull; infer_instance
def rwriteE (X : RDisk) (f s : Int) (n : Nat) : Int := if rWbad f s n then 1 else if X.down = true then 51 else if rfull X f s then 50 else rchangeV X
def rputD (X : RDisk) (f s : Int) (b : Sec) : RDisk := { X with l := X.l ++ [⟨f, s, b, false⟩] }
def rwriteD (X : RDisk) (f s : Int) (b : Sec) : RDisk := if rWbad f s b.length ∨ X.down = true ∨ rfull X f s then X else if rchangeV X = 0 then rputD (rchangeD X) f s b else rchangeD X
theorem rLen_bound (f : Int) (l : List RW) (h : ∀ w ∈ l, 0 ≤ w.s ∧ w.s ≤ 65535) : 0 ≤ rLen f l ∧ rLen f l ≤ 65536 := by
  have : ∀ (l : List RW) (m : Int), (∀ w ∈ l, 0 ≤ w.s ∧ w.s ≤ 65535) → 0 ≤ m → m ≤ 65536 → 0 ≤ l.foldl (fun n w => if w.f = f ∧ n ≤ w.s then w.s + 1 else n) m ∧ l.foldl (fun n w => if w.f = f ∧ n ≤ w.s then w.s + 1 else n) m ≤ 65536 := by
    intro l
    induction l with
    | nil => intro m _ h1 h2; exact ⟨h1, h2⟩
    | cons e l ih =>
      intro m h h1 h2
      obtain ⟨h3, h4⟩ := h e (List.mem_cons_self ..)
      refine ih _ (fun e he => h e (List.mem_cons_of_mem _ he)) ?_ ?_ <;> (simp only []; split <;> omega)
  exact this l 0 h (by omega) (by omega)
theorem rpre {X : RDisk} {x gl cap : Nat} {tl : List V} {σ : Hp} (h : RAt X x gl cap tl σ) : (cellsAt σ gl).take (X.l.length * 4) = flat (X.l.map encR) := by
  rw [h.hl, List.take_append_of_le_length (by rw [rows_len encR 4 encR_len]; omega), List.take_of_length_le (by rw [rows_len encR 4 encR_len]; omega)]
theorem rlenc {X : RDisk} {x gl cap : Nat} {tl : List V} {σ : Hp} (h : RAt X x gl cap tl σ) : (cellsAt σ gl).length = cap * 4 := by rw [h.hl, h.ht]
theorem flat_snoc (l : List RW) (w : RW) : flat ((l ++ [w]).map encR) = flat (l.map encR) ++ [.int .i64 w.f, .int .i64 w.s, row w.b, .bool w.sure] := by
  rw [List.map_append, flat_append]; rfl
theorem RAt.setL {X : RDisk} {x gl cap : Nat} {tl : List V} {σ : Hp} (h : RAt X x gl cap tl σ) {L : List RW} (hL : L.length = X.l.length) {cs : List V} (hcs : cs = flat (L.map encR) ++ tl) : RAt { X with l := L } x gl cap tl (σ.set gl (.cells cs)) := by
  subst hcs
  refine ⟨?_, by simp [cellsAt], ?_, by simp [isCells], h.n1⟩
  · rw [Hp.get_set_ne _ _ h.n1.symm, h.hx]; simp [rcells, hL]
  · have := h.ht
    rw [List.length_append, rows_len encR 4 encR_len] at this ⊢
    rw [hL]; exact this
theorem RAt.samel {X : RDisk} {x gl cap : Nat} {tl : List V} {σ : Hp} (h : RAt X x gl cap tl σ) {L : List RW} (hL : L = X.l) : RAt { X with l := L } x gl cap tl σ := by subst hL; exact h
/-- What a row of one's own becomes by one more. -/
theorem cells_new {σ : Hp} {g g' : Nat} {cs : List V} : cellsAt ((σ.del g).set g' (.cells cs)) g' = cs := by simp [cellsAt]

theorem digit {tag : Tag} (b : List UInt8) (i : Nat) (h1 : i < 10000000) : PSpec Go.Proofs.Try.prog 52 [.sl 1 (b.map u8) tag, .int .i64 i] (.bool (dig b i)) := by
 refine introP (n := 28) (rs := [.tmp 4]) (fn := Go.Proofs.Try.f52) (by rfl) rfl (by kernel_rfl) rfl rfl (Nat.le_of_ble_eq_true rfl) (fun Q0 hQ0 => ?_)
 refine WS.seq ?_
 refine A1 [0, 1] (by decide) ?_
 refine WS.seq (WS.seq ?_)
 refine R0 fun K hK => ?_
 try simp (maxSteps := 4000000) (disch := omega) only [push_cast, Nat.reduceLT, Nat.reduceEqDiff, Int.reduceToNat, Int.reduceLT, Int.reduceLE, Int.reduceAdd, Int.reduceSub, Int.reduceMul, Int.reduceNeg, Int.reduceEq, reduceCtorEq, Int.cast_ofNat_Int, Hp.get_set, List.length_map, getD_u8]
 (repeat refine And.intro (by first | omega | (simp; done) | (simp_all; done) | (simp_all; omega)) ?_)
 refine Qk hK [0, 1, 11] ?_
 clear hK K
 refine CI rfl (fun hc => ?_) (fun hc => ?_)
 ·
  all_goals try (cases hc; done)
  all_goals try simp only [push_cast] at hc
  all_goals try (exfalso; omega)
  all_goals
   refine WS.seq ?_
   refine A1 [4] (by decide) ?_
   refine Rt ?_
   refine hQ0 _ _ _ ?_
   try simp (maxSteps := 4000000) only [push_cast, Int.reduceToNat, Int.reduceLT, Int.reduceLE, Int.reduceAdd, Int.reduceSub, Int.reduceMul, Int.reduceNeg, Int.reduceEq, reduceCtorEq, Nat.reduceLeDiff, Nat.reduceLT, Nat.reduceEqDiff, Nat.reduceAdd, Nat.reduceMul, Nat.reduceSub, Int.cast_ofNat_Int, List.length_map, getD_u8]
   simp [dig]; omega
 all_goals try (cases hc; done)
 all_goals try simp only [push_cast] at hc
 all_goals try (exfalso; omega)
 all_goals
  refine Sk ?_
  refine WS.seq ?_
  refine R0 fun K hK => ?_
  try simp (maxSteps := 4000000) (disch := omega) only [push_cast, Nat.reduceLT, Nat.reduceEqDiff, Nat.reduceAdd, Nat.reduceMul, Nat.reduceSub, Nat.reduceLeDiff, Int.reduceToNat, Int.reduceLT, Int.reduceLE, Int.reduceAdd, Int.reduceSub, Int.reduceMul, Int.reduceNeg, Int.reduceEq, reduceCtorEq, Int.cast_ofNat_Int, Hp.get_set, List.length_map, getD_u8]
  (repeat refine And.intro (by first | omega | (simp; done) | (simp_all; done) | (simp_all; omega)) ?_)
  refine Qk hK [1, 5] ?_
  clear hK K
  refine WS.seq (WS.seq ?_)
  refine A1 [1, 5, 6] (by decide) ?_
  refine Bk fun K0 hK0 => ?_
  refine WS_keep [1, 5, 6] _ ?_
  refine Lp (fun m env σ' => ∃ (k c : Nat), m = i % 8 - k ∧ env = [(1, .int .i64 i), (5, .int .u8 c), (6, .int .i64 k)] ∧ σ' = Hp.empty ∧ (k ≤ i % 8 ∧ i / 8 < b.length ∧ c = (b.getD (i/8) 0).toNat / 2 ^ k ∧ c ≤ 255)) ?_ ?_
  · refine ⟨_, 0, (b.getD (i/8) 0).toNat,  rfl, ?_, ?_, ?_⟩
    · (try simp (disch := omega) only [push_cast, Int.reduceToNat, Int.reduceLT, Int.reduceLE, Int.reduceAdd, Int.reduceSub, Int.reduceMul, Int.reduceNeg, Int.reduceEq, reduceCtorEq, Nat.reduceLeDiff, Nat.reduceLT, Nat.reduceEqDiff, Nat.reduceAdd, Nat.reduceMul, Nat.reduceSub, Int.cast_ofNat_Int, List.length_map, getD_u8]) <;> (first | done | rfl | (simp; done) | (simp; omega) | omega | (simp_all; done) | (simp_all; omega))
    · first | rfl | (try simp (disch := omega) only [push_cast, Int.reduceToNat, Int.reduceLT, Int.reduceLE, Int.reduceAdd, Int.reduceSub, Int.reduceMul, Int.reduceNeg, Int.reduceEq, reduceCtorEq, Nat.reduceLeDiff, Nat.reduceLT, Nat.reduceEqDiff, Nat.reduceAdd, Nat.reduceMul, Nat.reduceSub, Int.cast_ofNat_Int, List.length_map, getD_u8]) <;> (first | done | rfl | (simp; done) | (simp; omega) | omega | (simp_all; done) | (simp_all; omega))
    · exact ⟨by omega, by omega, by simp, u8_nat _⟩
  intro m env σ' hJ M0 hM0
  obtain ⟨k, c, rfl, rfl, rfl, hk, hl, he, hc8⟩ := hJ
  refine WS.seq (WS.seq ?_)
  refine R0 fun K hK => ?_
  try simp (maxSteps := 4000000) (disch := omega) only [push_cast, Nat.reduceLT, Nat.reduceEqDiff, Int.reduceToNat, Int.reduceLT, Int.reduceLE, Int.reduceAdd, Int.reduceSub, Int.reduceMul, Int.reduceNeg, Int.reduceEq, reduceCtorEq, Int.cast_ofNat_Int, Hp.get_set, List.length_map, getD_u8]
  (repeat refine And.intro (by first | omega | (simp; done) | (simp_all; done) | (simp_all; omega)) ?_)
  refine Qk hK [1, 5, 6, 20] ?_
  clear hK K
  refine CI rfl (fun hc => ?_) (fun hc => ?_)
  rotate_left
  ·
   all_goals try (cases hc; done)
   all_goals try simp only [push_cast] at hc
   all_goals try (exfalso; omega)
   all_goals
    refine Ex ?_
    simp only [push_cast, WS, Nat.reduceEqDiff]
    refine hK0 _ _ ?_
    clear hK0
    try clear K0
    refine WS_keep [5] _ ?_
    refine WS.seq ?_
    refine R0 fun K hK => ?_
    try simp (maxSteps := 4000000) (disch := omega) only [push_cast, Nat.reduceLT, Nat.reduceEqDiff, Int.reduceToNat, Int.reduceLT, Int.reduceLE, Int.reduceAdd, Int.reduceSub, Int.reduceMul, Int.reduceNeg, Int.reduceEq, reduceCtorEq, Int.cast_ofNat_Int, Hp.get_set, List.length_map, getD_u8]
    (repeat refine And.intro (by first | omega | (simp; done) | (simp_all; done) | (simp_all; omega)) ?_)
    refine Qk hK [4] ?_
    clear hK K
    refine Rt ?_
    refine hQ0 _ _ _ ?_
    try simp (maxSteps := 4000000) only [push_cast, Int.reduceToNat, Int.reduceLT, Int.reduceLE, Int.reduceAdd, Int.reduceSub, Int.reduceMul, Int.reduceNeg, Int.reduceEq, reduceCtorEq, Nat.reduceLeDiff, Nat.reduceLT, Nat.reduceEqDiff, Nat.reduceAdd, Nat.reduceMul, Nat.reduceSub, Int.cast_ofNat_Int, List.length_map, getD_u8]
    have hk2 : k = i % 8 := by omega
    subst hk2
    rw [digN _ _ hl, ← he]
    simp
    omega
  all_goals try (cases hc; done)
  all_goals try simp only [push_cast] at hc
  all_goals try (exfalso; omega)
  all_goals
   refine Sk ?_
   refine WS.seq ?_
   refine Bk fun K1 hK1 => ?_
   refine R0 fun K hK => ?_
   try simp (maxSteps := 4000000) (disch := omega) only [push_cast, Nat.reduceLT, Nat.reduceEqDiff, Int.reduceToNat, Int.reduceLT, Int.reduceLE, Int.reduceAdd, Int.reduceSub, Int.reduceMul, Int.reduceNeg, Int.reduceEq, reduceCtorEq, Int.cast_ofNat_Int, Hp.get_set, List.length_map, getD_u8]
   (repeat refine And.intro (by first | omega | (simp; done) | (simp_all; done) | (simp_all; omega)) ?_)
   refine Qk hK [1, 5, 6] ?_
   clear hK K
   simp only [push_cast, WS, Nat.reduceEqDiff]
   refine hK1 _ _ ?_
   clear hK1
   try clear K1
   refine WS_keep [1, 5, 6] _ ?_
   refine R0 fun K hK => ?_
   try simp (maxSteps := 4000000) (disch := omega) only [push_cast, Nat.reduceLT, Nat.reduceEqDiff, Int.reduceToNat, Int.reduceLT, Int.reduceLE, Int.reduceAdd, Int.reduceSub, Int.reduceMul, Int.reduceNeg, Int.reduceEq, reduceCtorEq, Int.cast_ofNat_Int, Hp.get_set, List.length_map, getD_u8]
   (repeat refine And.intro (by first | omega | (simp; done) | (simp_all; done) | (simp_all; omega)) ?_)
   refine Qk hK [1, 5, 6] ?_
   clear hK K
   refine Ag (hM0 _ _ ?_)
   refine ⟨_, ?_, k + 1, c / 2,  rfl, ?_, ?_, ?_⟩
   · first | omega | (simp; done) | (simp_all; done) | (simp_all; omega)
   · (try simp (disch := omega) only [push_cast, Int.reduceToNat, Int.reduceLT, Int.reduceLE, Int.reduceAdd, Int.reduceSub, Int.reduceMul, Int.reduceNeg, Int.reduceEq, reduceCtorEq, Nat.reduceLeDiff, Nat.reduceLT, Nat.reduceEqDiff, Nat.reduceAdd, Nat.reduceMul, Nat.reduceSub, Int.cast_ofNat_Int, List.length_map, getD_u8]) <;> (first | done | rfl | (simp; done) | (simp; omega) | omega | (simp_all; done) | (simp_all; omega))
   · first | rfl | (try simp (disch := omega) only [push_cast, Int.reduceToNat, Int.reduceLT, Int.reduceLE, Int.reduceAdd, Int.reduceSub, Int.reduceMul, Int.reduceNeg, Int.reduceEq, reduceCtorEq, Nat.reduceLeDiff, Nat.reduceLT, Nat.reduceEqDiff, Nat.reduceAdd, Nat.reduceMul, Nat.reduceSub, Int.cast_ofNat_Int, List.length_map, getD_u8]) <;> (first | done | rfl | (simp; done) | (simp; omega) | omega | (simp_all; done) | (simp_all; omega))
   · exact ⟨by omega, hl, by rw [he, Nat.pow_succ, Nat.div_div_eq_div_mul], by omega⟩
theorem rsync_spec {σ : Hp} {X : RDisk} {x : Nat} (file : Int) (hn : X.l.length ≤ 1000000) (h : RDiskAt X x σ) : Spec Go.Proofs.Try.prog 49 [.ptr x 0, .int .i64 file] (σ) (fun v σ' => v = .int .i64 (if file ≠ 0 ∧ file ≠ 1 then 1 else if X.down = true then 51 else rchangeV X) ∧ RDiskAt (if (file ≠ 0 ∧ file ≠ 1) ∨ X.down = true then X else if rchangeV X = 0 then { rchangeD X with l := rsync file X.l.length X.l } else rchangeD X) x σ') := by
 refine introS (n := 50) (rs := [.tmp 4]) (fn := Go.Proofs.Try.f49) (by rfl) rfl (by kernel_rfl) rfl rfl (Nat.le_of_ble_eq_true rfl) (fun Q0 hQ0 => ?_)
 have h0 := h
 obtain ⟨gl, cap, tl, hX⟩ := h
 have hx := hX.hx
 have hle := hX.le
 refine WS.seq ?_
 refine A1 [0, 1] (by decide) ?_
 refine WS.seq (WS.seq ?_)
 refine R0 fun K hK => ?_
 try simp (maxSteps := 4000000) (disch := omega) only [push_cast, Nat.reduceLT, Nat.reduceEqDiff, Int.reduceToNat, Int.reduceLT, Int.reduceLE, Int.reduceAdd, Int.reduceSub, Int.reduceMul, Int.reduceNeg, Int.reduceEq, reduceCtorEq, Int.cast_ofNat_Int, Hp.get_set, rcells, rget0, rlen0, rlen3, rlen4, rsync_len, rsync_get, rset3, hx]
 all_goals try (first | refine guardT 9 rfl (fun hc => ?_) (fun hc => ?_) | refine guardF 9 rfl (fun hc => ?_) (fun hc => ?_)) <;> try simp only [push_cast] at hc
 all_goals try (exfalso; omega)
 all_goals try simp (maxSteps := 4000000) (disch := omega) only [push_cast, Nat.reduceLT, Nat.reduceEqDiff, Int.reduceToNat, Int.reduceLT, Int.reduceLE, Int.reduceAdd, Int.reduceSub, Int.reduceMul, Int.reduceNeg, Int.reduceEq, reduceCtorEq, Int.cast_ofNat_Int, Hp.get_set, rcells, rget0, rlen0, rlen3, rlen4, rsync_len, rsync_get, rset3, hx]
 all_goals
  refine Qk hK [0, 1, 12] ?_
  clear hK K
  refine CI rfl (fun hc => ?_) (fun hc => ?_)
  ·
   all_goals try (cases hc; done)
   all_goals try simp only [push_cast] at hc
   all_goals try (exfalso; omega)
   all_goals
    refine WS.seq ?_
    refine A1 [4] (by decide) ?_
    refine Rt ?_
    refine hQ0 _ _ _ ?_
    try simp (maxSteps := 4000000) only [push_cast, Int.reduceToNat, Int.reduceLT, Int.reduceLE, Int.reduceAdd, Int.reduceSub, Int.reduceMul, Int.reduceNeg, Int.reduceEq, reduceCtorEq, Nat.reduceLeDiff, Nat.reduceLT, Nat.reduceEqDiff, Nat.reduceAdd, Nat.reduceMul, Nat.reduceSub, Int.cast_ofNat_Int, rcells, rget0, rlen0, rlen3, rlen4, rsync_len, rsync_get, rset3, hx]
    exact ⟨_, HSub.refl _, by rw [if_pos (by omega)], by rw [if_pos (by omega)]; exact h0⟩
  all_goals try (cases hc; done)
  all_goals try simp only [push_cast] at hc
  all_goals try (exfalso; omega)
  all_goals
   refine Sk ?_
   refine WS.seq (WS.seq ?_)
   refine R0 fun K hK => ?_
   try simp (maxSteps := 4000000) (disch := omega) only [push_cast, Nat.reduceLT, Nat.reduceEqDiff, Nat.reduceAdd, Nat.reduceMul, Nat.reduceSub, Nat.reduceLeDiff, Hp.get_set, rcells, rget0, rlen0, rlen3, rlen4, rsync_len, rsync_get, rset3, hx]
   (repeat refine And.intro (by first | omega | (simp; done) | (simp_all; done) | (simp_all; omega)) ?_)
   refine Qk hK [0, 1, 16] ?_
   clear hK K
   refine CI rfl (fun hc => ?_) (fun hc => ?_)
   ·
    all_goals try (cases hc; done)
    all_goals try simp only [push_cast] at hc
    all_goals try (exfalso; omega)
    all_goals
     refine WS.seq ?_
     refine A1 [4] (by decide) ?_
     refine Rt ?_
     refine hQ0 _ _ _ ?_
     try simp (maxSteps := 4000000) only [push_cast, Int.reduceToNat, Int.reduceLT, Int.reduceLE, Int.reduceAdd, Int.reduceSub, Int.reduceMul, Int.reduceNeg, Int.reduceEq, reduceCtorEq, Nat.reduceLeDiff, Nat.reduceLT, Nat.reduceEqDiff, Nat.reduceAdd, Nat.reduceMul, Nat.reduceSub, Int.cast_ofNat_Int, rcells, rget0, rlen0, rlen3, rlen4, rsync_len, rsync_get, rset3, hx]
     exact ⟨_, HSub.refl _, by rw [if_neg (by omega), if_pos hc], by rw [if_pos (by simp [hc])]; exact h0⟩
   all_goals try (cases hc; done)
   all_goals try simp only [push_cast] at hc
   all_goals try (exfalso; omega)
   all_goals
    have hdn := hc
    refine Sk ?_
    refine WS.seq ?_
    refine R0 fun K hK => ?_
    try simp (maxSteps := 4000000) (disch := omega) only [push_cast, Nat.reduceLT, Nat.reduceEqDiff, Hp.get_set, rcells, rget0, rlen0, rlen3, rlen4, rsync_len, rsync_get, rset3, hx]
    refine callS (rchange_spec h0) (fun v τ h => ?_)
    obtain ⟨rfl, h⟩ := h
    try simp (maxSteps := 4000000) (disch := omega) only [push_cast, Nat.reduceLT, Nat.reduceEqDiff, Hp.get_set, rcells, rget0, rlen0, rlen3, rlen4, rsync_len, rsync_get, rset3, hx]
    refine Qk hK [0, 1, 5] ?_
    clear hK K
    refine WS.seq (WS.seq ?_)
    refine A1 [0, 1, 5, 6] (by decide) ?_
    obtain ⟨gl, cap, tl, hX⟩ := h
    have hXl := rchangeD_l X
    have hn2 : (rchangeD X).l.length ≤ 1000000 := by rw [hXl]; exact hn
    generalize hE : rchangeD X = E at *
    refine Bk fun K0 hK0 => ?_
    refine WS_keep [0, 1, 5, 6] _ ?_
    refine Lp (fun m env σ' => ∃ (i : Nat), m = E.l.length - i ∧ env = [(0, .ptr x 0), (1, .int .i64 file), (5, .int .i64 (rchangeV X)), (6, .int .i64 i)] ∧ σ' = σ' ∧ (i ≤ E.l.length ∧ (rchangeV X ≠ 0 → i = 0) ∧ RAt { E with l := rsync file i E.l } x gl cap tl σ')) ?_ ?_
    · refine ⟨_, 0,  rfl, ?_, ?_, ?_⟩
      · (try simp (disch := omega) only [push_cast, Int.reduceToNat, Int.reduceLT, Int.reduceLE, Int.reduceAdd, Int.reduceSub, Int.reduceMul, Int.reduceNeg, Int.reduceEq, reduceCtorEq, Nat.reduceLeDiff, Nat.reduceLT, Nat.reduceEqDiff, Nat.reduceAdd, Nat.reduceMul, Nat.reduceSub, Int.cast_ofNat_Int, rcells, rget0, rlen0, rlen3, rlen4, rsync_len, rsync_get, rset3, hx]) <;> (first | done | rfl | (simp; done) | (simp; omega) | omega | (simp_all; done) | (simp_all; omega))
      · first | rfl | (try simp (disch := omega) only [push_cast, Int.reduceToNat, Int.reduceLT, Int.reduceLE, Int.reduceAdd, Int.reduceSub, Int.reduceMul, Int.reduceNeg, Int.reduceEq, reduceCtorEq, Nat.reduceLeDiff, Nat.reduceLT, Nat.reduceEqDiff, Nat.reduceAdd, Nat.reduceMul, Nat.reduceSub, Int.cast_ofNat_Int, rcells, rget0, rlen0, rlen3, rlen4, rsync_len, rsync_get, rset3, hx]) <;> (first | done | rfl | (simp; done) | (simp; omega) | omega | (simp_all; done) | (simp_all; omega))
      · exact ⟨by omega, fun _ => rfl, by simpa [rsync] using hX⟩
    intro m env σ' hJ M0 hM0
    obtain ⟨i, rfl, rfl, -, hi, hz, hX⟩ := hJ
    have hx := hX.hx
    refine WS.seq (WS.seq ?_)
    refine R0 fun K hK => ?_
    try simp (maxSteps := 4000000) (disch := omega) only [push_cast, Nat.reduceLT, Nat.reduceEqDiff, Nat.reduceAdd, Nat.reduceMul, Nat.reduceSub, Nat.reduceLeDiff, Int.reduceToNat, Int.reduceLT, Int.reduceLE, Int.reduceAdd, Int.reduceSub, Int.reduceMul, Int.reduceNeg, Int.reduceEq, reduceCtorEq, Int.cast_ofNat_Int, Hp.get_set, rcells, rget0, rlen0, rlen3, rlen4, rsync_len, rsync_get, rset3, hx]
    (repeat refine And.intro (by first | omega | (simp; done) | (simp_all; done) | (simp_all; omega)) ?_)
    all_goals try (first | refine guardT 26 rfl (fun hc => ?_) (fun hc => ?_) | refine guardF 26 rfl (fun hc => ?_) (fun hc => ?_)) <;> try simp only [push_cast] at hc
    all_goals try (exfalso; omega)
    all_goals try simp (maxSteps := 4000000) (disch := omega) only [push_cast, Nat.reduceLT, Nat.reduceEqDiff, Nat.reduceAdd, Nat.reduceMul, Nat.reduceSub, Nat.reduceLeDiff, Int.reduceToNat, Int.reduceLT, Int.reduceLE, Int.reduceAdd, Int.reduceSub, Int.reduceMul, Int.reduceNeg, Int.reduceEq, reduceCtorEq, Int.cast_ofNat_Int, Hp.get_set, rcells, rget0, rlen0, rlen3, rlen4, rsync_len, rsync_get, rset3, hx]
    all_goals (repeat refine And.intro (by first | omega | (simp; done) | (simp_all; done) | (simp_all; omega)) ?_)
    all_goals
     refine Qk hK [0, 1, 5, 6, 29] ?_
     clear hK K
     refine CI rfl (fun hc => ?_) (fun hc => ?_)
     rotate_left
     ·
      all_goals try (cases hc; done)
      all_goals try simp only [push_cast] at hc
      all_goals try (exfalso; omega)
      all_goals
       refine Ex ?_
       simp only [push_cast, WS, Nat.reduceEqDiff]
       refine hK0 _ _ ?_
       clear hK0
       try clear K0
       refine WS_keep [5] _ ?_
       refine WS.seq ?_
       refine R0 fun K hK => ?_
       try simp (maxSteps := 4000000) (disch := omega) only [push_cast, Nat.reduceLT, Nat.reduceEqDiff, Hp.get_set, rcells, rget0, rlen0, rlen3, rlen4, rsync_len, rsync_get, rset3, hx]
       refine Qk hK [4] ?_
       clear hK K
       refine Rt ?_
       refine hQ0 _ _ _ ?_
       try simp (maxSteps := 4000000) only [push_cast, Int.reduceToNat, Int.reduceLT, Int.reduceLE, Int.reduceAdd, Int.reduceSub, Int.reduceMul, Int.reduceNeg, Int.reduceEq, reduceCtorEq, Nat.reduceLeDiff, Nat.reduceLT, Nat.reduceEqDiff, Nat.reduceAdd, Nat.reduceMul, Nat.reduceSub, Int.cast_ofNat_Int, rcells, rget0, rlen0, rlen3, rlen4, rsync_len, rsync_get, rset3, hx]
       refine ⟨_, HSub.refl _, by rw [if_neg (by omega), if_neg (by simp [hdn])], ?_⟩
       rw [if_neg (by rw [hdn]; simp; omega)]
       by_cases hr : rchangeV X = 0
       · have hie : i = E.l.length := by omega
         rw [if_pos hr, ← hXl]
         subst hie
         exact ⟨gl, cap, tl, hX⟩
       · have hie : i = 0 := hz hr
         rw [if_neg hr]
         subst hie
         exact ⟨gl, cap, tl, by simpa [rsync] using hX⟩
     all_goals try (cases hc; done)
     all_goals try simp only [push_cast] at hc
     all_goals try (exfalso; omega)
     all_goals
      have hi2 : i < E.l.length := by omega
      have hi3 : i < (rsync file i E.l).length := by rw [rsync_len]; exact hi2
      have hgl : σ'.get gl = some (.cells (flat ((rsync file i E.l).map encR) ++ tl)) := hX.get (by simp only [rsync_len]; omega)
      refine Sk ?_
      refine WS.seq ?_
      refine Bk fun K1 hK1 => ?_
      refine WS.seq ?_
      refine R0 fun K hK => ?_
      try simp (maxSteps := 4000000) (disch := omega) only [push_cast, Nat.reduceLT, Nat.reduceEqDiff, Nat.reduceAdd, Nat.reduceMul, Nat.reduceSub, Nat.reduceLeDiff, Int.reduceToNat, Int.reduceLT, Int.reduceLE, Int.reduceAdd, Int.reduceSub, Int.reduceMul, Int.reduceNeg, Int.reduceEq, reduceCtorEq, Int.cast_ofNat_Int, Hp.get_set, rcells, rget0, rlen0, rlen3, rlen4, rsync_len, rsync_get, rset3, hx, hgl]
      (repeat refine And.intro (by first | omega | (simp; done) | (simp_all; done) | (simp_all; omega)) ?_)
      refine Qk hK [0, 1, 5, 6, 41] ?_
      clear hK K
      refine CI rfl (fun hc => ?_) (fun hc => ?_)
      ·
       all_goals try (cases hc; done)
       all_goals try simp only [push_cast] at hc
       all_goals try (exfalso; omega)
       all_goals
        refine R0 fun K hK => ?_
        try simp (maxSteps := 4000000) (disch := omega) only [push_cast, Nat.reduceLT, Nat.reduceEqDiff, Nat.reduceAdd, Nat.reduceMul, Nat.reduceSub, Nat.reduceLeDiff, Int.reduceToNat, Int.reduceLT, Int.reduceLE, Int.reduceAdd, Int.reduceSub, Int.reduceMul, Int.reduceNeg, Int.reduceEq, reduceCtorEq, Int.cast_ofNat_Int, Hp.get_set, rcells, rget0, rlen0, rlen3, rlen4, rsync_len, rsync_get, rset3, hx, hgl]
        (repeat refine And.intro (by first | omega | (simp; done) | (simp_all; done) | (simp_all; omega)) ?_)
        refine Qk hK [0, 1, 5, 6] ?_
        clear hK K
        simp only [push_cast, WS, Nat.reduceEqDiff]
        refine hK1 _ _ ?_
        clear hK1
        try clear K1
        refine WS_keep [0, 1, 5, 6] _ ?_
        refine R0 fun K hK => ?_
        try simp (maxSteps := 4000000) (disch := omega) only [push_cast, Nat.reduceLT, Nat.reduceEqDiff, Int.reduceToNat, Int.reduceLT, Int.reduceLE, Int.reduceAdd, Int.reduceSub, Int.reduceMul, Int.reduceNeg, Int.reduceEq, reduceCtorEq, Int.cast_ofNat_Int, Hp.get_set, rcells, rget0, rlen0, rlen3, rlen4, rsync_len, rsync_get, rset3, hx, hgl]
        (repeat refine And.intro (by first | omega | (simp; done) | (simp_all; done) | (simp_all; omega)) ?_)
        refine Qk hK [0, 1, 5, 6] ?_
        clear hK K
        refine Ag (hM0 _ _ ?_)
        refine ⟨_, ?_, i + 1,  rfl, ?_, ?_, ?_⟩
        · first | omega | (simp; done) | (simp_all; done) | (simp_all; omega)
        · (try simp (disch := omega) only [push_cast, Int.reduceToNat, Int.reduceLT, Int.reduceLE, Int.reduceAdd, Int.reduceSub, Int.reduceMul, Int.reduceNeg, Int.reduceEq, reduceCtorEq, Nat.reduceLeDiff, Nat.reduceLT, Nat.reduceEqDiff, Nat.reduceAdd, Nat.reduceMul, Nat.reduceSub, Int.cast_ofNat_Int, rcells, rget0, rlen0, rlen3, rlen4, rsync_len, rsync_get, rset3, hx, hgl]) <;> (first | done | rfl | (simp; done) | (simp; omega) | omega | (simp_all; done) | (simp_all; omega))
        · first | rfl | (try simp (disch := omega) only [push_cast, Int.reduceToNat, Int.reduceLT, Int.reduceLE, Int.reduceAdd, Int.reduceSub, Int.reduceMul, Int.reduceNeg, Int.reduceEq, reduceCtorEq, Nat.reduceLeDiff, Nat.reduceLT, Nat.reduceEqDiff, Nat.reduceAdd, Nat.reduceMul, Nat.reduceSub, Int.cast_ofNat_Int, rcells, rget0, rlen0, rlen3, rlen4, rsync_len, rsync_get, rset3, hx, hgl]) <;> (first | done | rfl | (simp; done) | (simp; omega) | omega | (simp_all; done) | (simp_all; omega))
        · refine ⟨by omega, by intro h; omega, ?_⟩
          first
          | (rw [rsync_succ _ _ _ (by omega), if_pos hc]; exact hX.setL (by simp [rsync_len]) rfl)
          | (rw [rsync_succ _ _ _ (by omega), if_neg hc]; exact hX)
      ·
       all_goals try (cases hc; done)
       all_goals try simp only [push_cast] at hc
       all_goals try (exfalso; omega)
       all_goals
        refine Sk ?_
        simp only [push_cast, WS, Nat.reduceEqDiff]
        refine hK1 _ _ ?_
        clear hK1
        try clear K1
        refine WS_keep [0, 1, 5, 6] _ ?_
        refine R0 fun K hK => ?_
        try simp (maxSteps := 4000000) (disch := omega) only [push_cast, Nat.reduceLT, Nat.reduceEqDiff, Int.reduceToNat, Int.reduceLT, Int.reduceLE, Int.reduceAdd, Int.reduceSub, Int.reduceMul, Int.reduceNeg, Int.reduceEq, reduceCtorEq, Int.cast_ofNat_Int, Hp.get_set, rcells, rget0, rlen0, rlen3, rlen4, rsync_len, rsync_get, rset3, hx, hgl]
        (repeat refine And.intro (by first | omega | (simp; done) | (simp_all; done) | (simp_all; omega)) ?_)
        refine Qk hK [0, 1, 5, 6] ?_
        clear hK K
        refine Ag (hM0 _ _ ?_)
        refine ⟨_, ?_, i + 1,  rfl, ?_, ?_, ?_⟩
        · first | omega | (simp; done) | (simp_all; done) | (simp_all; omega)
        · (try simp (disch := omega) only [push_cast, Int.reduceToNat, Int.reduceLT, Int.reduceLE, Int.reduceAdd, Int.reduceSub, Int.reduceMul, Int.reduceNeg, Int.reduceEq, reduceCtorEq, Nat.reduceLeDiff, Nat.reduceLT, Nat.reduceEqDiff, Nat.reduceAdd, Nat.reduceMul, Nat.reduceSub, Int.cast_ofNat_Int, rcells, rget0, rlen0, rlen3, rlen4, rsync_len, rsync_get, rset3, hx, hgl]) <;> (first | done | rfl | (simp; done) | (simp; omega) | omega | (simp_all; done) | (simp_all; omega))
        · first | rfl | (try simp (disch := omega) only [push_cast, Int.reduceToNat, Int.reduceLT, Int.reduceLE, Int.reduceAdd, Int.reduceSub, Int.reduceMul, Int.reduceNeg, Int.reduceEq, reduceCtorEq, Nat.reduceLeDiff, Nat.reduceLT, Nat.reduceEqDiff, Nat.reduceAdd, Nat.reduceMul, Nat.reduceSub, Int.cast_ofNat_Int, rcells, rget0, rlen0, rlen3, rlen4, rsync_len, rsync_get, rset3, hx, hgl]) <;> (first | done | rfl | (simp; done) | (simp; omega) | omega | (simp_all; done) | (simp_all; omega))
        · refine ⟨by omega, by intro h; omega, ?_⟩
          first
          | (rw [rsync_succ _ _ _ (by omega), if_pos hc]; exact hX.setL (by simp [rsync_len]) rfl)
          | (rw [rsync_succ _ _ _ (by omega), if_neg hc]; exact hX)
end Go.Vm.Try
