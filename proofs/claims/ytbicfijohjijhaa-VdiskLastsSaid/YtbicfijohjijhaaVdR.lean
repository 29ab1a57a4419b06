/- Walks of functions of the program, and laws of what they compute. -/
import Derived.Test.YtbicfijohjijhaaVdC
import Derived.Test.YtbicfijohjijhaaV2
set_option linter.unusedSimpArgs false
set_option linter.unusedVariables false
set_option maxHeartbeats 4000000
namespace Go.Vm.Try
open Go.Proofs
structure RW where
  f : Int
  s : Int
  b : Sec
  sure : Bool
  deriving Inhabited
structure RDisk where
  quota : Int
  l : List RW
  calls : Int
  plan : Int
  down : Bool
def encR (w : RW) : V := .agg [.int .i64 w.f, .int .i64 w.s, row w.b, .bool w.sure]
theorem encR_len (w : RW) : (encR w).cells.length = 4 := rfl
def rcells (X : RDisk) (gl cap : Nat) : List V := [.int .i64 X.quota, .bs gl 0 X.l.length cap 4, .int .i64 X.calls, .int .i64 X.plan, .bool X.down]
structure RAt (X : RDisk) (x gl cap : Nat) (tl : List V) (σ : Hp) : Prop where
  hx : σ.get x = some (.cells (rcells X gl cap))
  hl : cellsAt σ gl = flat (X.l.map encR) ++ tl
  ht : (flat (X.l.map encR) ++ tl).length = cap * 4
  hc : isCells (σ.get gl) ∨ cap = 0
  n1 : gl ≠ x
def RDiskAt (X : RDisk) (x : Nat) (σ : Hp) : Prop := ∃ gl cap tl, RAt X x gl cap tl σ
theorem RAt.le {X : RDisk} {x gl cap : Nat} {tl : List V} {σ : Hp} (h : RAt X x gl cap tl σ) : X.l.length ≤ cap := by
  have := h.ht
  rw [List.length_append, rows_len encR 4 encR_len] at this
  omega
theorem RAt.get {X : RDisk} {x gl cap : Nat} {tl : List V} {σ : Hp} (h : RAt X x gl cap tl σ) (hn : 0 < X.l.length) : σ.get gl = some (.cells (flat (X.l.map encR) ++ tl)) := by
  have h1 := h.le
  have h2 := h.hl
  rcases h.hc with hc | hc
  · cases hg : σ.get gl with
    | none => rw [hg] at hc; exact hc.elim
    | some b =>
      rw [hg] at hc
      cases b <;> try exact hc.elim
      rw [cellsAt, hg] at h2
      simp only at h2
      rw [h2]
  · omega
theorem rget0 {X : List RW} (tl : List V) {i : Nat} (hi : i < X.length) : (flat (X.map encR) ++ tl).getD (i * 4) .dead = .int .i64 (X.getD i default).f := rows_get encR 4 encR_len tl X i 0 hi (by omega)
theorem rget1 {X : List RW} (tl : List V) {i : Nat} (hi : i < X.length) : (flat (X.map encR) ++ tl).getD (i * 4 + 1) .dead = .int .i64 (X.getD i default).s := rows_get encR 4 encR_len tl X i 1 hi (by omega)
theorem rget2 {X : List RW} (tl : List V) {i : Nat} (hi : i < X.length) : (flat (X.map encR) ++ tl).getD (i * 4 + 2) .dead = row (X.getD i default).b := rows_get encR 4 encR_len tl X i 2 hi (by omega)
theorem rget3 {X : List RW} (tl : List V) {i : Nat} (hi : i < X.length) : (flat (X.map encR) ++ tl).getD (i * 4 + 3) .dead = .bool (X.getD i default).sure := rows_get encR 4 encR_len tl X i 3 hi (by omega)
theorem rsub {X : List RW} (tl : List V) {i : Nat} (hi : i < X.length) : ((flat (X.map encR) ++ tl).drop (i * 4)).take 4 = [.int .i64 (X.getD i default).f, .int .i64 (X.getD i default).s, row (X.getD i default).b, .bool (X.getD i default).sure] := rows_sub encR 4 encR_len tl X i hi
theorem rlen {X : List RW} (tl : List V) {i : Nat} (hi : i < X.length) : i * 4 + 4 ≤ (flat (X.map encR) ++ tl).length := by
  rw [List.length_append, rows_len encR 4 encR_len]; omega
theorem rlen0 {X : List RW} (tl : List V) {i : Nat} (hi : i < X.length) : i * 4 < (flat (X.map encR) ++ tl).length := by have := rlen tl hi; omega
theorem rlen1 {X : List RW} (tl : List V) {i : Nat} (hi : i < X.length) : i * 4 + 1 < (flat (X.map encR) ++ tl).length := by have := rlen tl hi; omega
theorem rlen2 {X : List RW} (tl : List V) {i : Nat} (hi : i < X.length) : i * 4 + 2 < (flat (X.map encR) ++ tl).length := by have := rlen tl hi; omega
theorem rlen3 {X : List RW} (tl : List V) {i : Nat} (hi : i < X.length) : i * 4 + 3 < (flat (X.map encR) ++ tl).length := by have := rlen tl hi; omega
theorem rlen4 {X : List RW} (tl : List V) {i : Nat} (hi : i < X.length) : i * 4 + 3 + 1 ≤ (flat (X.map encR) ++ tl).length := by have := rlen tl hi; omega
def rLen (f : Int) (l : List RW) : Int := l.foldl (fun n w => if w.f = f ∧ n ≤ w.s then w.s + 1 else n) 0
theorem rLen_snoc (f : Int) (l : List RW) (i : Nat) (h : i < l.length) : rLen f (l.take (i + 1)) = if (l.getD i default).f = f ∧ rLen f (l.take i) ≤ (l.getD i default).s then (l.getD i default).s + 1 else rLen f (l.take i) := by
  unfold rLen
  rw [List.take_add_one, List.foldl_append]
  simp [h]
theorem mul4 (i : Nat) : i * 4 = i * 4 := rfl

theorem rnew_spec {σ : Hp} (quota : Int) : Spec Go.Proofs.Try.prog 36 [.int .i64 quota] (σ) (fun v σ' => if quota < 1 ∨ 65536 < quota then v = .tup [.nilp, .int .i64 1] else ∃ x, v = .tup [.ptr x 0, .int .i64 0] ∧ RDiskAt ⟨quota, [], 0, -1, false⟩ x σ') := by
 refine introS (n := 13) (rs := [.tmp 2, .tmp 3]) (fn := Go.Proofs.Try.f36) (by rfl) rfl (by kernel_rfl) rfl rfl (Nat.le_of_ble_eq_true rfl) (fun Q0 hQ0 => ?_)
 refine WS.seq ?_
 refine R0 fun K hK => ?_
 try simp (maxSteps := 4000000) (disch := omega) only [push_cast, Nat.reduceLT, Nat.reduceEqDiff, Hp.get_set]
 refine Qk hK [0] ?_
 clear hK K
 refine WS.seq (WS.seq ?_)
 refine R0 fun K hK => ?_
 try simp (maxSteps := 4000000) (disch := omega) only [push_cast, Nat.reduceLT, Nat.reduceEqDiff, Int.reduceToNat, Int.reduceLT, Int.reduceLE, Int.reduceAdd, Int.reduceSub, Int.reduceMul, Int.reduceNeg, Int.reduceEq, reduceCtorEq, Int.cast_ofNat_Int, Hp.get_set]
 all_goals try (first | refine guardT 6 rfl (fun hc => ?_) (fun hc => ?_) | refine guardF 6 rfl (fun hc => ?_) (fun hc => ?_)) <;> try simp only [push_cast] at hc
 all_goals try (exfalso; omega)
 all_goals try simp (maxSteps := 4000000) (disch := omega) only [push_cast, Nat.reduceLT, Nat.reduceEqDiff, Int.reduceToNat, Int.reduceLT, Int.reduceLE, Int.reduceAdd, Int.reduceSub, Int.reduceMul, Int.reduceNeg, Int.reduceEq, reduceCtorEq, Int.cast_ofNat_Int, Hp.get_set]
 all_goals
  refine Qk hK [0, 9] ?_
  clear hK K
  refine CI rfl (fun hc => ?_) (fun hc => ?_)
  ·
   all_goals try (cases hc; done)
   all_goals try simp only [push_cast] at hc
   all_goals try (exfalso; omega)
   all_goals
    refine WS.seq ?_
    refine R0 fun K hK => ?_
    try simp (maxSteps := 4000000) (disch := omega) only [push_cast, Nat.reduceLT, Nat.reduceEqDiff, Hp.get_set]
    refine Qk hK [2, 3] ?_
    clear hK K
    refine Rt ?_
    refine hQ0 _ _ _ ?_
    try simp (maxSteps := 4000000) only [push_cast, Int.reduceToNat, Int.reduceLT, Int.reduceLE, Int.reduceAdd, Int.reduceSub, Int.reduceMul, Int.reduceNeg, Int.reduceEq, reduceCtorEq, Nat.reduceLeDiff, Nat.reduceLT, Nat.reduceEqDiff, Nat.reduceAdd, Nat.reduceMul, Nat.reduceSub, Int.cast_ofNat_Int]
    exact ⟨_, HSub.refl _, by rw [if_pos (by omega)]; trivial⟩
  all_goals try (cases hc; done)
  all_goals try simp only [push_cast] at hc
  all_goals try (exfalso; omega)
  all_goals
   refine Sk ?_
   refine WS.seq ?_
   refine R0 fun K hK => ?_
   try simp (maxSteps := 4000000) (disch := omega) only [push_cast, Nat.reduceLT, Nat.reduceEqDiff, Nat.reduceAdd, Nat.reduceMul, Nat.reduceSub, Nat.reduceLeDiff, Hp.get_set]
   (repeat refine And.intro (by first | omega | (simp; done) | (simp_all; done) | (simp_all; omega)) ?_)
   refine fun gx hgx => ?_
   try simp only [Hp.set_none, Hp.join_none_iff] at hgx
   try simp (maxSteps := 4000000) (disch := omega) only [push_cast, Nat.reduceLT, Nat.reduceEqDiff, Nat.reduceAdd, Nat.reduceMul, Nat.reduceSub, Nat.reduceLeDiff, Hp.get_set, hgx]
   (repeat refine And.intro (by first | omega | (simp; done) | (simp_all; done) | (simp_all; omega)) ?_)
   refine Qk hK [2, 3] ?_
   clear hK K
   obtain ⟨gl, hgl, hne⟩ := (σ.set gx (.cells [])).fresh2 gx
   simp only [Hp.set_none] at hgl
   refine S_bsH (g := gx) gl 4 (i := 1) (Hp.get_set_same _ _ _) rfl ?_
   refine Rt ?_
   refine hQ0 _ _ _ ?_
   try simp (maxSteps := 4000000) only [push_cast, Int.reduceToNat, Int.reduceLT, Int.reduceLE, Int.reduceAdd, Int.reduceSub, Int.reduceMul, Int.reduceNeg, Int.reduceEq, reduceCtorEq, Nat.reduceLeDiff, Nat.reduceLT, Nat.reduceEqDiff, Nat.reduceAdd, Nat.reduceMul, Nat.reduceSub, Int.cast_ofNat_Int, hgx]
   refine ⟨_, HSub.refl _, ?_⟩
   rw [if_neg (by omega)]
   refine ⟨gx, rfl, gl, 0, [], ⟨?_, ?_, ?_, ?_, hne⟩⟩
   · simp [Hp.get_set, rcells]
   · simp [cellsAt, Hp.get_set, hgl, flat]
   · simp [flat]
   · exact .inr rfl
theorem rlen_spec {σ : Hp} {X : RDisk} {x : Nat} (file : Int) (hn : X.l.length ≤ 1000000) (hs : ∀ w ∈ X.l, 0 ≤ w.s ∧ w.s ≤ 65535) {gl cap : Nat} {tl : List V} (hx : σ.get x = some (.cells (rcells X gl cap))) (hX : 0 < X.l.length → σ.get gl = some (.cells (flat (X.l.map encR) ++ tl))) : Spec Go.Proofs.Try.prog 41 [.ptr x 0, .int .i64 file] (σ) (fun v σ' => v = .int .i64 (rLen file X.l) ∧ σ' = σ) := by
 refine introS (n := 48) (rs := [.tmp 4]) (fn := Go.Proofs.Try.f41) (by rfl) rfl (by kernel_rfl) rfl rfl (Nat.le_of_ble_eq_true rfl) (fun Q0 hQ0 => ?_)
 refine WS.seq ?_
 refine A1 [0, 1] (by decide) ?_
 refine WS.seq ?_
 refine A1 [0, 1, 5] (by decide) ?_
 refine WS.seq (WS.seq ?_)
 refine A1 [0, 1, 5, 6] (by decide) ?_
 refine Bk fun K0 hK0 => ?_
 refine WS_keep [0, 1, 5, 6] _ ?_
 refine Lp (fun m env σ' => ∃ (i : Nat), m = X.l.length - i ∧ env = [(0, .ptr x 0), (1, .int .i64 file), (5, .int .i64 (rLen file (X.l.take i))), (6, .int .i64 i)] ∧ σ' = σ ∧ (i ≤ X.l.length)) ?_ ?_
 · refine ⟨_, 0,  rfl, ?_, ?_, ?_⟩
   · (try simp (disch := omega) only [push_cast, Int.reduceToNat, Int.reduceLT, Int.reduceLE, Int.reduceAdd, Int.reduceSub, Int.reduceMul, Int.reduceNeg, Int.reduceEq, reduceCtorEq, Nat.reduceLeDiff, Nat.reduceLT, Nat.reduceEqDiff, Nat.reduceAdd, Nat.reduceMul, Nat.reduceSub, Int.cast_ofNat_Int, rcells, rget0, rget1, rlen0, rlen1, hx]) <;> (first | done | rfl | (simp [rLen]; done) | (rw [rLen_snoc file X.l i (by omega)]; first | rw [if_pos (by omega)] | rw [if_neg (by omega)]) | (simp; done) | (simp; omega) | omega | (simp_all; done) | (simp_all; omega))
   · first | rfl | (try simp (disch := omega) only [push_cast, Int.reduceToNat, Int.reduceLT, Int.reduceLE, Int.reduceAdd, Int.reduceSub, Int.reduceMul, Int.reduceNeg, Int.reduceEq, reduceCtorEq, Nat.reduceLeDiff, Nat.reduceLT, Nat.reduceEqDiff, Nat.reduceAdd, Nat.reduceMul, Nat.reduceSub, Int.cast_ofNat_Int, rcells, rget0, rget1, rlen0, rlen1, hx]) <;> (first | done | rfl | (simp [rLen]; done) | (rw [rLen_snoc file X.l i (by omega)]; first | rw [if_pos (by omega)] | rw [if_neg (by omega)]) | (simp; done) | (simp; omega) | omega | (simp_all; done) | (simp_all; omega))
   · first | omega | (simp; done) | (simp_all; done) | (simp_all; omega)
 intro m env σ' hJ M0 hM0
 obtain ⟨i, rfl, rfl, rfl, hi⟩ := hJ
 refine WS.seq (WS.seq ?_)
 refine R0 fun K hK => ?_
 try simp (maxSteps := 4000000) (disch := omega) only [push_cast, Nat.reduceLT, Nat.reduceEqDiff, Nat.reduceAdd, Nat.reduceMul, Nat.reduceSub, Nat.reduceLeDiff, Int.reduceToNat, Int.reduceLT, Int.reduceLE, Int.reduceAdd, Int.reduceSub, Int.reduceMul, Int.reduceNeg, Int.reduceEq, reduceCtorEq, Int.cast_ofNat_Int, Hp.get_set, rcells, rget0, rget1, rlen0, rlen1, hx]
 (repeat refine And.intro (by first | omega | (simp; done) | (simp_all; done) | (simp_all; omega)) ?_)
 refine Qk hK [0, 1, 5, 6, 13] ?_
 clear hK K
 refine CI rfl (fun hc => ?_) (fun hc => ?_)
 rotate_left
 ·
  all_goals try (cases hc; done)
  all_goals try simp only [push_cast] at hc
  all_goals try (exfalso; omega)
  all_goals
   refine Ex ?_
   simp only [push_cast, WS, Nat.reduceEqDiff]
   refine hK0 _ _ ?_
   clear hK0
   try clear K0
   refine WS_keep [5] _ ?_
   refine WS.seq ?_
   refine R0 fun K hK => ?_
   try simp (maxSteps := 4000000) (disch := omega) only [push_cast, Nat.reduceLT, Nat.reduceEqDiff, Hp.get_set, rcells, rget0, rget1, rlen0, rlen1, hx]
   refine Qk hK [4] ?_
   clear hK K
   refine Rt ?_
   refine hQ0 _ _ _ ?_
   try simp (maxSteps := 4000000) only [push_cast, Int.reduceToNat, Int.reduceLT, Int.reduceLE, Int.reduceAdd, Int.reduceSub, Int.reduceMul, Int.reduceNeg, Int.reduceEq, reduceCtorEq, Nat.reduceLeDiff, Nat.reduceLT, Nat.reduceEqDiff, Nat.reduceAdd, Nat.reduceMul, Nat.reduceSub, Int.cast_ofNat_Int, rcells, rget0, rget1, rlen0, rlen1, hx]
   exact ⟨_, HSub.refl _, by rw [List.take_of_length_le (by omega)], rfl⟩
 all_goals try (cases hc; done)
 all_goals try simp only [push_cast] at hc
 all_goals try (exfalso; omega)
 all_goals
  have hi2 : i < X.l.length := by omega
  have hgl := hX (by omega)
  obtain ⟨w1, w2⟩ := hs _ (getD_mem X.l i default hi2)
  refine Sk ?_
  refine WS.seq ?_
  refine Bk fun K1 hK1 => ?_
  refine WS.seq ?_
  refine R0 fun K hK => ?_
  try simp (maxSteps := 4000000) (disch := omega) only [push_cast, Nat.reduceLT, Nat.reduceEqDiff, Nat.reduceAdd, Nat.reduceMul, Nat.reduceSub, Nat.reduceLeDiff, Int.reduceToNat, Int.reduceLT, Int.reduceLE, Int.reduceAdd, Int.reduceSub, Int.reduceMul, Int.reduceNeg, Int.reduceEq, reduceCtorEq, Int.cast_ofNat_Int, Hp.get_set, rcells, rget0, rget1, rlen0, rlen1, hx, hgl]
  (repeat refine And.intro (by first | omega | (simp; done) | (simp_all; done) | (simp_all; omega)) ?_)
  all_goals try (first | refine guardT 26 rfl (fun hc => ?_) (fun hc => ?_) | refine guardF 26 rfl (fun hc => ?_) (fun hc => ?_)) <;> try simp only [push_cast] at hc
  all_goals try (exfalso; omega)
  all_goals try simp (maxSteps := 4000000) (disch := omega) only [push_cast, Nat.reduceLT, Nat.reduceEqDiff, Nat.reduceAdd, Nat.reduceMul, Nat.reduceSub, Nat.reduceLeDiff, Int.reduceToNat, Int.reduceLT, Int.reduceLE, Int.reduceAdd, Int.reduceSub, Int.reduceMul, Int.reduceNeg, Int.reduceEq, reduceCtorEq, Int.cast_ofNat_Int, Hp.get_set, rcells, rget0, rget1, rlen0, rlen1, hx, hgl]
  all_goals (repeat refine And.intro (by first | omega | (simp; done) | (simp_all; done) | (simp_all; omega)) ?_)
  all_goals
   refine Qk hK [0, 1, 5, 6, 37] ?_
   clear hK K
   refine CI rfl (fun hc => ?_) (fun hc => ?_)
   ·
    all_goals try (cases hc; done)
    all_goals try simp only [push_cast] at hc
    all_goals try (exfalso; omega)
    all_goals
     refine R0 fun K hK => ?_
     try simp (maxSteps := 4000000) (disch := omega) only [push_cast, Nat.reduceLT, Nat.reduceEqDiff, Nat.reduceAdd, Nat.reduceMul, Nat.reduceSub, Nat.reduceLeDiff, Int.reduceToNat, Int.reduceLT, Int.reduceLE, Int.reduceAdd, Int.reduceSub, Int.reduceMul, Int.reduceNeg, Int.reduceEq, reduceCtorEq, Int.cast_ofNat_Int, Hp.get_set, rcells, rget0, rget1, rlen0, rlen1, hx, hgl]
     (repeat refine And.intro (by first | omega | (simp; done) | (simp_all; done) | (simp_all; omega)) ?_)
     refine Qk hK [0, 1, 5, 6] ?_
     clear hK K
     simp only [push_cast, WS, Nat.reduceEqDiff]
     refine hK1 _ _ ?_
     clear hK1
     try clear K1
     refine WS_keep [0, 1, 5, 6] _ ?_
     refine R0 fun K hK => ?_
     try simp (maxSteps := 4000000) (disch := omega) only [push_cast, Nat.reduceLT, Nat.reduceEqDiff, Int.reduceToNat, Int.reduceLT, Int.reduceLE, Int.reduceAdd, Int.reduceSub, Int.reduceMul, Int.reduceNeg, Int.reduceEq, reduceCtorEq, Int.cast_ofNat_Int, Hp.get_set, rcells, rget0, rget1, rlen0, rlen1, hx, hgl]
     (repeat refine And.intro (by first | omega | (simp; done) | (simp_all; done) | (simp_all; omega)) ?_)
     refine Qk hK [0, 1, 5, 6] ?_
     clear hK K
     refine Ag (hM0 _ _ ?_)
     refine ⟨_, ?_, i + 1,  rfl, ?_, ?_, ?_⟩
     · first | omega | (simp; done) | (simp_all; done) | (simp_all; omega)
     · (try simp (disch := omega) only [push_cast, Int.reduceToNat, Int.reduceLT, Int.reduceLE, Int.reduceAdd, Int.reduceSub, Int.reduceMul, Int.reduceNeg, Int.reduceEq, reduceCtorEq, Nat.reduceLeDiff, Nat.reduceLT, Nat.reduceEqDiff, Nat.reduceAdd, Nat.reduceMul, Nat.reduceSub, Int.cast_ofNat_Int, rcells, rget0, rget1, rlen0, rlen1, hx, hgl]) <;> (first | done | rfl | (simp [rLen]; done) | (rw [rLen_snoc file X.l i (by omega)]; first | rw [if_pos (by omega)] | rw [if_neg (by omega)]) | (simp; done) | (simp; omega) | omega | (simp_all; done) | (simp_all; omega))
     · first | rfl | (try simp (disch := omega) only [push_cast, Int.reduceToNat, Int.reduceLT, Int.reduceLE, Int.reduceAdd, Int.reduceSub, Int.reduceMul, Int.reduceNeg, Int.reduceEq, reduceCtorEq, Nat.reduceLeDiff, Nat.reduceLT, Nat.reduceEqDiff, Nat.reduceAdd, Nat.reduceMul, Nat.reduceSub, Int.cast_ofNat_Int, rcells, rget0, rget1, rlen0, rlen1, hx, hgl]) <;> (first | done | rfl | (simp [rLen]; done) | (rw [rLen_snoc file X.l i (by omega)]; first | rw [if_pos (by omega)] | rw [if_neg (by omega)]) | (simp; done) | (simp; omega) | omega | (simp_all; done) | (simp_all; omega))
     · first | omega | (simp; done) | (simp_all; done) | (simp_all; omega)
   ·
    all_goals try (cases hc; done)
    all_goals try simp only [push_cast] at hc
    all_goals try (exfalso; omega)
    all_goals
     refine Sk ?_
     simp only [push_cast, WS, Nat.reduceEqDiff]
     refine hK1 _ _ ?_
     clear hK1
     try clear K1
     refine WS_keep [0, 1, 5, 6] _ ?_
     refine R0 fun K hK => ?_
     try simp (maxSteps := 4000000) (disch := omega) only [push_cast, Nat.reduceLT, Nat.reduceEqDiff, Int.reduceToNat, Int.reduceLT, Int.reduceLE, Int.reduceAdd, Int.reduceSub, Int.reduceMul, Int.reduceNeg, Int.reduceEq, reduceCtorEq, Int.cast_ofNat_Int, Hp.get_set, rcells, rget0, rget1, rlen0, rlen1, hx, hgl]
     (repeat refine And.intro (by first | omega | (simp; done) | (simp_all; done) | (simp_all; omega)) ?_)
     refine Qk hK [0, 1, 5, 6] ?_
     clear hK K
     refine Ag (hM0 _ _ ?_)
     refine ⟨_, ?_, i + 1,  rfl, ?_, ?_, ?_⟩
     · first | omega | (simp; done) | (simp_all; done) | (simp_all; omega)
     · (try simp (disch := omega) only [push_cast, Int.reduceToNat, Int.reduceLT, Int.reduceLE, Int.reduceAdd, Int.reduceSub, Int.reduceMul, Int.reduceNeg, Int.reduceEq, reduceCtorEq, Nat.reduceLeDiff, Nat.reduceLT, Nat.reduceEqDiff, Nat.reduceAdd, Nat.reduceMul, Nat.reduceSub, Int.cast_ofNat_Int, rcells, rget0, rget1, rlen0, rlen1, hx, hgl]) <;> (first | done | rfl | (simp [rLen]; done) | (rw [rLen_snoc file X.l i (by omega)]; first | rw [if_pos (by omega)] | rw [if_neg (by omega)]) | (simp; done) | (simp; omega) | omega | (simp_all; done) | (simp_all; omega))
     · first | rfl | (try simp (disch := omega) only [push_cast, Int.reduceToNat, Int.reduceLT, Int.reduceLE, Int.reduceAdd, Int.reduceSub, Int.reduceMul, Int.reduceNeg, Int.reduceEq, reduceCtorEq, Nat.reduceLeDiff, Nat.reduceLT, Nat.reduceEqDiff, Nat.reduceAdd, Nat.reduceMul, Nat.reduceSub, Int.cast_ofNat_Int, rcells, rget0, rget1, rlen0, rlen1, hx, hgl]) <;> (first | done | rfl | (simp [rLen]; done) | (rw [rLen_snoc file X.l i (by omega)]; first | rw [if_pos (by omega)] | rw [if_neg (by omega)]) | (simp; done) | (simp; omega) | omega | (simp_all; done) | (simp_all; omega))
     · first | omega | (simp; done) | (simp_all; done) | (simp_all; omega)
theorem rlen_R {σ : Hp} {X : RDisk} {x : Nat} (file : Int) (hn : X.l.length ≤ 1000000) (hs : ∀ w ∈ X.l, 0 ≤ w.s ∧ w.s ≤ 65535) {gl cap : Nat} {tl : List V} (h : RAt X x gl cap tl σ) :
    RSpec Go.Proofs.Try.prog 41 [.ptr x 0, .int .i64 file] σ (.int .i64 (rLen file X.l)) := fun τ hτ => rlen_spec file hn hs (hτ _ _ h.hx) (fun hn => hτ _ _ (h.get hn))
theorem rlen_nX {σ : Hp} {X : RDisk} {x : Nat} (file : Int) (hn : X.l.length ≤ 1000000) (hs : ∀ w ∈ X.l, 0 ≤ w.s ∧ w.s ≤ 65535) (h : RDiskAt X x σ) :
    RSpec Go.Proofs.Try.prog 41 [.ptr x 0, .int .i64 file] σ (.int .i64 (rLen file X.l)) := by
  obtain ⟨gl, cap, tl, h⟩ := h
  exact rlen_R file hn hs h

end Go.Vm.Try
