/- Walks of functions of the program, and laws of what they compute. -/
import Derived.Test.YtbicfijohjijhaaVdR
set_option linter.unusedSimpArgs false
set_option linter.unusedVariables false
set_option maxHeartbeats 4000000
namespace Go.Vm.Try
open Go.Proofs
theorem RAt.upd {X X' : RDisk} {x gl cap : Nat} {tl : List V} {σ : Hp} (h : RAt X x gl cap tl σ) (e : X'.l = X.l) {cs : List V} (hc : cs = rcells X' gl cap) : RDiskAt X' x (σ.set x (.cells cs)) := by
  subst hc
  refine ⟨gl, cap, tl, ⟨by simp, ?_, by rw [e]; exact h.ht, ?_, h.n1⟩⟩
  · rw [e, ← h.hl]; unfold cellsAt; rw [Hp.get_set_ne _ _ h.n1]
  · rw [Hp.get_set_ne _ _ h.n1]; exact h.hc
def rchangeV (X : RDisk) : Int := if X.plan = 0 then 51 else 0
def rchangeD (X : RDisk) : RDisk := if X.plan = 0 then { X with down := true } else { X with plan := if 0 < X.plan then IntKind.i64.wrap (X.plan - 1) else X.plan, calls := IntKind.i64.wrap (X.calls + 1) }
theorem rchangeD_l (X : RDisk) : (rchangeD X).l = X.l := by unfold rchangeD; split <;> rfl
def rfind (f s : Int) (l : List RW) : Option Sec := l.foldl (fun o w => if w.f = f ∧ w.s = s then some w.b else o) none
theorem rfind_snoc (f s : Int) (l : List RW) (i : Nat) (h : i < l.length) : rfind f s (l.take (i + 1)) = if (l.getD i default).f = f ∧ (l.getD i default).s = s then some (l.getD i default).b else rfind f s (l.take i) := by
  unfold rfind
  rw [List.take_add_one, List.foldl_append]
  simp [h]
def rbad (f s : Int) : Prop := (f ≠ 0 ∧ f ≠ 1) ∨ s < 0
instance (f s : Int) : Decidable (rbad f s) := by unfold rbad; infer_instance
def rreadE (X : RDisk) (f s : Int) : Int := if rbad f s then 1 else if X.down = true then 51 else if rLen f X.l ≤ s then 4 else 0
def rreadV (X : RDisk) (f s : Int) : V := if rreadE X f s = 0 then row ((rfind f s X.l).getD zeros) else .sl 0 [] .full
theorem zer : (List.replicate 128 [V.int .u8 0]).flatten = zeros.map u8 := by simp [zeros, u8]
def rsync (f : Int) (i : Nat) (l : List RW) : List RW := (l.take i).map (fun w => if w.f = f then { w with sure := true } else w) ++ l.drop i
theorem rsync_len (f : Int) (i : Nat) (l : List RW) : (rsync f i l).length = l.length := by simp [rsync]; omega
theorem rsync_get (f : Int) (i : Nat) (l : List RW) (h : i < l.length) : (rsync f i l).getD i default = l.getD i default := by
  have : (List.map (fun w : RW => if w.f = f then { w with sure := true } else w) (l.take i)).length = i := by simp; omega
  simp [rsync, List.getElem?_append, this, Nat.min_eq_left (Nat.le_of_lt h)]
theorem rsync_succ (f : Int) (i : Nat) (l : List RW) (h : i < l.length) : rsync f (i + 1) l = if (l.getD i default).f = f then (rsync f i l).set i { l.getD i default with sure := true } else rsync f i l := by
  have h1 : (List.map (fun w : RW => if w.f = f then { w with sure := true } else w) (l.take i)).length = i := by simp; omega
  have h2 : l.drop i = l.getD i default :: l.drop (i + 1) := by rw [List.drop_eq_getElem_cons h]; simp [h]
  have h3 : l.take (i + 1) = l.take i ++ [l.getD i default] := by rw [List.take_add_one]; simp [h]
  unfold rsync
  rw [h3, h2, List.map_append]
  split
  · rename_i hf
    rw [List.set_append_right _ _ (by omega), h1, Nat.sub_self]
    simp only [List.map_cons, List.map_nil, hf, if_true, List.set_cons_zero, List.append_assoc, List.singleton_append]
  · rename_i hf
    simp only [List.map_cons, List.map_nil, hf, if_false, List.append_assoc, List.singleton_append]
theorem rset3 {L : List RW} (tl : List V) {i : Nat} (hi : i < L.length) : (flat (L.map encR) ++ tl).set (i * 4 + 3) (.bool true) = flat ((L.set i { L.getD i default with sure := true }).map encR) ++ tl :=
  rows_set encR 4 encR_len tl L i 3 _ _ hi (by omega) rfl
def rwaits (l : List RW) : Nat := l.foldl (fun n w => if w.sure = true then n else n + 1) 0
theorem rwaits_snoc (l : List RW) (i : Nat) (h : i < l.length) : rwaits (l.take (i + 1)) = if (l.getD i default).sure = true then rwaits (l.take i) else rwaits (l.take i) + 1 := by
  unfold rwaits
  rw [List.take_add_one, List.foldl_append]
  simp [h]
theorem rwaits_le (l : List RW) : rwaits l ≤ l.length := by
  have : ∀ (l : List RW) (n : Nat), l.foldl (fun n w => if w.sure = true then n else n + 1) n ≤ n + l.length := by
    intro l
    induction l with
    | nil => intro n; simp
    | cons w l ih => intro n; simp only [List.foldl_cons, List.length_cons]; cases h : w.sure <;> (simp only [h] at *; have := ih n; have := ih (n + 1); simp only [if_true, Bool.false_eq_true, if_false]; omega)
  have h := this l 0
  rw [Nat.zero_add] at h
  exact h

theorem rchange_spec {σ : Hp} {X : RDisk} {x : Nat} (h : RDiskAt X x σ) : Spec Go.Proofs.Try.prog 51 [.ptr x 0] (σ) (fun v σ' => v = .int .i64 (rchangeV X) ∧ RDiskAt (rchangeD X) x σ') := by
 refine introS (n := 32) (rs := [.tmp 2]) (fn := Go.Proofs.Try.f51) (by rfl) rfl (by kernel_rfl) rfl rfl (Nat.le_of_ble_eq_true rfl) (fun Q0 hQ0 => ?_)
 obtain ⟨gl, cap, tl, hX⟩ := h
 have hx := hX.hx
 have hle := hX.le
 refine WS.seq ?_
 refine A1 [0] (by decide) ?_
 refine WS.seq (WS.seq ?_)
 refine R0 fun K hK => ?_
 try simp (maxSteps := 4000000) (disch := omega) only [push_cast, Nat.reduceLT, Nat.reduceEqDiff, Nat.reduceAdd, Nat.reduceMul, Nat.reduceSub, Nat.reduceLeDiff, Int.reduceToNat, Int.reduceLT, Int.reduceLE, Int.reduceAdd, Int.reduceSub, Int.reduceMul, Int.reduceNeg, Int.reduceEq, reduceCtorEq, Int.cast_ofNat_Int, Hp.get_set, rcells, Hp.set_set, hx]
 (repeat refine And.intro (by first | omega | (simp; done) | (simp_all; done) | (simp_all; omega)) ?_)
 refine Qk hK [0, 7] ?_
 clear hK K
 refine CI rfl (fun hc => ?_) (fun hc => ?_)
 ·
  all_goals try (cases hc; done)
  all_goals try simp only [push_cast] at hc
  all_goals try (exfalso; omega)
  all_goals
   refine WS.seq ?_
   refine R0 fun K hK => ?_
   try simp (maxSteps := 4000000) (disch := omega) only [push_cast, Nat.reduceLT, Nat.reduceEqDiff, Nat.reduceAdd, Nat.reduceMul, Nat.reduceSub, Nat.reduceLeDiff, Hp.get_set, rcells, Hp.set_set, hx]
   (repeat refine And.intro (by first | omega | (simp; done) | (simp_all; done) | (simp_all; omega)) ?_)
   refine Qk hK [] ?_
   clear hK K
   refine WS.seq ?_
   refine A1 [2] (by decide) ?_
   refine Rt ?_
   refine hQ0 _ _ _ ?_
   try simp (maxSteps := 4000000) only [push_cast, Int.reduceToNat, Int.reduceLT, Int.reduceLE, Int.reduceAdd, Int.reduceSub, Int.reduceMul, Int.reduceNeg, Int.reduceEq, reduceCtorEq, Nat.reduceLeDiff, Nat.reduceLT, Nat.reduceEqDiff, Nat.reduceAdd, Nat.reduceMul, Nat.reduceSub, Int.cast_ofNat_Int, rcells, Hp.set_set, hx]
   refine ⟨_, HSub.refl _, by first | (rw [rchangeV, if_pos (by omega)]) | (rw [rchangeV, if_neg (by omega)]), hX.upd (X' := rchangeD X) (rchangeD_l X) ?_⟩
   first | (rw [rchangeD, if_pos (by omega)]; simp [rcells]; done) | (rw [rchangeD, if_neg (by omega), if_pos (by omega)]; simp [rcells]; done) | (rw [rchangeD, if_neg (by omega), if_neg (by omega)]; simp [rcells]; done)
 all_goals try (cases hc; done)
 all_goals try simp only [push_cast] at hc
 all_goals try (exfalso; omega)
 all_goals
  refine Sk ?_
  refine WS.seq (WS.seq ?_)
  refine R0 fun K hK => ?_
  try simp (maxSteps := 4000000) (disch := omega) only [push_cast, Nat.reduceLT, Nat.reduceEqDiff, Nat.reduceAdd, Nat.reduceMul, Nat.reduceSub, Nat.reduceLeDiff, Int.reduceToNat, Int.reduceLT, Int.reduceLE, Int.reduceAdd, Int.reduceSub, Int.reduceMul, Int.reduceNeg, Int.reduceEq, reduceCtorEq, Int.cast_ofNat_Int, Hp.get_set, rcells, Hp.set_set, hx]
  (repeat refine And.intro (by first | omega | (simp; done) | (simp_all; done) | (simp_all; omega)) ?_)
  refine Qk hK [0, 15] ?_
  clear hK K
  refine CI rfl (fun hc => ?_) (fun hc => ?_)
  ·
   all_goals try (cases hc; done)
   all_goals try simp only [push_cast] at hc
   all_goals try (exfalso; omega)
   all_goals
    refine R0 fun K hK => ?_
    try simp (maxSteps := 4000000) (disch := omega) only [push_cast, Nat.reduceLT, Nat.reduceEqDiff, Nat.reduceAdd, Nat.reduceMul, Nat.reduceSub, Nat.reduceLeDiff, Int.reduceToNat, Int.reduceLT, Int.reduceLE, Int.reduceAdd, Int.reduceSub, Int.reduceMul, Int.reduceNeg, Int.reduceEq, reduceCtorEq, Int.cast_ofNat_Int, Hp.get_set, rcells, Hp.set_set, hx]
    (repeat refine And.intro (by first | omega | (simp; done) | (simp_all; done) | (simp_all; omega)) ?_)
    refine Qk hK [0] ?_
    clear hK K
    refine WS.seq ?_
    refine R0 fun K hK => ?_
    try simp (maxSteps := 4000000) (disch := omega) only [push_cast, Nat.reduceLT, Nat.reduceEqDiff, Nat.reduceAdd, Nat.reduceMul, Nat.reduceSub, Nat.reduceLeDiff, Int.reduceToNat, Int.reduceLT, Int.reduceLE, Int.reduceAdd, Int.reduceSub, Int.reduceMul, Int.reduceNeg, Int.reduceEq, reduceCtorEq, Int.cast_ofNat_Int, Hp.get_set, rcells, Hp.set_set, hx]
    (repeat refine And.intro (by first | omega | (simp; done) | (simp_all; done) | (simp_all; omega)) ?_)
    refine Qk hK [] ?_
    clear hK K
    refine WS.seq ?_
    refine A1 [2] (by decide) ?_
    refine Rt ?_
    refine hQ0 _ _ _ ?_
    try simp (maxSteps := 4000000) only [push_cast, Int.reduceToNat, Int.reduceLT, Int.reduceLE, Int.reduceAdd, Int.reduceSub, Int.reduceMul, Int.reduceNeg, Int.reduceEq, reduceCtorEq, Nat.reduceLeDiff, Nat.reduceLT, Nat.reduceEqDiff, Nat.reduceAdd, Nat.reduceMul, Nat.reduceSub, Int.cast_ofNat_Int, rcells, Hp.set_set, hx]
    refine ⟨_, HSub.refl _, by first | (rw [rchangeV, if_pos (by omega)]) | (rw [rchangeV, if_neg (by omega)]), hX.upd (X' := rchangeD X) (rchangeD_l X) ?_⟩
    first | (rw [rchangeD, if_pos (by omega)]; simp [rcells]; done) | (rw [rchangeD, if_neg (by omega), if_pos (by omega)]; simp [rcells]; done) | (rw [rchangeD, if_neg (by omega), if_neg (by omega)]; simp [rcells]; done)
  ·
   all_goals try (cases hc; done)
   all_goals try simp only [push_cast] at hc
   all_goals try (exfalso; omega)
   all_goals
    refine Sk ?_
    refine WS.seq ?_
    refine R0 fun K hK => ?_
    try simp (maxSteps := 4000000) (disch := omega) only [push_cast, Nat.reduceLT, Nat.reduceEqDiff, Nat.reduceAdd, Nat.reduceMul, Nat.reduceSub, Nat.reduceLeDiff, Int.reduceToNat, Int.reduceLT, Int.reduceLE, Int.reduceAdd, Int.reduceSub, Int.reduceMul, Int.reduceNeg, Int.reduceEq, reduceCtorEq, Int.cast_ofNat_Int, Hp.get_set, rcells, Hp.set_set, hx]
    (repeat refine And.intro (by first | omega | (simp; done) | (simp_all; done) | (simp_all; omega)) ?_)
    refine Qk hK [] ?_
    clear hK K
    refine WS.seq ?_
    refine A1 [2] (by decide) ?_
    refine Rt ?_
    refine hQ0 _ _ _ ?_
    try simp (maxSteps := 4000000) only [push_cast, Int.reduceToNat, Int.reduceLT, Int.reduceLE, Int.reduceAdd, Int.reduceSub, Int.reduceMul, Int.reduceNeg, Int.reduceEq, reduceCtorEq, Nat.reduceLeDiff, Nat.reduceLT, Nat.reduceEqDiff, Nat.reduceAdd, Nat.reduceMul, Nat.reduceSub, Int.cast_ofNat_Int, rcells, Hp.set_set, hx]
    refine ⟨_, HSub.refl _, by first | (rw [rchangeV, if_pos (by omega)]) | (rw [rchangeV, if_neg (by omega)]), hX.upd (X' := rchangeD X) (rchangeD_l X) ?_⟩
    first | (rw [rchangeD, if_pos (by omega)]; simp [rcells]; done) | (rw [rchangeD, if_neg (by omega), if_pos (by omega)]; simp [rcells]; done) | (rw [rchangeD, if_neg (by omega), if_neg (by omega)]; simp [rcells]; done)
theorem rread_spec {σ : Hp} {X : RDisk} {x : Nat} (file s : Int) (hn : X.l.length ≤ 1000000) (hs : ∀ w ∈ X.l, 0 ≤ w.s ∧ w.s ≤ 65535) (h : RDiskAt X x σ) : Spec Go.Proofs.Try.prog 48 [.ptr x 0, .int .i64 file, .int .i64 s] (σ) (fun v σ' => v = .tup [rreadV X file s, .int .i64 (rreadE X file s)] ∧ σ' = σ) := by
 refine introS (n := 69) (rs := [.tmp 6, .tmp 7]) (fn := Go.Proofs.Try.f48) (by rfl) rfl (by kernel_rfl) rfl rfl (Nat.le_of_ble_eq_true rfl) (fun Q0 hQ0 => ?_)
 obtain ⟨gl, cap, tl, hX⟩ := h
 have hx := hX.hx
 have hle := hX.le
 have hle2 := rLen file X.l
 refine WS.seq ?_
 refine R0 fun K hK => ?_
 try simp (maxSteps := 4000000) (disch := omega) only [push_cast, Nat.reduceLT, Nat.reduceEqDiff, Nat.reduceAdd, Nat.reduceMul, Nat.reduceSub, Nat.reduceLeDiff, Int.reduceToNat, Int.reduceLT, Int.reduceLE, Int.reduceAdd, Int.reduceSub, Int.reduceMul, Int.reduceNeg, Int.reduceEq, reduceCtorEq, Int.cast_ofNat_Int, Hp.get_set, rcells, rget0, rget1, rget2, rlen0, rlen1, rlen2, Int.add_sub_cancel, hx]
 refine Qk hK [0, 1, 2] ?_
 clear hK K
 refine WS.seq (WS.seq ?_)
 refine R0 fun K hK => ?_
 try simp (maxSteps := 4000000) (disch := omega) only [push_cast, Nat.reduceLT, Nat.reduceEqDiff, Int.reduceToNat, Int.reduceLT, Int.reduceLE, Int.reduceAdd, Int.reduceSub, Int.reduceMul, Int.reduceNeg, Int.reduceEq, reduceCtorEq, Int.cast_ofNat_Int, Hp.get_set, rcells, rget0, rget1, rget2, rlen0, rlen1, rlen2, Int.add_sub_cancel, hx]
 all_goals try (first | refine guardT 11 rfl (fun hc => ?_) (fun hc => ?_) | refine guardF 11 rfl (fun hc => ?_) (fun hc => ?_)) <;> try simp only [push_cast] at hc
 all_goals try (exfalso; omega)
 all_goals try simp (maxSteps := 4000000) (disch := omega) only [push_cast, Nat.reduceLT, Nat.reduceEqDiff, Int.reduceToNat, Int.reduceLT, Int.reduceLE, Int.reduceAdd, Int.reduceSub, Int.reduceMul, Int.reduceNeg, Int.reduceEq, reduceCtorEq, Int.cast_ofNat_Int, Hp.get_set, rcells, rget0, rget1, rget2, rlen0, rlen1, rlen2, Int.add_sub_cancel, hx]
 all_goals try (first | refine guardT 15 rfl (fun hc => ?_) (fun hc => ?_) | refine guardF 15 rfl (fun hc => ?_) (fun hc => ?_)) <;> try simp only [push_cast] at hc
 all_goals try (exfalso; omega)
 all_goals try simp (maxSteps := 4000000) (disch := omega) only [push_cast, Nat.reduceLT, Nat.reduceEqDiff, Int.reduceToNat, Int.reduceLT, Int.reduceLE, Int.reduceAdd, Int.reduceSub, Int.reduceMul, Int.reduceNeg, Int.reduceEq, reduceCtorEq, Int.cast_ofNat_Int, Hp.get_set, rcells, rget0, rget1, rget2, rlen0, rlen1, rlen2, Int.add_sub_cancel, hx]
 all_goals
  refine Qk hK [0, 1, 2, 18] ?_
  clear hK K
  refine CI rfl (fun hc => ?_) (fun hc => ?_)
  ·
   all_goals try (cases hc; done)
   all_goals try simp only [push_cast] at hc
   all_goals try (exfalso; omega)
   all_goals
    refine WS.seq ?_
    refine R0 fun K hK => ?_
    try simp (maxSteps := 4000000) (disch := omega) only [push_cast, Nat.reduceLT, Nat.reduceEqDiff, Nat.reduceAdd, Nat.reduceMul, Nat.reduceSub, Nat.reduceLeDiff, Int.reduceToNat, Int.reduceLT, Int.reduceLE, Int.reduceAdd, Int.reduceSub, Int.reduceMul, Int.reduceNeg, Int.reduceEq, reduceCtorEq, Int.cast_ofNat_Int, Hp.get_set, rcells, rget0, rget1, rget2, rlen0, rlen1, rlen2, Int.add_sub_cancel, hx]
    refine Qk hK [6, 7] ?_
    clear hK K
    refine Rt ?_
    refine hQ0 _ _ _ ?_
    try simp (maxSteps := 4000000) only [push_cast, Int.reduceToNat, Int.reduceLT, Int.reduceLE, Int.reduceAdd, Int.reduceSub, Int.reduceMul, Int.reduceNeg, Int.reduceEq, reduceCtorEq, Nat.reduceLeDiff, Nat.reduceLT, Nat.reduceEqDiff, Nat.reduceAdd, Nat.reduceMul, Nat.reduceSub, Int.cast_ofNat_Int, rcells, rget0, rget1, rget2, rlen0, rlen1, rlen2, Int.add_sub_cancel, hx]
    have he : rreadE X file s = 1 := by rw [rreadE, if_pos (by unfold rbad; omega)]
    exact ⟨_, HSub.refl _, by simp [rreadV, he], rfl⟩
  all_goals try (cases hc; done)
  all_goals try simp only [push_cast] at hc
  all_goals try (exfalso; omega)
  all_goals
   refine Sk ?_
   refine WS.seq (WS.seq ?_)
   refine R0 fun K hK => ?_
   try simp (maxSteps := 4000000) (disch := omega) only [push_cast, Nat.reduceLT, Nat.reduceEqDiff, Nat.reduceAdd, Nat.reduceMul, Nat.reduceSub, Nat.reduceLeDiff, Hp.get_set, rcells, rget0, rget1, rget2, rlen0, rlen1, rlen2, Int.add_sub_cancel, hx]
   (repeat refine And.intro (by first | omega | (simp; done) | (simp_all; done) | (simp_all; omega)) ?_)
   refine Qk hK [0, 1, 2, 22] ?_
   clear hK K
   refine CI rfl (fun hc => ?_) (fun hc => ?_)
   ·
    all_goals try (cases hc; done)
    all_goals try simp only [push_cast] at hc
    all_goals try (exfalso; omega)
    all_goals
     refine WS.seq ?_
     refine R0 fun K hK => ?_
     try simp (maxSteps := 4000000) (disch := omega) only [push_cast, Nat.reduceLT, Nat.reduceEqDiff, Nat.reduceAdd, Nat.reduceMul, Nat.reduceSub, Nat.reduceLeDiff, Int.reduceToNat, Int.reduceLT, Int.reduceLE, Int.reduceAdd, Int.reduceSub, Int.reduceMul, Int.reduceNeg, Int.reduceEq, reduceCtorEq, Int.cast_ofNat_Int, Hp.get_set, rcells, rget0, rget1, rget2, rlen0, rlen1, rlen2, Int.add_sub_cancel, hx]
     refine Qk hK [6, 7] ?_
     clear hK K
     refine Rt ?_
     refine hQ0 _ _ _ ?_
     try simp (maxSteps := 4000000) only [push_cast, Int.reduceToNat, Int.reduceLT, Int.reduceLE, Int.reduceAdd, Int.reduceSub, Int.reduceMul, Int.reduceNeg, Int.reduceEq, reduceCtorEq, Nat.reduceLeDiff, Nat.reduceLT, Nat.reduceEqDiff, Nat.reduceAdd, Nat.reduceMul, Nat.reduceSub, Int.cast_ofNat_Int, rcells, rget0, rget1, rget2, rlen0, rlen1, rlen2, Int.add_sub_cancel, hx]
     have he : rreadE X file s = 51 := by rw [rreadE, if_neg (by unfold rbad; omega), if_pos hc]
     exact ⟨_, HSub.refl _, by simp [rreadV, he], rfl⟩
   all_goals try (cases hc; done)
   all_goals try simp only [push_cast] at hc
   all_goals try (exfalso; omega)
   all_goals
    have hdn := hc
    refine Sk ?_
    refine WS.seq (WS.seq ?_)
    refine R0 fun K hK => ?_
    try simp (maxSteps := 4000000) (disch := omega) only [push_cast, Nat.reduceLT, Nat.reduceEqDiff, Int.reduceToNat, Int.reduceLT, Int.reduceLE, Int.reduceAdd, Int.reduceSub, Int.reduceMul, Int.reduceNeg, Int.reduceEq, reduceCtorEq, Int.cast_ofNat_Int, Hp.get_set, rcells, rget0, rget1, rget2, rlen0, rlen1, rlen2, Int.add_sub_cancel, hx]
    refine callR (rlen_R _ hn hs hX) rfl ?_
    try simp (maxSteps := 4000000) (disch := omega) only [push_cast, Nat.reduceLT, Nat.reduceEqDiff, Int.reduceToNat, Int.reduceLT, Int.reduceLE, Int.reduceAdd, Int.reduceSub, Int.reduceMul, Int.reduceNeg, Int.reduceEq, reduceCtorEq, Int.cast_ofNat_Int, Hp.get_set, rcells, rget0, rget1, rget2, rlen0, rlen1, rlen2, Int.add_sub_cancel, hx]
    refine Qk hK [0, 1, 2, 27] ?_
    clear hK K
    refine CI rfl (fun hc => ?_) (fun hc => ?_)
    ·
     all_goals try (cases hc; done)
     all_goals try simp only [push_cast] at hc
     all_goals try (exfalso; omega)
     all_goals
      refine WS.seq ?_
      refine R0 fun K hK => ?_
      try simp (maxSteps := 4000000) (disch := omega) only [push_cast, Nat.reduceLT, Nat.reduceEqDiff, Nat.reduceAdd, Nat.reduceMul, Nat.reduceSub, Nat.reduceLeDiff, Int.reduceToNat, Int.reduceLT, Int.reduceLE, Int.reduceAdd, Int.reduceSub, Int.reduceMul, Int.reduceNeg, Int.reduceEq, reduceCtorEq, Int.cast_ofNat_Int, Hp.get_set, rcells, rget0, rget1, rget2, rlen0, rlen1, rlen2, Int.add_sub_cancel, hx]
      refine Qk hK [6, 7] ?_
      clear hK K
      refine Rt ?_
      refine hQ0 _ _ _ ?_
      try simp (maxSteps := 4000000) only [push_cast, Int.reduceToNat, Int.reduceLT, Int.reduceLE, Int.reduceAdd, Int.reduceSub, Int.reduceMul, Int.reduceNeg, Int.reduceEq, reduceCtorEq, Nat.reduceLeDiff, Nat.reduceLT, Nat.reduceEqDiff, Nat.reduceAdd, Nat.reduceMul, Nat.reduceSub, Int.cast_ofNat_Int, rcells, rget0, rget1, rget2, rlen0, rlen1, rlen2, Int.add_sub_cancel, hx]
      have he : rreadE X file s = 4 := by rw [rreadE, if_neg (by unfold rbad; omega), if_neg (by simp [hdn]), if_pos hc]
      exact ⟨_, HSub.refl _, by simp [rreadV, he], rfl⟩
    all_goals try (cases hc; done)
    all_goals try simp only [push_cast] at hc
    all_goals try (exfalso; omega)
    all_goals
     have he0 : rreadE X file s = 0 := by rw [rreadE, if_neg (by unfold rbad; omega), if_neg (by simp [hdn]), if_neg (by omega)]
     refine Sk ?_
     refine WS.seq (WS.seq ?_)
     refine R0 fun K hK => ?_
     try simp (maxSteps := 4000000) (disch := omega) only [push_cast, Nat.reduceLT, Nat.reduceEqDiff, Nat.reduceAdd, Nat.reduceMul, Nat.reduceSub, Nat.reduceLeDiff, Int.reduceToNat, Int.reduceLT, Int.reduceLE, Int.reduceAdd, Int.reduceSub, Int.reduceMul, Int.reduceNeg, Int.reduceEq, reduceCtorEq, Int.cast_ofNat_Int, Hp.get_set, rcells, rget0, rget1, rget2, rlen0, rlen1, rlen2, Int.add_sub_cancel, hx]
     (repeat refine And.intro (by first | omega | (simp; done) | (simp_all; done) | (simp_all; omega)) ?_)
     refine Qk hK [0, 1, 2, 8] ?_
     clear hK K
     refine Bk fun K0 hK0 => ?_
     refine WS_keep [0, 1, 2, 8] _ ?_
     refine Lp (fun m env σ' => ∃ (k : Nat), m = k + 1 ∧ env = [(0, .ptr x 0), (1, .int .i64 file), (2, .int .i64 s), (8, .int .i64 ((k : Int) - 1))] ∧ σ' = σ ∧ (k ≤ X.l.length ∧ rfind file s X.l = rfind file s (X.l.take k))) ?_ ?_
     · refine ⟨_, X.l.length,  rfl, ?_, ?_, ?_⟩
       · (try simp (disch := omega) only [push_cast, Int.reduceToNat, Int.reduceLT, Int.reduceLE, Int.reduceAdd, Int.reduceSub, Int.reduceMul, Int.reduceNeg, Int.reduceEq, reduceCtorEq, Nat.reduceLeDiff, Nat.reduceLT, Nat.reduceEqDiff, Nat.reduceAdd, Nat.reduceMul, Nat.reduceSub, Int.cast_ofNat_Int, rcells, rget0, rget1, rget2, rlen0, rlen1, rlen2, Int.add_sub_cancel, hx]) <;> (first | done | rfl | (simp; done) | (simp; omega) | omega | (simp_all; done) | (simp_all; omega))
       · first | rfl | (try simp (disch := omega) only [push_cast, Int.reduceToNat, Int.reduceLT, Int.reduceLE, Int.reduceAdd, Int.reduceSub, Int.reduceMul, Int.reduceNeg, Int.reduceEq, reduceCtorEq, Nat.reduceLeDiff, Nat.reduceLT, Nat.reduceEqDiff, Nat.reduceAdd, Nat.reduceMul, Nat.reduceSub, Int.cast_ofNat_Int, rcells, rget0, rget1, rget2, rlen0, rlen1, rlen2, Int.add_sub_cancel, hx]) <;> (first | done | rfl | (simp; done) | (simp; omega) | omega | (simp_all; done) | (simp_all; omega))
       · exact ⟨Nat.le_refl _, by rw [List.take_of_length_le (Nat.le_refl _)]⟩
     intro m env σ' hJ M0 hM0
     obtain ⟨k, rfl, rfl, rfl, hk, hf⟩ := hJ
     refine WS.seq (WS.seq ?_)
     refine R0 fun K hK => ?_
     try simp (maxSteps := 4000000) (disch := omega) only [push_cast, Nat.reduceLT, Nat.reduceEqDiff, Int.reduceToNat, Int.reduceLT, Int.reduceLE, Int.reduceAdd, Int.reduceSub, Int.reduceMul, Int.reduceNeg, Int.reduceEq, reduceCtorEq, Int.cast_ofNat_Int, Hp.get_set, rcells, rget0, rget1, rget2, rlen0, rlen1, rlen2, Int.add_sub_cancel, hx]
     refine Qk hK [0, 1, 2, 8, 35] ?_
     clear hK K
     refine CI rfl (fun hc => ?_) (fun hc => ?_)
     rotate_left
     ·
      all_goals try (cases hc; done)
      all_goals try simp only [push_cast] at hc
      all_goals try (exfalso; omega)
      all_goals
       refine Ex ?_
       simp only [push_cast, WS, Nat.reduceEqDiff]
       refine hK0 _ _ ?_
       clear hK0
       try clear K0
       refine WS_keep [] _ ?_
       refine WS.seq ?_
       refine R0 fun K hK => ?_
       try simp (maxSteps := 4000000) (disch := omega) only [push_cast, Nat.reduceLT, Nat.reduceEqDiff, Nat.reduceAdd, Nat.reduceMul, Nat.reduceSub, Nat.reduceLeDiff, Int.reduceToNat, Int.reduceLT, Int.reduceLE, Int.reduceAdd, Int.reduceSub, Int.reduceMul, Int.reduceNeg, Int.reduceEq, reduceCtorEq, Int.cast_ofNat_Int, Hp.get_set, rcells, rget0, rget1, rget2, rlen0, rlen1, rlen2, Int.add_sub_cancel, hx]
       (repeat refine And.intro (by first | omega | (simp; done) | (simp_all; done) | (simp_all; omega)) ?_)
       refine fun g12_0 hg12_0 => ?_
       try simp only [Hp.set_none, Hp.join_none_iff] at hg12_0
       have nhx_12_0 := Hp.ne_get hx (by first | exact hg12_0 | exact hg12_0.2.2 | exact hg12_0.2.2.2.2 | exact hg12_0.2.2.2.2.2.2 | simp_all)
       try simp (maxSteps := 4000000) (disch := omega) only [push_cast, Nat.reduceLT, Nat.reduceEqDiff, Nat.reduceAdd, Nat.reduceMul, Nat.reduceSub, Nat.reduceLeDiff, Int.reduceToNat, Int.reduceLT, Int.reduceLE, Int.reduceAdd, Int.reduceSub, Int.reduceMul, Int.reduceNeg, Int.reduceEq, reduceCtorEq, Int.cast_ofNat_Int, Hp.get_set, rcells, rget0, rget1, rget2, rlen0, rlen1, rlen2, Int.add_sub_cancel, hx, hg12_0, nhx_12_0]
       (repeat refine And.intro (by first | omega | (simp; done) | (simp_all; done) | (simp_all; omega)) ?_)
       refine Qk hK [6, 7] ?_
       clear hK K
       refine S_freezeS 6 rfl (Hp.get_set_same _ _ _) zlen ?_
       refine S_untag 6 rfl ?_
       refine Rt ?_
       refine hQ0 _ _ _ ?_
       try simp (maxSteps := 4000000) only [push_cast, Int.reduceToNat, Int.reduceLT, Int.reduceLE, Int.reduceAdd, Int.reduceSub, Int.reduceMul, Int.reduceNeg, Int.reduceEq, reduceCtorEq, Nat.reduceLeDiff, Nat.reduceLT, Nat.reduceEqDiff, Nat.reduceAdd, Nat.reduceMul, Nat.reduceSub, Int.cast_ofNat_Int, rcells, rget0, rget1, rget2, rlen0, rlen1, rlen2, Int.add_sub_cancel, hx, hg12_0, nhx_12_0]
       have hk0 : k = 0 := by omega
       subst hk0
       have hfv : rfind file s X.l = none := hf
       exact ⟨_, by first | exact HSub.refl _ | (refine HSub.del (by assumption) (HSub.set (by assumption) (HSub.refl _))), by simp only [rreadV, he0, if_true, hfv, Option.getD_none, zer, row], rfl⟩
     all_goals try (cases hc; done)
     all_goals try simp only [push_cast] at hc
     all_goals try (exfalso; omega)
     all_goals
      obtain ⟨j, rfl⟩ : ∃ j, k = j + 1 := ⟨k - 1, by omega⟩
      have hgl := hX.get (by omega)
      refine Sk ?_
      refine WS.seq ?_
      refine Bk fun K1 hK1 => ?_
      refine WS.seq ?_
      refine R0 fun K hK => ?_
      try simp (maxSteps := 4000000) (disch := omega) only [push_cast, Nat.reduceLT, Nat.reduceEqDiff, Nat.reduceAdd, Nat.reduceMul, Nat.reduceSub, Nat.reduceLeDiff, Int.reduceToNat, Int.reduceLT, Int.reduceLE, Int.reduceAdd, Int.reduceSub, Int.reduceMul, Int.reduceNeg, Int.reduceEq, reduceCtorEq, Int.cast_ofNat_Int, Hp.get_set, rcells, rget0, rget1, rget2, rlen0, rlen1, rlen2, Int.add_sub_cancel, hx, hgl]
      (repeat refine And.intro (by first | omega | (simp; done) | (simp_all; done) | (simp_all; omega)) ?_)
      all_goals try (first | refine guardT 48 rfl (fun hc => ?_) (fun hc => ?_) | refine guardF 48 rfl (fun hc => ?_) (fun hc => ?_)) <;> try simp only [push_cast] at hc
      all_goals try (exfalso; omega)
      all_goals try simp (maxSteps := 4000000) (disch := omega) only [push_cast, Nat.reduceLT, Nat.reduceEqDiff, Nat.reduceAdd, Nat.reduceMul, Nat.reduceSub, Nat.reduceLeDiff, Int.reduceToNat, Int.reduceLT, Int.reduceLE, Int.reduceAdd, Int.reduceSub, Int.reduceMul, Int.reduceNeg, Int.reduceEq, reduceCtorEq, Int.cast_ofNat_Int, Hp.get_set, rcells, rget0, rget1, rget2, rlen0, rlen1, rlen2, Int.add_sub_cancel, hx, hgl]
      all_goals (repeat refine And.intro (by first | omega | (simp; done) | (simp_all; done) | (simp_all; omega)) ?_)
      all_goals
       refine Qk hK [0, 1, 2, 8, 59] ?_
       clear hK K
       refine CI rfl (fun hc => ?_) (fun hc => ?_)
       ·
        all_goals try (cases hc; done)
        all_goals try simp only [push_cast] at hc
        all_goals try (exfalso; omega)
        all_goals
         refine WS.seq ?_
         refine R0 fun K hK => ?_
         try simp (maxSteps := 4000000) (disch := omega) only [push_cast, Nat.reduceLT, Nat.reduceEqDiff, Nat.reduceAdd, Nat.reduceMul, Nat.reduceSub, Nat.reduceLeDiff, Int.reduceToNat, Int.reduceLT, Int.reduceLE, Int.reduceAdd, Int.reduceSub, Int.reduceMul, Int.reduceNeg, Int.reduceEq, reduceCtorEq, Int.cast_ofNat_Int, Hp.get_set, rcells, rget0, rget1, rget2, rlen0, rlen1, rlen2, Int.add_sub_cancel, hx, hgl]
         (repeat refine And.intro (by first | omega | (simp; done) | (simp_all; done) | (simp_all; omega)) ?_)
         refine Qk hK [6, 7] ?_
         clear hK K
         refine Rt ?_
         simp only [push_cast]
         refine hQ0 _ _ _ ?_
         try simp (maxSteps := 4000000) only [push_cast, Int.reduceToNat, Int.reduceLT, Int.reduceLE, Int.reduceAdd, Int.reduceSub, Int.reduceMul, Int.reduceNeg, Int.reduceEq, reduceCtorEq, Nat.reduceLeDiff, Nat.reduceLT, Nat.reduceEqDiff, Nat.reduceAdd, Nat.reduceMul, Nat.reduceSub, Int.cast_ofNat_Int, rcells, rget0, rget1, rget2, rlen0, rlen1, rlen2, Int.add_sub_cancel, hx, hgl]
         have hfv : rfind file s X.l = some (X.l.getD j default).b := by rw [hf, rfind_snoc file s X.l j (by omega), if_pos (by omega)]
         exact ⟨_, HSub.refl _, by simp only [rreadV, he0, if_true, hfv, Option.getD_some], rfl⟩
       all_goals try (cases hc; done)
       all_goals try simp only [push_cast] at hc
       all_goals try (exfalso; omega)
       all_goals
        refine Sk ?_
        simp only [push_cast, WS, Nat.reduceEqDiff]
        refine hK1 _ _ ?_
        clear hK1
        try clear K1
        refine WS_keep [0, 1, 2, 8] _ ?_
        refine R0 fun K hK => ?_
        try simp (maxSteps := 4000000) (disch := omega) only [push_cast, Nat.reduceLT, Nat.reduceEqDiff, Int.reduceToNat, Int.reduceLT, Int.reduceLE, Int.reduceAdd, Int.reduceSub, Int.reduceMul, Int.reduceNeg, Int.reduceEq, reduceCtorEq, Int.cast_ofNat_Int, Hp.get_set, rcells, rget0, rget1, rget2, rlen0, rlen1, rlen2, Int.add_sub_cancel, hx, hgl]
        refine Qk hK [0, 1, 2, 8] ?_
        clear hK K
        refine Ag (hM0 _ _ ?_)
        refine ⟨_, ?_, j,  rfl, ?_, ?_, ?_⟩
        · first | omega | (simp; done) | (simp_all; done) | (simp_all; omega)
        · (try simp (disch := omega) only [push_cast, Int.reduceToNat, Int.reduceLT, Int.reduceLE, Int.reduceAdd, Int.reduceSub, Int.reduceMul, Int.reduceNeg, Int.reduceEq, reduceCtorEq, Nat.reduceLeDiff, Nat.reduceLT, Nat.reduceEqDiff, Nat.reduceAdd, Nat.reduceMul, Nat.reduceSub, Int.cast_ofNat_Int, rcells, rget0, rget1, rget2, rlen0, rlen1, rlen2, Int.add_sub_cancel, hx, hgl]) <;> (first | done | rfl | (simp; done) | (simp; omega) | omega | (simp_all; done) | (simp_all; omega))
        · first | rfl | (try simp (disch := omega) only [push_cast, Int.reduceToNat, Int.reduceLT, Int.reduceLE, Int.reduceAdd, Int.reduceSub, Int.reduceMul, Int.reduceNeg, Int.reduceEq, reduceCtorEq, Nat.reduceLeDiff, Nat.reduceLT, Nat.reduceEqDiff, Nat.reduceAdd, Nat.reduceMul, Nat.reduceSub, Int.cast_ofNat_Int, rcells, rget0, rget1, rget2, rlen0, rlen1, rlen2, Int.add_sub_cancel, hx, hgl]) <;> (first | done | rfl | (simp; done) | (simp; omega) | omega | (simp_all; done) | (simp_all; omega))
        · exact ⟨by omega, by rw [hf, rfind_snoc file s X.l j (by omega), if_neg (by omega)]⟩
theorem rwaits_spec {σ : Hp} {X : RDisk} {x : Nat} (hn : X.l.length ≤ 1000000) (h : RDiskAt X x σ) : Spec Go.Proofs.Try.prog 38 [.ptr x 0] (σ) (fun v σ' => v = .int .i64 (rwaits X.l) ∧ σ' = σ) := by
 refine introS (n := 26) (rs := [.tmp 2]) (fn := Go.Proofs.Try.f38) (by rfl) rfl (by kernel_rfl) rfl rfl (Nat.le_of_ble_eq_true rfl) (fun Q0 hQ0 => ?_)
 obtain ⟨gl, cap, tl, hX⟩ := h
 have hx := hX.hx
 have hle := hX.le
 refine WS.seq ?_
 refine A1 [0] (by decide) ?_
 refine WS.seq ?_
 refine A1 [0, 3] (by decide) ?_
 refine WS.seq (WS.seq ?_)
 refine A1 [0, 3, 4] (by decide) ?_
 refine Bk fun K0 hK0 => ?_
 refine WS_keep [0, 3, 4] _ ?_
 refine Lp (fun m env σ' => ∃ (i : Nat), m = X.l.length - i ∧ env = [(0, .ptr x 0), (3, .int .i64 (rwaits (X.l.take i))), (4, .int .i64 i)] ∧ σ' = σ ∧ (i ≤ X.l.length)) ?_ ?_
 · refine ⟨_, 0,  rfl, ?_, ?_, ?_⟩
   · (try simp (disch := omega) only [push_cast, Int.reduceToNat, Int.reduceLT, Int.reduceLE, Int.reduceAdd, Int.reduceSub, Int.reduceMul, Int.reduceNeg, Int.reduceEq, reduceCtorEq, Nat.reduceLeDiff, Nat.reduceLT, Nat.reduceEqDiff, Nat.reduceAdd, Nat.reduceMul, Nat.reduceSub, Int.cast_ofNat_Int, rcells, rget3, rlen3, hx]) <;> (first | done | rfl | (simp [rwaits]; done) | (rw [rwaits_snoc X.l i (by omega)]; (first | rw [if_pos hc] | rw [if_neg (by rw [hc]; decide)]) <;> simp) | (simp; done) | (simp; omega) | omega | (simp_all; done) | (simp_all; omega))
   · first | rfl | (try simp (disch := omega) only [push_cast, Int.reduceToNat, Int.reduceLT, Int.reduceLE, Int.reduceAdd, Int.reduceSub, Int.reduceMul, Int.reduceNeg, Int.reduceEq, reduceCtorEq, Nat.reduceLeDiff, Nat.reduceLT, Nat.reduceEqDiff, Nat.reduceAdd, Nat.reduceMul, Nat.reduceSub, Int.cast_ofNat_Int, rcells, rget3, rlen3, hx]) <;> (first | done | rfl | (simp [rwaits]; done) | (rw [rwaits_snoc X.l i (by omega)]; (first | rw [if_pos hc] | rw [if_neg (by rw [hc]; decide)]) <;> simp) | (simp; done) | (simp; omega) | omega | (simp_all; done) | (simp_all; omega))
   · first | omega | (simp; done) | (simp_all; done) | (simp_all; omega)
 intro m env σ' hJ M0 hM0
 obtain ⟨i, rfl, rfl, rfl, hi⟩ := hJ
 have hrw := rwaits_le (X.l.take i)
 have hrl : (X.l.take i).length ≤ i := by simp; omega
 refine WS.seq (WS.seq ?_)
 refine R0 fun K hK => ?_
 try simp (maxSteps := 4000000) (disch := omega) only [push_cast, Nat.reduceLT, Nat.reduceEqDiff, Nat.reduceAdd, Nat.reduceMul, Nat.reduceSub, Nat.reduceLeDiff, Int.reduceToNat, Int.reduceLT, Int.reduceLE, Int.reduceAdd, Int.reduceSub, Int.reduceMul, Int.reduceNeg, Int.reduceEq, reduceCtorEq, Int.cast_ofNat_Int, Hp.get_set, rcells, rget3, rlen3, hx]
 (repeat refine And.intro (by first | omega | (simp; done) | (simp_all; done) | (simp_all; omega)) ?_)
 refine Qk hK [0, 3, 4, 11] ?_
 clear hK K
 refine CI rfl (fun hc => ?_) (fun hc => ?_)
 rotate_left
 ·
  all_goals try (cases hc; done)
  all_goals try simp only [push_cast] at hc
  all_goals try (exfalso; omega)
  all_goals
   refine Ex ?_
   simp only [push_cast, WS, Nat.reduceEqDiff]
   refine hK0 _ _ ?_
   clear hK0
   try clear K0
   refine WS_keep [3] _ ?_
   refine WS.seq ?_
   refine R0 fun K hK => ?_
   try simp (maxSteps := 4000000) (disch := omega) only [push_cast, Nat.reduceLT, Nat.reduceEqDiff, Hp.get_set, rcells, rget3, rlen3, hx]
   refine Qk hK [2] ?_
   clear hK K
   refine Rt ?_
   refine hQ0 _ _ _ ?_
   try simp (maxSteps := 4000000) only [push_cast, Int.reduceToNat, Int.reduceLT, Int.reduceLE, Int.reduceAdd, Int.reduceSub, Int.reduceMul, Int.reduceNeg, Int.reduceEq, reduceCtorEq, Nat.reduceLeDiff, Nat.reduceLT, Nat.reduceEqDiff, Nat.reduceAdd, Nat.reduceMul, Nat.reduceSub, Int.cast_ofNat_Int, rcells, rget3, rlen3, hx]
   exact ⟨_, HSub.refl _, by rw [List.take_of_length_le (by omega)], rfl⟩
 all_goals try (cases hc; done)
 all_goals try simp only [push_cast] at hc
 all_goals try (exfalso; omega)
 all_goals
  have hgl := hX.get (by omega)
  refine Sk ?_
  refine WS.seq ?_
  refine Bk fun K1 hK1 => ?_
  refine WS.seq ?_
  refine R0 fun K hK => ?_
  try simp (maxSteps := 4000000) (disch := omega) only [push_cast, Nat.reduceLT, Nat.reduceEqDiff, Nat.reduceAdd, Nat.reduceMul, Nat.reduceSub, Nat.reduceLeDiff, Int.reduceToNat, Int.reduceLT, Int.reduceLE, Int.reduceAdd, Int.reduceSub, Int.reduceMul, Int.reduceNeg, Int.reduceEq, reduceCtorEq, Int.cast_ofNat_Int, Hp.get_set, rcells, rget3, rlen3, hx, hgl]
  (repeat refine And.intro (by first | omega | (simp; done) | (simp_all; done) | (simp_all; omega)) ?_)
  refine Qk hK [0, 3, 4, 22] ?_
  clear hK K
  refine CI rfl (fun hc => ?_) (fun hc => ?_)
  ·
   all_goals try (cases hc; done)
   all_goals try simp only [push_cast] at hc
   all_goals try (exfalso; omega)
   all_goals
    refine R0 fun K hK => ?_
    try simp (maxSteps := 4000000) (disch := omega) only [push_cast, Nat.reduceLT, Nat.reduceEqDiff, Int.reduceToNat, Int.reduceLT, Int.reduceLE, Int.reduceAdd, Int.reduceSub, Int.reduceMul, Int.reduceNeg, Int.reduceEq, reduceCtorEq, Int.cast_ofNat_Int, Hp.get_set, rcells, rget3, rlen3, hx, hgl]
    (repeat refine And.intro (by first | omega | (simp; done) | (simp_all; done) | (simp_all; omega)) ?_)
    refine Qk hK [0, 3, 4] ?_
    clear hK K
    simp only [push_cast, WS, Nat.reduceEqDiff]
    refine hK1 _ _ ?_
    clear hK1
    try clear K1
    refine WS_keep [0, 3, 4] _ ?_
    refine R0 fun K hK => ?_
    try simp (maxSteps := 4000000) (disch := omega) only [push_cast, Nat.reduceLT, Nat.reduceEqDiff, Int.reduceToNat, Int.reduceLT, Int.reduceLE, Int.reduceAdd, Int.reduceSub, Int.reduceMul, Int.reduceNeg, Int.reduceEq, reduceCtorEq, Int.cast_ofNat_Int, Hp.get_set, rcells, rget3, rlen3, hx, hgl]
    (repeat refine And.intro (by first | omega | (simp; done) | (simp_all; done) | (simp_all; omega)) ?_)
    refine Qk hK [0, 3, 4] ?_
    clear hK K
    refine Ag (hM0 _ _ ?_)
    refine ⟨_, ?_, i + 1,  rfl, ?_, ?_, ?_⟩
    · first | omega | (simp; done) | (simp_all; done) | (simp_all; omega)
    · (try simp (disch := omega) only [push_cast, Int.reduceToNat, Int.reduceLT, Int.reduceLE, Int.reduceAdd, Int.reduceSub, Int.reduceMul, Int.reduceNeg, Int.reduceEq, reduceCtorEq, Nat.reduceLeDiff, Nat.reduceLT, Nat.reduceEqDiff, Nat.reduceAdd, Nat.reduceMul, Nat.reduceSub, Int.cast_ofNat_Int, rcells, rget3, rlen3, hx, hgl]) <;> (first | done | rfl | (simp [rwaits]; done) | (rw [rwaits_snoc X.l i (by omega)]; (first | rw [if_pos hc] | rw [if_neg (by rw [hc]; decide)]) <;> simp) | (simp; done) | (simp; omega) | omega | (simp_all; done) | (simp_all; omega))
    · first | rfl | (try simp (disch := omega) only [push_cast, Int.reduceToNat, Int.reduceLT, Int.reduceLE, Int.reduceAdd, Int.reduceSub, Int.reduceMul, Int.reduceNeg, Int.reduceEq, reduceCtorEq, Nat.reduceLeDiff, Nat.reduceLT, Nat.reduceEqDiff, Nat.reduceAdd, Nat.reduceMul, Nat.reduceSub, Int.cast_ofNat_Int, rcells, rget3, rlen3, hx, hgl]) <;> (first | done | rfl | (simp [rwaits]; done) | (rw [rwaits_snoc X.l i (by omega)]; (first | rw [if_pos hc] | rw [if_neg (by rw [hc]; decide)]) <;> simp) | (simp; done) | (simp; omega) | omega | (simp_all; done) | (simp_all; omega))
    · first | omega | (simp; done) | (simp_all; done) | (simp_all; omega)
  ·
   all_goals try (cases hc; done)
   all_goals try simp only [push_cast] at hc
   all_goals try (exfalso; omega)
   all_goals
    refine Sk ?_
    simp only [push_cast, WS, Nat.reduceEqDiff]
    refine hK1 _ _ ?_
    clear hK1
    try clear K1
    refine WS_keep [0, 3, 4] _ ?_
    refine R0 fun K hK => ?_
    try simp (maxSteps := 4000000) (disch := omega) only [push_cast, Nat.reduceLT, Nat.reduceEqDiff, Int.reduceToNat, Int.reduceLT, Int.reduceLE, Int.reduceAdd, Int.reduceSub, Int.reduceMul, Int.reduceNeg, Int.reduceEq, reduceCtorEq, Int.cast_ofNat_Int, Hp.get_set, rcells, rget3, rlen3, hx, hgl]
    (repeat refine And.intro (by first | omega | (simp; done) | (simp_all; done) | (simp_all; omega)) ?_)
    refine Qk hK [0, 3, 4] ?_
    clear hK K
    refine Ag (hM0 _ _ ?_)
    refine ⟨_, ?_, i + 1,  rfl, ?_, ?_, ?_⟩
    · first | omega | (simp; done) | (simp_all; done) | (simp_all; omega)
    · (try simp (disch := omega) only [push_cast, Int.reduceToNat, Int.reduceLT, Int.reduceLE, Int.reduceAdd, Int.reduceSub, Int.reduceMul, Int.reduceNeg, Int.reduceEq, reduceCtorEq, Nat.reduceLeDiff, Nat.reduceLT, Nat.reduceEqDiff, Nat.reduceAdd, Nat.reduceMul, Nat.reduceSub, Int.cast_ofNat_Int, rcells, rget3, rlen3, hx, hgl]) <;> (first | done | rfl | (simp [rwaits]; done) | (rw [rwaits_snoc X.l i (by omega)]; (first | rw [if_pos hc] | rw [if_neg (by rw [hc]; decide)]) <;> simp) | (simp; done) | (simp; omega) | omega | (simp_all; done) | (simp_all; omega))
    · first | rfl | (try simp (disch := omega) only [push_cast, Int.reduceToNat, Int.reduceLT, Int.reduceLE, Int.reduceAdd, Int.reduceSub, Int.reduceMul, Int.reduceNeg, Int.reduceEq, reduceCtorEq, Nat.reduceLeDiff, Nat.reduceLT, Nat.reduceEqDiff, Nat.reduceAdd, Nat.reduceMul, Nat.reduceSub, Int.cast_ofNat_Int, rcells, rget3, rlen3, hx, hgl]) <;> (first | done | rfl | (simp [rwaits]; done) | (rw [rwaits_snoc X.l i (by omega)]; (first | rw [if_pos hc] | rw [if_neg (by rw [hc]; decide)]) <;> simp) | (simp; done) | (simp; omega) | omega | (simp_all; done) | (simp_all; omega))
    · first | omega | (simp; done) | (simp_all; done) | (simp_all; omega)
end Go.Vm.Try
