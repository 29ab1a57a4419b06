/- Walks of functions of the program, and laws of what they compute. -/
import Derived.Test.YtbicfijohjijhaaVdU
set_option linter.unusedSimpArgs false
set_option linter.unusedVariables false
set_option maxHeartbeats 4000000
namespace Go.Vm.Try
open Go.Proofs
def rstep (keep : List UInt8) (st : List RW × Nat) (w : RW) : List RW × Nat := if w.sure = true then (st.1 ++ [w], st.2) else if dig keep st.2 = true then (st.1 ++ [{ w with sure := true }], st.2 + 1) else (st.1, st.2 + 1)
def rcr (keep : List UInt8) (l : List RW) : List RW × Nat := l.foldl (rstep keep) ([], 0)
theorem rcr_snoc (keep : List UInt8) (l : List RW) (i : Nat) (h : i < l.length) : rcr keep (l.take (i + 1)) = rstep keep (rcr keep (l.take i)) (l.getD i default) := by
  unfold rcr
  rw [List.take_add_one, List.foldl_append]
  simp [h]
theorem rcr_len (keep : List UInt8) (l : List RW) : (rcr keep l).1.length ≤ l.length ∧ (rcr keep l).2 ≤ l.length := by
  have : ∀ (l : List RW) (st : List RW × Nat), (l.foldl (rstep keep) st).1.length ≤ st.1.length + l.length ∧ (l.foldl (rstep keep) st).2 ≤ st.2 + l.length := by
    intro l
    induction l with
    | nil => intro st; simp
    | cons w l ih =>
      intro st
      have h := ih (rstep keep st w)
      simp only [List.foldl_cons, List.length_cons]
      have h1 : (rstep keep st w).1.length ≤ st.1.length + 1 ∧ (rstep keep st w).2 ≤ st.2 + 1 := by
        unfold rstep; split
        · simp
        · split <;> simp
      omega
  have h := this l ([], 0)
  simp only [List.length_nil, Nat.zero_add] at h
  exact h
def OutAt (ov : V) (out : List RW) (gl x : Nat) (σ : Hp) : Prop := (out = [] ∧ ov = .sl 0 [] .full) ∨ ∃ go co to, ov = .bs go 0 out.length co 4 ∧ out.length ≤ co ∧ σ.get go = some (.cells (flat (out.map encR) ++ to)) ∧ (flat (out.map encR) ++ to).length = co * 4 ∧ go ≠ gl ∧ go ≠ x
theorem fresh3 (σ : Hp) (a b : Nat) : ∃ g, σ.get g = none ∧ g ≠ a ∧ g ≠ b := by
  obtain ⟨n, hn⟩ := σ.fin
  exact ⟨n + a + b + 1, hn _ (by omega), by omega, by omega⟩
theorem OutAt.mono {ov : V} {out : List RW} {gl x : Nat} {σ : Hp} (h : OutAt ov out gl x σ) {g : Nat} {b : Blk} (hg : σ.get g = none) : OutAt ov out gl x (σ.set g b) := by
  rcases h with h | ⟨go, co, to, h1, h2, h3, h4⟩
  · exact .inl h
  · refine .inr ⟨go, co, to, h1, h2, ?_, h4⟩
    rw [Hp.get_set_ne _ _ (fun e => by subst e; rw [h3] at hg; cases hg)]; exact h3
theorem OutAt.app {out : List RW} {gl x : Nat} {σ : Hp} {go g' co' : Nat} {tl' : List V} (w : RW) (hg : g' = go ∨ σ.get g' = none) (h1 : go ≠ gl ∧ go ≠ x) (hgl : σ.get gl ≠ none) (hx : σ.get x ≠ none) (hc : out.length + 1 ≤ co') (ht : tl'.length = (co' - (out.length + 1)) * 4)
    {cs : List V} (hcs : cs = flat (out.map encR) ++ [.int .i64 w.f, .int .i64 w.s, row w.b, .bool w.sure] ++ tl') : OutAt (.bs g' 0 (out.length + 1) co' 4) (out ++ [w]) gl x ((σ.del go).set g' (.cells cs)) := by
  subst hcs
  refine .inr ⟨g', co', tl', by simp, by simpa using hc, by rw [flat_snoc]; simp, ?_, ?_, ?_⟩
  · rw [flat_snoc]
    simp only [List.length_append, rows_len encR 4 encR_len, List.length_cons, List.length_nil, ht]
    omega
  · rcases hg with rfl | hg
    · exact h1.1
    · rintro rfl; exact hgl hg
  · rcases hg with rfl | hg
    · exact h1.2
    · rintro rfl; exact hx hg
theorem OutAt.mono' {ov : V} {out : List RW} {gl x : Nat} {σ σ2 : Hp} (h : OutAt ov out gl x σ) (hs : HSub σ σ2) : OutAt ov out gl x σ2 := by
  rcases h with h | ⟨go, co, to, h1, h2, h3, h4⟩
  · exact .inl h
  · exact .inr ⟨go, co, to, h1, h2, hs _ _ h3, h4⟩
theorem RAt.frame {X : RDisk} {x gl cap : Nat} {tl : List V} {σ σ2 : Hp} (h : RAt X x gl cap tl σ) (e1 : σ2.get x = σ.get x) (e2 : σ2.get gl = σ.get gl) : RAt X x gl cap tl σ2 :=
  ⟨e1.trans h.hx, by unfold cellsAt; rw [e2]; exact h.hl, h.ht, by rw [e2]; exact h.hc, h.n1⟩
theorem S_outbs {n : Nat} {P : Program} {env : Env} {Q : Exit → Env → Hp → Prop} {c : Code} {cs : List Code} {σ : Hp} (t : Nat) {ov : V} {out : List RW} {gl x : Nat} (ht : env.get t = ov) (h : OutAt ov out gl x σ)
    (k : ∀ σ1 go co to, σ1 = σ → cellsAt σ1 go = flat (out.map encR) ++ to → (flat (out.map encR) ++ to).length = co * 4 → (isCells (σ1.get go) ∨ co = 0) → go ≠ gl → go ≠ x → out.length ≤ co → WS n P (c :: cs) Q ((t, .bs go 0 out.length co 4) :: env) σ1) : WS n P (c :: cs) Q env σ := by
  rcases h with ⟨rfl, rfl⟩ | ⟨go, co, to, rfl, h2, h3, h4, h5, h6⟩
  · obtain ⟨go, h1, h2, h3⟩ := fresh3 σ gl x
    refine S_bs t go 4 ht ?_
    exact k σ go 0 [] rfl (by simp [cellsAt, h1, flat]) (by simp [flat]) (.inr rfl) h2 h3 (by simp)
  · refine W_env (fun s => ?_) (k σ go co to rfl (cellsAt_get h3) h4 (.inl (by rw [h3]; trivial)) h5 h6 h2)
    rw [Env.get_cons]
    by_cases e : t = s
    · subst e; simp [ht]
    · simp [e]
theorem samex {σ1 σ σ0 : Hp} {x go g2 : Nat} {b : Blk} (hs : σ1 = σ) (he : σ.get x = σ0.get x) (hg : g2 = go ∨ σ1.get g2 = none) (hx : go ≠ x) (hn : σ1.get x ≠ none) : ((σ1.del go).set g2 b).get x = σ0.get x := by
  have h2 : x ≠ g2 := by
    rcases hg with rfl | hg
    · exact Ne.symm hx
    · rintro rfl; exact hn hg
  rw [Hp.get_set_ne _ _ h2, Hp.get_del, if_neg (Ne.symm hx), hs, he]
theorem take_flat {out : List RW} {to : List V} {cs : List V} (h : cs = flat (out.map encR) ++ to) : cs.take (out.length * 4) = flat (out.map encR) := by
  rw [h, List.take_append_of_le_length (by rw [rows_len encR 4 encR_len]; omega), List.take_of_length_le (by rw [rows_len encR 4 encR_len]; omega)]
structure CJ (X : RDisk) (x gl cap : Nat) (tl : List V) (keep : List UInt8) (i : Nat) (ov : V) (out : List RW) (n : Nat) (σ : Hp) : Prop where
  h : RAt X x gl cap tl σ
  o : OutAt ov out gl x σ
  e : rcr keep (X.l.take i) = (out, n)

theorem rcrash_spec {σ : Hp} {X : RDisk} {x : Nat} {tag : Tag} (keep : List UInt8) (hn : X.l.length ≤ 1000000) (hk : keep.length ≤ 1000000) (h : RDiskAt X x σ) : Spec Go.Proofs.Try.prog 50 [.ptr x 0, .sl 1 (keep.map u8) tag] (σ) (fun v σ' => v = .tup [] ∧ RDiskAt { X with l := (rcr keep X.l).1, plan := -1, down := false } x σ') := by
 refine introS (n := 49) (rs := []) (fn := Go.Proofs.Try.f50) (by rfl) rfl (by kernel_rfl) rfl rfl (Nat.le_of_ble_eq_true rfl) (fun Q0 hQ0 => ?_)
 obtain ⟨gl, cap, tl, hX⟩ := h
 have hx := hX.hx
 have hle := hX.le
 refine WS.seq ?_
 refine A1 [0, 1, 4] (by decide) ?_
 refine WS.seq ?_
 refine A1 [0, 1, 4, 5] (by decide) ?_
 refine WS.seq (WS.seq ?_)
 refine A1 [0, 1, 4, 5, 6] (by decide) ?_
 refine Bk fun K0 hK0 => ?_
 refine WS_keep [0, 1, 4, 5, 6] _ ?_
 refine Lp (fun m env σ' => ∃ (i n : Nat) (out : List RW) (ov : V), m = X.l.length - i ∧ env = [(0, .ptr x 0), (1, .sl 1 (keep.map u8) tag), (4, ov), (5, .int .i64 n), (6, .int .i64 i)] ∧ σ' = σ' ∧ (i ≤ X.l.length ∧ CJ X x gl cap tl keep i ov out n σ')) ?_ ?_
 · refine ⟨_, 0, 0, [], .sl 0 [] .full,  rfl, ?_, ?_, ?_⟩
   · (try simp (disch := omega) only [push_cast, Int.reduceToNat, Int.reduceLT, Int.reduceLE, Int.reduceAdd, Int.reduceSub, Int.reduceMul, Int.reduceNeg, Int.reduceEq, reduceCtorEq, Nat.reduceLeDiff, Nat.reduceLT, Nat.reduceEqDiff, Nat.reduceAdd, Nat.reduceMul, Nat.reduceSub, Int.cast_ofNat_Int, rcells, rget0, rget1, rget2, rget3, rsub, rlen0, rlen1, rlen2, rlen3, rlen4, rlen, row, hx]) <;> (first | done | rfl | (simp; done) | (simp; omega) | omega | (simp_all; done) | (simp_all; omega))
   · first | rfl | (try simp (disch := omega) only [push_cast, Int.reduceToNat, Int.reduceLT, Int.reduceLE, Int.reduceAdd, Int.reduceSub, Int.reduceMul, Int.reduceNeg, Int.reduceEq, reduceCtorEq, Nat.reduceLeDiff, Nat.reduceLT, Nat.reduceEqDiff, Nat.reduceAdd, Nat.reduceMul, Nat.reduceSub, Int.cast_ofNat_Int, rcells, rget0, rget1, rget2, rget3, rsub, rlen0, rlen1, rlen2, rlen3, rlen4, rlen, row, hx]) <;> (first | done | rfl | (simp; done) | (simp; omega) | omega | (simp_all; done) | (simp_all; omega))
   · exact ⟨by omega, ⟨hX, .inl ⟨rfl, rfl⟩, rfl⟩⟩
 intro m env σ' hJ M0 hM0
 obtain ⟨i, n, out, ov, rfl, rfl, -, hi, hJ⟩ := hJ
 obtain ⟨hX, hov, hrc⟩ := hJ
 have hlen := rcr_len keep (X.l.take i)
 have htk : (X.l.take i).length ≤ i := by simp; omega
 rw [hrc] at hlen
 simp only at hlen
 have hx := hX.hx
 refine WS.seq (WS.seq ?_)
 refine R0 fun K hK => ?_
 try simp (maxSteps := 4000000) (disch := omega) only [push_cast, Nat.reduceLT, Nat.reduceEqDiff, Nat.reduceAdd, Nat.reduceMul, Nat.reduceSub, Nat.reduceLeDiff, Int.reduceToNat, Int.reduceLT, Int.reduceLE, Int.reduceAdd, Int.reduceSub, Int.reduceMul, Int.reduceNeg, Int.reduceEq, reduceCtorEq, Int.cast_ofNat_Int, Hp.get_set, rcells, rget0, rget1, rget2, rget3, rsub, rlen0, rlen1, rlen2, rlen3, rlen4, rlen, row, hx]
 (repeat refine And.intro (by first | omega | (simp; done) | (simp_all; done) | (simp_all; omega)) ?_)
 refine Qk hK [0, 1, 4, 5, 6, 14] ?_
 clear hK K
 refine CI rfl (fun hc => ?_) (fun hc => ?_)
 rotate_left
 ·
  all_goals try (cases hc; done)
  all_goals try simp only [push_cast] at hc
  all_goals try (exfalso; omega)
  all_goals
   refine Ex ?_
   simp only [push_cast, WS, Nat.reduceEqDiff]
   refine hK0 _ _ ?_
   clear hK0
   try clear K0
   refine WS_keep [0, 4] _ ?_
   refine S_outbs 4 rfl hov (fun σ1 go co to hs1 hoc hol hoi hog hox hoo => ?_)
   subst hs1
   have hox2 := ne2 hox
   refine R0 fun K hK => ?_
   try simp (maxSteps := 4000000) (disch := omega) only [push_cast, Nat.reduceLT, Nat.reduceEqDiff, Nat.reduceAdd, Nat.reduceMul, Nat.reduceSub, Nat.reduceLeDiff, Hp.get_set, rcells, rget0, rget1, rget2, rget3, rsub, rlen0, rlen1, rlen2, rlen3, rlen4, rlen, row, hx, hox2]
   (repeat refine And.intro (by first | omega | (simp; done) | (simp_all; done) | (simp_all; omega)) ?_)
   refine Qk hK [] ?_
   clear hK K
   simp only [push_cast, WS]
   refine hQ0 _ _ _ ?_
   try simp (maxSteps := 4000000) only [push_cast, Int.reduceToNat, Int.reduceLT, Int.reduceLE, Int.reduceAdd, Int.reduceSub, Int.reduceMul, Int.reduceNeg, Int.reduceEq, reduceCtorEq, Nat.reduceLeDiff, Nat.reduceLT, Nat.reduceEqDiff, Nat.reduceAdd, Nat.reduceMul, Nat.reduceSub, Int.cast_ofNat_Int, rcells, rget0, rget1, rget2, rget3, rsub, rlen0, rlen1, rlen2, rlen3, rlen4, rlen, row, hx, hox2]
   have hie : i = X.l.length := by omega
   rw [List.take_of_length_le (by omega)] at hrc
   refine ⟨_, HSub.refl _, go, co, to, ⟨?_, ?_, ?_, ?_, hox⟩⟩
   · simp [rcells, hrc]
   · simp only [cellsAt, Hp.get_set, hox2, if_false, hrc]; exact hoc
   · rw [hrc]; exact hol
   · simp only [Hp.get_set, hox2, if_false]; exact hoi
 all_goals try (cases hc; done)
 all_goals try simp only [push_cast] at hc
 all_goals try (exfalso; omega)
 all_goals
  have hi2 : i < X.l.length := by omega
  have hgl := hX.get (by omega)
  refine Sk ?_
  refine WS.seq ?_
  refine Bk fun K1 hK1 => ?_
  refine WS.seq ?_
  refine R0 fun K hK => ?_
  try simp (maxSteps := 4000000) (disch := omega) only [push_cast, Nat.reduceLT, Nat.reduceEqDiff, Nat.reduceAdd, Nat.reduceMul, Nat.reduceSub, Nat.reduceLeDiff, Int.reduceToNat, Int.reduceLT, Int.reduceLE, Int.reduceAdd, Int.reduceSub, Int.reduceMul, Int.reduceNeg, Int.reduceEq, reduceCtorEq, Int.cast_ofNat_Int, Hp.get_set, rcells, rget0, rget1, rget2, rget3, rsub, rlen0, rlen1, rlen2, rlen3, rlen4, rlen, row, hx, hgl]
  (repeat refine And.intro (by first | omega | (simp; done) | (simp_all; done) | (simp_all; omega)) ?_)
  refine fun g5_7 hg5_7 => ?_
  try simp only [Hp.set_none, Hp.join_none_iff] at hg5_7
  have nhx_5_7 := Hp.ne_get hx (by first | exact hg5_7 | exact hg5_7.2.2 | exact hg5_7.2.2.2.2 | exact hg5_7.2.2.2.2.2.2 | simp_all)
  have nhgl_5_7 := Hp.ne_get hgl (by first | exact hg5_7 | exact hg5_7.2.2 | exact hg5_7.2.2.2.2 | exact hg5_7.2.2.2.2.2.2 | simp_all)
  try simp (maxSteps := 4000000) (disch := omega) only [push_cast, Nat.reduceLT, Nat.reduceEqDiff, Nat.reduceAdd, Nat.reduceMul, Nat.reduceSub, Nat.reduceLeDiff, Int.reduceToNat, Int.reduceLT, Int.reduceLE, Int.reduceAdd, Int.reduceSub, Int.reduceMul, Int.reduceNeg, Int.reduceEq, reduceCtorEq, Int.cast_ofNat_Int, Hp.get_set, rcells, rget0, rget1, rget2, rget3, rsub, rlen0, rlen1, rlen2, rlen3, rlen4, rlen, row, hx, hgl, hg5_7, nhx_5_7, nhgl_5_7]
  (repeat refine And.intro (by first | omega | (simp; done) | (simp_all; done) | (simp_all; omega)) ?_)
  refine Qk hK [0, 1, 4, 5, 6, 7] ?_
  clear hK K
  refine WS.seq (WS.seq ?_)
  refine R0 fun K hK => ?_
  try simp (maxSteps := 4000000) (disch := omega) only [push_cast, Nat.reduceLT, Nat.reduceEqDiff, Nat.reduceAdd, Nat.reduceMul, Nat.reduceSub, Nat.reduceLeDiff, Int.reduceToNat, Int.reduceLT, Int.reduceLE, Int.reduceAdd, Int.reduceSub, Int.reduceMul, Int.reduceNeg, Int.reduceEq, reduceCtorEq, Int.cast_ofNat_Int, Hp.get_set, rcells, rget0, rget1, rget2, rget3, rsub, rlen0, rlen1, rlen2, rlen3, rlen4, rlen, row, hx, hgl, hg5_7, nhx_5_7, nhgl_5_7]
  (repeat refine And.intro (by first | omega | (simp; done) | (simp_all; done) | (simp_all; omega)) ?_)
  refine Qk hK [0, 1, 4, 5, 6, 7, 26] ?_
  clear hK K
  refine CI rfl (fun hc => ?_) (fun hc => ?_)
  ·
   all_goals try (cases hc; done)
   all_goals try simp only [push_cast] at hc
   all_goals try (exfalso; omega)
   all_goals
    have hcs := hc
    refine WS.seq ?_
    refine R0 fun K hK => ?_
    try simp (maxSteps := 4000000) (disch := omega) only [push_cast, Nat.reduceLT, Nat.reduceEqDiff, Nat.reduceAdd, Nat.reduceMul, Nat.reduceSub, Nat.reduceLeDiff, Hp.get_set, rcells, rget0, rget1, rget2, rget3, rsub, rlen0, rlen1, rlen2, rlen3, rlen4, rlen, row, hx, hgl, hg5_7, nhx_5_7, nhgl_5_7]
    (repeat refine And.intro (by first | omega | (simp; done) | (simp_all; done) | (simp_all; omega)) ?_)
    refine callP (digit _ _ (by first | omega | (simp; done) | (simp_all; done) | (simp_all; omega))) rfl ?_
    try simp (maxSteps := 4000000) (disch := omega) only [push_cast, Nat.reduceLT, Nat.reduceEqDiff, Nat.reduceAdd, Nat.reduceMul, Nat.reduceSub, Nat.reduceLeDiff, Hp.get_set, rcells, rget0, rget1, rget2, rget3, rsub, rlen0, rlen1, rlen2, rlen3, rlen4, rlen, row, hx, hgl, hg5_7, nhx_5_7, nhgl_5_7]
    (repeat refine And.intro (by first | omega | (simp; done) | (simp_all; done) | (simp_all; omega)) ?_)
    refine Qk hK [0, 1, 4, 5, 6, 7] ?_
    clear hK K
    refine R0 fun K hK => ?_
    try simp (maxSteps := 4000000) (disch := omega) only [push_cast, Nat.reduceLT, Nat.reduceEqDiff, Int.reduceToNat, Int.reduceLT, Int.reduceLE, Int.reduceAdd, Int.reduceSub, Int.reduceMul, Int.reduceNeg, Int.reduceEq, reduceCtorEq, Int.cast_ofNat_Int, Hp.get_set, rcells, rget0, rget1, rget2, rget3, rsub, rlen0, rlen1, rlen2, rlen3, rlen4, rlen, row, hx, hgl, hg5_7, nhx_5_7, nhgl_5_7]
    (repeat refine And.intro (by first | omega | (simp; done) | (simp_all; done) | (simp_all; omega)) ?_)
    refine Qk hK [0, 1, 4, 5, 6, 7] ?_
    clear hK K
    refine WS.seq ?_
    refine R0 fun K hK => ?_
    try simp (maxSteps := 4000000) (disch := omega) only [push_cast, Nat.reduceLT, Nat.reduceEqDiff, Nat.reduceAdd, Nat.reduceMul, Nat.reduceSub, Nat.reduceLeDiff, Hp.get_set, rcells, rget0, rget1, rget2, rget3, rsub, rlen0, rlen1, rlen2, rlen3, rlen4, rlen, row, hx, hgl, hg5_7, nhx_5_7, nhgl_5_7]
    (repeat refine And.intro (by first | omega | (simp; done) | (simp_all; done) | (simp_all; omega)) ?_)
    refine Qk hK [0, 1, 4, 5, 6, 7, 34] ?_
    clear hK K
    refine CI rfl (fun hc => ?_) (fun hc => ?_)
    ·
     all_goals try (cases hc; done)
     all_goals try simp only [push_cast] at hc
     all_goals try (exfalso; omega)
     all_goals
      refine S_outbs 4 rfl (hov.mono' (by first | exact HSub.set (by assumption) (HSub.set (by assumption) (HSub.refl _)) | exact HSub.set (by assumption) (HSub.set (by assumption) (HSub.set (by assumption) (HSub.refl _))))) (fun σ1 go co to hs1 hoc hol hoi hog hox hoo => ?_)
      have hl7 := congrArg (fun s => Hp.get s g5_7) hs1
      simp [Hp.get_set] at hl7
      have hop := take_flat hoc
      have hoc2 : (cellsAt σ1 go).length = co * 4 := by rw [hoc, hol]
      refine R0 fun K hK => ?_
      try simp (maxSteps := 4000000) (disch := omega) only [push_cast, Nat.reduceLT, Nat.reduceEqDiff, Nat.reduceAdd, Nat.reduceMul, Nat.reduceSub, Nat.reduceLeDiff, Int.reduceToNat, Int.reduceLT, Int.reduceLE, Int.reduceAdd, Int.reduceSub, Int.reduceMul, Int.reduceNeg, Int.reduceEq, reduceCtorEq, Int.cast_ofNat_Int, Hp.get_set, rcells, rget0, rget1, rget2, rget3, rsub, rlen0, rlen1, rlen2, rlen3, rlen4, rlen, row, hx, hgl, hg5_7, nhx_5_7, nhgl_5_7, hl7, hop, hoc2, hoi, flat_one, room]
      (repeat refine And.intro (by first | omega | (simp; done) | (simp_all; done) | (simp_all; omega)) ?_)
      try simp (maxSteps := 4000000) (disch := omega) only [push_cast, Nat.reduceLT, Nat.reduceEqDiff, Nat.reduceAdd, Nat.reduceMul, Nat.reduceSub, Nat.reduceLeDiff, Int.reduceToNat, Int.reduceLT, Int.reduceLE, Int.reduceAdd, Int.reduceSub, Int.reduceMul, Int.reduceNeg, Int.reduceEq, reduceCtorEq, Int.cast_ofNat_Int, Hp.get_set, rcells, rget0, rget1, rget2, rget3, rsub, rlen0, rlen1, rlen2, rlen3, rlen4, rlen, row, hx, hgl, hg5_7, nhx_5_7, nhgl_5_7, hl7, hop, hoc2, hoi, flat_one, room]
      (repeat refine And.intro (by first | omega | (simp; done) | (simp_all; done) | (simp_all; omega)) ?_)
      refine fun g2 cap2 tl2 hg2 hc2 ht2 => ?_
      try simp (maxSteps := 4000000) (disch := omega) only [push_cast, Nat.reduceLT, Nat.reduceEqDiff, Nat.reduceAdd, Nat.reduceMul, Nat.reduceSub, Nat.reduceLeDiff, Int.reduceToNat, Int.reduceLT, Int.reduceLE, Int.reduceAdd, Int.reduceSub, Int.reduceMul, Int.reduceNeg, Int.reduceEq, reduceCtorEq, Int.cast_ofNat_Int, Hp.get_set, rcells, rget0, rget1, rget2, rget3, rsub, rlen0, rlen1, rlen2, rlen3, rlen4, rlen, row, hx, hgl, hg5_7, nhx_5_7, nhgl_5_7, hl7, hop, hoc2, hoi, flat_one, room]
      (repeat refine And.intro (by first | omega | (simp; done) | (simp_all; done) | (simp_all; omega)) ?_)
      try simp (maxSteps := 4000000) (disch := omega) only [push_cast, Nat.reduceLT, Nat.reduceEqDiff, Nat.reduceAdd, Nat.reduceMul, Nat.reduceSub, Nat.reduceLeDiff, Int.reduceToNat, Int.reduceLT, Int.reduceLE, Int.reduceAdd, Int.reduceSub, Int.reduceMul, Int.reduceNeg, Int.reduceEq, reduceCtorEq, Int.cast_ofNat_Int, Hp.get_set, rcells, rget0, rget1, rget2, rget3, rsub, rlen0, rlen1, rlen2, rlen3, rlen4, rlen, row, hx, hgl, hg5_7, nhx_5_7, nhgl_5_7, hl7, hop, hoc2, hoi, flat_one, room]
      (repeat refine And.intro (by first | omega | (simp; done) | (simp_all; done) | (simp_all; omega)) ?_)
      refine Qk hK [0, 1, 4, 5, 6] ?_
      clear hK K
      simp only [push_cast, WS, Nat.reduceEqDiff]
      refine hK1 _ _ ?_
      clear hK1
      try clear K1
      refine WS_keep [0, 1, 4, 5, 6] _ ?_
      refine R0 fun K hK => ?_
      try simp (maxSteps := 4000000) (disch := omega) only [push_cast, Nat.reduceLT, Nat.reduceEqDiff, Int.reduceToNat, Int.reduceLT, Int.reduceLE, Int.reduceAdd, Int.reduceSub, Int.reduceMul, Int.reduceNeg, Int.reduceEq, reduceCtorEq, Int.cast_ofNat_Int, Hp.get_set, rcells, rget0, rget1, rget2, rget3, rsub, rlen0, rlen1, rlen2, rlen3, rlen4, rlen, row, hx, hgl, hg5_7, nhx_5_7, nhgl_5_7, hl7, hop, hoc2, hoi, flat_one, room]
      (repeat refine And.intro (by first | omega | (simp; done) | (simp_all; done) | (simp_all; omega)) ?_)
      refine Qk hK [0, 1, 4, 5, 6] ?_
      clear hK K
      refine Ag (hM0 _ _ ?_)
      first
       | (refine ⟨_, ?_, i + 1, n, out ++ [X.l.getD i default], .bs g2 0 (out.length + 1) cap2 4,  rfl, ?_, ?_, ?_⟩
          · first | omega | (simp; done) | (simp_all; done) | (simp_all; omega)
          · (try simp (disch := omega) only [push_cast, Int.reduceToNat, Int.reduceLT, Int.reduceLE, Int.reduceAdd, Int.reduceSub, Int.reduceMul, Int.reduceNeg, Int.reduceEq, reduceCtorEq, Nat.reduceLeDiff, Nat.reduceLT, Nat.reduceEqDiff, Nat.reduceAdd, Nat.reduceMul, Nat.reduceSub, Int.cast_ofNat_Int, rcells, rget0, rget1, rget2, rget3, rsub, rlen0, rlen1, rlen2, rlen3, rlen4, rlen, row, hx, hgl, hg5_7, nhx_5_7, nhgl_5_7, hl7, hop, hoc2, hoi, flat_one, room]) <;> (first | done | rfl | (simp; done) | (simp; omega) | omega | (simp_all; done) | (simp_all; omega))
          · first | rfl | (try simp (disch := omega) only [push_cast, Int.reduceToNat, Int.reduceLT, Int.reduceLE, Int.reduceAdd, Int.reduceSub, Int.reduceMul, Int.reduceNeg, Int.reduceEq, reduceCtorEq, Nat.reduceLeDiff, Nat.reduceLT, Nat.reduceEqDiff, Nat.reduceAdd, Nat.reduceMul, Nat.reduceSub, Int.cast_ofNat_Int, rcells, rget0, rget1, rget2, rget3, rsub, rlen0, rlen1, rlen2, rlen3, rlen4, rlen, row, hx, hgl, hg5_7, nhx_5_7, nhgl_5_7, hl7, hop, hoc2, hoi, flat_one, room]) <;> (first | done | rfl | (simp; done) | (simp; omega) | omega | (simp_all; done) | (simp_all; omega))
          · exact ⟨by omega, ⟨hX.frame (samex hs1 (by simp [Hp.get_set, nhx_5_7]) hg2 hox (by rw [hs1]; simp [Hp.get_set, nhx_5_7, hx])) (samex hs1 (by simp [Hp.get_set, nhgl_5_7]) hg2 hog (by rw [hs1]; simp [Hp.get_set, nhgl_5_7, hgl])), OutAt.app (X.l.getD i default) hg2 ⟨hog, hox⟩ (by rw [hs1]; simp [Hp.get_set, nhgl_5_7, hgl]) (by rw [hs1]; simp [Hp.get_set, nhx_5_7, hx]) hc2 ht2 (by simp [row]), by rw [rcr_snoc keep X.l i hi2, hrc]; simp only [rstep, hc, if_true]⟩⟩)
       | (refine ⟨_, ?_, i + 1, n + 1, out ++ [{ X.l.getD i default with sure := true }], .bs g2 0 (out.length + 1) cap2 4,  rfl, ?_, ?_, ?_⟩
          · first | omega | (simp; done) | (simp_all; done) | (simp_all; omega)
          · (try simp (disch := omega) only [push_cast, Int.reduceToNat, Int.reduceLT, Int.reduceLE, Int.reduceAdd, Int.reduceSub, Int.reduceMul, Int.reduceNeg, Int.reduceEq, reduceCtorEq, Nat.reduceLeDiff, Nat.reduceLT, Nat.reduceEqDiff, Nat.reduceAdd, Nat.reduceMul, Nat.reduceSub, Int.cast_ofNat_Int, rcells, rget0, rget1, rget2, rget3, rsub, rlen0, rlen1, rlen2, rlen3, rlen4, rlen, row, hx, hgl, hg5_7, nhx_5_7, nhgl_5_7, hl7, hop, hoc2, hoi, flat_one, room]) <;> (first | done | rfl | (simp; done) | (simp; omega) | omega | (simp_all; done) | (simp_all; omega))
          · first | rfl | (try simp (disch := omega) only [push_cast, Int.reduceToNat, Int.reduceLT, Int.reduceLE, Int.reduceAdd, Int.reduceSub, Int.reduceMul, Int.reduceNeg, Int.reduceEq, reduceCtorEq, Nat.reduceLeDiff, Nat.reduceLT, Nat.reduceEqDiff, Nat.reduceAdd, Nat.reduceMul, Nat.reduceSub, Int.cast_ofNat_Int, rcells, rget0, rget1, rget2, rget3, rsub, rlen0, rlen1, rlen2, rlen3, rlen4, rlen, row, hx, hgl, hg5_7, nhx_5_7, nhgl_5_7, hl7, hop, hoc2, hoi, flat_one, room]) <;> (first | done | rfl | (simp; done) | (simp; omega) | omega | (simp_all; done) | (simp_all; omega))
          · exact ⟨by omega, ⟨hX.frame (samex hs1 (by simp [Hp.get_set, nhx_5_7]) hg2 hox (by rw [hs1]; simp [Hp.get_set, nhx_5_7, hx])) (samex hs1 (by simp [Hp.get_set, nhgl_5_7]) hg2 hog (by rw [hs1]; simp [Hp.get_set, nhgl_5_7, hgl])), OutAt.app { X.l.getD i default with sure := true } hg2 ⟨hog, hox⟩ (by rw [hs1]; simp [Hp.get_set, nhgl_5_7, hgl]) (by rw [hs1]; simp [Hp.get_set, nhx_5_7, hx]) hc2 ht2 (by simp [row, hc]), by rw [rcr_snoc keep X.l i hi2, hrc]; simp only [rstep, hcs, Bool.false_eq_true, if_false, hc, if_true]⟩⟩)
       | (refine ⟨_, ?_, i + 1, n + 1, out, ov,  rfl, ?_, ?_, ?_⟩
          · first | omega | (simp; done) | (simp_all; done) | (simp_all; omega)
          · (try simp (disch := omega) only [push_cast, Int.reduceToNat, Int.reduceLT, Int.reduceLE, Int.reduceAdd, Int.reduceSub, Int.reduceMul, Int.reduceNeg, Int.reduceEq, reduceCtorEq, Nat.reduceLeDiff, Nat.reduceLT, Nat.reduceEqDiff, Nat.reduceAdd, Nat.reduceMul, Nat.reduceSub, Int.cast_ofNat_Int, rcells, rget0, rget1, rget2, rget3, rsub, rlen0, rlen1, rlen2, rlen3, rlen4, rlen, row, hx, hgl, hg5_7, nhx_5_7, nhgl_5_7, hl7, hop, hoc2, hoi, flat_one, room]) <;> (first | done | rfl | (simp; done) | (simp; omega) | omega | (simp_all; done) | (simp_all; omega))
          · first | rfl | (try simp (disch := omega) only [push_cast, Int.reduceToNat, Int.reduceLT, Int.reduceLE, Int.reduceAdd, Int.reduceSub, Int.reduceMul, Int.reduceNeg, Int.reduceEq, reduceCtorEq, Nat.reduceLeDiff, Nat.reduceLT, Nat.reduceEqDiff, Nat.reduceAdd, Nat.reduceMul, Nat.reduceSub, Int.cast_ofNat_Int, rcells, rget0, rget1, rget2, rget3, rsub, rlen0, rlen1, rlen2, rlen3, rlen4, rlen, row, hx, hgl, hg5_7, nhx_5_7, nhgl_5_7, hl7, hop, hoc2, hoi, flat_one, room]) <;> (first | done | rfl | (simp; done) | (simp; omega) | omega | (simp_all; done) | (simp_all; omega))
          · exact ⟨by omega, ⟨hX.frame (by simp [Hp.get_set, nhx_5_7]) (by simp [Hp.get_set, nhgl_5_7]), hov.mono' (HSub.set (by assumption) (HSub.set (by assumption) (HSub.set (by assumption) (HSub.refl _)))), by rw [rcr_snoc keep X.l i hi2, hrc]; simp only [rstep, hcs, Bool.false_eq_true, if_false, hc]⟩⟩)
    ·
     all_goals try (cases hc; done)
     all_goals try simp only [push_cast] at hc
     all_goals try (exfalso; omega)
     all_goals
      all_goals try (rw [hcs] at hc; cases hc; done)
      all_goals
       refine Sk ?_
       simp only [push_cast, WS, Nat.reduceEqDiff]
       refine hK1 _ _ ?_
       clear hK1
       try clear K1
       refine WS_keep [0, 1, 4, 5, 6] _ ?_
       refine R0 fun K hK => ?_
       try simp (maxSteps := 4000000) (disch := omega) only [push_cast, Nat.reduceLT, Nat.reduceEqDiff, Int.reduceToNat, Int.reduceLT, Int.reduceLE, Int.reduceAdd, Int.reduceSub, Int.reduceMul, Int.reduceNeg, Int.reduceEq, reduceCtorEq, Int.cast_ofNat_Int, Hp.get_set, rcells, rget0, rget1, rget2, rget3, rsub, rlen0, rlen1, rlen2, rlen3, rlen4, rlen, row, hx, hgl, hg5_7, nhx_5_7, nhgl_5_7]
       (repeat refine And.intro (by first | omega | (simp; done) | (simp_all; done) | (simp_all; omega)) ?_)
       refine Qk hK [0, 1, 4, 5, 6] ?_
       clear hK K
       refine Ag (hM0 _ _ ?_)
       first
        | (refine ⟨_, ?_, i + 1, n, out ++ [X.l.getD i default], .bs g2 0 (out.length + 1) cap2 4,  rfl, ?_, ?_, ?_⟩
           · first | omega | (simp; done) | (simp_all; done) | (simp_all; omega)
           · (try simp (disch := omega) only [push_cast, Int.reduceToNat, Int.reduceLT, Int.reduceLE, Int.reduceAdd, Int.reduceSub, Int.reduceMul, Int.reduceNeg, Int.reduceEq, reduceCtorEq, Nat.reduceLeDiff, Nat.reduceLT, Nat.reduceEqDiff, Nat.reduceAdd, Nat.reduceMul, Nat.reduceSub, Int.cast_ofNat_Int, rcells, rget0, rget1, rget2, rget3, rsub, rlen0, rlen1, rlen2, rlen3, rlen4, rlen, row, hx, hgl, hg5_7, nhx_5_7, nhgl_5_7]) <;> (first | done | rfl | (simp; done) | (simp; omega) | omega | (simp_all; done) | (simp_all; omega))
           · first | rfl | (try simp (disch := omega) only [push_cast, Int.reduceToNat, Int.reduceLT, Int.reduceLE, Int.reduceAdd, Int.reduceSub, Int.reduceMul, Int.reduceNeg, Int.reduceEq, reduceCtorEq, Nat.reduceLeDiff, Nat.reduceLT, Nat.reduceEqDiff, Nat.reduceAdd, Nat.reduceMul, Nat.reduceSub, Int.cast_ofNat_Int, rcells, rget0, rget1, rget2, rget3, rsub, rlen0, rlen1, rlen2, rlen3, rlen4, rlen, row, hx, hgl, hg5_7, nhx_5_7, nhgl_5_7]) <;> (first | done | rfl | (simp; done) | (simp; omega) | omega | (simp_all; done) | (simp_all; omega))
           · exact ⟨by omega, ⟨hX.frame (samex hs1 (by simp [Hp.get_set, nhx_5_7]) hg2 hox (by rw [hs1]; simp [Hp.get_set, nhx_5_7, hx])) (samex hs1 (by simp [Hp.get_set, nhgl_5_7]) hg2 hog (by rw [hs1]; simp [Hp.get_set, nhgl_5_7, hgl])), OutAt.app (X.l.getD i default) hg2 ⟨hog, hox⟩ (by rw [hs1]; simp [Hp.get_set, nhgl_5_7, hgl]) (by rw [hs1]; simp [Hp.get_set, nhx_5_7, hx]) hc2 ht2 (by simp [row]), by rw [rcr_snoc keep X.l i hi2, hrc]; simp only [rstep, hc, if_true]⟩⟩)
        | (refine ⟨_, ?_, i + 1, n + 1, out ++ [{ X.l.getD i default with sure := true }], .bs g2 0 (out.length + 1) cap2 4,  rfl, ?_, ?_, ?_⟩
           · first | omega | (simp; done) | (simp_all; done) | (simp_all; omega)
           · (try simp (disch := omega) only [push_cast, Int.reduceToNat, Int.reduceLT, Int.reduceLE, Int.reduceAdd, Int.reduceSub, Int.reduceMul, Int.reduceNeg, Int.reduceEq, reduceCtorEq, Nat.reduceLeDiff, Nat.reduceLT, Nat.reduceEqDiff, Nat.reduceAdd, Nat.reduceMul, Nat.reduceSub, Int.cast_ofNat_Int, rcells, rget0, rget1, rget2, rget3, rsub, rlen0, rlen1, rlen2, rlen3, rlen4, rlen, row, hx, hgl, hg5_7, nhx_5_7, nhgl_5_7]) <;> (first | done | rfl | (simp; done) | (simp; omega) | omega | (simp_all; done) | (simp_all; omega))
           · first | rfl | (try simp (disch := omega) only [push_cast, Int.reduceToNat, Int.reduceLT, Int.reduceLE, Int.reduceAdd, Int.reduceSub, Int.reduceMul, Int.reduceNeg, Int.reduceEq, reduceCtorEq, Nat.reduceLeDiff, Nat.reduceLT, Nat.reduceEqDiff, Nat.reduceAdd, Nat.reduceMul, Nat.reduceSub, Int.cast_ofNat_Int, rcells, rget0, rget1, rget2, rget3, rsub, rlen0, rlen1, rlen2, rlen3, rlen4, rlen, row, hx, hgl, hg5_7, nhx_5_7, nhgl_5_7]) <;> (first | done | rfl | (simp; done) | (simp; omega) | omega | (simp_all; done) | (simp_all; omega))
           · exact ⟨by omega, ⟨hX.frame (samex hs1 (by simp [Hp.get_set, nhx_5_7]) hg2 hox (by rw [hs1]; simp [Hp.get_set, nhx_5_7, hx])) (samex hs1 (by simp [Hp.get_set, nhgl_5_7]) hg2 hog (by rw [hs1]; simp [Hp.get_set, nhgl_5_7, hgl])), OutAt.app { X.l.getD i default with sure := true } hg2 ⟨hog, hox⟩ (by rw [hs1]; simp [Hp.get_set, nhgl_5_7, hgl]) (by rw [hs1]; simp [Hp.get_set, nhx_5_7, hx]) hc2 ht2 (by simp [row, hc]), by rw [rcr_snoc keep X.l i hi2, hrc]; simp only [rstep, hcs, Bool.false_eq_true, if_false, hc, if_true]⟩⟩)
        | (refine ⟨_, ?_, i + 1, n + 1, out, ov,  rfl, ?_, ?_, ?_⟩
           · first | omega | (simp; done) | (simp_all; done) | (simp_all; omega)
           · (try simp (disch := omega) only [push_cast, Int.reduceToNat, Int.reduceLT, Int.reduceLE, Int.reduceAdd, Int.reduceSub, Int.reduceMul, Int.reduceNeg, Int.reduceEq, reduceCtorEq, Nat.reduceLeDiff, Nat.reduceLT, Nat.reduceEqDiff, Nat.reduceAdd, Nat.reduceMul, Nat.reduceSub, Int.cast_ofNat_Int, rcells, rget0, rget1, rget2, rget3, rsub, rlen0, rlen1, rlen2, rlen3, rlen4, rlen, row, hx, hgl, hg5_7, nhx_5_7, nhgl_5_7]) <;> (first | done | rfl | (simp; done) | (simp; omega) | omega | (simp_all; done) | (simp_all; omega))
           · first | rfl | (try simp (disch := omega) only [push_cast, Int.reduceToNat, Int.reduceLT, Int.reduceLE, Int.reduceAdd, Int.reduceSub, Int.reduceMul, Int.reduceNeg, Int.reduceEq, reduceCtorEq, Nat.reduceLeDiff, Nat.reduceLT, Nat.reduceEqDiff, Nat.reduceAdd, Nat.reduceMul, Nat.reduceSub, Int.cast_ofNat_Int, rcells, rget0, rget1, rget2, rget3, rsub, rlen0, rlen1, rlen2, rlen3, rlen4, rlen, row, hx, hgl, hg5_7, nhx_5_7, nhgl_5_7]) <;> (first | done | rfl | (simp; done) | (simp; omega) | omega | (simp_all; done) | (simp_all; omega))
           · exact ⟨by omega, ⟨hX.frame (by simp [Hp.get_set, nhx_5_7]) (by simp [Hp.get_set, nhgl_5_7]), hov.mono' (HSub.set (by assumption) (HSub.set (by assumption) (HSub.set (by assumption) (HSub.refl _)))), by rw [rcr_snoc keep X.l i hi2, hrc]; simp only [rstep, hcs, Bool.false_eq_true, if_false, hc]⟩⟩)
  ·
   all_goals try (cases hc; done)
   all_goals try simp only [push_cast] at hc
   all_goals try (exfalso; omega)
   all_goals
    have hcs := hc
    refine Sk ?_
    refine WS.seq ?_
    refine R0 fun K hK => ?_
    try simp (maxSteps := 4000000) (disch := omega) only [push_cast, Nat.reduceLT, Nat.reduceEqDiff, Nat.reduceAdd, Nat.reduceMul, Nat.reduceSub, Nat.reduceLeDiff, Hp.get_set, rcells, rget0, rget1, rget2, rget3, rsub, rlen0, rlen1, rlen2, rlen3, rlen4, rlen, row, hx, hgl, hg5_7, nhx_5_7, nhgl_5_7]
    (repeat refine And.intro (by first | omega | (simp; done) | (simp_all; done) | (simp_all; omega)) ?_)
    refine Qk hK [0, 1, 4, 5, 6, 7, 34] ?_
    clear hK K
    refine CI rfl (fun hc => ?_) (fun hc => ?_)
    ·
     all_goals try (cases hc; done)
     all_goals try simp only [push_cast] at hc
     all_goals try (exfalso; omega)
     all_goals
      refine S_outbs 4 rfl (hov.mono' (by first | exact HSub.set (by assumption) (HSub.set (by assumption) (HSub.refl _)) | exact HSub.set (by assumption) (HSub.set (by assumption) (HSub.set (by assumption) (HSub.refl _))))) (fun σ1 go co to hs1 hoc hol hoi hog hox hoo => ?_)
      have hl7 := congrArg (fun s => Hp.get s g5_7) hs1
      simp [Hp.get_set] at hl7
      have hop := take_flat hoc
      have hoc2 : (cellsAt σ1 go).length = co * 4 := by rw [hoc, hol]
      refine R0 fun K hK => ?_
      try simp (maxSteps := 4000000) (disch := omega) only [push_cast, Nat.reduceLT, Nat.reduceEqDiff, Nat.reduceAdd, Nat.reduceMul, Nat.reduceSub, Nat.reduceLeDiff, Int.reduceToNat, Int.reduceLT, Int.reduceLE, Int.reduceAdd, Int.reduceSub, Int.reduceMul, Int.reduceNeg, Int.reduceEq, reduceCtorEq, Int.cast_ofNat_Int, Hp.get_set, rcells, rget0, rget1, rget2, rget3, rsub, rlen0, rlen1, rlen2, rlen3, rlen4, rlen, row, hx, hgl, hg5_7, nhx_5_7, nhgl_5_7, hl7, hop, hoc2, hoi, flat_one, room]
      (repeat refine And.intro (by first | omega | (simp; done) | (simp_all; done) | (simp_all; omega)) ?_)
      try simp (maxSteps := 4000000) (disch := omega) only [push_cast, Nat.reduceLT, Nat.reduceEqDiff, Nat.reduceAdd, Nat.reduceMul, Nat.reduceSub, Nat.reduceLeDiff, Int.reduceToNat, Int.reduceLT, Int.reduceLE, Int.reduceAdd, Int.reduceSub, Int.reduceMul, Int.reduceNeg, Int.reduceEq, reduceCtorEq, Int.cast_ofNat_Int, Hp.get_set, rcells, rget0, rget1, rget2, rget3, rsub, rlen0, rlen1, rlen2, rlen3, rlen4, rlen, row, hx, hgl, hg5_7, nhx_5_7, nhgl_5_7, hl7, hop, hoc2, hoi, flat_one, room]
      (repeat refine And.intro (by first | omega | (simp; done) | (simp_all; done) | (simp_all; omega)) ?_)
      refine fun g2 cap2 tl2 hg2 hc2 ht2 => ?_
      try simp (maxSteps := 4000000) (disch := omega) only [push_cast, Nat.reduceLT, Nat.reduceEqDiff, Nat.reduceAdd, Nat.reduceMul, Nat.reduceSub, Nat.reduceLeDiff, Int.reduceToNat, Int.reduceLT, Int.reduceLE, Int.reduceAdd, Int.reduceSub, Int.reduceMul, Int.reduceNeg, Int.reduceEq, reduceCtorEq, Int.cast_ofNat_Int, Hp.get_set, rcells, rget0, rget1, rget2, rget3, rsub, rlen0, rlen1, rlen2, rlen3, rlen4, rlen, row, hx, hgl, hg5_7, nhx_5_7, nhgl_5_7, hl7, hop, hoc2, hoi, flat_one, room]
      (repeat refine And.intro (by first | omega | (simp; done) | (simp_all; done) | (simp_all; omega)) ?_)
      try simp (maxSteps := 4000000) (disch := omega) only [push_cast, Nat.reduceLT, Nat.reduceEqDiff, Nat.reduceAdd, Nat.reduceMul, Nat.reduceSub, Nat.reduceLeDiff, Int.reduceToNat, Int.reduceLT, Int.reduceLE, Int.reduceAdd, Int.reduceSub, Int.reduceMul, Int.reduceNeg, Int.reduceEq, reduceCtorEq, Int.cast_ofNat_Int, Hp.get_set, rcells, rget0, rget1, rget2, rget3, rsub, rlen0, rlen1, rlen2, rlen3, rlen4, rlen, row, hx, hgl, hg5_7, nhx_5_7, nhgl_5_7, hl7, hop, hoc2, hoi, flat_one, room]
      (repeat refine And.intro (by first | omega | (simp; done) | (simp_all; done) | (simp_all; omega)) ?_)
      refine Qk hK [0, 1, 4, 5, 6] ?_
      clear hK K
      simp only [push_cast, WS, Nat.reduceEqDiff]
      refine hK1 _ _ ?_
      clear hK1
      try clear K1
      refine WS_keep [0, 1, 4, 5, 6] _ ?_
      refine R0 fun K hK => ?_
      try simp (maxSteps := 4000000) (disch := omega) only [push_cast, Nat.reduceLT, Nat.reduceEqDiff, Int.reduceToNat, Int.reduceLT, Int.reduceLE, Int.reduceAdd, Int.reduceSub, Int.reduceMul, Int.reduceNeg, Int.reduceEq, reduceCtorEq, Int.cast_ofNat_Int, Hp.get_set, rcells, rget0, rget1, rget2, rget3, rsub, rlen0, rlen1, rlen2, rlen3, rlen4, rlen, row, hx, hgl, hg5_7, nhx_5_7, nhgl_5_7, hl7, hop, hoc2, hoi, flat_one, room]
      (repeat refine And.intro (by first | omega | (simp; done) | (simp_all; done) | (simp_all; omega)) ?_)
      refine Qk hK [0, 1, 4, 5, 6] ?_
      clear hK K
      refine Ag (hM0 _ _ ?_)
      first
       | (refine ⟨_, ?_, i + 1, n, out ++ [X.l.getD i default], .bs g2 0 (out.length + 1) cap2 4,  rfl, ?_, ?_, ?_⟩
          · first | omega | (simp; done) | (simp_all; done) | (simp_all; omega)
          · (try simp (disch := omega) only [push_cast, Int.reduceToNat, Int.reduceLT, Int.reduceLE, Int.reduceAdd, Int.reduceSub, Int.reduceMul, Int.reduceNeg, Int.reduceEq, reduceCtorEq, Nat.reduceLeDiff, Nat.reduceLT, Nat.reduceEqDiff, Nat.reduceAdd, Nat.reduceMul, Nat.reduceSub, Int.cast_ofNat_Int, rcells, rget0, rget1, rget2, rget3, rsub, rlen0, rlen1, rlen2, rlen3, rlen4, rlen, row, hx, hgl, hg5_7, nhx_5_7, nhgl_5_7, hl7, hop, hoc2, hoi, flat_one, room]) <;> (first | done | rfl | (simp; done) | (simp; omega) | omega | (simp_all; done) | (simp_all; omega))
          · first | rfl | (try simp (disch := omega) only [push_cast, Int.reduceToNat, Int.reduceLT, Int.reduceLE, Int.reduceAdd, Int.reduceSub, Int.reduceMul, Int.reduceNeg, Int.reduceEq, reduceCtorEq, Nat.reduceLeDiff, Nat.reduceLT, Nat.reduceEqDiff, Nat.reduceAdd, Nat.reduceMul, Nat.reduceSub, Int.cast_ofNat_Int, rcells, rget0, rget1, rget2, rget3, rsub, rlen0, rlen1, rlen2, rlen3, rlen4, rlen, row, hx, hgl, hg5_7, nhx_5_7, nhgl_5_7, hl7, hop, hoc2, hoi, flat_one, room]) <;> (first | done | rfl | (simp; done) | (simp; omega) | omega | (simp_all; done) | (simp_all; omega))
          · exact ⟨by omega, ⟨hX.frame (samex hs1 (by simp [Hp.get_set, nhx_5_7]) hg2 hox (by rw [hs1]; simp [Hp.get_set, nhx_5_7, hx])) (samex hs1 (by simp [Hp.get_set, nhgl_5_7]) hg2 hog (by rw [hs1]; simp [Hp.get_set, nhgl_5_7, hgl])), OutAt.app (X.l.getD i default) hg2 ⟨hog, hox⟩ (by rw [hs1]; simp [Hp.get_set, nhgl_5_7, hgl]) (by rw [hs1]; simp [Hp.get_set, nhx_5_7, hx]) hc2 ht2 (by simp [row]), by rw [rcr_snoc keep X.l i hi2, hrc]; simp only [rstep, hc, if_true]⟩⟩)
       | (refine ⟨_, ?_, i + 1, n + 1, out ++ [{ X.l.getD i default with sure := true }], .bs g2 0 (out.length + 1) cap2 4,  rfl, ?_, ?_, ?_⟩
          · first | omega | (simp; done) | (simp_all; done) | (simp_all; omega)
          · (try simp (disch := omega) only [push_cast, Int.reduceToNat, Int.reduceLT, Int.reduceLE, Int.reduceAdd, Int.reduceSub, Int.reduceMul, Int.reduceNeg, Int.reduceEq, reduceCtorEq, Nat.reduceLeDiff, Nat.reduceLT, Nat.reduceEqDiff, Nat.reduceAdd, Nat.reduceMul, Nat.reduceSub, Int.cast_ofNat_Int, rcells, rget0, rget1, rget2, rget3, rsub, rlen0, rlen1, rlen2, rlen3, rlen4, rlen, row, hx, hgl, hg5_7, nhx_5_7, nhgl_5_7, hl7, hop, hoc2, hoi, flat_one, room]) <;> (first | done | rfl | (simp; done) | (simp; omega) | omega | (simp_all; done) | (simp_all; omega))
          · first | rfl | (try simp (disch := omega) only [push_cast, Int.reduceToNat, Int.reduceLT, Int.reduceLE, Int.reduceAdd, Int.reduceSub, Int.reduceMul, Int.reduceNeg, Int.reduceEq, reduceCtorEq, Nat.reduceLeDiff, Nat.reduceLT, Nat.reduceEqDiff, Nat.reduceAdd, Nat.reduceMul, Nat.reduceSub, Int.cast_ofNat_Int, rcells, rget0, rget1, rget2, rget3, rsub, rlen0, rlen1, rlen2, rlen3, rlen4, rlen, row, hx, hgl, hg5_7, nhx_5_7, nhgl_5_7, hl7, hop, hoc2, hoi, flat_one, room]) <;> (first | done | rfl | (simp; done) | (simp; omega) | omega | (simp_all; done) | (simp_all; omega))
          · exact ⟨by omega, ⟨hX.frame (samex hs1 (by simp [Hp.get_set, nhx_5_7]) hg2 hox (by rw [hs1]; simp [Hp.get_set, nhx_5_7, hx])) (samex hs1 (by simp [Hp.get_set, nhgl_5_7]) hg2 hog (by rw [hs1]; simp [Hp.get_set, nhgl_5_7, hgl])), OutAt.app { X.l.getD i default with sure := true } hg2 ⟨hog, hox⟩ (by rw [hs1]; simp [Hp.get_set, nhgl_5_7, hgl]) (by rw [hs1]; simp [Hp.get_set, nhx_5_7, hx]) hc2 ht2 (by simp [row, hc]), by rw [rcr_snoc keep X.l i hi2, hrc]; simp only [rstep, hcs, Bool.false_eq_true, if_false, hc, if_true]⟩⟩)
       | (refine ⟨_, ?_, i + 1, n + 1, out, ov,  rfl, ?_, ?_, ?_⟩
          · first | omega | (simp; done) | (simp_all; done) | (simp_all; omega)
          · (try simp (disch := omega) only [push_cast, Int.reduceToNat, Int.reduceLT, Int.reduceLE, Int.reduceAdd, Int.reduceSub, Int.reduceMul, Int.reduceNeg, Int.reduceEq, reduceCtorEq, Nat.reduceLeDiff, Nat.reduceLT, Nat.reduceEqDiff, Nat.reduceAdd, Nat.reduceMul, Nat.reduceSub, Int.cast_ofNat_Int, rcells, rget0, rget1, rget2, rget3, rsub, rlen0, rlen1, rlen2, rlen3, rlen4, rlen, row, hx, hgl, hg5_7, nhx_5_7, nhgl_5_7, hl7, hop, hoc2, hoi, flat_one, room]) <;> (first | done | rfl | (simp; done) | (simp; omega) | omega | (simp_all; done) | (simp_all; omega))
          · first | rfl | (try simp (disch := omega) only [push_cast, Int.reduceToNat, Int.reduceLT, Int.reduceLE, Int.reduceAdd, Int.reduceSub, Int.reduceMul, Int.reduceNeg, Int.reduceEq, reduceCtorEq, Nat.reduceLeDiff, Nat.reduceLT, Nat.reduceEqDiff, Nat.reduceAdd, Nat.reduceMul, Nat.reduceSub, Int.cast_ofNat_Int, rcells, rget0, rget1, rget2, rget3, rsub, rlen0, rlen1, rlen2, rlen3, rlen4, rlen, row, hx, hgl, hg5_7, nhx_5_7, nhgl_5_7, hl7, hop, hoc2, hoi, flat_one, room]) <;> (first | done | rfl | (simp; done) | (simp; omega) | omega | (simp_all; done) | (simp_all; omega))
          · exact ⟨by omega, ⟨hX.frame (by simp [Hp.get_set, nhx_5_7]) (by simp [Hp.get_set, nhgl_5_7]), hov.mono' (HSub.set (by assumption) (HSub.set (by assumption) (HSub.set (by assumption) (HSub.refl _)))), by rw [rcr_snoc keep X.l i hi2, hrc]; simp only [rstep, hcs, Bool.false_eq_true, if_false, hc]⟩⟩)
    ·
     all_goals try (cases hc; done)
     all_goals try simp only [push_cast] at hc
     all_goals try (exfalso; omega)
     all_goals
      all_goals try (rw [hcs] at hc; cases hc; done)
      all_goals
       refine Sk ?_
       simp only [push_cast, WS, Nat.reduceEqDiff]
       refine hK1 _ _ ?_
       clear hK1
       try clear K1
       refine WS_keep [0, 1, 4, 5, 6] _ ?_
       refine R0 fun K hK => ?_
       try simp (maxSteps := 4000000) (disch := omega) only [push_cast, Nat.reduceLT, Nat.reduceEqDiff, Int.reduceToNat, Int.reduceLT, Int.reduceLE, Int.reduceAdd, Int.reduceSub, Int.reduceMul, Int.reduceNeg, Int.reduceEq, reduceCtorEq, Int.cast_ofNat_Int, Hp.get_set, rcells, rget0, rget1, rget2, rget3, rsub, rlen0, rlen1, rlen2, rlen3, rlen4, rlen, row, hx, hgl, hg5_7, nhx_5_7, nhgl_5_7]
       (repeat refine And.intro (by first | omega | (simp; done) | (simp_all; done) | (simp_all; omega)) ?_)
       refine Qk hK [0, 1, 4, 5, 6] ?_
       clear hK K
       refine Ag (hM0 _ _ ?_)
       first
        | (refine ⟨_, ?_, i + 1, n, out ++ [X.l.getD i default], .bs g2 0 (out.length + 1) cap2 4,  rfl, ?_, ?_, ?_⟩
           · first | omega | (simp; done) | (simp_all; done) | (simp_all; omega)
           · (try simp (disch := omega) only [push_cast, Int.reduceToNat, Int.reduceLT, Int.reduceLE, Int.reduceAdd, Int.reduceSub, Int.reduceMul, Int.reduceNeg, Int.reduceEq, reduceCtorEq, Nat.reduceLeDiff, Nat.reduceLT, Nat.reduceEqDiff, Nat.reduceAdd, Nat.reduceMul, Nat.reduceSub, Int.cast_ofNat_Int, rcells, rget0, rget1, rget2, rget3, rsub, rlen0, rlen1, rlen2, rlen3, rlen4, rlen, row, hx, hgl, hg5_7, nhx_5_7, nhgl_5_7]) <;> (first | done | rfl | (simp; done) | (simp; omega) | omega | (simp_all; done) | (simp_all; omega))
           · first | rfl | (try simp (disch := omega) only [push_cast, Int.reduceToNat, Int.reduceLT, Int.reduceLE, Int.reduceAdd, Int.reduceSub, Int.reduceMul, Int.reduceNeg, Int.reduceEq, reduceCtorEq, Nat.reduceLeDiff, Nat.reduceLT, Nat.reduceEqDiff, Nat.reduceAdd, Nat.reduceMul, Nat.reduceSub, Int.cast_ofNat_Int, rcells, rget0, rget1, rget2, rget3, rsub, rlen0, rlen1, rlen2, rlen3, rlen4, rlen, row, hx, hgl, hg5_7, nhx_5_7, nhgl_5_7]) <;> (first | done | rfl | (simp; done) | (simp; omega) | omega | (simp_all; done) | (simp_all; omega))
           · exact ⟨by omega, ⟨hX.frame (samex hs1 (by simp [Hp.get_set, nhx_5_7]) hg2 hox (by rw [hs1]; simp [Hp.get_set, nhx_5_7, hx])) (samex hs1 (by simp [Hp.get_set, nhgl_5_7]) hg2 hog (by rw [hs1]; simp [Hp.get_set, nhgl_5_7, hgl])), OutAt.app (X.l.getD i default) hg2 ⟨hog, hox⟩ (by rw [hs1]; simp [Hp.get_set, nhgl_5_7, hgl]) (by rw [hs1]; simp [Hp.get_set, nhx_5_7, hx]) hc2 ht2 (by simp [row]), by rw [rcr_snoc keep X.l i hi2, hrc]; simp only [rstep, hc, if_true]⟩⟩)
        | (refine ⟨_, ?_, i + 1, n + 1, out ++ [{ X.l.getD i default with sure := true }], .bs g2 0 (out.length + 1) cap2 4,  rfl, ?_, ?_, ?_⟩
           · first | omega | (simp; done) | (simp_all; done) | (simp_all; omega)
           · (try simp (disch := omega) only [push_cast, Int.reduceToNat, Int.reduceLT, Int.reduceLE, Int.reduceAdd, Int.reduceSub, Int.reduceMul, Int.reduceNeg, Int.reduceEq, reduceCtorEq, Nat.reduceLeDiff, Nat.reduceLT, Nat.reduceEqDiff, Nat.reduceAdd, Nat.reduceMul, Nat.reduceSub, Int.cast_ofNat_Int, rcells, rget0, rget1, rget2, rget3, rsub, rlen0, rlen1, rlen2, rlen3, rlen4, rlen, row, hx, hgl, hg5_7, nhx_5_7, nhgl_5_7]) <;> (first | done | rfl | (simp; done) | (simp; omega) | omega | (simp_all; done) | (simp_all; omega))
           · first | rfl | (try simp (disch := omega) only [push_cast, Int.reduceToNat, Int.reduceLT, Int.reduceLE, Int.reduceAdd, Int.reduceSub, Int.reduceMul, Int.reduceNeg, Int.reduceEq, reduceCtorEq, Nat.reduceLeDiff, Nat.reduceLT, Nat.reduceEqDiff, Nat.reduceAdd, Nat.reduceMul, Nat.reduceSub, Int.cast_ofNat_Int, rcells, rget0, rget1, rget2, rget3, rsub, rlen0, rlen1, rlen2, rlen3, rlen4, rlen, row, hx, hgl, hg5_7, nhx_5_7, nhgl_5_7]) <;> (first | done | rfl | (simp; done) | (simp; omega) | omega | (simp_all; done) | (simp_all; omega))
           · exact ⟨by omega, ⟨hX.frame (samex hs1 (by simp [Hp.get_set, nhx_5_7]) hg2 hox (by rw [hs1]; simp [Hp.get_set, nhx_5_7, hx])) (samex hs1 (by simp [Hp.get_set, nhgl_5_7]) hg2 hog (by rw [hs1]; simp [Hp.get_set, nhgl_5_7, hgl])), OutAt.app { X.l.getD i default with sure := true } hg2 ⟨hog, hox⟩ (by rw [hs1]; simp [Hp.get_set, nhgl_5_7, hgl]) (by rw [hs1]; simp [Hp.get_set, nhx_5_7, hx]) hc2 ht2 (by simp [row, hc]), by rw [rcr_snoc keep X.l i hi2, hrc]; simp only [rstep, hcs, Bool.false_eq_true, if_false, hc, if_true]⟩⟩)
        | (refine ⟨_, ?_, i + 1, n + 1, out, ov,  rfl, ?_, ?_, ?_⟩
           · first | omega | (simp; done) | (simp_all; done) | (simp_all; omega)
           · (try simp (disch := omega) only [push_cast, Int.reduceToNat, Int.reduceLT, Int.reduceLE, Int.reduceAdd, Int.reduceSub, Int.reduceMul, Int.reduceNeg, Int.reduceEq, reduceCtorEq, Nat.reduceLeDiff, Nat.reduceLT, Nat.reduceEqDiff, Nat.reduceAdd, Nat.reduceMul, Nat.reduceSub, Int.cast_ofNat_Int, rcells, rget0, rget1, rget2, rget3, rsub, rlen0, rlen1, rlen2, rlen3, rlen4, rlen, row, hx, hgl, hg5_7, nhx_5_7, nhgl_5_7]) <;> (first | done | rfl | (simp; done) | (simp; omega) | omega | (simp_all; done) | (simp_all; omega))
           · first | rfl | (try simp (disch := omega) only [push_cast, Int.reduceToNat, Int.reduceLT, Int.reduceLE, Int.reduceAdd, Int.reduceSub, Int.reduceMul, Int.reduceNeg, Int.reduceEq, reduceCtorEq, Nat.reduceLeDiff, Nat.reduceLT, Nat.reduceEqDiff, Nat.reduceAdd, Nat.reduceMul, Nat.reduceSub, Int.cast_ofNat_Int, rcells, rget0, rget1, rget2, rget3, rsub, rlen0, rlen1, rlen2, rlen3, rlen4, rlen, row, hx, hgl, hg5_7, nhx_5_7, nhgl_5_7]) <;> (first | done | rfl | (simp; done) | (simp; omega) | omega | (simp_all; done) | (simp_all; omega))
           · exact ⟨by omega, ⟨hX.frame (by simp [Hp.get_set, nhx_5_7]) (by simp [Hp.get_set, nhgl_5_7]), hov.mono' (HSub.set (by assumption) (HSub.set (by assumption) (HSub.set (by assumption) (HSub.refl _)))), by rw [rcr_snoc keep X.l i hi2, hrc]; simp only [rstep, hcs, Bool.false_eq_true, if_false, hc]⟩⟩)
end Go.Vm.Try
