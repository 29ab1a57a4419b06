/- Walks of functions of the program, and laws of what they compute. -/
import Derived.Test.YtbicfijohjijhaaVdY
import Derived.Test.YtbicfijohjijhaaVdOp
set_option linter.unusedSimpArgs false
set_option linter.unusedVariables false
set_option maxHeartbeats 4000000
namespace Go.Vm.Try
open Go.Proofs
def lowN (a : Int) (m : Nat) : Nat := (a % m).toNat
theorem lowN_lt (a : Int) {m : Nat} (h : 0 < m) : lowN a m < m := by
  unfold lowN
  have h1 : 0 ≤ a % (m : Int) := Int.emod_nonneg _ (by omega)
  have h2 : a % (m : Int) < m := Int.emod_lt_of_pos _ (by omega)
  omega
theorem and1 (a : Int) : IntKind.i64.wrap ((BitVec.ofInt IntKind.i64.bits a &&& BitVec.ofInt IntKind.i64.bits 1).toNat : Nat) = (lowN a 2 : Int) := by
  have h : (BitVec.ofInt IntKind.i64.bits a &&& BitVec.ofInt IntKind.i64.bits 1).toNat = lowN a 2 := by
    show (BitVec.ofInt 64 a &&& BitVec.ofInt 64 1).toNat = _
    rw [BitVec.toNat_and, show (BitVec.ofInt 64 1).toNat = 1 by decide, Nat.and_one_is_mod, BitVec.toNat_ofInt]
    unfold lowN; omega
  rw [h]
  have := lowN_lt a (m := 2) (by omega)
  exact i64w (by omega) (by omega)
theorem and3 (a : Int) : IntKind.i64.wrap ((BitVec.ofInt IntKind.i64.bits a &&& BitVec.ofInt IntKind.i64.bits 3).toNat : Nat) = (lowN a 4 : Int) := by
  have h : (BitVec.ofInt IntKind.i64.bits a &&& BitVec.ofInt IntKind.i64.bits 3).toNat = lowN a 4 := by
    show (BitVec.ofInt 64 a &&& BitVec.ofInt 64 3).toNat = _
    have h3 : ∀ n : Nat, n &&& 3 = n % 4 := fun n => Nat.and_two_pow_sub_one_eq_mod n 2
    rw [BitVec.toNat_and, show (BitVec.ofInt 64 3).toNat = 3 by decide, h3, BitVec.toNat_ofInt]
    unfold lowN; omega
  rw [h]
  have := lowN_lt a (m := 4) (by omega)
  exact i64w (by omega) (by omega)
theorem look_setL (p q : Plc) (b : Sec) : ∀ m : List PS, look q (setL p b m) = if p = q then some b else look q m
  | [] => by simp [setL, look]
  | (r, c) :: m => by
    by_cases e : r = p
    · subst e
      by_cases e2 : r = q <;> simp [setL, look, e2]
    · rw [setL, if_neg e, look, look_setL p q b m]
      by_cases e2 : r = q
      · subst e2; simp [look, Ne.symm e]
      · simp [look, e2]
theorem DiskAt.mono {D : Disk} {d : Nat} {σ τ : Hp} (h : DiskAt D d σ) (hs : HSub σ τ) : DiskAt D d τ := by
  obtain ⟨g1, g2, gt, s1, c1, s2, c2, h⟩ := h
  exact ⟨g1, g2, gt, s1, c1, s2, c2, ⟨hs _ _ h.hd, hs _ _ h.m1, hs _ _ h.m2, hs _ _ h.t, h.n1, h.n2, h.n3, h.n4, h.n5, h.n6⟩⟩
def opV (o : Op) : V := .agg (opc o)
def oat (ops : List Op) (i : Nat) : Op := ops.getD i ⟨0, 0, 0, 0, 0, []⟩
theorem opc_get' (ops : List Op) (i : Nat) (h : i < ops.length) : (ops.map opV).getD i .dead = .agg [.int .i64 (oat ops i).kind, .int .i64 (oat ops i).file, .int .i64 (oat ops i).sector, .int .i64 (oat ops i).n, .int .u8 (oat ops i).by_.toNat, .sl 1 ((oat ops i).b.map u8) .no] := by
  simp [h, opV, opc, oat]
theorem u8_set (l : List UInt8) (k : Nat) (b : UInt8) : (l.map u8).set k (.int .u8 b.toNat) = (l.set k b).map u8 := by simp [u8]
def i64v (n : Int) : V := .int .i64 n
theorem i64_get (l : List Int) (k : Nat) (h : k < l.length) : (l.map i64v).getD k .dead = .int .i64 (l.getD k 0) := by simp [h, i64v]
theorem i64_set (l : List Int) (k : Nat) (n : Int) : (l.map i64v).set k (.int .i64 n) = (l.set k n).map i64v := by simp [i64v]
/-- What the law's own tables tell of a disk. -/
structure Sh (D : Disk) (tab : List UInt8) (z : List Int) (i : Nat) : Prop where
  ok : D.Ok
  q : D.quota = 20
  p : D.plan = false
  dn : D.down = false
  w : D.waits.length ≤ i
  z0 : z.getD 0 0 = D.size0
  z1 : z.getD 1 0 = D.size1
  b0 : D.size0 ≤ 4
  b1 : D.size1 ≤ 4
  lt : tab.length = 8
  lz : z.length = 2
  r : ∀ f s : Nat, f < 2 → s < 4 → readB D (f, s) = fullB (tab.getD (f * 4 + s) 0) 0
theorem Sh.new : Sh (Disk.new 20) (List.replicate 8 0) [0, 0] 0 where
  ok := ok_new 20
  q := rfl
  p := rfl
  dn := rfl
  w := Nat.le_refl _
  z0 := rfl
  z1 := rfl
  b0 := by decide
  b1 := by decide
  lt := rfl
  lz := rfl
  r := fun f s hf hs => by
    have : ∀ k, (List.replicate 8 (0 : UInt8)).getD k 0 = 0 := fun k => match k with
      | 0 | 1 | 2 | 3 | 4 | 5 | 6 | 7 => rfl
      | k + 8 => rfl
    rw [this]; rfl
theorem Sh.chg {D : Disk} {tab : List UInt8} {z : List Int} {i : Nat} (h : Sh D tab z i) : changeV D = 0 ∧ changeD D = { D with left := D.left, calls := IntKind.i64.wrap (D.calls + 1) } := by
  simp [changeV, changeD, h.p]
theorem Sh.wE {D : Disk} {tab : List UInt8} {z : List Int} {i : Nat} (h : Sh D tab z i) {f s : Nat} (hf : f < 2) (hs : s < 4) (b : UInt8) : writeE D f s (fullB b 0).length = 0 ∧ writeD D f s (fullB b 0) = putD (changeD D) f s (fullB b 0) := by
  have hl : (fullB b 0).length = 128 := by simp [fullB, fsz]
  have h1 : ¬ badW f s (fullB b 0).length := by unfold badW; rw [hl]; omega
  obtain ⟨_, _, _, q0, q1, q2, q3⟩ := h.ok
  have h2 : ¬ fullW D f s := by
    unfold fullW dsize
    have := h.q; have := h.b0; have := h.b1
    split <;> split <;> omega
  rw [writeE_ok h1 h.dn h2, writeD_ok h1 h.dn h2, if_pos h.chg.1]
  exact ⟨h.chg.1, rfl⟩
theorem Sh.put {D : Disk} {tab : List UInt8} {z : List Int} {i : Nat} (h : Sh D tab z i) {f s : Nat} (hf : f < 2) (hs : s < 4) (b : UInt8) {z' : List Int} (hz : z' = z.set f (if z.getD f 0 ≤ s then (s : Int) + 1 else z.getD f 0)) :
    Sh (putD (changeD D) f s (fullB b 0)) (tab.set (f * 4 + s) b) z' (i + 1) := by
  subst hz
  obtain ⟨o1, o2, o3, q0, q1, q2, q3⟩ := h.ok
  have hl : (fullB b 0).length = 128 := by simp [fullB, fsz]
  rw [h.chg.2]
  have hz0 := h.z0
  have hz1 := h.z1
  have hb0 := h.b0
  have hb1 := h.b1
  have hlz := h.lz
  match z, hlz with
  | [za, zb], _ =>
  simp only [List.getD_cons_zero, List.getD_cons_succ] at hz0 hz1
  subst hz0 hz1
  refine ⟨⟨o1, fun e he => ?_, fun e he => ?_, ?_, ?_, ?_, ?_⟩, h.q, h.p, h.dn, ?_, ?_, ?_, ?_, ?_, by simp [h.lt], by simp, fun f' s' hf' hs' => ?_⟩
  · rcases setL_mem he with he | he
    · rw [he]; exact hl
    · exact o2 e he
  · simp only [putD, List.mem_append, List.mem_singleton] at he
    rcases he with he | he
    · exact o3 e he
    · rw [he]; exact hl
  all_goals try (simp only [putD, maxI]; (repeat' split) <;> omega)
  · have := h.w; simp [putD]; omega
  · rcases Nat.lt_or_ge f 1 with h0 | h0
    · obtain rfl : f = 0 := by omega
      simp [putD, maxI]; (repeat' split) <;> omega
    · obtain rfl : f = 1 := by omega
      simp [putD]
  · rcases Nat.lt_or_ge f 1 with h0 | h0
    · obtain rfl : f = 0 := by omega
      simp [putD]
    · obtain rfl : f = 1 := by omega
      simp [putD, maxI]; (repeat' split) <;> omega
  · have hr := h.r f' s' hf' hs'
    simp only [readB, putD, look_setL] at hr ⊢
    by_cases e : f = f' ∧ s = s'
    · obtain ⟨rfl, rfl⟩ := e
      have hk : f * 4 + s < tab.length := by rw [h.lt]; omega
      simp [hk]
    · rw [if_neg (by simp only [Prod.mk.injEq]; omega), hr]
      congr 1
      have hne : f * 4 + s ≠ f' * 4 + s' := by omega
      simp [List.getD_eq_getElem?_getD, List.getElem?_set, hne]
theorem Sh.sync {D : Disk} {tab : List UInt8} {z : List Int} {i : Nat} (h : Sh D tab z i) {f : Nat} (hf : f < 2) : syncE D f = 0 ∧ Sh (syncF D f) tab z i := by
  have ha : askV D f false = 0 := by unfold askV; simp [h.dn]; omega
  have hs : syncF D f = syncD (changeD D) f := by rw [syncF, if_pos ha, if_pos h.chg.1]
  refine ⟨by rw [syncE, if_pos ha]; exact h.chg.1, ?_⟩
  rw [hs, h.chg.2]
  obtain ⟨o1, o2, o3, o4⟩ := h.ok
  refine ⟨⟨fun e he => ?_, o2, fun e he => o3 e (List.mem_filter.1 he).1, o4⟩, h.q, h.p, h.dn, ?_, h.z0, h.z1, h.b0, h.b1, h.lt, h.lz, h.r⟩
  · have : ∀ (ws m : List PS), (∀ e ∈ ws, e.2.length = 128) → (∀ e ∈ m, e.2.length = 128) → ∀ e ∈ surely f ws m, e.2.length = 128 := by
      intro ws
      induction ws with
      | nil => intro m _ hm; exact hm
      | cons w ws ih =>
        intro m hw hm
        refine ih _ (fun e he => hw e (List.mem_cons_of_mem _ he)) ?_
        show ∀ e ∈ (if w.1.1 = (f : Int) then setL w.1 w.2 m else m), e.2.length = 128
        split
        · intro e he
          rcases setL_mem he with he | he
          · rw [he]; exact hw w (List.mem_cons_self ..)
          · exact hm e he
        · exact hm
    exact this _ _ o3 o1 e he
  · exact Nat.le_trans (List.length_filter_le _ _) h.w
theorem all_u8 (l : List UInt8) : (l.map u8).all isU8 = true := by simp [isU8, u8]
theorem set_self (z : List Int) (f : Nat) (h : f < z.length) : z = z.set f (z.getD f 0) := by
  apply List.ext_getElem
  · simp
  · intro n h1 h2
    rw [List.getElem_set]
    split
    · subst_vars; simp [h]
    · rfl
def St18 (d ga gb i : Nat) (σ : Hp) : Prop := ∃ (σd τl : Hp) (D : Disk) (tab : List UInt8) (z : List Int), σ = σd.join τl ∧ DiskAt D d σd ∧ Disj σd τl ∧ τl.get ga = some (.cells (tab.map u8)) ∧ τl.get gb = some (.cells (z.map i64v)) ∧ Sh D tab z i
theorem S_any {n : Nat} {P : Program} {env : Env} {Q : Exit → Env → Hp → Prop} {cs : List Code} {d ga gb i : Nat} {σ : Hp} (h : St18 d ga gb i σ)
    (k : ∀ (σd τl : Hp) (D : Disk) (tab : List UInt8) (z : List Int), DiskAt D d σd → Disj σd τl → τl.get ga = some (.cells (tab.map u8)) → τl.get gb = some (.cells (z.map i64v)) → Sh D tab z i → WS n P cs Q env (σd.join τl)) : WS n P cs Q env σ := by
  obtain ⟨σd, τl, D, tab, z, rfl, h1, h2, h3, h4, h5⟩ := h
  exact k σd τl D tab z h1 h2 h3 h4 h5
theorem Sh.up {D : Disk} {tab : List UInt8} {z : List Int} {i : Nat} (h : Sh D tab z i) : Sh D tab z (i + 1) := ⟨h.ok, h.q, h.p, h.dn, by have := h.w; omega, h.z0, h.z1, h.b0, h.b1, h.lt, h.lz, h.r⟩
theorem Sh.len {D : Disk} {tab : List UInt8} {z : List Int} {i : Nat} (h : Sh D tab z i) {f : Nat} (hf : f < 2) : lenV D f = z.getD f 0 := by
  rcases Nat.lt_or_ge f 1 with h0 | h0
  · obtain rfl : f = 0 := by omega
    rw [h.z0]; rfl
  · obtain rfl : f = 1 := by omega
    rw [h.z1]; rfl
theorem Sh.read {D : Disk} {tab : List UInt8} {z : List Int} {i : Nat} (h : Sh D tab z i) {f s : Nat} (hf : f < 2) (hs : s < 4) :
    ((s : Int) < z.getD f 0 ∧ readE D f s = 0 ∧ readV D f s = row (fullB (tab.getD (f * 4 + s) 0) 0)) ∨ (¬ (s : Int) < z.getD f 0 ∧ readE D f s = 4 ∧ readV D f s = .sl 0 [] .full) := by
  have ha : askV D f (decide ((s : Int) < 0)) = 0 := by unfold askV; simp [h.dn]; omega
  have hd : dsize D f = z.getD f 0 := by
    rw [← h.len hf]; unfold dsize lenV
    split
    · rfl
    · rw [if_pos (by omega)]
  by_cases hlt : (s : Int) < z.getD f 0
  · left
    have he : readE D f s = 0 := by rw [readE, if_pos ha, hd, if_neg (by omega)]
    exact ⟨hlt, he, by rw [readV, if_pos he, h.r f s hf hs]⟩
  · right
    have he : readE D f s = 4 := by rw [readE, if_pos ha, hd, if_pos (by omega)]
    exact ⟨hlt, he, by rw [readV, he]; rfl⟩

theorem shows_spec (ops : List Op) (hl : ops.length ≤ 140737488351232) : PSpec Go.Proofs.Try.prog 7 [.sl 6 (ops.map opV) .no] (.bool true) := by
 refine introP (n := 129) (rs := [.tmp 2]) (fn := Go.Proofs.Try.f7) (by rfl) rfl (by kernel_rfl) rfl rfl (Nat.le_of_ble_eq_true rfl) (fun Q0 hQ0 => ?_)
 refine WS.seq ?_
 refine A1 [0] (by decide) ?_
 refine WS.seq ?_
 refine R0 fun K hK => ?_
 try simp (maxSteps := 4000000) (disch := omega) only [push_cast, Nat.reduceLT, Nat.reduceEqDiff, Nat.reduceAdd, Nat.reduceMul, Nat.reduceSub, Nat.reduceLeDiff, Hp.get_set, and1, and3, opc_get', List.length_map, Hp.join_set, Hp.get_join, Option.some_or, u8_set, i64_set, getD_u8, i64_get]
 refine callS (new_spec 20) (fun v τ h => ?_)
 rw [newP, if_neg (by omega)] at h
 obtain ⟨d, rfl, hD⟩ := h
 try simp (maxSteps := 4000000) (disch := omega) only [push_cast, Nat.reduceLT, Nat.reduceEqDiff, Nat.reduceAdd, Nat.reduceMul, Nat.reduceSub, Nat.reduceLeDiff, Hp.get_set, and1, and3, opc_get', List.length_map, Hp.join_set, Hp.get_join, Option.some_or, u8_set, i64_set, getD_u8, i64_get]
 refine Qk hK [0, 3, 4] ?_
 clear hK K
 refine WS.seq (WS.seq ?_)
 refine R0 fun K hK => ?_
 try simp (maxSteps := 4000000) (disch := omega) only [push_cast, Nat.reduceLT, Nat.reduceEqDiff, Int.reduceToNat, Int.reduceLT, Int.reduceLE, Int.reduceAdd, Int.reduceSub, Int.reduceMul, Int.reduceNeg, Int.reduceEq, reduceCtorEq, Int.cast_ofNat_Int, Hp.get_set, and1, and3, opc_get', List.length_map, Hp.join_set, Hp.get_join, Option.some_or, u8_set, i64_set, getD_u8, i64_get]
 all_goals try (first | refine guardT 18 rfl (fun hc => ?_) (fun hc => ?_) | refine guardF 18 rfl (fun hc => ?_) (fun hc => ?_)) <;> try simp only [push_cast] at hc
 all_goals try (exfalso; omega)
 all_goals try simp (maxSteps := 4000000) (disch := omega) only [push_cast, Nat.reduceLT, Nat.reduceEqDiff, Int.reduceToNat, Int.reduceLT, Int.reduceLE, Int.reduceAdd, Int.reduceSub, Int.reduceMul, Int.reduceNeg, Int.reduceEq, reduceCtorEq, Int.cast_ofNat_Int, Hp.get_set, and1, and3, opc_get', List.length_map, Hp.join_set, Hp.get_join, Option.some_or, u8_set, i64_set, getD_u8, i64_get]
 all_goals
  refine Qk hK [0, 3, 21] ?_
  clear hK K
  refine CI rfl (fun hc => ?_) (fun hc => ?_)
  ·
   all_goals try (cases hc; done)
   all_goals try simp only [push_cast] at hc
   all_goals try (exfalso; omega)
   all_goals
    refine WS.seq ?_
    refine A1 [2] (by decide) ?_
    refine Rt ?_
    refine hQ0 _ _ _ ?_
    try simp (maxSteps := 4000000) only [push_cast, Int.reduceToNat, Int.reduceLT, Int.reduceLE, Int.reduceAdd, Int.reduceSub, Int.reduceMul, Int.reduceNeg, Int.reduceEq, reduceCtorEq, Nat.reduceLeDiff, Nat.reduceLT, Nat.reduceEqDiff, Nat.reduceAdd, Nat.reduceMul, Nat.reduceSub, Int.cast_ofNat_Int, and1, and3, opc_get', List.length_map, Hp.join_set, Hp.get_join, Option.some_or, u8_set, i64_set, getD_u8, i64_get]
    first | done | rfl | (simp; done) | (simp_all; done) | (simp_all; omega)
  all_goals try (cases hc; done)
  all_goals try simp only [push_cast] at hc
  all_goals try (exfalso; omega)
  all_goals
   refine Sk ?_
   refine WS.seq ?_
   refine R0 fun K hK => ?_
   try simp (maxSteps := 4000000) (disch := omega) only [push_cast, Nat.reduceLT, Nat.reduceEqDiff, Hp.get_set, and1, and3, opc_get', List.length_map, Hp.join_set, Hp.get_join, Option.some_or, u8_set, i64_set, getD_u8, i64_get]
   refine fun ga hga => ?_
   try simp only [Hp.set_none, Hp.join_none_iff] at hga
   try simp (maxSteps := 4000000) (disch := omega) only [push_cast, Nat.reduceLT, Nat.reduceEqDiff, Hp.get_set, and1, and3, opc_get', List.length_map, Hp.join_set, Hp.get_join, Option.some_or, u8_set, i64_set, getD_u8, i64_get, hga]
   refine Qk hK [0, 3, 5] ?_
   clear hK K
   refine WS.seq ?_
   refine R0 fun K hK => ?_
   try simp (maxSteps := 4000000) (disch := omega) only [push_cast, Nat.reduceLT, Nat.reduceEqDiff, Hp.get_set, and1, and3, opc_get', List.length_map, Hp.join_set, Hp.get_join, Option.some_or, u8_set, i64_set, getD_u8, i64_get, hga]
   refine fun gb hgb => ?_
   try simp only [Hp.set_none, Hp.join_none_iff] at hgb
   try simp (maxSteps := 4000000) (disch := omega) only [push_cast, Nat.reduceLT, Nat.reduceEqDiff, Hp.get_set, and1, and3, opc_get', List.length_map, Hp.join_set, Hp.get_join, Option.some_or, u8_set, i64_set, getD_u8, i64_get, hga, hgb]
   refine Qk hK [0, 3, 5, 6] ?_
   clear hK K
   have hj0 : Disj τ ((Hp.empty.set ga (.cells ((List.replicate 8 (0 : UInt8)).map u8))).set gb (.cells (([0, 0] : List Int).map i64v))) := (Disj.new hga).set hgb.2.2 _
   have hje : (τ.set ga (.cells ((List.replicate 8 (0 : UInt8)).map u8))).set gb (.cells (([0, 0] : List Int).map i64v)) = τ.join ((Hp.empty.set ga (.cells ((List.replicate 8 (0 : UInt8)).map u8))).set gb (.cells (([0, 0] : List Int).map i64v))) := by rw [Hp.set_join τ, Hp.join_set]
   change WS _ _ _ _ _ ((τ.set ga (.cells ((List.replicate 8 (0 : UInt8)).map u8))).set gb (.cells (([0, 0] : List Int).map i64v)))
   rw [hje]
   clear hje
   have la : ((Hp.empty.set ga (.cells ((List.replicate 8 (0 : UInt8)).map u8))).set gb (.cells (([0, 0] : List Int).map i64v))).get ga = some (.cells ((List.replicate 8 (0 : UInt8)).map u8)) := by simp only [Hp.get_set, hgb, if_true, if_false]
   have lb : ((Hp.empty.set ga (.cells ((List.replicate 8 (0 : UInt8)).map u8))).set gb (.cells (([0, 0] : List Int).map i64v))).get gb = some (.cells (([0, 0] : List Int).map i64v)) := by simp only [Hp.get_set, if_true]
   generalize (Hp.empty.set ga (.cells ((List.replicate 8 (0 : UInt8)).map u8))).set gb (.cells (([0, 0] : List Int).map i64v)) = τl at *
   have hab : (ga = gb) = False ∧ (gb = ga) = False := ⟨hgb.2.1, hgb.1⟩
   refine WS.seq (WS.seq ?_)
   refine A1 [0, 3, 5, 6, 7] (by decide) ?_
   refine Bk fun K0 hK0 => ?_
   refine WS_keep [0, 3, 5, 6, 7] _ ?_
   refine Lp (fun m env σ' => ∃ (i : Nat) (σd τl : Hp) (D : Disk) (tab : List UInt8) (z : List Int), m = ops.length - i ∧ env = [(0, .sl 6 (ops.map opV) .no), (3, .ptr d 0), (5, .ptr ga 0), (6, .ptr gb 0), (7, .int .i64 i)] ∧ σ' = σd.join τl ∧ (i ≤ ops.length ∧ i ≤ 100 ∧ DiskAt D d σd ∧ Disj σd τl ∧ τl.get ga = some (.cells (tab.map u8)) ∧ τl.get gb = some (.cells (z.map i64v)) ∧ Sh D tab z i)) ?_ ?_
   · refine ⟨_, 0, τ, τl, Disk.new 20, List.replicate 8 0, [0, 0],  rfl, ?_, ?_, ?_⟩
     · (try simp (disch := omega) only [push_cast, Int.reduceToNat, Int.reduceLT, Int.reduceLE, Int.reduceAdd, Int.reduceSub, Int.reduceMul, Int.reduceNeg, Int.reduceEq, reduceCtorEq, Nat.reduceLeDiff, Nat.reduceLT, Nat.reduceEqDiff, Nat.reduceAdd, Nat.reduceMul, Nat.reduceSub, Int.cast_ofNat_Int, and1, and3, opc_get', List.length_map, Hp.join_set, Hp.get_join, Option.some_or, u8_set, i64_set, getD_u8, i64_get, hga, hgb]) <;> (first | done | rfl | (simp; done) | (simp; omega) | omega | (simp_all; done) | (simp_all; omega))
     · first | rfl | (try simp (disch := omega) only [push_cast, Int.reduceToNat, Int.reduceLT, Int.reduceLE, Int.reduceAdd, Int.reduceSub, Int.reduceMul, Int.reduceNeg, Int.reduceEq, reduceCtorEq, Nat.reduceLeDiff, Nat.reduceLT, Nat.reduceEqDiff, Nat.reduceAdd, Nat.reduceMul, Nat.reduceSub, Int.cast_ofNat_Int, and1, and3, opc_get', List.length_map, Hp.join_set, Hp.get_join, Option.some_or, u8_set, i64_set, getD_u8, i64_get, hga, hgb]) <;> (first | done | rfl | (simp; done) | (simp; omega) | omega | (simp_all; done) | (simp_all; omega))
     · exact ⟨by omega, by omega, hD, hj0, la, lb, Sh.new⟩
   intro m env σ' hJ M0 hM0
   obtain ⟨i, σd, τl, D, tab, z, rfl, rfl, rfl, hi, hi1, hD, hj, la, lb, hS⟩ := hJ
   have hlt := hS.lt
   have hlz := hS.lz
   refine WS.seq (WS.seq ?_)
   refine R0 fun K hK => ?_
   try simp (maxSteps := 4000000) (disch := omega) only [push_cast, Nat.reduceLT, Nat.reduceEqDiff, Int.reduceToNat, Int.reduceLT, Int.reduceLE, Int.reduceAdd, Int.reduceSub, Int.reduceMul, Int.reduceNeg, Int.reduceEq, reduceCtorEq, Int.cast_ofNat_Int, Hp.get_set, and1, and3, opc_get', List.length_map, Hp.join_set, Hp.get_join, Option.some_or, u8_set, i64_set, getD_u8, i64_get, hga, hgb, la, lb]
   all_goals try (first | refine guardT 26 rfl (fun hc => ?_) (fun hc => ?_) | refine guardF 26 rfl (fun hc => ?_) (fun hc => ?_)) <;> try simp only [push_cast] at hc
   all_goals try (exfalso; omega)
   all_goals try simp (maxSteps := 4000000) (disch := omega) only [push_cast, Nat.reduceLT, Nat.reduceEqDiff, Int.reduceToNat, Int.reduceLT, Int.reduceLE, Int.reduceAdd, Int.reduceSub, Int.reduceMul, Int.reduceNeg, Int.reduceEq, reduceCtorEq, Int.cast_ofNat_Int, Hp.get_set, and1, and3, opc_get', List.length_map, Hp.join_set, Hp.get_join, Option.some_or, u8_set, i64_set, getD_u8, i64_get, hga, hgb, la, lb]
   all_goals
    refine Qk hK [0, 3, 5, 6, 7, 29] ?_
    clear hK K
    refine CI rfl (fun hc => ?_) (fun hc => ?_)
    rotate_left
    ·
     all_goals try (cases hc; done)
     all_goals try simp only [push_cast] at hc
     all_goals try (exfalso; omega)
     all_goals
      refine Ex ?_
      simp only [push_cast, WS, Nat.reduceEqDiff]
      refine hK0 _ _ ?_
      clear hK0
      try clear K0
      refine WS_keep [] _ ?_
      refine WS.seq ?_
      refine R0 fun K hK => ?_
      try simp (maxSteps := 4000000) (disch := omega) only [push_cast, Nat.reduceLT, Nat.reduceEqDiff, Hp.get_set, and1, and3, opc_get', List.length_map, Hp.join_set, Hp.get_join, Option.some_or, u8_set, i64_set, getD_u8, i64_get, hga, hgb, la, lb]
      refine callP (alive_spec ) rfl ?_
      try simp (maxSteps := 4000000) (disch := omega) only [push_cast, Nat.reduceLT, Nat.reduceEqDiff, Hp.get_set, and1, and3, opc_get', List.length_map, Hp.join_set, Hp.get_join, Option.some_or, u8_set, i64_set, getD_u8, i64_get, hga, hgb, la, lb]
      refine Qk hK [2] ?_
      clear hK K
      refine Rt ?_
      refine hQ0 _ _ _ ?_
      try simp (maxSteps := 4000000) only [push_cast, Int.reduceToNat, Int.reduceLT, Int.reduceLE, Int.reduceAdd, Int.reduceSub, Int.reduceMul, Int.reduceNeg, Int.reduceEq, reduceCtorEq, Nat.reduceLeDiff, Nat.reduceLT, Nat.reduceEqDiff, Nat.reduceAdd, Nat.reduceMul, Nat.reduceSub, Int.cast_ofNat_Int, and1, and3, opc_get', List.length_map, Hp.join_set, Hp.get_join, Option.some_or, u8_set, i64_set, getD_u8, i64_get, hga, hgb, la, lb]
      first | done | rfl | (simp; done) | (simp_all; done) | (simp_all; omega)
    all_goals try (cases hc; done)
    all_goals try simp only [push_cast] at hc
    all_goals try (exfalso; omega)
    all_goals
     have hf2 := lowN_lt (oat ops i).file (m := 2) (by omega)
     have hs4 := lowN_lt (oat ops i).sector (m := 4) (by omega)
     refine Sk ?_
     refine WS.seq ?_
     refine Bk fun K1 hK1 => ?_
     refine WS.seq ?_
     refine RD [] [] fo (by kernel_rfl) fun K hK => ?_
     try simp (maxSteps := 4000000) (disch := omega) only [push_cast, Nat.reduceLT, Nat.reduceEqDiff, Nat.reduceAdd, Nat.reduceMul, Nat.reduceSub, Nat.reduceLeDiff, Int.reduceToNat, Int.reduceLT, Int.reduceLE, Int.reduceAdd, Int.reduceSub, Int.reduceMul, Int.reduceNeg, Int.reduceEq, reduceCtorEq, Int.cast_ofNat_Int, Hp.get_set, and1, and3, opc_get', List.length_map, Hp.join_set, Hp.get_join, Option.some_or, u8_set, i64_set, getD_u8, i64_get, hga, hgb, la, lb]
     (repeat refine And.intro (by first | omega | (simp; done) | (simp_all; done) | (simp_all; omega)) ?_)
     refine Qk hK [0, 3, 5, 6, 7, 8, 9] ?_
     clear hK K
     refine WS.seq (WS.seq ?_)
     refine R0 fun K hK => ?_
     try simp (maxSteps := 4000000) (disch := omega) only [push_cast, Nat.reduceLT, Nat.reduceEqDiff, Nat.reduceAdd, Nat.reduceMul, Nat.reduceSub, Nat.reduceLeDiff, Int.reduceToNat, Int.reduceLT, Int.reduceLE, Int.reduceAdd, Int.reduceSub, Int.reduceMul, Int.reduceNeg, Int.reduceEq, reduceCtorEq, Int.cast_ofNat_Int, Hp.get_set, and1, and3, opc_get', List.length_map, Hp.join_set, Hp.get_join, Option.some_or, u8_set, i64_set, getD_u8, i64_get, hga, hgb, la, lb]
     (repeat refine And.intro (by first | omega | (simp; done) | (simp_all; done) | (simp_all; omega)) ?_)
     refine Qk hK [0, 3, 5, 6, 7, 8, 9, 49] ?_
     clear hK K
     refine CI rfl (fun hc => ?_) (fun hc => ?_)
     ·
      all_goals try (cases hc; done)
      all_goals try simp only [push_cast] at hc
      all_goals try (exfalso; omega)
      all_goals
       refine WS.seq (WS.seq ?_)
       refine R0 fun K hK => ?_
       try simp (maxSteps := 4000000) (disch := omega) only [push_cast, Nat.reduceLT, Nat.reduceEqDiff, Nat.reduceAdd, Nat.reduceMul, Nat.reduceSub, Nat.reduceLeDiff, Int.reduceToNat, Int.reduceLT, Int.reduceLE, Int.reduceAdd, Int.reduceSub, Int.reduceMul, Int.reduceNeg, Int.reduceEq, reduceCtorEq, Int.cast_ofNat_Int, Hp.get_set, and1, and3, opc_get', List.length_map, Hp.join_set, Hp.get_join, Option.some_or, u8_set, i64_set, getD_u8, i64_get, hga, hgb, la, lb]
       (repeat refine And.intro (by first | omega | (simp; done) | (simp_all; done) | (simp_all; omega)) ?_)
       refine callP (full_spec _ 0) rfl ?_
       try simp (maxSteps := 4000000) (disch := omega) only [push_cast, Nat.reduceLT, Nat.reduceEqDiff, Nat.reduceAdd, Nat.reduceMul, Nat.reduceSub, Nat.reduceLeDiff, Int.reduceToNat, Int.reduceLT, Int.reduceLE, Int.reduceAdd, Int.reduceSub, Int.reduceMul, Int.reduceNeg, Int.reduceEq, reduceCtorEq, Int.cast_ofNat_Int, Hp.get_set, and1, and3, opc_get', List.length_map, Hp.join_set, Hp.get_join, Option.some_or, u8_set, i64_set, getD_u8, i64_get, hga, hgb, la, lb]
       (repeat refine And.intro (by first | omega | (simp; done) | (simp_all; done) | (simp_all; omega)) ?_)
       refine callF (write_spec (D := D) _ _ (fullB (oat ops i).by_ 0) hS.ok (by simp [fullB, fsz]) (by have := hS.w; omega) hD) hj (fun v σ2 h hj2 => ?_)
       obtain ⟨rfl, hD2⟩ := h
       obtain ⟨hwe, hwd⟩ := hS.wE hf2 hs4 (oat ops i).by_
       rw [hwe]
       rw [hwd] at hD2
       try simp (maxSteps := 4000000) (disch := omega) only [push_cast, Nat.reduceLT, Nat.reduceEqDiff, Nat.reduceAdd, Nat.reduceMul, Nat.reduceSub, Nat.reduceLeDiff, Int.reduceToNat, Int.reduceLT, Int.reduceLE, Int.reduceAdd, Int.reduceSub, Int.reduceMul, Int.reduceNeg, Int.reduceEq, reduceCtorEq, Int.cast_ofNat_Int, Hp.get_set, and1, and3, opc_get', List.length_map, Hp.join_set, Hp.get_join, Option.some_or, u8_set, i64_set, getD_u8, i64_get, hga, hgb, la, lb]
       (repeat refine And.intro (by first | omega | (simp; done) | (simp_all; done) | (simp_all; omega)) ?_)
       refine Qk hK [0, 3, 5, 6, 7, 8, 9, 60] ?_
       clear hK K
       refine CI rfl (fun hc => ?_) (fun hc => ?_)
       ·
        all_goals try (cases hc; done)
        all_goals try simp only [push_cast] at hc
        all_goals try (exfalso; omega)
        all_goals
         refine WS.seq ?_
         refine A1 [2] (by decide) ?_
         refine Rt ?_
         simp only [push_cast]
         refine hQ0 _ _ _ ?_
         try simp (maxSteps := 4000000) only [push_cast, Int.reduceToNat, Int.reduceLT, Int.reduceLE, Int.reduceAdd, Int.reduceSub, Int.reduceMul, Int.reduceNeg, Int.reduceEq, reduceCtorEq, Nat.reduceLeDiff, Nat.reduceLT, Nat.reduceEqDiff, Nat.reduceAdd, Nat.reduceMul, Nat.reduceSub, Int.cast_ofNat_Int, and1, and3, opc_get', List.length_map, Hp.join_set, Hp.get_join, Option.some_or, u8_set, i64_set, getD_u8, i64_get, hga, hgb, la, lb]
         first | done | rfl | (simp; done) | (simp_all; done) | (simp_all; omega)
       all_goals try (cases hc; done)
       all_goals try simp only [push_cast] at hc
       all_goals try (exfalso; omega)
       all_goals
        refine Sk ?_
        refine WS.seq ?_
        refine RD [] [] fo (by kernel_rfl) fun K hK => ?_
        try simp (maxSteps := 4000000) (disch := omega) only [push_cast, Nat.reduceLT, Nat.reduceEqDiff, Nat.reduceAdd, Nat.reduceMul, Nat.reduceSub, Nat.reduceLeDiff, Int.reduceToNat, Int.reduceLT, Int.reduceLE, Int.reduceAdd, Int.reduceSub, Int.reduceMul, Int.reduceNeg, Int.reduceEq, reduceCtorEq, Int.cast_ofNat_Int, Hp.get_set, and1, and3, opc_get', List.length_map, Hp.join_set, Hp.get_join, Option.some_or, u8_set, i64_set, getD_u8, i64_get, hga, hgb, la, lb]
        (repeat refine And.intro (by first | omega | (simp; done) | (simp_all; done) | (simp_all; omega)) ?_)
        refine Qk hK [0, 3, 5, 6, 7, 8, 9] ?_
        clear hK K
        refine WS.seq ?_
        refine R0 fun K hK => ?_
        try simp (maxSteps := 4000000) (disch := omega) only [push_cast, Nat.reduceLT, Nat.reduceEqDiff, Nat.reduceAdd, Nat.reduceMul, Nat.reduceSub, Nat.reduceLeDiff, Int.reduceToNat, Int.reduceLT, Int.reduceLE, Int.reduceAdd, Int.reduceSub, Int.reduceMul, Int.reduceNeg, Int.reduceEq, reduceCtorEq, Int.cast_ofNat_Int, Hp.get_set, and1, and3, opc_get', List.length_map, Hp.join_set, Hp.get_join, Option.some_or, u8_set, i64_set, getD_u8, i64_get, hga, hgb, la, lb]
        (repeat refine And.intro (by first | omega | (simp; done) | (simp_all; done) | (simp_all; omega)) ?_)
        refine Qk hK [0, 3, 5, 6, 7, 8, 9, 74] ?_
        clear hK K
        refine CI rfl (fun hc => ?_) (fun hc => ?_)
        ·
         all_goals try (cases hc; done)
         all_goals try simp only [push_cast] at hc
         all_goals try (exfalso; omega)
         all_goals
          refine R0 fun K hK => ?_
          try simp (maxSteps := 4000000) (disch := omega) only [push_cast, Nat.reduceLT, Nat.reduceEqDiff, Nat.reduceAdd, Nat.reduceMul, Nat.reduceSub, Nat.reduceLeDiff, Int.reduceToNat, Int.reduceLT, Int.reduceLE, Int.reduceAdd, Int.reduceSub, Int.reduceMul, Int.reduceNeg, Int.reduceEq, reduceCtorEq, Int.cast_ofNat_Int, Hp.get_set, and1, and3, opc_get', List.length_map, Hp.join_set, Hp.get_join, Option.some_or, u8_set, i64_set, getD_u8, i64_get, hga, hgb, la, lb]
          (repeat refine And.intro (by first | omega | (simp; done) | (simp_all; done) | (simp_all; omega)) ?_)
          refine Qk hK [0, 3, 5, 6, 7, 8, 9] ?_
          clear hK K
          refine WS.seq (WS.seq ?_)
          refine R0 fun K hK => ?_
          try simp (maxSteps := 4000000) (disch := omega) only [push_cast, Nat.reduceLT, Nat.reduceEqDiff, Nat.reduceAdd, Nat.reduceMul, Nat.reduceSub, Nat.reduceLeDiff, Int.reduceToNat, Int.reduceLT, Int.reduceLE, Int.reduceAdd, Int.reduceSub, Int.reduceMul, Int.reduceNeg, Int.reduceEq, reduceCtorEq, Int.cast_ofNat_Int, Hp.get_set, and1, and3, opc_get', List.length_map, Hp.join_set, Hp.get_join, Option.some_or, u8_set, i64_set, getD_u8, i64_get, hga, hgb, la, lb]
          (repeat refine And.intro (by first | omega | (simp; done) | (simp_all; done) | (simp_all; omega)) ?_)
          refine Qk hK [0, 3, 5, 6, 7, 8, 9, 84] ?_
          clear hK K
          refine CI rfl (fun hc => ?_) (fun hc => ?_)
          ·
           all_goals try (cases hc; done)
           all_goals try simp only [push_cast] at hc
           all_goals try (exfalso; omega)
           all_goals
            refine R0 fun K hK => ?_
            try simp (maxSteps := 4000000) (disch := omega) only [push_cast, Nat.reduceLT, Nat.reduceEqDiff, Hp.get_set, and1, and3, opc_get', List.length_map, Hp.join_set, Hp.get_join, Option.some_or, u8_set, i64_set, getD_u8, i64_get, hga, hgb, la, lb]
            refine callF (sync_spec (D := D) _ (by have := hS.w; omega) hD) hj (fun v σ2 h hj2 => ?_)
            obtain ⟨rfl, hD2⟩ := h
            obtain ⟨hse, hS2⟩ := hS.sync hf2
            try simp (maxSteps := 4000000) (disch := omega) only [push_cast, Nat.reduceLT, Nat.reduceEqDiff, Hp.get_set, and1, and3, opc_get', List.length_map, Hp.join_set, Hp.get_join, Option.some_or, u8_set, i64_set, getD_u8, i64_get, hga, hgb, la, lb]
            refine Qk hK [0, 3, 5, 6, 7, 8, 9] ?_
            clear hK K
            refine WS.seq ?_
            refine S_any (d := d) (ga := ga) (gb := gb) (i := i + 1) (by
              first
              | exact ⟨σ2, _, _, _, _, rfl, hD2, (hj2.upd la).upd (by simp only [Hp.get_set, hab, if_false]; exact lb), by simp only [Hp.get_set, hab, if_true, if_false], by simp only [Hp.get_set, if_true], hS.put hf2 hs4 (oat ops i).by_ (z' := z.set (lowN (oat ops i).file 2) ((lowN (oat ops i).sector 4 : Nat) + 1)) (by rw [if_pos (by omega)])⟩
              | exact ⟨σ2, _, _, _, _, rfl, hD2, hj2.upd la, by simp only [Hp.get_set, if_true], by simp only [Hp.get_set, hab, if_false]; exact lb, hS.put hf2 hs4 (oat ops i).by_ (z' := z) (by rw [if_neg (by omega)]; exact set_self _ _ (by omega))⟩
              | exact ⟨σ2, _, _, _, _, rfl, hD2, hj2, la, lb, hS2.up⟩
              | exact ⟨σd, _, _, _, _, rfl, hD, hj, la, lb, hS.up⟩) (fun σd τl D tab z hD hj la lb hS => ?_)
            have hlt := hS.lt
            have hlz := hS.lz
            have hle := hS.len hf2
            rcases hS.read hf2 hs4 with ⟨hlt2, hE1, hV1⟩ | ⟨hlt2, hE1, hV1⟩
            all_goals
             refine R0 fun K hK => ?_
             try simp (maxSteps := 4000000) (disch := omega) only [push_cast, Nat.reduceLT, Nat.reduceEqDiff, Nat.reduceAdd, Nat.reduceMul, Nat.reduceSub, Nat.reduceLeDiff, Hp.get_set, and1, and3, opc_get', List.length_map, Hp.join_set, Hp.get_join, Option.some_or, u8_set, i64_set, getD_u8, i64_get, hga, hgb, la, lb, hE1, hV1, hle, hlt2, row, all_u8]
             refine callS (read_spec (D := D) _ _ hS.ok (hD.mono (HSub.join_left hj))) (fun v τ2 h => ?_)
             obtain ⟨rfl, rfl⟩ := h
             try simp (maxSteps := 4000000) (disch := omega) only [push_cast, Nat.reduceLT, Nat.reduceEqDiff, Nat.reduceAdd, Nat.reduceMul, Nat.reduceSub, Nat.reduceLeDiff, Hp.get_set, and1, and3, opc_get', List.length_map, Hp.join_set, Hp.get_join, Option.some_or, u8_set, i64_set, getD_u8, i64_get, hga, hgb, la, lb, hE1, hV1, hle, hlt2, row, all_u8]
             refine Qk hK [0, 3, 5, 6, 7, 8, 9, 10, 11] ?_
             clear hK K
             refine WS.seq ?_
             refine RD [] [28, 1000031] fo (by kernel_rfl) fun K hK => ?_
             try simp (maxSteps := 4000000) (disch := omega) only [push_cast, Nat.reduceLT, Nat.reduceEqDiff, Nat.reduceAdd, Nat.reduceMul, Nat.reduceSub, Nat.reduceLeDiff, Int.reduceToNat, Int.reduceLT, Int.reduceLE, Int.reduceAdd, Int.reduceSub, Int.reduceMul, Int.reduceNeg, Int.reduceEq, reduceCtorEq, Int.cast_ofNat_Int, Hp.get_set, and1, and3, opc_get', List.length_map, Hp.join_set, Hp.get_join, Option.some_or, u8_set, i64_set, getD_u8, i64_get, hga, hgb, la, lb, hE1, hV1, hle, hlt2, row, all_u8]
             (repeat refine And.intro (by first | omega | (simp; done) | (simp_all; done) | (simp_all; omega)) ?_)
             try simp (maxSteps := 4000000) (disch := omega) only [push_cast, Nat.reduceLT, Nat.reduceEqDiff, Nat.reduceAdd, Nat.reduceMul, Nat.reduceSub, Nat.reduceLeDiff, Int.reduceToNat, Int.reduceLT, Int.reduceLE, Int.reduceAdd, Int.reduceSub, Int.reduceMul, Int.reduceNeg, Int.reduceEq, reduceCtorEq, Int.cast_ofNat_Int, Hp.get_set, and1, and3, opc_get', List.length_map, Hp.join_set, Hp.get_join, Option.some_or, u8_set, i64_set, getD_u8, i64_get, hga, hgb, la, lb, hE1, hV1, hle, hlt2, row, all_u8]
             (repeat refine And.intro (by first | omega | (simp; done) | (simp_all; done) | (simp_all; omega)) ?_)
             refine callR ((len_R _ hD).sub (HSub.join_left hj)) rfl ?_
             try simp (maxSteps := 4000000) (disch := omega) only [push_cast, Nat.reduceLT, Nat.reduceEqDiff, Nat.reduceAdd, Nat.reduceMul, Nat.reduceSub, Nat.reduceLeDiff, Int.reduceToNat, Int.reduceLT, Int.reduceLE, Int.reduceAdd, Int.reduceSub, Int.reduceMul, Int.reduceNeg, Int.reduceEq, reduceCtorEq, Int.cast_ofNat_Int, Hp.get_set, and1, and3, opc_get', List.length_map, Hp.join_set, Hp.get_join, Option.some_or, u8_set, i64_set, getD_u8, i64_get, hga, hgb, la, lb, hE1, hV1, hle, hlt2, row, all_u8]
             (repeat refine And.intro (by first | omega | (simp; done) | (simp_all; done) | (simp_all; omega)) ?_)
             try simp (maxSteps := 4000000) (disch := omega) only [push_cast, Nat.reduceLT, Nat.reduceEqDiff, Nat.reduceAdd, Nat.reduceMul, Nat.reduceSub, Nat.reduceLeDiff, Int.reduceToNat, Int.reduceLT, Int.reduceLE, Int.reduceAdd, Int.reduceSub, Int.reduceMul, Int.reduceNeg, Int.reduceEq, reduceCtorEq, Int.cast_ofNat_Int, Hp.get_set, and1, and3, opc_get', List.length_map, Hp.join_set, Hp.get_join, Option.some_or, u8_set, i64_set, getD_u8, i64_get, hga, hgb, la, lb, hE1, hV1, hle, hlt2, row, all_u8]
             (repeat refine And.intro (by first | omega | (simp; done) | (simp_all; done) | (simp_all; omega)) ?_)
             all_goals try (first | refine guardT 102 rfl (fun hc => ?_) (fun hc => ?_) | refine guardF 102 rfl (fun hc => ?_) (fun hc => ?_)) <;> try simp only [push_cast] at hc
             all_goals try (exfalso; omega)
             all_goals try simp (maxSteps := 4000000) (disch := omega) only [push_cast, Nat.reduceLT, Nat.reduceEqDiff, Nat.reduceAdd, Nat.reduceMul, Nat.reduceSub, Nat.reduceLeDiff, Int.reduceToNat, Int.reduceLT, Int.reduceLE, Int.reduceAdd, Int.reduceSub, Int.reduceMul, Int.reduceNeg, Int.reduceEq, reduceCtorEq, Int.cast_ofNat_Int, Hp.get_set, and1, and3, opc_get', List.length_map, Hp.join_set, Hp.get_join, Option.some_or, u8_set, i64_set, getD_u8, i64_get, hga, hgb, la, lb, hE1, hV1, hle, hlt2, row, all_u8]
             all_goals (repeat refine And.intro (by first | omega | (simp; done) | (simp_all; done) | (simp_all; omega)) ?_)
             all_goals try simp (maxSteps := 4000000) (disch := omega) only [push_cast, Nat.reduceLT, Nat.reduceEqDiff, Nat.reduceAdd, Nat.reduceMul, Nat.reduceSub, Nat.reduceLeDiff, Int.reduceToNat, Int.reduceLT, Int.reduceLE, Int.reduceAdd, Int.reduceSub, Int.reduceMul, Int.reduceNeg, Int.reduceEq, reduceCtorEq, Int.cast_ofNat_Int, Hp.get_set, and1, and3, opc_get', List.length_map, Hp.join_set, Hp.get_join, Option.some_or, u8_set, i64_set, getD_u8, i64_get, hga, hgb, la, lb, hE1, hV1, hle, hlt2, row, all_u8]
             all_goals (repeat refine And.intro (by first | omega | (simp; done) | (simp_all; done) | (simp_all; omega)) ?_)
             all_goals try (first | refine guardT 112 rfl (fun hc => ?_) (fun hc => ?_) | refine guardF 112 rfl (fun hc => ?_) (fun hc => ?_)) <;> try simp only [push_cast] at hc
             all_goals try (exfalso; omega)
             all_goals try simp (maxSteps := 4000000) (disch := omega) only [push_cast, Nat.reduceLT, Nat.reduceEqDiff, Nat.reduceAdd, Nat.reduceMul, Nat.reduceSub, Nat.reduceLeDiff, Int.reduceToNat, Int.reduceLT, Int.reduceLE, Int.reduceAdd, Int.reduceSub, Int.reduceMul, Int.reduceNeg, Int.reduceEq, reduceCtorEq, Int.cast_ofNat_Int, Hp.get_set, and1, and3, opc_get', List.length_map, Hp.join_set, Hp.get_join, Option.some_or, u8_set, i64_set, getD_u8, i64_get, hga, hgb, la, lb, hE1, hV1, hle, hlt2, row, all_u8]
             all_goals (repeat refine And.intro (by first | omega | (simp; done) | (simp_all; done) | (simp_all; omega)) ?_)
             all_goals try simp (maxSteps := 4000000) (disch := omega) only [push_cast, Nat.reduceLT, Nat.reduceEqDiff, Nat.reduceAdd, Nat.reduceMul, Nat.reduceSub, Nat.reduceLeDiff, Int.reduceToNat, Int.reduceLT, Int.reduceLE, Int.reduceAdd, Int.reduceSub, Int.reduceMul, Int.reduceNeg, Int.reduceEq, reduceCtorEq, Int.cast_ofNat_Int, Hp.get_set, and1, and3, opc_get', List.length_map, Hp.join_set, Hp.get_join, Option.some_or, u8_set, i64_set, getD_u8, i64_get, hga, hgb, la, lb, hE1, hV1, hle, hlt2, row, all_u8]
             all_goals (repeat refine And.intro (by first | omega | (simp; done) | (simp_all; done) | (simp_all; omega)) ?_)
             all_goals try (first | refine guardT 115 rfl (fun hc => ?_) (fun hc => ?_) | refine guardF 115 rfl (fun hc => ?_) (fun hc => ?_)) <;> try simp only [push_cast] at hc
             all_goals try (exfalso; omega)
             all_goals try simp (maxSteps := 4000000) (disch := omega) only [push_cast, Nat.reduceLT, Nat.reduceEqDiff, Nat.reduceAdd, Nat.reduceMul, Nat.reduceSub, Nat.reduceLeDiff, Int.reduceToNat, Int.reduceLT, Int.reduceLE, Int.reduceAdd, Int.reduceSub, Int.reduceMul, Int.reduceNeg, Int.reduceEq, reduceCtorEq, Int.cast_ofNat_Int, Hp.get_set, and1, and3, opc_get', List.length_map, Hp.join_set, Hp.get_join, Option.some_or, u8_set, i64_set, getD_u8, i64_get, hga, hgb, la, lb, hE1, hV1, hle, hlt2, row, all_u8]
             all_goals (repeat refine And.intro (by first | omega | (simp; done) | (simp_all; done) | (simp_all; omega)) ?_)
             all_goals try simp (maxSteps := 4000000) (disch := omega) only [push_cast, Nat.reduceLT, Nat.reduceEqDiff, Nat.reduceAdd, Nat.reduceMul, Nat.reduceSub, Nat.reduceLeDiff, Int.reduceToNat, Int.reduceLT, Int.reduceLE, Int.reduceAdd, Int.reduceSub, Int.reduceMul, Int.reduceNeg, Int.reduceEq, reduceCtorEq, Int.cast_ofNat_Int, Hp.get_set, and1, and3, opc_get', List.length_map, Hp.join_set, Hp.get_join, Option.some_or, u8_set, i64_set, getD_u8, i64_get, hga, hgb, la, lb, hE1, hV1, hle, hlt2, row, all_u8]
             all_goals (repeat refine And.intro (by first | omega | (simp; done) | (simp_all; done) | (simp_all; omega)) ?_)
             all_goals try (
               refine callP (full_spec _ 0) rfl ?_)
             all_goals try simp (maxSteps := 4000000) (disch := omega) only [push_cast, Nat.reduceLT, Nat.reduceEqDiff, Nat.reduceAdd, Nat.reduceMul, Nat.reduceSub, Nat.reduceLeDiff, Int.reduceToNat, Int.reduceLT, Int.reduceLE, Int.reduceAdd, Int.reduceSub, Int.reduceMul, Int.reduceNeg, Int.reduceEq, reduceCtorEq, Int.cast_ofNat_Int, Hp.get_set, and1, and3, opc_get', List.length_map, Hp.join_set, Hp.get_join, Option.some_or, u8_set, i64_set, getD_u8, i64_get, hga, hgb, la, lb, hE1, hV1, hle, hlt2, row, all_u8]
             all_goals (repeat refine And.intro (by first | omega | (simp; done) | (simp_all; done) | (simp_all; omega)) ?_)
             all_goals try simp (maxSteps := 4000000) (disch := omega) only [push_cast, Nat.reduceLT, Nat.reduceEqDiff, Nat.reduceAdd, Nat.reduceMul, Nat.reduceSub, Nat.reduceLeDiff, Int.reduceToNat, Int.reduceLT, Int.reduceLE, Int.reduceAdd, Int.reduceSub, Int.reduceMul, Int.reduceNeg, Int.reduceEq, reduceCtorEq, Int.cast_ofNat_Int, Hp.get_set, and1, and3, opc_get', List.length_map, Hp.join_set, Hp.get_join, Option.some_or, u8_set, i64_set, getD_u8, i64_get, hga, hgb, la, lb, hE1, hV1, hle, hlt2, row, all_u8]
             all_goals (repeat refine And.intro (by first | omega | (simp; done) | (simp_all; done) | (simp_all; omega)) ?_)
             all_goals
              refine Qk hK [0, 3, 5, 6, 7, 127] ?_
              clear hK K
              refine CI rfl (fun hc => ?_) (fun hc => ?_)
              ·
               all_goals try (cases hc; done)
               all_goals try simp only [push_cast] at hc
               all_goals try (exfalso; omega)
               all_goals
                refine WS.seq ?_
                refine A1 [2] (by decide) ?_
                refine Rt ?_
                simp only [push_cast]
                refine hQ0 _ _ _ ?_
                try simp (maxSteps := 4000000) only [push_cast, Int.reduceToNat, Int.reduceLT, Int.reduceLE, Int.reduceAdd, Int.reduceSub, Int.reduceMul, Int.reduceNeg, Int.reduceEq, reduceCtorEq, Nat.reduceLeDiff, Nat.reduceLT, Nat.reduceEqDiff, Nat.reduceAdd, Nat.reduceMul, Nat.reduceSub, Int.cast_ofNat_Int, and1, and3, opc_get', List.length_map, Hp.join_set, Hp.get_join, Option.some_or, u8_set, i64_set, getD_u8, i64_get, hga, hgb, la, lb, hE1, hV1, hle, hlt2, row, all_u8]
                first | done | rfl | (simp; done) | (simp_all; done) | (simp_all; omega)
              all_goals try (cases hc; done)
              all_goals try simp only [push_cast] at hc
              all_goals try (exfalso; omega)
              all_goals
               refine Sk ?_
               simp only [push_cast, WS, Nat.reduceEqDiff]
               refine hK1 _ _ ?_
               clear hK1
               try clear K1
               refine WS_keep [0, 3, 5, 6, 7] _ ?_
               refine R0 fun K hK => ?_
               try simp (maxSteps := 4000000) (disch := omega) only [push_cast, Nat.reduceLT, Nat.reduceEqDiff, Int.reduceToNat, Int.reduceLT, Int.reduceLE, Int.reduceAdd, Int.reduceSub, Int.reduceMul, Int.reduceNeg, Int.reduceEq, reduceCtorEq, Int.cast_ofNat_Int, Hp.get_set, and1, and3, opc_get', List.length_map, Hp.join_set, Hp.get_join, Option.some_or, u8_set, i64_set, getD_u8, i64_get, hga, hgb, la, lb, hE1, hV1, hle, hlt2, row, all_u8]
               (repeat refine And.intro (by first | omega | (simp; done) | (simp_all; done) | (simp_all; omega)) ?_)
               refine Qk hK [0, 3, 5, 6, 7] ?_
               clear hK K
               refine Ag (hM0 _ _ ?_)
               refine ⟨_, ?_, i + 1, σd, τl, D, tab, z,  rfl, ?_, ?_, ?_⟩
               · first | omega | (simp; done) | (simp_all; done) | (simp_all; omega)
               · (try simp (disch := omega) only [push_cast, Int.reduceToNat, Int.reduceLT, Int.reduceLE, Int.reduceAdd, Int.reduceSub, Int.reduceMul, Int.reduceNeg, Int.reduceEq, reduceCtorEq, Nat.reduceLeDiff, Nat.reduceLT, Nat.reduceEqDiff, Nat.reduceAdd, Nat.reduceMul, Nat.reduceSub, Int.cast_ofNat_Int, and1, and3, opc_get', List.length_map, Hp.join_set, Hp.get_join, Option.some_or, u8_set, i64_set, getD_u8, i64_get, hga, hgb, la, lb, hE1, hV1, hle, hlt2, row, all_u8]) <;> (first | done | rfl | (simp; done) | (simp; omega) | omega | (simp_all; done) | (simp_all; omega))
               · first | rfl | (try simp (disch := omega) only [push_cast, Int.reduceToNat, Int.reduceLT, Int.reduceLE, Int.reduceAdd, Int.reduceSub, Int.reduceMul, Int.reduceNeg, Int.reduceEq, reduceCtorEq, Nat.reduceLeDiff, Nat.reduceLT, Nat.reduceEqDiff, Nat.reduceAdd, Nat.reduceMul, Nat.reduceSub, Int.cast_ofNat_Int, and1, and3, opc_get', List.length_map, Hp.join_set, Hp.get_join, Option.some_or, u8_set, i64_set, getD_u8, i64_get, hga, hgb, la, lb, hE1, hV1, hle, hlt2, row, all_u8]) <;> (first | done | rfl | (simp; done) | (simp; omega) | omega | (simp_all; done) | (simp_all; omega))
               · exact ⟨by omega, by omega, hD, hj, la, lb, hS⟩
          ·
           all_goals try (cases hc; done)
           all_goals try simp only [push_cast] at hc
           all_goals try (exfalso; omega)
           all_goals
            refine Sk ?_
            refine WS.seq ?_
            refine S_any (d := d) (ga := ga) (gb := gb) (i := i + 1) (by
              first
              | exact ⟨σ2, _, _, _, _, rfl, hD2, (hj2.upd la).upd (by simp only [Hp.get_set, hab, if_false]; exact lb), by simp only [Hp.get_set, hab, if_true, if_false], by simp only [Hp.get_set, if_true], hS.put hf2 hs4 (oat ops i).by_ (z' := z.set (lowN (oat ops i).file 2) ((lowN (oat ops i).sector 4 : Nat) + 1)) (by rw [if_pos (by omega)])⟩
              | exact ⟨σ2, _, _, _, _, rfl, hD2, hj2.upd la, by simp only [Hp.get_set, if_true], by simp only [Hp.get_set, hab, if_false]; exact lb, hS.put hf2 hs4 (oat ops i).by_ (z' := z) (by rw [if_neg (by omega)]; exact set_self _ _ (by omega))⟩
              | exact ⟨σ2, _, _, _, _, rfl, hD2, hj2, la, lb, hS2.up⟩
              | exact ⟨σd, _, _, _, _, rfl, hD, hj, la, lb, hS.up⟩) (fun σd τl D tab z hD hj la lb hS => ?_)
            have hlt := hS.lt
            have hlz := hS.lz
            have hle := hS.len hf2
            rcases hS.read hf2 hs4 with ⟨hlt2, hE1, hV1⟩ | ⟨hlt2, hE1, hV1⟩
            all_goals
             refine R0 fun K hK => ?_
             try simp (maxSteps := 4000000) (disch := omega) only [push_cast, Nat.reduceLT, Nat.reduceEqDiff, Nat.reduceAdd, Nat.reduceMul, Nat.reduceSub, Nat.reduceLeDiff, Hp.get_set, and1, and3, opc_get', List.length_map, Hp.join_set, Hp.get_join, Option.some_or, u8_set, i64_set, getD_u8, i64_get, hga, hgb, la, lb, hE1, hV1, hle, hlt2, row, all_u8]
             refine callS (read_spec (D := D) _ _ hS.ok (hD.mono (HSub.join_left hj))) (fun v τ2 h => ?_)
             obtain ⟨rfl, rfl⟩ := h
             try simp (maxSteps := 4000000) (disch := omega) only [push_cast, Nat.reduceLT, Nat.reduceEqDiff, Nat.reduceAdd, Nat.reduceMul, Nat.reduceSub, Nat.reduceLeDiff, Hp.get_set, and1, and3, opc_get', List.length_map, Hp.join_set, Hp.get_join, Option.some_or, u8_set, i64_set, getD_u8, i64_get, hga, hgb, la, lb, hE1, hV1, hle, hlt2, row, all_u8]
             refine Qk hK [0, 3, 5, 6, 7, 8, 9, 10, 11] ?_
             clear hK K
             refine WS.seq ?_
             refine RD [] [28, 1000031] fo (by kernel_rfl) fun K hK => ?_
             try simp (maxSteps := 4000000) (disch := omega) only [push_cast, Nat.reduceLT, Nat.reduceEqDiff, Nat.reduceAdd, Nat.reduceMul, Nat.reduceSub, Nat.reduceLeDiff, Int.reduceToNat, Int.reduceLT, Int.reduceLE, Int.reduceAdd, Int.reduceSub, Int.reduceMul, Int.reduceNeg, Int.reduceEq, reduceCtorEq, Int.cast_ofNat_Int, Hp.get_set, and1, and3, opc_get', List.length_map, Hp.join_set, Hp.get_join, Option.some_or, u8_set, i64_set, getD_u8, i64_get, hga, hgb, la, lb, hE1, hV1, hle, hlt2, row, all_u8]
             (repeat refine And.intro (by first | omega | (simp; done) | (simp_all; done) | (simp_all; omega)) ?_)
             try simp (maxSteps := 4000000) (disch := omega) only [push_cast, Nat.reduceLT, Nat.reduceEqDiff, Nat.reduceAdd, Nat.reduceMul, Nat.reduceSub, Nat.reduceLeDiff, Int.reduceToNat, Int.reduceLT, Int.reduceLE, Int.reduceAdd, Int.reduceSub, Int.reduceMul, Int.reduceNeg, Int.reduceEq, reduceCtorEq, Int.cast_ofNat_Int, Hp.get_set, and1, and3, opc_get', List.length_map, Hp.join_set, Hp.get_join, Option.some_or, u8_set, i64_set, getD_u8, i64_get, hga, hgb, la, lb, hE1, hV1, hle, hlt2, row, all_u8]
             (repeat refine And.intro (by first | omega | (simp; done) | (simp_all; done) | (simp_all; omega)) ?_)
             refine callR ((len_R _ hD).sub (HSub.join_left hj)) rfl ?_
             try simp (maxSteps := 4000000) (disch := omega) only [push_cast, Nat.reduceLT, Nat.reduceEqDiff, Nat.reduceAdd, Nat.reduceMul, Nat.reduceSub, Nat.reduceLeDiff, Int.reduceToNat, Int.reduceLT, Int.reduceLE, Int.reduceAdd, Int.reduceSub, Int.reduceMul, Int.reduceNeg, Int.reduceEq, reduceCtorEq, Int.cast_ofNat_Int, Hp.get_set, and1, and3, opc_get', List.length_map, Hp.join_set, Hp.get_join, Option.some_or, u8_set, i64_set, getD_u8, i64_get, hga, hgb, la, lb, hE1, hV1, hle, hlt2, row, all_u8]
             (repeat refine And.intro (by first | omega | (simp; done) | (simp_all; done) | (simp_all; omega)) ?_)
             try simp (maxSteps := 4000000) (disch := omega) only [push_cast, Nat.reduceLT, Nat.reduceEqDiff, Nat.reduceAdd, Nat.reduceMul, Nat.reduceSub, Nat.reduceLeDiff, Int.reduceToNat, Int.reduceLT, Int.reduceLE, Int.reduceAdd, Int.reduceSub, Int.reduceMul, Int.reduceNeg, Int.reduceEq, reduceCtorEq, Int.cast_ofNat_Int, Hp.get_set, and1, and3, opc_get', List.length_map, Hp.join_set, Hp.get_join, Option.some_or, u8_set, i64_set, getD_u8, i64_get, hga, hgb, la, lb, hE1, hV1, hle, hlt2, row, all_u8]
             (repeat refine And.intro (by first | omega | (simp; done) | (simp_all; done) | (simp_all; omega)) ?_)
             all_goals try (first | refine guardT 102 rfl (fun hc => ?_) (fun hc => ?_) | refine guardF 102 rfl (fun hc => ?_) (fun hc => ?_)) <;> try simp only [push_cast] at hc
             all_goals try (exfalso; omega)
             all_goals try simp (maxSteps := 4000000) (disch := omega) only [push_cast, Nat.reduceLT, Nat.reduceEqDiff, Nat.reduceAdd, Nat.reduceMul, Nat.reduceSub, Nat.reduceLeDiff, Int.reduceToNat, Int.reduceLT, Int.reduceLE, Int.reduceAdd, Int.reduceSub, Int.reduceMul, Int.reduceNeg, Int.reduceEq, reduceCtorEq, Int.cast_ofNat_Int, Hp.get_set, and1, and3, opc_get', List.length_map, Hp.join_set, Hp.get_join, Option.some_or, u8_set, i64_set, getD_u8, i64_get, hga, hgb, la, lb, hE1, hV1, hle, hlt2, row, all_u8]
             all_goals (repeat refine And.intro (by first | omega | (simp; done) | (simp_all; done) | (simp_all; omega)) ?_)
             all_goals try simp (maxSteps := 4000000) (disch := omega) only [push_cast, Nat.reduceLT, Nat.reduceEqDiff, Nat.reduceAdd, Nat.reduceMul, Nat.reduceSub, Nat.reduceLeDiff, Int.reduceToNat, Int.reduceLT, Int.reduceLE, Int.reduceAdd, Int.reduceSub, Int.reduceMul, Int.reduceNeg, Int.reduceEq, reduceCtorEq, Int.cast_ofNat_Int, Hp.get_set, and1, and3, opc_get', List.length_map, Hp.join_set, Hp.get_join, Option.some_or, u8_set, i64_set, getD_u8, i64_get, hga, hgb, la, lb, hE1, hV1, hle, hlt2, row, all_u8]
             all_goals (repeat refine And.intro (by first | omega | (simp; done) | (simp_all; done) | (simp_all; omega)) ?_)
             all_goals try (first | refine guardT 112 rfl (fun hc => ?_) (fun hc => ?_) | refine guardF 112 rfl (fun hc => ?_) (fun hc => ?_)) <;> try simp only [push_cast] at hc
             all_goals try (exfalso; omega)
             all_goals try simp (maxSteps := 4000000) (disch := omega) only [push_cast, Nat.reduceLT, Nat.reduceEqDiff, Nat.reduceAdd, Nat.reduceMul, Nat.reduceSub, Nat.reduceLeDiff, Int.reduceToNat, Int.reduceLT, Int.reduceLE, Int.reduceAdd, Int.reduceSub, Int.reduceMul, Int.reduceNeg, Int.reduceEq, reduceCtorEq, Int.cast_ofNat_Int, Hp.get_set, and1, and3, opc_get', List.length_map, Hp.join_set, Hp.get_join, Option.some_or, u8_set, i64_set, getD_u8, i64_get, hga, hgb, la, lb, hE1, hV1, hle, hlt2, row, all_u8]
             all_goals (repeat refine And.intro (by first | omega | (simp; done) | (simp_all; done) | (simp_all; omega)) ?_)
             all_goals try simp (maxSteps := 4000000) (disch := omega) only [push_cast, Nat.reduceLT, Nat.reduceEqDiff, Nat.reduceAdd, Nat.reduceMul, Nat.reduceSub, Nat.reduceLeDiff, Int.reduceToNat, Int.reduceLT, Int.reduceLE, Int.reduceAdd, Int.reduceSub, Int.reduceMul, Int.reduceNeg, Int.reduceEq, reduceCtorEq, Int.cast_ofNat_Int, Hp.get_set, and1, and3, opc_get', List.length_map, Hp.join_set, Hp.get_join, Option.some_or, u8_set, i64_set, getD_u8, i64_get, hga, hgb, la, lb, hE1, hV1, hle, hlt2, row, all_u8]
             all_goals (repeat refine And.intro (by first | omega | (simp; done) | (simp_all; done) | (simp_all; omega)) ?_)
             all_goals try (first | refine guardT 115 rfl (fun hc => ?_) (fun hc => ?_) | refine guardF 115 rfl (fun hc => ?_) (fun hc => ?_)) <;> try simp only [push_cast] at hc
             all_goals try (exfalso; omega)
             all_goals try simp (maxSteps := 4000000) (disch := omega) only [push_cast, Nat.reduceLT, Nat.reduceEqDiff, Nat.reduceAdd, Nat.reduceMul, Nat.reduceSub, Nat.reduceLeDiff, Int.reduceToNat, Int.reduceLT, Int.reduceLE, Int.reduceAdd, Int.reduceSub, Int.reduceMul, Int.reduceNeg, Int.reduceEq, reduceCtorEq, Int.cast_ofNat_Int, Hp.get_set, and1, and3, opc_get', List.length_map, Hp.join_set, Hp.get_join, Option.some_or, u8_set, i64_set, getD_u8, i64_get, hga, hgb, la, lb, hE1, hV1, hle, hlt2, row, all_u8]
             all_goals (repeat refine And.intro (by first | omega | (simp; done) | (simp_all; done) | (simp_all; omega)) ?_)
             all_goals try simp (maxSteps := 4000000) (disch := omega) only [push_cast, Nat.reduceLT, Nat.reduceEqDiff, Nat.reduceAdd, Nat.reduceMul, Nat.reduceSub, Nat.reduceLeDiff, Int.reduceToNat, Int.reduceLT, Int.reduceLE, Int.reduceAdd, Int.reduceSub, Int.reduceMul, Int.reduceNeg, Int.reduceEq, reduceCtorEq, Int.cast_ofNat_Int, Hp.get_set, and1, and3, opc_get', List.length_map, Hp.join_set, Hp.get_join, Option.some_or, u8_set, i64_set, getD_u8, i64_get, hga, hgb, la, lb, hE1, hV1, hle, hlt2, row, all_u8]
             all_goals (repeat refine And.intro (by first | omega | (simp; done) | (simp_all; done) | (simp_all; omega)) ?_)
             all_goals try (
               refine callP (full_spec _ 0) rfl ?_)
             all_goals try simp (maxSteps := 4000000) (disch := omega) only [push_cast, Nat.reduceLT, Nat.reduceEqDiff, Nat.reduceAdd, Nat.reduceMul, Nat.reduceSub, Nat.reduceLeDiff, Int.reduceToNat, Int.reduceLT, Int.reduceLE, Int.reduceAdd, Int.reduceSub, Int.reduceMul, Int.reduceNeg, Int.reduceEq, reduceCtorEq, Int.cast_ofNat_Int, Hp.get_set, and1, and3, opc_get', List.length_map, Hp.join_set, Hp.get_join, Option.some_or, u8_set, i64_set, getD_u8, i64_get, hga, hgb, la, lb, hE1, hV1, hle, hlt2, row, all_u8]
             all_goals (repeat refine And.intro (by first | omega | (simp; done) | (simp_all; done) | (simp_all; omega)) ?_)
             all_goals try simp (maxSteps := 4000000) (disch := omega) only [push_cast, Nat.reduceLT, Nat.reduceEqDiff, Nat.reduceAdd, Nat.reduceMul, Nat.reduceSub, Nat.reduceLeDiff, Int.reduceToNat, Int.reduceLT, Int.reduceLE, Int.reduceAdd, Int.reduceSub, Int.reduceMul, Int.reduceNeg, Int.reduceEq, reduceCtorEq, Int.cast_ofNat_Int, Hp.get_set, and1, and3, opc_get', List.length_map, Hp.join_set, Hp.get_join, Option.some_or, u8_set, i64_set, getD_u8, i64_get, hga, hgb, la, lb, hE1, hV1, hle, hlt2, row, all_u8]
             all_goals (repeat refine And.intro (by first | omega | (simp; done) | (simp_all; done) | (simp_all; omega)) ?_)
             all_goals
              refine Qk hK [0, 3, 5, 6, 7, 127] ?_
              clear hK K
              refine CI rfl (fun hc => ?_) (fun hc => ?_)
              ·
               all_goals try (cases hc; done)
               all_goals try simp only [push_cast] at hc
               all_goals try (exfalso; omega)
               all_goals
                refine WS.seq ?_
                refine A1 [2] (by decide) ?_
                refine Rt ?_
                simp only [push_cast]
                refine hQ0 _ _ _ ?_
                try simp (maxSteps := 4000000) only [push_cast, Int.reduceToNat, Int.reduceLT, Int.reduceLE, Int.reduceAdd, Int.reduceSub, Int.reduceMul, Int.reduceNeg, Int.reduceEq, reduceCtorEq, Nat.reduceLeDiff, Nat.reduceLT, Nat.reduceEqDiff, Nat.reduceAdd, Nat.reduceMul, Nat.reduceSub, Int.cast_ofNat_Int, and1, and3, opc_get', List.length_map, Hp.join_set, Hp.get_join, Option.some_or, u8_set, i64_set, getD_u8, i64_get, hga, hgb, la, lb, hE1, hV1, hle, hlt2, row, all_u8]
                first | done | rfl | (simp; done) | (simp_all; done) | (simp_all; omega)
              all_goals try (cases hc; done)
              all_goals try simp only [push_cast] at hc
              all_goals try (exfalso; omega)
              all_goals
               refine Sk ?_
               simp only [push_cast, WS, Nat.reduceEqDiff]
               refine hK1 _ _ ?_
               clear hK1
               try clear K1
               refine WS_keep [0, 3, 5, 6, 7] _ ?_
               refine R0 fun K hK => ?_
               try simp (maxSteps := 4000000) (disch := omega) only [push_cast, Nat.reduceLT, Nat.reduceEqDiff, Int.reduceToNat, Int.reduceLT, Int.reduceLE, Int.reduceAdd, Int.reduceSub, Int.reduceMul, Int.reduceNeg, Int.reduceEq, reduceCtorEq, Int.cast_ofNat_Int, Hp.get_set, and1, and3, opc_get', List.length_map, Hp.join_set, Hp.get_join, Option.some_or, u8_set, i64_set, getD_u8, i64_get, hga, hgb, la, lb, hE1, hV1, hle, hlt2, row, all_u8]
               (repeat refine And.intro (by first | omega | (simp; done) | (simp_all; done) | (simp_all; omega)) ?_)
               refine Qk hK [0, 3, 5, 6, 7] ?_
               clear hK K
               refine Ag (hM0 _ _ ?_)
               refine ⟨_, ?_, i + 1, σd, τl, D, tab, z,  rfl, ?_, ?_, ?_⟩
               · first | omega | (simp; done) | (simp_all; done) | (simp_all; omega)
               · (try simp (disch := omega) only [push_cast, Int.reduceToNat, Int.reduceLT, Int.reduceLE, Int.reduceAdd, Int.reduceSub, Int.reduceMul, Int.reduceNeg, Int.reduceEq, reduceCtorEq, Nat.reduceLeDiff, Nat.reduceLT, Nat.reduceEqDiff, Nat.reduceAdd, Nat.reduceMul, Nat.reduceSub, Int.cast_ofNat_Int, and1, and3, opc_get', List.length_map, Hp.join_set, Hp.get_join, Option.some_or, u8_set, i64_set, getD_u8, i64_get, hga, hgb, la, lb, hE1, hV1, hle, hlt2, row, all_u8]) <;> (first | done | rfl | (simp; done) | (simp; omega) | omega | (simp_all; done) | (simp_all; omega))
               · first | rfl | (try simp (disch := omega) only [push_cast, Int.reduceToNat, Int.reduceLT, Int.reduceLE, Int.reduceAdd, Int.reduceSub, Int.reduceMul, Int.reduceNeg, Int.reduceEq, reduceCtorEq, Nat.reduceLeDiff, Nat.reduceLT, Nat.reduceEqDiff, Nat.reduceAdd, Nat.reduceMul, Nat.reduceSub, Int.cast_ofNat_Int, and1, and3, opc_get', List.length_map, Hp.join_set, Hp.get_join, Option.some_or, u8_set, i64_set, getD_u8, i64_get, hga, hgb, la, lb, hE1, hV1, hle, hlt2, row, all_u8]) <;> (first | done | rfl | (simp; done) | (simp; omega) | omega | (simp_all; done) | (simp_all; omega))
               · exact ⟨by omega, by omega, hD, hj, la, lb, hS⟩
        ·
         all_goals try (cases hc; done)
         all_goals try simp only [push_cast] at hc
         all_goals try (exfalso; omega)
         all_goals
          refine Sk ?_
          refine WS.seq (WS.seq ?_)
          refine R0 fun K hK => ?_
          try simp (maxSteps := 4000000) (disch := omega) only [push_cast, Nat.reduceLT, Nat.reduceEqDiff, Nat.reduceAdd, Nat.reduceMul, Nat.reduceSub, Nat.reduceLeDiff, Int.reduceToNat, Int.reduceLT, Int.reduceLE, Int.reduceAdd, Int.reduceSub, Int.reduceMul, Int.reduceNeg, Int.reduceEq, reduceCtorEq, Int.cast_ofNat_Int, Hp.get_set, and1, and3, opc_get', List.length_map, Hp.join_set, Hp.get_join, Option.some_or, u8_set, i64_set, getD_u8, i64_get, hga, hgb, la, lb]
          (repeat refine And.intro (by first | omega | (simp; done) | (simp_all; done) | (simp_all; omega)) ?_)
          refine Qk hK [0, 3, 5, 6, 7, 8, 9, 84] ?_
          clear hK K
          refine CI rfl (fun hc => ?_) (fun hc => ?_)
          ·
           all_goals try (cases hc; done)
           all_goals try simp only [push_cast] at hc
           all_goals try (exfalso; omega)
           all_goals
            refine R0 fun K hK => ?_
            try simp (maxSteps := 4000000) (disch := omega) only [push_cast, Nat.reduceLT, Nat.reduceEqDiff, Hp.get_set, and1, and3, opc_get', List.length_map, Hp.join_set, Hp.get_join, Option.some_or, u8_set, i64_set, getD_u8, i64_get, hga, hgb, la, lb]
            refine callF (sync_spec (D := D) _ (by have := hS.w; omega) hD) hj (fun v σ2 h hj2 => ?_)
            obtain ⟨rfl, hD2⟩ := h
            obtain ⟨hse, hS2⟩ := hS.sync hf2
            try simp (maxSteps := 4000000) (disch := omega) only [push_cast, Nat.reduceLT, Nat.reduceEqDiff, Hp.get_set, and1, and3, opc_get', List.length_map, Hp.join_set, Hp.get_join, Option.some_or, u8_set, i64_set, getD_u8, i64_get, hga, hgb, la, lb]
            refine Qk hK [0, 3, 5, 6, 7, 8, 9] ?_
            clear hK K
            refine WS.seq ?_
            refine S_any (d := d) (ga := ga) (gb := gb) (i := i + 1) (by
              first
              | exact ⟨σ2, _, _, _, _, rfl, hD2, (hj2.upd la).upd (by simp only [Hp.get_set, hab, if_false]; exact lb), by simp only [Hp.get_set, hab, if_true, if_false], by simp only [Hp.get_set, if_true], hS.put hf2 hs4 (oat ops i).by_ (z' := z.set (lowN (oat ops i).file 2) ((lowN (oat ops i).sector 4 : Nat) + 1)) (by rw [if_pos (by omega)])⟩
              | exact ⟨σ2, _, _, _, _, rfl, hD2, hj2.upd la, by simp only [Hp.get_set, if_true], by simp only [Hp.get_set, hab, if_false]; exact lb, hS.put hf2 hs4 (oat ops i).by_ (z' := z) (by rw [if_neg (by omega)]; exact set_self _ _ (by omega))⟩
              | exact ⟨σ2, _, _, _, _, rfl, hD2, hj2, la, lb, hS2.up⟩
              | exact ⟨σd, _, _, _, _, rfl, hD, hj, la, lb, hS.up⟩) (fun σd τl D tab z hD hj la lb hS => ?_)
            have hlt := hS.lt
            have hlz := hS.lz
            have hle := hS.len hf2
            rcases hS.read hf2 hs4 with ⟨hlt2, hE1, hV1⟩ | ⟨hlt2, hE1, hV1⟩
            all_goals
             refine R0 fun K hK => ?_
             try simp (maxSteps := 4000000) (disch := omega) only [push_cast, Nat.reduceLT, Nat.reduceEqDiff, Nat.reduceAdd, Nat.reduceMul, Nat.reduceSub, Nat.reduceLeDiff, Hp.get_set, and1, and3, opc_get', List.length_map, Hp.join_set, Hp.get_join, Option.some_or, u8_set, i64_set, getD_u8, i64_get, hga, hgb, la, lb, hE1, hV1, hle, hlt2, row, all_u8]
             refine callS (read_spec (D := D) _ _ hS.ok (hD.mono (HSub.join_left hj))) (fun v τ2 h => ?_)
             obtain ⟨rfl, rfl⟩ := h
             try simp (maxSteps := 4000000) (disch := omega) only [push_cast, Nat.reduceLT, Nat.reduceEqDiff, Nat.reduceAdd, Nat.reduceMul, Nat.reduceSub, Nat.reduceLeDiff, Hp.get_set, and1, and3, opc_get', List.length_map, Hp.join_set, Hp.get_join, Option.some_or, u8_set, i64_set, getD_u8, i64_get, hga, hgb, la, lb, hE1, hV1, hle, hlt2, row, all_u8]
             refine Qk hK [0, 3, 5, 6, 7, 8, 9, 10, 11] ?_
             clear hK K
             refine WS.seq ?_
             refine RD [] [28, 1000031] fo (by kernel_rfl) fun K hK => ?_
             try simp (maxSteps := 4000000) (disch := omega) only [push_cast, Nat.reduceLT, Nat.reduceEqDiff, Nat.reduceAdd, Nat.reduceMul, Nat.reduceSub, Nat.reduceLeDiff, Int.reduceToNat, Int.reduceLT, Int.reduceLE, Int.reduceAdd, Int.reduceSub, Int.reduceMul, Int.reduceNeg, Int.reduceEq, reduceCtorEq, Int.cast_ofNat_Int, Hp.get_set, and1, and3, opc_get', List.length_map, Hp.join_set, Hp.get_join, Option.some_or, u8_set, i64_set, getD_u8, i64_get, hga, hgb, la, lb, hE1, hV1, hle, hlt2, row, all_u8]
             (repeat refine And.intro (by first | omega | (simp; done) | (simp_all; done) | (simp_all; omega)) ?_)
             try simp (maxSteps := 4000000) (disch := omega) only [push_cast, Nat.reduceLT, Nat.reduceEqDiff, Nat.reduceAdd, Nat.reduceMul, Nat.reduceSub, Nat.reduceLeDiff, Int.reduceToNat, Int.reduceLT, Int.reduceLE, Int.reduceAdd, Int.reduceSub, Int.reduceMul, Int.reduceNeg, Int.reduceEq, reduceCtorEq, Int.cast_ofNat_Int, Hp.get_set, and1, and3, opc_get', List.length_map, Hp.join_set, Hp.get_join, Option.some_or, u8_set, i64_set, getD_u8, i64_get, hga, hgb, la, lb, hE1, hV1, hle, hlt2, row, all_u8]
             (repeat refine And.intro (by first | omega | (simp; done) | (simp_all; done) | (simp_all; omega)) ?_)
             refine callR ((len_R _ hD).sub (HSub.join_left hj)) rfl ?_
             try simp (maxSteps := 4000000) (disch := omega) only [push_cast, Nat.reduceLT, Nat.reduceEqDiff, Nat.reduceAdd, Nat.reduceMul, Nat.reduceSub, Nat.reduceLeDiff, Int.reduceToNat, Int.reduceLT, Int.reduceLE, Int.reduceAdd, Int.reduceSub, Int.reduceMul, Int.reduceNeg, Int.reduceEq, reduceCtorEq, Int.cast_ofNat_Int, Hp.get_set, and1, and3, opc_get', List.length_map, Hp.join_set, Hp.get_join, Option.some_or, u8_set, i64_set, getD_u8, i64_get, hga, hgb, la, lb, hE1, hV1, hle, hlt2, row, all_u8]
             (repeat refine And.intro (by first | omega | (simp; done) | (simp_all; done) | (simp_all; omega)) ?_)
             try simp (maxSteps := 4000000) (disch := omega) only [push_cast, Nat.reduceLT, Nat.reduceEqDiff, Nat.reduceAdd, Nat.reduceMul, Nat.reduceSub, Nat.reduceLeDiff, Int.reduceToNat, Int.reduceLT, Int.reduceLE, Int.reduceAdd, Int.reduceSub, Int.reduceMul, Int.reduceNeg, Int.reduceEq, reduceCtorEq, Int.cast_ofNat_Int, Hp.get_set, and1, and3, opc_get', List.length_map, Hp.join_set, Hp.get_join, Option.some_or, u8_set, i64_set, getD_u8, i64_get, hga, hgb, la, lb, hE1, hV1, hle, hlt2, row, all_u8]
             (repeat refine And.intro (by first | omega | (simp; done) | (simp_all; done) | (simp_all; omega)) ?_)
             all_goals try (first | refine guardT 102 rfl (fun hc => ?_) (fun hc => ?_) | refine guardF 102 rfl (fun hc => ?_) (fun hc => ?_)) <;> try simp only [push_cast] at hc
             all_goals try (exfalso; omega)
             all_goals try simp (maxSteps := 4000000) (disch := omega) only [push_cast, Nat.reduceLT, Nat.reduceEqDiff, Nat.reduceAdd, Nat.reduceMul, Nat.reduceSub, Nat.reduceLeDiff, Int.reduceToNat, Int.reduceLT, Int.reduceLE, Int.reduceAdd, Int.reduceSub, Int.reduceMul, Int.reduceNeg, Int.reduceEq, reduceCtorEq, Int.cast_ofNat_Int, Hp.get_set, and1, and3, opc_get', List.length_map, Hp.join_set, Hp.get_join, Option.some_or, u8_set, i64_set, getD_u8, i64_get, hga, hgb, la, lb, hE1, hV1, hle, hlt2, row, all_u8]
             all_goals (repeat refine And.intro (by first | omega | (simp; done) | (simp_all; done) | (simp_all; omega)) ?_)
             all_goals try simp (maxSteps := 4000000) (disch := omega) only [push_cast, Nat.reduceLT, Nat.reduceEqDiff, Nat.reduceAdd, Nat.reduceMul, Nat.reduceSub, Nat.reduceLeDiff, Int.reduceToNat, Int.reduceLT, Int.reduceLE, Int.reduceAdd, Int.reduceSub, Int.reduceMul, Int.reduceNeg, Int.reduceEq, reduceCtorEq, Int.cast_ofNat_Int, Hp.get_set, and1, and3, opc_get', List.length_map, Hp.join_set, Hp.get_join, Option.some_or, u8_set, i64_set, getD_u8, i64_get, hga, hgb, la, lb, hE1, hV1, hle, hlt2, row, all_u8]
             all_goals (repeat refine And.intro (by first | omega | (simp; done) | (simp_all; done) | (simp_all; omega)) ?_)
             all_goals try (first | refine guardT 112 rfl (fun hc => ?_) (fun hc => ?_) | refine guardF 112 rfl (fun hc => ?_) (fun hc => ?_)) <;> try simp only [push_cast] at hc
             all_goals try (exfalso; omega)
             all_goals try simp (maxSteps := 4000000) (disch := omega) only [push_cast, Nat.reduceLT, Nat.reduceEqDiff, Nat.reduceAdd, Nat.reduceMul, Nat.reduceSub, Nat.reduceLeDiff, Int.reduceToNat, Int.reduceLT, Int.reduceLE, Int.reduceAdd, Int.reduceSub, Int.reduceMul, Int.reduceNeg, Int.reduceEq, reduceCtorEq, Int.cast_ofNat_Int, Hp.get_set, and1, and3, opc_get', List.length_map, Hp.join_set, Hp.get_join, Option.some_or, u8_set, i64_set, getD_u8, i64_get, hga, hgb, la, lb, hE1, hV1, hle, hlt2, row, all_u8]
             all_goals (repeat refine And.intro (by first | omega | (simp; done) | (simp_all; done) | (simp_all; omega)) ?_)
             all_goals try simp (maxSteps := 4000000) (disch := omega) only [push_cast, Nat.reduceLT, Nat.reduceEqDiff, Nat.reduceAdd, Nat.reduceMul, Nat.reduceSub, Nat.reduceLeDiff, Int.reduceToNat, Int.reduceLT, Int.reduceLE, Int.reduceAdd, Int.reduceSub, Int.reduceMul, Int.reduceNeg, Int.reduceEq, reduceCtorEq, Int.cast_ofNat_Int, Hp.get_set, and1, and3, opc_get', List.length_map, Hp.join_set, Hp.get_join, Option.some_or, u8_set, i64_set, getD_u8, i64_get, hga, hgb, la, lb, hE1, hV1, hle, hlt2, row, all_u8]
             all_goals (repeat refine And.intro (by first | omega | (simp; done) | (simp_all; done) | (simp_all; omega)) ?_)
             all_goals try (first | refine guardT 115 rfl (fun hc => ?_) (fun hc => ?_) | refine guardF 115 rfl (fun hc => ?_) (fun hc => ?_)) <;> try simp only [push_cast] at hc
             all_goals try (exfalso; omega)
             all_goals try simp (maxSteps := 4000000) (disch := omega) only [push_cast, Nat.reduceLT, Nat.reduceEqDiff, Nat.reduceAdd, Nat.reduceMul, Nat.reduceSub, Nat.reduceLeDiff, Int.reduceToNat, Int.reduceLT, Int.reduceLE, Int.reduceAdd, Int.reduceSub, Int.reduceMul, Int.reduceNeg, Int.reduceEq, reduceCtorEq, Int.cast_ofNat_Int, Hp.get_set, and1, and3, opc_get', List.length_map, Hp.join_set, Hp.get_join, Option.some_or, u8_set, i64_set, getD_u8, i64_get, hga, hgb, la, lb, hE1, hV1, hle, hlt2, row, all_u8]
             all_goals (repeat refine And.intro (by first | omega | (simp; done) | (simp_all; done) | (simp_all; omega)) ?_)
             all_goals try simp (maxSteps := 4000000) (disch := omega) only [push_cast, Nat.reduceLT, Nat.reduceEqDiff, Nat.reduceAdd, Nat.reduceMul, Nat.reduceSub, Nat.reduceLeDiff, Int.reduceToNat, Int.reduceLT, Int.reduceLE, Int.reduceAdd, Int.reduceSub, Int.reduceMul, Int.reduceNeg, Int.reduceEq, reduceCtorEq, Int.cast_ofNat_Int, Hp.get_set, and1, and3, opc_get', List.length_map, Hp.join_set, Hp.get_join, Option.some_or, u8_set, i64_set, getD_u8, i64_get, hga, hgb, la, lb, hE1, hV1, hle, hlt2, row, all_u8]
             all_goals (repeat refine And.intro (by first | omega | (simp; done) | (simp_all; done) | (simp_all; omega)) ?_)
             all_goals try (
               refine callP (full_spec _ 0) rfl ?_)
             all_goals try simp (maxSteps := 4000000) (disch := omega) only [push_cast, Nat.reduceLT, Nat.reduceEqDiff, Nat.reduceAdd, Nat.reduceMul, Nat.reduceSub, Nat.reduceLeDiff, Int.reduceToNat, Int.reduceLT, Int.reduceLE, Int.reduceAdd, Int.reduceSub, Int.reduceMul, Int.reduceNeg, Int.reduceEq, reduceCtorEq, Int.cast_ofNat_Int, Hp.get_set, and1, and3, opc_get', List.length_map, Hp.join_set, Hp.get_join, Option.some_or, u8_set, i64_set, getD_u8, i64_get, hga, hgb, la, lb, hE1, hV1, hle, hlt2, row, all_u8]
             all_goals (repeat refine And.intro (by first | omega | (simp; done) | (simp_all; done) | (simp_all; omega)) ?_)
             all_goals try simp (maxSteps := 4000000) (disch := omega) only [push_cast, Nat.reduceLT, Nat.reduceEqDiff, Nat.reduceAdd, Nat.reduceMul, Nat.reduceSub, Nat.reduceLeDiff, Int.reduceToNat, Int.reduceLT, Int.reduceLE, Int.reduceAdd, Int.reduceSub, Int.reduceMul, Int.reduceNeg, Int.reduceEq, reduceCtorEq, Int.cast_ofNat_Int, Hp.get_set, and1, and3, opc_get', List.length_map, Hp.join_set, Hp.get_join, Option.some_or, u8_set, i64_set, getD_u8, i64_get, hga, hgb, la, lb, hE1, hV1, hle, hlt2, row, all_u8]
             all_goals (repeat refine And.intro (by first | omega | (simp; done) | (simp_all; done) | (simp_all; omega)) ?_)
             all_goals
              refine Qk hK [0, 3, 5, 6, 7, 127] ?_
              clear hK K
              refine CI rfl (fun hc => ?_) (fun hc => ?_)
              ·
               all_goals try (cases hc; done)
               all_goals try simp only [push_cast] at hc
               all_goals try (exfalso; omega)
               all_goals
                refine WS.seq ?_
                refine A1 [2] (by decide) ?_
                refine Rt ?_
                simp only [push_cast]
                refine hQ0 _ _ _ ?_
                try simp (maxSteps := 4000000) only [push_cast, Int.reduceToNat, Int.reduceLT, Int.reduceLE, Int.reduceAdd, Int.reduceSub, Int.reduceMul, Int.reduceNeg, Int.reduceEq, reduceCtorEq, Nat.reduceLeDiff, Nat.reduceLT, Nat.reduceEqDiff, Nat.reduceAdd, Nat.reduceMul, Nat.reduceSub, Int.cast_ofNat_Int, and1, and3, opc_get', List.length_map, Hp.join_set, Hp.get_join, Option.some_or, u8_set, i64_set, getD_u8, i64_get, hga, hgb, la, lb, hE1, hV1, hle, hlt2, row, all_u8]
                first | done | rfl | (simp; done) | (simp_all; done) | (simp_all; omega)
              all_goals try (cases hc; done)
              all_goals try simp only [push_cast] at hc
              all_goals try (exfalso; omega)
              all_goals
               refine Sk ?_
               simp only [push_cast, WS, Nat.reduceEqDiff]
               refine hK1 _ _ ?_
               clear hK1
               try clear K1
               refine WS_keep [0, 3, 5, 6, 7] _ ?_
               refine R0 fun K hK => ?_
               try simp (maxSteps := 4000000) (disch := omega) only [push_cast, Nat.reduceLT, Nat.reduceEqDiff, Int.reduceToNat, Int.reduceLT, Int.reduceLE, Int.reduceAdd, Int.reduceSub, Int.reduceMul, Int.reduceNeg, Int.reduceEq, reduceCtorEq, Int.cast_ofNat_Int, Hp.get_set, and1, and3, opc_get', List.length_map, Hp.join_set, Hp.get_join, Option.some_or, u8_set, i64_set, getD_u8, i64_get, hga, hgb, la, lb, hE1, hV1, hle, hlt2, row, all_u8]
               (repeat refine And.intro (by first | omega | (simp; done) | (simp_all; done) | (simp_all; omega)) ?_)
               refine Qk hK [0, 3, 5, 6, 7] ?_
               clear hK K
               refine Ag (hM0 _ _ ?_)
               refine ⟨_, ?_, i + 1, σd, τl, D, tab, z,  rfl, ?_, ?_, ?_⟩
               · first | omega | (simp; done) | (simp_all; done) | (simp_all; omega)
               · (try simp (disch := omega) only [push_cast, Int.reduceToNat, Int.reduceLT, Int.reduceLE, Int.reduceAdd, Int.reduceSub, Int.reduceMul, Int.reduceNeg, Int.reduceEq, reduceCtorEq, Nat.reduceLeDiff, Nat.reduceLT, Nat.reduceEqDiff, Nat.reduceAdd, Nat.reduceMul, Nat.reduceSub, Int.cast_ofNat_Int, and1, and3, opc_get', List.length_map, Hp.join_set, Hp.get_join, Option.some_or, u8_set, i64_set, getD_u8, i64_get, hga, hgb, la, lb, hE1, hV1, hle, hlt2, row, all_u8]) <;> (first | done | rfl | (simp; done) | (simp; omega) | omega | (simp_all; done) | (simp_all; omega))
               · first | rfl | (try simp (disch := omega) only [push_cast, Int.reduceToNat, Int.reduceLT, Int.reduceLE, Int.reduceAdd, Int.reduceSub, Int.reduceMul, Int.reduceNeg, Int.reduceEq, reduceCtorEq, Nat.reduceLeDiff, Nat.reduceLT, Nat.reduceEqDiff, Nat.reduceAdd, Nat.reduceMul, Nat.reduceSub, Int.cast_ofNat_Int, and1, and3, opc_get', List.length_map, Hp.join_set, Hp.get_join, Option.some_or, u8_set, i64_set, getD_u8, i64_get, hga, hgb, la, lb, hE1, hV1, hle, hlt2, row, all_u8]) <;> (first | done | rfl | (simp; done) | (simp; omega) | omega | (simp_all; done) | (simp_all; omega))
               · exact ⟨by omega, by omega, hD, hj, la, lb, hS⟩
          ·
           all_goals try (cases hc; done)
           all_goals try simp only [push_cast] at hc
           all_goals try (exfalso; omega)
           all_goals
            refine Sk ?_
            refine WS.seq ?_
            refine S_any (d := d) (ga := ga) (gb := gb) (i := i + 1) (by
              first
              | exact ⟨σ2, _, _, _, _, rfl, hD2, (hj2.upd la).upd (by simp only [Hp.get_set, hab, if_false]; exact lb), by simp only [Hp.get_set, hab, if_true, if_false], by simp only [Hp.get_set, if_true], hS.put hf2 hs4 (oat ops i).by_ (z' := z.set (lowN (oat ops i).file 2) ((lowN (oat ops i).sector 4 : Nat) + 1)) (by rw [if_pos (by omega)])⟩
              | exact ⟨σ2, _, _, _, _, rfl, hD2, hj2.upd la, by simp only [Hp.get_set, if_true], by simp only [Hp.get_set, hab, if_false]; exact lb, hS.put hf2 hs4 (oat ops i).by_ (z' := z) (by rw [if_neg (by omega)]; exact set_self _ _ (by omega))⟩
              | exact ⟨σ2, _, _, _, _, rfl, hD2, hj2, la, lb, hS2.up⟩
              | exact ⟨σd, _, _, _, _, rfl, hD, hj, la, lb, hS.up⟩) (fun σd τl D tab z hD hj la lb hS => ?_)
            have hlt := hS.lt
            have hlz := hS.lz
            have hle := hS.len hf2
            rcases hS.read hf2 hs4 with ⟨hlt2, hE1, hV1⟩ | ⟨hlt2, hE1, hV1⟩
            all_goals
             refine R0 fun K hK => ?_
             try simp (maxSteps := 4000000) (disch := omega) only [push_cast, Nat.reduceLT, Nat.reduceEqDiff, Nat.reduceAdd, Nat.reduceMul, Nat.reduceSub, Nat.reduceLeDiff, Hp.get_set, and1, and3, opc_get', List.length_map, Hp.join_set, Hp.get_join, Option.some_or, u8_set, i64_set, getD_u8, i64_get, hga, hgb, la, lb, hE1, hV1, hle, hlt2, row, all_u8]
             refine callS (read_spec (D := D) _ _ hS.ok (hD.mono (HSub.join_left hj))) (fun v τ2 h => ?_)
             obtain ⟨rfl, rfl⟩ := h
             try simp (maxSteps := 4000000) (disch := omega) only [push_cast, Nat.reduceLT, Nat.reduceEqDiff, Nat.reduceAdd, Nat.reduceMul, Nat.reduceSub, Nat.reduceLeDiff, Hp.get_set, and1, and3, opc_get', List.length_map, Hp.join_set, Hp.get_join, Option.some_or, u8_set, i64_set, getD_u8, i64_get, hga, hgb, la, lb, hE1, hV1, hle, hlt2, row, all_u8]
             refine Qk hK [0, 3, 5, 6, 7, 8, 9, 10, 11] ?_
             clear hK K
             refine WS.seq ?_
             refine RD [] [28, 1000031] fo (by kernel_rfl) fun K hK => ?_
             try simp (maxSteps := 4000000) (disch := omega) only [push_cast, Nat.reduceLT, Nat.reduceEqDiff, Nat.reduceAdd, Nat.reduceMul, Nat.reduceSub, Nat.reduceLeDiff, Int.reduceToNat, Int.reduceLT, Int.reduceLE, Int.reduceAdd, Int.reduceSub, Int.reduceMul, Int.reduceNeg, Int.reduceEq, reduceCtorEq, Int.cast_ofNat_Int, Hp.get_set, and1, and3, opc_get', List.length_map, Hp.join_set, Hp.get_join, Option.some_or, u8_set, i64_set, getD_u8, i64_get, hga, hgb, la, lb, hE1, hV1, hle, hlt2, row, all_u8]
             (repeat refine And.intro (by first | omega | (simp; done) | (simp_all; done) | (simp_all; omega)) ?_)
             try simp (maxSteps := 4000000) (disch := omega) only [push_cast, Nat.reduceLT, Nat.reduceEqDiff, Nat.reduceAdd, Nat.reduceMul, Nat.reduceSub, Nat.reduceLeDiff, Int.reduceToNat, Int.reduceLT, Int.reduceLE, Int.reduceAdd, Int.reduceSub, Int.reduceMul, Int.reduceNeg, Int.reduceEq, reduceCtorEq, Int.cast_ofNat_Int, Hp.get_set, and1, and3, opc_get', List.length_map, Hp.join_set, Hp.get_join, Option.some_or, u8_set, i64_set, getD_u8, i64_get, hga, hgb, la, lb, hE1, hV1, hle, hlt2, row, all_u8]
             (repeat refine And.intro (by first | omega | (simp; done) | (simp_all; done) | (simp_all; omega)) ?_)
             refine callR ((len_R _ hD).sub (HSub.join_left hj)) rfl ?_
             try simp (maxSteps := 4000000) (disch := omega) only [push_cast, Nat.reduceLT, Nat.reduceEqDiff, Nat.reduceAdd, Nat.reduceMul, Nat.reduceSub, Nat.reduceLeDiff, Int.reduceToNat, Int.reduceLT, Int.reduceLE, Int.reduceAdd, Int.reduceSub, Int.reduceMul, Int.reduceNeg, Int.reduceEq, reduceCtorEq, Int.cast_ofNat_Int, Hp.get_set, and1, and3, opc_get', List.length_map, Hp.join_set, Hp.get_join, Option.some_or, u8_set, i64_set, getD_u8, i64_get, hga, hgb, la, lb, hE1, hV1, hle, hlt2, row, all_u8]
             (repeat refine And.intro (by first | omega | (simp; done) | (simp_all; done) | (simp_all; omega)) ?_)
             try simp (maxSteps := 4000000) (disch := omega) only [push_cast, Nat.reduceLT, Nat.reduceEqDiff, Nat.reduceAdd, Nat.reduceMul, Nat.reduceSub, Nat.reduceLeDiff, Int.reduceToNat, Int.reduceLT, Int.reduceLE, Int.reduceAdd, Int.reduceSub, Int.reduceMul, Int.reduceNeg, Int.reduceEq, reduceCtorEq, Int.cast_ofNat_Int, Hp.get_set, and1, and3, opc_get', List.length_map, Hp.join_set, Hp.get_join, Option.some_or, u8_set, i64_set, getD_u8, i64_get, hga, hgb, la, lb, hE1, hV1, hle, hlt2, row, all_u8]
             (repeat refine And.intro (by first | omega | (simp; done) | (simp_all; done) | (simp_all; omega)) ?_)
             all_goals try (first | refine guardT 102 rfl (fun hc => ?_) (fun hc => ?_) | refine guardF 102 rfl (fun hc => ?_) (fun hc => ?_)) <;> try simp only [push_cast] at hc
             all_goals try (exfalso; omega)
             all_goals try simp (maxSteps := 4000000) (disch := omega) only [push_cast, Nat.reduceLT, Nat.reduceEqDiff, Nat.reduceAdd, Nat.reduceMul, Nat.reduceSub, Nat.reduceLeDiff, Int.reduceToNat, Int.reduceLT, Int.reduceLE, Int.reduceAdd, Int.reduceSub, Int.reduceMul, Int.reduceNeg, Int.reduceEq, reduceCtorEq, Int.cast_ofNat_Int, Hp.get_set, and1, and3, opc_get', List.length_map, Hp.join_set, Hp.get_join, Option.some_or, u8_set, i64_set, getD_u8, i64_get, hga, hgb, la, lb, hE1, hV1, hle, hlt2, row, all_u8]
             all_goals (repeat refine And.intro (by first | omega | (simp; done) | (simp_all; done) | (simp_all; omega)) ?_)
             all_goals try simp (maxSteps := 4000000) (disch := omega) only [push_cast, Nat.reduceLT, Nat.reduceEqDiff, Nat.reduceAdd, Nat.reduceMul, Nat.reduceSub, Nat.reduceLeDiff, Int.reduceToNat, Int.reduceLT, Int.reduceLE, Int.reduceAdd, Int.reduceSub, Int.reduceMul, Int.reduceNeg, Int.reduceEq, reduceCtorEq, Int.cast_ofNat_Int, Hp.get_set, and1, and3, opc_get', List.length_map, Hp.join_set, Hp.get_join, Option.some_or, u8_set, i64_set, getD_u8, i64_get, hga, hgb, la, lb, hE1, hV1, hle, hlt2, row, all_u8]
             all_goals (repeat refine And.intro (by first | omega | (simp; done) | (simp_all; done) | (simp_all; omega)) ?_)
             all_goals try (first | refine guardT 112 rfl (fun hc => ?_) (fun hc => ?_) | refine guardF 112 rfl (fun hc => ?_) (fun hc => ?_)) <;> try simp only [push_cast] at hc
             all_goals try (exfalso; omega)
             all_goals try simp (maxSteps := 4000000) (disch := omega) only [push_cast, Nat.reduceLT, Nat.reduceEqDiff, Nat.reduceAdd, Nat.reduceMul, Nat.reduceSub, Nat.reduceLeDiff, Int.reduceToNat, Int.reduceLT, Int.reduceLE, Int.reduceAdd, Int.reduceSub, Int.reduceMul, Int.reduceNeg, Int.reduceEq, reduceCtorEq, Int.cast_ofNat_Int, Hp.get_set, and1, and3, opc_get', List.length_map, Hp.join_set, Hp.get_join, Option.some_or, u8_set, i64_set, getD_u8, i64_get, hga, hgb, la, lb, hE1, hV1, hle, hlt2, row, all_u8]
             all_goals (repeat refine And.intro (by first | omega | (simp; done) | (simp_all; done) | (simp_all; omega)) ?_)
             all_goals try simp (maxSteps := 4000000) (disch := omega) only [push_cast, Nat.reduceLT, Nat.reduceEqDiff, Nat.reduceAdd, Nat.reduceMul, Nat.reduceSub, Nat.reduceLeDiff, Int.reduceToNat, Int.reduceLT, Int.reduceLE, Int.reduceAdd, Int.reduceSub, Int.reduceMul, Int.reduceNeg, Int.reduceEq, reduceCtorEq, Int.cast_ofNat_Int, Hp.get_set, and1, and3, opc_get', List.length_map, Hp.join_set, Hp.get_join, Option.some_or, u8_set, i64_set, getD_u8, i64_get, hga, hgb, la, lb, hE1, hV1, hle, hlt2, row, all_u8]
             all_goals (repeat refine And.intro (by first | omega | (simp; done) | (simp_all; done) | (simp_all; omega)) ?_)
             all_goals try (first | refine guardT 115 rfl (fun hc => ?_) (fun hc => ?_) | refine guardF 115 rfl (fun hc => ?_) (fun hc => ?_)) <;> try simp only [push_cast] at hc
             all_goals try (exfalso; omega)
             all_goals try simp (maxSteps := 4000000) (disch := omega) only [push_cast, Nat.reduceLT, Nat.reduceEqDiff, Nat.reduceAdd, Nat.reduceMul, Nat.reduceSub, Nat.reduceLeDiff, Int.reduceToNat, Int.reduceLT, Int.reduceLE, Int.reduceAdd, Int.reduceSub, Int.reduceMul, Int.reduceNeg, Int.reduceEq, reduceCtorEq, Int.cast_ofNat_Int, Hp.get_set, and1, and3, opc_get', List.length_map, Hp.join_set, Hp.get_join, Option.some_or, u8_set, i64_set, getD_u8, i64_get, hga, hgb, la, lb, hE1, hV1, hle, hlt2, row, all_u8]
             all_goals (repeat refine And.intro (by first | omega | (simp; done) | (simp_all; done) | (simp_all; omega)) ?_)
             all_goals try simp (maxSteps := 4000000) (disch := omega) only [push_cast, Nat.reduceLT, Nat.reduceEqDiff, Nat.reduceAdd, Nat.reduceMul, Nat.reduceSub, Nat.reduceLeDiff, Int.reduceToNat, Int.reduceLT, Int.reduceLE, Int.reduceAdd, Int.reduceSub, Int.reduceMul, Int.reduceNeg, Int.reduceEq, reduceCtorEq, Int.cast_ofNat_Int, Hp.get_set, and1, and3, opc_get', List.length_map, Hp.join_set, Hp.get_join, Option.some_or, u8_set, i64_set, getD_u8, i64_get, hga, hgb, la, lb, hE1, hV1, hle, hlt2, row, all_u8]
             all_goals (repeat refine And.intro (by first | omega | (simp; done) | (simp_all; done) | (simp_all; omega)) ?_)
             all_goals try (
               refine callP (full_spec _ 0) rfl ?_)
             all_goals try simp (maxSteps := 4000000) (disch := omega) only [push_cast, Nat.reduceLT, Nat.reduceEqDiff, Nat.reduceAdd, Nat.reduceMul, Nat.reduceSub, Nat.reduceLeDiff, Int.reduceToNat, Int.reduceLT, Int.reduceLE, Int.reduceAdd, Int.reduceSub, Int.reduceMul, Int.reduceNeg, Int.reduceEq, reduceCtorEq, Int.cast_ofNat_Int, Hp.get_set, and1, and3, opc_get', List.length_map, Hp.join_set, Hp.get_join, Option.some_or, u8_set, i64_set, getD_u8, i64_get, hga, hgb, la, lb, hE1, hV1, hle, hlt2, row, all_u8]
             all_goals (repeat refine And.intro (by first | omega | (simp; done) | (simp_all; done) | (simp_all; omega)) ?_)
             all_goals try simp (maxSteps := 4000000) (disch := omega) only [push_cast, Nat.reduceLT, Nat.reduceEqDiff, Nat.reduceAdd, Nat.reduceMul, Nat.reduceSub, Nat.reduceLeDiff, Int.reduceToNat, Int.reduceLT, Int.reduceLE, Int.reduceAdd, Int.reduceSub, Int.reduceMul, Int.reduceNeg, Int.reduceEq, reduceCtorEq, Int.cast_ofNat_Int, Hp.get_set, and1, and3, opc_get', List.length_map, Hp.join_set, Hp.get_join, Option.some_or, u8_set, i64_set, getD_u8, i64_get, hga, hgb, la, lb, hE1, hV1, hle, hlt2, row, all_u8]
             all_goals (repeat refine And.intro (by first | omega | (simp; done) | (simp_all; done) | (simp_all; omega)) ?_)
             all_goals
              refine Qk hK [0, 3, 5, 6, 7, 127] ?_
              clear hK K
              refine CI rfl (fun hc => ?_) (fun hc => ?_)
              ·
               all_goals try (cases hc; done)
               all_goals try simp only [push_cast] at hc
               all_goals try (exfalso; omega)
               all_goals
                refine WS.seq ?_
                refine A1 [2] (by decide) ?_
                refine Rt ?_
                simp only [push_cast]
                refine hQ0 _ _ _ ?_
                try simp (maxSteps := 4000000) only [push_cast, Int.reduceToNat, Int.reduceLT, Int.reduceLE, Int.reduceAdd, Int.reduceSub, Int.reduceMul, Int.reduceNeg, Int.reduceEq, reduceCtorEq, Nat.reduceLeDiff, Nat.reduceLT, Nat.reduceEqDiff, Nat.reduceAdd, Nat.reduceMul, Nat.reduceSub, Int.cast_ofNat_Int, and1, and3, opc_get', List.length_map, Hp.join_set, Hp.get_join, Option.some_or, u8_set, i64_set, getD_u8, i64_get, hga, hgb, la, lb, hE1, hV1, hle, hlt2, row, all_u8]
                first | done | rfl | (simp; done) | (simp_all; done) | (simp_all; omega)
              all_goals try (cases hc; done)
              all_goals try simp only [push_cast] at hc
              all_goals try (exfalso; omega)
              all_goals
               refine Sk ?_
               simp only [push_cast, WS, Nat.reduceEqDiff]
               refine hK1 _ _ ?_
               clear hK1
               try clear K1
               refine WS_keep [0, 3, 5, 6, 7] _ ?_
               refine R0 fun K hK => ?_
               try simp (maxSteps := 4000000) (disch := omega) only [push_cast, Nat.reduceLT, Nat.reduceEqDiff, Int.reduceToNat, Int.reduceLT, Int.reduceLE, Int.reduceAdd, Int.reduceSub, Int.reduceMul, Int.reduceNeg, Int.reduceEq, reduceCtorEq, Int.cast_ofNat_Int, Hp.get_set, and1, and3, opc_get', List.length_map, Hp.join_set, Hp.get_join, Option.some_or, u8_set, i64_set, getD_u8, i64_get, hga, hgb, la, lb, hE1, hV1, hle, hlt2, row, all_u8]
               (repeat refine And.intro (by first | omega | (simp; done) | (simp_all; done) | (simp_all; omega)) ?_)
               refine Qk hK [0, 3, 5, 6, 7] ?_
               clear hK K
               refine Ag (hM0 _ _ ?_)
               refine ⟨_, ?_, i + 1, σd, τl, D, tab, z,  rfl, ?_, ?_, ?_⟩
               · first | omega | (simp; done) | (simp_all; done) | (simp_all; omega)
               · (try simp (disch := omega) only [push_cast, Int.reduceToNat, Int.reduceLT, Int.reduceLE, Int.reduceAdd, Int.reduceSub, Int.reduceMul, Int.reduceNeg, Int.reduceEq, reduceCtorEq, Nat.reduceLeDiff, Nat.reduceLT, Nat.reduceEqDiff, Nat.reduceAdd, Nat.reduceMul, Nat.reduceSub, Int.cast_ofNat_Int, and1, and3, opc_get', List.length_map, Hp.join_set, Hp.get_join, Option.some_or, u8_set, i64_set, getD_u8, i64_get, hga, hgb, la, lb, hE1, hV1, hle, hlt2, row, all_u8]) <;> (first | done | rfl | (simp; done) | (simp; omega) | omega | (simp_all; done) | (simp_all; omega))
               · first | rfl | (try simp (disch := omega) only [push_cast, Int.reduceToNat, Int.reduceLT, Int.reduceLE, Int.reduceAdd, Int.reduceSub, Int.reduceMul, Int.reduceNeg, Int.reduceEq, reduceCtorEq, Nat.reduceLeDiff, Nat.reduceLT, Nat.reduceEqDiff, Nat.reduceAdd, Nat.reduceMul, Nat.reduceSub, Int.cast_ofNat_Int, and1, and3, opc_get', List.length_map, Hp.join_set, Hp.get_join, Option.some_or, u8_set, i64_set, getD_u8, i64_get, hga, hgb, la, lb, hE1, hV1, hle, hlt2, row, all_u8]) <;> (first | done | rfl | (simp; done) | (simp; omega) | omega | (simp_all; done) | (simp_all; omega))
               · exact ⟨by omega, by omega, hD, hj, la, lb, hS⟩
     ·
      all_goals try (cases hc; done)
      all_goals try simp only [push_cast] at hc
      all_goals try (exfalso; omega)
      all_goals
       refine Sk ?_
       refine WS.seq (WS.seq ?_)
       refine R0 fun K hK => ?_
       try simp (maxSteps := 4000000) (disch := omega) only [push_cast, Nat.reduceLT, Nat.reduceEqDiff, Nat.reduceAdd, Nat.reduceMul, Nat.reduceSub, Nat.reduceLeDiff, Int.reduceToNat, Int.reduceLT, Int.reduceLE, Int.reduceAdd, Int.reduceSub, Int.reduceMul, Int.reduceNeg, Int.reduceEq, reduceCtorEq, Int.cast_ofNat_Int, Hp.get_set, and1, and3, opc_get', List.length_map, Hp.join_set, Hp.get_join, Option.some_or, u8_set, i64_set, getD_u8, i64_get, hga, hgb, la, lb]
       (repeat refine And.intro (by first | omega | (simp; done) | (simp_all; done) | (simp_all; omega)) ?_)
       refine Qk hK [0, 3, 5, 6, 7, 8, 9, 84] ?_
       clear hK K
       refine CI rfl (fun hc => ?_) (fun hc => ?_)
       ·
        all_goals try (cases hc; done)
        all_goals try simp only [push_cast] at hc
        all_goals try (exfalso; omega)
        all_goals
         refine R0 fun K hK => ?_
         try simp (maxSteps := 4000000) (disch := omega) only [push_cast, Nat.reduceLT, Nat.reduceEqDiff, Hp.get_set, and1, and3, opc_get', List.length_map, Hp.join_set, Hp.get_join, Option.some_or, u8_set, i64_set, getD_u8, i64_get, hga, hgb, la, lb]
         refine callF (sync_spec (D := D) _ (by have := hS.w; omega) hD) hj (fun v σ2 h hj2 => ?_)
         obtain ⟨rfl, hD2⟩ := h
         obtain ⟨hse, hS2⟩ := hS.sync hf2
         try simp (maxSteps := 4000000) (disch := omega) only [push_cast, Nat.reduceLT, Nat.reduceEqDiff, Hp.get_set, and1, and3, opc_get', List.length_map, Hp.join_set, Hp.get_join, Option.some_or, u8_set, i64_set, getD_u8, i64_get, hga, hgb, la, lb]
         refine Qk hK [0, 3, 5, 6, 7, 8, 9] ?_
         clear hK K
         refine WS.seq ?_
         refine S_any (d := d) (ga := ga) (gb := gb) (i := i + 1) (by
           first
           | exact ⟨σ2, _, _, _, _, rfl, hD2, (hj2.upd la).upd (by simp only [Hp.get_set, hab, if_false]; exact lb), by simp only [Hp.get_set, hab, if_true, if_false], by simp only [Hp.get_set, if_true], hS.put hf2 hs4 (oat ops i).by_ (z' := z.set (lowN (oat ops i).file 2) ((lowN (oat ops i).sector 4 : Nat) + 1)) (by rw [if_pos (by omega)])⟩
           | exact ⟨σ2, _, _, _, _, rfl, hD2, hj2.upd la, by simp only [Hp.get_set, if_true], by simp only [Hp.get_set, hab, if_false]; exact lb, hS.put hf2 hs4 (oat ops i).by_ (z' := z) (by rw [if_neg (by omega)]; exact set_self _ _ (by omega))⟩
           | exact ⟨σ2, _, _, _, _, rfl, hD2, hj2, la, lb, hS2.up⟩
           | exact ⟨σd, _, _, _, _, rfl, hD, hj, la, lb, hS.up⟩) (fun σd τl D tab z hD hj la lb hS => ?_)
         have hlt := hS.lt
         have hlz := hS.lz
         have hle := hS.len hf2
         rcases hS.read hf2 hs4 with ⟨hlt2, hE1, hV1⟩ | ⟨hlt2, hE1, hV1⟩
         all_goals
          refine R0 fun K hK => ?_
          try simp (maxSteps := 4000000) (disch := omega) only [push_cast, Nat.reduceLT, Nat.reduceEqDiff, Nat.reduceAdd, Nat.reduceMul, Nat.reduceSub, Nat.reduceLeDiff, Hp.get_set, and1, and3, opc_get', List.length_map, Hp.join_set, Hp.get_join, Option.some_or, u8_set, i64_set, getD_u8, i64_get, hga, hgb, la, lb, hE1, hV1, hle, hlt2, row, all_u8]
          refine callS (read_spec (D := D) _ _ hS.ok (hD.mono (HSub.join_left hj))) (fun v τ2 h => ?_)
          obtain ⟨rfl, rfl⟩ := h
          try simp (maxSteps := 4000000) (disch := omega) only [push_cast, Nat.reduceLT, Nat.reduceEqDiff, Nat.reduceAdd, Nat.reduceMul, Nat.reduceSub, Nat.reduceLeDiff, Hp.get_set, and1, and3, opc_get', List.length_map, Hp.join_set, Hp.get_join, Option.some_or, u8_set, i64_set, getD_u8, i64_get, hga, hgb, la, lb, hE1, hV1, hle, hlt2, row, all_u8]
          refine Qk hK [0, 3, 5, 6, 7, 8, 9, 10, 11] ?_
          clear hK K
          refine WS.seq ?_
          refine RD [] [28, 1000031] fo (by kernel_rfl) fun K hK => ?_
          try simp (maxSteps := 4000000) (disch := omega) only [push_cast, Nat.reduceLT, Nat.reduceEqDiff, Nat.reduceAdd, Nat.reduceMul, Nat.reduceSub, Nat.reduceLeDiff, Int.reduceToNat, Int.reduceLT, Int.reduceLE, Int.reduceAdd, Int.reduceSub, Int.reduceMul, Int.reduceNeg, Int.reduceEq, reduceCtorEq, Int.cast_ofNat_Int, Hp.get_set, and1, and3, opc_get', List.length_map, Hp.join_set, Hp.get_join, Option.some_or, u8_set, i64_set, getD_u8, i64_get, hga, hgb, la, lb, hE1, hV1, hle, hlt2, row, all_u8]
          (repeat refine And.intro (by first | omega | (simp; done) | (simp_all; done) | (simp_all; omega)) ?_)
          try simp (maxSteps := 4000000) (disch := omega) only [push_cast, Nat.reduceLT, Nat.reduceEqDiff, Nat.reduceAdd, Nat.reduceMul, Nat.reduceSub, Nat.reduceLeDiff, Int.reduceToNat, Int.reduceLT, Int.reduceLE, Int.reduceAdd, Int.reduceSub, Int.reduceMul, Int.reduceNeg, Int.reduceEq, reduceCtorEq, Int.cast_ofNat_Int, Hp.get_set, and1, and3, opc_get', List.length_map, Hp.join_set, Hp.get_join, Option.some_or, u8_set, i64_set, getD_u8, i64_get, hga, hgb, la, lb, hE1, hV1, hle, hlt2, row, all_u8]
          (repeat refine And.intro (by first | omega | (simp; done) | (simp_all; done) | (simp_all; omega)) ?_)
          refine callR ((len_R _ hD).sub (HSub.join_left hj)) rfl ?_
          try simp (maxSteps := 4000000) (disch := omega) only [push_cast, Nat.reduceLT, Nat.reduceEqDiff, Nat.reduceAdd, Nat.reduceMul, Nat.reduceSub, Nat.reduceLeDiff, Int.reduceToNat, Int.reduceLT, Int.reduceLE, Int.reduceAdd, Int.reduceSub, Int.reduceMul, Int.reduceNeg, Int.reduceEq, reduceCtorEq, Int.cast_ofNat_Int, Hp.get_set, and1, and3, opc_get', List.length_map, Hp.join_set, Hp.get_join, Option.some_or, u8_set, i64_set, getD_u8, i64_get, hga, hgb, la, lb, hE1, hV1, hle, hlt2, row, all_u8]
          (repeat refine And.intro (by first | omega | (simp; done) | (simp_all; done) | (simp_all; omega)) ?_)
          try simp (maxSteps := 4000000) (disch := omega) only [push_cast, Nat.reduceLT, Nat.reduceEqDiff, Nat.reduceAdd, Nat.reduceMul, Nat.reduceSub, Nat.reduceLeDiff, Int.reduceToNat, Int.reduceLT, Int.reduceLE, Int.reduceAdd, Int.reduceSub, Int.reduceMul, Int.reduceNeg, Int.reduceEq, reduceCtorEq, Int.cast_ofNat_Int, Hp.get_set, and1, and3, opc_get', List.length_map, Hp.join_set, Hp.get_join, Option.some_or, u8_set, i64_set, getD_u8, i64_get, hga, hgb, la, lb, hE1, hV1, hle, hlt2, row, all_u8]
          (repeat refine And.intro (by first | omega | (simp; done) | (simp_all; done) | (simp_all; omega)) ?_)
          all_goals try (first | refine guardT 102 rfl (fun hc => ?_) (fun hc => ?_) | refine guardF 102 rfl (fun hc => ?_) (fun hc => ?_)) <;> try simp only [push_cast] at hc
          all_goals try (exfalso; omega)
          all_goals try simp (maxSteps := 4000000) (disch := omega) only [push_cast, Nat.reduceLT, Nat.reduceEqDiff, Nat.reduceAdd, Nat.reduceMul, Nat.reduceSub, Nat.reduceLeDiff, Int.reduceToNat, Int.reduceLT, Int.reduceLE, Int.reduceAdd, Int.reduceSub, Int.reduceMul, Int.reduceNeg, Int.reduceEq, reduceCtorEq, Int.cast_ofNat_Int, Hp.get_set, and1, and3, opc_get', List.length_map, Hp.join_set, Hp.get_join, Option.some_or, u8_set, i64_set, getD_u8, i64_get, hga, hgb, la, lb, hE1, hV1, hle, hlt2, row, all_u8]
          all_goals (repeat refine And.intro (by first | omega | (simp; done) | (simp_all; done) | (simp_all; omega)) ?_)
          all_goals try simp (maxSteps := 4000000) (disch := omega) only [push_cast, Nat.reduceLT, Nat.reduceEqDiff, Nat.reduceAdd, Nat.reduceMul, Nat.reduceSub, Nat.reduceLeDiff, Int.reduceToNat, Int.reduceLT, Int.reduceLE, Int.reduceAdd, Int.reduceSub, Int.reduceMul, Int.reduceNeg, Int.reduceEq, reduceCtorEq, Int.cast_ofNat_Int, Hp.get_set, and1, and3, opc_get', List.length_map, Hp.join_set, Hp.get_join, Option.some_or, u8_set, i64_set, getD_u8, i64_get, hga, hgb, la, lb, hE1, hV1, hle, hlt2, row, all_u8]
          all_goals (repeat refine And.intro (by first | omega | (simp; done) | (simp_all; done) | (simp_all; omega)) ?_)
          all_goals try (first | refine guardT 112 rfl (fun hc => ?_) (fun hc => ?_) | refine guardF 112 rfl (fun hc => ?_) (fun hc => ?_)) <;> try simp only [push_cast] at hc
          all_goals try (exfalso; omega)
          all_goals try simp (maxSteps := 4000000) (disch := omega) only [push_cast, Nat.reduceLT, Nat.reduceEqDiff, Nat.reduceAdd, Nat.reduceMul, Nat.reduceSub, Nat.reduceLeDiff, Int.reduceToNat, Int.reduceLT, Int.reduceLE, Int.reduceAdd, Int.reduceSub, Int.reduceMul, Int.reduceNeg, Int.reduceEq, reduceCtorEq, Int.cast_ofNat_Int, Hp.get_set, and1, and3, opc_get', List.length_map, Hp.join_set, Hp.get_join, Option.some_or, u8_set, i64_set, getD_u8, i64_get, hga, hgb, la, lb, hE1, hV1, hle, hlt2, row, all_u8]
          all_goals (repeat refine And.intro (by first | omega | (simp; done) | (simp_all; done) | (simp_all; omega)) ?_)
          all_goals try simp (maxSteps := 4000000) (disch := omega) only [push_cast, Nat.reduceLT, Nat.reduceEqDiff, Nat.reduceAdd, Nat.reduceMul, Nat.reduceSub, Nat.reduceLeDiff, Int.reduceToNat, Int.reduceLT, Int.reduceLE, Int.reduceAdd, Int.reduceSub, Int.reduceMul, Int.reduceNeg, Int.reduceEq, reduceCtorEq, Int.cast_ofNat_Int, Hp.get_set, and1, and3, opc_get', List.length_map, Hp.join_set, Hp.get_join, Option.some_or, u8_set, i64_set, getD_u8, i64_get, hga, hgb, la, lb, hE1, hV1, hle, hlt2, row, all_u8]
          all_goals (repeat refine And.intro (by first | omega | (simp; done) | (simp_all; done) | (simp_all; omega)) ?_)
          all_goals try (first | refine guardT 115 rfl (fun hc => ?_) (fun hc => ?_) | refine guardF 115 rfl (fun hc => ?_) (fun hc => ?_)) <;> try simp only [push_cast] at hc
          all_goals try (exfalso; omega)
          all_goals try simp (maxSteps := 4000000) (disch := omega) only [push_cast, Nat.reduceLT, Nat.reduceEqDiff, Nat.reduceAdd, Nat.reduceMul, Nat.reduceSub, Nat.reduceLeDiff, Int.reduceToNat, Int.reduceLT, Int.reduceLE, Int.reduceAdd, Int.reduceSub, Int.reduceMul, Int.reduceNeg, Int.reduceEq, reduceCtorEq, Int.cast_ofNat_Int, Hp.get_set, and1, and3, opc_get', List.length_map, Hp.join_set, Hp.get_join, Option.some_or, u8_set, i64_set, getD_u8, i64_get, hga, hgb, la, lb, hE1, hV1, hle, hlt2, row, all_u8]
          all_goals (repeat refine And.intro (by first | omega | (simp; done) | (simp_all; done) | (simp_all; omega)) ?_)
          all_goals try simp (maxSteps := 4000000) (disch := omega) only [push_cast, Nat.reduceLT, Nat.reduceEqDiff, Nat.reduceAdd, Nat.reduceMul, Nat.reduceSub, Nat.reduceLeDiff, Int.reduceToNat, Int.reduceLT, Int.reduceLE, Int.reduceAdd, Int.reduceSub, Int.reduceMul, Int.reduceNeg, Int.reduceEq, reduceCtorEq, Int.cast_ofNat_Int, Hp.get_set, and1, and3, opc_get', List.length_map, Hp.join_set, Hp.get_join, Option.some_or, u8_set, i64_set, getD_u8, i64_get, hga, hgb, la, lb, hE1, hV1, hle, hlt2, row, all_u8]
          all_goals (repeat refine And.intro (by first | omega | (simp; done) | (simp_all; done) | (simp_all; omega)) ?_)
          all_goals try (
            refine callP (full_spec _ 0) rfl ?_)
          all_goals try simp (maxSteps := 4000000) (disch := omega) only [push_cast, Nat.reduceLT, Nat.reduceEqDiff, Nat.reduceAdd, Nat.reduceMul, Nat.reduceSub, Nat.reduceLeDiff, Int.reduceToNat, Int.reduceLT, Int.reduceLE, Int.reduceAdd, Int.reduceSub, Int.reduceMul, Int.reduceNeg, Int.reduceEq, reduceCtorEq, Int.cast_ofNat_Int, Hp.get_set, and1, and3, opc_get', List.length_map, Hp.join_set, Hp.get_join, Option.some_or, u8_set, i64_set, getD_u8, i64_get, hga, hgb, la, lb, hE1, hV1, hle, hlt2, row, all_u8]
          all_goals (repeat refine And.intro (by first | omega | (simp; done) | (simp_all; done) | (simp_all; omega)) ?_)
          all_goals try simp (maxSteps := 4000000) (disch := omega) only [push_cast, Nat.reduceLT, Nat.reduceEqDiff, Nat.reduceAdd, Nat.reduceMul, Nat.reduceSub, Nat.reduceLeDiff, Int.reduceToNat, Int.reduceLT, Int.reduceLE, Int.reduceAdd, Int.reduceSub, Int.reduceMul, Int.reduceNeg, Int.reduceEq, reduceCtorEq, Int.cast_ofNat_Int, Hp.get_set, and1, and3, opc_get', List.length_map, Hp.join_set, Hp.get_join, Option.some_or, u8_set, i64_set, getD_u8, i64_get, hga, hgb, la, lb, hE1, hV1, hle, hlt2, row, all_u8]
          all_goals (repeat refine And.intro (by first | omega | (simp; done) | (simp_all; done) | (simp_all; omega)) ?_)
          all_goals
           refine Qk hK [0, 3, 5, 6, 7, 127] ?_
           clear hK K
           refine CI rfl (fun hc => ?_) (fun hc => ?_)
           ·
            all_goals try (cases hc; done)
            all_goals try simp only [push_cast] at hc
            all_goals try (exfalso; omega)
            all_goals
             refine WS.seq ?_
             refine A1 [2] (by decide) ?_
             refine Rt ?_
             simp only [push_cast]
             refine hQ0 _ _ _ ?_
             try simp (maxSteps := 4000000) only [push_cast, Int.reduceToNat, Int.reduceLT, Int.reduceLE, Int.reduceAdd, Int.reduceSub, Int.reduceMul, Int.reduceNeg, Int.reduceEq, reduceCtorEq, Nat.reduceLeDiff, Nat.reduceLT, Nat.reduceEqDiff, Nat.reduceAdd, Nat.reduceMul, Nat.reduceSub, Int.cast_ofNat_Int, and1, and3, opc_get', List.length_map, Hp.join_set, Hp.get_join, Option.some_or, u8_set, i64_set, getD_u8, i64_get, hga, hgb, la, lb, hE1, hV1, hle, hlt2, row, all_u8]
             first | done | rfl | (simp; done) | (simp_all; done) | (simp_all; omega)
           all_goals try (cases hc; done)
           all_goals try simp only [push_cast] at hc
           all_goals try (exfalso; omega)
           all_goals
            refine Sk ?_
            simp only [push_cast, WS, Nat.reduceEqDiff]
            refine hK1 _ _ ?_
            clear hK1
            try clear K1
            refine WS_keep [0, 3, 5, 6, 7] _ ?_
            refine R0 fun K hK => ?_
            try simp (maxSteps := 4000000) (disch := omega) only [push_cast, Nat.reduceLT, Nat.reduceEqDiff, Int.reduceToNat, Int.reduceLT, Int.reduceLE, Int.reduceAdd, Int.reduceSub, Int.reduceMul, Int.reduceNeg, Int.reduceEq, reduceCtorEq, Int.cast_ofNat_Int, Hp.get_set, and1, and3, opc_get', List.length_map, Hp.join_set, Hp.get_join, Option.some_or, u8_set, i64_set, getD_u8, i64_get, hga, hgb, la, lb, hE1, hV1, hle, hlt2, row, all_u8]
            (repeat refine And.intro (by first | omega | (simp; done) | (simp_all; done) | (simp_all; omega)) ?_)
            refine Qk hK [0, 3, 5, 6, 7] ?_
            clear hK K
            refine Ag (hM0 _ _ ?_)
            refine ⟨_, ?_, i + 1, σd, τl, D, tab, z,  rfl, ?_, ?_, ?_⟩
            · first | omega | (simp; done) | (simp_all; done) | (simp_all; omega)
            · (try simp (disch := omega) only [push_cast, Int.reduceToNat, Int.reduceLT, Int.reduceLE, Int.reduceAdd, Int.reduceSub, Int.reduceMul, Int.reduceNeg, Int.reduceEq, reduceCtorEq, Nat.reduceLeDiff, Nat.reduceLT, Nat.reduceEqDiff, Nat.reduceAdd, Nat.reduceMul, Nat.reduceSub, Int.cast_ofNat_Int, and1, and3, opc_get', List.length_map, Hp.join_set, Hp.get_join, Option.some_or, u8_set, i64_set, getD_u8, i64_get, hga, hgb, la, lb, hE1, hV1, hle, hlt2, row, all_u8]) <;> (first | done | rfl | (simp; done) | (simp; omega) | omega | (simp_all; done) | (simp_all; omega))
            · first | rfl | (try simp (disch := omega) only [push_cast, Int.reduceToNat, Int.reduceLT, Int.reduceLE, Int.reduceAdd, Int.reduceSub, Int.reduceMul, Int.reduceNeg, Int.reduceEq, reduceCtorEq, Nat.reduceLeDiff, Nat.reduceLT, Nat.reduceEqDiff, Nat.reduceAdd, Nat.reduceMul, Nat.reduceSub, Int.cast_ofNat_Int, and1, and3, opc_get', List.length_map, Hp.join_set, Hp.get_join, Option.some_or, u8_set, i64_set, getD_u8, i64_get, hga, hgb, la, lb, hE1, hV1, hle, hlt2, row, all_u8]) <;> (first | done | rfl | (simp; done) | (simp; omega) | omega | (simp_all; done) | (simp_all; omega))
            · exact ⟨by omega, by omega, hD, hj, la, lb, hS⟩
       ·
        all_goals try (cases hc; done)
        all_goals try simp only [push_cast] at hc
        all_goals try (exfalso; omega)
        all_goals
         refine Sk ?_
         refine WS.seq ?_
         refine S_any (d := d) (ga := ga) (gb := gb) (i := i + 1) (by
           first
           | exact ⟨σ2, _, _, _, _, rfl, hD2, (hj2.upd la).upd (by simp only [Hp.get_set, hab, if_false]; exact lb), by simp only [Hp.get_set, hab, if_true, if_false], by simp only [Hp.get_set, if_true], hS.put hf2 hs4 (oat ops i).by_ (z' := z.set (lowN (oat ops i).file 2) ((lowN (oat ops i).sector 4 : Nat) + 1)) (by rw [if_pos (by omega)])⟩
           | exact ⟨σ2, _, _, _, _, rfl, hD2, hj2.upd la, by simp only [Hp.get_set, if_true], by simp only [Hp.get_set, hab, if_false]; exact lb, hS.put hf2 hs4 (oat ops i).by_ (z' := z) (by rw [if_neg (by omega)]; exact set_self _ _ (by omega))⟩
           | exact ⟨σ2, _, _, _, _, rfl, hD2, hj2, la, lb, hS2.up⟩
           | exact ⟨σd, _, _, _, _, rfl, hD, hj, la, lb, hS.up⟩) (fun σd τl D tab z hD hj la lb hS => ?_)
         have hlt := hS.lt
         have hlz := hS.lz
         have hle := hS.len hf2
         rcases hS.read hf2 hs4 with ⟨hlt2, hE1, hV1⟩ | ⟨hlt2, hE1, hV1⟩
         all_goals
          refine R0 fun K hK => ?_
          try simp (maxSteps := 4000000) (disch := omega) only [push_cast, Nat.reduceLT, Nat.reduceEqDiff, Nat.reduceAdd, Nat.reduceMul, Nat.reduceSub, Nat.reduceLeDiff, Hp.get_set, and1, and3, opc_get', List.length_map, Hp.join_set, Hp.get_join, Option.some_or, u8_set, i64_set, getD_u8, i64_get, hga, hgb, la, lb, hE1, hV1, hle, hlt2, row, all_u8]
          refine callS (read_spec (D := D) _ _ hS.ok (hD.mono (HSub.join_left hj))) (fun v τ2 h => ?_)
          obtain ⟨rfl, rfl⟩ := h
          try simp (maxSteps := 4000000) (disch := omega) only [push_cast, Nat.reduceLT, Nat.reduceEqDiff, Nat.reduceAdd, Nat.reduceMul, Nat.reduceSub, Nat.reduceLeDiff, Hp.get_set, and1, and3, opc_get', List.length_map, Hp.join_set, Hp.get_join, Option.some_or, u8_set, i64_set, getD_u8, i64_get, hga, hgb, la, lb, hE1, hV1, hle, hlt2, row, all_u8]
          refine Qk hK [0, 3, 5, 6, 7, 8, 9, 10, 11] ?_
          clear hK K
          refine WS.seq ?_
          refine RD [] [28, 1000031] fo (by kernel_rfl) fun K hK => ?_
          try simp (maxSteps := 4000000) (disch := omega) only [push_cast, Nat.reduceLT, Nat.reduceEqDiff, Nat.reduceAdd, Nat.reduceMul, Nat.reduceSub, Nat.reduceLeDiff, Int.reduceToNat, Int.reduceLT, Int.reduceLE, Int.reduceAdd, Int.reduceSub, Int.reduceMul, Int.reduceNeg, Int.reduceEq, reduceCtorEq, Int.cast_ofNat_Int, Hp.get_set, and1, and3, opc_get', List.length_map, Hp.join_set, Hp.get_join, Option.some_or, u8_set, i64_set, getD_u8, i64_get, hga, hgb, la, lb, hE1, hV1, hle, hlt2, row, all_u8]
          (repeat refine And.intro (by first | omega | (simp; done) | (simp_all; done) | (simp_all; omega)) ?_)
          try simp (maxSteps := 4000000) (disch := omega) only [push_cast, Nat.reduceLT, Nat.reduceEqDiff, Nat.reduceAdd, Nat.reduceMul, Nat.reduceSub, Nat.reduceLeDiff, Int.reduceToNat, Int.reduceLT, Int.reduceLE, Int.reduceAdd, Int.reduceSub, Int.reduceMul, Int.reduceNeg, Int.reduceEq, reduceCtorEq, Int.cast_ofNat_Int, Hp.get_set, and1, and3, opc_get', List.length_map, Hp.join_set, Hp.get_join, Option.some_or, u8_set, i64_set, getD_u8, i64_get, hga, hgb, la, lb, hE1, hV1, hle, hlt2, row, all_u8]
          (repeat refine And.intro (by first | omega | (simp; done) | (simp_all; done) | (simp_all; omega)) ?_)
          refine callR ((len_R _ hD).sub (HSub.join_left hj)) rfl ?_
          try simp (maxSteps := 4000000) (disch := omega) only [push_cast, Nat.reduceLT, Nat.reduceEqDiff, Nat.reduceAdd, Nat.reduceMul, Nat.reduceSub, Nat.reduceLeDiff, Int.reduceToNat, Int.reduceLT, Int.reduceLE, Int.reduceAdd, Int.reduceSub, Int.reduceMul, Int.reduceNeg, Int.reduceEq, reduceCtorEq, Int.cast_ofNat_Int, Hp.get_set, and1, and3, opc_get', List.length_map, Hp.join_set, Hp.get_join, Option.some_or, u8_set, i64_set, getD_u8, i64_get, hga, hgb, la, lb, hE1, hV1, hle, hlt2, row, all_u8]
          (repeat refine And.intro (by first | omega | (simp; done) | (simp_all; done) | (simp_all; omega)) ?_)
          try simp (maxSteps := 4000000) (disch := omega) only [push_cast, Nat.reduceLT, Nat.reduceEqDiff, Nat.reduceAdd, Nat.reduceMul, Nat.reduceSub, Nat.reduceLeDiff, Int.reduceToNat, Int.reduceLT, Int.reduceLE, Int.reduceAdd, Int.reduceSub, Int.reduceMul, Int.reduceNeg, Int.reduceEq, reduceCtorEq, Int.cast_ofNat_Int, Hp.get_set, and1, and3, opc_get', List.length_map, Hp.join_set, Hp.get_join, Option.some_or, u8_set, i64_set, getD_u8, i64_get, hga, hgb, la, lb, hE1, hV1, hle, hlt2, row, all_u8]
          (repeat refine And.intro (by first | omega | (simp; done) | (simp_all; done) | (simp_all; omega)) ?_)
          all_goals try (first | refine guardT 102 rfl (fun hc => ?_) (fun hc => ?_) | refine guardF 102 rfl (fun hc => ?_) (fun hc => ?_)) <;> try simp only [push_cast] at hc
          all_goals try (exfalso; omega)
          all_goals try simp (maxSteps := 4000000) (disch := omega) only [push_cast, Nat.reduceLT, Nat.reduceEqDiff, Nat.reduceAdd, Nat.reduceMul, Nat.reduceSub, Nat.reduceLeDiff, Int.reduceToNat, Int.reduceLT, Int.reduceLE, Int.reduceAdd, Int.reduceSub, Int.reduceMul, Int.reduceNeg, Int.reduceEq, reduceCtorEq, Int.cast_ofNat_Int, Hp.get_set, and1, and3, opc_get', List.length_map, Hp.join_set, Hp.get_join, Option.some_or, u8_set, i64_set, getD_u8, i64_get, hga, hgb, la, lb, hE1, hV1, hle, hlt2, row, all_u8]
          all_goals (repeat refine And.intro (by first | omega | (simp; done) | (simp_all; done) | (simp_all; omega)) ?_)
          all_goals try simp (maxSteps := 4000000) (disch := omega) only [push_cast, Nat.reduceLT, Nat.reduceEqDiff, Nat.reduceAdd, Nat.reduceMul, Nat.reduceSub, Nat.reduceLeDiff, Int.reduceToNat, Int.reduceLT, Int.reduceLE, Int.reduceAdd, Int.reduceSub, Int.reduceMul, Int.reduceNeg, Int.reduceEq, reduceCtorEq, Int.cast_ofNat_Int, Hp.get_set, and1, and3, opc_get', List.length_map, Hp.join_set, Hp.get_join, Option.some_or, u8_set, i64_set, getD_u8, i64_get, hga, hgb, la, lb, hE1, hV1, hle, hlt2, row, all_u8]
          all_goals (repeat refine And.intro (by first | omega | (simp; done) | (simp_all; done) | (simp_all; omega)) ?_)
          all_goals try (first | refine guardT 112 rfl (fun hc => ?_) (fun hc => ?_) | refine guardF 112 rfl (fun hc => ?_) (fun hc => ?_)) <;> try simp only [push_cast] at hc
          all_goals try (exfalso; omega)
          all_goals try simp (maxSteps := 4000000) (disch := omega) only [push_cast, Nat.reduceLT, Nat.reduceEqDiff, Nat.reduceAdd, Nat.reduceMul, Nat.reduceSub, Nat.reduceLeDiff, Int.reduceToNat, Int.reduceLT, Int.reduceLE, Int.reduceAdd, Int.reduceSub, Int.reduceMul, Int.reduceNeg, Int.reduceEq, reduceCtorEq, Int.cast_ofNat_Int, Hp.get_set, and1, and3, opc_get', List.length_map, Hp.join_set, Hp.get_join, Option.some_or, u8_set, i64_set, getD_u8, i64_get, hga, hgb, la, lb, hE1, hV1, hle, hlt2, row, all_u8]
          all_goals (repeat refine And.intro (by first | omega | (simp; done) | (simp_all; done) | (simp_all; omega)) ?_)
          all_goals try simp (maxSteps := 4000000) (disch := omega) only [push_cast, Nat.reduceLT, Nat.reduceEqDiff, Nat.reduceAdd, Nat.reduceMul, Nat.reduceSub, Nat.reduceLeDiff, Int.reduceToNat, Int.reduceLT, Int.reduceLE, Int.reduceAdd, Int.reduceSub, Int.reduceMul, Int.reduceNeg, Int.reduceEq, reduceCtorEq, Int.cast_ofNat_Int, Hp.get_set, and1, and3, opc_get', List.length_map, Hp.join_set, Hp.get_join, Option.some_or, u8_set, i64_set, getD_u8, i64_get, hga, hgb, la, lb, hE1, hV1, hle, hlt2, row, all_u8]
          all_goals (repeat refine And.intro (by first | omega | (simp; done) | (simp_all; done) | (simp_all; omega)) ?_)
          all_goals try (first | refine guardT 115 rfl (fun hc => ?_) (fun hc => ?_) | refine guardF 115 rfl (fun hc => ?_) (fun hc => ?_)) <;> try simp only [push_cast] at hc
          all_goals try (exfalso; omega)
          all_goals try simp (maxSteps := 4000000) (disch := omega) only [push_cast, Nat.reduceLT, Nat.reduceEqDiff, Nat.reduceAdd, Nat.reduceMul, Nat.reduceSub, Nat.reduceLeDiff, Int.reduceToNat, Int.reduceLT, Int.reduceLE, Int.reduceAdd, Int.reduceSub, Int.reduceMul, Int.reduceNeg, Int.reduceEq, reduceCtorEq, Int.cast_ofNat_Int, Hp.get_set, and1, and3, opc_get', List.length_map, Hp.join_set, Hp.get_join, Option.some_or, u8_set, i64_set, getD_u8, i64_get, hga, hgb, la, lb, hE1, hV1, hle, hlt2, row, all_u8]
          all_goals (repeat refine And.intro (by first | omega | (simp; done) | (simp_all; done) | (simp_all; omega)) ?_)
          all_goals try simp (maxSteps := 4000000) (disch := omega) only [push_cast, Nat.reduceLT, Nat.reduceEqDiff, Nat.reduceAdd, Nat.reduceMul, Nat.reduceSub, Nat.reduceLeDiff, Int.reduceToNat, Int.reduceLT, Int.reduceLE, Int.reduceAdd, Int.reduceSub, Int.reduceMul, Int.reduceNeg, Int.reduceEq, reduceCtorEq, Int.cast_ofNat_Int, Hp.get_set, and1, and3, opc_get', List.length_map, Hp.join_set, Hp.get_join, Option.some_or, u8_set, i64_set, getD_u8, i64_get, hga, hgb, la, lb, hE1, hV1, hle, hlt2, row, all_u8]
          all_goals (repeat refine And.intro (by first | omega | (simp; done) | (simp_all; done) | (simp_all; omega)) ?_)
          all_goals try (
            refine callP (full_spec _ 0) rfl ?_)
          all_goals try simp (maxSteps := 4000000) (disch := omega) only [push_cast, Nat.reduceLT, Nat.reduceEqDiff, Nat.reduceAdd, Nat.reduceMul, Nat.reduceSub, Nat.reduceLeDiff, Int.reduceToNat, Int.reduceLT, Int.reduceLE, Int.reduceAdd, Int.reduceSub, Int.reduceMul, Int.reduceNeg, Int.reduceEq, reduceCtorEq, Int.cast_ofNat_Int, Hp.get_set, and1, and3, opc_get', List.length_map, Hp.join_set, Hp.get_join, Option.some_or, u8_set, i64_set, getD_u8, i64_get, hga, hgb, la, lb, hE1, hV1, hle, hlt2, row, all_u8]
          all_goals (repeat refine And.intro (by first | omega | (simp; done) | (simp_all; done) | (simp_all; omega)) ?_)
          all_goals try simp (maxSteps := 4000000) (disch := omega) only [push_cast, Nat.reduceLT, Nat.reduceEqDiff, Nat.reduceAdd, Nat.reduceMul, Nat.reduceSub, Nat.reduceLeDiff, Int.reduceToNat, Int.reduceLT, Int.reduceLE, Int.reduceAdd, Int.reduceSub, Int.reduceMul, Int.reduceNeg, Int.reduceEq, reduceCtorEq, Int.cast_ofNat_Int, Hp.get_set, and1, and3, opc_get', List.length_map, Hp.join_set, Hp.get_join, Option.some_or, u8_set, i64_set, getD_u8, i64_get, hga, hgb, la, lb, hE1, hV1, hle, hlt2, row, all_u8]
          all_goals (repeat refine And.intro (by first | omega | (simp; done) | (simp_all; done) | (simp_all; omega)) ?_)
          all_goals
           refine Qk hK [0, 3, 5, 6, 7, 127] ?_
           clear hK K
           refine CI rfl (fun hc => ?_) (fun hc => ?_)
           ·
            all_goals try (cases hc; done)
            all_goals try simp only [push_cast] at hc
            all_goals try (exfalso; omega)
            all_goals
             refine WS.seq ?_
             refine A1 [2] (by decide) ?_
             refine Rt ?_
             simp only [push_cast]
             refine hQ0 _ _ _ ?_
             try simp (maxSteps := 4000000) only [push_cast, Int.reduceToNat, Int.reduceLT, Int.reduceLE, Int.reduceAdd, Int.reduceSub, Int.reduceMul, Int.reduceNeg, Int.reduceEq, reduceCtorEq, Nat.reduceLeDiff, Nat.reduceLT, Nat.reduceEqDiff, Nat.reduceAdd, Nat.reduceMul, Nat.reduceSub, Int.cast_ofNat_Int, and1, and3, opc_get', List.length_map, Hp.join_set, Hp.get_join, Option.some_or, u8_set, i64_set, getD_u8, i64_get, hga, hgb, la, lb, hE1, hV1, hle, hlt2, row, all_u8]
             first | done | rfl | (simp; done) | (simp_all; done) | (simp_all; omega)
           all_goals try (cases hc; done)
           all_goals try simp only [push_cast] at hc
           all_goals try (exfalso; omega)
           all_goals
            refine Sk ?_
            simp only [push_cast, WS, Nat.reduceEqDiff]
            refine hK1 _ _ ?_
            clear hK1
            try clear K1
            refine WS_keep [0, 3, 5, 6, 7] _ ?_
            refine R0 fun K hK => ?_
            try simp (maxSteps := 4000000) (disch := omega) only [push_cast, Nat.reduceLT, Nat.reduceEqDiff, Int.reduceToNat, Int.reduceLT, Int.reduceLE, Int.reduceAdd, Int.reduceSub, Int.reduceMul, Int.reduceNeg, Int.reduceEq, reduceCtorEq, Int.cast_ofNat_Int, Hp.get_set, and1, and3, opc_get', List.length_map, Hp.join_set, Hp.get_join, Option.some_or, u8_set, i64_set, getD_u8, i64_get, hga, hgb, la, lb, hE1, hV1, hle, hlt2, row, all_u8]
            (repeat refine And.intro (by first | omega | (simp; done) | (simp_all; done) | (simp_all; omega)) ?_)
            refine Qk hK [0, 3, 5, 6, 7] ?_
            clear hK K
            refine Ag (hM0 _ _ ?_)
            refine ⟨_, ?_, i + 1, σd, τl, D, tab, z,  rfl, ?_, ?_, ?_⟩
            · first | omega | (simp; done) | (simp_all; done) | (simp_all; omega)
            · (try simp (disch := omega) only [push_cast, Int.reduceToNat, Int.reduceLT, Int.reduceLE, Int.reduceAdd, Int.reduceSub, Int.reduceMul, Int.reduceNeg, Int.reduceEq, reduceCtorEq, Nat.reduceLeDiff, Nat.reduceLT, Nat.reduceEqDiff, Nat.reduceAdd, Nat.reduceMul, Nat.reduceSub, Int.cast_ofNat_Int, and1, and3, opc_get', List.length_map, Hp.join_set, Hp.get_join, Option.some_or, u8_set, i64_set, getD_u8, i64_get, hga, hgb, la, lb, hE1, hV1, hle, hlt2, row, all_u8]) <;> (first | done | rfl | (simp; done) | (simp; omega) | omega | (simp_all; done) | (simp_all; omega))
            · first | rfl | (try simp (disch := omega) only [push_cast, Int.reduceToNat, Int.reduceLT, Int.reduceLE, Int.reduceAdd, Int.reduceSub, Int.reduceMul, Int.reduceNeg, Int.reduceEq, reduceCtorEq, Nat.reduceLeDiff, Nat.reduceLT, Nat.reduceEqDiff, Nat.reduceAdd, Nat.reduceMul, Nat.reduceSub, Int.cast_ofNat_Int, and1, and3, opc_get', List.length_map, Hp.join_set, Hp.get_join, Option.some_or, u8_set, i64_set, getD_u8, i64_get, hga, hgb, la, lb, hE1, hV1, hle, hlt2, row, all_u8]) <;> (first | done | rfl | (simp; done) | (simp; omega) | omega | (simp_all; done) | (simp_all; omega))
            · exact ⟨by omega, by omega, hD, hj, la, lb, hS⟩
end Go.Vm.Try
