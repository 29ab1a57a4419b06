/- Walks of functions of the program, and laws of what they compute. -/
import Derived.Test.YtbicfijohjijhaaFx
import Derived.Test.YtbicfijohjijhaaV1
set_option linter.unusedSimpArgs false
set_option linter.unusedVariables false
set_option maxHeartbeats 4000000
namespace Go.Vm.Try
open Go.Proofs
abbrev Sec := List UInt8
abbrev Plc := Int × Int
def row (b : Sec) : V := .sl 1 (b.map u8) .no
def plc (p : Plc) : V := .agg [.int .i64 p.1, .int .i64 p.2]
structure Disk where
  quota : Int
  sure : List (Plc × Sec)
  shown : List (Plc × Sec)
  size0 : Int
  size1 : Int
  waits : List (Plc × Sec)
  calls : Int
  plan : Bool
  left : Int
  down : Bool
def encM (m : List (Plc × Sec)) : List (V × V) := m.map fun e => (plc e.1, row e.2)
def encW (w : Plc × Sec) : V := .agg [.int .i64 w.1.1, .int .i64 w.1.2, row w.2]
def dcells (D : Disk) (g1 g2 : Nat) (w : V) : List V := [.int .i64 D.quota, .mp g1, .mp g2, .int .i64 D.size0, .int .i64 D.size1, w, .int .i64 D.calls, .bool D.plan, .int .i64 D.left, .bool D.down]
structure DAt (D : Disk) (d g1 g2 gt : Nat) (s1 : List Nat) (c1 : Nat) (s2 : List Nat) (c2 : Nat) (σ : Hp) : Prop where
  hd : σ.get d = some (.cells (dcells D g1 g2 (.sl 3 (D.waits.map encW) (.tk gt))))
  m1 : σ.get g1 = some (.map (encM D.sure) s1 c1)
  m2 : σ.get g2 = some (.map (encM D.shown) s2 c2)
  t : σ.get gt = some (.tok 3 D.waits.length)
  n1 : g1 ≠ d
  n2 : g2 ≠ d
  n3 : gt ≠ d
  n4 : g2 ≠ g1
  n5 : gt ≠ g1
  n6 : gt ≠ g2
def DiskAt (D : Disk) (d : Nat) (σ : Hp) : Prop := ∃ g1 g2 gt s1 c1 s2 c2, DAt D d g1 g2 gt s1 c1 s2 c2 σ
def askV (D : Disk) (file : Int) (wrong : Bool) : Int := if (decide (file < 0) || decide (2 ≤ file) || wrong) = true then 1 else if D.down = true then 51 else 0
def changeV (D : Disk) : Int := if (D.plan && decide (D.left = 0)) = true then 51 else 0
def changeD (D : Disk) : Disk := if (D.plan && decide (D.left = 0)) = true then { D with down := true } else { D with left := if D.plan = true then IntKind.i64.wrap (D.left - 1) else D.left, calls := IntKind.i64.wrap (D.calls + 1) }
theorem DAt.upd {D D' : Disk} {d g1 g2 gt : Nat} {s1 : List Nat} {c1 : Nat} {s2 : List Nat} {c2 : Nat} {σ : Hp} (h : DAt D d g1 g2 gt s1 c1 s2 c2 σ) (e1 : D'.sure = D.sure) (e2 : D'.shown = D.shown) (e3 : D'.waits = D.waits)
    {cs : List V} (hc : cs = dcells D' g1 g2 (.sl 3 (D'.waits.map encW) (.tk gt))) : DiskAt D' d (σ.set d (.cells cs)) := by
  subst hc
  refine ⟨g1, g2, gt, s1, c1, s2, c2, ⟨by simp, ?_, ?_, ?_, h.n1, h.n2, h.n3, h.n4, h.n5, h.n6⟩⟩
  · rw [Hp.get_set_ne _ _ h.n1, e1]; exact h.m1
  · rw [Hp.get_set_ne _ _ h.n2, e2]; exact h.m2
  · rw [Hp.get_set_ne _ _ h.n3, e3]; exact h.t
theorem set_none {σ : Hp} {g h : Nat} {b : Blk} (hn : (σ.set g b).get h = none) : h ≠ g ∧ σ.get h = none := by
  rw [Hp.get_set] at hn
  by_cases e : h = g
  · rw [if_pos e] at hn; cases hn
  · rw [if_neg e] at hn; exact ⟨e, hn⟩
def Disk.new (quota : Int) : Disk := ⟨quota, [], [], 0, 0, [], 0, false, 0, false⟩
def look (p : Plc) : List (Plc × Sec) → Option Sec
  | [] => none
  | (q, b) :: m => if q = p then some b else look p m
theorem keyB_plc (p q : Plc) : keyB (plc p) (plc q) = decide (p = q) := by
  obtain ⟨a, b⟩ := p; obtain ⟨c, d⟩ := q
  simp [plc, keyB, keysB, keyB1]
theorem findV_enc (p : Plc) (m : List (Plc × Sec)) : findV (plc p) (encM m) = (look p m).map row := by
  induction m with
  | nil => rfl
  | cons e m ih =>
    obtain ⟨q, b⟩ := e
    simp only [encM, List.map_cons, findV, keyB_plc, look] at ih ⊢
    by_cases h : q = p <;> simp [h, ih]
theorem findV_enc' (a b : Int) (m : List (Plc × Sec)) : findV (.agg [.int .i64 a, .int .i64 b]) (encM m) = (look (a, b) m).map row := findV_enc (a, b) m
theorem keysOk_enc (m : List (Plc × Sec)) : keysOk (.ints 2 .i64) (encM m) = true := by
  simp [keysOk, encM, isKey, plc, isInt]
def secV (o : Option Sec) : V := (o.map row).getD (.sl 0 [] .full)
theorem find_sec (a b : Int) (m : List (Plc × Sec)) : (findV (.agg [.int .i64 a, .int .i64 b]) (encM m)).getD (.sl 0 [] .full) = secV (look (a, b) m) := by rw [findV_enc']; rfl
theorem src_look (σ : Hp) (o : Option Sec) : srcOf σ 1 (secV o) = some ((o.getD []).map u8) := by cases o <;> rfl
theorem srcP_look (σ : Hp) (o : Option Sec) : srcP σ (secV o) = True := by cases o <;> simp [secV, srcP, row]
def zeros : Sec := List.replicate 128 0
def Disk.Ok (D : Disk) : Prop := (∀ e ∈ D.sure, e.2.length = 128) ∧ (∀ e ∈ D.shown, e.2.length = 128) ∧ (∀ e ∈ D.waits, e.2.length = 128) ∧ 0 ≤ D.size0 ∧ D.size0 ≤ 65536 ∧ 0 ≤ D.size1 ∧ D.size1 ≤ 65536
theorem i64w {n : Int} (h1 : -9223372036854775808 ≤ n) (h2 : n ≤ 9223372036854775807) : IntKind.i64.wrap n = n := by rw [IntKind.wrap_i64]; omega
theorem look_mem {p : Plc} {b : Sec} : ∀ {m : List (Plc × Sec)}, look p m = some b → (p, b) ∈ m
  | [], h => by cases h
  | (q, c) :: m, h => by
    rw [look] at h
    split at h
    · cases h; subst_vars; exact List.mem_cons_self ..
    · exact List.mem_cons_of_mem _ (look_mem h)
def readB (D : Disk) (p : Plc) : Sec := (look p D.shown).getD zeros
theorem readB_len {D : Disk} (h : D.Ok) (p : Plc) : (readB D p).length = 128 := by
  unfold readB
  cases hl : look p D.shown with
  | none => simp [zeros]
  | some b => exact h.2.1 _ (look_mem hl)
theorem put_read {D : Disk} (h : D.Ok) (p : Plc) : putL (List.replicate 128 [V.int .u8 0]).flatten 0 ((((look p D.shown).getD []).map u8).take 128) = (readB D p).map u8 := by
  unfold readB
  cases hl : look p D.shown with
  | none =>
    simp only [Option.getD_none, List.map_nil, List.take_nil, putL, zeros]
    simp [u8]
  | some b =>
    have hb : b.length = 128 := h.2.1 _ (look_mem hl)
    simp only [Option.getD_some]
    rw [List.take_of_length_le (by simp [hb]), putL_at (by simp [hb])]
    have : ((List.replicate 128 [V.int .u8 0]).flatten).length = 128 := by simp
    simp only [List.take_zero, List.nil_append, Nat.zero_add, List.length_map, hb]
    rw [List.drop_of_length_le (by rw [this]; omega), List.append_nil]
theorem one_take (l : List UInt8) (n : Nat) : ((l.map u8).take n).all V.one = true :=
   List.all_eq_true.2 fun x hx => by obtain ⟨b, _, rfl⟩ := List.mem_map.1 (List.mem_of_mem_take hx); rfl
theorem one_u8 (l : List UInt8) : (l.map u8).all V.one = true := by simp [u8, V.one]
theorem zlen : (List.replicate 128 [V.int .u8 0]).flatten.length = 128 := by simp
def dsize (D : Disk) (f : Int) : Int := if f = 0 then D.size0 else D.size1
def readE (D : Disk) (f s : Int) : Int := if askV D f (decide (s < 0)) = 0 then (if dsize D f ≤ s then 4 else 0) else askV D f (decide (s < 0))
def readV (D : Disk) (f s : Int) : V := if readE D f s = 0 then row (readB D (f, s)) else .sl 0 [] .full
theorem sub_set_del {σ : Hp} {g : Nat} (hg : σ.get g = none) (b : Blk) : ∀ k x, σ.get k = some x → ((σ.set g b).del g).get k = some x := fun k x h => by
  have : k ≠ g := fun e => by subst e; rw [hg] at h; cases h
  rw [Hp.get_del, if_neg this, Hp.get_set, if_neg this]; exact h
theorem ne_of_get {σ : Hp} {g d : Nat} {b : Blk} (hg : σ.get g = none) (hd : σ.get d = some b) : d ≠ g := fun e => by subst e; rw [hg] at hd; cases hd
def setL (p : Plc) (b : Sec) : List (Plc × Sec) → List (Plc × Sec)
  | [] => [(p, b)]
  | (q, c) :: m => if q = p then (p, b) :: m else (q, c) :: setL p b m
theorem setV_enc (p : Plc) (b : Sec) (m : List (Plc × Sec)) : setV (plc p) (row b) (encM m) = encM (setL p b m) := by
  induction m with
  | nil => rfl
  | cons e m ih =>
    obtain ⟨q, c⟩ := e
    simp only [encM, List.map_cons, setV, keyB_plc, setL] at ih ⊢
    by_cases h : q = p <;> simp [h, ih]

theorem DiskAt.of {D : Disk} {d g1 g2 gt : Nat} {σ : Hp} (hd : σ.get d = some (.cells (dcells D g1 g2 (.sl 3 (D.waits.map encW) (.tk gt))))) (m1 : ∃ s c, σ.get g1 = some (.map (encM D.sure) s c)) (m2 : ∃ s c, σ.get g2 = some (.map (encM D.shown) s c))
    (t : σ.get gt = some (.tok 3 D.waits.length)) (n1 : g1 ≠ d) (n2 : g2 ≠ d) (n3 : gt ≠ d) (n4 : g2 ≠ g1) (n5 : gt ≠ g1) (n6 : gt ≠ g2) : DiskAt D d σ := by
  obtain ⟨s1, c1, m1⟩ := m1
  obtain ⟨s2, c2, m2⟩ := m2
  exact ⟨g1, g2, gt, s1, c1, s2, c2, ⟨hd, m1, m2, t, n1, n2, n3, n4, n5, n6⟩⟩
def lenV (D : Disk) (f : Int) : Int := if f = 0 then D.size0 else if f = 1 then D.size1 else 0
theorem DAt.nes {D : Disk} {d g1 g2 gt : Nat} {s1 : List Nat} {c1 : Nat} {s2 : List Nat} {c2 : Nat} {σ : Hp} (h : DAt D d g1 g2 gt s1 c1 s2 c2 σ) :
    ((g1 = d) = False ∧ (d = g1) = False) ∧ ((g2 = d) = False ∧ (d = g2) = False) ∧ ((gt = d) = False ∧ (d = gt) = False) ∧ ((g2 = g1) = False ∧ (g1 = g2) = False) ∧ ((gt = g1) = False ∧ (g1 = gt) = False) ∧ ((gt = g2) = False ∧ (g2 = gt) = False) :=
  ⟨ne2 h.n1, ne2 h.n2, ne2 h.n3, ne2 h.n4, ne2 h.n5, ne2 h.n6⟩
theorem filecases (f : Int) : f = 0 ∨ f = 1 ∨ (f < 0 ∨ 2 ≤ f) := by omega
theorem askV_file {D : Disk} {f : Int} {w : Bool} (h : askV D f w = 0) : (f = 0 ∨ f = 1) ∧ w = false ∧ D.down = false := by
  unfold askV at h
  split at h
  · cases h
  · rename_i hn
    split at h
    · cases h
    · simp at hn
      refine ⟨by omega, hn.2, by simp_all⟩

theorem made_nil  : PSpec Go.Proofs.Try.prog 46 [.nilp] (.bool false) := by
 refine introP (n := 12) (rs := [.tmp 2]) (fn := Go.Proofs.Try.f46) (by rfl) rfl (by kernel_rfl) rfl rfl (Nat.le_of_ble_eq_true rfl) (fun Q0 hQ0 => ?_)
 refine WS.seq ?_
 refine A1 [0] (by decide) ?_
 refine WS.seq ?_
 refine R0 fun K hK => ?_
 try simp (maxSteps := 4000000) (disch := omega) only [push_cast, Nat.reduceLT, Nat.reduceEqDiff, Nat.reduceAdd, Nat.reduceMul, Nat.reduceSub, Nat.reduceLeDiff, Int.reduceToNat, Int.reduceLT, Int.reduceLE, Int.reduceAdd, Int.reduceSub, Int.reduceMul, Int.reduceNeg, Int.reduceEq, reduceCtorEq, Int.cast_ofNat_Int, Hp.get_set]
 (repeat refine And.intro (by first | omega | (simp; done) | (simp_all; done) | (simp_all; omega)) ?_)
 all_goals try (first | refine guardT 5 rfl (fun hc => ?_) (fun hc => ?_) | refine guardF 5 rfl (fun hc => ?_) (fun hc => ?_)) <;> try simp only [push_cast] at hc
 all_goals try (exfalso; omega)
 all_goals try simp (maxSteps := 4000000) (disch := omega) only [push_cast, Nat.reduceLT, Nat.reduceEqDiff, Nat.reduceAdd, Nat.reduceMul, Nat.reduceSub, Nat.reduceLeDiff, Int.reduceToNat, Int.reduceLT, Int.reduceLE, Int.reduceAdd, Int.reduceSub, Int.reduceMul, Int.reduceNeg, Int.reduceEq, reduceCtorEq, Int.cast_ofNat_Int, Hp.get_set]
 all_goals (repeat refine And.intro (by first | omega | (simp; done) | (simp_all; done) | (simp_all; omega)) ?_)
 all_goals
  refine Qk hK [2] ?_
  clear hK K
  refine Rt ?_
  refine hQ0 _ _ _ ?_
  try simp (maxSteps := 4000000) only [push_cast, Int.reduceToNat, Int.reduceLT, Int.reduceLE, Int.reduceAdd, Int.reduceSub, Int.reduceMul, Int.reduceNeg, Int.reduceEq, reduceCtorEq, Nat.reduceLeDiff, Nat.reduceLT, Nat.reduceEqDiff, Nat.reduceAdd, Nat.reduceMul, Nat.reduceSub, Int.cast_ofNat_Int]
  first | done | rfl | (simp; done) | (simp_all; done) | (simp_all; omega)
theorem made_spec {σ : Hp} {d g : Nat} {q : V} {rest : List V} (hd : σ.get d = some (.cells (q :: .mp g :: rest))) : Spec Go.Proofs.Try.prog 46 [.ptr d 0] (σ) (fun v σ' => v = .bool true ∧ σ' = σ) := by
 refine introS (n := 12) (rs := [.tmp 2]) (fn := Go.Proofs.Try.f46) (by rfl) rfl (by kernel_rfl) rfl rfl (Nat.le_of_ble_eq_true rfl) (fun Q0 hQ0 => ?_)
 refine WS.seq ?_
 refine A1 [0] (by decide) ?_
 refine WS.seq ?_
 refine R0 fun K hK => ?_
 try simp (maxSteps := 4000000) (disch := omega) only [push_cast, Nat.reduceLT, Nat.reduceEqDiff, Nat.reduceAdd, Nat.reduceMul, Nat.reduceSub, Nat.reduceLeDiff, Int.reduceToNat, Int.reduceLT, Int.reduceLE, Int.reduceAdd, Int.reduceSub, Int.reduceMul, Int.reduceNeg, Int.reduceEq, reduceCtorEq, Int.cast_ofNat_Int, Hp.get_set, hd]
 (repeat refine And.intro (by first | omega | (simp; done) | (simp_all; done) | (simp_all; omega)) ?_)
 all_goals try (first | refine guardT 5 rfl (fun hc => ?_) (fun hc => ?_) | refine guardF 5 rfl (fun hc => ?_) (fun hc => ?_)) <;> try simp only [push_cast] at hc
 all_goals try (exfalso; omega)
 all_goals try simp (maxSteps := 4000000) (disch := omega) only [push_cast, Nat.reduceLT, Nat.reduceEqDiff, Nat.reduceAdd, Nat.reduceMul, Nat.reduceSub, Nat.reduceLeDiff, Int.reduceToNat, Int.reduceLT, Int.reduceLE, Int.reduceAdd, Int.reduceSub, Int.reduceMul, Int.reduceNeg, Int.reduceEq, reduceCtorEq, Int.cast_ofNat_Int, Hp.get_set, hd]
 all_goals (repeat refine And.intro (by first | omega | (simp; done) | (simp_all; done) | (simp_all; omega)) ?_)
 all_goals
  refine Qk hK [2] ?_
  clear hK K
  refine Rt ?_
  refine hQ0 _ _ _ ?_
  try simp (maxSteps := 4000000) only [push_cast, Int.reduceToNat, Int.reduceLT, Int.reduceLE, Int.reduceAdd, Int.reduceSub, Int.reduceMul, Int.reduceNeg, Int.reduceEq, reduceCtorEq, Nat.reduceLeDiff, Nat.reduceLT, Nat.reduceEqDiff, Nat.reduceAdd, Nat.reduceMul, Nat.reduceSub, Int.cast_ofNat_Int, hd]
  first | done | exact ⟨_, HSub.refl _, rfl, rfl⟩ | exact ⟨_, HSub.refl _, rfl⟩ | (refine ⟨_, HSub.refl _, ?_, rfl⟩; first | (simp; done) | (simp_all; done) | (simp only; (repeat' split) <;> first | rfl | omega | (simp_all; done))) | (refine ⟨_, by (show HSub _ _; repeat (first | exact HSub.refl _ | exact HSub.empty _ | refine HSub.set (by first | assumption | simp_all) ?_ | refine HSub.del (by first | assumption | simp_all) ?_)), ?_, rfl⟩; first | (simp; done) | (simp_all; done) | (simp only; (repeat' split) <;> first | rfl | omega | (simp_all; done)))
theorem ask_spec {σ : Hp} {D : Disk} {d g1 g2 : Nat} {wv : V} (file : Int) (wrong : Bool) (hd : σ.get d = some (.cells (dcells D g1 g2 wv))) : Spec Go.Proofs.Try.prog 43 [.ptr d 0, .int .i64 file, .bool wrong] (σ) (fun v σ' => v = .int .i64 (askV D file wrong) ∧ σ' = σ) := by
 refine introS (n := 26) (rs := [.tmp 6]) (fn := Go.Proofs.Try.f43) (by rfl) rfl (by kernel_rfl) rfl rfl (Nat.le_of_ble_eq_true rfl) (fun Q0 hQ0 => ?_)
 refine WS.seq ?_
 refine A1 [0, 1, 2] (by decide) ?_
 refine WS.seq ?_
 refine Bk fun K0 hK0 => ?_
 refine WS.seq ?_
 refine R0 fun K hK => ?_
 try simp (maxSteps := 4000000) (disch := omega) only [push_cast, Nat.reduceLT, Nat.reduceEqDiff, Int.reduceToNat, Int.reduceLT, Int.reduceLE, Int.reduceAdd, Int.reduceSub, Int.reduceMul, Int.reduceNeg, Int.reduceEq, reduceCtorEq, Int.cast_ofNat_Int, Hp.get_set, dcells, hd]
 first
  | (refine callS (made_spec hd) (fun v τ h => ?_)
     obtain ⟨rfl, rfl⟩ := h)
  | (refine callP (made_nil ) rfl ?_)
 try simp (maxSteps := 4000000) (disch := omega) only [push_cast, Nat.reduceLT, Nat.reduceEqDiff, Int.reduceToNat, Int.reduceLT, Int.reduceLE, Int.reduceAdd, Int.reduceSub, Int.reduceMul, Int.reduceNeg, Int.reduceEq, reduceCtorEq, Int.cast_ofNat_Int, Hp.get_set, dcells, hd]
 refine Qk hK [0, 1, 2, 7] ?_
 clear hK K
 refine CI rfl (fun hc => ?_) (fun hc => ?_)
 ·
  all_goals try (cases hc; done)
  all_goals try simp only [push_cast] at hc
  all_goals try (exfalso; omega)
  all_goals
   refine WS.seq ?_
   refine A1 [6] (by decide) ?_
   refine Rt ?_
   simp only [push_cast]
   refine hQ0 _ _ _ ?_
   try simp (maxSteps := 4000000) only [push_cast, Int.reduceToNat, Int.reduceLT, Int.reduceLE, Int.reduceAdd, Int.reduceSub, Int.reduceMul, Int.reduceNeg, Int.reduceEq, reduceCtorEq, Nat.reduceLeDiff, Nat.reduceLT, Nat.reduceEqDiff, Nat.reduceAdd, Nat.reduceMul, Nat.reduceSub, Int.cast_ofNat_Int, dcells, hd]
   first | done | exact ⟨_, HSub.refl _, rfl, rfl⟩ | exact ⟨_, HSub.refl _, rfl⟩ | (refine ⟨_, HSub.refl _, ?_, rfl⟩; first | (simp [askV]; done) | (simp_all [askV]; done) | (simp only [askV]; (repeat' split) <;> first | rfl | omega | (simp_all; done))) | (refine ⟨_, by (show HSub _ _; repeat (first | exact HSub.refl _ | exact HSub.empty _ | refine HSub.set (by first | assumption | simp_all) ?_ | refine HSub.del (by first | assumption | simp_all) ?_)), ?_, rfl⟩; first | (simp [askV]; done) | (simp_all [askV]; done) | (simp only [askV]; (repeat' split) <;> first | rfl | omega | (simp_all; done)))
 all_goals try (cases hc; done)
 all_goals try simp only [push_cast] at hc
 all_goals try (exfalso; omega)
 all_goals
  refine WS.seq ?_
  refine R0 fun K hK => ?_
  try simp (maxSteps := 4000000) (disch := omega) only [push_cast, Nat.reduceLT, Nat.reduceEqDiff, Int.reduceToNat, Int.reduceLT, Int.reduceLE, Int.reduceAdd, Int.reduceSub, Int.reduceMul, Int.reduceNeg, Int.reduceEq, reduceCtorEq, Int.cast_ofNat_Int, Hp.get_set, dcells, hd]
  all_goals try (first | refine guardT 14 rfl (fun hc => ?_) (fun hc => ?_) | refine guardF 14 rfl (fun hc => ?_) (fun hc => ?_)) <;> try simp only [push_cast] at hc
  all_goals try (exfalso; omega)
  all_goals try simp (maxSteps := 4000000) (disch := omega) only [push_cast, Nat.reduceLT, Nat.reduceEqDiff, Int.reduceToNat, Int.reduceLT, Int.reduceLE, Int.reduceAdd, Int.reduceSub, Int.reduceMul, Int.reduceNeg, Int.reduceEq, reduceCtorEq, Int.cast_ofNat_Int, Hp.get_set, dcells, hd]
  all_goals try (first | refine guardT 18 rfl (fun hc => ?_) (fun hc => ?_) | refine guardF 18 rfl (fun hc => ?_) (fun hc => ?_)) <;> try simp only [push_cast] at hc
  all_goals try (exfalso; omega)
  all_goals try simp (maxSteps := 4000000) (disch := omega) only [push_cast, Nat.reduceLT, Nat.reduceEqDiff, Int.reduceToNat, Int.reduceLT, Int.reduceLE, Int.reduceAdd, Int.reduceSub, Int.reduceMul, Int.reduceNeg, Int.reduceEq, reduceCtorEq, Int.cast_ofNat_Int, Hp.get_set, dcells, hd]
  all_goals
   refine Qk hK [0, 11] ?_
   clear hK K
   refine CI rfl (fun hc => ?_) (fun hc => ?_)
   ·
    all_goals try (cases hc; done)
    all_goals try simp only [push_cast] at hc
    all_goals try (exfalso; omega)
    all_goals
     refine WS.seq ?_
     refine A1 [6] (by decide) ?_
     refine Rt ?_
     simp only [push_cast]
     refine hQ0 _ _ _ ?_
     try simp (maxSteps := 4000000) only [push_cast, Int.reduceToNat, Int.reduceLT, Int.reduceLE, Int.reduceAdd, Int.reduceSub, Int.reduceMul, Int.reduceNeg, Int.reduceEq, reduceCtorEq, Nat.reduceLeDiff, Nat.reduceLT, Nat.reduceEqDiff, Nat.reduceAdd, Nat.reduceMul, Nat.reduceSub, Int.cast_ofNat_Int, dcells, hd]
     first | done | exact ⟨_, HSub.refl _, rfl, rfl⟩ | exact ⟨_, HSub.refl _, rfl⟩ | (refine ⟨_, HSub.refl _, ?_, rfl⟩; first | (simp [askV]; done) | (simp_all [askV]; done) | (simp only [askV]; (repeat' split) <;> first | rfl | omega | (simp_all; done))) | (refine ⟨_, by (show HSub _ _; repeat (first | exact HSub.refl _ | exact HSub.empty _ | refine HSub.set (by first | assumption | simp_all) ?_ | refine HSub.del (by first | assumption | simp_all) ?_)), ?_, rfl⟩; first | (simp [askV]; done) | (simp_all [askV]; done) | (simp only [askV]; (repeat' split) <;> first | rfl | omega | (simp_all; done)))
   all_goals try (cases hc; done)
   all_goals try simp only [push_cast] at hc
   all_goals try (exfalso; omega)
   all_goals
    refine WS.seq ?_
    refine R0 fun K hK => ?_
    try simp (maxSteps := 4000000) (disch := omega) only [push_cast, Nat.reduceLT, Nat.reduceEqDiff, Nat.reduceAdd, Nat.reduceMul, Nat.reduceSub, Nat.reduceLeDiff, Hp.get_set, dcells, hd]
    (repeat refine And.intro (by first | omega | (simp; done) | (simp_all; done) | (simp_all; omega)) ?_)
    refine Qk hK [21] ?_
    clear hK K
    refine CI rfl (fun hc => ?_) (fun hc => ?_)
    ·
     all_goals try (cases hc; done)
     all_goals try simp only [push_cast] at hc
     all_goals try (exfalso; omega)
     all_goals
      refine WS.seq ?_
      refine A1 [6] (by decide) ?_
      refine Rt ?_
      simp only [push_cast]
      refine hQ0 _ _ _ ?_
      try simp (maxSteps := 4000000) only [push_cast, Int.reduceToNat, Int.reduceLT, Int.reduceLE, Int.reduceAdd, Int.reduceSub, Int.reduceMul, Int.reduceNeg, Int.reduceEq, reduceCtorEq, Nat.reduceLeDiff, Nat.reduceLT, Nat.reduceEqDiff, Nat.reduceAdd, Nat.reduceMul, Nat.reduceSub, Int.cast_ofNat_Int, dcells, hd]
      first | done | exact ⟨_, HSub.refl _, rfl, rfl⟩ | exact ⟨_, HSub.refl _, rfl⟩ | (refine ⟨_, HSub.refl _, ?_, rfl⟩; first | (simp [askV]; done) | (simp_all [askV]; done) | (simp only [askV]; (repeat' split) <;> first | rfl | omega | (simp_all; done))) | (refine ⟨_, by (show HSub _ _; repeat (first | exact HSub.refl _ | exact HSub.empty _ | refine HSub.set (by first | assumption | simp_all) ?_ | refine HSub.del (by first | assumption | simp_all) ?_)), ?_, rfl⟩; first | (simp [askV]; done) | (simp_all [askV]; done) | (simp only [askV]; (repeat' split) <;> first | rfl | omega | (simp_all; done)))
    all_goals try (cases hc; done)
    all_goals try simp only [push_cast] at hc
    all_goals try (exfalso; omega)
    all_goals
     refine Sk ?_
     simp only [push_cast, WS, Nat.reduceEqDiff]
     refine hK0 _ _ ?_
     clear hK0
     try clear K0
     refine WS_keep [] _ ?_
     refine WS.seq ?_
     refine A1 [6] (by decide) ?_
     refine Rt ?_
     refine hQ0 _ _ _ ?_
     try simp (maxSteps := 4000000) only [push_cast, Int.reduceToNat, Int.reduceLT, Int.reduceLE, Int.reduceAdd, Int.reduceSub, Int.reduceMul, Int.reduceNeg, Int.reduceEq, reduceCtorEq, Nat.reduceLeDiff, Nat.reduceLT, Nat.reduceEqDiff, Nat.reduceAdd, Nat.reduceMul, Nat.reduceSub, Int.cast_ofNat_Int, dcells, hd]
     first | done | exact ⟨_, HSub.refl _, rfl, rfl⟩ | exact ⟨_, HSub.refl _, rfl⟩ | (refine ⟨_, HSub.refl _, ?_, rfl⟩; first | (simp [askV]; done) | (simp_all [askV]; done) | (simp only [askV]; (repeat' split) <;> first | rfl | omega | (simp_all; done))) | (refine ⟨_, by (show HSub _ _; repeat (first | exact HSub.refl _ | exact HSub.empty _ | refine HSub.set (by first | assumption | simp_all) ?_ | refine HSub.del (by first | assumption | simp_all) ?_)), ?_, rfl⟩; first | (simp [askV]; done) | (simp_all [askV]; done) | (simp only [askV]; (repeat' split) <;> first | rfl | omega | (simp_all; done)))
theorem len_spec {σ : Hp} {D : Disk} {d g1 g2 : Nat} {wv : V} (file : Int) (hd : σ.get d = some (.cells (dcells D g1 g2 wv))) : Spec Go.Proofs.Try.prog 31 [.ptr d 0, .int .i64 file] (σ) (fun v σ' => v = .int .i64 (lenV D file) ∧ σ' = σ) := by
 refine introS (n := 22) (rs := [.tmp 4]) (fn := Go.Proofs.Try.f31) (by rfl) rfl (by kernel_rfl) rfl rfl (Nat.le_of_ble_eq_true rfl) (fun Q0 hQ0 => ?_)
 obtain rfl | rfl | hf := filecases file
 all_goals
  refine WS.seq ?_
  refine A1 [0, 1] (by decide) ?_
  refine WS.seq (WS.seq ?_)
  refine R0 fun K hK => ?_
  try simp (maxSteps := 4000000) (disch := omega) only [push_cast, Nat.reduceLT, Nat.reduceEqDiff, Int.reduceToNat, Int.reduceLT, Int.reduceLE, Int.reduceAdd, Int.reduceSub, Int.reduceMul, Int.reduceNeg, Int.reduceEq, reduceCtorEq, Int.cast_ofNat_Int, Hp.get_set, dcells, hd]
  first
   | (refine callS (made_spec hd) (fun v τ h => ?_)
      obtain ⟨rfl, rfl⟩ := h)
   | (refine callP (made_nil ) rfl ?_)
  try simp (maxSteps := 4000000) (disch := omega) only [push_cast, Nat.reduceLT, Nat.reduceEqDiff, Int.reduceToNat, Int.reduceLT, Int.reduceLE, Int.reduceAdd, Int.reduceSub, Int.reduceMul, Int.reduceNeg, Int.reduceEq, reduceCtorEq, Int.cast_ofNat_Int, Hp.get_set, dcells, hd]
  all_goals try (first | refine guardT 8 rfl (fun hc => ?_) (fun hc => ?_) | refine guardF 8 rfl (fun hc => ?_) (fun hc => ?_)) <;> try simp only [push_cast] at hc
  all_goals try (exfalso; omega)
  all_goals try simp (maxSteps := 4000000) (disch := omega) only [push_cast, Nat.reduceLT, Nat.reduceEqDiff, Int.reduceToNat, Int.reduceLT, Int.reduceLE, Int.reduceAdd, Int.reduceSub, Int.reduceMul, Int.reduceNeg, Int.reduceEq, reduceCtorEq, Int.cast_ofNat_Int, Hp.get_set, dcells, hd]
  all_goals try (first | refine guardT 12 rfl (fun hc => ?_) (fun hc => ?_) | refine guardF 12 rfl (fun hc => ?_) (fun hc => ?_)) <;> try simp only [push_cast] at hc
  all_goals try (exfalso; omega)
  all_goals try simp (maxSteps := 4000000) (disch := omega) only [push_cast, Nat.reduceLT, Nat.reduceEqDiff, Int.reduceToNat, Int.reduceLT, Int.reduceLE, Int.reduceAdd, Int.reduceSub, Int.reduceMul, Int.reduceNeg, Int.reduceEq, reduceCtorEq, Int.cast_ofNat_Int, Hp.get_set, dcells, hd]
  all_goals
   refine Qk hK [0, 1, 15] ?_
   clear hK K
   refine CI rfl (fun hc => ?_) (fun hc => ?_)
   ·
    all_goals try (cases hc; done)
    all_goals try simp only [push_cast] at hc
    all_goals try (exfalso; omega)
    all_goals
     refine WS.seq ?_
     refine A1 [4] (by decide) ?_
     refine Rt ?_
     refine hQ0 _ _ _ ?_
     try simp (maxSteps := 4000000) only [push_cast, Int.reduceToNat, Int.reduceLT, Int.reduceLE, Int.reduceAdd, Int.reduceSub, Int.reduceMul, Int.reduceNeg, Int.reduceEq, reduceCtorEq, Nat.reduceLeDiff, Nat.reduceLT, Nat.reduceEqDiff, Nat.reduceAdd, Nat.reduceMul, Nat.reduceSub, Int.cast_ofNat_Int, dcells, hd]
     first | done | exact ⟨_, HSub.refl _, rfl, rfl⟩ | exact ⟨_, HSub.refl _, rfl⟩ | (refine ⟨_, HSub.refl _, ?_, rfl⟩; first | (simp [lenV]; done) | (simp_all [lenV]; done) | (simp only [lenV]; (repeat' split) <;> first | rfl | omega | (simp_all; done))) | (refine ⟨_, by (show HSub _ _; repeat (first | exact HSub.refl _ | exact HSub.empty _ | refine HSub.set (by first | assumption | simp_all) ?_ | refine HSub.del (by first | assumption | simp_all) ?_)), ?_, rfl⟩; first | (simp [lenV]; done) | (simp_all [lenV]; done) | (simp only [lenV]; (repeat' split) <;> first | rfl | omega | (simp_all; done)))
   all_goals try (cases hc; done)
   all_goals try simp only [push_cast] at hc
   all_goals try (exfalso; omega)
   all_goals
    refine Sk ?_
    refine WS.seq ?_
    refine R0 fun K hK => ?_
    try simp (maxSteps := 4000000) (disch := omega) only [push_cast, Nat.reduceLT, Nat.reduceEqDiff, Nat.reduceAdd, Nat.reduceMul, Nat.reduceSub, Nat.reduceLeDiff, Int.reduceToNat, Int.reduceLT, Int.reduceLE, Int.reduceAdd, Int.reduceSub, Int.reduceMul, Int.reduceNeg, Int.reduceEq, reduceCtorEq, Int.cast_ofNat_Int, Hp.get_set, dcells, hd]
    (repeat refine And.intro (by first | omega | (simp; done) | (simp_all; done) | (simp_all; omega)) ?_)
    refine Qk hK [4] ?_
    clear hK K
    refine Rt ?_
    refine hQ0 _ _ _ ?_
    try simp (maxSteps := 4000000) only [push_cast, Int.reduceToNat, Int.reduceLT, Int.reduceLE, Int.reduceAdd, Int.reduceSub, Int.reduceMul, Int.reduceNeg, Int.reduceEq, reduceCtorEq, Nat.reduceLeDiff, Nat.reduceLT, Nat.reduceEqDiff, Nat.reduceAdd, Nat.reduceMul, Nat.reduceSub, Int.cast_ofNat_Int, dcells, hd]
    first | done | exact ⟨_, HSub.refl _, rfl, rfl⟩ | exact ⟨_, HSub.refl _, rfl⟩ | (refine ⟨_, HSub.refl _, ?_, rfl⟩; first | (simp [lenV]; done) | (simp_all [lenV]; done) | (simp only [lenV]; (repeat' split) <;> first | rfl | omega | (simp_all; done))) | (refine ⟨_, by (show HSub _ _; repeat (first | exact HSub.refl _ | exact HSub.empty _ | refine HSub.set (by first | assumption | simp_all) ?_ | refine HSub.del (by first | assumption | simp_all) ?_)), ?_, rfl⟩; first | (simp [lenV]; done) | (simp_all [lenV]; done) | (simp only [lenV]; (repeat' split) <;> first | rfl | omega | (simp_all; done)))
theorem waits_nil  : PSpec Go.Proofs.Try.prog 35 [.nilp] (.int .i64 0) := by
 refine introP (n := 10) (rs := [.tmp 2]) (fn := Go.Proofs.Try.f35) (by rfl) rfl (by kernel_rfl) rfl rfl (Nat.le_of_ble_eq_true rfl) (fun Q0 hQ0 => ?_)
 refine WS.seq ?_
 refine A1 [0] (by decide) ?_
 refine WS.seq (WS.seq ?_)
 refine R0 fun K hK => ?_
 try simp (maxSteps := 4000000) (disch := omega) only [push_cast, Nat.reduceLT, Nat.reduceEqDiff, Int.reduceToNat, Int.reduceLT, Int.reduceLE, Int.reduceAdd, Int.reduceSub, Int.reduceMul, Int.reduceNeg, Int.reduceEq, reduceCtorEq, Int.cast_ofNat_Int, Hp.get_set]
 refine Qk hK [0, 4] ?_
 clear hK K
 refine CI rfl (fun hc => ?_) (fun hc => ?_)
 ·
  all_goals try (cases hc; done)
  all_goals try simp only [push_cast] at hc
  all_goals try (exfalso; omega)
  all_goals
   refine WS.seq ?_
   refine A1 [2] (by decide) ?_
   refine Rt ?_
   refine hQ0 _ _ _ ?_
   try simp (maxSteps := 4000000) only [push_cast, Int.reduceToNat, Int.reduceLT, Int.reduceLE, Int.reduceAdd, Int.reduceSub, Int.reduceMul, Int.reduceNeg, Int.reduceEq, reduceCtorEq, Nat.reduceLeDiff, Nat.reduceLT, Nat.reduceEqDiff, Nat.reduceAdd, Nat.reduceMul, Nat.reduceSub, Int.cast_ofNat_Int]
   first | done | rfl | (simp; done) | (simp_all; done) | (simp_all; omega)
 all_goals try (cases hc; done)
 all_goals try simp only [push_cast] at hc
 all_goals try (exfalso; omega)
 all_goals
  refine Sk ?_
  refine WS.seq ?_
  refine R0 fun K hK => ?_
  try simp (maxSteps := 4000000) (disch := omega) only [push_cast, Nat.reduceLT, Nat.reduceEqDiff, Nat.reduceAdd, Nat.reduceMul, Nat.reduceSub, Nat.reduceLeDiff, Int.reduceToNat, Int.reduceLT, Int.reduceLE, Int.reduceAdd, Int.reduceSub, Int.reduceMul, Int.reduceNeg, Int.reduceEq, reduceCtorEq, Int.cast_ofNat_Int, Hp.get_set]
  (repeat refine And.intro (by first | omega | (simp; done) | (simp_all; done) | (simp_all; omega)) ?_)
  refine Qk hK [2] ?_
  clear hK K
  refine Rt ?_
  refine hQ0 _ _ _ ?_
  try simp (maxSteps := 4000000) only [push_cast, Int.reduceToNat, Int.reduceLT, Int.reduceLE, Int.reduceAdd, Int.reduceSub, Int.reduceMul, Int.reduceNeg, Int.reduceEq, reduceCtorEq, Nat.reduceLeDiff, Nat.reduceLT, Nat.reduceEqDiff, Nat.reduceAdd, Nat.reduceMul, Nat.reduceSub, Int.cast_ofNat_Int]
  first | done | rfl | (simp; done) | (simp_all; done) | (simp_all; omega)
theorem waits_spec {σ : Hp} {D : Disk} {d g1 g2 gt : Nat} (hd : σ.get d = some (.cells (dcells D g1 g2 (.sl 3 (D.waits.map encW) (.tk gt))))) : Spec Go.Proofs.Try.prog 35 [.ptr d 0] (σ) (fun v σ' => v = .int .i64 D.waits.length ∧ σ' = σ) := by
 refine introS (n := 10) (rs := [.tmp 2]) (fn := Go.Proofs.Try.f35) (by rfl) rfl (by kernel_rfl) rfl rfl (Nat.le_of_ble_eq_true rfl) (fun Q0 hQ0 => ?_)
 refine WS.seq ?_
 refine A1 [0] (by decide) ?_
 refine WS.seq (WS.seq ?_)
 refine R0 fun K hK => ?_
 try simp (maxSteps := 4000000) (disch := omega) only [push_cast, Nat.reduceLT, Nat.reduceEqDiff, Int.reduceToNat, Int.reduceLT, Int.reduceLE, Int.reduceAdd, Int.reduceSub, Int.reduceMul, Int.reduceNeg, Int.reduceEq, reduceCtorEq, Int.cast_ofNat_Int, Hp.get_set, dcells, List.length_map, hd]
 refine Qk hK [0, 4] ?_
 clear hK K
 refine CI rfl (fun hc => ?_) (fun hc => ?_)
 ·
  all_goals try (cases hc; done)
  all_goals try simp only [push_cast] at hc
  all_goals try (exfalso; omega)
  all_goals
   refine WS.seq ?_
   refine A1 [2] (by decide) ?_
   refine Rt ?_
   refine hQ0 _ _ _ ?_
   try simp (maxSteps := 4000000) only [push_cast, Int.reduceToNat, Int.reduceLT, Int.reduceLE, Int.reduceAdd, Int.reduceSub, Int.reduceMul, Int.reduceNeg, Int.reduceEq, reduceCtorEq, Nat.reduceLeDiff, Nat.reduceLT, Nat.reduceEqDiff, Nat.reduceAdd, Nat.reduceMul, Nat.reduceSub, Int.cast_ofNat_Int, dcells, List.length_map, hd]
   first | done | exact ⟨_, HSub.refl _, rfl, rfl⟩ | exact ⟨_, HSub.refl _, rfl⟩ | (refine ⟨_, HSub.refl _, ?_, rfl⟩; first | (simp; done) | (simp_all; done) | (simp only; (repeat' split) <;> first | rfl | omega | (simp_all; done))) | (refine ⟨_, by (show HSub _ _; repeat (first | exact HSub.refl _ | exact HSub.empty _ | refine HSub.set (by first | assumption | simp_all) ?_ | refine HSub.del (by first | assumption | simp_all) ?_)), ?_, rfl⟩; first | (simp; done) | (simp_all; done) | (simp only; (repeat' split) <;> first | rfl | omega | (simp_all; done)))
 all_goals try (cases hc; done)
 all_goals try simp only [push_cast] at hc
 all_goals try (exfalso; omega)
 all_goals
  refine Sk ?_
  refine WS.seq ?_
  refine R0 fun K hK => ?_
  try simp (maxSteps := 4000000) (disch := omega) only [push_cast, Nat.reduceLT, Nat.reduceEqDiff, Nat.reduceAdd, Nat.reduceMul, Nat.reduceSub, Nat.reduceLeDiff, Int.reduceToNat, Int.reduceLT, Int.reduceLE, Int.reduceAdd, Int.reduceSub, Int.reduceMul, Int.reduceNeg, Int.reduceEq, reduceCtorEq, Int.cast_ofNat_Int, Hp.get_set, dcells, List.length_map, hd]
  (repeat refine And.intro (by first | omega | (simp; done) | (simp_all; done) | (simp_all; omega)) ?_)
  refine Qk hK [2] ?_
  clear hK K
  refine Rt ?_
  refine hQ0 _ _ _ ?_
  try simp (maxSteps := 4000000) only [push_cast, Int.reduceToNat, Int.reduceLT, Int.reduceLE, Int.reduceAdd, Int.reduceSub, Int.reduceMul, Int.reduceNeg, Int.reduceEq, reduceCtorEq, Nat.reduceLeDiff, Nat.reduceLT, Nat.reduceEqDiff, Nat.reduceAdd, Nat.reduceMul, Nat.reduceSub, Int.cast_ofNat_Int, dcells, List.length_map, hd]
  first | done | exact ⟨_, HSub.refl _, rfl, rfl⟩ | exact ⟨_, HSub.refl _, rfl⟩ | (refine ⟨_, HSub.refl _, ?_, rfl⟩; first | (simp; done) | (simp_all; done) | (simp only; (repeat' split) <;> first | rfl | omega | (simp_all; done))) | (refine ⟨_, by (show HSub _ _; repeat (first | exact HSub.refl _ | exact HSub.empty _ | refine HSub.set (by first | assumption | simp_all) ?_ | refine HSub.del (by first | assumption | simp_all) ?_)), ?_, rfl⟩; first | (simp; done) | (simp_all; done) | (simp only; (repeat' split) <;> first | rfl | omega | (simp_all; done)))
theorem calls_nil  : PSpec Go.Proofs.Try.prog 39 [.nilp] (.int .i64 0) := by
 refine introP (n := 9) (rs := [.tmp 2]) (fn := Go.Proofs.Try.f39) (by rfl) rfl (by kernel_rfl) rfl rfl (Nat.le_of_ble_eq_true rfl) (fun Q0 hQ0 => ?_)
 refine WS.seq ?_
 refine A1 [0] (by decide) ?_
 refine WS.seq (WS.seq ?_)
 refine R0 fun K hK => ?_
 try simp (maxSteps := 4000000) (disch := omega) only [push_cast, Nat.reduceLT, Nat.reduceEqDiff, Int.reduceToNat, Int.reduceLT, Int.reduceLE, Int.reduceAdd, Int.reduceSub, Int.reduceMul, Int.reduceNeg, Int.reduceEq, reduceCtorEq, Int.cast_ofNat_Int, Hp.get_set]
 refine Qk hK [0, 4] ?_
 clear hK K
 refine CI rfl (fun hc => ?_) (fun hc => ?_)
 ·
  all_goals try (cases hc; done)
  all_goals try simp only [push_cast] at hc
  all_goals try (exfalso; omega)
  all_goals
   refine WS.seq ?_
   refine A1 [2] (by decide) ?_
   refine Rt ?_
   refine hQ0 _ _ _ ?_
   try simp (maxSteps := 4000000) only [push_cast, Int.reduceToNat, Int.reduceLT, Int.reduceLE, Int.reduceAdd, Int.reduceSub, Int.reduceMul, Int.reduceNeg, Int.reduceEq, reduceCtorEq, Nat.reduceLeDiff, Nat.reduceLT, Nat.reduceEqDiff, Nat.reduceAdd, Nat.reduceMul, Nat.reduceSub, Int.cast_ofNat_Int]
   first | done | rfl | (simp; done) | (simp_all; done) | (simp_all; omega)
 all_goals try (cases hc; done)
 all_goals try simp only [push_cast] at hc
 all_goals try (exfalso; omega)
 all_goals
  refine Sk ?_
  refine WS.seq ?_
  refine R0 fun K hK => ?_
  try simp (maxSteps := 4000000) (disch := omega) only [push_cast, Nat.reduceLT, Nat.reduceEqDiff, Nat.reduceAdd, Nat.reduceMul, Nat.reduceSub, Nat.reduceLeDiff, Hp.get_set]
  (repeat refine And.intro (by first | omega | (simp; done) | (simp_all; done) | (simp_all; omega)) ?_)
  refine Qk hK [2] ?_
  clear hK K
  refine Rt ?_
  refine hQ0 _ _ _ ?_
  try simp (maxSteps := 4000000) only [push_cast, Int.reduceToNat, Int.reduceLT, Int.reduceLE, Int.reduceAdd, Int.reduceSub, Int.reduceMul, Int.reduceNeg, Int.reduceEq, reduceCtorEq, Nat.reduceLeDiff, Nat.reduceLT, Nat.reduceEqDiff, Nat.reduceAdd, Nat.reduceMul, Nat.reduceSub, Int.cast_ofNat_Int]
  first | done | rfl | (simp; done) | (simp_all; done) | (simp_all; omega)
theorem calls_spec {σ : Hp} {D : Disk} {d g1 g2 gt : Nat} (hd : σ.get d = some (.cells (dcells D g1 g2 (.sl 3 (D.waits.map encW) (.tk gt))))) : Spec Go.Proofs.Try.prog 39 [.ptr d 0] (σ) (fun v σ' => v = .int .i64 D.calls ∧ σ' = σ) := by
 refine introS (n := 9) (rs := [.tmp 2]) (fn := Go.Proofs.Try.f39) (by rfl) rfl (by kernel_rfl) rfl rfl (Nat.le_of_ble_eq_true rfl) (fun Q0 hQ0 => ?_)
 refine WS.seq ?_
 refine A1 [0] (by decide) ?_
 refine WS.seq (WS.seq ?_)
 refine R0 fun K hK => ?_
 try simp (maxSteps := 4000000) (disch := omega) only [push_cast, Nat.reduceLT, Nat.reduceEqDiff, Int.reduceToNat, Int.reduceLT, Int.reduceLE, Int.reduceAdd, Int.reduceSub, Int.reduceMul, Int.reduceNeg, Int.reduceEq, reduceCtorEq, Int.cast_ofNat_Int, Hp.get_set, dcells, List.length_map, hd]
 refine Qk hK [0, 4] ?_
 clear hK K
 refine CI rfl (fun hc => ?_) (fun hc => ?_)
 ·
  all_goals try (cases hc; done)
  all_goals try simp only [push_cast] at hc
  all_goals try (exfalso; omega)
  all_goals
   refine WS.seq ?_
   refine A1 [2] (by decide) ?_
   refine Rt ?_
   refine hQ0 _ _ _ ?_
   try simp (maxSteps := 4000000) only [push_cast, Int.reduceToNat, Int.reduceLT, Int.reduceLE, Int.reduceAdd, Int.reduceSub, Int.reduceMul, Int.reduceNeg, Int.reduceEq, reduceCtorEq, Nat.reduceLeDiff, Nat.reduceLT, Nat.reduceEqDiff, Nat.reduceAdd, Nat.reduceMul, Nat.reduceSub, Int.cast_ofNat_Int, dcells, List.length_map, hd]
   first | done | exact ⟨_, HSub.refl _, rfl, rfl⟩ | exact ⟨_, HSub.refl _, rfl⟩ | (refine ⟨_, HSub.refl _, ?_, rfl⟩; first | (simp; done) | (simp_all; done) | (simp only; (repeat' split) <;> first | rfl | omega | (simp_all; done))) | (refine ⟨_, by (show HSub _ _; repeat (first | exact HSub.refl _ | exact HSub.empty _ | refine HSub.set (by first | assumption | simp_all) ?_ | refine HSub.del (by first | assumption | simp_all) ?_)), ?_, rfl⟩; first | (simp; done) | (simp_all; done) | (simp only; (repeat' split) <;> first | rfl | omega | (simp_all; done)))
 all_goals try (cases hc; done)
 all_goals try simp only [push_cast] at hc
 all_goals try (exfalso; omega)
 all_goals
  refine Sk ?_
  refine WS.seq ?_
  refine R0 fun K hK => ?_
  try simp (maxSteps := 4000000) (disch := omega) only [push_cast, Nat.reduceLT, Nat.reduceEqDiff, Nat.reduceAdd, Nat.reduceMul, Nat.reduceSub, Nat.reduceLeDiff, Hp.get_set, dcells, List.length_map, hd]
  (repeat refine And.intro (by first | omega | (simp; done) | (simp_all; done) | (simp_all; omega)) ?_)
  refine Qk hK [2] ?_
  clear hK K
  refine Rt ?_
  refine hQ0 _ _ _ ?_
  try simp (maxSteps := 4000000) only [push_cast, Int.reduceToNat, Int.reduceLT, Int.reduceLE, Int.reduceAdd, Int.reduceSub, Int.reduceMul, Int.reduceNeg, Int.reduceEq, reduceCtorEq, Nat.reduceLeDiff, Nat.reduceLT, Nat.reduceEqDiff, Nat.reduceAdd, Nat.reduceMul, Nat.reduceSub, Int.cast_ofNat_Int, dcells, List.length_map, hd]
  first | done | exact ⟨_, HSub.refl _, rfl, rfl⟩ | exact ⟨_, HSub.refl _, rfl⟩ | (refine ⟨_, HSub.refl _, ?_, rfl⟩; first | (simp; done) | (simp_all; done) | (simp only; (repeat' split) <;> first | rfl | omega | (simp_all; done))) | (refine ⟨_, by (show HSub _ _; repeat (first | exact HSub.refl _ | exact HSub.empty _ | refine HSub.set (by first | assumption | simp_all) ?_ | refine HSub.del (by first | assumption | simp_all) ?_)), ?_, rfl⟩; first | (simp; done) | (simp_all; done) | (simp only; (repeat' split) <;> first | rfl | omega | (simp_all; done)))
theorem down_nil  : PSpec Go.Proofs.Try.prog 40 [.nilp] (.bool false) := by
 refine introP (n := 11) (rs := [.tmp 2]) (fn := Go.Proofs.Try.f40) (by rfl) rfl (by kernel_rfl) rfl rfl (Nat.le_of_ble_eq_true rfl) (fun Q0 hQ0 => ?_)
 refine WS.seq ?_
 refine A1 [0] (by decide) ?_
 refine WS.seq ?_
 refine R0 fun K hK => ?_
 try simp (maxSteps := 4000000) (disch := omega) only [push_cast, Nat.reduceLT, Nat.reduceEqDiff, Nat.reduceAdd, Nat.reduceMul, Nat.reduceSub, Nat.reduceLeDiff, Int.reduceToNat, Int.reduceLT, Int.reduceLE, Int.reduceAdd, Int.reduceSub, Int.reduceMul, Int.reduceNeg, Int.reduceEq, reduceCtorEq, Int.cast_ofNat_Int, Hp.get_set]
 (repeat refine And.intro (by first | omega | (simp; done) | (simp_all; done) | (simp_all; omega)) ?_)
 all_goals try (first | refine guardT 5 rfl (fun hc => ?_) (fun hc => ?_) | refine guardF 5 rfl (fun hc => ?_) (fun hc => ?_)) <;> try simp only [push_cast] at hc
 all_goals try (exfalso; omega)
 all_goals try simp (maxSteps := 4000000) (disch := omega) only [push_cast, Nat.reduceLT, Nat.reduceEqDiff, Nat.reduceAdd, Nat.reduceMul, Nat.reduceSub, Nat.reduceLeDiff, Int.reduceToNat, Int.reduceLT, Int.reduceLE, Int.reduceAdd, Int.reduceSub, Int.reduceMul, Int.reduceNeg, Int.reduceEq, reduceCtorEq, Int.cast_ofNat_Int, Hp.get_set]
 all_goals (repeat refine And.intro (by first | omega | (simp; done) | (simp_all; done) | (simp_all; omega)) ?_)
 all_goals
  refine Qk hK [2] ?_
  clear hK K
  refine Rt ?_
  refine hQ0 _ _ _ ?_
  try simp (maxSteps := 4000000) only [push_cast, Int.reduceToNat, Int.reduceLT, Int.reduceLE, Int.reduceAdd, Int.reduceSub, Int.reduceMul, Int.reduceNeg, Int.reduceEq, reduceCtorEq, Nat.reduceLeDiff, Nat.reduceLT, Nat.reduceEqDiff, Nat.reduceAdd, Nat.reduceMul, Nat.reduceSub, Int.cast_ofNat_Int]
  first | done | rfl | (simp; done) | (simp_all; done) | (simp_all; omega)
theorem down_spec {σ : Hp} {D : Disk} {d g1 g2 gt : Nat} (hd : σ.get d = some (.cells (dcells D g1 g2 (.sl 3 (D.waits.map encW) (.tk gt))))) : Spec Go.Proofs.Try.prog 40 [.ptr d 0] (σ) (fun v σ' => v = .bool D.down ∧ σ' = σ) := by
 refine introS (n := 11) (rs := [.tmp 2]) (fn := Go.Proofs.Try.f40) (by rfl) rfl (by kernel_rfl) rfl rfl (Nat.le_of_ble_eq_true rfl) (fun Q0 hQ0 => ?_)
 refine WS.seq ?_
 refine A1 [0] (by decide) ?_
 refine WS.seq ?_
 refine R0 fun K hK => ?_
 try simp (maxSteps := 4000000) (disch := omega) only [push_cast, Nat.reduceLT, Nat.reduceEqDiff, Nat.reduceAdd, Nat.reduceMul, Nat.reduceSub, Nat.reduceLeDiff, Int.reduceToNat, Int.reduceLT, Int.reduceLE, Int.reduceAdd, Int.reduceSub, Int.reduceMul, Int.reduceNeg, Int.reduceEq, reduceCtorEq, Int.cast_ofNat_Int, Hp.get_set, dcells, List.length_map, hd]
 (repeat refine And.intro (by first | omega | (simp; done) | (simp_all; done) | (simp_all; omega)) ?_)
 all_goals try (first | refine guardT 5 rfl (fun hc => ?_) (fun hc => ?_) | refine guardF 5 rfl (fun hc => ?_) (fun hc => ?_)) <;> try simp only [push_cast] at hc
 all_goals try (exfalso; omega)
 all_goals try simp (maxSteps := 4000000) (disch := omega) only [push_cast, Nat.reduceLT, Nat.reduceEqDiff, Nat.reduceAdd, Nat.reduceMul, Nat.reduceSub, Nat.reduceLeDiff, Int.reduceToNat, Int.reduceLT, Int.reduceLE, Int.reduceAdd, Int.reduceSub, Int.reduceMul, Int.reduceNeg, Int.reduceEq, reduceCtorEq, Int.cast_ofNat_Int, Hp.get_set, dcells, List.length_map, hd]
 all_goals (repeat refine And.intro (by first | omega | (simp; done) | (simp_all; done) | (simp_all; omega)) ?_)
 all_goals
  refine Qk hK [2] ?_
  clear hK K
  refine Rt ?_
  refine hQ0 _ _ _ ?_
  try simp (maxSteps := 4000000) only [push_cast, Int.reduceToNat, Int.reduceLT, Int.reduceLE, Int.reduceAdd, Int.reduceSub, Int.reduceMul, Int.reduceNeg, Int.reduceEq, reduceCtorEq, Nat.reduceLeDiff, Nat.reduceLT, Nat.reduceEqDiff, Nat.reduceAdd, Nat.reduceMul, Nat.reduceSub, Int.cast_ofNat_Int, dcells, List.length_map, hd]
  first | done | exact ⟨_, HSub.refl _, rfl, rfl⟩ | exact ⟨_, HSub.refl _, rfl⟩ | (refine ⟨_, HSub.refl _, ?_, rfl⟩; first | (simp; done) | (simp_all; done) | (simp only; (repeat' split) <;> first | rfl | omega | (simp_all; done))) | (refine ⟨_, by (show HSub _ _; repeat (first | exact HSub.refl _ | exact HSub.empty _ | refine HSub.set (by first | assumption | simp_all) ?_ | refine HSub.del (by first | assumption | simp_all) ?_)), ?_, rfl⟩; first | (simp; done) | (simp_all; done) | (simp only; (repeat' split) <;> first | rfl | omega | (simp_all; done)))
theorem len_nil (file : Int) : PSpec Go.Proofs.Try.prog 31 [.nilp, .int .i64 file] (.int .i64 0) := by
 refine introP (n := 22) (rs := [.tmp 4]) (fn := Go.Proofs.Try.f31) (by rfl) rfl (by kernel_rfl) rfl rfl (Nat.le_of_ble_eq_true rfl) (fun Q0 hQ0 => ?_)
 refine WS.seq ?_
 refine A1 [0, 1] (by decide) ?_
 refine WS.seq (WS.seq ?_)
 refine R0 fun K hK => ?_
 try simp (maxSteps := 4000000) (disch := omega) only [push_cast, Nat.reduceLT, Nat.reduceEqDiff, Int.reduceToNat, Int.reduceLT, Int.reduceLE, Int.reduceAdd, Int.reduceSub, Int.reduceMul, Int.reduceNeg, Int.reduceEq, reduceCtorEq, Int.cast_ofNat_Int, Hp.get_set]
 first
  | (refine callS (made_spec hd) (fun v τ h => ?_)
     obtain ⟨rfl, rfl⟩ := h)
  | (refine callP (made_nil ) rfl ?_)
 try simp (maxSteps := 4000000) (disch := omega) only [push_cast, Nat.reduceLT, Nat.reduceEqDiff, Int.reduceToNat, Int.reduceLT, Int.reduceLE, Int.reduceAdd, Int.reduceSub, Int.reduceMul, Int.reduceNeg, Int.reduceEq, reduceCtorEq, Int.cast_ofNat_Int, Hp.get_set]
 all_goals try (first | refine guardT 8 rfl (fun hc => ?_) (fun hc => ?_) | refine guardF 8 rfl (fun hc => ?_) (fun hc => ?_)) <;> try simp only [push_cast] at hc
 all_goals try (exfalso; omega)
 all_goals try simp (maxSteps := 4000000) (disch := omega) only [push_cast, Nat.reduceLT, Nat.reduceEqDiff, Int.reduceToNat, Int.reduceLT, Int.reduceLE, Int.reduceAdd, Int.reduceSub, Int.reduceMul, Int.reduceNeg, Int.reduceEq, reduceCtorEq, Int.cast_ofNat_Int, Hp.get_set]
 all_goals try (first | refine guardT 12 rfl (fun hc => ?_) (fun hc => ?_) | refine guardF 12 rfl (fun hc => ?_) (fun hc => ?_)) <;> try simp only [push_cast] at hc
 all_goals try (exfalso; omega)
 all_goals try simp (maxSteps := 4000000) (disch := omega) only [push_cast, Nat.reduceLT, Nat.reduceEqDiff, Int.reduceToNat, Int.reduceLT, Int.reduceLE, Int.reduceAdd, Int.reduceSub, Int.reduceMul, Int.reduceNeg, Int.reduceEq, reduceCtorEq, Int.cast_ofNat_Int, Hp.get_set]
 all_goals
  refine Qk hK [0, 1, 15] ?_
  clear hK K
  refine CI rfl (fun hc => ?_) (fun hc => ?_)
  ·
   all_goals try (cases hc; done)
   all_goals try simp only [push_cast] at hc
   all_goals try (exfalso; omega)
   all_goals
    refine WS.seq ?_
    refine A1 [4] (by decide) ?_
    refine Rt ?_
    refine hQ0 _ _ _ ?_
    try simp (maxSteps := 4000000) only [push_cast, Int.reduceToNat, Int.reduceLT, Int.reduceLE, Int.reduceAdd, Int.reduceSub, Int.reduceMul, Int.reduceNeg, Int.reduceEq, reduceCtorEq, Nat.reduceLeDiff, Nat.reduceLT, Nat.reduceEqDiff, Nat.reduceAdd, Nat.reduceMul, Nat.reduceSub, Int.cast_ofNat_Int]
    first | done | rfl | (simp; done) | (simp_all; done) | (simp_all; omega)
  all_goals try (cases hc; done)
  all_goals try simp only [push_cast] at hc
  all_goals try (exfalso; omega)
  all_goals
   refine Sk ?_
   refine WS.seq ?_
   refine R0 fun K hK => ?_
   try simp (maxSteps := 4000000) (disch := omega) only [push_cast, Nat.reduceLT, Nat.reduceEqDiff, Nat.reduceAdd, Nat.reduceMul, Nat.reduceSub, Nat.reduceLeDiff, Int.reduceToNat, Int.reduceLT, Int.reduceLE, Int.reduceAdd, Int.reduceSub, Int.reduceMul, Int.reduceNeg, Int.reduceEq, reduceCtorEq, Int.cast_ofNat_Int, Hp.get_set]
   (repeat refine And.intro (by first | omega | (simp; done) | (simp_all; done) | (simp_all; omega)) ?_)
   refine Qk hK [4] ?_
   clear hK K
   refine Rt ?_
   refine hQ0 _ _ _ ?_
   try simp (maxSteps := 4000000) only [push_cast, Int.reduceToNat, Int.reduceLT, Int.reduceLE, Int.reduceAdd, Int.reduceSub, Int.reduceMul, Int.reduceNeg, Int.reduceEq, reduceCtorEq, Nat.reduceLeDiff, Nat.reduceLT, Nat.reduceEqDiff, Nat.reduceAdd, Nat.reduceMul, Nat.reduceSub, Int.cast_ofNat_Int]
   first | done | rfl | (simp; done) | (simp_all; done) | (simp_all; omega)
theorem ask_nil (file : Int) (wrong : Bool) : PSpec Go.Proofs.Try.prog 43 [.nilp, .int .i64 file, .bool wrong] (.int .i64 6) := by
 refine introP (n := 26) (rs := [.tmp 6]) (fn := Go.Proofs.Try.f43) (by rfl) rfl (by kernel_rfl) rfl rfl (Nat.le_of_ble_eq_true rfl) (fun Q0 hQ0 => ?_)
 refine WS.seq ?_
 refine A1 [0, 1, 2] (by decide) ?_
 refine WS.seq ?_
 refine Bk fun K0 hK0 => ?_
 refine WS.seq ?_
 refine R0 fun K hK => ?_
 try simp (maxSteps := 4000000) (disch := omega) only [push_cast, Nat.reduceLT, Nat.reduceEqDiff, Int.reduceToNat, Int.reduceLT, Int.reduceLE, Int.reduceAdd, Int.reduceSub, Int.reduceMul, Int.reduceNeg, Int.reduceEq, reduceCtorEq, Int.cast_ofNat_Int, Hp.get_set]
 first
  | (refine callS (made_spec hd) (fun v τ h => ?_)
     obtain ⟨rfl, rfl⟩ := h)
  | (refine callP (made_nil ) rfl ?_)
 try simp (maxSteps := 4000000) (disch := omega) only [push_cast, Nat.reduceLT, Nat.reduceEqDiff, Int.reduceToNat, Int.reduceLT, Int.reduceLE, Int.reduceAdd, Int.reduceSub, Int.reduceMul, Int.reduceNeg, Int.reduceEq, reduceCtorEq, Int.cast_ofNat_Int, Hp.get_set]
 refine Qk hK [0, 1, 2, 7] ?_
 clear hK K
 refine CI rfl (fun hc => ?_) (fun hc => ?_)
 ·
  all_goals try (cases hc; done)
  all_goals try simp only [push_cast] at hc
  all_goals try (exfalso; omega)
  all_goals
   refine WS.seq ?_
   refine A1 [6] (by decide) ?_
   refine Rt ?_
   simp only [push_cast]
   refine hQ0 _ _ _ ?_
   try simp (maxSteps := 4000000) only [push_cast, Int.reduceToNat, Int.reduceLT, Int.reduceLE, Int.reduceAdd, Int.reduceSub, Int.reduceMul, Int.reduceNeg, Int.reduceEq, reduceCtorEq, Nat.reduceLeDiff, Nat.reduceLT, Nat.reduceEqDiff, Nat.reduceAdd, Nat.reduceMul, Nat.reduceSub, Int.cast_ofNat_Int]
   first | done | rfl | (simp; done) | (simp_all; done) | (simp_all; omega)
 all_goals try (cases hc; done)
 all_goals try simp only [push_cast] at hc
 all_goals try (exfalso; omega)
 all_goals
  refine WS.seq ?_
  refine R0 fun K hK => ?_
  try simp (maxSteps := 4000000) (disch := omega) only [push_cast, Nat.reduceLT, Nat.reduceEqDiff, Int.reduceToNat, Int.reduceLT, Int.reduceLE, Int.reduceAdd, Int.reduceSub, Int.reduceMul, Int.reduceNeg, Int.reduceEq, reduceCtorEq, Int.cast_ofNat_Int, Hp.get_set]
  all_goals try (first | refine guardT 14 rfl (fun hc => ?_) (fun hc => ?_) | refine guardF 14 rfl (fun hc => ?_) (fun hc => ?_)) <;> try simp only [push_cast] at hc
  all_goals try (exfalso; omega)
  all_goals try simp (maxSteps := 4000000) (disch := omega) only [push_cast, Nat.reduceLT, Nat.reduceEqDiff, Int.reduceToNat, Int.reduceLT, Int.reduceLE, Int.reduceAdd, Int.reduceSub, Int.reduceMul, Int.reduceNeg, Int.reduceEq, reduceCtorEq, Int.cast_ofNat_Int, Hp.get_set]
  all_goals try (first | refine guardT 18 rfl (fun hc => ?_) (fun hc => ?_) | refine guardF 18 rfl (fun hc => ?_) (fun hc => ?_)) <;> try simp only [push_cast] at hc
  all_goals try (exfalso; omega)
  all_goals try simp (maxSteps := 4000000) (disch := omega) only [push_cast, Nat.reduceLT, Nat.reduceEqDiff, Int.reduceToNat, Int.reduceLT, Int.reduceLE, Int.reduceAdd, Int.reduceSub, Int.reduceMul, Int.reduceNeg, Int.reduceEq, reduceCtorEq, Int.cast_ofNat_Int, Hp.get_set]
  all_goals
   refine Qk hK [0, 11] ?_
   clear hK K
   refine CI rfl (fun hc => ?_) (fun hc => ?_)
   ·
    all_goals try (cases hc; done)
    all_goals try simp only [push_cast] at hc
    all_goals try (exfalso; omega)
    all_goals
     refine WS.seq ?_
     refine A1 [6] (by decide) ?_
     refine Rt ?_
     simp only [push_cast]
     refine hQ0 _ _ _ ?_
     try simp (maxSteps := 4000000) only [push_cast, Int.reduceToNat, Int.reduceLT, Int.reduceLE, Int.reduceAdd, Int.reduceSub, Int.reduceMul, Int.reduceNeg, Int.reduceEq, reduceCtorEq, Nat.reduceLeDiff, Nat.reduceLT, Nat.reduceEqDiff, Nat.reduceAdd, Nat.reduceMul, Nat.reduceSub, Int.cast_ofNat_Int]
     first | done | rfl | (simp; done) | (simp_all; done) | (simp_all; omega)
   all_goals try (cases hc; done)
   all_goals try simp only [push_cast] at hc
   all_goals try (exfalso; omega)
   all_goals
    refine WS.seq ?_
    refine R0 fun K hK => ?_
    try simp (maxSteps := 4000000) (disch := omega) only [push_cast, Nat.reduceLT, Nat.reduceEqDiff, Nat.reduceAdd, Nat.reduceMul, Nat.reduceSub, Nat.reduceLeDiff, Hp.get_set]
    (repeat refine And.intro (by first | omega | (simp; done) | (simp_all; done) | (simp_all; omega)) ?_)
    refine Qk hK [21] ?_
    clear hK K
    refine CI rfl (fun hc => ?_) (fun hc => ?_)
    ·
     all_goals try (cases hc; done)
     all_goals try simp only [push_cast] at hc
     all_goals try (exfalso; omega)
     all_goals
      refine WS.seq ?_
      refine A1 [6] (by decide) ?_
      refine Rt ?_
      simp only [push_cast]
      refine hQ0 _ _ _ ?_
      try simp (maxSteps := 4000000) only [push_cast, Int.reduceToNat, Int.reduceLT, Int.reduceLE, Int.reduceAdd, Int.reduceSub, Int.reduceMul, Int.reduceNeg, Int.reduceEq, reduceCtorEq, Nat.reduceLeDiff, Nat.reduceLT, Nat.reduceEqDiff, Nat.reduceAdd, Nat.reduceMul, Nat.reduceSub, Int.cast_ofNat_Int]
      first | done | rfl | (simp; done) | (simp_all; done) | (simp_all; omega)
    all_goals try (cases hc; done)
    all_goals try simp only [push_cast] at hc
    all_goals try (exfalso; omega)
    all_goals
     refine Sk ?_
     simp only [push_cast, WS, Nat.reduceEqDiff]
     refine hK0 _ _ ?_
     clear hK0
     try clear K0
     refine WS_keep [] _ ?_
     refine WS.seq ?_
     refine A1 [6] (by decide) ?_
     refine Rt ?_
     refine hQ0 _ _ _ ?_
     try simp (maxSteps := 4000000) only [push_cast, Int.reduceToNat, Int.reduceLT, Int.reduceLE, Int.reduceAdd, Int.reduceSub, Int.reduceMul, Int.reduceNeg, Int.reduceEq, reduceCtorEq, Nat.reduceLeDiff, Nat.reduceLT, Nat.reduceEqDiff, Nat.reduceAdd, Nat.reduceMul, Nat.reduceSub, Int.cast_ofNat_Int]
     first | done | rfl | (simp; done) | (simp_all; done) | (simp_all; omega)
theorem change_spec {σ : Hp} {D : Disk} {d : Nat} (h : DiskAt D d σ) : Spec Go.Proofs.Try.prog 44 [.ptr d 0] (σ) (fun v σ' => v = .int .i64 (changeV D) ∧ DiskAt (changeD D) d σ') := by
 refine introS (n := 35) (rs := [.tmp 2]) (fn := Go.Proofs.Try.f44) (by rfl) rfl (by kernel_rfl) rfl rfl (Nat.le_of_ble_eq_true rfl) (fun Q0 hQ0 => ?_)
 obtain ⟨g1, g2, gt, s1, c1, s2, c2, hD⟩ := h
 have hd := hD.hd
 refine WS.seq ?_
 refine A1 [0] (by decide) ?_
 refine WS.seq (WS.seq ?_)
 refine R0 fun K hK => ?_
 try simp (maxSteps := 4000000) (disch := omega) only [push_cast, Nat.reduceLT, Nat.reduceEqDiff, Nat.reduceAdd, Nat.reduceMul, Nat.reduceSub, Nat.reduceLeDiff, Int.reduceToNat, Int.reduceLT, Int.reduceLE, Int.reduceAdd, Int.reduceSub, Int.reduceMul, Int.reduceNeg, Int.reduceEq, reduceCtorEq, Int.cast_ofNat_Int, Hp.get_set, dcells, Hp.get_set_same, Hp.set_set, hd]
 (repeat refine And.intro (by first | omega | (simp; done) | (simp_all; done) | (simp_all; omega)) ?_)
 all_goals try (first | refine guardT 7 rfl (fun hc => ?_) (fun hc => ?_) | refine guardF 7 rfl (fun hc => ?_) (fun hc => ?_)) <;> try simp only [push_cast] at hc
 all_goals try (exfalso; omega)
 all_goals try simp (maxSteps := 4000000) (disch := omega) only [push_cast, Nat.reduceLT, Nat.reduceEqDiff, Nat.reduceAdd, Nat.reduceMul, Nat.reduceSub, Nat.reduceLeDiff, Int.reduceToNat, Int.reduceLT, Int.reduceLE, Int.reduceAdd, Int.reduceSub, Int.reduceMul, Int.reduceNeg, Int.reduceEq, reduceCtorEq, Int.cast_ofNat_Int, Hp.get_set, dcells, Hp.get_set_same, Hp.set_set, hd]
 all_goals (repeat refine And.intro (by first | omega | (simp; done) | (simp_all; done) | (simp_all; omega)) ?_)
 all_goals
  refine Qk hK [0, 13] ?_
  clear hK K
  refine CI rfl (fun hc => ?_) (fun hc => ?_)
  ·
   all_goals try (cases hc; done)
   all_goals try simp only [push_cast] at hc
   all_goals try (exfalso; omega)
   all_goals
    refine WS.seq ?_
    refine R0 fun K hK => ?_
    try simp (maxSteps := 4000000) (disch := omega) only [push_cast, Nat.reduceLT, Nat.reduceEqDiff, Nat.reduceAdd, Nat.reduceMul, Nat.reduceSub, Nat.reduceLeDiff, Hp.get_set, dcells, Hp.get_set_same, Hp.set_set, hd]
    (repeat refine And.intro (by first | omega | (simp; done) | (simp_all; done) | (simp_all; omega)) ?_)
    refine Qk hK [] ?_
    clear hK K
    refine WS.seq ?_
    refine A1 [2] (by decide) ?_
    refine Rt ?_
    refine hQ0 _ _ _ ?_
    try simp (maxSteps := 4000000) only [push_cast, Int.reduceToNat, Int.reduceLT, Int.reduceLE, Int.reduceAdd, Int.reduceSub, Int.reduceMul, Int.reduceNeg, Int.reduceEq, reduceCtorEq, Nat.reduceLeDiff, Nat.reduceLT, Nat.reduceEqDiff, Nat.reduceAdd, Nat.reduceMul, Nat.reduceSub, Int.cast_ofNat_Int, dcells, Hp.get_set_same, Hp.set_set, hd]
    refine ⟨_, HSub.refl _, by simp_all [changeV], hD.upd (D' := changeD D) ?_ ?_ ?_ ?_⟩ <;> simp_all [changeD, dcells]
  all_goals try (cases hc; done)
  all_goals try simp only [push_cast] at hc
  all_goals try (exfalso; omega)
  all_goals
   refine Sk ?_
   refine WS.seq (WS.seq ?_)
   refine R0 fun K hK => ?_
   try simp (maxSteps := 4000000) (disch := omega) only [push_cast, Nat.reduceLT, Nat.reduceEqDiff, Nat.reduceAdd, Nat.reduceMul, Nat.reduceSub, Nat.reduceLeDiff, Hp.get_set, dcells, Hp.get_set_same, Hp.set_set, hd]
   (repeat refine And.intro (by first | omega | (simp; done) | (simp_all; done) | (simp_all; omega)) ?_)
   refine Qk hK [0, 20] ?_
   clear hK K
   refine CI rfl (fun hc => ?_) (fun hc => ?_)
   ·
    all_goals try (cases hc; done)
    all_goals try simp only [push_cast] at hc
    all_goals try (exfalso; omega)
    all_goals
     refine R0 fun K hK => ?_
     try simp (maxSteps := 4000000) (disch := omega) only [push_cast, Nat.reduceLT, Nat.reduceEqDiff, Nat.reduceAdd, Nat.reduceMul, Nat.reduceSub, Nat.reduceLeDiff, Int.reduceToNat, Int.reduceLT, Int.reduceLE, Int.reduceAdd, Int.reduceSub, Int.reduceMul, Int.reduceNeg, Int.reduceEq, reduceCtorEq, Int.cast_ofNat_Int, Hp.get_set, dcells, Hp.get_set_same, Hp.set_set, hd]
     (repeat refine And.intro (by first | omega | (simp; done) | (simp_all; done) | (simp_all; omega)) ?_)
     refine Qk hK [0] ?_
     clear hK K
     refine WS.seq ?_
     refine R0 fun K hK => ?_
     try simp (maxSteps := 4000000) (disch := omega) only [push_cast, Nat.reduceLT, Nat.reduceEqDiff, Nat.reduceAdd, Nat.reduceMul, Nat.reduceSub, Nat.reduceLeDiff, Int.reduceToNat, Int.reduceLT, Int.reduceLE, Int.reduceAdd, Int.reduceSub, Int.reduceMul, Int.reduceNeg, Int.reduceEq, reduceCtorEq, Int.cast_ofNat_Int, Hp.get_set, dcells, Hp.get_set_same, Hp.set_set, hd]
     (repeat refine And.intro (by first | omega | (simp; done) | (simp_all; done) | (simp_all; omega)) ?_)
     refine Qk hK [] ?_
     clear hK K
     refine WS.seq ?_
     refine A1 [2] (by decide) ?_
     refine Rt ?_
     refine hQ0 _ _ _ ?_
     try simp (maxSteps := 4000000) only [push_cast, Int.reduceToNat, Int.reduceLT, Int.reduceLE, Int.reduceAdd, Int.reduceSub, Int.reduceMul, Int.reduceNeg, Int.reduceEq, reduceCtorEq, Nat.reduceLeDiff, Nat.reduceLT, Nat.reduceEqDiff, Nat.reduceAdd, Nat.reduceMul, Nat.reduceSub, Int.cast_ofNat_Int, dcells, Hp.get_set_same, Hp.set_set, hd]
     refine ⟨_, HSub.refl _, by simp_all [changeV], hD.upd (D' := changeD D) ?_ ?_ ?_ ?_⟩ <;> simp_all [changeD, dcells]
   ·
    all_goals try (cases hc; done)
    all_goals try simp only [push_cast] at hc
    all_goals try (exfalso; omega)
    all_goals
     refine Sk ?_
     refine WS.seq ?_
     refine R0 fun K hK => ?_
     try simp (maxSteps := 4000000) (disch := omega) only [push_cast, Nat.reduceLT, Nat.reduceEqDiff, Nat.reduceAdd, Nat.reduceMul, Nat.reduceSub, Nat.reduceLeDiff, Int.reduceToNat, Int.reduceLT, Int.reduceLE, Int.reduceAdd, Int.reduceSub, Int.reduceMul, Int.reduceNeg, Int.reduceEq, reduceCtorEq, Int.cast_ofNat_Int, Hp.get_set, dcells, Hp.get_set_same, Hp.set_set, hd]
     (repeat refine And.intro (by first | omega | (simp; done) | (simp_all; done) | (simp_all; omega)) ?_)
     refine Qk hK [] ?_
     clear hK K
     refine WS.seq ?_
     refine A1 [2] (by decide) ?_
     refine Rt ?_
     refine hQ0 _ _ _ ?_
     try simp (maxSteps := 4000000) only [push_cast, Int.reduceToNat, Int.reduceLT, Int.reduceLE, Int.reduceAdd, Int.reduceSub, Int.reduceMul, Int.reduceNeg, Int.reduceEq, reduceCtorEq, Nat.reduceLeDiff, Nat.reduceLT, Nat.reduceEqDiff, Nat.reduceAdd, Nat.reduceMul, Nat.reduceSub, Int.cast_ofNat_Int, dcells, Hp.get_set_same, Hp.set_set, hd]
     refine ⟨_, HSub.refl _, by simp_all [changeV], hD.upd (D' := changeD D) ?_ ?_ ?_ ?_⟩ <;> simp_all [changeD, dcells]
theorem quota_spec {σ : Hp} {D : Disk} {d : Nat} (quota : Int) (h : DiskAt D d σ) : Spec Go.Proofs.Try.prog 42 [.ptr d 0, .int .i64 quota] (σ) (fun v σ' => v = .int .i64 (if quota < 1 ∨ 65536 < quota then 1 else 0) ∧ DiskAt (if quota < 1 ∨ 65536 < quota then D else { D with quota := quota }) d σ') := by
 refine introS (n := 20) (rs := [.tmp 4]) (fn := Go.Proofs.Try.f42) (by rfl) rfl (by kernel_rfl) rfl rfl (Nat.le_of_ble_eq_true rfl) (fun Q0 hQ0 => ?_)
 obtain ⟨g1, g2, gt, s1, c1, s2, c2, hD⟩ := h
 have hd := hD.hd
 refine WS.seq ?_
 refine A1 [0, 1] (by decide) ?_
 refine WS.seq ?_
 refine Bk fun K0 hK0 => ?_
 refine WS.seq ?_
 refine R0 fun K hK => ?_
 try simp (maxSteps := 4000000) (disch := omega) only [push_cast, Nat.reduceLT, Nat.reduceEqDiff, Int.reduceToNat, Int.reduceLT, Int.reduceLE, Int.reduceAdd, Int.reduceSub, Int.reduceMul, Int.reduceNeg, Int.reduceEq, reduceCtorEq, Int.cast_ofNat_Int, Hp.get_set, dcells, Hp.get_set_same, Hp.set_set, hd]
 first
  | (refine callS (made_spec hd) (fun v τ h => ?_)
     obtain ⟨rfl, rfl⟩ := h)
  | (refine callP (made_nil ) rfl ?_)
 try simp (maxSteps := 4000000) (disch := omega) only [push_cast, Nat.reduceLT, Nat.reduceEqDiff, Int.reduceToNat, Int.reduceLT, Int.reduceLE, Int.reduceAdd, Int.reduceSub, Int.reduceMul, Int.reduceNeg, Int.reduceEq, reduceCtorEq, Int.cast_ofNat_Int, Hp.get_set, dcells, Hp.get_set_same, Hp.set_set, hd]
 refine Qk hK [0, 1, 5] ?_
 clear hK K
 refine CI rfl (fun hc => ?_) (fun hc => ?_)
 ·
  all_goals try (cases hc; done)
  all_goals try simp only [push_cast] at hc
  all_goals try (exfalso; omega)
  all_goals
   refine WS.seq ?_
   refine A1 [4] (by decide) ?_
   refine Rt ?_
   simp only [push_cast]
   refine hQ0 _ _ _ ?_
   try simp (maxSteps := 4000000) only [push_cast, Int.reduceToNat, Int.reduceLT, Int.reduceLE, Int.reduceAdd, Int.reduceSub, Int.reduceMul, Int.reduceNeg, Int.reduceEq, reduceCtorEq, Nat.reduceLeDiff, Nat.reduceLT, Nat.reduceEqDiff, Nat.reduceAdd, Nat.reduceMul, Nat.reduceSub, Int.cast_ofNat_Int, dcells, Hp.get_set_same, Hp.set_set, hd]
   first | (refine ⟨_, HSub.refl _, ?_⟩; rw [if_pos (by omega), if_pos (by omega)]; exact ⟨rfl, g1, g2, gt, s1, c1, s2, c2, hD⟩) | (refine ⟨_, HSub.refl _, ?_⟩; rw [if_neg (by omega), if_neg (by omega)]; exact ⟨rfl, hD.upd (D' := { D with quota := quota }) rfl rfl rfl rfl⟩)
 all_goals try (cases hc; done)
 all_goals try simp only [push_cast] at hc
 all_goals try (exfalso; omega)
 all_goals
  refine WS.seq ?_
  refine R0 fun K hK => ?_
  try simp (maxSteps := 4000000) (disch := omega) only [push_cast, Nat.reduceLT, Nat.reduceEqDiff, Int.reduceToNat, Int.reduceLT, Int.reduceLE, Int.reduceAdd, Int.reduceSub, Int.reduceMul, Int.reduceNeg, Int.reduceEq, reduceCtorEq, Int.cast_ofNat_Int, Hp.get_set, dcells, Hp.get_set_same, Hp.set_set, hd]
  all_goals try (first | refine guardT 12 rfl (fun hc => ?_) (fun hc => ?_) | refine guardF 12 rfl (fun hc => ?_) (fun hc => ?_)) <;> try simp only [push_cast] at hc
  all_goals try (exfalso; omega)
  all_goals try simp (maxSteps := 4000000) (disch := omega) only [push_cast, Nat.reduceLT, Nat.reduceEqDiff, Int.reduceToNat, Int.reduceLT, Int.reduceLE, Int.reduceAdd, Int.reduceSub, Int.reduceMul, Int.reduceNeg, Int.reduceEq, reduceCtorEq, Int.cast_ofNat_Int, Hp.get_set, dcells, Hp.get_set_same, Hp.set_set, hd]
  all_goals
   refine Qk hK [0, 1, 9] ?_
   clear hK K
   refine CI rfl (fun hc => ?_) (fun hc => ?_)
   ·
    all_goals try (cases hc; done)
    all_goals try simp only [push_cast] at hc
    all_goals try (exfalso; omega)
    all_goals
     refine WS.seq ?_
     refine A1 [4] (by decide) ?_
     refine Rt ?_
     simp only [push_cast]
     refine hQ0 _ _ _ ?_
     try simp (maxSteps := 4000000) only [push_cast, Int.reduceToNat, Int.reduceLT, Int.reduceLE, Int.reduceAdd, Int.reduceSub, Int.reduceMul, Int.reduceNeg, Int.reduceEq, reduceCtorEq, Nat.reduceLeDiff, Nat.reduceLT, Nat.reduceEqDiff, Nat.reduceAdd, Nat.reduceMul, Nat.reduceSub, Int.cast_ofNat_Int, dcells, Hp.get_set_same, Hp.set_set, hd]
     first | (refine ⟨_, HSub.refl _, ?_⟩; rw [if_pos (by omega), if_pos (by omega)]; exact ⟨rfl, g1, g2, gt, s1, c1, s2, c2, hD⟩) | (refine ⟨_, HSub.refl _, ?_⟩; rw [if_neg (by omega), if_neg (by omega)]; exact ⟨rfl, hD.upd (D' := { D with quota := quota }) rfl rfl rfl rfl⟩)
   all_goals try (cases hc; done)
   all_goals try simp only [push_cast] at hc
   all_goals try (exfalso; omega)
   all_goals
    refine Sk ?_
    simp only [push_cast, WS, Nat.reduceEqDiff]
    refine hK0 _ _ ?_
    clear hK0
    try clear K0
    refine WS_keep [0, 1] _ ?_
    refine WS.seq ?_
    refine R0 fun K hK => ?_
    try simp (maxSteps := 4000000) (disch := omega) only [push_cast, Nat.reduceLT, Nat.reduceEqDiff, Nat.reduceAdd, Nat.reduceMul, Nat.reduceSub, Nat.reduceLeDiff, Hp.get_set, dcells, Hp.get_set_same, Hp.set_set, hd]
    (repeat refine And.intro (by first | omega | (simp; done) | (simp_all; done) | (simp_all; omega)) ?_)
    refine Qk hK [] ?_
    clear hK K
    refine WS.seq ?_
    refine A1 [4] (by decide) ?_
    refine Rt ?_
    refine hQ0 _ _ _ ?_
    try simp (maxSteps := 4000000) only [push_cast, Int.reduceToNat, Int.reduceLT, Int.reduceLE, Int.reduceAdd, Int.reduceSub, Int.reduceMul, Int.reduceNeg, Int.reduceEq, reduceCtorEq, Nat.reduceLeDiff, Nat.reduceLT, Nat.reduceEqDiff, Nat.reduceAdd, Nat.reduceMul, Nat.reduceSub, Int.cast_ofNat_Int, dcells, Hp.get_set_same, Hp.set_set, hd]
    first | (refine ⟨_, HSub.refl _, ?_⟩; rw [if_pos (by omega), if_pos (by omega)]; exact ⟨rfl, g1, g2, gt, s1, c1, s2, c2, hD⟩) | (refine ⟨_, HSub.refl _, ?_⟩; rw [if_neg (by omega), if_neg (by omega)]; exact ⟨rfl, hD.upd (D' := { D with quota := quota }) rfl rfl rfl rfl⟩)
theorem quota_nil (quota : Int) : PSpec Go.Proofs.Try.prog 42 [.nilp, .int .i64 quota] (.int .i64 6) := by
 refine introP (n := 20) (rs := [.tmp 4]) (fn := Go.Proofs.Try.f42) (by rfl) rfl (by kernel_rfl) rfl rfl (Nat.le_of_ble_eq_true rfl) (fun Q0 hQ0 => ?_)
 refine WS.seq ?_
 refine A1 [0, 1] (by decide) ?_
 refine WS.seq ?_
 refine Bk fun K0 hK0 => ?_
 refine WS.seq ?_
 refine R0 fun K hK => ?_
 try simp (maxSteps := 4000000) (disch := omega) only [push_cast, Nat.reduceLT, Nat.reduceEqDiff, Int.reduceToNat, Int.reduceLT, Int.reduceLE, Int.reduceAdd, Int.reduceSub, Int.reduceMul, Int.reduceNeg, Int.reduceEq, reduceCtorEq, Int.cast_ofNat_Int, Hp.get_set]
 first
  | (refine callS (made_spec hd) (fun v τ h => ?_)
     obtain ⟨rfl, rfl⟩ := h)
  | (refine callP (made_nil ) rfl ?_)
 try simp (maxSteps := 4000000) (disch := omega) only [push_cast, Nat.reduceLT, Nat.reduceEqDiff, Int.reduceToNat, Int.reduceLT, Int.reduceLE, Int.reduceAdd, Int.reduceSub, Int.reduceMul, Int.reduceNeg, Int.reduceEq, reduceCtorEq, Int.cast_ofNat_Int, Hp.get_set]
 refine Qk hK [0, 1, 5] ?_
 clear hK K
 refine CI rfl (fun hc => ?_) (fun hc => ?_)
 ·
  all_goals try (cases hc; done)
  all_goals try simp only [push_cast] at hc
  all_goals try (exfalso; omega)
  all_goals
   refine WS.seq ?_
   refine A1 [4] (by decide) ?_
   refine Rt ?_
   simp only [push_cast]
   refine hQ0 _ _ _ ?_
   try simp (maxSteps := 4000000) only [push_cast, Int.reduceToNat, Int.reduceLT, Int.reduceLE, Int.reduceAdd, Int.reduceSub, Int.reduceMul, Int.reduceNeg, Int.reduceEq, reduceCtorEq, Nat.reduceLeDiff, Nat.reduceLT, Nat.reduceEqDiff, Nat.reduceAdd, Nat.reduceMul, Nat.reduceSub, Int.cast_ofNat_Int]
   first | done | rfl | (simp; done) | (simp_all; done) | (simp_all; omega)
 all_goals try (cases hc; done)
 all_goals try simp only [push_cast] at hc
 all_goals try (exfalso; omega)
 all_goals
  refine WS.seq ?_
  refine R0 fun K hK => ?_
  try simp (maxSteps := 4000000) (disch := omega) only [push_cast, Nat.reduceLT, Nat.reduceEqDiff, Int.reduceToNat, Int.reduceLT, Int.reduceLE, Int.reduceAdd, Int.reduceSub, Int.reduceMul, Int.reduceNeg, Int.reduceEq, reduceCtorEq, Int.cast_ofNat_Int, Hp.get_set]
  all_goals try (first | refine guardT 12 rfl (fun hc => ?_) (fun hc => ?_) | refine guardF 12 rfl (fun hc => ?_) (fun hc => ?_)) <;> try simp only [push_cast] at hc
  all_goals try (exfalso; omega)
  all_goals try simp (maxSteps := 4000000) (disch := omega) only [push_cast, Nat.reduceLT, Nat.reduceEqDiff, Int.reduceToNat, Int.reduceLT, Int.reduceLE, Int.reduceAdd, Int.reduceSub, Int.reduceMul, Int.reduceNeg, Int.reduceEq, reduceCtorEq, Int.cast_ofNat_Int, Hp.get_set]
  all_goals
   refine Qk hK [0, 1, 9] ?_
   clear hK K
   refine CI rfl (fun hc => ?_) (fun hc => ?_)
   ·
    all_goals try (cases hc; done)
    all_goals try simp only [push_cast] at hc
    all_goals try (exfalso; omega)
    all_goals
     refine WS.seq ?_
     refine A1 [4] (by decide) ?_
     refine Rt ?_
     simp only [push_cast]
     refine hQ0 _ _ _ ?_
     try simp (maxSteps := 4000000) only [push_cast, Int.reduceToNat, Int.reduceLT, Int.reduceLE, Int.reduceAdd, Int.reduceSub, Int.reduceMul, Int.reduceNeg, Int.reduceEq, reduceCtorEq, Nat.reduceLeDiff, Nat.reduceLT, Nat.reduceEqDiff, Nat.reduceAdd, Nat.reduceMul, Nat.reduceSub, Int.cast_ofNat_Int]
     first | done | rfl | (simp; done) | (simp_all; done) | (simp_all; omega)
   all_goals try (cases hc; done)
   all_goals try simp only [push_cast] at hc
   all_goals try (exfalso; omega)
   all_goals
    refine Sk ?_
    simp only [push_cast, WS, Nat.reduceEqDiff]
    refine hK0 _ _ ?_
    clear hK0
    try clear K0
    refine WS_keep [0, 1] _ ?_
    refine WS.seq ?_
    refine R0 fun K hK => ?_
    try simp (maxSteps := 4000000) (disch := omega) only [push_cast, Nat.reduceLT, Nat.reduceEqDiff, Nat.reduceAdd, Nat.reduceMul, Nat.reduceSub, Nat.reduceLeDiff, Hp.get_set]
    (repeat refine And.intro (by first | omega | (simp; done) | (simp_all; done) | (simp_all; omega)) ?_)
    refine Qk hK [] ?_
    clear hK K
    refine WS.seq ?_
    refine A1 [4] (by decide) ?_
    refine Rt ?_
    refine hQ0 _ _ _ ?_
    try simp (maxSteps := 4000000) only [push_cast, Int.reduceToNat, Int.reduceLT, Int.reduceLE, Int.reduceAdd, Int.reduceSub, Int.reduceMul, Int.reduceNeg, Int.reduceEq, reduceCtorEq, Nat.reduceLeDiff, Nat.reduceLT, Nat.reduceEqDiff, Nat.reduceAdd, Nat.reduceMul, Nat.reduceSub, Int.cast_ofNat_Int]
    first | done | rfl | (simp; done) | (simp_all; done) | (simp_all; omega)
theorem fail_spec {σ : Hp} {D : Disk} {d : Nat} (calls : Int) (h : DiskAt D d σ) : Spec Go.Proofs.Try.prog 33 [.ptr d 0, .int .i64 calls] (σ) (fun v σ' => v = .int .i64 (if calls < 0 then 1 else 0) ∧ DiskAt (if calls < 0 then D else { D with plan := true, left := calls }) d σ') := by
 refine introS (n := 19) (rs := [.tmp 4]) (fn := Go.Proofs.Try.f33) (by rfl) rfl (by kernel_rfl) rfl rfl (Nat.le_of_ble_eq_true rfl) (fun Q0 hQ0 => ?_)
 obtain ⟨g1, g2, gt, s1, c1, s2, c2, hD⟩ := h
 have hd := hD.hd
 refine WS.seq ?_
 refine A1 [0, 1] (by decide) ?_
 refine WS.seq ?_
 refine Bk fun K0 hK0 => ?_
 refine WS.seq ?_
 refine R0 fun K hK => ?_
 try simp (maxSteps := 4000000) (disch := omega) only [push_cast, Nat.reduceLT, Nat.reduceEqDiff, Int.reduceToNat, Int.reduceLT, Int.reduceLE, Int.reduceAdd, Int.reduceSub, Int.reduceMul, Int.reduceNeg, Int.reduceEq, reduceCtorEq, Int.cast_ofNat_Int, Hp.get_set, dcells, Hp.get_set_same, Hp.set_set, hd]
 first
  | (refine callS (made_spec hd) (fun v τ h => ?_)
     obtain ⟨rfl, rfl⟩ := h)
  | (refine callP (made_nil ) rfl ?_)
 try simp (maxSteps := 4000000) (disch := omega) only [push_cast, Nat.reduceLT, Nat.reduceEqDiff, Int.reduceToNat, Int.reduceLT, Int.reduceLE, Int.reduceAdd, Int.reduceSub, Int.reduceMul, Int.reduceNeg, Int.reduceEq, reduceCtorEq, Int.cast_ofNat_Int, Hp.get_set, dcells, Hp.get_set_same, Hp.set_set, hd]
 refine Qk hK [0, 1, 5] ?_
 clear hK K
 refine CI rfl (fun hc => ?_) (fun hc => ?_)
 ·
  all_goals try (cases hc; done)
  all_goals try simp only [push_cast] at hc
  all_goals try (exfalso; omega)
  all_goals
   refine WS.seq ?_
   refine A1 [4] (by decide) ?_
   refine Rt ?_
   simp only [push_cast]
   refine hQ0 _ _ _ ?_
   try simp (maxSteps := 4000000) only [push_cast, Int.reduceToNat, Int.reduceLT, Int.reduceLE, Int.reduceAdd, Int.reduceSub, Int.reduceMul, Int.reduceNeg, Int.reduceEq, reduceCtorEq, Nat.reduceLeDiff, Nat.reduceLT, Nat.reduceEqDiff, Nat.reduceAdd, Nat.reduceMul, Nat.reduceSub, Int.cast_ofNat_Int, dcells, Hp.get_set_same, Hp.set_set, hd]
   first | (refine ⟨_, HSub.refl _, ?_⟩; rw [if_pos (by omega), if_pos (by omega)]; exact ⟨rfl, g1, g2, gt, s1, c1, s2, c2, hD⟩) | (refine ⟨_, HSub.refl _, ?_⟩; rw [if_neg (by omega), if_neg (by omega)]; exact ⟨rfl, hD.upd (D' := { D with plan := true, left := calls }) rfl rfl rfl rfl⟩)
 all_goals try (cases hc; done)
 all_goals try simp only [push_cast] at hc
 all_goals try (exfalso; omega)
 all_goals
  refine WS.seq ?_
  refine R0 fun K hK => ?_
  try simp (maxSteps := 4000000) (disch := omega) only [push_cast, Nat.reduceLT, Nat.reduceEqDiff, Int.reduceToNat, Int.reduceLT, Int.reduceLE, Int.reduceAdd, Int.reduceSub, Int.reduceMul, Int.reduceNeg, Int.reduceEq, reduceCtorEq, Int.cast_ofNat_Int, Hp.get_set, dcells, Hp.get_set_same, Hp.set_set, hd]
  refine Qk hK [0, 1, 9] ?_
  clear hK K
  refine CI rfl (fun hc => ?_) (fun hc => ?_)
  ·
   all_goals try (cases hc; done)
   all_goals try simp only [push_cast] at hc
   all_goals try (exfalso; omega)
   all_goals
    refine WS.seq ?_
    refine A1 [4] (by decide) ?_
    refine Rt ?_
    simp only [push_cast]
    refine hQ0 _ _ _ ?_
    try simp (maxSteps := 4000000) only [push_cast, Int.reduceToNat, Int.reduceLT, Int.reduceLE, Int.reduceAdd, Int.reduceSub, Int.reduceMul, Int.reduceNeg, Int.reduceEq, reduceCtorEq, Nat.reduceLeDiff, Nat.reduceLT, Nat.reduceEqDiff, Nat.reduceAdd, Nat.reduceMul, Nat.reduceSub, Int.cast_ofNat_Int, dcells, Hp.get_set_same, Hp.set_set, hd]
    first | (refine ⟨_, HSub.refl _, ?_⟩; rw [if_pos (by omega), if_pos (by omega)]; exact ⟨rfl, g1, g2, gt, s1, c1, s2, c2, hD⟩) | (refine ⟨_, HSub.refl _, ?_⟩; rw [if_neg (by omega), if_neg (by omega)]; exact ⟨rfl, hD.upd (D' := { D with plan := true, left := calls }) rfl rfl rfl rfl⟩)
  all_goals try (cases hc; done)
  all_goals try simp only [push_cast] at hc
  all_goals try (exfalso; omega)
  all_goals
   refine Sk ?_
   simp only [push_cast, WS, Nat.reduceEqDiff]
   refine hK0 _ _ ?_
   clear hK0
   try clear K0
   refine WS_keep [0, 1] _ ?_
   refine WS.seq ?_
   refine R0 fun K hK => ?_
   try simp (maxSteps := 4000000) (disch := omega) only [push_cast, Nat.reduceLT, Nat.reduceEqDiff, Nat.reduceAdd, Nat.reduceMul, Nat.reduceSub, Nat.reduceLeDiff, Hp.get_set, dcells, Hp.get_set_same, Hp.set_set, hd]
   (repeat refine And.intro (by first | omega | (simp; done) | (simp_all; done) | (simp_all; omega)) ?_)
   refine Qk hK [] ?_
   clear hK K
   refine WS.seq ?_
   refine A1 [4] (by decide) ?_
   refine Rt ?_
   refine hQ0 _ _ _ ?_
   try simp (maxSteps := 4000000) only [push_cast, Int.reduceToNat, Int.reduceLT, Int.reduceLE, Int.reduceAdd, Int.reduceSub, Int.reduceMul, Int.reduceNeg, Int.reduceEq, reduceCtorEq, Nat.reduceLeDiff, Nat.reduceLT, Nat.reduceEqDiff, Nat.reduceAdd, Nat.reduceMul, Nat.reduceSub, Int.cast_ofNat_Int, dcells, Hp.get_set_same, Hp.set_set, hd]
   first | (refine ⟨_, HSub.refl _, ?_⟩; rw [if_pos (by omega), if_pos (by omega)]; exact ⟨rfl, g1, g2, gt, s1, c1, s2, c2, hD⟩) | (refine ⟨_, HSub.refl _, ?_⟩; rw [if_neg (by omega), if_neg (by omega)]; exact ⟨rfl, hD.upd (D' := { D with plan := true, left := calls }) rfl rfl rfl rfl⟩)
theorem fail_nil (calls : Int) : PSpec Go.Proofs.Try.prog 33 [.nilp, .int .i64 calls] (.int .i64 6) := by
 refine introP (n := 19) (rs := [.tmp 4]) (fn := Go.Proofs.Try.f33) (by rfl) rfl (by kernel_rfl) rfl rfl (Nat.le_of_ble_eq_true rfl) (fun Q0 hQ0 => ?_)
 refine WS.seq ?_
 refine A1 [0, 1] (by decide) ?_
 refine WS.seq ?_
 refine Bk fun K0 hK0 => ?_
 refine WS.seq ?_
 refine R0 fun K hK => ?_
 try simp (maxSteps := 4000000) (disch := omega) only [push_cast, Nat.reduceLT, Nat.reduceEqDiff, Int.reduceToNat, Int.reduceLT, Int.reduceLE, Int.reduceAdd, Int.reduceSub, Int.reduceMul, Int.reduceNeg, Int.reduceEq, reduceCtorEq, Int.cast_ofNat_Int, Hp.get_set]
 first
  | (refine callS (made_spec hd) (fun v τ h => ?_)
     obtain ⟨rfl, rfl⟩ := h)
  | (refine callP (made_nil ) rfl ?_)
 try simp (maxSteps := 4000000) (disch := omega) only [push_cast, Nat.reduceLT, Nat.reduceEqDiff, Int.reduceToNat, Int.reduceLT, Int.reduceLE, Int.reduceAdd, Int.reduceSub, Int.reduceMul, Int.reduceNeg, Int.reduceEq, reduceCtorEq, Int.cast_ofNat_Int, Hp.get_set]
 refine Qk hK [0, 1, 5] ?_
 clear hK K
 refine CI rfl (fun hc => ?_) (fun hc => ?_)
 ·
  all_goals try (cases hc; done)
  all_goals try simp only [push_cast] at hc
  all_goals try (exfalso; omega)
  all_goals
   refine WS.seq ?_
   refine A1 [4] (by decide) ?_
   refine Rt ?_
   simp only [push_cast]
   refine hQ0 _ _ _ ?_
   try simp (maxSteps := 4000000) only [push_cast, Int.reduceToNat, Int.reduceLT, Int.reduceLE, Int.reduceAdd, Int.reduceSub, Int.reduceMul, Int.reduceNeg, Int.reduceEq, reduceCtorEq, Nat.reduceLeDiff, Nat.reduceLT, Nat.reduceEqDiff, Nat.reduceAdd, Nat.reduceMul, Nat.reduceSub, Int.cast_ofNat_Int]
   first | done | rfl | (simp; done) | (simp_all; done) | (simp_all; omega)
 all_goals try (cases hc; done)
 all_goals try simp only [push_cast] at hc
 all_goals try (exfalso; omega)
 all_goals
  refine WS.seq ?_
  refine R0 fun K hK => ?_
  try simp (maxSteps := 4000000) (disch := omega) only [push_cast, Nat.reduceLT, Nat.reduceEqDiff, Int.reduceToNat, Int.reduceLT, Int.reduceLE, Int.reduceAdd, Int.reduceSub, Int.reduceMul, Int.reduceNeg, Int.reduceEq, reduceCtorEq, Int.cast_ofNat_Int, Hp.get_set]
  refine Qk hK [0, 1, 9] ?_
  clear hK K
  refine CI rfl (fun hc => ?_) (fun hc => ?_)
  ·
   all_goals try (cases hc; done)
   all_goals try simp only [push_cast] at hc
   all_goals try (exfalso; omega)
   all_goals
    refine WS.seq ?_
    refine A1 [4] (by decide) ?_
    refine Rt ?_
    simp only [push_cast]
    refine hQ0 _ _ _ ?_
    try simp (maxSteps := 4000000) only [push_cast, Int.reduceToNat, Int.reduceLT, Int.reduceLE, Int.reduceAdd, Int.reduceSub, Int.reduceMul, Int.reduceNeg, Int.reduceEq, reduceCtorEq, Nat.reduceLeDiff, Nat.reduceLT, Nat.reduceEqDiff, Nat.reduceAdd, Nat.reduceMul, Nat.reduceSub, Int.cast_ofNat_Int]
    first | done | rfl | (simp; done) | (simp_all; done) | (simp_all; omega)
  all_goals try (cases hc; done)
  all_goals try simp only [push_cast] at hc
  all_goals try (exfalso; omega)
  all_goals
   refine Sk ?_
   simp only [push_cast, WS, Nat.reduceEqDiff]
   refine hK0 _ _ ?_
   clear hK0
   try clear K0
   refine WS_keep [0, 1] _ ?_
   refine WS.seq ?_
   refine R0 fun K hK => ?_
   try simp (maxSteps := 4000000) (disch := omega) only [push_cast, Nat.reduceLT, Nat.reduceEqDiff, Nat.reduceAdd, Nat.reduceMul, Nat.reduceSub, Nat.reduceLeDiff, Hp.get_set]
   (repeat refine And.intro (by first | omega | (simp; done) | (simp_all; done) | (simp_all; omega)) ?_)
   refine Qk hK [] ?_
   clear hK K
   refine WS.seq ?_
   refine A1 [4] (by decide) ?_
   refine Rt ?_
   refine hQ0 _ _ _ ?_
   try simp (maxSteps := 4000000) only [push_cast, Int.reduceToNat, Int.reduceLT, Int.reduceLE, Int.reduceAdd, Int.reduceSub, Int.reduceMul, Int.reduceNeg, Int.reduceEq, reduceCtorEq, Nat.reduceLeDiff, Nat.reduceLT, Nat.reduceEqDiff, Nat.reduceAdd, Nat.reduceMul, Nat.reduceSub, Int.cast_ofNat_Int]
   first | done | rfl | (simp; done) | (simp_all; done) | (simp_all; omega)
theorem clone_spec {es : List V} {tag : Tag} (hu : uniV 1 es = true) (hl : es.length ≤ 140737488355328) : PSpec Go.Proofs.Try.prog 45 [.sl 1 es tag] (.sl 1 es .no) := by
 refine introP (n := 8) (rs := [.tmp 2]) (fn := Go.Proofs.Try.f45) (by rfl) rfl (by kernel_rfl) rfl rfl (Nat.le_of_ble_eq_true rfl) (fun Q0 hQ0 => ?_)
 refine WS.seq ?_
 refine A1 [0] (by decide) ?_
 refine WS.seq (WS.seq ?_)
 refine R0 fun K hK => ?_
 try simp (maxSteps := 4000000) (disch := omega) only [push_cast, Nat.reduceLT, Nat.reduceEqDiff, Nat.reduceAdd, Nat.reduceMul, Nat.reduceSub, Nat.reduceLeDiff, Int.reduceToNat, Int.reduceLT, Int.reduceLE, Int.reduceAdd, Int.reduceSub, Int.reduceMul, Int.reduceNeg, Int.reduceEq, reduceCtorEq, Int.cast_ofNat_Int, Hp.get_set]
 refine fun b hb => ?_
 try simp (maxSteps := 4000000) (disch := omega) only [push_cast, Nat.reduceLT, Nat.reduceEqDiff, Nat.reduceAdd, Nat.reduceMul, Nat.reduceSub, Nat.reduceLeDiff, Int.reduceToNat, Int.reduceLT, Int.reduceLE, Int.reduceAdd, Int.reduceSub, Int.reduceMul, Int.reduceNeg, Int.reduceEq, reduceCtorEq, Int.cast_ofNat_Int, Hp.get_set]
 refine Qk hK [0, 4] ?_
 clear hK K
 refine CI rfl (fun hc => ?_) (fun hc => ?_)
 ·
  all_goals try (cases hc; done)
  all_goals try simp only [push_cast] at hc
  all_goals try (exfalso; omega)
  all_goals
   have he : es = [] := by first | exact hb hc | (simp_all)
   subst he
   refine WS.seq ?_
   refine A1 [2] (by decide) ?_
   refine S_resz 2 1 rfl ?_
   refine S_untag 2 rfl ?_
   refine Rt ?_
   refine hQ0 _ _ _ ?_
   try simp (maxSteps := 4000000) only [push_cast, Int.reduceToNat, Int.reduceLT, Int.reduceLE, Int.reduceAdd, Int.reduceSub, Int.reduceMul, Int.reduceNeg, Int.reduceEq, reduceCtorEq, Nat.reduceLeDiff, Nat.reduceLT, Nat.reduceEqDiff, Nat.reduceAdd, Nat.reduceMul, Nat.reduceSub, Int.cast_ofNat_Int]
   first | done | rfl | (simp; done) | (simp_all; done) | (simp_all; omega)
 all_goals try (cases hc; done)
 all_goals try simp only [push_cast] at hc
 all_goals try (exfalso; omega)
 all_goals
  refine Sk ?_
  refine WS.seq ?_
  refine RU [7] [] fun K hK => ?_
  try simp (maxSteps := 4000000) (disch := omega) only [push_cast, Nat.reduceLT, Nat.reduceEqDiff, Nat.reduceAdd, Nat.reduceMul, Nat.reduceSub, Nat.reduceLeDiff, Int.reduceToNat, Int.reduceLT, Int.reduceLE, Int.reduceAdd, Int.reduceSub, Int.reduceMul, Int.reduceNeg, Int.reduceEq, reduceCtorEq, Int.cast_ofNat_Int, Hp.get_set, room, Nat.mul_one]
  (repeat refine And.intro (by first | omega | (simp; done) | (simp_all; done) | (simp_all; omega)) ?_)
  try simp (maxSteps := 4000000) (disch := omega) only [push_cast, Nat.reduceLT, Nat.reduceEqDiff, Nat.reduceAdd, Nat.reduceMul, Nat.reduceSub, Nat.reduceLeDiff, Int.reduceToNat, Int.reduceLT, Int.reduceLE, Int.reduceAdd, Int.reduceSub, Int.reduceMul, Int.reduceNeg, Int.reduceEq, reduceCtorEq, Int.cast_ofNat_Int, Hp.get_set, room, Nat.mul_one]
  (repeat refine And.intro (by first | omega | (simp; done) | (simp_all; done) | (simp_all; omega)) ?_)
  try simp (maxSteps := 4000000) (disch := omega) only [push_cast, Nat.reduceLT, Nat.reduceEqDiff, Nat.reduceAdd, Nat.reduceMul, Nat.reduceSub, Nat.reduceLeDiff, Int.reduceToNat, Int.reduceLT, Int.reduceLE, Int.reduceAdd, Int.reduceSub, Int.reduceMul, Int.reduceNeg, Int.reduceEq, reduceCtorEq, Int.cast_ofNat_Int, Hp.get_set, room, Nat.mul_one]
  (repeat refine And.intro (by first | omega | (simp; done) | (simp_all; done) | (simp_all; omega)) ?_)
  try simp (maxSteps := 4000000) (disch := omega) only [push_cast, Nat.reduceLT, Nat.reduceEqDiff, Nat.reduceAdd, Nat.reduceMul, Nat.reduceSub, Nat.reduceLeDiff, Int.reduceToNat, Int.reduceLT, Int.reduceLE, Int.reduceAdd, Int.reduceSub, Int.reduceMul, Int.reduceNeg, Int.reduceEq, reduceCtorEq, Int.cast_ofNat_Int, Hp.get_set, room, Nat.mul_one]
  (repeat refine And.intro (by first | omega | (simp; done) | (simp_all; done) | (simp_all; omega)) ?_)
  refine Qk hK [2] ?_
  clear hK K
  refine Rt ?_
  refine hQ0 _ _ _ ?_
  try simp (maxSteps := 4000000) only [push_cast, Int.reduceToNat, Int.reduceLT, Int.reduceLE, Int.reduceAdd, Int.reduceSub, Int.reduceMul, Int.reduceNeg, Int.reduceEq, reduceCtorEq, Nat.reduceLeDiff, Nat.reduceLT, Nat.reduceEqDiff, Nat.reduceAdd, Nat.reduceMul, Nat.reduceSub, Int.cast_ofNat_Int]
  first | done | rfl | (simp; done) | (simp_all; done) | (simp_all; omega)
def newP (q : Int) (v : V) (σ' : Hp) : Prop := if q < 1 ∨ 65536 < q then v = .tup [.nilp, .int .i64 1] else ∃ d, v = .tup [.ptr d 0, .int .i64 0] ∧ DiskAt (Disk.new q) d σ'

theorem new_spec {σ : Hp} (quota : Int) : Spec Go.Proofs.Try.prog 26 [.int .i64 quota] (σ) (newP quota) := by
 refine introS (n := 15) (rs := [.tmp 2, .tmp 3]) (fn := Go.Proofs.Try.f26) (by rfl) rfl (by kernel_rfl) rfl rfl (Nat.le_of_ble_eq_true rfl) (fun Q0 hQ0 => ?_)
 refine WS.seq ?_
 refine R0 fun K hK => ?_
 try simp (maxSteps := 4000000) (disch := omega) only [push_cast, Nat.reduceLT, Nat.reduceEqDiff, Hp.get_set]
 refine Qk hK [0] ?_
 clear hK K
 refine WS.seq (WS.seq ?_)
 refine R0 fun K hK => ?_
 try simp (maxSteps := 4000000) (disch := omega) only [push_cast, Nat.reduceLT, Nat.reduceEqDiff, Int.reduceToNat, Int.reduceLT, Int.reduceLE, Int.reduceAdd, Int.reduceSub, Int.reduceMul, Int.reduceNeg, Int.reduceEq, reduceCtorEq, Int.cast_ofNat_Int, Hp.get_set]
 all_goals try (first | refine guardT 6 rfl (fun hc => ?_) (fun hc => ?_) | refine guardF 6 rfl (fun hc => ?_) (fun hc => ?_)) <;> try simp only [push_cast] at hc
 all_goals try (exfalso; omega)
 all_goals try simp (maxSteps := 4000000) (disch := omega) only [push_cast, Nat.reduceLT, Nat.reduceEqDiff, Int.reduceToNat, Int.reduceLT, Int.reduceLE, Int.reduceAdd, Int.reduceSub, Int.reduceMul, Int.reduceNeg, Int.reduceEq, reduceCtorEq, Int.cast_ofNat_Int, Hp.get_set]
 all_goals
  refine Qk hK [0, 9] ?_
  clear hK K
  refine CI rfl (fun hc => ?_) (fun hc => ?_)
  ·
   all_goals try (cases hc; done)
   all_goals try simp only [push_cast] at hc
   all_goals try (exfalso; omega)
   all_goals
    refine WS.seq ?_
    refine R0 fun K hK => ?_
    try simp (maxSteps := 4000000) (disch := omega) only [push_cast, Nat.reduceLT, Nat.reduceEqDiff, Hp.get_set]
    refine Qk hK [2, 3] ?_
    clear hK K
    refine Rt ?_
    refine hQ0 _ _ _ ?_
    try simp (maxSteps := 4000000) only [push_cast, Int.reduceToNat, Int.reduceLT, Int.reduceLE, Int.reduceAdd, Int.reduceSub, Int.reduceMul, Int.reduceNeg, Int.reduceEq, reduceCtorEq, Nat.reduceLeDiff, Nat.reduceLT, Nat.reduceEqDiff, Nat.reduceAdd, Nat.reduceMul, Nat.reduceSub, Int.cast_ofNat_Int]
    exact ⟨_, HSub.refl _, by rw [newP, if_pos (by omega)]⟩
  all_goals try (cases hc; done)
  all_goals try simp only [push_cast] at hc
  all_goals try (exfalso; omega)
  all_goals
   refine Sk ?_
   refine WS.seq ?_
   refine R0 fun K hK => ?_
   try simp (maxSteps := 4000000) (disch := omega) only [push_cast, Nat.reduceLT, Nat.reduceEqDiff, Nat.reduceAdd, Nat.reduceMul, Nat.reduceSub, Nat.reduceLeDiff, Hp.get_set]
   (repeat refine And.intro (by first | omega | (simp; done) | (simp_all; done) | (simp_all; omega)) ?_)
   refine fun ga hga => ?_
   try simp only [Hp.set_none, Hp.join_none_iff] at hga
   try simp (maxSteps := 4000000) (disch := omega) only [push_cast, Nat.reduceLT, Nat.reduceEqDiff, Nat.reduceAdd, Nat.reduceMul, Nat.reduceSub, Nat.reduceLeDiff, Hp.get_set, hga]
   (repeat refine And.intro (by first | omega | (simp; done) | (simp_all; done) | (simp_all; omega)) ?_)
   refine fun gb hgb => ?_
   try simp only [Hp.set_none, Hp.join_none_iff] at hgb
   try simp (maxSteps := 4000000) (disch := omega) only [push_cast, Nat.reduceLT, Nat.reduceEqDiff, Nat.reduceAdd, Nat.reduceMul, Nat.reduceSub, Nat.reduceLeDiff, Hp.get_set, hga, hgb]
   (repeat refine And.intro (by first | omega | (simp; done) | (simp_all; done) | (simp_all; omega)) ?_)
   refine fun gd hgd => ?_
   try simp only [Hp.set_none, Hp.join_none_iff] at hgd
   try simp (maxSteps := 4000000) (disch := omega) only [push_cast, Nat.reduceLT, Nat.reduceEqDiff, Nat.reduceAdd, Nat.reduceMul, Nat.reduceSub, Nat.reduceLeDiff, Hp.get_set, hga, hgb, hgd]
   (repeat refine And.intro (by first | omega | (simp; done) | (simp_all; done) | (simp_all; omega)) ?_)
   refine Qk hK [2, 3] ?_
   clear hK K
   refine S_tokH 3 (g := gd) (i := 5) (Hp.get_set_same _ _ _) rfl ?_
   intro gt ht
   simp only [Hp.set_none] at ht
   refine Rt ?_
   refine hQ0 _ _ _ ?_
   try simp (maxSteps := 4000000) only [push_cast, Int.reduceToNat, Int.reduceLT, Int.reduceLE, Int.reduceAdd, Int.reduceSub, Int.reduceMul, Int.reduceNeg, Int.reduceEq, reduceCtorEq, Nat.reduceLeDiff, Nat.reduceLT, Nat.reduceEqDiff, Nat.reduceAdd, Nat.reduceMul, Nat.reduceSub, Int.cast_ofNat_Int, hga, hgb, hgd]
   refine ⟨_, HSub.refl _, ?_⟩
   rw [newP, if_neg (by omega)]
   refine ⟨gd, rfl, ga, gb, gt, [], 0, [], 0, ⟨?_, ?_, ?_, ?_, ?_, ?_, ?_, ?_, ?_, ?_⟩⟩
   all_goals simp_all [dcells, Disk.new, Hp.get_set, encM]
theorem read_spec {σ : Hp} {D : Disk} {d : Nat} (file s : Int) (hok : D.Ok) (h : DiskAt D d σ) : Spec Go.Proofs.Try.prog 30 [.ptr d 0, .int .i64 file, .int .i64 s] (σ) (fun v σ' => v = .tup [readV D file s, .int .i64 (readE D file s)] ∧ σ' = σ) := by
 refine introS (n := 38) (rs := [.tmp 6, .tmp 7]) (fn := Go.Proofs.Try.f30) (by rfl) rfl (by kernel_rfl) rfl rfl (Nat.le_of_ble_eq_true rfl) (fun Q0 hQ0 => ?_)
 obtain ⟨g1, g2, gt, s1, c1, s2, c2, hD⟩ := h
 have hd := hD.hd
 have hm2 := hD.m2
 have hlen := readB_len hok (file, s)
 refine WS.seq ?_
 refine R0 fun K hK => ?_
 try simp (maxSteps := 4000000) (disch := omega) only [push_cast, Nat.reduceLT, Nat.reduceEqDiff, Nat.reduceAdd, Nat.reduceMul, Nat.reduceSub, Nat.reduceLeDiff, Int.reduceToNat, Int.reduceLT, Int.reduceLE, Int.reduceAdd, Int.reduceSub, Int.reduceMul, Int.reduceNeg, Int.reduceEq, reduceCtorEq, Int.cast_ofNat_Int, Hp.get_set, dcells, hd, hm2]
 refine Qk hK [0, 1, 2] ?_
 clear hK K
 refine WS.seq (WS.seq ?_)
 refine R0 fun K hK => ?_
 try simp (maxSteps := 4000000) (disch := omega) only [push_cast, Nat.reduceLT, Nat.reduceEqDiff, Int.reduceToNat, Int.reduceLT, Int.reduceLE, Int.reduceAdd, Int.reduceSub, Int.reduceMul, Int.reduceNeg, Int.reduceEq, reduceCtorEq, Int.cast_ofNat_Int, Hp.get_set, dcells, hd, hm2]
 first
  | (refine callP (ask_nil _ _) rfl ?_)
  | (refine callS (ask_spec _ _ hd) (fun v τ h => ?_)
     obtain ⟨rfl, rfl⟩ := h)
 try simp (maxSteps := 4000000) (disch := omega) only [push_cast, Nat.reduceLT, Nat.reduceEqDiff, Int.reduceToNat, Int.reduceLT, Int.reduceLE, Int.reduceAdd, Int.reduceSub, Int.reduceMul, Int.reduceNeg, Int.reduceEq, reduceCtorEq, Int.cast_ofNat_Int, Hp.get_set, dcells, hd, hm2]
 refine Qk hK [0, 1, 2, 8] ?_
 clear hK K
 refine WS.seq ?_
 refine R0 fun K hK => ?_
 try simp (maxSteps := 4000000) (disch := omega) only [push_cast, Nat.reduceLT, Nat.reduceEqDiff, Int.reduceToNat, Int.reduceLT, Int.reduceLE, Int.reduceAdd, Int.reduceSub, Int.reduceMul, Int.reduceNeg, Int.reduceEq, reduceCtorEq, Int.cast_ofNat_Int, Hp.get_set, dcells, hd, hm2]
 refine Qk hK [0, 1, 2, 8, 16] ?_
 clear hK K
 refine CI rfl (fun hc => ?_) (fun hc => ?_)
 ·
  all_goals try (cases hc; done)
  all_goals try simp only [push_cast] at hc
  all_goals try (exfalso; omega)
  all_goals
   refine WS.seq ?_
   refine R0 fun K hK => ?_
   try simp (maxSteps := 4000000) (disch := omega) only [push_cast, Nat.reduceLT, Nat.reduceEqDiff, Nat.reduceAdd, Nat.reduceMul, Nat.reduceSub, Nat.reduceLeDiff, Int.reduceToNat, Int.reduceLT, Int.reduceLE, Int.reduceAdd, Int.reduceSub, Int.reduceMul, Int.reduceNeg, Int.reduceEq, reduceCtorEq, Int.cast_ofNat_Int, Hp.get_set, dcells, hd, hm2]
   refine Qk hK [6, 7] ?_
   clear hK K
   refine Rt ?_
   refine hQ0 _ _ _ ?_
   try simp (maxSteps := 4000000) only [push_cast, Int.reduceToNat, Int.reduceLT, Int.reduceLE, Int.reduceAdd, Int.reduceSub, Int.reduceMul, Int.reduceNeg, Int.reduceEq, reduceCtorEq, Nat.reduceLeDiff, Nat.reduceLT, Nat.reduceEqDiff, Nat.reduceAdd, Nat.reduceMul, Nat.reduceSub, Int.cast_ofNat_Int, dcells, hd, hm2]
   first | done | exact ⟨_, HSub.refl _, rfl, rfl⟩ | exact ⟨_, HSub.refl _, rfl⟩ | (refine ⟨_, HSub.refl _, ?_, rfl⟩; first | (simp [readV, readE, dsize, row]; done) | (simp_all [readV, readE, dsize, row]; done) | (simp only [readV, readE, dsize, row]; (repeat' split) <;> first | rfl | omega | (simp_all; done))) | (refine ⟨_, by (show HSub _ _; repeat (first | exact HSub.refl _ | exact HSub.empty _ | refine HSub.set (by first | assumption | simp_all) ?_ | refine HSub.del (by first | assumption | simp_all) ?_)), ?_, rfl⟩; first | (simp [readV, readE, dsize, row]; done) | (simp_all [readV, readE, dsize, row]; done) | (simp only [readV, readE, dsize, row]; (repeat' split) <;> first | rfl | omega | (simp_all; done)))
 all_goals try (cases hc; done)
 all_goals try simp only [push_cast] at hc
 all_goals try (exfalso; omega)
 all_goals
  obtain ⟨hf, hw, -⟩ := askV_file hc
  simp only [push_cast] at hw
  rcases hf with rfl | rfl
  all_goals
   refine Sk ?_
   refine WS.seq (WS.seq ?_)
   refine R0 fun K hK => ?_
   try simp (maxSteps := 4000000) (disch := omega) only [push_cast, Nat.reduceLT, Nat.reduceEqDiff, Nat.reduceAdd, Nat.reduceMul, Nat.reduceSub, Nat.reduceLeDiff, Int.reduceToNat, Int.reduceLT, Int.reduceLE, Int.reduceAdd, Int.reduceSub, Int.reduceMul, Int.reduceNeg, Int.reduceEq, reduceCtorEq, Int.cast_ofNat_Int, Hp.get_set, dcells, hd, hm2]
   (repeat refine And.intro (by first | omega | (simp; done) | (simp_all; done) | (simp_all; omega)) ?_)
   refine Qk hK [0, 1, 2, 25] ?_
   clear hK K
   refine CI rfl (fun hc => ?_) (fun hc => ?_)
   ·
    all_goals try (cases hc; done)
    all_goals try simp only [push_cast] at hc
    all_goals try (exfalso; omega)
    all_goals
     refine WS.seq ?_
     refine R0 fun K hK => ?_
     try simp (maxSteps := 4000000) (disch := omega) only [push_cast, Nat.reduceLT, Nat.reduceEqDiff, Nat.reduceAdd, Nat.reduceMul, Nat.reduceSub, Nat.reduceLeDiff, Int.reduceToNat, Int.reduceLT, Int.reduceLE, Int.reduceAdd, Int.reduceSub, Int.reduceMul, Int.reduceNeg, Int.reduceEq, reduceCtorEq, Int.cast_ofNat_Int, Hp.get_set, dcells, hd, hm2]
     refine Qk hK [6, 7] ?_
     clear hK K
     refine Rt ?_
     refine hQ0 _ _ _ ?_
     try simp (maxSteps := 4000000) only [push_cast, Int.reduceToNat, Int.reduceLT, Int.reduceLE, Int.reduceAdd, Int.reduceSub, Int.reduceMul, Int.reduceNeg, Int.reduceEq, reduceCtorEq, Nat.reduceLeDiff, Nat.reduceLT, Nat.reduceEqDiff, Nat.reduceAdd, Nat.reduceMul, Nat.reduceSub, Int.cast_ofNat_Int, dcells, hd, hm2]
     first | done | exact ⟨_, HSub.refl _, rfl, rfl⟩ | exact ⟨_, HSub.refl _, rfl⟩ | (refine ⟨_, HSub.refl _, ?_, rfl⟩; first | (simp [readV, readE, dsize, row]; done) | (simp_all [readV, readE, dsize, row]; done) | (simp only [readV, readE, dsize, row]; (repeat' split) <;> first | rfl | omega | (simp_all; done))) | (refine ⟨_, by (show HSub _ _; repeat (first | exact HSub.refl _ | exact HSub.empty _ | refine HSub.set (by first | assumption | simp_all) ?_ | refine HSub.del (by first | assumption | simp_all) ?_)), ?_, rfl⟩; first | (simp [readV, readE, dsize, row]; done) | (simp_all [readV, readE, dsize, row]; done) | (simp only [readV, readE, dsize, row]; (repeat' split) <;> first | rfl | omega | (simp_all; done)))
   all_goals try (cases hc; done)
   all_goals try simp only [push_cast] at hc
   all_goals try (exfalso; omega)
   all_goals
    refine Sk ?_
    refine WS.seq ?_
    refine R0 fun K hK => ?_
    try simp (maxSteps := 4000000) (disch := omega) only [push_cast, Nat.reduceLT, Nat.reduceEqDiff, Nat.reduceAdd, Nat.reduceMul, Nat.reduceSub, Nat.reduceLeDiff, Int.reduceToNat, Int.reduceLT, Int.reduceLE, Int.reduceAdd, Int.reduceSub, Int.reduceMul, Int.reduceNeg, Int.reduceEq, reduceCtorEq, Int.cast_ofNat_Int, Hp.get_set, dcells, hd, hm2]
    (repeat refine And.intro (by first | omega | (simp; done) | (simp_all; done) | (simp_all; omega)) ?_)
    refine fun g6_0 hg6_0 => ?_
    try simp only [Hp.set_none, Hp.join_none_iff] at hg6_0
    have nhd_6_0 := Hp.ne_get hd (by first | exact hg6_0 | exact hg6_0.2.2 | exact hg6_0.2.2.2.2 | exact hg6_0.2.2.2.2.2.2 | simp_all)
    have nhm2_6_0 := Hp.ne_get hm2 (by first | exact hg6_0 | exact hg6_0.2.2 | exact hg6_0.2.2.2.2 | exact hg6_0.2.2.2.2.2.2 | simp_all)
    try simp (maxSteps := 4000000) (disch := omega) only [push_cast, Nat.reduceLT, Nat.reduceEqDiff, Nat.reduceAdd, Nat.reduceMul, Nat.reduceSub, Nat.reduceLeDiff, Int.reduceToNat, Int.reduceLT, Int.reduceLE, Int.reduceAdd, Int.reduceSub, Int.reduceMul, Int.reduceNeg, Int.reduceEq, reduceCtorEq, Int.cast_ofNat_Int, Hp.get_set, dcells, hd, hm2, hg6_0, nhd_6_0, nhm2_6_0]
    (repeat refine And.intro (by first | omega | (simp; done) | (simp_all; done) | (simp_all; omega)) ?_)
    refine Qk hK [0, 1, 2, 9] ?_
    clear hK K
    refine WS.seq ?_
    refine R0 fun K hK => ?_
    try simp (maxSteps := 4000000) (disch := omega) only [push_cast, Nat.reduceLT, Nat.reduceEqDiff, Nat.reduceAdd, Nat.reduceMul, Nat.reduceSub, Nat.reduceLeDiff, Int.reduceToNat, Int.reduceLT, Int.reduceLE, Int.reduceAdd, Int.reduceSub, Int.reduceMul, Int.reduceNeg, Int.reduceEq, reduceCtorEq, Int.cast_ofNat_Int, Hp.get_set, dcells, hd, hm2, hg6_0, nhd_6_0, nhm2_6_0, Hp.get_set, find_sec, keysOk_enc, src_look, srcP_look, isKey, isInt, put_read hok, one_u8, one_take, zlen]
    (repeat refine And.intro (by first | omega | (simp; done) | (simp_all; done) | (simp_all; omega)) ?_)
    try simp (maxSteps := 4000000) (disch := omega) only [push_cast, Nat.reduceLT, Nat.reduceEqDiff, Nat.reduceAdd, Nat.reduceMul, Nat.reduceSub, Nat.reduceLeDiff, Int.reduceToNat, Int.reduceLT, Int.reduceLE, Int.reduceAdd, Int.reduceSub, Int.reduceMul, Int.reduceNeg, Int.reduceEq, reduceCtorEq, Int.cast_ofNat_Int, Hp.get_set, dcells, hd, hm2, hg6_0, nhd_6_0, nhm2_6_0, Hp.get_set, find_sec, keysOk_enc, src_look, srcP_look, isKey, isInt, put_read hok, one_u8, one_take, zlen]
    (repeat refine And.intro (by first | omega | (simp; done) | (simp_all; done) | (simp_all; omega)) ?_)
    refine Qk hK [9] ?_
    clear hK K
    refine WS.seq ?_
    refine R0 fun K hK => ?_
    try simp (maxSteps := 4000000) (disch := omega) only [push_cast, Nat.reduceLT, Nat.reduceEqDiff, Hp.get_set, dcells, hd, hm2, hg6_0, nhd_6_0, nhm2_6_0]
    refine Qk hK [6, 7] ?_
    clear hK K
    refine S_freezeS 6 rfl (Hp.get_set_same _ _ _) (by rw [List.length_map]; exact readB_len hok _) ?_
    refine S_untag 6 rfl ?_
    simp only [push_cast, Hp.set_set]
    refine Rt ?_
    refine hQ0 _ _ _ ?_
    try simp (maxSteps := 4000000) only [push_cast, Int.reduceToNat, Int.reduceLT, Int.reduceLE, Int.reduceAdd, Int.reduceSub, Int.reduceMul, Int.reduceNeg, Int.reduceEq, reduceCtorEq, Nat.reduceLeDiff, Nat.reduceLT, Nat.reduceEqDiff, Nat.reduceAdd, Nat.reduceMul, Nat.reduceSub, Int.cast_ofNat_Int, dcells, hd, hm2, hg6_0, nhd_6_0, nhm2_6_0]
    first | done | exact ⟨_, HSub.refl _, rfl, rfl⟩ | exact ⟨_, HSub.refl _, rfl⟩ | (refine ⟨_, HSub.refl _, ?_, rfl⟩; first | (simp [readV, readE, dsize, row]; done) | (simp_all [readV, readE, dsize, row]; done) | (simp only [readV, readE, dsize, row]; (repeat' split) <;> first | rfl | omega | (simp_all; done))) | (refine ⟨_, by (show HSub _ _; repeat (first | exact HSub.refl _ | exact HSub.empty _ | refine HSub.set (by first | assumption | simp_all) ?_ | refine HSub.del (by first | assumption | simp_all) ?_)), ?_, rfl⟩; first | (simp [readV, readE, dsize, row]; done) | (simp_all [readV, readE, dsize, row]; done) | (simp only [readV, readE, dsize, row]; (repeat' split) <;> first | rfl | omega | (simp_all; done)))
theorem setV_enc2 (a b : Int) (l : Sec) (m : List (Plc × Sec)) : setV (.agg [.int .i64 a, .int .i64 b]) (.sl 1 (l.map u8) .no) (encM m) = encM (setL (a, b) l m) := setV_enc (a, b) l m
theorem askV_true (D : Disk) (f : Int) : askV D f true = 1 := by simp [askV]
theorem changeD_size0 (D : Disk) : (changeD D).size0 = D.size0 := by unfold changeD; split <;> rfl
theorem changeD_size1 (D : Disk) : (changeD D).size1 = D.size1 := by unfold changeD; split <;> rfl
theorem changeD_shown (D : Disk) : (changeD D).shown = D.shown := by unfold changeD; split <;> rfl
theorem changeD_sure (D : Disk) : (changeD D).sure = D.sure := by unfold changeD; split <;> rfl
theorem changeD_waits (D : Disk) : (changeD D).waits = D.waits := by unfold changeD; split <;> rfl
def badW (f s : Int) (n : Nat) : Prop := (f < 0 ∨ 2 ≤ f) ∨ s < 0 ∨ 65535 < s ∨ n ≠ 128
instance (f s : Int) (n : Nat) : Decidable (badW f s n) := by unfold badW; infer_instance
def fullW (D : Disk) (f s : Int) : Prop := dsize D f ≤ s ∧ D.quota < s + 1 + dsize D (1 - f)
instance (D : Disk) (f s : Int) : Decidable (fullW D f s) := by unfold fullW; infer_instance
def writeE (D : Disk) (f s : Int) (n : Nat) : Int := if badW f s n then 1 else if D.down = true then 51 else if fullW D f s then 50 else changeV D
def maxI (a b : Int) : Int := if a < b then b else a
def putD (D : Disk) (f s : Int) (b : Sec) : Disk := { D with shown := setL (f, s) b D.shown, size0 := if f = 0 then maxI D.size0 (s + 1) else D.size0, size1 := if f = 0 then D.size1 else maxI D.size1 (s + 1), waits := D.waits ++ [((f, s), b)] }
def writeD (D : Disk) (f s : Int) (b : Sec) : Disk := if badW f s b.length ∨ D.down = true ∨ fullW D f s then D else if changeV D = 0 then putD (changeD D) f s b else changeD D
theorem writeE_bad {D : Disk} {f s : Int} {n : Nat} (h : badW f s n) : writeE D f s n = 1 := by rw [writeE, if_pos h]
theorem writeE_ok {D : Disk} {f s : Int} {n : Nat} (h : ¬ badW f s n) (h2 : D.down = false) (h3 : ¬ fullW D f s) : writeE D f s n = changeV D := by rw [writeE, if_neg h, if_neg (by simp [h2]), if_neg h3]
theorem writeE_down {D : Disk} {f s : Int} {n : Nat} (h : ¬ badW f s n) (h2 : D.down = true) : writeE D f s n = 51 := by rw [writeE, if_neg h, if_pos h2]
theorem writeE_full {D : Disk} {f s : Int} {n : Nat} (h : ¬ badW f s n) (h2 : D.down = false) (h3 : fullW D f s) : writeE D f s n = 50 := by rw [writeE, if_neg h, if_neg (by simp [h2]), if_pos h3]
theorem writeD_same {D : Disk} {f s : Int} {b : Sec} (h : badW f s b.length ∨ D.down = true ∨ fullW D f s) : writeD D f s b = D := by rw [writeD, if_pos h]
theorem writeD_ok {D : Disk} {f s : Int} {b : Sec} (h : ¬ badW f s b.length) (h2 : D.down = false) (h3 : ¬ fullW D f s) : writeD D f s b = if changeV D = 0 then putD (changeD D) f s b else changeD D := by rw [writeD, if_neg (by simp [h, h2, h3])]
theorem wbad {D : Disk} {d : Nat} {f s : Int} {b : Sec} {τ : Hp} (h : badW f s b.length) (hD : DiskAt D d τ) : 1 = writeE D f s b.length ∧ DiskAt (writeD D f s b) d τ := ⟨(writeE_bad h).symm, by rw [writeD_same (.inl h)]; exact hD⟩
theorem askV_nz {D : Disk} {f : Int} (h : ¬ askV D f false = 0) : ((f < 0 ∨ 2 ≤ f) ∧ askV D f false = 1) ∨ (¬ (f < 0 ∨ 2 ≤ f) ∧ askV D f false = 51 ∧ D.down = true) := by
  unfold askV at h ⊢
  by_cases c : f < 0 ∨ 2 ≤ f
  · simp only [Bool.or_false, Bool.or_eq_true, decide_eq_true_eq, c, if_true]; exact .inl (by simp)
  · simp only [Bool.or_false, Bool.or_eq_true, decide_eq_true_eq, c, if_false] at h ⊢
    by_cases e : D.down = true
    · simp only [e, if_true]; exact .inr ⟨by simp, by simp, by simp⟩
    · simp [e] at h
theorem wdown {D : Disk} {d : Nat} {f s : Int} {b : Sec} {τ : Hp} (h0 : 0 ≤ s) (h1 : s ≤ 65535) (h2 : b.length = 128) (h : ¬ askV D f false = 0) (hD : DiskAt D d τ) : askV D f false = writeE D f s b.length ∧ DiskAt (writeD D f s b) d τ := by
  rcases askV_nz h with ⟨c, e⟩ | ⟨c, e, dn⟩
  · rw [e]; exact wbad (.inl c) hD
  · rw [e, writeE_down (by unfold badW; omega) dn, writeD_same (.inr (.inl dn))]; exact ⟨rfl, hD⟩

theorem write_spec {σ : Hp} {D : Disk} {d : Nat} {tag : Tag} (file s : Int) (b : Sec) (hok : D.Ok) (hbl : b.length ≤ 140737488355328) (hwl : D.waits.length ≤ 1000000) (h : DiskAt D d σ) : Spec Go.Proofs.Try.prog 27 [.ptr d 0, .int .i64 file, .int .i64 s, .sl 1 (b.map u8) tag] (σ) (fun v σ' => v = .int .i64 (writeE D file s b.length) ∧ DiskAt (writeD D file s b) d σ') := by
 refine introS (n := 97) (rs := [.tmp 8]) (fn := Go.Proofs.Try.f27) (by rfl) rfl (by kernel_rfl) rfl rfl (Nat.le_of_ble_eq_true rfl) (fun Q0 hQ0 => ?_)
 have hD0 := h
 obtain ⟨g1, g2, gt, s1, c1, s2, c2, hD⟩ := h
 have hd := hD.hd
 obtain ⟨_, _, _, q0, q1, q2, q3⟩ := hok
 have hm2 := hD.m2
 have ht := hD.t
 obtain ⟨⟨n1, n2⟩, ⟨n3, n4⟩, ⟨n5, n6⟩, ⟨n7, n8⟩, ⟨n9, n10⟩, ⟨n11, n12⟩⟩ := hD.nes
 by_cases hb : (b.length : Int) = 128
 all_goals
  refine WS.seq ?_
  refine A1 [0, 1, 2, 3] (by decide) ?_
  refine WS.seq (WS.seq ?_)
  refine R0 fun K hK => ?_
  try simp (maxSteps := 4000000) (disch := omega) only [push_cast, Nat.reduceLT, Nat.reduceEqDiff, Int.reduceToNat, Int.reduceLT, Int.reduceLE, Int.reduceAdd, Int.reduceSub, Int.reduceMul, Int.reduceNeg, Int.reduceEq, reduceCtorEq, Int.cast_ofNat_Int, Hp.get_set, room, n1, n2, n3, n4, n5, n6, n7, n8, n9, n10, n11, n12, setV_enc2, keysOk_enc, isKey, isInt, dcells, askV_true, List.length_map, hb, changeD_size0, changeD_size1, changeD_shown, changeD_waits, changeD_sure, hd, hm2, ht]
  all_goals try (first | refine guardT 17 rfl (fun hc => ?_) (fun hc => ?_) | refine guardF 17 rfl (fun hc => ?_) (fun hc => ?_)) <;> try simp only [push_cast] at hc
  all_goals try (exfalso; omega)
  all_goals try simp (maxSteps := 4000000) (disch := omega) only [push_cast, Nat.reduceLT, Nat.reduceEqDiff, Int.reduceToNat, Int.reduceLT, Int.reduceLE, Int.reduceAdd, Int.reduceSub, Int.reduceMul, Int.reduceNeg, Int.reduceEq, reduceCtorEq, Int.cast_ofNat_Int, Hp.get_set, room, n1, n2, n3, n4, n5, n6, n7, n8, n9, n10, n11, n12, setV_enc2, keysOk_enc, isKey, isInt, dcells, askV_true, List.length_map, hb, changeD_size0, changeD_size1, changeD_shown, changeD_waits, changeD_sure, hd, hm2, ht]
  all_goals try (first | refine guardT 21 rfl (fun hc => ?_) (fun hc => ?_) | refine guardF 21 rfl (fun hc => ?_) (fun hc => ?_)) <;> try simp only [push_cast] at hc
  all_goals try (exfalso; omega)
  all_goals try simp (maxSteps := 4000000) (disch := omega) only [push_cast, Nat.reduceLT, Nat.reduceEqDiff, Int.reduceToNat, Int.reduceLT, Int.reduceLE, Int.reduceAdd, Int.reduceSub, Int.reduceMul, Int.reduceNeg, Int.reduceEq, reduceCtorEq, Int.cast_ofNat_Int, Hp.get_set, room, n1, n2, n3, n4, n5, n6, n7, n8, n9, n10, n11, n12, setV_enc2, keysOk_enc, isKey, isInt, dcells, askV_true, List.length_map, hb, changeD_size0, changeD_size1, changeD_shown, changeD_waits, changeD_sure, hd, hm2, ht]
  all_goals try (
    first
     | (refine callP (ask_nil _ _) rfl ?_)
     | (refine callS (ask_spec _ _ hd) (fun v τ h => ?_)
        obtain ⟨rfl, rfl⟩ := h))
  all_goals try simp (maxSteps := 4000000) (disch := omega) only [push_cast, Nat.reduceLT, Nat.reduceEqDiff, Int.reduceToNat, Int.reduceLT, Int.reduceLE, Int.reduceAdd, Int.reduceSub, Int.reduceMul, Int.reduceNeg, Int.reduceEq, reduceCtorEq, Int.cast_ofNat_Int, Hp.get_set, room, n1, n2, n3, n4, n5, n6, n7, n8, n9, n10, n11, n12, setV_enc2, keysOk_enc, isKey, isInt, dcells, askV_true, List.length_map, hb, changeD_size0, changeD_size1, changeD_shown, changeD_waits, changeD_sure, hd, hm2, ht]
  all_goals
   refine Qk hK [0, 1, 2, 3, 9] ?_
   clear hK K
   refine WS.seq ?_
   refine R0 fun K hK => ?_
   try simp (maxSteps := 4000000) (disch := omega) only [push_cast, Nat.reduceLT, Nat.reduceEqDiff, Int.reduceToNat, Int.reduceLT, Int.reduceLE, Int.reduceAdd, Int.reduceSub, Int.reduceMul, Int.reduceNeg, Int.reduceEq, reduceCtorEq, Int.cast_ofNat_Int, Hp.get_set, room, n1, n2, n3, n4, n5, n6, n7, n8, n9, n10, n11, n12, setV_enc2, keysOk_enc, isKey, isInt, dcells, askV_true, List.length_map, hb, changeD_size0, changeD_size1, changeD_shown, changeD_waits, changeD_sure, hd, hm2, ht]
   refine Qk hK [0, 1, 2, 3, 9, 28] ?_
   clear hK K
   refine CI rfl (fun hc => ?_) (fun hc => ?_)
   ·
    all_goals try (cases hc; done)
    all_goals try simp only [push_cast] at hc
    all_goals try (exfalso; omega)
    all_goals
     refine WS.seq ?_
     refine R0 fun K hK => ?_
     try simp (maxSteps := 4000000) (disch := omega) only [push_cast, Nat.reduceLT, Nat.reduceEqDiff, Hp.get_set, room, n1, n2, n3, n4, n5, n6, n7, n8, n9, n10, n11, n12, setV_enc2, keysOk_enc, isKey, isInt, dcells, askV_true, List.length_map, hb, changeD_size0, changeD_size1, changeD_shown, changeD_waits, changeD_sure, hd, hm2, ht]
     refine Qk hK [8] ?_
     clear hK K
     refine Rt ?_
     refine hQ0 _ _ _ ?_
     try simp (maxSteps := 4000000) only [push_cast, Int.reduceToNat, Int.reduceLT, Int.reduceLE, Int.reduceAdd, Int.reduceSub, Int.reduceMul, Int.reduceNeg, Int.reduceEq, reduceCtorEq, Nat.reduceLeDiff, Nat.reduceLT, Nat.reduceEqDiff, Nat.reduceAdd, Nat.reduceMul, Nat.reduceSub, Int.cast_ofNat_Int, room, n1, n2, n3, n4, n5, n6, n7, n8, n9, n10, n11, n12, setV_enc2, keysOk_enc, isKey, isInt, dcells, askV_true, List.length_map, hb, changeD_size0, changeD_size1, changeD_shown, changeD_waits, changeD_sure, hd, hm2, ht]
     refine ⟨_, HSub.refl _, ?_⟩
     simp only [V.int.injEq, true_and]
     first | exact wbad (by unfold badW; omega) hD0 | exact wdown (by omega) (by omega) (by omega) (by assumption) hD0
   all_goals try (cases hc; done)
   all_goals try simp only [push_cast] at hc
   all_goals try (exfalso; omega)
   all_goals
    obtain ⟨hf, -, hdn⟩ := askV_file hc
    have hbad : ¬ badW file s b.length := by unfold badW; omega
    rcases hf with rfl | rfl
    all_goals
     refine Sk ?_
     refine WS.seq (WS.seq ?_)
     refine RD [] [] fo (by kernel_rfl) fun K hK => ?_
     try simp (maxSteps := 4000000) (disch := omega) only [push_cast, Nat.reduceLT, Nat.reduceEqDiff, Nat.reduceAdd, Nat.reduceMul, Nat.reduceSub, Nat.reduceLeDiff, Int.reduceToNat, Int.reduceLT, Int.reduceLE, Int.reduceAdd, Int.reduceSub, Int.reduceMul, Int.reduceNeg, Int.reduceEq, reduceCtorEq, Int.cast_ofNat_Int, Hp.get_set, room, n1, n2, n3, n4, n5, n6, n7, n8, n9, n10, n11, n12, setV_enc2, keysOk_enc, isKey, isInt, dcells, askV_true, List.length_map, hb, changeD_size0, changeD_size1, changeD_shown, changeD_waits, changeD_sure, hd, hm2, ht]
     (repeat refine And.intro (by first | omega | (simp; done) | (simp_all; done) | (simp_all; omega)) ?_)
     all_goals try (first | refine guardT 38 rfl (fun hc => ?_) (fun hc => ?_) | refine guardF 38 rfl (fun hc => ?_) (fun hc => ?_)) <;> try simp only [push_cast] at hc
     all_goals try (exfalso; omega)
     all_goals try simp (maxSteps := 4000000) (disch := omega) only [push_cast, Nat.reduceLT, Nat.reduceEqDiff, Nat.reduceAdd, Nat.reduceMul, Nat.reduceSub, Nat.reduceLeDiff, Int.reduceToNat, Int.reduceLT, Int.reduceLE, Int.reduceAdd, Int.reduceSub, Int.reduceMul, Int.reduceNeg, Int.reduceEq, reduceCtorEq, Int.cast_ofNat_Int, Hp.get_set, room, n1, n2, n3, n4, n5, n6, n7, n8, n9, n10, n11, n12, setV_enc2, keysOk_enc, isKey, isInt, dcells, askV_true, List.length_map, hb, changeD_size0, changeD_size1, changeD_shown, changeD_waits, changeD_sure, hd, hm2, ht]
     all_goals (repeat refine And.intro (by first | omega | (simp; done) | (simp_all; done) | (simp_all; omega)) ?_)
     all_goals
      refine Qk hK [0, 1, 2, 3, 54] ?_
      clear hK K
      refine CI rfl (fun hc => ?_) (fun hc => ?_)
      ·
       all_goals try (cases hc; done)
       all_goals try simp only [push_cast] at hc
       all_goals try (exfalso; omega)
       all_goals
        refine WS.seq ?_
        refine A1 [8] (by decide) ?_
        refine Rt ?_
        refine hQ0 _ _ _ ?_
        try simp (maxSteps := 4000000) only [push_cast, Int.reduceToNat, Int.reduceLT, Int.reduceLE, Int.reduceAdd, Int.reduceSub, Int.reduceMul, Int.reduceNeg, Int.reduceEq, reduceCtorEq, Nat.reduceLeDiff, Nat.reduceLT, Nat.reduceEqDiff, Nat.reduceAdd, Nat.reduceMul, Nat.reduceSub, Int.cast_ofNat_Int, room, n1, n2, n3, n4, n5, n6, n7, n8, n9, n10, n11, n12, setV_enc2, keysOk_enc, isKey, isInt, dcells, askV_true, List.length_map, hb, changeD_size0, changeD_size1, changeD_shown, changeD_waits, changeD_sure, hd, hm2, ht]
        refine ⟨_, HSub.refl _, ?_⟩
        rw [writeE_full hbad hdn (by simp only [fullW, dsize]; simp; omega), writeD_same (.inr (.inr (by simp only [fullW, dsize]; simp; omega)))]; exact ⟨rfl, hD0⟩
      all_goals try (cases hc; done)
      all_goals try simp only [push_cast] at hc
      all_goals try (exfalso; omega)
      all_goals
       refine Sk ?_
       refine WS.seq (WS.seq ?_)
       refine R0 fun K hK => ?_
       try simp (maxSteps := 4000000) (disch := omega) only [push_cast, Nat.reduceLT, Nat.reduceEqDiff, Hp.get_set, room, n1, n2, n3, n4, n5, n6, n7, n8, n9, n10, n11, n12, setV_enc2, keysOk_enc, isKey, isInt, dcells, askV_true, List.length_map, hb, changeD_size0, changeD_size1, changeD_shown, changeD_waits, changeD_sure, hd, hm2, ht]
       refine callS (change_spec hD0) (fun v τ h => ?_)
       obtain ⟨rfl, h⟩ := h
       try simp (maxSteps := 4000000) (disch := omega) only [push_cast, Nat.reduceLT, Nat.reduceEqDiff, Hp.get_set, room, n1, n2, n3, n4, n5, n6, n7, n8, n9, n10, n11, n12, setV_enc2, keysOk_enc, isKey, isInt, dcells, askV_true, List.length_map, hb, changeD_size0, changeD_size1, changeD_shown, changeD_waits, changeD_sure, hd, hm2, ht]
       refine Qk hK [0, 1, 2, 3, 10] ?_
       clear hK K
       refine WS.seq ?_
       refine R0 fun K hK => ?_
       try simp (maxSteps := 4000000) (disch := omega) only [push_cast, Nat.reduceLT, Nat.reduceEqDiff, Int.reduceToNat, Int.reduceLT, Int.reduceLE, Int.reduceAdd, Int.reduceSub, Int.reduceMul, Int.reduceNeg, Int.reduceEq, reduceCtorEq, Int.cast_ofNat_Int, Hp.get_set, room, n1, n2, n3, n4, n5, n6, n7, n8, n9, n10, n11, n12, setV_enc2, keysOk_enc, isKey, isInt, dcells, askV_true, List.length_map, hb, changeD_size0, changeD_size1, changeD_shown, changeD_waits, changeD_sure, hd, hm2, ht]
       refine Qk hK [0, 1, 2, 3, 10, 58] ?_
       clear hK K
       obtain ⟨g1, g2, gt, s1, c1, s2, c2, hD⟩ := h
       have hd := hD.hd
       have hm2 := hD.m2
       have ht := hD.t
       obtain ⟨⟨n1, n2⟩, ⟨n3, n4⟩, ⟨n5, n6⟩, ⟨n7, n8⟩, ⟨n9, n10⟩, ⟨n11, n12⟩⟩ := hD.nes
       refine CI rfl (fun hc => ?_) (fun hc => ?_)
       ·
        all_goals try (cases hc; done)
        all_goals try simp only [push_cast] at hc
        all_goals try (exfalso; omega)
        all_goals
         refine WS.seq ?_
         refine R0 fun K hK => ?_
         try simp (maxSteps := 4000000) (disch := omega) only [push_cast, Nat.reduceLT, Nat.reduceEqDiff, Hp.get_set, room, n1, n2, n3, n4, n5, n6, n7, n8, n9, n10, n11, n12, setV_enc2, keysOk_enc, isKey, isInt, dcells, askV_true, List.length_map, hb, changeD_size0, changeD_size1, changeD_shown, changeD_waits, changeD_sure, hd, hm2, ht]
         refine Qk hK [8] ?_
         clear hK K
         refine Rt ?_
         refine hQ0 _ _ _ ?_
         try simp (maxSteps := 4000000) only [push_cast, Int.reduceToNat, Int.reduceLT, Int.reduceLE, Int.reduceAdd, Int.reduceSub, Int.reduceMul, Int.reduceNeg, Int.reduceEq, reduceCtorEq, Nat.reduceLeDiff, Nat.reduceLT, Nat.reduceEqDiff, Nat.reduceAdd, Nat.reduceMul, Nat.reduceSub, Int.cast_ofNat_Int, room, n1, n2, n3, n4, n5, n6, n7, n8, n9, n10, n11, n12, setV_enc2, keysOk_enc, isKey, isInt, dcells, askV_true, List.length_map, hb, changeD_size0, changeD_size1, changeD_shown, changeD_waits, changeD_sure, hd, hm2, ht]
         refine ⟨_, HSub.refl _, ?_⟩
         rw [writeE_ok hbad hdn (by simp only [fullW, dsize]; simp; omega), writeD_ok hbad hdn (by simp only [fullW, dsize]; simp; omega), if_neg hc]; exact ⟨rfl, g1, g2, gt, s1, c1, s2, c2, hD⟩
       all_goals try (cases hc; done)
       all_goals try simp only [push_cast] at hc
       all_goals try (exfalso; omega)
       all_goals
        refine Sk ?_
        refine WS.seq ?_
        refine R0 fun K hK => ?_
        try simp (maxSteps := 4000000) (disch := omega) only [push_cast, Nat.reduceLT, Nat.reduceEqDiff, Nat.reduceAdd, Nat.reduceMul, Nat.reduceSub, Nat.reduceLeDiff, Hp.get_set, room, n1, n2, n3, n4, n5, n6, n7, n8, n9, n10, n11, n12, setV_enc2, keysOk_enc, isKey, isInt, dcells, askV_true, List.length_map, hb, changeD_size0, changeD_size1, changeD_shown, changeD_waits, changeD_sure, hd, hm2, ht]
        (repeat refine And.intro (by first | omega | (simp; done) | (simp_all; done) | (simp_all; omega)) ?_)
        refine fun g9_3 hg9_3 => ?_
        try simp only [Hp.set_none, Hp.join_none_iff] at hg9_3
        have nhd_9_3 := Hp.ne_get hd (by first | exact hg9_3 | exact hg9_3.2.2 | exact hg9_3.2.2.2.2 | exact hg9_3.2.2.2.2.2.2 | simp_all)
        have nhm2_9_3 := Hp.ne_get hm2 (by first | exact hg9_3 | exact hg9_3.2.2 | exact hg9_3.2.2.2.2 | exact hg9_3.2.2.2.2.2.2 | simp_all)
        have nht_9_3 := Hp.ne_get ht (by first | exact hg9_3 | exact hg9_3.2.2 | exact hg9_3.2.2.2.2 | exact hg9_3.2.2.2.2.2.2 | simp_all)
        try simp (maxSteps := 4000000) (disch := omega) only [push_cast, Nat.reduceLT, Nat.reduceEqDiff, Nat.reduceAdd, Nat.reduceMul, Nat.reduceSub, Nat.reduceLeDiff, Hp.get_set, room, n1, n2, n3, n4, n5, n6, n7, n8, n9, n10, n11, n12, setV_enc2, keysOk_enc, isKey, isInt, dcells, askV_true, List.length_map, hb, changeD_size0, changeD_size1, changeD_shown, changeD_waits, changeD_sure, hd, hm2, ht, hg9_3, nhd_9_3, nhm2_9_3, nht_9_3]
        (repeat refine And.intro (by first | omega | (simp; done) | (simp_all; done) | (simp_all; omega)) ?_)
        refine Qk hK [0, 1, 2, 3, 11] ?_
        clear hK K
        refine WS.seq ?_
        refine R0 fun K hK => ?_
        try simp (maxSteps := 4000000) (disch := omega) only [push_cast, Nat.reduceLT, Nat.reduceEqDiff, Hp.get_set, room, n1, n2, n3, n4, n5, n6, n7, n8, n9, n10, n11, n12, setV_enc2, keysOk_enc, isKey, isInt, dcells, askV_true, List.length_map, hb, changeD_size0, changeD_size1, changeD_shown, changeD_waits, changeD_sure, hd, hm2, ht, hg9_3, nhd_9_3, nhm2_9_3, nht_9_3]
        refine callP (clone_spec (by simp [uniV, V.cells, V.one, u8]) (by simp; omega)) rfl ?_
        try simp (maxSteps := 4000000) (disch := omega) only [push_cast, Nat.reduceLT, Nat.reduceEqDiff, Hp.get_set, room, n1, n2, n3, n4, n5, n6, n7, n8, n9, n10, n11, n12, setV_enc2, keysOk_enc, isKey, isInt, dcells, askV_true, List.length_map, hb, changeD_size0, changeD_size1, changeD_shown, changeD_waits, changeD_sure, hd, hm2, ht, hg9_3, nhd_9_3, nhm2_9_3, nht_9_3]
        refine Qk hK [0, 1, 2, 11, 12] ?_
        clear hK K
        refine WS.seq ?_
        refine RD [] [] fo (by kernel_rfl) fun K hK => ?_
        try simp (maxSteps := 4000000) (disch := omega) only [push_cast, Nat.reduceLT, Nat.reduceEqDiff, Nat.reduceAdd, Nat.reduceMul, Nat.reduceSub, Nat.reduceLeDiff, Hp.get_set, room, n1, n2, n3, n4, n5, n6, n7, n8, n9, n10, n11, n12, setV_enc2, keysOk_enc, isKey, isInt, dcells, askV_true, List.length_map, hb, changeD_size0, changeD_size1, changeD_shown, changeD_waits, changeD_sure, hd, hm2, ht, hg9_3, nhd_9_3, nhm2_9_3, nht_9_3]
        (repeat refine And.intro (by first | omega | (simp; done) | (simp_all; done) | (simp_all; omega)) ?_)
        refine Qk hK [0, 1, 2, 11, 12] ?_
        clear hK K
        refine WS.seq ?_
        refine RD [] [] fo (by kernel_rfl) fun K hK => ?_
        try simp (maxSteps := 4000000) (disch := omega) only [push_cast, Nat.reduceLT, Nat.reduceEqDiff, Nat.reduceAdd, Nat.reduceMul, Nat.reduceSub, Nat.reduceLeDiff, Int.reduceToNat, Int.reduceLT, Int.reduceLE, Int.reduceAdd, Int.reduceSub, Int.reduceMul, Int.reduceNeg, Int.reduceEq, reduceCtorEq, Int.cast_ofNat_Int, Hp.get_set, room, n1, n2, n3, n4, n5, n6, n7, n8, n9, n10, n11, n12, setV_enc2, keysOk_enc, isKey, isInt, dcells, askV_true, List.length_map, hb, changeD_size0, changeD_size1, changeD_shown, changeD_waits, changeD_sure, hd, hm2, ht, hg9_3, nhd_9_3, nhm2_9_3, nht_9_3]
        (repeat refine And.intro (by first | omega | (simp; done) | (simp_all; done) | (simp_all; omega)) ?_)
        refine Qk hK [0, 11, 12] ?_
        clear hK K
        refine WS.seq ?_
        refine RD [] [] fo (by kernel_rfl) fun K hK => ?_
        try simp (maxSteps := 4000000) (disch := omega) only [push_cast, Nat.reduceLT, Nat.reduceEqDiff, Nat.reduceAdd, Nat.reduceMul, Nat.reduceSub, Nat.reduceLeDiff, Int.reduceToNat, Int.reduceLT, Int.reduceLE, Int.reduceAdd, Int.reduceSub, Int.reduceMul, Int.reduceNeg, Int.reduceEq, reduceCtorEq, Int.cast_ofNat_Int, Hp.get_set, room, n1, n2, n3, n4, n5, n6, n7, n8, n9, n10, n11, n12, setV_enc2, keysOk_enc, isKey, isInt, dcells, askV_true, List.length_map, hb, changeD_size0, changeD_size1, changeD_shown, changeD_waits, changeD_sure, hd, hm2, ht, hg9_3, nhd_9_3, nhm2_9_3, nht_9_3]
        (repeat refine And.intro (by first | omega | (simp; done) | (simp_all; done) | (simp_all; omega)) ?_)
        try simp (maxSteps := 4000000) (disch := omega) only [push_cast, Nat.reduceLT, Nat.reduceEqDiff, Nat.reduceAdd, Nat.reduceMul, Nat.reduceSub, Nat.reduceLeDiff, Int.reduceToNat, Int.reduceLT, Int.reduceLE, Int.reduceAdd, Int.reduceSub, Int.reduceMul, Int.reduceNeg, Int.reduceEq, reduceCtorEq, Int.cast_ofNat_Int, Hp.get_set, room, n1, n2, n3, n4, n5, n6, n7, n8, n9, n10, n11, n12, setV_enc2, keysOk_enc, isKey, isInt, dcells, askV_true, List.length_map, hb, changeD_size0, changeD_size1, changeD_shown, changeD_waits, changeD_sure, hd, hm2, ht, hg9_3, nhd_9_3, nhm2_9_3, nht_9_3]
        (repeat refine And.intro (by first | omega | (simp; done) | (simp_all; done) | (simp_all; omega)) ?_)
        try simp (maxSteps := 4000000) (disch := omega) only [push_cast, Nat.reduceLT, Nat.reduceEqDiff, Nat.reduceAdd, Nat.reduceMul, Nat.reduceSub, Nat.reduceLeDiff, Int.reduceToNat, Int.reduceLT, Int.reduceLE, Int.reduceAdd, Int.reduceSub, Int.reduceMul, Int.reduceNeg, Int.reduceEq, reduceCtorEq, Int.cast_ofNat_Int, Hp.get_set, room, n1, n2, n3, n4, n5, n6, n7, n8, n9, n10, n11, n12, setV_enc2, keysOk_enc, isKey, isInt, dcells, askV_true, List.length_map, hb, changeD_size0, changeD_size1, changeD_shown, changeD_waits, changeD_sure, hd, hm2, ht, hg9_3, nhd_9_3, nhm2_9_3, nht_9_3]
        (repeat refine And.intro (by first | omega | (simp; done) | (simp_all; done) | (simp_all; omega)) ?_)
        try simp (maxSteps := 4000000) (disch := omega) only [push_cast, Nat.reduceLT, Nat.reduceEqDiff, Nat.reduceAdd, Nat.reduceMul, Nat.reduceSub, Nat.reduceLeDiff, Int.reduceToNat, Int.reduceLT, Int.reduceLE, Int.reduceAdd, Int.reduceSub, Int.reduceMul, Int.reduceNeg, Int.reduceEq, reduceCtorEq, Int.cast_ofNat_Int, Hp.get_set, room, n1, n2, n3, n4, n5, n6, n7, n8, n9, n10, n11, n12, setV_enc2, keysOk_enc, isKey, isInt, dcells, askV_true, List.length_map, hb, changeD_size0, changeD_size1, changeD_shown, changeD_waits, changeD_sure, hd, hm2, ht, hg9_3, nhd_9_3, nhm2_9_3, nht_9_3]
        (repeat refine And.intro (by first | omega | (simp; done) | (simp_all; done) | (simp_all; omega)) ?_)
        refine Qk hK [] ?_
        clear hK K
        refine WS.seq ?_
        refine A1 [8] (by decide) ?_
        refine Rt ?_
        refine hQ0 _ _ _ ?_
        try simp (maxSteps := 4000000) only [push_cast, Int.reduceToNat, Int.reduceLT, Int.reduceLE, Int.reduceAdd, Int.reduceSub, Int.reduceMul, Int.reduceNeg, Int.reduceEq, reduceCtorEq, Nat.reduceLeDiff, Nat.reduceLT, Nat.reduceEqDiff, Nat.reduceAdd, Nat.reduceMul, Nat.reduceSub, Int.cast_ofNat_Int, room, n1, n2, n3, n4, n5, n6, n7, n8, n9, n10, n11, n12, setV_enc2, keysOk_enc, isKey, isInt, dcells, askV_true, List.length_map, hb, changeD_size0, changeD_size1, changeD_shown, changeD_waits, changeD_sure, hd, hm2, ht, hg9_3, nhd_9_3, nhm2_9_3, nht_9_3]
        refine ⟨_, HSub.refl _, ?_⟩
        rw [writeE_ok hbad hdn (by simp only [fullW, dsize]; simp; omega), writeD_ok hbad hdn (by simp only [fullW, dsize]; simp; omega), if_pos hc, hc]
        refine ⟨rfl, DiskAt.of ?_ ?_ ?_ ?_ hD.n1 hD.n2 hD.n3 hD.n4 hD.n5 hD.n6⟩
        · simp [Hp.get_set, dcells, putD, maxI, encW, row, changeD_size0, changeD_size1, changeD_waits]
        · have hm1 := hD.m1
          have nm1 := Hp.ne_get hm1 hg9_3
          exact ⟨_, _, by simp only [Hp.get_set, n1, n2, n3, n4, n5, n6, n7, n8, n9, n10, n11, n12, nm1, nhd_9_3, if_false, hm1]; rfl⟩
        · exact ⟨_, _, by simp only [Hp.get_set, n1, n2, n3, n4, n5, n6, n7, n8, n9, n10, n11, n12, if_false, if_true, putD, changeD_shown]; rfl⟩
        · simp [Hp.get_set, n1, n2, n3, n4, n5, n6, n7, n8, n9, n10, n11, n12, putD, changeD_waits]
end Go.Vm.Try
