/- A small separation logic over the walk of the model: values told by what they hold, owned memory, triples for code, contracts of functions. Part 1. -/
import Derived.ChangeKeysEq
import Derived.MapKept
import Derived.Maps.RangeRun
import Derived.Tactics
import Derived.Test.YtcbdjcjbnmjojaaV0
set_option linter.unusedSimpArgs false
set_option linter.unusedVariables false
set_option linter.unusedSectionVars false
/- Vm, maps and what is ranged over. -/
namespace Go.Vm
variable {X : Ext} {G H G0 : Ghost} {σ : Hp} {w : World} {P : Program}
/-- Kinds of keys: whole numbers, strings, rows of whole numbers. -/
inductive KKind where
  | int (q : IntKind)
  | str
  | ints (n : Nat) (q : IntKind)
def isInt (q : IntKind) : V → Bool
  | .int k _ => decide (k = q)
  | _ => false
def isKey : KKind → V → Bool
  | .int q, .int k _ => decide (k = q)
  | .str, .str _ => true
  | .ints n q, .agg cs => Nat.beq cs.length n && cs.all (isInt q)
  | _, _ => false
def raw1 : V → Value
  | .int k n => .int k n
  | .str s => .string s
  | _ => undef
def raw : V → Value
  | .agg cs => .agg (cs.map raw1).toArray
  | v => raw1 v
def keyB1 : V → V → Bool
  | .int k a, .int k' b => decide (k = k') && decide (a = b)
  | .str a, .str b => decide (a = b)
  | _, _ => false
def keysB : List V → List V → Bool
  | [], [] => true
  | a :: as, b :: bs => keyB1 a b && keysB as bs
  | _, _ => false
def keyB : V → V → Bool
  | .agg cs, .agg ds => keysB cs ds
  | a, b => keyB1 a b
def kindT (P : Program) (kt : TypeId) : Option KKind :=
  match P.underlying kt with
  | some (.int q) => some (.int q)
  | some .string => some .str
  | some (.array n e) => match P.underlying e, P.info? e with
    | some (.int q), some i => cond (Nat.beq (P.cellsOf e) 1 && Nat.beq i.size 1) (some (.ints n q)) none
    | _, _ => none
  | _ => none
theorem raw1_det {q : IntKind} {v : V} {r : Value} (h : isInt q v = true) (hr : VRel G v r) : r = raw1 v ∧ ∃ n, raw1 v = .int q n := by
  cases v <;> simp [isInt] at h
  subst h; cases hr; exact ⟨rfl, _, rfl⟩
theorem raw_det {kk : KKind} {v : V} {r : Value} (h : isKey kk v = true) (hr : VRel G v r) : r = raw v := by
  cases kk <;> cases v <;> simp [isKey] at h <;> cases hr
  · rfl
  · rfl
  · rename_i n q cs rs hl hc
    simp only [raw]
    congr 1
    apply Array.ext'
    apply List.ext_getElem?
    intro i
    simp only [Array.getElem?_toList, List.getElem?_map]
    cases hi : cs[i]? with
    | none =>
      have : rs.size ≤ i := by rw [hl]; simpa using hi
      simp [this]
    | some c =>
      have hlt := (List.getElem?_eq_some_iff.1 hi).1
      have h1 := hc i c hi
      have h2 : isInt q c = true := h.2 c (List.mem_of_getElem? hi)
      have h3 := (raw1_det h2 h1).1
      have : i < rs.size := by rw [hl]; exact hlt
      simp [this] at h3 ⊢
      exact h3
theorem keyB1_iff {q : IntKind} {a b : V} (ha : isInt q a = true) (hb : isInt q b = true) : keyB1 a b = true ↔ raw1 a = raw1 b := by
  cases a <;> simp [isInt] at ha
  cases b <;> simp [isInt] at hb
  subst ha; subst hb
  simp [keyB1, raw1]
theorem keysB_iff {q : IntKind} : ∀ {as bs : List V}, as.all (isInt q) = true → bs.all (isInt q) = true → (keysB as bs = true ↔ as.map raw1 = bs.map raw1)
  | [], [], _, _ => by simp [keysB]
  | [], _ :: _, _, _ => by simp [keysB]
  | _ :: _, [], _, _ => by simp [keysB]
  | a :: as, b :: bs, ha, hb => by
    simp only [List.all_cons, Bool.and_eq_true] at ha hb
    simp only [keysB, Bool.and_eq_true, List.map_cons, List.cons.injEq, keyB1_iff ha.1 hb.1, keysB_iff ha.2 hb.2]
theorem keyB_iff {kk : KKind} {a b : V} (ha : isKey kk a = true) (hb : isKey kk b = true) : keyB a b = true ↔ raw a = raw b := by
  cases kk <;> cases a <;> simp [isKey] at ha <;> cases b <;> simp [isKey] at hb
  · subst ha; subst hb; simp [keyB, keyB1, raw, raw1]
  · simp [keyB, keyB1, raw, raw1]
  · simp only [keyB, raw, Value.agg.injEq]
    rw [keysB_iff (q := by assumption) (List.all_eq_true.2 ha.2) (List.all_eq_true.2 hb.2)]
    constructor
    · intro h; rw [h]
    · intro h; simpa using congrArg Array.toList h
/-! ### keys, as they lie -/
def KSet (kk : KKind) (r : Value) : Prop := ∃ v, isKey kk v = true ∧ r = raw v
structure KeyT (P : Program) (kt : TypeId) (K : Value → Prop) : Prop where
  check : ∀ (w : World) (em : Bool) {v : Value}, K v → (Instr.checkKey em 10000 kt v).run P w = .ok () w
  find : ∀ (w : World) {x : Value}, K x → ∀ es : List MapEntry, (∀ e ∈ es, K e.key) → ((Instr.findKey kt x es).run P w = .ok none w ∧ ∀ e ∈ es, e.key ≠ x) ∨
    ∃ (j : Nat) (e : MapEntry), (Instr.findKey kt x es).run P w = .ok (some (j, e.val)) w ∧ es[j]? = some e ∧ e.key = x
  stays : ∀ (w : World) {v : Value}, K v → (Instr.keyThatStays v v).run P w = .ok v w
theorem keyT_plain {kt : TypeId} {d : TypeDesc} (hd : P.underlying kt = some d) : KeyT P kt (MapKept.IsKey d) where
  check w em v h := MapKept.run_checkKey hd h em 9999
  find w x hx es hes := by
    rcases MapKept.findNow_spec hx es 0 hes with ⟨h1, h2⟩ | ⟨j, e0, h1, h2, h3⟩
    · exact .inl ⟨MapKept.run_findKey hd h1, h2⟩
    · exact .inr ⟨j, e0, by simpa using MapKept.run_findKey hd h1, h2, h3⟩
  stays w v h := MapKept.run_keyThatStays h
theorem KeyT.weaken {kt : TypeId} {K K' : Value → Prop} (h : KeyT P kt K) (hk : ∀ v, K' v → K v) : KeyT P kt K' :=
  ⟨fun w em v hv => h.check w em (hk v hv), fun w x hx es hes => h.find w (hk x hx) es (fun e he => hk _ (hes e he)), fun w v hv => h.stays w (hk v hv)⟩
/-- A row of whole numbers. -/
def IntsK (n : Nat) (q : IntKind) (r : Value) : Prop := ∃ cs : Array Value, r = .agg cs ∧ cs.size = n ∧ ∀ x ∈ cs.toList, ∃ a, x = .int q a
theorem int_cell {n : Nat} {q : IntKind} {cs : Array Value} (h : cs.size = n ∧ ∀ x ∈ cs.toList, ∃ a, x = .int q a) {i : Nat} (hi : i < n) : ∃ a, cs[i]? = some (.int q a) := by
  obtain ⟨h1, h2⟩ := h
  have hlt : i < cs.size := by omega
  obtain ⟨a, ha⟩ := h2 cs[i] (by simp)
  exact ⟨a, by rw [← ha]; simp [hlt]⟩
theorem run_partInt {e : TypeId} {q : IntKind} (he : P.underlying e = some (.int q)) {cs : Array Value} {i : Nat} {v : Value} (hi : cs[i]? = some v) (w : World) : (part e cs i).run P w = .ok v w := by
  have : aggT P e = some false := by simp [aggT, he]
  simp [part, run_agg this, hi]
theorem run_check_ints (em : Bool) (d : Nat) {e : TypeId} {q : IntKind} (he : P.underlying e = some (.int q)) (hs : szT P e = some 1) {n : Nat} {cs : Array Value} (hc : cs.size = n ∧ ∀ x ∈ cs.toList, ∃ a, x = .int q a) (w : World) {kt : TypeId} (hk : P.underlying kt = some (.array n e)) :
    (Instr.checkKey em (d + 2) kt (.agg cs)).run P w = .ok () w := by
  rw [show d + 2 = (d + 1) + 1 from rfl, Instr.checkKey]
  simp only [Sem.run_bind, run_und hk, Result.andThen_ok]
  simp only [Std.Legacy.Range.forIn_eq_forIn_range', Std.Legacy.Range.size, Nat.sub_zero, Nat.add_one_sub_one, Nat.div_one]
  have key : ∀ is : List Nat, (∀ i ∈ is, i < n) → (forIn is PUnit.unit (fun i r => do
      let sz ← sizeOf e
      let p ← part e cs (i * sz)
      Instr.checkKey em (d + 1) e p
      pure (ForInStep.yield PUnit.unit)) : Sem PUnit).run P w = .ok PUnit.unit w := by
    intro is
    induction is with
    | nil => intro _; simp
    | cons i is ih =>
      intro h
      obtain ⟨a, ha⟩ := int_cell hc (h i (List.mem_cons_self ..))
      have h1 : (Instr.checkKey em (d + 1) e (.int q a)).run P w = .ok () w := MapKept.run_checkKey he (show MapKept.IsKey (.int q) (.int q a) from rfl) em d
      simp only [List.forIn_cons, Sem.run_bind, run_sz hs, Result.andThen_ok, Nat.mul_one, run_partInt he ha, h1, Sem.run_pure]
      exact ih fun j hj => h j (List.mem_cons_of_mem _ hj)
  rw [key (List.range' 0 n) (fun i hi => by simpa using hi)]
  rfl
theorem run_eq_ints {e : TypeId} {q : IntKind} (he : P.underlying e = some (.int q)) (hs : P.cellsOf e = 1) {i : TypeInfo} (hinf : P.info? e = some i) {n : Nat} {xs ys : Array Value} (hx : xs.size = n ∧ ∀ x ∈ xs.toList, ∃ a, x = .int q a) (hy : ys.size = n ∧ ∀ x ∈ ys.toList, ∃ a, x = .int q a) {kt : TypeId} (hk : P.underlying kt = some (.array n e)) (w : World) :
    ∃ b : Bool, (Op.equal kt (.agg xs) (.agg ys)).run P w = .ok b w ∧ (b = true ↔ xs = ys) := by
  have key : ∀ is : List Nat, (∀ i ∈ is, i < n) → ∃ b : Bool, (Op.eqItems 9999 e 1 xs ys is).run P w = .ok b w ∧ (b = true ↔ ∀ i ∈ is, xs[i]? = ys[i]?) := by
    intro is
    induction is with
    | nil => intro _; exact ⟨true, by simp [Op.eqItems], by simp⟩
    | cons i is ih =>
      intro h
      obtain ⟨a, ha⟩ := int_cell hx (h i (List.mem_cons_self ..))
      obtain ⟨b, hb⟩ := int_cell hy (h i (List.mem_cons_self ..))
      obtain ⟨r, r1, r2⟩ := ih fun j hj => h j (List.mem_cons_of_mem _ hj)
      have h1 : (Op.equalIn 9999 e (.int q a) (.int q b)).run P w = .ok (a == b) w := by
        rw [show 9999 = 9998 + 1 from rfl, Op.equalIn]
        simp [run_und he]
      simp only [Op.eqItems, Sem.run_bind, Nat.mul_one, run_partInt he ha, run_partInt he hb, Result.andThen_ok, h1]
      by_cases hab : a = b
      · subst hab
        refine ⟨r, by simpa using r1, ?_⟩
        rw [r2]; simp [ha, hb]
      · refine ⟨false, by simp [hab], ?_⟩
        simp only [Bool.false_eq_true, List.mem_cons, forall_eq_or_imp, ha, hb, Option.some.injEq, Value.int.injEq, true_and, false_iff, not_and]
        intro h; exact absurd h hab
  obtain ⟨b, h1, h2⟩ := key (List.range n) fun i hi => by simpa using hi
  refine ⟨b, ?_, h2.trans ⟨fun h => ?_, fun h => by subst h; exact fun _ _ => rfl⟩⟩
  · rw [show Op.equal kt (.agg xs) (.agg ys) = Op.equalIn (9999 + 1) kt (.agg xs) (.agg ys) from rfl, Go.run_equalIn_array w 9999 xs ys hk hinf, hs]
    exact h1
  · apply Array.ext (hx.1.trans hy.1.symm)
    intro i h3 h4
    have := h i (by rw [List.mem_range, ← hx.1]; exact h3)
    simpa [h3, h4] using this
theorem sameBits_ints {q : IntKind} : ∀ (xs : List Value), (∀ x ∈ xs, ∃ a, x = .int q a) → ∀ n, (xs.zip xs).all (fun (x, y) => Instr.sameBits n x y) = true
  | [], _, _ => rfl
  | x :: xs, h, n => by
    obtain ⟨a, rfl⟩ := h x (List.mem_cons_self ..)
    simp only [List.zip_cons_cons, List.all_cons, sameBits_ints xs (fun y hy => h y (List.mem_cons_of_mem _ hy)) n, Bool.and_true]
    cases n <;> simp [Instr.sameBits]
theorem keyT_ints {kt e : TypeId} {n : Nat} {q : IntKind} {i : TypeInfo} (hk : P.underlying kt = some (.array n e)) (he : P.underlying e = some (.int q)) (hs : P.cellsOf e = 1) (hinf : P.info? e = some i) (hsz : i.size = 1) : KeyT P kt (IntsK n q) where
  check w em v h := by
    obtain ⟨cs, rfl, hc⟩ := h
    exact run_check_ints em 9998 he (by simp [szT, hinf, hsz]) hc w hk
  find w x hx es hes := by
    obtain ⟨cs, rfl, hc⟩ := hx
    have ask : ∀ (l : List MapEntry) (k : Nat), (∀ e ∈ l, IntsK n q e.key) → ((Instr.findAsking kt (.agg cs) l k).run P w = .ok none w ∧ ∀ e ∈ l, e.key ≠ .agg cs) ∨
        ∃ (j : Nat) (e : MapEntry), (Instr.findAsking kt (.agg cs) l k).run P w = .ok (some (k + j, e.val)) w ∧ l[j]? = some e ∧ e.key = .agg cs := by
      intro l
      induction l with
      | nil => intro k _; exact .inl ⟨by simp [Instr.findAsking], by simp⟩
      | cons e0 l ih =>
        intro k h
        obtain ⟨ds, hds, hd⟩ := h e0 (List.mem_cons_self ..)
        obtain ⟨b, b1, b2⟩ := run_eq_ints he hs hinf hc hd hk w
        simp only [Instr.findAsking, Sem.run_bind, hds, b1, Result.andThen_ok]
        cases b with
        | true =>
          have := b2.1 rfl
          subst this
          exact .inr ⟨0, e0, by simp, rfl, hds⟩
        | false =>
          have hne : cs ≠ ds := fun e => by have := b2.2 e; cases this
          simp only [Bool.false_eq_true, if_false]
          rcases ih (k + 1) (fun e he => h e (List.mem_cons_of_mem _ he)) with ⟨h1, h2⟩ | ⟨j, e', h1, h2, h3⟩
          · refine .inl ⟨h1, fun e he => ?_⟩
            rcases List.mem_cons.1 he with rfl | he
            · rw [hds]; intro hh; injection hh with hh; exact hne hh.symm
            · exact h2 e he
          · exact .inr ⟨j + 1, e', by rw [h1]; congr 3; omega, by simpa using h2, h3⟩
    cases es with
    | nil => exact .inl ⟨by simp [Instr.findKey, run_und hk, Instr.findNow], by simp⟩
    | cons e0 l =>
      have h0 := ask (e0 :: l) 0 hes
      have hrun : (Instr.findKey kt (.agg cs) (e0 :: l)).run P w = (Instr.findAsking kt (.agg cs) (e0 :: l) 0).run P w := by
        simp [Instr.findKey, run_und hk, Instr.findNow, Instr.sameNow]
      rw [hrun]
      simpa using h0
  stays w v h := by
    obtain ⟨cs, rfl, hc⟩ := h
    have : Instr.sameBits 10000 (.agg cs) (.agg cs) = true := by
      rw [show 10000 = 9999 + 1 from rfl, Instr.sameBits]
      simp only [beq_self_eq_true, Bool.true_and]
      exact sameBits_ints _ hc.2 _
    simp [Instr.keyThatStays, this]
theorem kindT_spec {kt : TypeId} {kk : KKind} (h : kindT P kt = some kk) : KeyT P kt (KSet kk) := by
  unfold kindT at h
  split at h
  · rename_i q hu
    cases h
    refine (keyT_plain hu).weaken ?_
    rintro v ⟨x, hx, rfl⟩
    cases x <;> simp [isKey] at hx
    exact hx
  · rename_i hu
    cases h
    refine (keyT_plain hu).weaken ?_
    rintro v ⟨x, hx, rfl⟩
    cases x <;> simp [isKey] at hx
    trivial
  · rename_i n e hu
    split at h
    · rename_i q i he hinf
      cases hc : (Nat.beq (P.cellsOf e) 1 && Nat.beq i.size 1) with
      | false => rw [hc] at h; cases h
      | true =>
        rw [hc] at h; cases h
        simp only [Bool.and_eq_true] at hc
        refine (keyT_ints hu he (Nat.eq_of_beq_eq_true hc.1) hinf (Nat.eq_of_beq_eq_true hc.2)).weaken ?_
        rintro v ⟨x, hx, rfl⟩
        cases x <;> simp [isKey] at hx
        refine ⟨_, rfl, by simpa using hx.1, fun y hy => ?_⟩
        simp only [List.mem_map] at hy
        obtain ⟨c, hc, rfl⟩ := hy
        have := hx.2 c hc
        cases c <;> simp [isInt] at this
        subst this; exact ⟨_, rfl⟩
    · cases h
  · cases h
end Go.Vm
/- Vm, operations on maps and iterators. -/
namespace Go.Vm
variable {X : Ext} {G H G0 : Ghost} {σ : Hp} {w : World} {P : Program}
def mapT (P : Program) (t : TypeId) : Option (TypeId × TypeId) :=
  match P.underlying t with
  | some (.map k e) => some (k, e)
  | _ => none
theorem mapT_spec {t k e : TypeId} (h : mapT P t = some (k, e)) : P.underlying t = some (.map k e) := by
  unfold mapT at h
  cases hu : P.underlying t with
  | none => simp [hu] at h
  | some d => cases d <;> simp [hu] at h; obtain ⟨rfl, rfl⟩ := h; rfl
/-- A type's zero. -/
def zeroV (P : Program) (t : TypeId) : Option V := ((P.info? t).bind (·.zero)).map ofVal
theorem zeroV_spec {t : TypeId} {v : V} (h : zeroV P t = some v) (w : World) : ∃ z, (zeroValue t).run P w = .ok z w ∧ VRel G v z := by
  unfold zeroV at h
  cases hi : P.info? t with
  | none => simp [hi] at h
  | some i =>
    cases hz : i.zero with
    | none => simp [hi, hz] at h
    | some v =>
      simp [hi, hz] at h
      subst h
      exact ⟨v, by simp [zeroValue, run_inf hi, hz], ofVal_rel G v⟩
def findV (k : V) : List (V × V) → Option V
  | [] => none
  | (a, v) :: r => cond (keyB a k) (some v) (findV k r)
def setV (k v : V) : List (V × V) → List (V × V)
  | [] => [(k, v)]
  | (a, b) :: r => cond (keyB a k) ((k, v) :: r) ((a, b) :: setV k v r)
def keysOk (kk : KKind) (kv : List (V × V)) : Bool := kv.all fun e => isKey kk e.1
def orZero (ok : Bool) (o : Option V) (z : V) : V := cond ok (.tup [o.getD z, .bool o.isSome]) (o.getD z)
def mLookup (P : Program) (σ : Hp) (t : TypeId) (x k : V) (ok : Bool) : Option Eff :=
  match mapT P t with
  | some (kt, et) => match kindT P kt, zeroV P et, x with
    | some kk, some z, .nilm => some (.val (isKey kk k = true) (orZero ok none z))
    | some kk, some z, .mp g => match σ.get g with
      | some (.map kv _ _) => some (.val (isKey kk k = true ∧ keysOk kk kv = true) (orZero ok (findV k kv) z))
      | _ => none
    | _, _, _ => none
  | none => none
theorem map_keys {kk : KKind} {kv : List (V × V)} {st : List Nat} {clk : Nat} {es : Array MapEntry} (h : MapRel G kv st clk es) (hk : keysOk kk kv = true) : ∀ (i : Nat) (a v : V), kv[i]? = some (a, v) → isKey kk a = true ∧ ∃ e, es.toList[i]? = some e ∧ e.key = raw a ∧ VRel G v e.val := fun i a v hi => by
  have h1 : isKey kk a = true := List.all_eq_true.1 hk _ (List.mem_of_getElem? hi)
  obtain ⟨h2, h3⟩ := h.2.1 i a v hi
  have hlt : i < es.size := by rw [h.1]; exact (List.getElem?_eq_some_iff.1 hi).1
  have e1 : es.getD i default = es[i] := by simp [hlt]
  rw [e1] at h2 h3
  exact ⟨h1, es[i], by simp [hlt], raw_det h1 h2, h3⟩
theorem map_keysK {kk : KKind} {kv : List (V × V)} {st : List Nat} {clk : Nat} {es : Array MapEntry} (h : MapRel G kv st clk es) (hk : keysOk kk kv = true) : ∀ e ∈ es.toList, KSet kk e.key := fun e he => by
  obtain ⟨i, hi⟩ := List.getElem?_of_mem he
  have hlt : i < kv.length := by rw [← h.1]; have := (List.getElem?_eq_some_iff.1 hi).1; simpa using this
  obtain ⟨h1, e', h2, h3, _⟩ := map_keys h hk i (kv[i]).1 (kv[i]).2 (by simp [hlt])
  rw [hi] at h2; cases h2
  exact ⟨_, h1, h3⟩
theorem findV_at {kk : KKind} {k : V} (hk : isKey kk k = true) : ∀ (kv : List (V × V)) (es : List MapEntry), es.length = kv.length → (∀ (i : Nat) (a v : V), kv[i]? = some (a, v) → isKey kk a = true ∧ ∃ e, es[i]? = some e ∧ e.key = raw a ∧ VRel G v e.val) →
    (es.map (·.key)).Nodup → ∀ (j : Nat) (e : MapEntry), es[j]? = some e → e.key = raw k → ∃ a v, kv[j]? = some (a, v) ∧ findV k kv = some v ∧ VRel G v e.val ∧ ∀ u : V, setV k u kv = kv.set j (k, u)
  | [], es, hl, _, _, j, e, hj, _ => by
    have : es = [] := List.eq_nil_of_length_eq_zero (by simpa using hl)
    subst this; cases hj
  | (a, v) :: kv, [], hl, _, _, j, e, hj, _ => by cases hj
  | (a, v) :: kv, e0 :: es, hl, hr, hn, j, e, hj, he => by
    obtain ⟨h1, e1, h2, h3, h4⟩ := hr 0 a v rfl
    cases h2
    simp only [List.map_cons, List.nodup_cons] at hn
    cases j with
    | zero =>
      cases hj
      have hb : keyB a k = true := (keyB_iff h1 hk).2 (by rw [← h3, he])
      exact ⟨a, v, rfl, by simp [findV, hb], h4, fun u => by simp [setV, hb]⟩
    | succ j =>
      have hj' : es[j]? = some e := by simpa using hj
      have hb : keyB a k = false := by
        cases hb : keyB a k with
        | false => rfl
        | true =>
          have h5 := (keyB_iff h1 hk).1 hb
          exact absurd (List.mem_map.2 ⟨e, List.mem_of_getElem? hj', by rw [he, ← h5, ← h3]⟩) hn.1
      obtain ⟨a', v', k1, k2, k3, k4⟩ := findV_at hk kv es (by simpa using hl) (fun i a v hi => by simpa using hr (i + 1) a v (by simpa using hi)) hn.2 j e hj' he
      exact ⟨a', v', by simpa using k1, by simp [findV, hb, k2], k3, fun u => by simp [setV, hb, k4]⟩
theorem findV_no {kk : KKind} {k : V} (hk : isKey kk k = true) : ∀ (kv : List (V × V)) (es : List MapEntry), (∀ (i : Nat) (a v : V), kv[i]? = some (a, v) → isKey kk a = true ∧ ∃ e, es[i]? = some e ∧ e.key = raw a ∧ VRel G v e.val) →
    (∀ e ∈ es, e.key ≠ raw k) → findV k kv = none ∧ ∀ u : V, setV k u kv = kv ++ [(k, u)]
  | [], _, _, _ => ⟨rfl, fun u => rfl⟩
  | (a, v) :: kv, es, hr, hn => by
    obtain ⟨h1, e1, h2, h3, h4⟩ := hr 0 a v rfl
    have hb : keyB a k = false := by
      cases hb : keyB a k with
      | false => rfl
      | true => exact absurd (h3.trans ((keyB_iff h1 hk).1 hb)) (hn e1 (List.mem_of_getElem? h2))
    cases es with
    | nil => cases h2
    | cons e0 es =>
      obtain ⟨k1, k2⟩ := findV_no hk kv es (fun i a v hi => by simpa using hr (i + 1) a v (by simpa using hi)) (fun e he => hn e (List.mem_cons_of_mem _ he))
      exact ⟨by simp [findV, hb, k1], fun u => by simp [setV, hb, k2]⟩
theorem tup2 {v u : V} {r s : Value} (h1 : VRel G v r) (h2 : VRel G u s) : VRel G (.tup [v, u]) (.tuple #[r, s]) := .tup _ _ rfl fun i c hi => by
  rcases i with _ | _ | i
  · cases hi; exact h1
  · cases hi; exact h2
  · simp at hi
theorem tup3 {v u x : V} {r s y : Value} (h1 : VRel G v r) (h2 : VRel G u s) (h3 : VRel G x y) : VRel G (.tup [v, u, x]) (.tuple #[r, s, y]) := .tup _ _ rfl fun i c hi => by
  rcases i with _ | _ | _ | i
  · cases hi; exact h1
  · cases hi; exact h2
  · cases hi; exact h3
  · simp at hi
theorem run_map {b : Nat} {es : Array MapEntry} {clk : Nat} (h : w.heap[b]? = some (.map es clk)) : (getObj b).run P w = .ok (.map es clk) w := by simp [getObj, Sem.run, h]
theorem sound_lookup (hI : Inv X G σ w) {t : TypeId} {x k : V} {r u : Value} (hx : VRel G x r) (hk : VRel G k u) {ok : Bool} {e : Eff} (h : mLookup P σ t x k ok = some e) :
    Snd P X G σ w (do pure (.value (← Instr.lookup t r u ok))) e := by
  unfold mLookup at h
  split at h
  · rename_i kt et hm
    have hu := mapT_spec hm
    split at h
    · rename_i kk z hkk hz
      cases h; cases hx
      refine snd_same hI fun hp => ?_
      have hK := kindT_spec hkk
      have hru := raw_det hp hk
      obtain ⟨zv, z1, z2⟩ := zeroV_spec (G := G) hz w
      have hc := hK.check w true (v := u) ⟨k, hp, hru⟩
      rcases hK.find w (x := u) ⟨k, hp, hru⟩ [] (fun e he => by cases he) with ⟨h1, _⟩ | ⟨j, e, _, h2, _⟩
      · refine ⟨if ok = true then .tuple #[zv, .bool false] else zv, by simp [Instr.lookup, run_und hu, hc, h1, z1], ?_⟩
        cases ok with
        | false => exact z2
        | true => exact tup2 z2 (.bool _)
      · cases h2
    · rename_i kk z g hkk hz
      split at h
      · rename_i kv st clk hg
        cases h; cases hx with | mp _ b hb =>
        refine snd_same hI fun ⟨hp, hks⟩ => ?_
        obtain ⟨b', es, p1, p2, p3, p4, p5⟩ := hI.blk g _ hg
        rw [hb] at p1; cases p1
        have hK := kindT_spec hkk
        have hru := raw_det hp hk
        obtain ⟨zv, z1, z2⟩ := zeroV_spec (G := G) hz w
        have hc := hK.check w es.isEmpty (v := u) ⟨k, hp, hru⟩
        have res : ∀ (v : V) (rv : Value) (b : Bool), VRel G v rv → VRel G (cond ok (.tup [v, .bool b]) v) (if ok = true then .tuple #[rv, .bool b] else rv) := fun v rv b hv => by
          cases ok with
          | false => exact hv
          | true => exact tup2 hv (.bool _)
        rcases hK.find w (x := u) ⟨k, hp, hru⟩ es.toList (map_keysK p3 hks) with ⟨h1, hno⟩ | ⟨j, e, h1, h2, h3⟩
        · have hf := (findV_no hp kv es.toList (fun i a v hi => map_keys p3 hks i a v hi) (fun e he => by rw [← hru]; exact hno e he)).1
          refine ⟨if ok = true then .tuple #[zv, .bool false] else zv, by simp [Instr.lookup, run_und hu, run_map p2, hc, h1, z1], ?_⟩
          rw [hf]; exact res z zv false z2
        · obtain ⟨a, v, q1, q2, q3, _⟩ := findV_at hp kv es.toList (by simpa using p3.1) (fun i a v hi => map_keys p3 hks i a v hi) p3.2.2.2.2.2 j e h2 (h3.trans hru)
          refine ⟨if ok = true then .tuple #[e.val, .bool true] else e.val, by simp [Instr.lookup, run_und hu, run_map p2, hc, h1], ?_⟩
          rw [q2]; exact res v e.val true q3
      · cases h
    · cases h
  · cases h
def mMakeMap (t : TypeId) (r : Option V) : Option Eff :=
  match r with
  | none => some (.new True (.map [] [] 0) .mp)
  | some _ => none
theorem sound_makeMap (hI : Inv X G σ w) {t : TypeId} {r : Option V} {r' : Option Value} (hr : r = none → r' = none) {e : Eff} (h : mMakeMap t r = some e) : Snd P X G σ w (do pure (.value (← Instr.makeMap t r'))) e := by
  unfold mMakeMap at h
  split at h
  · cases h
    have := hr rfl; subst this
    refine Snd.new fun _ => ?_
    obtain ⟨g, g1, g2, g3⟩ := hI.fresh
    obtain ⟨le, hI'⟩ := hI.alloc_own g1 g2 g3 (.map #[] 0) (.map [] [] 0) (fun _ _ => by simp) fun H le hb hf => ⟨_, #[], hb, heap_alloc_new _ _, ⟨rfl, fun i k v h => (by cases h), rfl, fun s h => (by cases h), List.nodup_nil, List.nodup_nil⟩, hf, hI.ext_new⟩
    refine ⟨g, .map (some w.heap.size), _, _, g3, ?_, le, hI', .mp _ _ (by simp [Ghost.setBl])⟩
    simp [Instr.makeMap]
  · cases h
def stSet (has : Bool) (st : List Nat) (clk : Nat) : List Nat := cond has st (st ++ [clk])
def mMapUpdate (P : Program) (σ : Hp) (t : TypeId) (x k v : V) : Option Eff :=
  match mapT P t, x with
  | some (kt, _), .mp g => match kindT P kt, σ.get g with
    | some kk, some (.map kv st clk) => some (.set (isKey kk k = true ∧ keysOk kk kv = true ∧ (∀ vs, v ≠ .tup vs) ∧ v ≠ .dead) g (.map (setV k v kv) (stSet (findV k kv).isSome st clk) (cond (findV k kv).isSome clk (clk + 1))) .dead)
    | _, _ => none
  | _, _ => none
theorem run_setMap {b : Nat} {es : Array MapEntry} {clk : Nat} (h : w.heap[b]? = some (.map es clk)) (o : Obj) : ∃ w', (setObj b o).run P w = .ok () w' ∧ (∀ i, i ≠ b → w'.heap[i]? = w.heap[i]?) ∧ w'.heap[b]? = some o ∧ (w'.os = w.os ∧ w'.output = w.output) := by
  refine ⟨_, MapKept.run_setObj_map o h, fun i hi => ?_, ?_, rfl, rfl⟩
  · simp [Array.getElem?_setIfInBounds, Ne.symm hi]
  · have := lt_of_heap h
    simp [Array.getElem?_setIfInBounds, this]
theorem sound_mapUpdate (hI : Inv X G σ w) {t : TypeId} {x k v : V} {r u y : Value} (hx : VRel G x r) (hk : VRel G k u) (hv : VRel G v y) {e : Eff} (h : mMapUpdate P σ t x k v = some e) :
    Snd P X G σ w (do Instr.mapUpdate t r u y; pure .skip) e := by
  unfold mMapUpdate at h
  split at h
  · rename_i kt et g hm
    have hu := mapT_spec hm
    split at h
    · rename_i kk kv st clk hkk hg
      cases h; cases hx with | mp _ b hb =>
      intro K ⟨⟨hp, hks, hn1, hn2⟩, hK'⟩
      obtain ⟨b', es, p1, p2, p3, p4, p5⟩ := hI.blk g _ hg
      rw [hb] at p1; cases p1
      have hK := kindT_spec hkk
      have hru := raw_det hp hk
      have hc := hK.check w false (v := u) ⟨k, hp, hru⟩
      obtain ⟨q1, q2, q3, q4, q5, q6⟩ := p3
      rcases hK.find w (x := u) ⟨k, hp, hru⟩ es.toList (map_keysK ⟨q1, q2, q3, q4, q5, q6⟩ hks) with ⟨h1, hno⟩ | ⟨j, e, h1, h2, h3⟩
      · obtain ⟨hf, hs⟩ := findV_no hp kv es.toList (fun i a v hi => map_keys ⟨q1, q2, q3, q4, q5, q6⟩ hks i a v hi) (fun e he => by rw [← hru]; exact hno e he)
        obtain ⟨w', r1, r2, r3, r4⟩ := run_setMap (P := P) p2 (.map (es.push { key := u, val := y, born := clk }) (clk + 1))
        rw [hf, hs] at hK'
        simp only [Option.isSome_none, stSet, cond_false] at hK'
        refine ⟨.skip, undef, w', .dead, _, G, ?_, .inr ⟨rfl, rfl⟩, hK', Ghost.Le.refl _, ?_, .dead _⟩
        · simp [Instr.mapUpdate, run_und hu, run_map p2, hc, h1, r1]
        · refine hI.change hg hb (fun _ _ => by simp) (fun _ _ => by simp) p4 r2 ⟨b, _, hb, r3, ⟨?_, ?_, ?_, ?_, ?_, ?_⟩, p4, p5⟩ r4
          · simp [q1]
          · intro i a c hi
            rcases Nat.lt_or_ge i kv.length with hlt | hge
            · rw [List.getElem?_append_left hlt] at hi
              have := q2 i a c hi
              have hle : i < es.size := by rw [q1]; exact hlt
              simpa [Array.getElem?_push, hle, Nat.ne_of_lt hle] using this
            · have hi0 : i = kv.length := by
                have := (List.getElem?_eq_some_iff.1 hi).1
                simp at this; omega
              subst hi0
              simp at hi
              obtain ⟨rfl, rfl⟩ := hi
              rw [← q1]
              simp
              exact ⟨hk, hv⟩
          · simp [q3]
          · intro s hs
            rcases List.mem_append.1 hs with hs | hs
            · have := q4 s hs; omega
            · simp at hs; omega
          · rw [List.nodup_append]
            refine ⟨q5, by simp, fun a ha b' hb' => ?_⟩
            simp at hb'; subst hb'
            have := q4 a ha; omega
          · simp only [Array.toList_push, List.map_append, List.map_cons, List.map_nil, List.nodup_append]
            refine ⟨q6, by simp, fun a ha b' hb' => ?_⟩
            simp at hb'; subst hb'
            obtain ⟨e, he, rfl⟩ := List.mem_map.1 ha
            exact hno e he
      · obtain ⟨a, v', s1, s2, s3, s4⟩ := findV_at hp kv es.toList (by simpa using q1) (fun i a v hi => map_keys ⟨q1, q2, q3, q4, q5, q6⟩ hks i a v hi) q6 j e h2 (h3.trans hru)
        have hj : es[j]? = some e := by simpa using h2
        obtain ⟨w', r1, r2, r3, r4⟩ := run_setMap (P := P) p2 (.map (es.modify j fun e => { e with key := u, val := y }) clk)
        rw [s2, s4] at hK'
        simp only [Option.isSome_some, stSet, cond_true] at hK'
        refine ⟨.skip, undef, w', .dead, _, G, ?_, .inr ⟨rfl, rfl⟩, hK', Ghost.Le.refl _, ?_, .dead _⟩
        · have hst := hK.stays w (v := u) ⟨k, hp, hru⟩
          simp [Instr.mapUpdate, run_und hu, run_map p2, hc, h1, hj, h3, hst, r1]
        · refine hI.change hg hb (fun _ _ => by simp) (fun _ _ => by simp) p4 r2 ⟨b, _, hb, r3, ⟨?_, ?_, ?_, q4, q5, ?_⟩, p4, p5⟩ r4
          · simp [q1]
          · intro i a c hi
            rw [List.getElem?_set] at hi
            by_cases hij : j = i
            · subst hij
              rw [if_pos rfl] at hi
              have hlt : j < es.size := (Array.getElem?_eq_some_iff.1 hj).1
              split at hi
              · cases hi
                have : (es.modify j fun e => { e with key := u, val := y })[j]? = some { e with key := u, val := y } := by simp [Array.getElem?_modify, hj]
                simp only [Array.getD_eq_getD_getElem?, this, Option.getD_some]
                exact ⟨hk, hv⟩
              · cases hi
            · rw [if_neg hij] at hi
              have := q2 i a c hi
              simpa [Array.getElem?_modify, hij] using this
          · rw [← q3]
            apply List.ext_getElem?
            intro i
            simp only [List.getElem?_map, Array.getElem?_toList, Array.getElem?_modify]
            by_cases hij : j = i
            · subst hij; simp [hj]
            · simp [hij]
          · have : (es.modify j fun e => { e with key := u, val := y }).toList.map (·.key) = es.toList.map (·.key) := by
              apply List.ext_getElem?
              intro i
              simp only [List.getElem?_map, Array.getElem?_toList, Array.getElem?_modify]
              by_cases hij : j = i
              · subst hij; simp [hj, h3]
              · simp [hij]
            rw [this]; exact q6
    · cases h
  · cases h
end Go.Vm
/- Vm, iterators. -/
namespace Go.Vm
variable {X : Ext} {G H G0 : Ghost} {σ : Hp} {w : World} {P : Program}
def mRange (P : Program) (σ : Hp) (t : TypeId) (x : V) : Option Eff :=
  match P.underlying t, x with
  | some .string, .str s => some (.new True (.siter s 0) .it)
  | some (.map _ _), .mp m => match σ.get m with
    | some (.map _ _ clk) => some (.new True (.miter m clk [] clk) .it)
    | _ => none
  | _, _ => none
theorem sound_range (hI : Inv X G σ w) {t : TypeId} {x : V} {r : Value} (hx : VRel G x r) {e : Eff} (h : mRange P σ t x = some e) : Snd P X G σ w (do pure (.value (← Instr.range t r))) e := by
  unfold mRange at h
  split at h
  · rename_i s hu
    cases h; cases hx
    refine Snd.new fun _ => ?_
    obtain ⟨g, g1, g2, g3⟩ := hI.fresh
    obtain ⟨le, hI'⟩ := hI.alloc_own g1 g2 g3 (.stringIter s 0) (.siter s 0) (fun _ _ => by simp) fun H le hb hf => ⟨_, hb, heap_alloc_new _ _, hf, hI.ext_new⟩
    exact ⟨g, .pointer (some ⟨w.heap.size, 0, none⟩), _, _, g3, by simp [Instr.range, run_und hu], le, hI', .it _ _ (by simp [Ghost.setBl])⟩
  · rename_i k v m hu
    split at h
    · rename_i kv st clk hg
      cases h; cases hx with | mp _ bm hbm =>
      obtain ⟨b', es, p1, p2, p3, p4, p5⟩ := hI.blk m _ hg
      rw [hbm] at p1; cases p1
      refine Snd.new fun _ => ?_
      obtain ⟨g, g1, g2, g3⟩ := hI.fresh
      obtain ⟨le, hI'⟩ := hI.alloc_own g1 g2 g3 (.mapIter (some bm) clk #[] clk) (.miter m clk [] clk) (fun _ _ => by simp) fun H le hb hf => ⟨_, bm, hb, heap_alloc_new _ _, (by
        have : H.bl m = some bm := le.bl _ _ hbm
        exact this), hf, hI.ext_new⟩
      exact ⟨g, .pointer (some ⟨w.heap.size, 0, none⟩), _, _, g3, by simp [Instr.range, run_und hu, run_map p2], le, hI', .it _ _ (by simp [Ghost.setBl])⟩
    · cases h
  · cases h
/-- What a step of an iterator can come to. -/
def nextL (m : Nat) (kv : List (V × V)) (st : List Nat) (since : Nat) (seen : List Nat) (clk : Nat) : List (V × Blk) :=
  (kv.zip st).filterMap fun e => if e.2 ∈ seen then none else some (.tup [.bool true, e.1.1, e.1.2], .miter m since (seen ++ [e.2]) clk)
def mNext (σ : Hp) (x : V) (isStr : Bool) : Option Eff :=
  match x with
  | .it g => match σ.get g, isStr with
    | some (.siter s pos), true => if pos < s.size then some (.set True g (.siter s (pos + (Utf8.decode s pos).2)) (.tup [.bool true, .int .i64 pos, .int .i32 (Utf8.decode s pos).1])) else some (.val True (.tup [.bool false]))
    | some (.miter m since seen c0), false => match σ.get m with
      | some (.map kv st clk) => some (.any ((∀ s ∈ st, s < since) ∧ since ≤ c0) g (nextL m kv st since seen clk) (.tup [.bool false], .miter m since seen c0))
      | _ => none
    | _, _ => none
  | _ => none
theorem sound_next (hI : Inv X G σ w) {ty : TypeId} {x : V} {r : Value} (hx : VRel G x r) {isStr : Bool} {e : Eff} (h : mNext σ x isStr = some e) : Snd P X G σ w (do pure (.value (← Instr.next r isStr ty))) e := by
  unfold mNext at h
  split at h
  · rename_i g
    cases hx with | it _ b hb =>
    split at h
    · rename_i s pos hg
      obtain ⟨b', p1, p2, p4, p5⟩ := hI.blk g _ hg
      rw [hb] at p1; cases p1
      have hob : (getObj b).run P w = .ok (.stringIter s pos) w := by simp [getObj, Sem.run, p2]
      split at h
      · rename_i hlt
        cases h
        refine Snd.set fun _ => ?_
        have hset : ∀ o : Obj, ∃ w', (setObj b o).run P w = .ok () w' ∧ (∀ i, i ≠ b → w'.heap[i]? = w.heap[i]?) ∧ w'.heap[b]? = some o ∧ (w'.os = w.os ∧ w'.output = w.output) := fun o => by
          refine ⟨{ w with heap := w.heap.setIfInBounds b o }, by simp [setObj, Sem.run, p2], fun i hi => by simp [Array.getElem?_setIfInBounds, Ne.symm hi], by simp [Array.getElem?_setIfInBounds, lt_of_heap p2], rfl, rfl⟩
        obtain ⟨w', r1, r2, r3, r4⟩ := hset (.stringIter s (pos + (Utf8.decode s pos).2))
        refine ⟨.tuple #[.bool true, goInt pos, .int .i32 (Utf8.decode s pos).1], w', G, ?_, Ghost.Le.refl _, ?_, tup3 (.bool _) (.int _ _) (.int _ _)⟩
        · simp [Instr.next, hob, hlt, r1]
        · exact hI.change hg hb (fun _ _ => by simp) (fun _ _ => by simp) p4 r2 ⟨b, hb, r3, p4, p5⟩ r4
      · rename_i hlt
        cases h
        refine Snd.pure hI fun _ => ⟨.tuple #[.bool false], by simp [Instr.next, hob, hlt], .tup _ _ rfl fun i c hi => ?_⟩
        rcases i with _ | i
        · cases hi; exact .bool _
        · simp at hi
    · rename_i m since seen c0 hg
      split at h
      · rename_i kv st clk hm
        cases h
        obtain ⟨b', bm, p1, p2, p3, p4, p5⟩ := hI.blk g _ hg
        rw [hb] at p1; cases p1
        obtain ⟨bm', es, q1, q2, q3, q4, q5⟩ := hI.blk m _ hm
        rw [p3] at q1; cases q1
        refine Snd.any fun ⟨hold, hsc⟩ => ?_
        obtain ⟨z1, z2, z3, z4, z5, z6⟩ := q3
        have hold' : ∀ x ∈ es.toList, x.born < since := fun x hx => hold _ (by rw [← z3]; exact List.mem_map.2 ⟨x, hx, rfl⟩)
        rcases run_next_at (P := P) w ty b bm since c0 seen.toArray es clk p2 q2 hold' hsc with ⟨h0, hrun⟩ | ⟨e, he, w1, hw1, hrun⟩
        · refine ⟨(.tup [.bool false], .miter m since seen c0), .tuple #[.bool false], w, G, .inl ⟨?_, rfl⟩, by rw [Sem.run_bind, hrun]; rfl, Ghost.Le.refl _, ?_, .tup _ _ rfl fun i c hi => ?_⟩
          · unfold nextL
            rw [List.filterMap_eq_nil_iff]
            intro x hx
            have hs : x.2 ∈ st := (List.of_mem_zip (a := x.1) (b := x.2) (by simpa using hx)).2
            rw [← z3] at hs
            obtain ⟨e, he, hes⟩ := List.mem_map.1 hs
            have hl : leftOf es seen.toArray = #[] := Array.eq_empty_of_size_eq_zero h0
            have : seen.toArray.contains e.born = true := by
              cases hc : seen.toArray.contains e.born with
              | true => rfl
              | false =>
                have : e ∈ leftOf es seen.toArray := by
                  unfold leftOf
                  rw [Array.mem_filter]
                  exact ⟨by simpa using he, by rw [hc]; rfl⟩
                rw [hl] at this; simp at this
            rw [if_pos (by rw [← hes]; simpa using this)]
          · rw [Hp.set_same hg]; exact hI
          · rcases i with _ | i
            · cases hi; exact .bool _
            · simp at hi
        · have hmem : e ∈ es.toList ∧ e.born ∉ seen := by
            unfold leftOf at he
            simp at he
            exact ⟨by simpa using he.1, he.2⟩
          obtain ⟨i, hi⟩ := List.getElem?_of_mem hmem.1
          have hlt : i < es.size := by have := (List.getElem?_eq_some_iff.1 hi).1; simpa using this
          have hkv : i < kv.length := by rw [← z1]; exact hlt
          have hst : st[i]? = some e.born := by rw [← z3, List.getElem?_map, hi]; rfl
          have hrel := z2 i (kv[i]).1 (kv[i]).2 (by simp [hkv])
          have hei : es.getD i default = e := by
            have : es[i]? = some e := by simpa using hi
            simp [this]
          rw [hei] at hrel
          have hI1 : Inv X G σ w1 := by
            rcases hw1 with rfl | rfl
            · exact hI
            · exact hI.drew
          have p2' : w1.heap[b]? = some (.mapIter (some bm) since seen.toArray c0) := by rcases hw1 with rfl | rfl <;> exact p2
          refine ⟨(.tup [.bool true, (kv[i]).1, (kv[i]).2], .miter m since (seen ++ [e.born]) clk), .tuple #[.bool true, e.key, e.val], _, G, .inr ?_, by rw [Sem.run_bind, hrun]; rfl, Ghost.Le.refl _, ?_, tup3 (.bool _) hrel.1 hrel.2⟩
          · unfold nextL
            rw [List.mem_filterMap]
            refine ⟨((kv[i]), e.born), ?_, by rw [if_neg hmem.2]⟩
            have hsl := (List.getElem?_eq_some_iff.1 hst).1
            have : (kv.zip st)[i]? = some (kv[i], e.born) := by
              rw [List.getElem?_zip_eq_some]
              exact ⟨by simp [hkv], hst⟩
            exact List.mem_of_getElem? this
          · have hch := hI1.change (w' := ChangeMaps.setBlock w1 b (.mapIter (some bm) since (seen.toArray.push e.born) clk)) (k' := .miter m since (seen ++ [e.born]) clk) hg hb (fun _ _ => by simp) (fun _ _ => by simp) p4
              (fun i hi => by simp [ChangeMaps.setBlock, Array.getElem?_setIfInBounds, Ne.symm hi])
              ⟨b, bm, hb, by simp [ChangeMaps.setBlock, Array.getElem?_setIfInBounds, lt_of_heap p2'], p3, p4, p5⟩
            exact hch
      · cases h
    · cases h
  · cases h
def findSt (s : Nat) : List (V × V) → List Nat → Option (V × V)
  | e :: kv, t :: st => if t = s then some e else findSt s kv st
  | _, _ => none
theorem findSt_mem {s : Nat} {e : V × V} : ∀ {kv : List (V × V)} {st : List Nat}, st.Nodup → (e, s) ∈ kv.zip st → findSt s kv st = some e
  | [], st, _, h => by simp at h
  | _ :: _, [], _, h => by simp at h
  | x :: kv, t :: st, hn, h => by
    simp only [List.nodup_cons] at hn
    simp only [List.zip_cons_cons, List.mem_cons, Prod.mk.injEq] at h
    rcases h with ⟨rfl, rfl⟩ | h
    · simp [findSt]
    · have hs : s ∈ st := (List.of_mem_zip h).2
      have : t ≠ s := fun e => by subst e; exact hn.1 hs
      rw [findSt, if_neg this]
      exact findSt_mem hn.2 h
theorem findSt_spec {s : Nat} {e : V × V} : ∀ {kv : List (V × V)} {st : List Nat}, findSt s kv st = some e → ∃ i : Nat, kv[i]? = some e ∧ st[i]? = some s
  | [], st, h => by simp [findSt] at h
  | _ :: _, [], h => by simp [findSt] at h
  | x :: kv, t :: st, h => by
    rw [findSt] at h
    split at h
    · subst_vars; cases h; exact ⟨0, rfl, rfl⟩
    · obtain ⟨i, h1, h2⟩ := findSt_spec h
      exact ⟨i + 1, by simpa using h1, by simpa using h2⟩
def mEntry (σ : Hp) (x : V) : Option Eff :=
  match x with
  | .it g => match σ.get g with
    | some (.miter m since seen c0) => match σ.get m, seen.getLast? with
      | some (.map kv st clk), some s => match findSt s kv st with
        | some (k, v) => some (.val (clk = c0) (.tup [k, v]))
        | none => none
      | _, _ => none
    | _ => none
  | _ => none
theorem sound_entry (hI : Inv X G σ w) {x : V} {r : Value} (hx : VRel G x r) {e : Eff} (h : mEntry σ x = some e) : Snd P X G σ w (do pure (.value (← Instr.entry r))) e := by
  unfold mEntry at h
  split at h
  · rename_i g
    cases hx with | it _ b hb =>
    split at h
    · rename_i m since seen c0 hg
      split at h
      · rename_i kv st clk s hm hs
        split at h
        · rename_i k v hf
          cases h
          obtain ⟨b', bm, p1, p2, p3, p4, p5⟩ := hI.blk g _ hg
          rw [hb] at p1; cases p1
          obtain ⟨bm', es, q1, q2, q3, q4, q5⟩ := hI.blk m _ hm
          rw [p3] at q1; cases q1
          obtain ⟨z1, z2, z3, z4, z5, z6⟩ := q3
          refine snd_same hI fun hcl => ?_
          subst hcl
          obtain ⟨i, h1, h2⟩ := findSt_spec hf
          have hlt : i < es.size := by rw [z1]; exact (List.getElem?_eq_some_iff.1 h1).1
          have hrel := z2 i k v h1
          have hei : es.getD i default = es[i] := by simp [hlt]
          rw [hei] at hrel
          have hborn : es[i].born = s := by
            rw [← z3, List.getElem?_map] at h2
            simp [hlt] at h2
            exact h2
          obtain ⟨l, hl⟩ : ∃ l, seen = l ++ [s] := by
            rcases List.eq_nil_or_concat seen with h | ⟨l, b, h⟩
            · subst h; simp at hs
            · subst h; simp at hs; subst hs; exact ⟨l, by simp⟩
          have hb2 : w.heap[b]? = some (.mapIter (some bm) since (l.toArray.push es[i].born) clk) := by
            rw [p2, hl, hborn]; simp
          refine ⟨_, run_entry_at w b bm since l.toArray es clk es[i] hb2 q2 (by simp) (by rw [z3]; exact z5), tup2 hrel.1 hrel.2⟩
        · cases h
      · cases h
    · cases h
  · cases h
end Go.Vm
/- Vm, rows that grow and are written. -/
namespace Go.Vm
variable {X : Ext} {G H G0 : Ghost} {σ : Hp} {w : World} {P : Program}
def cellsAt (σ : Hp) (g : Nat) : List V :=
  match σ.get g with
  | some (.cells cs) => cs
  | _ => []
def isCells : Option Blk → Prop
  | some (.cells _) => True
  | _ => False
/-- Appending to a row of one's own. -/
def mAppendB (P : Program) (σ : Hp) (t t2 : TypeId) (x y : V) : Option Eff :=
  match x with
  | .bs g 0 len cap sz => match elemT P t with
    | some e => match szT P e, bytesT P e, zeroT P e with
      | some n, some bytes, some zs => cond (notInt P t2 && Nat.ble 1 bytes && Nat.beq zs.length n && Nat.beq sz n && zs.all V.one)
        (match srcOf σ n y with
          | some ys => some (.app (srcP σ y ∧ room len ys.length bytes ∧ (isCells (σ.get g) ∨ (cap = 0 ∧ 0 < ys.length)) ∧ (cellsAt σ g).length = cap * n) g (len + ys.length) n ((cellsAt σ g).take (len * n) ++ flat ys))
          | none => none) none
      | _, _, _ => none
    | none => none
  | _ => none
theorem flat_one {es : List V} (h : ∀ e ∈ es, e.cells.all V.one = true) : (flat es).all V.one = true := by
  rw [List.all_eq_true]
  intro c hc
  obtain ⟨e, he, hce⟩ := List.mem_flatMap.1 hc
  exact List.all_eq_true.1 (h e he) c hce
theorem vals_of {zs : List V} (ho : zs.all V.one = true) : ∀ (l : List Value), (∀ r ∈ l, ∃ c ∈ zs, ∀ G : Ghost, VRel G c r) → ∃ tl : List V, tl.length = l.length ∧ tl.all V.one = true ∧ ∀ G : Ghost, ∀ (i : Nat) (c : V) (r : Value), tl[i]? = some c → l[i]? = some r → VRel G c r
  | [], _ => ⟨[], rfl, rfl, fun G i c r h => by cases h⟩
  | r :: l, h => by
    obtain ⟨c, hc, hr⟩ := h r (List.mem_cons_self ..)
    obtain ⟨tl, h1, h2, h3⟩ := vals_of ho l fun r hr => h r (List.mem_cons_of_mem _ hr)
    refine ⟨c :: tl, by simp [h1], by simp [h2, List.all_eq_true.1 ho c hc], fun G i d s hd hs => ?_⟩
    cases i with
    | zero => cases hd; cases hs; exact hr G
    | succ i => exact h3 G i d s (by simpa using hd) (by simpa using hs)
theorem del_set (σ : Hp) (g : Nat) (b : Blk) : (σ.del g).set g b = σ.set g b := by
  apply Hp.ext'; intro i; simp only [Hp.get_set, Hp.get_del]; split <;> rfl
theorem sound_appendB (hI : Inv X G σ w) {t t2 ty : Nat} {x y : V} {r u : Value} (hx : VRel G x r) (hy : VRel G y u) {e : Eff} (h : mAppendB P σ t t2 x y = some e) :
    Snd P X G σ w (do pure (.value (← Builtin.append_ #[t, t2] ty #[r, u]))) e := by
  unfold mAppendB at h
  split at h
  case h_2 => cases h
  rename_i g len cap sz
  split at h
  case h_2 => cases h
  rename_i el hel
  have hu := elemT_spec hel
  split at h
  case h_2 => cases h
  rename_i n bytes zs hsz hby hz
  cases hq : (notInt P t2 && Nat.ble 1 bytes && Nat.beq zs.length n && Nat.beq sz n && zs.all V.one) with
  | false => rw [hq] at h; cases h
  | true =>
    rw [hq, cond_true] at h
    simp only [Bool.and_eq_true] at hq
    obtain ⟨⟨⟨⟨q1, q2⟩, q3⟩, q4⟩, q5⟩ := hq
    have hb0 := Nat.le_of_ble_eq_true q2
    have hzl := Nat.eq_of_beq_eq_true q3
    have hsn := Nat.eq_of_beq_eq_true q4
    subst hsn
    split at h
    case h_2 => cases h
    rename_i ys hys
    cases h
    refine Snd.app fun ⟨p1, p2, p3, p4⟩ => ?_
    cases hx with | bs _ _ _ _ _ a hlc hb =>
    obtain ⟨⟨s1, so⟩, s2, new, s3, s4⟩ := src_ok (P := P) hI hy hys p1
    have hnl : new.toList.length = ys.length * sz := by rw [Array.length_toList, s4.1, flat_length s1]
    -- what lies there
    have old : len * sz ≤ (cellsAt σ g).length := by rw [p4]; exact Nat.mul_le_mul_right _ hlc
    have hcells : isCells (σ.get g) → ∃ cs, σ.get g = some (.cells cs) ∧ cellsAt σ g = cs := fun hc => by
      unfold isCells at hc
      unfold cellsAt
      split at hc
      · rename_i cs hg; exact ⟨cs, hg, by simp [hg]⟩
      · exact hc.elim
    by_cases hfit : len + ys.length ≤ cap
    · have hcl : isCells (σ.get g) := by
        rcases p3 with p3 | ⟨p3, p5⟩
        · exact p3
        · omega
      obtain ⟨cs, hg, hcs⟩ := hcells hcl
      rw [hcs] at p4 old ⊢
      by_cases hc0 : cap = 0
      · subst hc0
        have hl0 : len = 0 := by omega
        have hy0 : ys = [] := List.eq_nil_of_length_eq_zero (by omega)
        subst hl0; subst hy0
        have hn0 : new = #[] := Array.eq_empty_of_size_eq_zero (by simpa [flat] using s4.1)
        subst hn0
        have hrun := run_append_fits (P := P) (w := w) (w' := w) hu q1 hsz (a := a) (len := 0) (cap := 0) s2 s3 (by simp) ty (fun b _ => by simp [storeCells]) (fun _ => rfl)
        have hnil : cs = [] := List.eq_nil_of_length_eq_zero (by simpa using p4)
        subst hnil
        refine ⟨g, 0, [], _, w, G, .inl rfl, by simp, by simp, val_of hrun, Ghost.Le.refl _, ?_, .bs _ _ _ _ _ a (by simp) (.inl rfl)⟩
        rw [del_set]
        have : (List.take (0 * sz) ([] : List V) ++ flat []) ++ [] = [] := by simp [flat]
        rw [this, Hp.set_same hg]
        exact hI
      · obtain ⟨b, hb1, hb2⟩ := hb.resolve_left hc0
        subst hb2
        obtain ⟨b', rs0, e0, k1, k2, k3, k4, k5⟩ := hI.blk g _ hg
        rw [hb1] at k1; cases k1
        have hone : ∀ v ∈ new.toList, v.oneCell' = true := fun v hv => by
          obtain ⟨i, hi⟩ := List.getElem?_of_mem hv
          have hlt : i < (flat ys).length := by rw [← s4.1]; simpa using (List.getElem?_eq_some_iff.1 hi).1
          have hr := s4.2 i _ (List.getElem?_eq_getElem hlt)
          have e1 : new.getD i undef = v := by
            have : new[i]? = some v := by simpa using hi
            simp [this]
          rw [e1] at hr
          obtain ⟨z, hz1, hz2⟩ := List.mem_flatMap.1 (List.getElem_mem hlt)
          exact hr.oneCell (List.all_eq_true.1 (so z hz1) _ hz2)
        have hfl : (flat ys).length = ys.length * sz := flat_length s1
        have hsum : len * sz + ys.length * sz ≤ cap * sz := by rw [← Nat.add_mul]; exact Nat.mul_le_mul_right _ hfit
        obtain ⟨w', z1, z2, z3, z4, z5⟩ := run_storeCells P b (len * sz) e0 new.toList 0 w rs0 k2 (by rw [hnl, Nat.add_zero, k3.1.1, p4]; exact hsum) hone
        rw [Nat.add_zero] at z3
        have hrun := run_append_fits (P := P) (w := w) (w' := w') hu q1 hsz (a := some ⟨b, 0, none⟩) s2 s3 hfit ty (fun b2 hb2 => by cases hb2; rw [add_none, Nat.zero_add]; exact z1) (fun h0 => by cases h0)
        have hput : putL cs (len * sz) (flat ys) = (cs.take (len * sz) ++ flat ys) ++ cs.drop (len * sz + (flat ys).length) := putL_at (by rw [hfl, p4]; exact hsum)
        refine ⟨g, cap, cs.drop (len * sz + (flat ys).length), _, w', G, .inl rfl, hfit, ?_, val_of hrun, Ghost.Le.refl _, ?_, .bs _ _ _ _ _ _ hfit (.inr ⟨b, hb1, rfl⟩)⟩
        · rw [List.length_drop, p4, hfl, ← Nat.add_mul, ← Nat.mul_sub_right_distrib]
        · rw [del_set, ← hput]
          refine hI.change hg hb1 (fun _ _ => by simp) (fun _ _ => by simp) k4 z2 ⟨b, _, e0, hb1, z3, ⟨?_, one_putL k3.2 (flat_one so)⟩, k4, k5⟩ z5
          exact k3.1.splice (len * sz) (by simpa using s4.1) (fun i c hi => by have := s4.2 i c hi; simpa using this)
    · have hold : ∃ old : Array Value, (Builtin.firstCells sz len (.slice a len cap)).run P w.drew = .ok old w.drew ∧ Rows2 G ((cellsAt σ g).take (len * sz)) old := by
        by_cases hc0 : cap = 0
        · have hl0 : len = 0 := by omega
          subst hl0
          refine ⟨#[], ?_, by simp, fun i c hi => by simp at hi⟩
          cases a <;> simp [Builtin.firstCells, loadCells, loadCellsFrom]
        · obtain ⟨b, hb1, hb2⟩ := hb.resolve_left hc0
          subst hb2
          obtain ⟨cs, hg, hcs⟩ := hcells (by rcases p3 with p3 | p3; exact p3; exact absurd p3.1 hc0)
          obtain ⟨b', hb', hrow⟩ := row_ptr hI.drew hg
          rw [hb1] at hb'; cases hb'
          rw [hcs] at old ⊢
          exact firstCells_row (hrow.take (len * sz)) (by simp; omega)
      obtain ⟨oldr, o1, o2⟩ := hold
      obtain ⟨new', n1, n2⟩ := src_drew (P := P) hI hy hys p1
      obtain ⟨rest, r1, r2, r3, r4⟩ := run_append_grows (P := P) hu q1 hsz hby hb0 hz hzl p2 s2 n1 o1 hfit ty
      obtain ⟨tl, t1, t2', t3⟩ := vals_of q5 rest.toList (fun r hr => by
        obtain ⟨i, hi⟩ := List.getElem?_of_mem hr
        exact r3 i r (by simpa using hi))
      obtain ⟨g', g1, g2, g3⟩ := hI.fresh
      have hrows : Rows1 G (((cellsAt σ g).take (len * sz) ++ flat ys) ++ tl) (oldr ++ new' ++ rest) := by
        refine ⟨(o2.append n2).append ⟨by rw [t1]; simp, fun i c hi => ?_⟩, ?_⟩
        · have hlt : i < rest.size := by have := (List.getElem?_eq_some_iff.1 hi).1; rw [t1] at this; simpa using this
          exact t3 G i c _ hi (by simp [hlt])
        · rw [List.all_append, List.all_append, t2', flat_one so]
          simp only [Bool.and_true]
          rw [List.all_eq_true]
          intro c hc
          have hc' := List.mem_of_mem_take hc
          unfold cellsAt at hc'
          split at hc'
          · rename_i cs hg
            obtain ⟨_, _, _, _, _, k3, _⟩ := hI.blk g _ hg
            exact List.all_eq_true.1 k3.2 c hc'
          · cases hc'
      obtain ⟨le, hI'⟩ := hI.drew.alloc_cells g1 g2 g3 el hrows
      refine ⟨g', grownCap w (len + ys.length) cap el, tl, _, _, _, .inr g3, r2, ?_, val_of r4, le, hI'.sub fun i k hk => ?_, .bs _ _ _ _ _ _ r2 (.inr ⟨_, by simp [Ghost.setBl], rfl⟩)⟩
      · rw [t1]; simpa using r1
      · rw [Hp.get_set] at hk ⊢
        split at hk
        · rw [if_pos ‹_›]; exact hk
        · rw [if_neg ‹_›]
          rw [Hp.get_del] at hk
          split at hk
          · cases hk
          · exact hk
end Go.Vm
/- Vm: append of so many noughts to bytes (append(s, make([]byte, n)...) as the model has it). -/
namespace Go.Vm
variable {X : Ext} {G H G0 : Ghost} {σ : Hp} {w : World} {P : Program}
def zb (n : Nat) : ByteArray := ⟨(List.replicate n 0).toArray⟩
theorem zb_size (n : Nat) : (zb n).size = n := by simp [zb, ByteArray.size]
theorem zb_first (n : Nat) : (((zb n).extract 0 n).data.map fun b => Value.int .u8 b.toNat) = Array.replicate n (.int .u8 0) := by
  have : (zb n).extract 0 n = zb n := by
    have h := ByteArray.extract_zero_size (b := zb n)
    rwa [zb_size] at h
  rw [this]
  simp [zb]
theorem zero_u8 {e : TypeId} (h : zeroT P e = some [.int .u8 0]) : ∃ z : Value, z.cells = #[.int .u8 0] ∧ ∀ w : World, (zeroValue e).run P w = .ok z w := by
  unfold zeroT at h
  cases hi : P.info? e with
  | none => simp [hi] at h
  | some i =>
    cases hz : i.zero with
    | none => simp [hi, hz] at h
    | some v =>
      simp [hi, hz] at h
      have hr : Rows2 ⟨fun _ => [], fun _ => none, fun _ => none⟩ [V.int .u8 0] v.cells := by
        obtain ⟨c, hc1, hc2⟩ := h
        have := cells_rel ⟨fun _ => [], fun _ => none, fun _ => none⟩ v.cells
        rw [hc1] at this
        rw [← hc2]; exact this
      refine ⟨v, ?_, fun w => by simp [zeroValue, run_inf hi, hz]⟩
      have h1 : v.cells.size = 1 := hr.1
      have h2 := hr.2 0 (.int .u8 0) rfl
      apply Array.ext
      · exact h1
      · intro j hj1 hj2
        have : j = 0 := by omega
        subst this
        have e1 : v.cells.getD 0 undef = v.cells[0] := by simp [hj1]
        rw [e1] at h2
        generalize v.cells[0] = q at h2
        cases h2
        rfl
theorem zcells (n : Nat) : Builtin.zeroCells #[.int .u8 0] n = Array.replicate n (.int .u8 0) := by
  unfold Builtin.zeroCells
  apply Array.ext
  · simp
  · intro i h1 h2
    simp at h1
    simp [Nat.mod_one]
theorem run_zeros {t t2 e : TypeId} {kk k : IntKind} {n len cap : Nat} {a : Option Addr} {ty : TypeId} (ht : P.underlying t = some (.slice e)) (ht2 : P.underlying t2 = some (.int kk)) (hsz : szT P e = some 1) (hby : bytesT P e = some 1) (hz : zeroT P e = some [.int .u8 0]) (hroom : len + n ≤ 140737488355328) (w : World) :
    (Builtin.append_ #[t, t2] ty #[.slice a len cap, .int k n]).run P w = (Builtin.append_ #[t, t] ty #[.slice a len cap, .string (zb n)]).run P w := by
  obtain ⟨i, hi, hib⟩ : ∃ i, P.info? e = some i ∧ i.bytes = 1 := by
    unfold bytesT at hby
    cases hi : P.info? e with
    | none => simp [hi] at hby
    | some i => simp [hi] at hby; exact ⟨i, rfl, hby⟩
  obtain ⟨z, hzc, hzr⟩ := zero_u8 hz
  have hcap : ¬ len + n ≤ cap → ¬ (Builtin.nextslicecap (len + n) cap * i.bytes > 2 ^ 48) := fun hg => by
    have := growslice_fits (need := len + n) (old := cap) (bytes := 1) (by omega) (by omega)
    rw [hib]; omega
  have hnb : ¬ ((i.bytes = 0)) := by omega
  have hwrap : IntKind.i64.wrap (n : Int) = n := by rw [IntKind.wrap_i64]; omega
  have hneg : ¬ ((n : Int) < 0) := by omega
  have hbig : ¬ ((n : Int) * (i.bytes : Nat) > 2 ^ 48) := by rw [hib]; omega
  have hmax : ¬ (((len + n : Nat) : Int) > IntKind.i64.max) := by show ¬ (_ > (9223372036854775807 : Int)); omega
  have ha : ∀ w' : World, (if n * 1 = 0 then Result.ok #[] w' else (Sem.run P (zeroValue e) w').andThen fun a w'' => Result.ok (Builtin.zeroCells a.cells n) w'') = .ok (Array.replicate n (.int .u8 0)) w' := fun w' => by
    by_cases h0 : n * 1 = 0
    · have : n = 0 := by omega
      subst this
      simp
    · rw [if_neg h0, hzr, Result.andThen_ok, hzc, zcells]
  have hb : ∀ w' : World, (Builtin.firstCells 1 n (.string (zb n))).run P w' = .ok (Array.replicate n (.int .u8 0)) w' := fun w' => by
    show (pure _ : Sem _).run P w' = _
    rw [zb_first]; rfl
  unfold Builtin.append_
  simp only [List.getElem?_toArray, List.getElem?_cons_zero, List.getElem?_cons_succ, Sem.run_bind, run_und ht, run_und ht2, Result.andThen_ok, run_sz hsz, Sem.run_pure, if_true, Bool.not_true, Bool.not_false, Bool.false_eq_true, if_false, asInt, asIntOf, hwrap, run_inf hi, Sem.run_ite, hneg, hbig, Int.toNat_natCast, Builtin.lenOf, zb_size, ha, hb, hnb, or_false, true_or, hmax, false_and, and_true, and_false]
  by_cases hfit : len + n ≤ cap
  · simp only [hfit, if_true, Sem.run_bind, ha, hb]
  · simp only [hfit, if_false, Sem.run_bind, Sem.run_ite, hcap hfit, ha, hb, run_inf hi, Sem.run_pure, Result.andThen_ok, hmax]
def Eff.also (q : Prop) : Eff → Eff
  | .val p v => .val (q ∧ p) v
  | .new p k v => .new (q ∧ p) k v
  | .set p g k v => .set (q ∧ p) g k v
  | .any p g l d => .any (q ∧ p) g l d
  | .app p g m n pre => .app (q ∧ p) g m n pre
theorem also_ap {q : Prop} {e : Eff} {K : V → Hp → Prop} : (e.also q).ap σ K ↔ q ∧ e.ap σ K := by
  cases e <;> simp [Eff.also, Eff.ap, and_assoc]
def byteE (P : Program) (t : TypeId) : Bool := match elemT P t with
  | some e => (match szT P e with | some n => Nat.beq n 1 | none => false) && (match bytesT P e with | some n => Nat.beq n 1 | none => false) && (match zeroT P e with | some [.int .u8 0] => true | _ => false)
  | none => false
def intT (P : Program) (t : TypeId) : Bool := match P.underlying t with
  | some (.int _) => true
  | _ => false
def mAppendZ (P : Program) (plain : Bool) (σ : Hp) (t t2 : TypeId) (x : V) (n : Int) : Option Eff :=
  match x with
  | .sl sz es tag => cond (byteE P t && intT P t2) (match mAppend P plain σ t t x (.str (zb n.toNat)) with
    | some e => some (e.also (0 ≤ n ∧ es.length + n.toNat ≤ 140737488355328))
    | none => none) none
  | _ => none
theorem sound_appendZ (hI : Inv X G σ w) {plain : Bool} {t t2 ty : Nat} {x : V} {k : IntKind} {n : Int} {r : Value} (hx : VRel G x r) {e : Eff} (h : mAppendZ P plain σ t t2 x n = some e) :
    Snd P X G σ w (do pure (.value (← Builtin.append_ #[t, t2] ty #[r, .int k n]))) e := by
  unfold mAppendZ at h
  split at h
  · rename_i sz es tag
    cases hc : (byteE P t && intT P t2) with
    | false => rw [hc] at h; cases h
    | true =>
      rw [hc, cond_true] at h
      cases hm : mAppend P plain σ t t (.sl sz es tag) (.str (zb n.toNat)) with
      | none => rw [hm] at h; cases h
      | some e' =>
        rw [hm] at h; cases h
        rw [Bool.and_eq_true] at hc
        obtain ⟨hb, hi⟩ := hc
        intro K hK
        rw [also_ap] at hK
        obtain ⟨⟨h0, hl⟩, hK⟩ := hK
        obtain ⟨nx, r', w', v, σ', G', s1, s2⟩ := sound_append (ty := ty) hI hx (.str (zb n.toNat)) hm K hK
        refine ⟨nx, r', w', v, σ', G', ?_, s2⟩
        rw [← s1]
        obtain ⟨a, cap, rfl, _⟩ := sl_len hx
        unfold byteE at hb
        cases hel : elemT P t with
        | none => rw [hel] at hb; cases hb
        | some el =>
          rw [hel] at hb
          simp only [Bool.and_eq_true] at hb
          obtain ⟨⟨b1, b2⟩, b3⟩ := hb
          have c1 : szT P el = some 1 := by
            cases hs : szT P el with
            | none => rw [hs] at b1; cases b1
            | some m => rw [hs] at b1; rw [Nat.eq_of_beq_eq_true b1]
          have c2 : bytesT P el = some 1 := by
            cases hs : bytesT P el with
            | none => rw [hs] at b2; cases b2
            | some m => rw [hs] at b2; rw [Nat.eq_of_beq_eq_true b2]
          have c3 : zeroT P el = some [.int .u8 0] := by
            split at b3
            · assumption
            · cases b3
          unfold intT at hi
          cases hu : P.underlying t2 with
          | none => rw [hu] at hi; cases hi
          | some d =>
            cases d <;> simp [hu] at hi
            rename_i kk
            obtain ⟨m, rfl⟩ := Int.eq_ofNat_of_zero_le h0
            have := run_zeros (P := P) (k := k) (a := a) (len := es.length) (cap := cap) (ty := ty) (n := m) (elemT_spec hel) hu c1 c2 c3 (by simpa using hl) w
            rw [Sem.run_bind, Sem.run_bind, this]
            rfl
  · cases h
end Go.Vm
/- Vm, part 13: any operation that is no call of a Go function. -/
namespace Go.Vm
variable {X : Ext} {G H G0 : Ghost} {σ : Hp} {w : World} {P : Program}
def mUn (op : UnOp) (x : V) : Option Eff :=
  match op, x with
  | .neg, .int k n => some (.val True (.int k (k.wrap (0 - n))))
  | .not, .bool b => some (.val True (.bool (!b)))
  | .xor, .int k n => some (.val True (.int k (k.wrap (BitVec.ofInt k.bits (if k.signed then -1 else k.max) ^^^ BitVec.ofInt k.bits n).toNat)))
  | _, _ => none
theorem sound_un (hI : Inv X G σ w) {op : UnOp} {x : V} {r : Value} (hx : VRel G x r) {e : Eff} (h : mUn op x = some e) : Snd P X G σ w (do pure (.value (← Op.unary op r))) e := by
  unfold mUn at h
  split at h
  · cases h; cases hx
    exact snd_same hI fun _ => ⟨_, rfl, .int _ _⟩
  · cases h; cases hx
    exact snd_same hI fun _ => ⟨_, rfl, .bool _⟩
  · cases h; cases hx
    exact snd_same hI fun _ => ⟨_, rfl, .int _ _⟩
  · cases h
def concT (P : Program) (t : TypeId) : Bool :=
  match P.underlying t with
  | some (.interface _) => false
  | some _ => true
  | none => false
def mIfc (P : Program) (t : TypeId) (x : V) : Option Eff := cond (concT P t) (some (.val True (.ifc t x))) none
theorem sound_ifc (hI : Inv X G σ w) {t : Nat} {x : V} {r : Value} (hx : VRel G x r) {e : Eff} (h : mIfc P t x = some e) : Snd P X G σ w (do pure (.value (← Instr.makeInterface t r))) e := by
  unfold mIfc at h
  cases hc : concT P t with
  | false => rw [hc] at h; cases h
  | true =>
    rw [hc] at h; cases h
    unfold concT at hc
    refine snd_same hI fun _ => ⟨.iface t r, ?_, .ifc t x r hx⟩
    cases hu : P.underlying t with
    | none => simp [hu] at hc
    | some d => cases d <;> simp [hu] at hc <;> simp [Instr.makeInterface, run_und hu]
def mFunc (env : Env) (fn : Fn) (first caps : Array Operand) : Option Eff :=
  match fn with
  | .func f => cond first.isEmpty (some (.val True (.fn f (caps.toList.map (ev env))))) none
  | _ => none
theorem rows_map {env : Env} {a : Act} (h : ∀ t, VRel G (env.get t) (a.tmps.getD t undef)) (os : Array Operand) : Rows2 G (os.toList.map (ev env)) (os.map a.eval) := by
  refine ⟨by simp, fun i c hi => ?_⟩
  rw [List.getElem?_map] at hi
  cases ho : os[i]? with
  | none => simp [ho] at hi
  | some o =>
    simp [ho] at hi
    subst hi
    have : (os.map a.eval).getD i undef = a.eval o := by simp [ho]
    rw [this]; exact ev_rel h o
theorem pair_map {env : Env} {a : Act} (h : ∀ t, VRel G (env.get t) (a.tmps.getD t undef)) (ps : Array (Nat × Operand)) : Pair G (ps.toList.map fun p => (p.1, ev env p.2)) (ps.map fun (i, x) => (i, a.eval x)).toList := by
  refine ⟨by simp, fun i p q hp hq => ?_⟩
  simp only [Array.toList_map, List.getElem?_map] at hp hq
  cases ho : ps.toList[i]? with
  | none => rw [ho] at hp; cases hp
  | some o =>
    rw [ho] at hp hq; cases hp; cases hq
    exact ⟨rfl, ev_rel h o.2⟩
theorem bnd_map {env : Env} {a : Act} (h : ∀ t, VRel G (env.get t) (a.tmps.getD t undef)) (o : Option Operand) : Bnd G (o.map (ev env)) (o.map a.eval) := by
  cases o with
  | none => exact .no
  | some o => exact .yes _ _ (ev_rel h o)
theorem mAppend_plain {t t2 : Nat} {x y : V} {e : Eff} (h : mAppend P true Hp.empty t t2 x y = some e) (σ : Hp) : mAppend P true σ t t2 x y = some e := by
  have hs : ∀ n ys, srcOf Hp.empty n y = some ys → srcOf σ n y = some ys ∧ srcP σ y = srcP Hp.empty y := by
    intro n ys hy
    cases y <;> first | (cases hy; done) | exact ⟨hy, rfl⟩
  unfold mAppend at h ⊢
  cases he : elemT P t with
  | none => simp [he] at h
  | some e' =>
    cases h1 : szT P e' with
    | none => simp [he, h1] at h
    | some n =>
      cases h2 : bytesT P e' with
      | none => simp [he, h1, h2] at h
      | some b =>
        cases h3 : zeroT P e' with
        | none => simp [he, h1, h2, h3] at h
        | some zs =>
          simp only [he, h1, h2, h3] at h ⊢
          cases hc : (notInt P t2 && Nat.ble 1 b && Nat.beq zs.length n) with
          | false => rw [hc] at h; cases h
          | true =>
            rw [hc] at h
            simp only [cond_true] at h ⊢
            cases hy : srcOf Hp.empty n y with
            | none => simp only [hy] at h; cases h
            | some ys =>
              simp only [hy] at h
              obtain ⟨k1, k2⟩ := hs n ys hy
              simp only [k1]
              cases x <;> try (cases h; done)
              rename_i sz es tag
              cases tag <;> try (cases h; done)
              simp only [cond_true] at h ⊢
              rw [k2]; exact h
theorem mAppendZ_plain {t t2 : Nat} {x : V} {n : Int} {e : Eff} (h : mAppendZ P true Hp.empty t t2 x n = some e) (σ : Hp) : mAppendZ P true σ t t2 x n = some e := by
  unfold mAppendZ at h ⊢
  split at h
  · cases hc : (byteE P t && intT P t2) with
    | false => rw [hc] at h; cases h
    | true =>
      rw [hc, cond_true] at h
      simp only [cond_true]
      split at h
      · rename_i e' hm
        rw [mAppend_plain hm σ]; exact h
      · cases h
  · cases h
def mBuiltin (P : Program) (plain : Bool) (σ : Hp) (b : Builtin) (ts : List TypeId) (vs : List V) : Option Eff :=
  match b, ts, vs with
  | .len, [t], [x] => mLen P σ t x
  | .append, [t, t2], [x, y] => cond (intT P t2) (match y with
    | .int _ n => cond plain (mAppendZ P true Hp.empty t t2 x n) (mAppendZ P false σ t t2 x n)
    | _ => none) (cond plain (mAppend P true Hp.empty t t2 x y) (match mAppendB P σ t t2 x y with
    | some e => some e
    | none => mAppend P false σ t t2 x y))
  | .copy, [t, t2], [x, y] => mCopy P σ t x y
  | .max, _, [x, y] => mMinMax true x y
  | .min, _, [x, y] => mMinMax false x y
  | _, _, _ => none
def memN (d : Nat) : List Nat → Bool
  | [] => false
  | x :: l => if x = d then true else memN d l
def plainAt (L : List Nat) : Option Tmp → Bool
  | some d => memN d L
  | none => false
/-- An append by a token, or to nothing. -/
def mTok (P : Program) (σ : Hp) (ts : List TypeId) (vs : List V) : Option Eff :=
  match ts, vs with
  | [t, t2], [x, y] => mAppend P false σ t t2 x y
  | _, _ => none
def tokAt (L : List Nat) : Option Tmp → Bool
  | some d => memN (d + 3000000) L
  | none => false
/-- A load of a block of two cells or more, that calls which only change single cells leave alone. -/
def mLoadK (P : Program) (σ : Hp) (t : TypeId) (x : V) : Option Eff :=
  match x with
  | .ptr g _ => match mLoad P σ t x with
    | some e => some (e.also (2 ≤ (cellsAt σ g).length))
    | none => none
  | _ => none
def readkAt (L : List Nat) : Option Tmp → Bool
  | some d => memN (d + 1000000) L
  | none => false
theorem Snd.also {s : Sem Next} {e : Eff} (h : Snd P X G σ w s e) (q : Prop) : Snd P X G σ w s (e.also q) := fun K hK => h K (also_ap.1 hK).2
/-- What an operation comes to. (L: appends that want no token; loads of what is frozen.) -/
def mop (P : Program) (L : List Nat) (env : Env) (σ : Hp) (o : Oper) : Option Eff :=
  match o.op with
  | .move x => some (.val True (ev env x))
  | .assign x => some (.val True (ev env x))
  | .pick c a b => mPick (ev env c) (ev env a) (ev env b)
  | .alloc t => mAlloc P t
  | .box _ x => mBox (ev env x)
  | .build t ps => match arrT P t with
    | some _ => mBuildArr P t (ps.toList.map fun p => (p.1, ev env p.2))
    | none => mBuild P t (ps.toList.map fun p => (p.1, ev env p.2))
  | .buildSlice t n ps => cond (plainAt L o.dst) (mBuildTok P t n (ps.toList.map fun p => (p.1, ev env p.2))) (mBuildSlice P t n (ps.toList.map fun p => (p.1, ev env p.2)))
  | .load t x => cond (plainAt L o.dst) (mLoad P Hp.empty t (ev env x)) (cond (readkAt L o.dst) (mLoadK P σ t (ev env x)) (mLoad P σ t (ev env x)))
  | .store t x v => mStore P σ t (ev env x) (ev env v)
  | .nilCheck x => mNil (ev env x)
  | .binOp op t x y _ => mBin P op t (ev env x) (ev env y)
  | .unOp op _ x => mUn op (ev env x)
  | .convert s d x => mConv P s d σ (ev env x)
  | .makeInterface t x => mIfc P t (ev env x)
  | .makeFunc fn first caps => mFunc env fn first caps
  | .makeSlice t l c => mMake P t (ev env l) (ev env c)
  | .slice t x lo hi mx => mSlice P t (ev env x) (lo.map (ev env)) (hi.map (ev env)) (mx.map (ev env))
  | .fieldAddr s x f => mFieldAddr P s (ev env x) f
  | .field s x f => mField P s (ev env x) f
  | .indexAddr t x i => mIndexAddr P t (ev env x) (ev env i)
  | .index t x i => mIndex P t (ev env x) (ev env i)
  | .extract x i => mExtract (ev env x) i
  | .makeMap t r => mMakeMap t (r.map (ev env))
  | .lookup t x k ok => mLookup P σ t (ev env x) (ev env k) ok
  | .mapUpdate t m k x => mMapUpdate P σ t (ev env m) (ev env k) (ev env x)
  | .range t x => mRange P σ t (ev env x)
  | .next it s => mNext σ (ev env it) s
  | .entry it => mEntry σ (ev env it)
  | .call c => match c.callee with
    | .builtin .append => cond (tokAt L o.dst) (mTok P σ c.argTypes.toList (c.args.toList.map (ev env))) (mBuiltin P (plainAt L o.dst) σ .append c.argTypes.toList (c.args.toList.map (ev env)))
    | .builtin b => mBuiltin P (plainAt L o.dst) σ b c.argTypes.toList (c.args.toList.map (ev env))
    | _ => none
  | _ => none
theorem list1 {α β : Type} {f : α → β} {l : List α} {x : β} (h : l.map f = [x]) : ∃ a, l = [a] ∧ f a = x := by
  cases l with
  | nil => simp at h
  | cons a l => cases l with
    | nil => simp at h; exact ⟨a, rfl, h⟩
    | cons b l => simp at h
theorem list2 {α β : Type} {f : α → β} {l : List α} {x y : β} (h : l.map f = [x, y]) : ∃ a b, l = [a, b] ∧ f a = x ∧ f b = y := by
  cases l with
  | nil => simp at h
  | cons a l => cases l with
    | nil => simp at h
    | cons b l => cases l with
      | nil => simp at h; exact ⟨a, b, rfl, h⟩
      | cons c l => simp at h
theorem builtin_sound (hI : Inv X G σ w) {L : List Nat} {env : Env} {a : Act} (hv : ∀ t, VRel G (env.get t) (a.tmps.getD t undef)) {dst : Option Tmp} {b : Builtin} {args : Array Operand} {ats : Array TypeId} {ty : TypeId} {pos : String} {after : Array Edge} {guard : Option (Nat × Bool)} {e : Eff}
    (h : mBuiltin P (plainAt L dst) σ b ats.toList (args.toList.map (ev env)) = some e) : Snd P X G σ w (execOp a.eval ⟨dst, .call ⟨.builtin b, args, ats⟩, ty, pos, after, guard⟩) e := by
  have ha : args = args.toList.toArray := by simp
  have ht : ats = ats.toList.toArray := by simp
  generalize ats.toList = tl at h ht
  unfold mBuiltin at h
  split at h
  · obtain ⟨o1, e1, e2⟩ := list1 ‹_ = _›
    rw [e1] at ha; subst ha; subst ht; subst e2
    have key := sound_len (P := P) hI (ev_rel hv o1) h (ty := ty)
    simpa [execOp, resolve, invoke, builtin] using key
  · obtain ⟨o1, o2, e1, e2, e3⟩ := list2 ‹_ = _›
    rw [e1] at ha; subst ha; subst ht; subst e2; subst e3
    rename_i t1 t2 _
    cases hit : intT P t2 with
    | true =>
      rw [hit, cond_true] at h
      split at h
      · rename_i kk nn hnn
        have h2 := ev_rel hv o2
        rw [hnn] at h2
        have h3 : mAppendZ P (plainAt L dst) σ t1 t2 (ev env o1) nn = some e := by
          cases hpl : plainAt L dst with
          | true => rw [hpl, cond_true] at h; exact mAppendZ_plain h σ
          | false => rw [hpl, cond_false] at h; exact h
        have key := sound_appendZ (P := P) (k := kk) hI (ev_rel hv o1) h3 (ty := ty)
        have h4 : a.eval o2 = .int kk nn := by
          revert h2; generalize a.eval o2 = u2; intro h2; cases h2; rfl
        simpa [execOp, resolve, invoke, builtin, h4] using key
      · cases h
    | false =>
    rw [hit, cond_false] at h
    cases hpl : plainAt L dst with
    | true =>
      rw [hpl, cond_true] at h
      have key := sound_append (P := P) hI (ev_rel hv o1) (ev_rel hv o2) (mAppend_plain h σ) (ty := ty)
      simpa [execOp, resolve, invoke, builtin] using key
    | false =>
    rw [hpl, cond_false] at h
    split at h
    · cases h
      have key := sound_appendB (P := P) hI (ev_rel hv o1) (ev_rel hv o2) ‹_ = _› (ty := ty)
      simpa [execOp, resolve, invoke, builtin] using key
    · have key := sound_append (P := P) hI (ev_rel hv o1) (ev_rel hv o2) h (ty := ty)
      simpa [execOp, resolve, invoke, builtin] using key
  · rename_i t1 t2 x1 y1 _
    obtain ⟨o1, o2, e1, e2, e3⟩ := list2 ‹_ = _›
    rw [e1] at ha; subst ha; subst ht; subst e2; subst e3
    have key := sound_copy (P := P) (t2 := t2) hI (ev_rel hv o1) (ev_rel hv o2) h (ty := ty)
    simpa [execOp, resolve, invoke, builtin] using key
  · obtain ⟨o1, o2, e1, e2, e3⟩ := list2 ‹_ = _›
    rw [e1] at ha; subst ha; subst ht; subst e2; subst e3
    have key := sound_max (P := P) (ts := #[]) hI (ev_rel hv o1) (ev_rel hv o2) h (ty := ty)
    simpa [execOp, resolve, invoke, builtin, Builtin.max_] using key
  · obtain ⟨o1, o2, e1, e2, e3⟩ := list2 ‹_ = _›
    rw [e1] at ha; subst ha; subst ht; subst e2; subst e3
    have key := sound_min (P := P) (ts := #[]) hI (ev_rel hv o1) (ev_rel hv o2) h (ty := ty)
    simpa [execOp, resolve, invoke, builtin, Builtin.min_] using key
  · cases h
theorem mop_sound (hI : Inv X G σ w) {L : List Nat} {env : Env} {a : Act} (hv : ∀ t, VRel G (env.get t) (a.tmps.getD t undef)) {o : Oper} {e : Eff} (h : mop P L env σ o = some e) : Snd P X G σ w (execOp a.eval o) e := by
  obtain ⟨dst, op, ty, pos, after, guard⟩ := o
  cases op <;> simp only [mop] at h
  case move x => cases h; exact Snd.pure hI fun _ => ⟨_, rfl, ev_rel hv x⟩
  case assign x => cases h; exact Snd.pure hI fun _ => ⟨_, rfl, ev_rel hv x⟩
  case pick c x y => exact sound_pick hI (ev_rel hv c) (ev_rel hv x) (ev_rel hv y) h
  case alloc t => exact sound_alloc hI h
  case box t x => exact sound_box hI (ev_rel hv x) h
  case build t ps =>
    split at h
    · exact sound_buildArr hI (pair_map hv ps) h
    · exact sound_build hI (pair_map hv ps) h
  case buildSlice t n ps =>
    cases hp : plainAt L dst with
    | false => rw [hp] at h; exact sound_buildSlice hI (pair_map hv ps) h
    | true => rw [hp] at h; exact sound_buildTok hI (pair_map hv ps) h
  case load t x =>
    cases hp : plainAt L dst with
    | false =>
      rw [hp, cond_false] at h
      cases hk : readkAt L dst with
      | false => rw [hk] at h; exact sound_load hI (ev_rel hv x) h
      | true =>
        rw [hk, cond_true] at h
        unfold mLoadK at h
        split at h
        · rename_i g o hxe
          split at h
          · rename_i e' he
            cases h
            have hx := ev_rel hv x
            exact (sound_load hI hx he).also _
          · cases h
        · cases h
    | true =>
      rw [hp, cond_true] at h
      refine sound_load hI (ev_rel hv x) (e := e) ?_
      rw [← h]
      rcases mLoad_is h with ⟨g, o, hx⟩ | ⟨cs, hx⟩
      · rw [hx] at h
        unfold mLoad at h
        split at h <;> first | (simp only [Hp.get_empty] at h; cases h) | (rename_i hq; cases hq) | cases h
      · rw [hx]; unfold mLoad
        rcases szT P t with _ | m <;> rcases aggT P t with _ | b <;> try rfl
        cases b <;> rfl
  case store t x v => exact sound_store hI (ev_rel hv x) (ev_rel hv v) h
  case nilCheck x => exact sound_nil (o := ⟨dst, .nilCheck x, ty, pos, after, guard⟩) hI rfl (ev_rel hv x) h
  case binOp op t x y t' => exact sound_bin hI (ev_rel hv x) (ev_rel hv y) h
  case unOp op t x => exact sound_un hI (ev_rel hv x) h
  case convert s d x => exact sound_conv hI (ev_rel hv x) h
  case makeInterface t x => exact sound_ifc hI (ev_rel hv x) h
  case makeFunc fn first caps =>
    unfold mFunc at h
    split at h
    · rename_i f
      cases hc : first.isEmpty with
      | false => rw [hc] at h; cases h
      | true =>
        rw [hc] at h; cases h
        have hf : first = #[] := by simpa using hc
        subst hf
        have hr := rows_map hv caps
        exact Snd.pure hI fun _ => ⟨.func (.func f) #[] (caps.map a.eval), by simp [execOp, Instr.makeFunc], .fn f _ _ hr.1 hr.2⟩
    · cases h
  case makeSlice t l c => exact sound_make hI (ev_rel hv l) (ev_rel hv c) h
  case slice t x lo hi mx => exact sound_slice hI (ev_rel hv x) (bnd_map hv lo) (bnd_map hv hi) (bnd_map hv mx) h
  case fieldAddr s x f => exact sound_fieldAddr hI (ev_rel hv x) h
  case field s x f => exact sound_field hI (ev_rel hv x) h
  case indexAddr t x i => exact sound_indexAddr hI (ev_rel hv x) (ev_rel hv i) h
  case index t x i => exact sound_index hI (ev_rel hv x) (ev_rel hv i) h
  case extract x i => exact sound_extract hI (ev_rel hv x) h
  case makeMap t r => exact sound_makeMap hI (fun hr => by cases r <;> simp at hr ⊢) h
  case lookup t x k ok => exact sound_lookup hI (ev_rel hv x) (ev_rel hv k) h
  case mapUpdate t m k x => exact sound_mapUpdate hI (ev_rel hv m) (ev_rel hv k) (ev_rel hv x) h
  case range t x => exact sound_range hI (ev_rel hv x) h
  case next it s => exact sound_next (ty := ty) hI (ev_rel hv it) h
  case entry it => exact sound_entry hI (ev_rel hv it) h
  case call c =>
    split at h
    · rename_i hb
      obtain ⟨callee, args, ats⟩ := c
      simp only at hb h
      subst hb
      cases htk : tokAt L dst with
      | true =>
        rw [htk, cond_true] at h
        have ha : args = args.toList.toArray := by simp
        have ht : ats = ats.toList.toArray := by simp
        generalize ats.toList = tl at h ht
        unfold mTok at h
        split at h
        · obtain ⟨o1, o2, e1, e2, e3⟩ := list2 ‹_ = _›
          rw [e1] at ha; subst ha; subst ht; subst e2; subst e3
          have key := sound_append (P := P) hI (ev_rel hv o1) (ev_rel hv o2) h (ty := ty)
          simpa [execOp, resolve, invoke, builtin] using key
        · cases h
      | false =>
        rw [htk, cond_false] at h
        exact builtin_sound hI hv h
    · rename_i b _ hb
      obtain ⟨callee, args, ats⟩ := c
      simp only at hb h
      subst hb
      exact builtin_sound hI hv h
    · cases h
  all_goals cases h
end Go.Vm
/- Vm, part 14: triples for regions and code, contracts of functions. -/
namespace Go.Vm
variable {X : Ext} {G H G0 : Ghost} {σ : Hp} {w : World} {P : Program} {n : Nat} {env : Env} {a : Act}
/-- The state at hand, as it lies. -/
def St (X : Ext) (G0 : Ghost) (n : Nat) (env : Env) (σ : Hp) (a : Act) (w : World) : Prop :=
  ∃ G, G0.Le G ∧ Inv X G σ w ∧ a.tmps.size = n ∧ a.defers = [] ∧ ∀ t, VRel G (env.get t) (a.tmps.getD t undef)
/-- The triple: from whatever lies as told, the code comes to what is told. -/
def W (n : Nat) (P : Program) (c : Code) (Q : Exit → Env → Hp → Prop) (env : Env) (σ : Hp) : Prop :=
  ∀ X G0 a w, St X G0 n env σ a w → c.wp P (fun e a' w' => ∃ env' σ', Q e env' σ' ∧ St X G0 n env' σ' a' w') a w
def WL (n : Nat) (P : Program) (ops : Array Oper) (l : List Oper) (Q : Exit → Env → Hp → Prop) (env : Env) (σ : Hp) : Prop :=
  ∀ X G0 a w, St X G0 n env σ a w → wpList P ops (fun e a' w' => ∃ env' σ', Q e env' σ' ∧ St X G0 n env' σ' a' w') l a w
def okFn (P : Program) (f : FuncId) : Bool :=
  match P.funcs[f]? with
  | some fn => !(fn.name == "runtime.NumGoroutine") && fn.body.isSome
  | none => false
/-- A function's contract. -/
def Spec (P : Program) (f : FuncId) (args : List V) (σ : Hp) (Post : V → Hp → Prop) : Prop :=
  okFn P f = true ∧ ∀ X G rargs w, Inv X G σ w → Rows2 G args rargs →
    Calls P f rargs w fun e w' => ∃ rv v σ' G', e = .returned rv ∧ Post v σ' ∧ G.Le G' ∧ Inv X G' σ' w' ∧ VRel G' v rv
/-- A function that only computes: its result, whatever else there is. -/
def PSpec (P : Program) (f : FuncId) (args : List V) (r : V) : Prop :=
  okFn P f = true ∧ ∀ X G rargs w, Inv X G Hp.empty w → Rows2 G args rargs →
    Calls P f rargs w fun e w' => ∃ rv G', e = .returned rv ∧ G.Le G' ∧ Inv X G' Hp.empty w' ∧ VRel G' r rv
theorem BOk.keep2 {w' : World} {g : Nat} {k : Blk} (h : BOk X G w g k) (le : G.Le H) (hk : ∀ b, ownb G g k = some b → w'.heap[b]? = w.heap[b]? ∧ H.fz b = G.fz b)
    (ht : ∀ x, G.tk g = some x → H.tk g = some x) : BOk X H w' g k ∧ ownb H g k = ownb G g k := by
  cases k with
  | tok sz n =>
    have ht' : H.tk g = G.tk g := by
      obtain ⟨base, cap, h1, h2⟩ := h
      rw [h1]; exact ht _ h1
    exact ⟨h.keep le hk ht', ownb_keep h le ht'⟩
  | cells cs =>
    obtain ⟨b, rs, e, h1, h2, h3, h4, h5⟩ := h
    obtain ⟨k1, k2⟩ := hk b h1
    exact ⟨⟨b, rs, e, le.bl _ _ h1, k1.trans h2, h3.mono le, k2.trans h4, h5⟩, by simp only [ownb, h1, le.bl _ _ h1]⟩
  | map kv st clk =>
    obtain ⟨b, es, h1, h2, h3, h4, h5⟩ := h
    obtain ⟨k1, k2⟩ := hk b h1
    exact ⟨⟨b, es, le.bl _ _ h1, k1.trans h2, h3.mono le, k2.trans h4, h5⟩, by simp only [ownb, h1, le.bl _ _ h1]⟩
  | siter s p =>
    obtain ⟨b, h1, h2, h4, h5⟩ := h
    obtain ⟨k1, k2⟩ := hk b h1
    exact ⟨⟨b, le.bl _ _ h1, k1.trans h2, k2.trans h4, h5⟩, by simp only [ownb, h1, le.bl _ _ h1]⟩
  | miter m s l c =>
    obtain ⟨b, bm, h1, h2, h3, h4, h5⟩ := h
    obtain ⟨k1, k2⟩ := hk b h1
    exact ⟨⟨b, bm, le.bl _ _ h1, k1.trans h2, le.bl _ _ h3, k2.trans h4, h5⟩, by simp only [ownb, h1, le.bl _ _ h1]⟩
open Classical in
/-- What is ours, for a callee that has none of it. -/
noncomputable def Ext.all (X : Ext) (G : Ghost) (σ : Hp) (w : World) : Ext where
  b := fun b => if ∃ g k, σ.get g = some k ∧ ownb G g k = some b then (w.heap[b]?).map (·, G.fz b) else X.b b
  t := fun g => if (σ.get g).isSome then some (G.tk g) else X.t g
  os := X.os
  out := X.out
/-- Two heaps of names, side by side; the second goes first. -/
def Hp.join (σ τ : Hp) : Hp :=
  ⟨fun i => (τ.f i).or (σ.f i), by
    obtain ⟨n, hn⟩ := σ.fin
    obtain ⟨m, hm⟩ := τ.fin
    exact ⟨n + m, fun i hi => by rw [hn i (by omega), hm i (by omega)]; rfl⟩⟩
theorem Hp.get_join (σ τ : Hp) (g : Nat) : (σ.join τ).get g = (τ.get g).or (σ.get g) := rfl
theorem Hp.join_set (σ τ : Hp) (g : Nat) (b : Blk) : (σ.join τ).set g b = σ.join (τ.set g b) := by
  apply Hp.ext'; intro i; simp only [Hp.get_set, Hp.get_join]; split <;> rfl
theorem Hp.join_get {σ τ : Hp} {g : Nat} {b : Blk} (h : τ.get g = some b) : (σ.join τ).get g = some b := by rw [Hp.get_join, h]; rfl
theorem Hp.join_none {σ τ : Hp} {g : Nat} (h : (σ.join τ).get g = none) : σ.get g = none ∧ τ.get g = none := by
  rw [Hp.get_join] at h
  cases hτ : τ.get g with
  | none => rw [hτ] at h; exact ⟨h, rfl⟩
  | some b => rw [hτ] at h; cases h
theorem Hp.empty_join (σ : Hp) : Hp.empty.join σ = σ := by
  apply Hp.ext'; intro i; rw [Hp.get_join]; cases σ.get i <;> rfl
theorem Hp.join_empty (σ : Hp) : σ.join Hp.empty = σ := by
  apply Hp.ext'; intro i; rw [Hp.get_join]; rfl
theorem Hp.join_assoc (σ τ υ : Hp) : (σ.join τ).join υ = σ.join (τ.join υ) := by
  apply Hp.ext'; intro i; simp only [Hp.get_join]; cases υ.get i <;> rfl
def Disj (σ τ : Hp) : Prop := ∀ g, σ.get g = none ∨ τ.get g = none
theorem Disj.set {σ τ : Hp} (h : Disj σ τ) {g : Nat} (hg : σ.get g = none) (b : Blk) : Disj σ (τ.set g b) := fun i => by
  rw [Hp.get_set]
  by_cases e : i = g
  · subst e; exact .inl hg
  · rw [if_neg e]; exact h i
theorem Disj.symm {σ τ : Hp} (h : Disj σ τ) : Disj τ σ := fun g => (h g).symm
theorem Disj.empty (σ : Hp) : Disj σ Hp.empty := fun _ => .inr rfl
theorem Disj.get {σ τ : Hp} (h : Disj σ τ) {g : Nat} {b : Blk} (hg : σ.get g = some b) : τ.get g = none := by
  rcases h g with h | h
  · rw [hg] at h; cases h
  · exact h
theorem Disj.join_comm {σ τ : Hp} (h : Disj σ τ) : σ.join τ = τ.join σ := by
  apply Hp.ext'; intro i; simp only [Hp.get_join]
  rcases h i with h | h <;> rw [h]
  · cases τ.get i <;> rfl
  · cases σ.get i <;> rfl
theorem Disj.get_left {σ τ : Hp} (h : Disj σ τ) {g : Nat} {b : Blk} (hg : σ.get g = some b) : (σ.join τ).get g = some b := by
  rw [Hp.get_join, h.get hg]; exact hg
theorem BOk.named {g : Nat} {k : Blk} (h : BOk X G w g k) : G.bl g ≠ none ∨ G.tk g ≠ none := by
  cases k with
  | cells cs => obtain ⟨b, rs, e, h1, _⟩ := h; left; rw [h1]; simp
  | tok sz n => obtain ⟨b, c, h1, _⟩ := h; right; rw [h1]; simp
  | map kv st clk => obtain ⟨b, rs, h1, _⟩ := h; left; rw [h1]; simp
  | siter s p => obtain ⟨b, h1, _⟩ := h; left; rw [h1]; simp
  | miter m s l c => obtain ⟨b, bm, h1, _⟩ := h; left; rw [h1]; simp
/-- What a function does to its own part it does beside any other. -/
theorem Spec.frame {f : FuncId} {args : List V} {σ₁ : Hp} {Post : V → Hp → Prop} (h : Spec P f args σ₁ Post) (σ : Hp) (hd : Disj σ₁ σ) : Spec P f args (σ₁.join σ) (fun v σ' => ∃ τ, Post v τ ∧ Disj τ σ ∧ σ' = τ.join σ) := by
  refine ⟨h.1, fun X G rargs w hI0' hr => ?_⟩
  have hI : Inv X G σ w := hI0'.sub fun g k x => Hp.join_get x
  have hI1 : Inv X G σ₁ w := hI0'.sub fun g k x => hd.get_left x
  have hnot : ∀ b o l, X.b b = some (o, l) → ¬ ∃ g k, σ.get g = some k ∧ ownb G g k = some b := fun b o l hx ⟨g, k, h1, h2⟩ => by
    have := ((hI.blk g k h1).own h2).2
    rw [hx] at this; cases this
  have hI0 : Inv (X.all G σ w) G σ₁ w := by
    refine ⟨hI.fz, fun b o l hx => ?_, fun g x hx => ?_, fun g k x => ?_, hI1.inj, hI.fin, hI.eo⟩
    · simp only [Ext.all] at hx
      split at hx
      · cases hh : w.heap[b]? with
        | none => rw [hh] at hx; cases hx
        | some o' => rw [hh] at hx; cases hx; exact ⟨rfl, rfl⟩
      · exact hI.ext b o l hx
    · simp only [Ext.all] at hx
      split at hx
      · rename_i hs
        cases hx
        cases hg : σ.get g with
        | none => rw [hg] at hs; cases hs
        | some k => exact ⟨rfl, hd.symm.get hg, (hI.blk g k hg).named⟩
      · exact hI1.ext2 g x hx
    · have hb := hI1.blk g k x
      have hfree : ∀ b, X.b b = none → ownb G g k = some b → (X.all G σ w).b b = none := fun b hX ho => by
        simp only [Ext.all]
        rw [if_neg]
        · exact hX
        · rintro ⟨g', k', h1, h2⟩
          have := hI0'.inj g g' b k k' (hd.get_left x) (Hp.join_get h1) ho h2
          subst this
          rw [hd.get x] at h1; cases h1
      cases k with
      | cells cs => obtain ⟨b, rs, e, h1, h2, h3, h4, h5⟩ := hb; exact ⟨b, rs, e, h1, h2, h3, h4, hfree b h5 h1⟩
      | tok sz n =>
        obtain ⟨base, cap, h1, h2⟩ := hb
        refine ⟨base, cap, h1, ?_⟩
        cases base with
        | none => exact h2
        | some b => obtain ⟨rs, e, h2, h3, h4, h5, h6⟩ := h2; exact ⟨rs, e, h2, h3, h4, h5, hfree b h6 (by simp [ownb, h1])⟩
      | map kv st clk => obtain ⟨b, es, h1, h2, h3, h4, h5⟩ := hb; exact ⟨b, es, h1, h2, h3, h4, hfree b h5 h1⟩
      | siter s p => obtain ⟨b, h1, h2, h4, h5⟩ := hb; exact ⟨b, h1, h2, h4, hfree b h5 h1⟩
      | miter m s l c => obtain ⟨b, bm, h1, h2, h3, h4, h5⟩ := hb; exact ⟨b, bm, h1, h2, h3, h4, hfree b h5 h1⟩
  refine (h.2 _ G rargs w hI0 hr).mono ?_
  rintro e w' ⟨rv, v, τ, G', rfl, hpost, le, hI', hv⟩
  have tok : ∀ g k, σ.get g = some k → G'.tk g = G.tk g ∧ τ.get g = none := fun g k h1 => by
    have h2 : (X.all G σ w).t g = some (G.tk g) := by
      simp only [Ext.all]
      rw [if_pos (by rw [h1]; rfl)]
    obtain ⟨h3, h4, _⟩ := hI'.ext2 g _ h2
    exact ⟨h3, h4⟩
  have hdis : Disj τ σ := fun g => by
    cases hg : σ.get g with
    | none => exact .inr rfl
    | some k => exact .inl (tok g k hg).2
  refine ⟨rv, v, τ.join σ, G', rfl, ⟨τ, hpost, hdis, rfl⟩, le, ?_, hv⟩
  have own : ∀ g k b, σ.get g = some k → ownb G g k = some b → w'.heap[b]? = w.heap[b]? ∧ G'.fz b = G.fz b ∧ (X.all G σ w).b b ≠ none := fun g k b h1 h2 => by
    obtain ⟨⟨o, ho⟩, _⟩ := (hI.blk g k h1).own h2
    have hx : (X.all G σ w).b b = some (o, G.fz b) := by
      simp only [Ext.all]
      rw [if_pos ⟨g, k, h1, h2⟩, ho]; rfl
    obtain ⟨h3, h4⟩ := hI'.ext b o _ hx
    exact ⟨h3.trans ho.symm, h4, by rw [hx]; simp⟩
  have kept : ∀ g k, σ.get g = some k → BOk X G' w' g k ∧ ownb G' g k = ownb G g k := fun g k hg =>
    (hI.blk g k hg).keep2 le (fun b hb => ⟨(own g k b hg hb).1, (own g k b hg hb).2.1⟩) (fun x hx => (tok g k hg).1.trans hx)
  have hX : ∀ b o l, X.b b = some (o, l) → (X.all G σ w).b b = some (o, l) := fun b o l hx => by
    simp only [Ext.all]
    rw [if_neg (hnot b o l hx)]; exact hx
  have mine : ∀ g k, τ.get g = some k → BOk X G' w' g k := fun g k hg => by
    have hb := hI'.blk g k hg
    have hfree : ∀ b, (X.all G σ w).b b = none → X.b b = none := fun b hb => by
      cases hx : X.b b with
      | none => rfl
      | some ol => obtain ⟨o, l⟩ := ol; rw [hX b o l hx] at hb; cases hb
    cases k with
    | cells cs => obtain ⟨b, rs, e, h1, h2, h3, h4, h5⟩ := hb; exact ⟨b, rs, e, h1, h2, h3, h4, hfree b h5⟩
    | tok sz n =>
      obtain ⟨base, cap, h1, h2⟩ := hb
      refine ⟨base, cap, h1, ?_⟩
      cases base with
      | none => exact h2
      | some b => obtain ⟨rs, e, h2, h3, h4, h5, h6⟩ := h2; exact ⟨rs, e, h2, h3, h4, h5, hfree b h6⟩
    | map kv st clk => obtain ⟨b, es, h1, h2, h3, h4, h5⟩ := hb; exact ⟨b, es, h1, h2, h3, h4, hfree b h5⟩
    | siter s p => obtain ⟨b, h1, h2, h4, h5⟩ := hb; exact ⟨b, h1, h2, h4, hfree b h5⟩
    | miter m s l c => obtain ⟨b, bm, h1, h2, h3, h4, h5⟩ := hb; exact ⟨b, bm, h1, h2, h3, h4, hfree b h5⟩
  have split : ∀ g k, (τ.join σ).get g = some k → σ.get g = some k ∨ (σ.get g = none ∧ τ.get g = some k) := fun g k x => by
    rw [Hp.get_join] at x
    cases hg : σ.get g with
    | none => rw [hg] at x; exact .inr ⟨rfl, x⟩
    | some k' => rw [hg] at x; cases x; exact .inl rfl
  refine ⟨hI'.fz, fun b o l hx => hI'.ext b o l (hX b o l hx), fun g x hx => ?_, fun g k hg => ?_, fun g g' b k k' x y p q => ?_, hI'.fin, hI'.eo⟩
  · obtain ⟨h1, h2, h3⟩ := hI.ext2 g x hx
    have := hI'.ext2 g x (by simp only [Ext.all]; rw [if_neg (by rw [h2]; simp)]; exact hx)
    exact ⟨this.1, by rw [Hp.get_join, h2, this.2.1]; rfl, this.2.2⟩
  · rcases split g k hg with h1 | ⟨_, h1⟩
    · exact (kept g k h1).1
    · exact mine g k h1
  · rcases split g k x with h1 | ⟨_, h1⟩ <;> rcases split g' k' y with h2 | ⟨_, h2⟩
    · rw [(kept g k h1).2] at p; rw [(kept g' k' h2).2] at q
      exact hI.inj g g' b k k' h1 h2 p q
    · rw [(kept g k h1).2] at p
      exact absurd ((hI'.blk g' k' h2).own q).2 (own g k b h1 p).2.2
    · rw [(kept g' k' h2).2] at q
      exact absurd ((hI'.blk g k h1).own p).2 (own g' k' b h2 q).2.2
    · exact hI'.inj g g' b k k' h1 h2 p q
theorem PSpec.spec {f : FuncId} {args : List V} {r : V} (h : PSpec P f args r) : Spec P f args Hp.empty (fun v σ' => v = r ∧ σ' = Hp.empty) :=
  ⟨h.1, fun X G rargs w hI hr => (h.2 X G rargs w hI hr).mono fun e w' ⟨rv, G', e1, e2, e3, e4⟩ => ⟨rv, r, _, G', e1, ⟨rfl, rfl⟩, e2, e3, e4⟩⟩
theorem Spec.mono {f : FuncId} {args : List V} {Post Post' : V → Hp → Prop} (h : Spec P f args σ Post) (hp : ∀ v σ', Post v σ' → Post' v σ') : Spec P f args σ Post' :=
  ⟨h.1, fun X G rargs w hI hr => (h.2 X G rargs w hI hr).mono fun e w' ⟨rv, v, σ', G', e1, e2, e3⟩ => ⟨rv, v, σ', G', e1, hp _ _ e2, e3⟩⟩
theorem PSpec.frame {f : FuncId} {args : List V} {r : V} (h : PSpec P f args r) (σ : Hp) : Spec P f args σ (fun v σ' => v = r ∧ σ' = σ) := by
  have h1 := h.spec.frame σ (Disj.empty σ).symm
  rw [Hp.empty_join] at h1
  refine h1.mono ?_
  rintro v σ' ⟨τ, ⟨rfl, rfl⟩, _, rfl⟩
  exact ⟨rfl, Hp.empty_join σ⟩
def dstOk (n : Nat) : Option Tmp → Prop
  | none => True
  | some d => d < n
theorem St.put {G' : Ghost} {σ' : Hp} {w' : World} (h0 : G0.Le G) (le : G.Le G') (hI : Inv X G' σ' w') (hn : a.tmps.size = n) (hd : a.defers = []) (hv : ∀ t, VRel G (env.get t) (a.tmps.getD t undef)) {dst : Option Tmp} (hdst : dstOk n dst) {v : V} {r : Value} (hr : VRel G' v r) :
    St X G0 n (env.put dst v) σ' (a.put dst r) w' := by
  refine ⟨G', h0.trans le, hI, ?_, ?_, fun t => ?_⟩
  · cases dst <;> simp [Act.put, hn]
  · cases dst <;> simp [Act.put, hd]
  · cases dst with
    | none => exact (hv t).mono le
    | some d =>
      have hdn : d < n := hdst
      simp only [Env.put, Env.get_cons, Act.put]
      by_cases e : d = t
      · subst e
        rw [if_pos rfl]
        have : (a.tmps.setIfInBounds d r).getD d undef = r := by simp [hn, hdn]
        rw [this]; exact hr
      · rw [if_neg e]
        have : (a.tmps.setIfInBounds d r).getD t undef = a.tmps.getD t undef := by simp [Array.getElem?_setIfInBounds_ne e]
        rw [this]; exact (hv t).mono le
def gdst : List Oper → Nat → Option Tmp
  | [], _ => none
  | o :: _, 0 => o.dst
  | _ :: l, n + 1 => gdst l n
theorem gdst_eq (ops : Array Oper) (j : Nat) : gdst ops.toList j = (ops[j]?).bind (·.dst) := by
  have : ∀ (l : List Oper) (j : Nat), gdst l j = (l[j]?).bind (·.dst) := by
    intro l
    induction l with
    | nil => intro j; rfl
    | cons o l ih =>
      intro j
      cases j with
      | zero => rfl
      | succ j => simpa [gdst] using ih j
  rw [this]; simp
/-- Whether an operation is wanted; none: it can't be told. -/
def wantV (ops : Array Oper) (env : Env) (o : Oper) : Option Bool :=
  match o.guard with
  | none => some true
  | some (j, want) => match gdst ops.toList j with
    | some d => match env.get d with
      | .bool b => some (cond want b (!b))
      | .tup _ => some false
      | _ => none
    | none => none
def callV (env : Env) (o : Oper) : Option (FuncId × List V) :=
  match o.op with
  | .call c => match c.callee with
    | .value f => match ev env f with
      | .fn fid caps => some (fid, c.args.toList.map (ev env) ++ caps)
      | _ => none
    | _ => none
  | _ => none
theorem wantV_spec {ops : Array Oper} {o : Oper} {b : Bool} (hv : ∀ t, VRel G (env.get t) (a.tmps.getD t undef)) (h : wantV ops env o = some b) : Region.wanted o (yielded ops a.tmps) = b := by
  unfold wantV at h
  unfold Region.wanted
  cases hg : o.guard with
  | none => simp [hg] at h; exact h.symm ▸ rfl
  | some gw =>
    obtain ⟨j, want⟩ := gw
    simp only [hg] at h
    rw [gdst_eq] at h
    cases hd : (ops[j]?).bind (·.dst) with
    | none => simp [hd] at h
    | some d =>
      simp only [hd] at h
      have hr := hv d
      have hy : yielded ops a.tmps j = match a.tmps[d]? with | some (.bool b) => some b | _ => none := by
        unfold yielded; rw [hd]; rfl
      simp only [hy]
      cases hve : env.get d <;> simp [hve] at h
      · rename_i c
        rw [hve] at hr
        subst h
        have : a.tmps[d]? = some (.bool c) := by
          cases ht : a.tmps[d]? with
          | none => simp [ht, undef] at hr; cases hr
          | some x => simp [ht] at hr; cases hr; rfl
        cases want <;> simp [this]
      · rename_i vs
        rw [hve] at hr
        subst h
        cases ht : a.tmps[d]? with
        | none => simp
        | some x => simp [ht] at hr; cases hr; simp
theorem callV_spec {o : Oper} {fid : FuncId} {vs : List V} (hv : ∀ t, VRel G (env.get t) (a.tmps.getD t undef)) (h : callV env o = some (fid, vs)) (hok : okFn P fid = true) (w : World) :
    ∃ rargs, (execOp a.eval o).run P w = .ok (.enter fid rargs) w ∧ Rows2 G vs rargs := by
  obtain ⟨dst, op, ty, pos, after, guard⟩ := o
  unfold callV at h
  simp only at h
  cases op <;> try (cases h; done)
  rename_i c
  obtain ⟨callee, args, ats⟩ := c
  simp only at h
  cases callee <;> try (cases h; done)
  rename_i f
  simp only at h
  have hr := ev_rel hv f
  cases hf : ev env f <;> simp [hf] at h
  obtain ⟨e1, e2⟩ := h
  subst e1; subst e2
  rename_i fid caps
  rw [hf] at hr
  generalize hq : a.eval f = q at hr
  cases hr with | fn _ _ rs hl hr =>
  refine ⟨args.map a.eval ++ rs, ?_, (rows_map hv args).append ⟨hl, hr⟩⟩
  unfold okFn at hok
  cases hp : P.funcs[fid]? with
  | none => rw [hp] at hok; cases hok
  | some fn =>
    rw [hp] at hok
    simp only [Bool.and_eq_true, Bool.not_eq_true'] at hok
    have hb : fn.body.isNone = false := by
      cases hbb : fn.body with
      | none => rw [hbb] at hok; simp at hok
      | some _ => rfl
    have h1 : (fn.name == "runtime.NumGoroutine") = false := hok.1
    have h2 : ¬ fn.name = "runtime.NumGoroutine" := by simpa using h1
    simp [execOp, resolve, hq, Deferred.ofValue, invoke, callFunc, hp, h2, hb]
    intro hbn; rw [hbn] at hb; cases hb
/-- A slice that is held against nil: what is asked. -/
def nilAsk (P : Program) (env : Env) (o : Oper) : Option (Bool × List V) :=
  match o.op with
  | .binOp op t x (.const (.slice none 0 0)) _ => match P.underlying t, ev env x with
    | some (.slice _), .sl _ es _ => match op with
      | .eql => some (true, es)
      | .neq => some (false, es)
      | _ => none
    | _, _ => none
  | _ => none
theorem nilAsk_spec {o : Oper} {q : Bool} {es : List V} (hv : ∀ t, VRel G (env.get t) (a.tmps.getD t undef)) (h : nilAsk P env o = some (q, es)) (w : World) :
    ∃ b : Bool, (execOp a.eval o).run P w = .ok (.value (.bool b)) w ∧ (b = q → es = []) := by
  obtain ⟨dst, op, ty, pos, after, guard⟩ := o
  unfold nilAsk at h
  simp only at h
  split at h
  · rename_i op' t x t'
    split at h
    · rename_i el sz es' tag hu hx
      have hr := ev_rel hv x
      rw [hx] at hr
      generalize hq : a.eval x = r at hr
      cases hr with | sl _ _ _ ad cap rs hc hu' hb hr' ht ho =>
      have hc0 : a.eval (.const (.slice none 0 0)) = .slice none 0 0 := rfl
      have he : (Op.equal t (.slice ad es'.length cap) (.slice none 0 0)).run P w = .ok ad.isNone w := by
        rw [eq_step]; unfold Op.equalIn
        cases ad <;> simp [run_und hu]
      have hemp : ad.isNone = true → es' = [] := fun hn => by
        rcases hb with hb | ⟨b, off, hb, _⟩
        · exact hb
        · subst hb; cases hn
      have g1 : ∀ op : BinOp, (eqGuard op t x (.const (.slice none 0 0)) (.slice ad es'.length cap) (.slice none 0 0)).run P w = .ok () w := fun op => by
        unfold eqGuard; cases op <;> simp
      split at h <;> (try (cases h; done))
      · cases h
        refine ⟨ad.isNone, ?_, fun e => hemp e⟩
        have := run_eq1 (P := P) (t := t) (u := .slice none 0 0) rfl he
        simp only [execOp, hq, hc0, Sem.run_bind, g1, Result.andThen_ok, this]
        rfl
      · cases h
        refine ⟨!ad.isNone, ?_, fun e => hemp (by simpa using e)⟩
        have := run_eq2 (P := P) (t := t) (u := .slice none 0 0) rfl he
        simp only [execOp, hq, hc0, Sem.run_bind, g1, Result.andThen_ok, this]
        rfl
    · cases h
  · cases h
def CallThen (P : Program) (f : FuncId) (args : List V) (σ : Hp) (K : V → Hp → Prop) : Prop := ∃ Post, Spec P f args σ Post ∧ ∀ v σ', Post v σ' → K v σ'
/-- Operations in their order, up to the next call. -/
def run (P : Program) (ops : Array Oper) (L : List Nat) (n : Nat) (Q : Exit → Env → Hp → Prop) : List Oper → Env → Hp → Prop
  | [], env, σ => Q .normal env σ
  | o :: rest, env, σ => dstOk n o.dst ∧
    match wantV ops env o with
    | some w => cond w
      (match mop P L env σ o with
      | some e => e.ap σ fun v σ' => run P ops L n Q rest (env.put o.dst v) σ'
      | none => match nilAsk P env o with
        | some (q, es) => ∀ b : Bool, (b = q → es = []) → run P ops L n Q rest (env.put o.dst (.bool b)) σ
        | none => match callV env o with
          | some (f, args) => CallThen P f args σ fun v σ' => WL n P ops rest Q (env.put o.dst v) σ'
          | none => False)
      (run P ops L n Q rest (env.put o.dst (.tup [])) σ)
    | none => False
theorem run_sound {ops : Array Oper} {L : List Nat} {Q : Exit → Env → Hp → Prop} : ∀ (l : List Oper) (env : Env) (σ : Hp), run P ops L n Q l env σ → WL n P ops l Q env σ := by
  intro l
  induction l with
  | nil => exact fun env σ h X G0 a w hs => ⟨env, σ, h, hs⟩
  | cons o rest ih =>
    intro env σ ⟨hdst, h⟩ X G0 a w ⟨G, h0, hI, hn, hd, hv⟩
    unfold wpList
    cases hw : wantV ops env o with
    | none => rw [hw] at h; exact h.elim
    | some b =>
      rw [hw] at h
      rw [wantV_spec hv hw]
      cases b with
      | false =>
        rw [if_neg (by simp)]
        exact ih _ _ h X G0 _ w (St.put h0 (Ghost.Le.refl _) hI hn hd hv hdst (.tup [] #[] rfl fun i c hi => by cases hi))
      | true =>
        rw [if_pos rfl]
        left
        simp only [cond_true] at h
        cases hm : mop P L env σ o with
        | some e =>
          rw [hm] at h
          obtain ⟨nx, r, w', v, σ', G', h1, h2, h3, le, hI', hr⟩ := mop_sound hI hv hm _ h
          unfold Oper.wp
          rw [h1]
          have hst := St.put h0 le hI' hn hd hv hdst hr
          rcases h2 with rfl | ⟨rfl, rfl⟩
          · exact ih _ _ h3 X G0 _ w' hst
          · exact ih _ _ h3 X G0 _ w' hst
        | none =>
          rw [hm] at h
          simp only at h
          cases hna : nilAsk P env o with
          | some qe =>
            obtain ⟨q, es⟩ := qe
            rw [hna] at h
            obtain ⟨b, h1, h2⟩ := nilAsk_spec hv hna w
            unfold Oper.wp
            rw [h1]
            exact ih _ _ (h b h2) X G0 _ w (St.put h0 (Ghost.Le.refl _) hI hn hd hv hdst (.bool b))
          | none =>
          rw [hna] at h
          simp only at h
          cases hc : callV env o with
          | none => rw [hc] at h; exact h.elim
          | some fa =>
            obtain ⟨f, args⟩ := fa
            rw [hc] at h
            obtain ⟨Post, ⟨hok, hspec⟩, hK⟩ := h
            obtain ⟨rargs, h1, h2⟩ := callV_spec hv hc hok w
            unfold Oper.wp
            rw [h1]
            show Calls P f rargs w _
            refine (hspec X G rargs w hI h2).mono ?_
            rintro e w' ⟨rv, v, σ', G', rfl, hp, le, hI', hr⟩
            exact hK v σ' hp X G0 _ w' (St.put h0 le hI' hn hd hv hdst hr)
end Go.Vm
/- Vm, part 15: code, and functions entered and left. -/
namespace Go.Vm
variable {X : Ext} {G H G0 : Ghost} {σ : Hp} {w : World} {P : Program} {n : Nat} {env : Env} {a : Act} {Q : Exit → Env → Hp → Prop}
theorem W.mono {c : Code} {Q' : Exit → Env → Hp → Prop} (h : W n P c Q env σ) (hq : ∀ e env σ, Q e env σ → Q' e env σ) : W n P c Q' env σ :=
  fun X G0 a w hs => wp_mono (h X G0 a w hs) fun e a' w' ⟨env', σ', q, s⟩ => ⟨env', σ', hq _ _ _ q, s⟩
theorem W_region {id : Nat} {ops : Array Oper} (h : WL n P ops ops.toList Q env σ) : W n P (.region id ops false) Q env σ :=
  fun X G0 a w hs => wp_region_list (h X G0 a w hs)
/-- Behind a region, what is kept of the temporaries. -/
def keep (S : List Nat) (env : Env) : Env := S.map fun t => (t, env.get t)
theorem get_keep (S : List Nat) (env : Env) (t : Nat) : (keep S env).get t = .dead ∨ (keep S env).get t = env.get t := by
  induction S with
  | nil => exact .inl rfl
  | cons s S ih =>
    simp only [keep, List.map_cons, Env.get_cons]
    split
    · subst_vars; exact .inr rfl
    · exact ih
theorem St.weaken {env' : Env} (h : St X G0 n env σ a w) (he : ∀ t, env'.get t = .dead ∨ env'.get t = env.get t) : St X G0 n env' σ a w := by
  obtain ⟨G, h0, hI, hn, hd, hv⟩ := h
  refine ⟨G, h0, hI, hn, hd, fun t => ?_⟩
  rcases he t with e | e
  · rw [e]; exact .dead _
  · rw [e]; exact hv t
theorem W_keep (S : List Nat) {c : Code} (h : W n P c Q (keep S env) σ) : W n P c Q env σ :=
  fun X G0 a w hs => h X G0 a w (hs.weaken (get_keep S env))
/-- Names that are forgotten. -/
theorem W_sub {c : Code} {τ : Hp} (hs : ∀ g k, τ.get g = some k → σ.get g = some k) (h : W n P c Q env τ) : W n P c Q env σ :=
  fun X G0 a w ⟨G, h0, hI, rest⟩ => h X G0 a w ⟨G, h0, hI.sub hs, rest⟩
theorem W_skip (h : Q .normal env σ) : W n P .skip Q env σ := fun X G0 a w hs => wp_skip ⟨env, σ, h, hs⟩
theorem W_ret (h : Q .ret env σ) : W n P .ret Q env σ := fun X G0 a w hs => wp_ret ⟨env, σ, h, hs⟩
theorem W_exit {id : Nat} (h : Q (.exit id) env σ) : W n P (.exit id) Q env σ := fun X G0 a w hs => wp_exit ⟨env, σ, h, hs⟩
theorem W_label {l : Nat} (h : Q .normal env σ) : W n P (.label l) Q env σ := fun X G0 a w hs => wp_label ⟨env, σ, h, hs⟩
def andThen (K : Env → Hp → Prop) (Q : Exit → Env → Hp → Prop) : Exit → Env → Hp → Prop
  | .normal, env, σ => K env σ
  | e, env, σ => Q e env σ
theorem W_seq {x y : Code} (h : W n P x (andThen (W n P y Q) Q) env σ) : W n P (.seq x y) Q env σ := fun X G0 a w hs => by
  refine wp_seq (wp_mono (h X G0 a w hs) ?_)
  rintro e a' w' ⟨env', σ', q, s⟩
  cases e with
  | normal => exact q X G0 a' w' s
  | _ => exact ⟨env', σ', q, s⟩
/-- What follows, behind a letter. -/
theorem W_then {x y : Code} (h : ∀ K : Env → Hp → Prop, (∀ env σ, W n P y Q env σ → K env σ) → W n P x (andThen K Q) env σ) : W n P (.seq x y) Q env σ := W_seq (h _ fun _ _ h => h)
/-- With a name for what comes between. -/
theorem W_cut {x y : Code} (M : Env → Hp → Prop) (h : W n P x (andThen M Q) env σ) (hy : ∀ env σ, M env σ → W n P y Q env σ) : W n P (.seq x y) Q env σ :=
  W_seq (h.mono fun e env σ q => by cases e <;> first | exact hy _ _ q | exact q)
theorem W_cond {c : Operand} {x y : Code} {t : Bool} (hc : ev env c = .bool t) (h : W n P (if t then x else y) Q env σ) : W n P (.cond c x y) Q env σ := fun X G0 a w hs => by
  obtain ⟨G, h0, hI, hn, hd, hv⟩ := hs
  have hr := ev_rel hv c
  rw [hc] at hr
  generalize hq : a.eval c = r at hr
  cases hr
  exact wp_cond hq (h X G0 a w ⟨G, h0, hI, hn, hd, hv⟩)
theorem W_true {c : Operand} {x y : Code} (hc : ev env c = .bool true) (h : W n P x Q env σ) : W n P (.cond c x y) Q env σ := W_cond hc h
theorem W_false {c : Operand} {x y : Code} (hc : ev env c = .bool false) (h : W n P y Q env σ) : W n P (.cond c x y) Q env σ := W_cond hc h
theorem W_if {c : Operand} {x y : Code} {t : Bool} (hc : ev env c = .bool t) (h1 : t = true → W n P x Q env σ) (h2 : t = false → W n P y Q env σ) : W n P (.cond c x y) Q env σ := by
  cases t
  · exact W_cond hc (h2 rfl)
  · exact W_cond hc (h1 rfl)
def inBlk (id : Nat) (Q : Exit → Env → Hp → Prop) : Exit → Env → Hp → Prop
  | .exit id', env, σ => if id' = id then Q .normal env σ else Q (.exit id') env σ
  | e, env, σ => Q e env σ
theorem W_block {id : Nat} {c : Code} (h : W n P c (inBlk id Q) env σ) : W n P (.block id c) Q env σ := fun X G0 a w hs => by
  refine wp_block (wp_mono (h X G0 a w hs) ?_)
  rintro e a' w' ⟨env', σ', q, s⟩
  cases e with
  | exit id' =>
    by_cases he : id' = id
    · simp only [inBlk, he, if_true] at q
      simp only [Exit.inBlock, he, if_true]
      exact ⟨env', σ', q, s⟩
    · simp only [inBlk, he, if_false] at q
      simp only [Exit.inBlock, he, if_false]
      exact ⟨env', σ', q, s⟩
  | _ => exact ⟨env', σ', q, s⟩
theorem least {p : Nat → Prop} (h : ∃ m, p m) : ∃ m, p m ∧ ∀ k, p k → m ≤ k := by
  obtain ⟨m, hm⟩ := h
  induction m using Nat.strongRecOn with
  | _ m ih =>
    by_cases hk : ∃ k, k < m ∧ p k
    · obtain ⟨k, h1, h2⟩ := hk
      exact ih k h1 h2
    · exact ⟨m, hm, fun k hp => Nat.le_of_not_lt fun hlt => hk ⟨k, hlt, hp⟩⟩
open Classical in
/-- A loop, by a measure. -/
theorem W_loop {c : Code} (J : Nat → Env → Hp → Prop) (m : Nat) (h0 : J m env σ) (round : ∀ m env σ, J m env σ → W n P c (andThen (fun env' σ' => ∃ m', m' < m ∧ J m' env' σ') Q) env σ) : W n P (.loop c) Q env σ := fun X G0 a w hs => by
  let I : Act → World → Prop := fun a w => ∃ m env σ, J m env σ ∧ St X G0 n env σ a w
  let μ : Act → World → Nat := fun a w => if h : I a w then Classical.choose (least h) else 0
  refine wp_loop I μ ⟨m, env, σ, h0, hs⟩ fun a w hI => ?_
  have hμ : μ a w = Classical.choose (least hI) := dif_pos hI
  obtain ⟨⟨env1, σ1, hJ, hst⟩, _⟩ := Classical.choose_spec (least hI)
  refine wp_mono (round _ env1 σ1 hJ X G0 a w hst) ?_
  rintro e a' w' ⟨env', σ', q, s⟩
  cases e with
  | normal =>
    obtain ⟨m', hlt, hJ'⟩ := q
    have hI' : I a' w' := ⟨m', env', σ', hJ', s⟩
    refine ⟨hI', ?_⟩
    rw [hμ, show μ a' w' = Classical.choose (least hI') from dif_pos hI']
    exact Nat.lt_of_le_of_lt ((Classical.choose_spec (least hI')).2 m' ⟨env', σ', hJ', s⟩) hlt
  | _ => exact ⟨env', σ', q, s⟩
/-! ### functions -/
def argEnv : Nat → List V → Env
  | _, [] => []
  | k, v :: vs => (k, v) :: argEnv (k + 1) vs
theorem argEnv_get : ∀ (vs : List V) (k t : Nat), (argEnv k vs).get t = if k ≤ t then vs.getD (t - k) .dead else .dead
  | [], k, t => by simp [argEnv]
  | v :: vs, k, t => by
    rw [argEnv, Env.get_cons, argEnv_get vs (k + 1) t]
    by_cases h : k = t
    · subst h; simp
    · rw [if_neg h]
      by_cases h2 : k ≤ t
      · rw [if_pos h2, if_pos (by omega)]
        have : t - k = (t - (k + 1)) + 1 := by omega
        rw [this]; simp
      · rw [if_neg h2, if_neg (by omega)]
/-- What a function hands back, out of its result variables. -/
def resV (P : Program) (env : Env) (σ : Hp) : List ResultVar → Option (List V × Prop)
  | [] => some ([], True)
  | .tmp t :: rs => match resV P env σ rs with
    | some (vs, p) => some (env.get t :: vs, p)
    | none => none
  | .cell c t :: rs => match mLoad P σ t (env.get c), resV P env σ rs with
    | some (.val p v), some (vs, q) => some (v :: vs, p ∧ q)
    | _, _ => none
def tupV : List V → V
  | [v] => v
  | vs => .tup vs
def Ret (P : Program) (rs : List ResultVar) (env : Env) (σ : Hp) (K : V → Prop) : Prop :=
  match resV P env σ rs with
  | some (vs, p) => p ∧ K (tupV vs)
  | none => False
def resOf (tmps : Array Value) : ResultVar → Sem Value
  | .tmp t => pure (tmps.getD t undef)
  | .cell a t => do loadVar t (← asAddr (tmps.getD a undef))
theorem resV_spec (hI : Inv X G σ w) (hv : ∀ t, VRel G (env.get t) (a.tmps.getD t undef)) : ∀ (rs : List ResultVar) (vs : List V) (p : Prop), resV P env σ rs = some (vs, p) → p →
    ∃ us : List Value, (rs.mapM (resOf a.tmps)).run P w = .ok us w ∧ us.length = vs.length ∧ ∀ (i : Nat) (v : V) (u : Value), vs[i]? = some v → us[i]? = some u → VRel G v u := by
  intro rs
  induction rs with
  | nil => intro vs p h hp; cases h; exact ⟨[], rfl, rfl, fun i v u h => by cases h⟩
  | cons r rs ih =>
    intro vs p h hp
    cases r with
    | tmp t =>
      simp only [resV] at h
      cases hr : resV P env σ rs with
      | none => rw [hr] at h; cases h
      | some vq =>
        obtain ⟨vs', q⟩ := vq
        rw [hr] at h; cases h
        obtain ⟨us, h1, h2, h3⟩ := ih vs' p hr hp
        refine ⟨a.tmps.getD t undef :: us, by simp [List.mapM_cons, resOf, h1], by simp [h2], fun i v u hi hu => ?_⟩
        cases i with
        | zero => cases hi; cases hu; exact hv t
        | succ i => exact h3 i v u hi hu
    | cell c t =>
      simp only [resV] at h
      cases hl : mLoad P σ t (env.get c) with
      | none => rw [hl] at h; cases h
      | some e =>
        rw [hl] at h
        cases e <;> try (cases h; done)
        rename_i p1 v1
        cases hr : resV P env σ rs with
        | none => rw [hr] at h; cases h
        | some vq =>
          obtain ⟨vs', q⟩ := vq
          rw [hr] at h; cases h
          obtain ⟨hp1, hq⟩ := hp
          obtain ⟨us, h1, h2, h3⟩ := ih vs' q hr hq
          have hcv := hv c
          have key : ∃ u, (resOf a.tmps (.cell c t)).run P w = .ok u w ∧ VRel G v1 u := by
            obtain ⟨u, k1, k2⟩ := load_val (P := P) hI hcv hl hp1
            refine ⟨u, ?_, k2⟩
            rw [← k1]
            show (do loadVar t (← asAddr (a.tmps.getD c undef)) : Sem Value).run P w = (do loadVar t (← Instr.sureAddr (a.tmps.getD c undef)) : Sem Value).run P w
            have his := mLoad_is hl
            generalize a.tmps.getD c undef = r at hcv ⊢
            generalize env.get c = x at hcv his
            rcases his with ⟨g, o, rfl⟩ | ⟨cs, rfl⟩ <;> cases hcv <;> rfl
          obtain ⟨u, k1, k2⟩ := key
          refine ⟨u :: us, by simp [List.mapM_cons, k1, h1], by simp [h2], fun i v u' hi hu => ?_⟩
          cases i with
          | zero => cases hi; cases hu; exact k2
          | succ i => exact h3 i v u' hi hu
/-- A function's end. -/
def ends (P : Program) (rs : List ResultVar) (Post : V → Hp → Prop) (e : Exit) (env : Env) (σ : Hp) : Prop := (e = .normal ∨ e = .ret) ∧ Ret P rs env σ fun v => Post v σ
theorem Spec.intro {f : FuncId} {fn : Func} {c : Code} {args : List V} {rs : List ResultVar} {Post : V → Hp → Prop} (hf : P.funcs[f]? = some fn) (hb : fn.body = some c) (hok : okFn P f = true) (hn : fn.ntmps = n) (hrs : fn.results.toList = rs) (hlen : args.length ≤ n)
    (h : W n P c (ends P rs Post) (argEnv 0 args) σ) : Spec P f args σ Post := by
  subst hn; subst hrs; unfold ends at h
  refine ⟨hok, fun X G rargs w hI hr => calls_of_wp hf hb ?_⟩
  have hs : St X G fn.ntmps (argEnv 0 args) σ { tmps := rargs ++ Array.replicate (fn.ntmps - rargs.size) undef, defers := [] } w := by
    refine ⟨G, Ghost.Le.refl _, hI, by simp; rw [hr.1]; omega, rfl, fun t => ?_⟩
    rw [argEnv_get, if_pos (Nat.zero_le _), Nat.sub_zero]
    cases ht : args[t]? with
    | none => simp [ht]; exact .dead _
    | some v =>
      have hlt : t < rargs.size := by rw [hr.1]; exact (List.getElem?_eq_some_iff.1 ht).1
      have := hr.2 t v ht
      have e1 : (rargs ++ Array.replicate (fn.ntmps - rargs.size) undef).getD t undef = rargs.getD t undef := by
        simp [Array.getElem?_append, hlt]
      simp only [e1]
      simpa [ht] using this
  refine wp_mono (h X G _ w hs) ?_
  rintro e a' w' ⟨env', σ', ⟨he, hR⟩, G', h0, hI', hn, hd, hv⟩
  unfold Ret at hR
  cases hres : resV P env' σ' fn.results.toList with
  | none => rw [hres] at hR; exact hR.elim
  | some vq =>
    obtain ⟨vs, p⟩ := vq
    rw [hres] at hR
    obtain ⟨hp, hpost⟩ := hR
    obtain ⟨us, h1, h2, h3⟩ := resV_spec hI' hv _ _ _ hres hp
    have hrun : ∃ r, (results fn a'.tmps).run P w' = .ok r w' ∧ VRel G' (tupV vs) r := by
      have hm : (fn.results.mapM (resOf a'.tmps)).run P w' = .ok us.toArray w' := by
        rw [Array.mapM_eq_mapM_toList]; simp [h1]
      have he : results fn a'.tmps = (do let vs ← fn.results.mapM (resOf a'.tmps); pure (if h : vs.size = 1 then vs[0] else .tuple vs)) := by
        unfold results
        rfl
      rw [he, Sem.run_bind, hm]
      refine ⟨_, rfl, ?_⟩
      have htup : VRel G' (.tup vs) (.tuple us.toArray) := .tup vs _ (by simpa using h2) fun i c hi => by
        have hlt : i < us.length := by rw [h2]; exact (List.getElem?_eq_some_iff.1 hi).1
        have := h3 i c _ hi (List.getElem?_eq_getElem hlt)
        simpa [hlt] using this
      cases vs with
      | nil =>
        have : us = [] := List.eq_nil_of_length_eq_zero (by simpa using h2)
        subst this
        exact htup
      | cons v vs =>
        cases vs with
        | nil =>
          obtain ⟨u, rfl⟩ : ∃ u, us = [u] := by
            cases us with
            | nil => simp at h2
            | cons u us => cases us with
              | nil => exact ⟨u, rfl⟩
              | cons _ _ => simp at h2
          exact h3 0 v u rfl rfl
        | cons v2 vs =>
          have : ¬ us.toArray.size = 1 := by simp at h2 ⊢; omega
          rw [dif_neg this]; exact htup
    obtain ⟨r, hr1, hr2⟩ := hrun
    rcases he with rfl | rfl
    · exact ⟨hd, r, hr1, r, tupV vs, σ', G', rfl, hpost, h0, hI', hr2⟩
    · exact ⟨hd, r, hr1, r, tupV vs, σ', G', rfl, hpost, h0, hI', hr2⟩
/-- With what is forgotten at the end. -/
theorem Spec.intro' {f : FuncId} {fn : Func} {c : Code} {args : List V} {rs : List ResultVar} {Post : V → Hp → Prop} (hf : P.funcs[f]? = some fn) (hb : fn.body = some c) (hok : okFn P f = true) (hn : fn.ntmps = n) (hrs : fn.results.toList = rs) (hlen : args.length ≤ n)
    (h : W n P c (ends P rs fun v σ' => ∃ τ, (∀ g k, τ.get g = some k → σ'.get g = some k) ∧ Post v τ) (argEnv 0 args) σ) : Spec P f args σ Post := by
  have h1 := Spec.intro (P := P) hf hb hok hn hrs hlen h
  refine ⟨h1.1, fun X G rargs w hI hr => (h1.2 X G rargs w hI hr).mono ?_⟩
  rintro e w' ⟨rv, v, σ', G', e1, ⟨τ, hs, hp⟩, le, hI', hv⟩
  exact ⟨rv, v, τ, G', e1, hp, le, hI'.sub hs, hv⟩
theorem PSpec.intro {f : FuncId} {fn : Func} {c : Code} {args : List V} {rs : List ResultVar} {r : V} (hf : P.funcs[f]? = some fn) (hb : fn.body = some c) (hok : okFn P f = true) (hn : fn.ntmps = n) (hrs : fn.results.toList = rs) (hlen : args.length ≤ n)
    (h : W n P c (ends P rs fun v _ => v = r) (argEnv 0 args) Hp.empty) : PSpec P f args r := by
  have := Spec.intro (P := P) (Post := fun v σ' => v = r) hf hb hok hn hrs hlen h
  refine ⟨hok, fun X G rargs w hI hr => (this.2 X G rargs w hI hr).mono ?_⟩
  rintro e w' ⟨rv, v, σ', G', rfl, rfl, le, hI', hv⟩
  exact ⟨rv, G', rfl, le, hI'.sub (fun g k x => by cases x), hv⟩
end Go.Vm
/- Vm, part 16: what the walk unfolds. -/
namespace Go.Vm
theorem srcOf_sl (σ : Hp) (n sz : Nat) (es : List V) (tg : Tag) : srcOf σ n (.sl sz es tg) = cond (Nat.beq sz n || es.isEmpty) (some es) none := rfl
theorem srcOf_str (σ : Hp) (n : Nat) (s : ByteArray) : srcOf σ n (.str s) = cond (Nat.beq n 1) (some (bytesV s)) none := rfl
theorem srcOf_bs (σ : Hp) (n g off len cap sz : Nat) : srcOf σ n (.bs g off len cap sz) = match σ.get g with
    | some (.cells cs) => cond (Nat.beq n 1 && Nat.beq sz 1) (some ((cs.drop off).take len)) none
    | _ => none := rfl
theorem srcP_sl (σ : Hp) (sz : Nat) (es : List V) (tg : Tag) : srcP σ (.sl sz es tg) = True := rfl
theorem srcP_str (σ : Hp) (s : ByteArray) : srcP σ (.str s) = True := rfl
theorem srcP_bs (σ : Hp) (g off len cap sz : Nat) : srcP σ (.bs g off len cap sz) = ∀ cs, σ.get g = some (.cells cs) → off + len ≤ cs.length := rfl
theorem nat_beq (a b : Nat) : Nat.beq a b = decide (a = b) := by
  by_cases h : a = b
  · subst h; simp
  · have : Nat.beq a b = false := by
      cases hb : Nat.beq a b with
      | false => rfl
      | true => exact absurd (Nat.eq_of_beq_eq_true hb) h
    simp [h, this]
theorem nat_ble (a b : Nat) : Nat.ble a b = decide (a ≤ b) := by
  by_cases h : a ≤ b
  · simp [h, Nat.ble_eq_true_of_le h]
  · have : Nat.ble a b = false := by
      cases hb : Nat.ble a b with
      | false => rfl
      | true => exact absurd (Nat.le_of_ble_eq_true hb) h
    simp [h, this]
attribute [push_cast] nat_beq nat_ble decide_true decide_false Bool.true_or Bool.or_true Bool.false_or Bool.or_false Bool.false_and Bool.and_false run memN wantV gdst mop ev ofVal cell1 dstOk Env.put Eff.ap andThen mLoad mStore mAlloc mBox mBuild mBuildArr mBuildSlice mBuildTok mFieldAddr mField mIndexAddr mIndex mSlice mPick mNil mExtract mLen mMinMax mConv mMake mUn mIfc mFunc mBuiltin mAppend mAppendB mTok tokAt mLoadK readkAt mAppendZ intT byteE Eff.also zb_size mCopy mBin intOp strOp eqOp notE
  mMakeMap mLookup mMapUpdate mRange mNext mEntry orZero stSet eqOp2 eqAgg eqBy eqSK
  callV CallThen nilAsk srcOf_sl srcOf_str srcOf_bs srcP_sl srcP_str srcP_bs plainAt fillV putL V.cells V.one inOrder uniV bnd noneT inBlk Ret resV tupV ends keep or_true true_or false_or or_false forall_const argEnv Env.get_nil Env.get_cons
  List.getElem?_cons_zero List.getElem?_cons_succ List.getElem?_nil List.getD_cons_zero List.getD_cons_succ List.getD_nil List.drop_succ_cons List.drop_zero List.drop_nil List.take_succ_cons List.take_zero List.take_nil List.length_cons List.length_nil List.set_cons_zero List.set_cons_succ List.nil_append List.cons_append List.append_nil Nat.zero_add Nat.add_zero Nat.zero_mul Nat.mul_one
  ite_true ite_false cond_true cond_false true_and and_true Option.bind Option.map List.map List.toList_toArray List.all Bool.true_and Bool.and_true
end Go.Vm
/- Vm, part 17: regions that draw their order: the order of the text serves all. -/
namespace Go.Vm
variable {X : Ext} {G H G0 : Ghost} {σ : Hp} {w : World} {P : Program} {n : Nat} {env : Env} {a : Act} {Q : Exit → Env → Hp → Prop} {ops : Array Oper} {L U : List Nat}
/-- What an operation comes to, calls too. (U: functions that only compute.) -/
inductive Out where
  | skip
  | eff (e : Eff)
  | pcall (f : FuncId) (args : List V)
  | rcall (f : FuncId) (args : List V)
  | kcall (f : FuncId) (args : List V)
  | call (f : FuncId) (args : List V)
  | stuck
def outV (P : Program) (ops : Array Oper) (L U : List Nat) (env : Env) (σ : Hp) (o : Oper) : Out :=
  match wantV ops env o with
  | some w => cond w
    (match mop P L env σ o with
    | some e => .eff e
    | none => match callV env o with
      | some (f, args) => cond (memN f U) (.pcall f args) (cond (memN (f + 1000000) U) (.rcall f args) (cond (memN (f + 2000000) U) (.kcall f args) (.call f args)))
      | none => .stuck)
    .skip
  | none => .stuck
def PThen (P : Program) (f : FuncId) (args : List V) (K : V → Prop) : Prop := ∃ r, PSpec P f args r ∧ K r
def HSub (τ σ : Hp) : Prop := ∀ g k, τ.get g = some k → σ.get g = some k
/-- A function that only reads: its result, whatever else there is. -/
def RSpec (P : Program) (f : FuncId) (args : List V) (σ : Hp) (r : V) : Prop := ∀ τ, HSub σ τ → Spec P f args τ (fun v σ' => v = r ∧ σ' = τ)
/-- Blocks of two cells or more stay as they are. -/
def Keeps (σ σ' : Hp) : Prop := ∀ g cs, σ.get g = some (.cells cs) → 2 ≤ cs.length → σ'.get g = some (.cells cs)
def Out.ap (P : Program) : Out → Hp → (V → Hp → Prop) → Prop
  | .skip, σ, K => K (.tup []) σ
  | .eff e, σ, K => e.ap σ K
  | .pcall f args, σ, K => PThen P f args fun v => K v σ
  | .rcall f args, σ, K => ∃ r, RSpec P f args σ r ∧ K r σ
  | .kcall f args, σ, K => ∃ Post, Spec P f args σ Post ∧ (∃ v σ', Post v σ') ∧ (∀ v σ', Post v σ' → Keeps σ σ') ∧ ∀ v σ', Post v σ' → K v σ'
  | .call f args, σ, K => ∃ Post, Spec P f args σ Post ∧ (∃ v σ', Post v σ') ∧ ∀ v σ', Post v σ' → K v σ'
  | .stuck, _, _ => False
theorem Eff.mono {e : Eff} {K K' : V → Hp → Prop} (h : ∀ v σ, K v σ → K' v σ) (x : e.ap σ K) : e.ap σ K' := by
  cases e with
  | val p v => exact ⟨x.1, h _ _ x.2⟩
  | new p k v => exact ⟨x.1, fun g hg => h _ _ (x.2 g hg)⟩
  | set p g k v => exact ⟨x.1, h _ _ x.2⟩
  | any p g l d => exact ⟨x.1, fun e => h _ _ (x.2.1 e), fun y hy => h _ _ (x.2.2 y hy)⟩
  | app p g m n pre => exact ⟨x.1, fun g' c t a1 a2 a3 => h _ _ (x.2 g' c t a1 a2 a3)⟩
theorem Out.mono {o : Out} {K K' : V → Hp → Prop} (h : ∀ v σ, K v σ → K' v σ) (x : o.ap P σ K) : o.ap P σ K' := by
  cases o with
  | skip => exact h _ _ x
  | eff e => exact Eff.mono h x
  | pcall f args => obtain ⟨r, h1, h2⟩ := x; exact ⟨r, h1, h _ _ h2⟩
  | rcall f args => obtain ⟨r, h1, h2⟩ := x; exact ⟨r, h1, h _ _ h2⟩
  | kcall f args => obtain ⟨Post, h1, hne, hk, h2⟩ := x; exact ⟨Post, h1, hne, hk, fun v σ' hp => h _ _ (h2 v σ' hp)⟩
  | call f args => obtain ⟨Post, h1, hne, h2⟩ := x; exact ⟨Post, h1, hne, fun v σ' hp => h _ _ (h2 v σ' hp)⟩
  | stuck => exact x
def step1 (P : Program) (ops : Array Oper) (L U : List Nat) (n : Nat) (o : Oper) (K : Env → Hp → Prop) (env : Env) (σ : Hp) : Prop :=
  dstOk n o.dst ∧ (outV P ops L U env σ o).ap P σ fun v σ' => K (env.put o.dst v) σ'
/-- The text's order, whole. -/
def runA (P : Program) (ops : Array Oper) (L U : List Nat) (n : Nat) (Q : Exit → Env → Hp → Prop) : List Oper → Env → Hp → Prop
  | [], env, σ => Q .normal env σ
  | o :: rest, env, σ => step1 P ops L U n o (runA P ops L U n Q rest) env σ
theorem step1_mono {o : Oper} {K K' : Env → Hp → Prop} (h : ∀ env σ, K env σ → K' env σ) (x : step1 P ops L U n o K env σ) : step1 P ops L U n o K' env σ := ⟨x.1, Out.mono (fun v σ' => h _ _) x.2⟩
/-! ### environments that tell the same -/
def Eqv (e e' : Env) : Prop := ∀ t, e.get t = e'.get t
theorem Eqv.put {e e' : Env} (h : Eqv e e') (d : Option Tmp) (v : V) : Eqv (e.put d v) (e'.put d v) := by
  cases d with
  | none => exact h
  | some d => intro t; simp only [Env.put, Env.get_cons, h t]
theorem ev_eqv {e e' : Env} (h : Eqv e e') : ev e = ev e' := by
  funext o; cases o <;> first | exact h _ | rfl
theorem mop_eqv {e e' : Env} (h : ev e = ev e') (σ : Hp) (o : Oper) : mop P L e σ o = mop P L e' σ o := by
  unfold mop mFunc; rw [h]
theorem out_eqv {e e' : Env} (h : Eqv e e') (σ : Hp) (o : Oper) : outV P ops L U e σ o = outV P ops L U e' σ o := by
  have h1 := ev_eqv h
  have h2 : wantV ops e o = wantV ops e' o := by
    unfold wantV
    cases o.guard with
    | none => rfl
    | some gw =>
      obtain ⟨j, b⟩ := gw
      simp only
      cases gdst ops.toList j with
      | none => rfl
      | some d => simp only [h d]
  have h3 : callV e o = callV e' o := by unfold callV; rw [h1]
  unfold outV
  rw [h2, mop_eqv h1, h3]
def Resp (K : Env → Hp → Prop) : Prop := ∀ e e' σ, Eqv e e' → K e σ → K e' σ
theorem step1_resp {o : Oper} {K : Env → Hp → Prop} (h : Resp K) : Resp (step1 P ops L U n o K) := fun e e' σ he ⟨h1, h2⟩ => by
  refine ⟨h1, ?_⟩
  rw [← out_eqv he]
  exact Out.mono (fun v σ' => h _ _ _ (he.put _ _)) h2
theorem runA_resp (h : Resp (Q .normal)) : ∀ l, Resp (runA P ops L U n Q l)
  | [] => h
  | o :: l => step1_resp (runA_resp h l)
/-! ### operations that may change places -/
def looksTmp (ops : Array Oper) (o : Oper) : List Nat := o.looksAt ops
theorem ev_put {d : Option Tmp} {v : V} {x : Operand} (h : ∀ t, d = some t → x ≠ .tmp t) : ev (env.put d v) x = ev env x := by
  cases d with
  | none => rfl
  | some d =>
    cases x with
    | tmp t =>
      have hne : d ≠ t := fun e => h d rfl (by rw [e])
      simp only [ev, Env.put, Env.get_cons, if_neg hne]
    | _ => rfl
/-- What an operation comes to hangs on what it looks at alone. -/
theorem mop_congr {e e' : Env} {o : Oper} (hs : ∀ cs b, o.op ≠ .select cs b) (h : ∀ x ∈ o.op.operands, ev e x = ev e' x) (σ : Hp) : mop P L e σ o = mop P L e' σ o ∧ callV e o = callV e' o := by
  obtain ⟨dst, op, ty, pos, after, guard⟩ := o
  have pairs : ∀ ps : Array (Nat × Operand), (∀ x ∈ ps.toList.map (·.2), ev e x = ev e' x) → (ps.toList.map fun p => (p.1, ev e p.2)) = ps.toList.map fun p => (p.1, ev e' p.2) := fun ps hp =>
    List.map_congr_left fun p hm => by rw [hp p.2 (List.mem_map.2 ⟨p, hm, rfl⟩)]
  cases op <;> simp only [Op.operands] at h <;> simp only [mop, callV]
  case select cs b => exact absurd rfl (hs cs b)
  case build t ps => rw [pairs ps fun x hx => h x (by simpa using hx)]; (first | exact ⟨rfl, rfl⟩ | exact ⟨rfl, trivial⟩ | exact ⟨trivial, trivial⟩ | simp)
  case buildSlice t k ps => rw [pairs ps fun x hx => h x (by simpa using hx)]; (first | exact ⟨rfl, rfl⟩ | exact ⟨rfl, trivial⟩ | exact ⟨trivial, trivial⟩ | simp)
  case makeFunc fn first caps =>
    have hc : caps.toList.map (ev e) = caps.toList.map (ev e') := List.map_congr_left fun x hx => h x (by simp at hx ⊢; exact .inr hx)
    unfold mFunc; rw [hc]; (first | exact ⟨rfl, rfl⟩ | exact ⟨rfl, trivial⟩ | exact ⟨trivial, trivial⟩ | simp)
  case call c =>
    obtain ⟨callee, args, ats⟩ := c
    have ha : args.toList.map (ev e) = args.toList.map (ev e') := List.map_congr_left fun x hx => h x (by simp [Call.operands] at hx ⊢; exact .inr hx)
    cases callee with
    | builtin b => simp only [ha]; (first | exact ⟨rfl, rfl⟩ | exact ⟨rfl, trivial⟩ | exact ⟨trivial, trivial⟩ | simp)
    | value f => 
      have hf : ev e f = ev e' f := h f (by simp [Call.operands])
      simp only [ha, hf]; (first | exact ⟨rfl, rfl⟩ | exact ⟨rfl, trivial⟩ | exact ⟨trivial, trivial⟩ | simp)
    | invoke r m => (first | exact ⟨rfl, rfl⟩ | exact ⟨rfl, trivial⟩ | exact ⟨trivial, trivial⟩ | simp)
  case slice t x lo hi mx => cases lo <;> cases hi <;> cases mx <;> simp_all
  case makeMap t r => cases r <;> simp_all
  all_goals first | exact ⟨rfl, rfl⟩ | exact ⟨rfl, trivial⟩ | (simp_all; done)
def noSel (o : Oper) : Bool := match o.op with | .select _ _ => false | _ => true
theorem out_put {o : Oper} (hs : noSel o = true) {d : Option Tmp} {v : V} (h : ∀ t, d = some t → t ∉ o.looksAt ops) (σ : Hp) : outV P ops L U (env.put d v) σ o = outV P ops L U env σ o := by
  have h1 : ∀ x ∈ o.op.operands, ev (env.put d v) x = ev env x := fun x hx => ev_put fun t ht hxt => h t ht (by
    subst hxt
    exact List.mem_append_left _ (List.mem_filterMap.2 ⟨.tmp t, by simpa using hx, rfl⟩))
  have h2 := mop_congr (P := P) (L := L) (fun cs b he => by simp [noSel, he] at hs) h1 σ
  have h3 : wantV ops (env.put d v) o = wantV ops env o := by
    unfold wantV
    cases hg : o.guard with
    | none => rfl
    | some gw =>
      obtain ⟨j, b⟩ := gw
      simp only
      cases ht : gdst ops.toList j with
      | none => rfl
      | some t =>
        cases d with
        | none => rfl
        | some d =>
          have hne : d ≠ t := fun e => h d rfl (by subst e; rw [gdst_eq] at ht; simp [Oper.looksAt, hg, ht])
          simp only [Env.put, Env.get_cons, if_neg hne]
  unfold outV
  rw [h3, h2.1, h2.2]
theorem put_comm {d e : Option Tmp} (u v : V) (h : ∀ t, d = some t → e ≠ some t) : Eqv ((env.put d u).put e v) ((env.put e v).put d u) := by
  cases d with
  | none => intro t; rfl
  | some d => cases e with
    | none => intro t; rfl
    | some e =>
      intro t
      simp only [Env.put, Env.get_cons]
      by_cases h1 : e = t
      · subst h1; simp; intro h2; exact absurd (by rw [h2]) (h d rfl)
      · simp [h1]
/-- The kinds of operations: those that look at nothing of ours, calls of functions that only compute, those that read what is ours, those that make something new; others. -/
inductive Cls where
  | pure | pcall | read | alloc | rcall | other | readk | kcall | appd
  deriving DecidableEq
def clsOf (L U : List Nat) (o : Oper) : Cls :=
  match o.op with
  | .move _ | .assign _ | .pick .. | .build .. | .nilCheck _ | .binOp .. | .unOp .. | .makeInterface .. | .makeFunc .. | .slice .. | .fieldAddr .. | .field .. | .indexAddr .. | .index .. | .extract .. => .pure
  | .load .. => if plainAt L o.dst then .pure else if readkAt L o.dst then .readk else .read
  | .buildSlice .. => if plainAt L o.dst then .other else .pure
  | .convert .. | .lookup .. => .read
  | .alloc _ | .box .. | .makeSlice .. | .makeMap .. => .alloc
  | .call c => match c.callee with
    | .builtin .len => .read
    | .builtin .max | .builtin .min => .pure
    | .builtin .append => if tokAt L o.dst then .appd else if plainAt L o.dst then .pure else .other
    | .value (.func f) => if memN f U then .pcall else if memN (f + 1000000) U then .rcall else if memN (f + 2000000) U then .kcall else .other
    | _ => .other
  | _ => .other
def IsPure (P : Program) (o : Hp → Out) : Prop := ∃ (p : Prop) (u : V), ∀ σ K, (o σ).ap P σ K ↔ p ∧ K u σ
def IsPc (P : Program) (o : Hp → Out) : Prop := ∃ (C : V → Prop), ∀ σ K, (o σ).ap P σ K ↔ ∃ r, C r ∧ K r σ
def IsRc (P : Program) (o : Hp → Out) : Prop := ∃ (C : V → Hp → Prop), (∀ v σ τ, HSub σ τ → C v σ → C v τ) ∧ ∀ σ K, (o σ).ap P σ K ↔ ∃ r, C r σ ∧ K r σ
def IsRead (P : Program) (o : Hp → Out) : Prop := ∃ (r : Nat) (p : Blk → Prop) (u : Blk → V), ∀ σ K, (o σ).ap P σ K ↔ ∃ b, σ.get r = some b ∧ p b ∧ K (u b) σ
def IsReadK (P : Program) (o : Hp → Out) : Prop := ∃ (r : Nat) (p : List V → Prop) (u : List V → V), ∀ σ K, (o σ).ap P σ K ↔ ∃ cs, σ.get r = some (.cells cs) ∧ 2 ≤ cs.length ∧ p cs ∧ K (u cs) σ
def IsNew (P : Program) (o : Hp → Out) : Prop := ∃ (p : Prop) (k : Blk) (u : Nat → V), ∀ σ K, (o σ).ap P σ K ↔ p ∧ ∀ g, σ.get g = none → K (u g) (σ.set g k)
theorem pure_skip : IsPure P fun _ => .skip := ⟨True, .tup [], fun σ K => by simp [Out.ap]⟩
theorem pure_stuck : IsPure P fun _ => .stuck := ⟨False, .dead, fun σ K => by simp [Out.ap]⟩
theorem pure_val (p : Prop) (v : V) : IsPure P fun _ => .eff (.val p v) := ⟨p, v, fun σ K => Iff.rfl⟩
theorem pc_of_pure {o : Hp → Out} (h : IsPure P o) : IsPc P o := by
  obtain ⟨p, u, h⟩ := h
  refine ⟨fun v => p ∧ v = u, fun σ K => (h σ K).trans ⟨fun ⟨h1, h2⟩ => ⟨u, ⟨h1, rfl⟩, h2⟩, fun ⟨r, ⟨h1, h2⟩, h3⟩ => ⟨h1, h2 ▸ h3⟩⟩⟩
/-- An effect that is no more than a value. -/
def isVal : Option Eff → Prop
  | some (.val _ _) => True
  | some _ => False
  | none => True
def outW (P : Program) (env : Env) (U : List Nat) (o : Oper) (m : Option Eff) : Out :=
  match m with
  | some e => .eff e
  | none => match callV env o with
    | some (f, args) => cond (memN f U) (.pcall f args) (cond (memN (f + 1000000) U) (.rcall f args) (cond (memN (f + 2000000) U) (.kcall f args) (.call f args)))
    | none => .stuck
theorem out_cases (o : Oper) : (∀ σ, outV P ops L U env σ o = .skip) ∨ (∀ σ, outV P ops L U env σ o = .stuck) ∨ ∀ σ, outV P ops L U env σ o = outW P env U o (mop P L env σ o) := by
  unfold outV outW
  cases wantV ops env o with
  | none => exact .inr (.inl fun _ => rfl)
  | some b => cases b with
    | false => exact .inl fun _ => rfl
    | true => exact .inr (.inr fun _ => rfl)
theorem pure_of {o : Oper} {m : Option Eff} (hm : ∀ σ, mop P L env σ o = m) (hv : isVal m) (hc : callV env o = none) : IsPure P fun σ => outV P ops L U env σ o := by
  rcases out_cases (P := P) (ops := ops) (L := L) (U := U) (env := env) o with h | h | h
  · simp only [h]; exact pure_skip
  · simp only [h]; exact pure_stuck
  · simp only [h, hm, outW]
    cases m with
    | none => simp only [hc]; exact pure_stuck
    | some e => cases e <;> first | exact pure_val _ _ | exact hv.elim
theorem pure_of' {o : Oper} (hm : ∀ σ, mop P L env σ o = mop P L env Hp.empty o) (hv : isVal (mop P L env Hp.empty o)) (hc : callV env o = none) : IsPure P fun σ => outV P ops L U env σ o := pure_of hm hv hc
theorem isVal_cond {b : Bool} {p : Prop} {v : V} : isVal (cond b (some (.val p v)) none) := by cases b <;> trivial
theorem isVal_int {op : BinOp} {k : IntKind} {x y : Int} : isVal (intOp op k x y) := by unfold intOp; split <;> trivial
theorem isVal_str {op : BinOp} {x y : ByteArray} : isVal (strOp op x y) := by unfold strOp; split <;> trivial
theorem isVal_eq {t : Nat} {x y : V} : isVal (eqOp P t x y) := by unfold eqOp; split <;> first | trivial | (split <;> first | trivial | exact isVal_cond)
theorem isVal_eq2 {t : Nat} {x y : V} : isVal (eqOp2 P t x y) := by
  unfold eqOp2; split
  · unfold eqAgg; split <;> first | trivial | (split <;> trivial)
  · exact isVal_eq
theorem isVal_not {e : Eff} : isVal (notE e) := by unfold notE; split <;> trivial
theorem isVal_bin {op : BinOp} {t : Nat} {x y : V} : isVal (mBin P op t x y) := by
  unfold mBin
  split
  · split
    · trivial
    · trivial
    · split
      · exact isVal_int
      · trivial
  · exact isVal_str
  · split
    · exact isVal_eq2
    · cases h : eqOp2 P t x y with
      | none => trivial
      | some e => exact isVal_not
    · trivial
theorem isVal_slice {t : Nat} {x : V} {a b c : Option V} : isVal (mSlice P t x a b c) := by
  unfold mSlice
  repeat' first | trivial | exact isVal_cond | split
theorem isVal_idx {t : Nat} {x y : V} : isVal (mIndexAddr P t x y) := by
  unfold mIndexAddr
  repeat' first | trivial | exact isVal_cond | split
theorem isVal_ix {t : Nat} {x y : V} : isVal (mIndex P t x y) := by
  unfold mIndex
  repeat' first | trivial | exact isVal_cond | split
theorem isVal_appP {t t2 : Nat} {x y : V} : isVal (mAppend P true Hp.empty t t2 x y) := by
  unfold mAppend
  split
  · split
    · cases (notInt P t2 && _ && _) with
      | false => trivial
      | true =>
        simp only [cond_true]
        split
        · split
          · split
            · rename_i hg; cases hg
            · trivial
          · exact isVal_cond
          · trivial
        · trivial
    · trivial
  · trivial
theorem also_val {q : Prop} {e : Eff} (h : isVal (some e)) : isVal (some (e.also q)) := by cases e <;> first | trivial | exact h.elim
theorem isVal_appZ {t t2 : Nat} {x : V} {n : Int} : isVal (mAppendZ P true Hp.empty t t2 x n) := by
  unfold mAppendZ
  split
  · cases (byteE P t && intT P t2) with
    | false => trivial
    | true =>
      rename_i sz es tag
      have := isVal_appP (P := P) (t := t) (t2 := t) (x := .sl sz es tag) (y := .str (zb n.toNat))
      simp only [cond_true]
      split
      · rename_i e' he
        rw [he] at this; exact also_val this
      · trivial
  · trivial
theorem cls_pure {o : Oper} (h : clsOf L U o = .pure) : IsPure P fun σ => outV P ops L U env σ o := by
  obtain ⟨dst, op, ty, pos, after, guard⟩ := o
  cases op <;> simp only [clsOf, reduceCtorEq] at h
  case call c =>
    obtain ⟨callee, args, ats⟩ := c
    cases callee <;> simp only [reduceCtorEq] at h
    · rename_i f
      cases f <;> simp only [reduceCtorEq] at h
      split at h <;> (try split at h) <;> (try split at h) <;> cases h
    · rename_i b
      cases b <;> simp only [reduceCtorEq] at h
      case append =>
        split at h
        · cases h
        rename_i htk
        have htk' : tokAt L dst = false := by simpa using htk
        split at h
        · rename_i hp
          refine pure_of' (fun σ => ?_) ?_ rfl
          · simp only [mop, htk', cond_false, mBuiltin, hp, cond_true]
            rcases ats.toList with _ | ⟨_, _ | ⟨_, _ | _⟩⟩ <;> rcases List.map (ev env) args.toList with _ | ⟨x, _ | ⟨y, _ | _⟩⟩ <;> rfl
          · simp only [mop, htk', cond_false, mBuiltin, hp, cond_true]
            split <;> first | ((generalize intT P _ = bb; cases bb) <;> simp only [cond_true, cond_false] <;> first | exact isVal_appP | (split <;> first | exact isVal_appZ | trivial)) | trivial | (unfold mMinMax; split <;> trivial) | (unfold mLen; rfl)
        · cases h
      all_goals
        refine pure_of' (fun σ => ?_) ?_ rfl
        · simp only [mop, mBuiltin]
          rcases List.map (ev env) args.toList with _ | ⟨x, _ | ⟨y, _ | _⟩⟩ <;> rfl
        · simp only [mop, mBuiltin]
          split <;> first | trivial | (unfold mMinMax; split <;> trivial)
  case load t x =>
    split at h
    · rename_i hp
      refine pure_of' (fun σ => by simp only [mop, hp, cond_true]) ?_ rfl
      simp only [mop, hp, cond_true]
      cases hm : mLoad P Hp.empty t (ev env x) with
      | none => trivial
      | some e => obtain ⟨p, v, rfl⟩ := mLoad_val hm; trivial
    · split at h <;> cases h
  case buildSlice bt bn bp =>
    split at h
    · cases h
    · rename_i hp
      have hp' : plainAt L dst = false := by simpa using hp
      refine pure_of' (fun σ => rfl) ?_ rfl
      simp only [mop, hp', cond_false, mBuildSlice]
      repeat' first | trivial | exact isVal_cond | split
  all_goals refine pure_of' (fun σ => rfl) ?_ rfl
  all_goals simp only [mop]
  all_goals first
    | trivial
    | exact isVal_bin
    | exact isVal_slice
    | exact isVal_idx
    | exact isVal_ix
    | (simp only [mPick, mNil, mUn, mIfc, mFunc, mExtract, mFieldAddr, mField, mBuildSlice, mBuildArr, mBuild]; repeat' first | trivial | exact isVal_cond | split)
theorem cls_pcall {o : Oper} (h : clsOf L U o = .pcall) : IsPc P fun σ => outV P ops L U env σ o := by
  obtain ⟨dst, op, ty, pos, after, guard⟩ := o
  cases op <;> simp only [clsOf, reduceCtorEq] at h
  case load t x => split at h <;> (try split at h) <;> cases h
  case buildSlice bt bn bp => split at h <;> cases h
  rename_i c
  obtain ⟨callee, args, ats⟩ := c
  cases callee <;> simp only [reduceCtorEq] at h
  · rename_i f
    cases f <;> simp only [reduceCtorEq] at h
    rename_i f
    split at h
    · rename_i hU
      rcases out_cases (P := P) (ops := ops) (L := L) (U := U) (env := env) ⟨dst, .call ⟨.value (.func f), args, ats⟩, ty, pos, after, guard⟩ with h1 | h1 | h1
      · simp only [h1]; exact pc_of_pure pure_skip
      · simp only [h1]; exact pc_of_pure pure_stuck
      · have h2 : ∀ σ, outV P ops L U env σ ⟨dst, .call ⟨.value (.func f), args, ats⟩, ty, pos, after, guard⟩ = .pcall f (args.toList.map (ev env) ++ []) := fun σ => by
          rw [h1 σ]
          simp only [outW, mop, callV, ev, hU, cond_true]
        simp only [h2]
        exact ⟨fun r => PSpec P f _ r, fun σ K => Iff.rfl⟩
    · split at h <;> (try split at h) <;> cases h
  · rename_i b
    cases b <;> simp only [reduceCtorEq] at h <;> (split at h <;> (try split at h) <;> cases h)
theorem rc_of_pure {o : Hp → Out} (h : IsPure P o) : IsRc P o := by
  obtain ⟨p, u, h⟩ := h
  exact ⟨fun v _ => p ∧ v = u, fun _ _ _ _ h => h, fun σ K => (h σ K).trans ⟨fun ⟨h1, h2⟩ => ⟨u, ⟨h1, rfl⟩, h2⟩, fun ⟨r, ⟨h1, h2⟩, h3⟩ => ⟨h1, h2 ▸ h3⟩⟩⟩
theorem cls_rcall {o : Oper} (h : clsOf L U o = .rcall) : IsRc P fun σ => outV P ops L U env σ o := by
  obtain ⟨dst, op, ty, pos, after, guard⟩ := o
  cases op <;> simp only [clsOf, reduceCtorEq] at h
  case load t x => split at h <;> (try split at h) <;> cases h
  case buildSlice bt bn bp => split at h <;> cases h
  rename_i c
  obtain ⟨callee, args, ats⟩ := c
  cases callee <;> simp only [reduceCtorEq] at h
  · rename_i f
    cases f <;> simp only [reduceCtorEq] at h
    rename_i f
    split at h
    · cases h
    · rename_i hU0
      split at h <;> try (first | (cases h; done) | (split at h <;> cases h; done))
      rename_i hU
      rcases out_cases (P := P) (ops := ops) (L := L) (U := U) (env := env) ⟨dst, .call ⟨.value (.func f), args, ats⟩, ty, pos, after, guard⟩ with h1 | h1 | h1
      · simp only [h1]; exact rc_of_pure pure_skip
      · simp only [h1]; exact rc_of_pure pure_stuck
      · have h2 : ∀ σ, outV P ops L U env σ ⟨dst, .call ⟨.value (.func f), args, ats⟩, ty, pos, after, guard⟩ = .rcall f (args.toList.map (ev env) ++ []) := fun σ => by
          rw [h1 σ]
          simp only [outW, mop, callV, ev, hU, Bool.eq_false_iff.2 hU0, cond_true, cond_false]
        simp only [h2]
        exact ⟨fun r σ => RSpec P f _ σ r, fun v σ τ hs h υ hu => h υ (fun g k x => hu g k (hs g k x)), fun σ K => Iff.rfl⟩
  · rename_i b
    cases b <;> simp only [reduceCtorEq] at h <;> (split at h <;> (try split at h) <;> cases h)
theorem load_shape {t : Nat} {x : V} : (∀ σ : Hp, mLoad P σ t x = none) ∨ (∃ p v, ∀ σ : Hp, mLoad P σ t x = some (.val p v)) ∨
    ∃ (r : Nat) (f : Option Blk → Option Eff), (∀ σ : Hp, mLoad P σ t x = f (σ.get r)) ∧ f none = none ∧ ∀ b, f (some b) = none ∨ ∃ p v, f (some b) = some (.val p v) := by
  unfold mLoad
  cases szT P t with
  | none => exact .inl fun _ => rfl
  | some n =>
    cases aggT P t with
    | none => exact .inl fun _ => rfl
    | some ag =>
      cases x <;> try (cases ag <;> exact .inl fun _ => rfl)
      · rename_i g off
        right; right
        cases ag
        · exact ⟨g, fun b => match b with | some (.cells cs) => some (.val (off < cs.length) (cs.getD off .dead)) | _ => none, fun σ => rfl, rfl, fun b => by cases b <;> first | exact .inr ⟨_, _, rfl⟩ | exact .inl rfl⟩
        · exact ⟨g, fun b => match b with | some (.cells cs) => some (.val (off + n ≤ cs.length) (.agg ((cs.drop off).take n))) | _ => none, fun σ => rfl, rfl, fun b => by cases b <;> first | exact .inr ⟨_, _, rfl⟩ | exact .inl rfl⟩
      · right; left
        cases ag <;> exact ⟨_, _, fun _ => rfl⟩
theorem len_shape {t : Nat} {x : V} : (∀ σ : Hp, mLen P σ t x = none) ∨ (∃ p v, ∀ σ : Hp, mLen P σ t x = some (.val p v)) ∨
    ∃ (r : Nat) (f : Option Blk → Option Eff), (∀ σ : Hp, mLen P σ t x = f (σ.get r)) ∧ f none = none ∧ ∀ b, f (some b) = none ∨ ∃ p v, f (some b) = some (.val p v) := by
  unfold mLen
  cases P.underlying t with
  | none => cases x <;> exact .inl fun _ => rfl
  | some d =>
    cases d <;> cases x <;> first
      | exact .inl fun _ => rfl
      | exact .inr (.inl ⟨_, _, fun _ => rfl⟩)
      | exact .inr (.inr ⟨_, fun b => match b with | some (.map kv _ _) => some (.val True (.int .i64 kv.length)) | _ => none, fun σ => rfl, rfl, fun b => by cases b <;> first | exact .inr ⟨_, _, rfl⟩ | exact .inl rfl⟩)
theorem lookup_shape {t : Nat} {x k : V} {ok : Bool} : (∀ σ : Hp, mLookup P σ t x k ok = none) ∨ (∃ p v, ∀ σ : Hp, mLookup P σ t x k ok = some (.val p v)) ∨
    ∃ (r : Nat) (f : Option Blk → Option Eff), (∀ σ : Hp, mLookup P σ t x k ok = f (σ.get r)) ∧ f none = none ∧ ∀ b, f (some b) = none ∨ ∃ p v, f (some b) = some (.val p v) := by
  unfold mLookup
  cases mapT P t with
  | none => exact .inl fun _ => rfl
  | some ke =>
    obtain ⟨kt, et⟩ := ke
    simp only
    cases kindT P kt with
    | none => exact .inl fun _ => rfl
    | some kk =>
      cases zeroV P et with
      | none => exact .inl fun _ => rfl
      | some z =>
        cases x <;> first
          | exact .inl fun _ => rfl
          | exact .inr (.inl ⟨_, _, fun _ => rfl⟩)
          | exact .inr (.inr ⟨_, fun b => match b with | some (.map kv _ _) => some (.val (isKey kk k = true ∧ keysOk kk kv = true) (orZero ok (findV k kv) z)) | _ => none, fun σ => rfl, rfl, fun b => by cases b <;> first | exact .inr ⟨_, _, rfl⟩ | exact .inl rfl⟩)
theorem read_of {o : Oper} (hc : callV env o = none) (h : (∀ σ : Hp, mop P L env σ o = none) ∨ (∃ p v, ∀ σ : Hp, mop P L env σ o = some (.val p v)) ∨
    ∃ (r : Nat) (f : Option Blk → Option Eff), (∀ σ : Hp, mop P L env σ o = f (σ.get r)) ∧ f none = none ∧ ∀ b, f (some b) = none ∨ ∃ p v, f (some b) = some (.val p v)) :
    IsPure P (fun σ => outV P ops L U env σ o) ∨ IsRead P fun σ => outV P ops L U env σ o := by
  rcases out_cases (P := P) (ops := ops) (L := L) (U := U) (env := env) o with h1 | h1 | h1
  · left; simp only [h1]; exact pure_skip
  · left; simp only [h1]; exact pure_stuck
  · rcases h with h | ⟨p, v, h⟩ | ⟨r, f, h, h0, hf⟩
    · left; simp only [h1, h, outW, hc]; exact pure_stuck
    · left; simp only [h1, h, outW]; exact pure_val p v
    · right
      refine ⟨r, fun b => match f (some b) with | some (.val p _) => p | _ => False, fun b => match f (some b) with | some (.val _ v) => v | _ => .dead, fun σ K => ?_⟩
      simp only [h1, h, outW]
      cases hg : σ.get r with
      | none => simp [h0, hc, Out.ap]
      | some b =>
        rcases hf b with hb | ⟨p, v, hb⟩
        · simp [hb, hc, Out.ap]
        · simp [hb, Out.ap, Eff.ap]
theorem new_cond {b : Bool} {p : Prop} {k : Blk} {u : Nat → V} : cond b (some (Eff.new p k u)) none = none ∨ (∃ p' v, cond b (some (Eff.new p k u)) none = some (.val p' v)) ∨ ∃ p' k' u', cond b (some (Eff.new p k u)) none = some (.new p' k' u') := by
  cases b
  · exact .inl rfl
  · exact .inr (.inr ⟨p, k, u, rfl⟩)
theorem cls_new {o : Oper} (h : clsOf L U o = .alloc) : IsPure P (fun σ => outV P ops L U env σ o) ∨ IsNew P fun σ => outV P ops L U env σ o := by
  have key : ∀ m : Option Eff, (∀ σ, mop P L env σ o = m) → callV env o = none → (m = none ∨ (∃ p v, m = some (.val p v)) ∨ ∃ p k u, m = some (.new p k u)) → IsPure P (fun σ => outV P ops L U env σ o) ∨ IsNew P fun σ => outV P ops L U env σ o := by
    intro m hm hc hs
    rcases out_cases (P := P) (ops := ops) (L := L) (U := U) (env := env) o with h1 | h1 | h1
    · left; simp only [h1]; exact pure_skip
    · left; simp only [h1]; exact pure_stuck
    · rcases hs with rfl | ⟨p, v, rfl⟩ | ⟨p, k, u, rfl⟩
      · left; simp only [h1, hm, outW, hc]; exact pure_stuck
      · left; simp only [h1, hm, outW]; exact pure_val p v
      · right; simp only [h1, hm, outW]; exact ⟨p, k, u, fun σ K => Iff.rfl⟩
  obtain ⟨dst, op, ty, pos, after, guard⟩ := o
  cases op <;> simp only [clsOf, reduceCtorEq] at h
  case load t x => split at h <;> (try split at h) <;> cases h
  case buildSlice bt bn bp => split at h <;> cases h
  case alloc t =>
    refine key (mAlloc P t) (fun _ => rfl) rfl ?_
    unfold mAlloc
    cases zeroT P t with
    | none => exact .inl rfl
    | some cs => exact new_cond
  case box t x => exact key (mBox (ev env x)) (fun _ => rfl) rfl (.inr (.inr ⟨_, _, _, rfl⟩))
  case makeMap t r =>
    refine key (mMakeMap t (r.map (ev env))) (fun _ => rfl) rfl ?_
    cases r with
    | none => exact .inr (.inr ⟨_, _, _, rfl⟩)
    | some r => exact .inl rfl
  case makeSlice t l c =>
    refine key (mMake P t (ev env l) (ev env c)) (fun _ => rfl) rfl ?_
    unfold mMake
    split
    · split
      · exact new_cond
      · exact .inl rfl
    · exact .inl rfl
  case call c =>
    obtain ⟨callee, args, ats⟩ := c
    cases callee <;> simp only [reduceCtorEq] at h
    · rename_i f
      cases f <;> simp only [reduceCtorEq] at h
      split at h <;> (try split at h) <;> (try split at h) <;> cases h
    · rename_i b
      cases b <;> simp only [reduceCtorEq] at h <;> (split at h <;> (try split at h) <;> cases h)
theorem conv_shape {s d : Nat} {x : V} : (∀ σ : Hp, mConv P s d σ x = none) ∨ (∃ p v, ∀ σ : Hp, mConv P s d σ x = some (.val p v)) ∨
    ∃ (r : Nat) (f : Option Blk → Option Eff), (∀ σ : Hp, mConv P s d σ x = f (σ.get r)) ∧ f none = none ∧ ∀ b, f (some b) = none ∨ ∃ p v, f (some b) = some (.val p v) := by
  have hrd : (∃ g off len cap sz, x = .bs g off len cap sz) ∨ ∀ g off len cap sz, x ≠ .bs g off len cap sz := by
    cases x <;> first | exact .inl ⟨_, _, _, _, _, rfl⟩ | exact .inr (by simp)
  rcases hrd with ⟨g, off, len, cap, sz, rfl⟩ | hx
  · unfold mConv
    split
    case h_4 _ _ _ e h1 h2 hns =>
      by_cases hu : P.underlying e = some (.int .u8)
      · cases hq : (Nat.beq 1 1 && Nat.beq sz 1) with
        | false =>
          left; intro σ
          simp only [hu, srcOf]
          cases σ.get g with
          | none => rfl
          | some b => cases b <;> first | rfl | simp only [hq, cond_false]
        | true =>
          right; right
          refine ⟨g, fun b => match b with | some (.cells cs) => some (.val ((∀ cs', some (Blk.cells cs) = some (.cells cs') → off + len ≤ cs'.length) ∧ ((cs.drop off).take len).all isU8 = true) (.str (strV ((cs.drop off).take len)))) | _ => none, fun σ => ?_, rfl, fun b => by cases b <;> first | exact .inr ⟨_, _, rfl⟩ | exact .inl rfl⟩
          simp only [hu, srcOf, srcP]
          cases σ.get g with
          | none => rfl
          | some b => cases b <;> first | rfl | simp only [hq, cond_true]
      · left; intro σ
        simp only [srcOf]
        cases hq : P.underlying e with
        | none => rfl
        | some d => 
          cases d <;> try rfl
          rename_i k
          cases k <;> first | rfl | exact absurd hq hu
    all_goals first
      | exact .inl fun _ => rfl
      | (rename_i heq; cases heq)
      | (rename_i heq _; cases heq)
      | skip
  · have hs : ∀ σ, srcOf σ 1 x = srcOf Hp.empty 1 x := fun σ => by cases x <;> first | rfl | exact absurd rfl (hx _ _ _ _ _)
    have hp : ∀ σ, srcP σ x = srcP Hp.empty x := fun σ => by cases x <;> first | rfl | exact absurd rfl (hx _ _ _ _ _)
    have heq : ∀ σ, mConv P s d σ x = mConv P s d Hp.empty x := fun σ => by
      unfold mConv
      split <;> first | rfl | simp only [hs σ, hp σ]
    cases hm : mConv P s d Hp.empty x with
    | none => exact .inl fun σ => (heq σ).trans hm
    | some e =>
      have hv : ∃ p v, e = .val p v := by
        unfold mConv at hm
        split at hm <;> first | (cases hm; exact ⟨_, _, rfl⟩) | (split at hm <;> first | (cases hm; exact ⟨_, _, rfl⟩) | cases hm) | cases hm
      obtain ⟨p, v, rfl⟩ := hv
      exact .inr (.inl ⟨p, v, fun σ => (heq σ).trans hm⟩)
theorem cls_read {o : Oper} (h : clsOf L U o = .read) : IsPure P (fun σ => outV P ops L U env σ o) ∨ IsRead P fun σ => outV P ops L U env σ o := by
  obtain ⟨dst, op, ty, pos, after, guard⟩ := o
  cases op <;> simp only [clsOf, reduceCtorEq] at h
  case buildSlice bt bn bp => split at h <;> cases h
  case load t x =>
    split at h
    · cases h
    · rename_i hp
      split at h
      · cases h
      rename_i hk
      have hp' : plainAt L dst = false := by simpa using hp
      have hk' : readkAt L dst = false := by simpa using hk
      refine read_of (L := L) rfl ?_
      have hm : ∀ σ, mop P L env σ ⟨dst, .load t x, ty, pos, after, guard⟩ = mLoad P σ t (ev env x) := fun σ => by simp only [mop, hp', hk', cond_false]
      simp only [hm]
      exact load_shape
  case convert s d x => exact read_of rfl conv_shape
  case lookup t x k ok => exact read_of rfl lookup_shape
  case call c =>
    obtain ⟨callee, args, ats⟩ := c
    cases callee <;> simp only [reduceCtorEq] at h
    · rename_i f
      cases f <;> simp only [reduceCtorEq] at h
      split at h <;> (try split at h) <;> (try split at h) <;> cases h
    · rename_i b
      cases b <;> simp only [reduceCtorEq] at h <;> try (split at h <;> (try split at h) <;> cases h)
      refine read_of (L := L) rfl ?_
      have hm : ∀ σ, mop P L env σ ⟨dst, .call ⟨.builtin .len, args, ats⟩, ty, pos, after, guard⟩ = mBuiltin P (plainAt L dst) σ .len ats.toList (args.toList.map (ev env)) := fun _ => rfl
      simp only [hm]
      generalize ats.toList = tl
      generalize List.map (ev env) args.toList = vl
      rcases tl with _ | ⟨t, _ | ⟨t2, ts⟩⟩
      · exact .inl fun _ => rfl
      · rcases vl with _ | ⟨x, _ | ⟨y, _⟩⟩
        · exact .inl fun _ => rfl
        · exact len_shape
        · exact .inl fun _ => rfl
      · exact .inl fun _ => rfl
theorem cls_readk {o : Oper} (h : clsOf L U o = .readk) : IsPure P (fun σ => outV P ops L U env σ o) ∨ IsReadK P fun σ => outV P ops L U env σ o := by
  obtain ⟨dst, op, ty, pos, after, guard⟩ := o
  cases op <;> simp only [clsOf, reduceCtorEq] at h
  case buildSlice bt bn bp => split at h <;> cases h
  case load t x =>
    split at h
    · cases h
    · rename_i hp
      split at h
      · rename_i hk
        have hp' : plainAt L dst = false := by simpa using hp
        have hm : ∀ σ, mop P L env σ ⟨dst, .load t x, ty, pos, after, guard⟩ = mLoadK P σ t (ev env x) := fun σ => by simp only [mop, hp', hk, cond_false, cond_true]
        rcases out_cases (P := P) (ops := ops) (L := L) (U := U) (env := env) ⟨dst, .load t x, ty, pos, after, guard⟩ with h1 | h1 | h1
        · left; simp only [h1]; exact pure_skip
        · left; simp only [h1]; exact pure_stuck
        · have h2 : ∀ σ, outV P ops L U env σ ⟨dst, .load t x, ty, pos, after, guard⟩ = match mLoadK P σ t (ev env x) with | some e => .eff e | none => .stuck := fun σ => by
            rw [h1 σ, hm σ]; rfl
          generalize ev env x = y at h2
          cases y with
          | ptr g off =>
            right
            refine ⟨g, fun cs => match mLoad P (Hp.empty.set g (.cells cs)) t (.ptr g off) with | some (.val p _) => p | _ => False, fun cs => match mLoad P (Hp.empty.set g (.cells cs)) t (.ptr g off) with | some (.val _ v) => v | _ => .dead, fun σ K => ?_⟩
            simp only [h2]
            unfold mLoadK mLoad
            cases szT P t with
            | none => simp [Out.ap]
            | some m =>
              cases aggT P t with
              | none => simp [Out.ap]
              | some b =>
                cases hg : σ.get g with
                | none => cases b <;> simp [Out.ap, hg]
                | some bl =>
                  cases bl with
                  | cells cs => cases b <;> simp [Out.ap, hg, Eff.also, Eff.ap, cellsAt, Hp.get_set_same, and_assoc]
                  | _ => cases b <;> simp [Out.ap, hg]
          | _ => left; simp only [h2, mLoadK]; exact pure_stuck
      · cases h
  case call c =>
    obtain ⟨callee, args, ats⟩ := c
    cases callee <;> simp only [reduceCtorEq] at h
    · rename_i f
      cases f <;> simp only [reduceCtorEq] at h
      split at h <;> (try split at h) <;> (try split at h) <;> cases h
    · rename_i b
      cases b <;> simp only [reduceCtorEq] at h <;> (split at h <;> (try split at h) <;> cases h)
theorem cls_kcall {o : Oper} (h : clsOf L U o = .kcall) : IsPure P (fun σ => outV P ops L U env σ o) ∨ ∃ f args, ∀ σ, outV P ops L U env σ o = .kcall f args := by
  obtain ⟨dst, op, ty, pos, after, guard⟩ := o
  cases op <;> simp only [clsOf, reduceCtorEq] at h
  case load t x => split at h <;> (try split at h) <;> cases h
  case buildSlice bt bn bp => split at h <;> cases h
  rename_i c
  obtain ⟨callee, args, ats⟩ := c
  cases callee <;> simp only [reduceCtorEq] at h
  · rename_i f
    cases f <;> simp only [reduceCtorEq] at h
    rename_i f
    split at h
    · cases h
    · rename_i hU0
      split at h
      · cases h
      · rename_i hU1
        split at h
        · rename_i hU
          rcases out_cases (P := P) (ops := ops) (L := L) (U := U) (env := env) ⟨dst, .call ⟨.value (.func f), args, ats⟩, ty, pos, after, guard⟩ with h1 | h1 | h1
          · left; simp only [h1]; exact pure_skip
          · left; simp only [h1]; exact pure_stuck
          · right
            refine ⟨f, args.toList.map (ev env) ++ [], fun σ => ?_⟩
            rw [h1 σ]
            simp only [outW, mop, callV, ev, hU, Bool.eq_false_iff.2 hU0, Bool.eq_false_iff.2 hU1, cond_true, cond_false]
        · cases h
  · rename_i b
    cases b <;> simp only [reduceCtorEq] at h <;> (split at h <;> (try split at h) <;> cases h)
theorem srcOf_fresh {σ : Hp} {g : Nat} {k : Blk} (hg : σ.get g = none) {n : Nat} {y : V} {ys : List V} (h : srcOf σ n y = some ys) : srcOf (σ.set g k) n y = some ys ∧ (srcP σ y → srcP (σ.set g k) y) := by
  cases y <;> first | exact ⟨h, fun x => x⟩ | skip
  rename_i gb off len cap sz
  simp only [srcOf] at h ⊢
  have hne : gb ≠ g := fun e => by rw [e, hg] at h; cases h
  simp only [srcP, Hp.get_set_ne _ _ hne]
  exact ⟨h, fun x => x⟩
/-- An append by a token, beside a new name. -/
theorem mTok_fresh {σ : Hp} {g : Nat} {k : Blk} (hg : σ.get g = none) {ts : List TypeId} {vs : List V} {e : Eff} (h : mTok P σ ts vs = some e) :
    (∃ p p' v, e = .val p v ∧ mTok P (σ.set g k) ts vs = some (.val p' v) ∧ (p → p')) ∨ (∃ p p' b v, e = .new p b v ∧ mTok P (σ.set g k) ts vs = some (.new p' b v) ∧ (p → p')) ∨
    ∃ p p' g2 b v, e = .set p g2 b v ∧ mTok P (σ.set g k) ts vs = some (.set p' g2 b v) ∧ (p → p') ∧ g2 ≠ g := by
  unfold mTok at h ⊢
  split at h
  case h_2 => cases h
  rename_i t t2 x y
  unfold mAppend at h ⊢
  split at h
  case h_2 => cases h
  rename_i el hel
  try simp only [hel]
  split at h
  case h_2 => cases h
  rename_i n bytes zs h1 h2 h3
  try simp only [h1, h2, h3]
  cases hq : (notInt P t2 && Nat.ble 1 bytes && Nat.beq zs.length n) with
  | false => rw [hq] at h; cases h
  | true =>
    rw [hq, cond_true] at h
    try simp only [cond_true]
    cases hy : srcOf σ n y with
    | none => rw [hy] at h; cases h
    | some ys =>
      rw [hy] at h
      obtain ⟨hy', hp⟩ := srcOf_fresh (k := k) hg hy
      simp only [hy'] at h ⊢
      cases x <;> try (cases h; done)
      rename_i sz es tag
      cases tag with
      | no => cases h
      | full =>
        simp only [cond_false] at h ⊢
        cases es with
        | nil => cases h; exact .inr (.inl ⟨_, _, _, _, rfl, rfl, fun x => ⟨hp x.1, x.2⟩⟩)
        | cons e1 es1 =>
          simp only at h ⊢
          cases hb : Nat.beq sz n with
          | false => rw [hb] at h; cases h
          | true => rw [hb] at h; cases h; exact .inl ⟨_, _, _, rfl, rfl, fun x => ⟨hp x.1, x.2⟩⟩
      | tk g2 =>
        simp only at h ⊢
        have hne : g2 ≠ g := fun e => by
          rw [e, hg] at h; cases h
        rw [Hp.get_set_ne _ _ hne]
        split at h
        case h_2 => cases h
        rename_i sz' m hgt
        try simp only [hgt]
        cases hb : (Nat.beq sz' n && (Nat.beq sz n || es.isEmpty)) with
        | false => rw [hb] at h; cases h
        | true => rw [hb] at h; cases h; exact .inr (.inr ⟨_, _, _, _, _, rfl, rfl, fun x => ⟨hp x.1, x.2⟩, hne⟩)
theorem app_alloc {o : Oper} (h : clsOf L U o = .appd) {σ : Hp} {g : Nat} {kb : Blk} (hg : σ.get g = none) {K : V → Hp → Nat → Prop} (hx : (outV P ops L U env σ o).ap P σ fun v τ => ∀ g, τ.get g = none → K v (τ.set g kb) g) :
    (outV P ops L U env (σ.set g kb) o).ap P (σ.set g kb) fun v τ => K v τ g := by
  obtain ⟨dst, op, ty, pos, after, guard⟩ := o
  cases op <;> simp only [clsOf, reduceCtorEq] at h
  case load t x => split at h <;> (try split at h) <;> cases h
  case buildSlice bt bn bp => split at h <;> cases h
  rename_i c
  obtain ⟨callee, args, ats⟩ := c
  cases callee <;> simp only [reduceCtorEq] at h
  · rename_i f
    cases f <;> simp only [reduceCtorEq] at h
    split at h <;> (try split at h) <;> (try split at h) <;> cases h
  · rename_i b
    cases b <;> simp only [reduceCtorEq] at h
    case append =>
      split at h
      case isFalse => split at h <;> cases h
      rename_i htk
      rcases out_cases (P := P) (ops := ops) (L := L) (U := U) (env := env) ⟨dst, .call ⟨.builtin .append, args, ats⟩, ty, pos, after, guard⟩ with h1 | h1 | h1
      · rw [h1] at hx ⊢; exact hx g hg
      · rw [h1] at hx ⊢; exact hx.elim
      · rw [h1] at hx ⊢
        have hm : ∀ τ, mop P L env τ ⟨dst, .call ⟨.builtin .append, args, ats⟩, ty, pos, after, guard⟩ = mTok P τ ats.toList (args.toList.map (ev env)) := fun τ => by simp only [mop, htk, cond_true]
        rw [hm] at hx ⊢
        cases he : mTok P σ ats.toList (args.toList.map (ev env)) with
        | none => rw [he] at hx; simp [outW, callV, Out.ap] at hx
        | some e =>
          rw [he] at hx
          rcases mTok_fresh (k := kb) hg he with ⟨p, p', v, rfl, e2, hp⟩ | ⟨p, p', b, v, rfl, e2, hp⟩ | ⟨p, p', g2, b, v, rfl, e2, hp, hne⟩
          · rw [e2]
            exact ⟨hp hx.1, hx.2 g hg⟩
          · rw [e2]
            refine ⟨hp hx.1, fun g3 hg3 => ?_⟩
            have hne : g3 ≠ g := fun e => by subst e; simp at hg3
            rw [Hp.get_set_ne _ _ hne] at hg3
            have := hx.2 g3 hg3 g (by rw [Hp.get_set_ne _ _ (Ne.symm hne)]; exact hg)
            rw [Hp.set_comm _ _ _ (Ne.symm hne)]
            exact this
          · rw [e2]
            refine ⟨hp hx.1, ?_⟩
            have := hx.2 g (by rw [Hp.get_set_ne _ _ (Ne.symm hne)]; exact hg)
            rw [Hp.set_comm _ _ _ (Ne.symm hne)]
            exact this
    all_goals first | (split at h <;> cases h; done) | (cases h; done) | skip
end Go.Vm
/- Vm, part 18: operations change places; the order of the text serves all orders. -/
namespace Go.Vm
variable {X : Ext} {G H G0 : Ghost} {σ : Hp} {w : World} {P : Program} {n : Nat} {env : Env} {a : Act} {Q : Exit → Env → Hp → Prop} {ops : Array Oper} {L U : List Nat}
theorem Out.prop {o : Out} {p : Prop} (h : o.ap P σ fun _ _ => p) : p := by
  cases o with
  | skip => exact h
  | eff e => cases e with
    | val q v => exact h.2
    | new q k v => obtain ⟨g, hg, _⟩ := σ.fresh2 0; exact h.2 g hg
    | set q g k v => exact h.2
    | any q g l d =>
      cases l with
      | nil => exact h.2.1 rfl
      | cons y l => exact h.2.2 y (List.mem_cons_self ..)
    | app q g m n pre => exact h.2 g m [] (.inl rfl) (Nat.le_refl _) (by simp)
  | pcall f args => obtain ⟨r, _, h⟩ := h; exact h
  | rcall f args => obtain ⟨r, _, h⟩ := h; exact h
  | kcall f args => obtain ⟨Post, hs, ⟨v, σ', hp⟩, _, h⟩ := h; exact h v σ' hp
  | call f args => obtain ⟨Post, hs, ⟨v, σ', hp⟩, h⟩ := h; exact h v σ' hp
  | stuck => exact h.elim
def comm (L U : List Nat) (k j : Oper) : Bool :=
  match clsOf L U k, clsOf L U j with
  | .pure, _ | .pcall, _ | _, .pure | .read, .read | .read, .alloc | .read, .pcall | .read, .rcall | .rcall, .read | .rcall, .rcall | .rcall, .pcall | .rcall, .alloc | .alloc, .read | .alloc, .alloc | .readk, .kcall | .readk, .read | .appd, .alloc => true
  | _, _ => false
theorem swap {k j : Oper} {K : Env → Hp → Prop} (hK : Resp K) (hap : k.apart ops j = true) (hsk : noSel k = true) (hsj : noSel j = true) (hc : comm L U k j = true)
    (h : step1 P ops L U n k (step1 P ops L U n j K) env σ) : step1 P ops L U n j (step1 P ops L U n k K) env σ := by
  obtain ⟨a1, a2, a3⟩ := Oper.apart_spec hap
  obtain ⟨dk, h⟩ := h
  have oj : ∀ v τ, outV P ops L U (env.put k.dst v) τ j = outV P ops L U env τ j := fun v τ => out_put hsj (fun t ht => a1 t ht) τ
  have ok : ∀ v τ, outV P ops L U (env.put j.dst v) τ k = outV P ops L U env τ k := fun v τ => out_put hsk (fun t ht => a3 t ht) τ
  have pc : ∀ u v τ, K ((env.put k.dst u).put j.dst v) τ → K ((env.put j.dst v).put k.dst u) τ := fun u v τ => hK _ _ _ (put_comm u v a2)
  have hj : dstOk n j.dst := Out.prop (P := P) (Out.mono (fun v τ (x : step1 P ops L U n j K (env.put k.dst v) τ) => x.1) h)
  -- the first only computes
  have s1 : IsPc P (fun τ => outV P ops L U env τ k) → step1 P ops L U n j (step1 P ops L U n k K) env σ := fun ⟨C, hC⟩ => by
    obtain ⟨r, hr, _, h⟩ := (hC σ _).1 h
    rw [oj] at h
    refine ⟨hj, Out.mono (fun v τ x => ⟨dk, ?_⟩) h⟩
    rw [ok]; exact (hC τ _).2 ⟨r, hr, pc _ _ _ x⟩
  -- the second only computes
  have s2 : IsPure P (fun τ => outV P ops L U env τ j) → step1 P ops L U n j (step1 P ops L U n k K) env σ := fun ⟨p, u, hp⟩ => by
    have h1 : (outV P ops L U env σ k).ap P σ fun v τ => p ∧ K ((env.put k.dst v).put j.dst u) τ := Out.mono (fun v τ (x : step1 P ops L U n j K (env.put k.dst v) τ) => by have := x.2; rw [oj] at this; exact (hp τ _).1 this) h
    have hpp : p := Out.prop (P := P) (Out.mono (fun v τ x => x.1) h1)
    refine ⟨hj, (hp σ _).2 ⟨hpp, dk, ?_⟩⟩
    rw [ok]; exact Out.mono (fun v τ x => pc _ _ _ x.2) h1
  unfold comm at hc
  cases hck : clsOf L U k with
  | pure => exact s1 (pc_of_pure (cls_pure hck))
  | pcall => exact s1 (cls_pcall hck)
  | other =>
    cases hcj : clsOf L U j <;> simp [hck, hcj] at hc
    exact s2 (cls_pure hcj)
  | kcall =>
    cases hcj : clsOf L U j <;> simp [hck, hcj] at hc
    exact s2 (cls_pure hcj)
  | appd =>
    cases hcj : clsOf L U j with
    | pure => exact s2 (cls_pure hcj)
    | alloc =>
      rcases cls_new (P := P) (ops := ops) (L := L) (env := env) hcj with hjj | ⟨p2, k2, u2, hjj⟩
      · exact s2 hjj
      have h1 : (outV P ops L U env σ k).ap P σ fun v τ => p2 ∧ ∀ g, τ.get g = none → K ((env.put k.dst v).put j.dst (u2 g)) (τ.set g k2) :=
        Out.mono (fun v τ (x : step1 P ops L U n j K (env.put k.dst v) τ) => by have := x.2; rw [oj] at this; exact (hjj τ _).1 this) h
      have hpp : p2 := Out.prop (P := P) (Out.mono (fun v τ x => x.1) h1)
      refine ⟨hj, (hjj σ _).2 ⟨hpp, fun g hg => ⟨dk, ?_⟩⟩⟩
      rw [ok]
      exact Out.mono (fun v τ x => pc _ _ _ x) (app_alloc (P := P) (ops := ops) (U := U) hck hg (K := fun v τ g => K ((env.put k.dst v).put j.dst (u2 g)) τ) (Out.mono (fun v τ x => x.2) h1))
    | other => simp [hck, hcj] at hc
    | read => simp [hck, hcj] at hc
    | readk => simp [hck, hcj] at hc
    | kcall => simp [hck, hcj] at hc
    | appd => simp [hck, hcj] at hc
    | pcall => simp [hck, hcj] at hc
    | rcall => simp [hck, hcj] at hc
  | readk =>
    rcases cls_readk (P := P) (ops := ops) (L := L) (env := env) hck with hk | ⟨r, p, u, hk⟩
    · exact s1 (pc_of_pure hk)
    cases hcj : clsOf L U j with
    | pure => exact s2 (cls_pure hcj)
    | kcall =>
      rcases cls_kcall (P := P) (ops := ops) (L := L) (env := env) hcj with hjj | ⟨f, args, hjj⟩
      · exact s2 hjj
      obtain ⟨cs, hg, h2, hp, _, h⟩ := (hk σ _).1 h
      rw [oj] at h
      rw [hjj] at h
      obtain ⟨Post, q1, q2, q3, q4⟩ := h
      refine ⟨hj, ?_⟩
      show (outV P ops L U env σ j).ap P σ _
      rw [hjj]
      refine ⟨Post, q1, q2, q3, fun v σ' hv => ⟨dk, ?_⟩⟩
      rw [ok]
      exact (hk σ' _).2 ⟨cs, q3 v σ' hv r cs hg h2, h2, hp, pc _ _ _ (q4 v σ' hv)⟩
    | other => simp [hck, hcj] at hc
    | read =>
      rcases cls_read (P := P) (ops := ops) (L := L) (env := env) hcj with hjj | ⟨r2, p2, u2, hjj⟩
      · exact s2 hjj
      obtain ⟨cs, hg, h2, hp, _, h⟩ := (hk σ _).1 h
      rw [oj] at h
      obtain ⟨b2, hb2, hpb2, hK2⟩ := (hjj σ _).1 h
      refine ⟨hj, (hjj σ _).2 ⟨b2, hb2, hpb2, dk, ?_⟩⟩
      rw [ok]; exact (hk σ _).2 ⟨cs, hg, h2, hp, pc _ _ _ hK2⟩
    | readk => simp [hck, hcj] at hc
    | appd => simp [hck, hcj] at hc
    | pcall => simp [hck, hcj] at hc
    | rcall => simp [hck, hcj] at hc
    | alloc => simp [hck, hcj] at hc
  | rcall =>
    obtain ⟨C, mono, hC⟩ := cls_rcall (P := P) (ops := ops) (L := L) (env := env) hck
    obtain ⟨r, hr, _, h⟩ := (hC σ _).1 h
    rw [oj] at h
    cases hcj : clsOf L U j with
    | pure => exact s2 (cls_pure hcj)
    | other => simp [hck, hcj] at hc
    | readk => simp [hck, hcj] at hc
    | kcall => simp [hck, hcj] at hc
    | appd => simp [hck, hcj] at hc
    | pcall =>
      obtain ⟨C2, hC2⟩ := cls_pcall (P := P) (ops := ops) (L := L) (env := env) hcj
      obtain ⟨v, hv, hK2⟩ := (hC2 σ _).1 h
      refine ⟨hj, (hC2 σ _).2 ⟨v, hv, dk, ?_⟩⟩
      rw [ok]; exact (hC σ _).2 ⟨r, hr, pc _ _ _ hK2⟩
    | rcall =>
      obtain ⟨C2, _, hC2⟩ := cls_rcall (P := P) (ops := ops) (L := L) (env := env) hcj
      obtain ⟨v, hv, hK2⟩ := (hC2 σ _).1 h
      refine ⟨hj, (hC2 σ _).2 ⟨v, hv, dk, ?_⟩⟩
      rw [ok]; exact (hC σ _).2 ⟨r, hr, pc _ _ _ hK2⟩
    | read =>
      rcases cls_read (P := P) (ops := ops) (L := L) (env := env) hcj with hjj | ⟨r2, p2, u2, hjj⟩
      · exact s2 hjj
      obtain ⟨b2, hb2, hpb2, hK2⟩ := (hjj σ _).1 h
      refine ⟨hj, (hjj σ _).2 ⟨b2, hb2, hpb2, dk, ?_⟩⟩
      rw [ok]; exact (hC σ _).2 ⟨r, hr, pc _ _ _ hK2⟩
    | alloc =>
      rcases cls_new (P := P) (ops := ops) (L := L) (env := env) hcj with hjj | ⟨p2, k2, u2, hjj⟩
      · exact s2 hjj
      obtain ⟨hp2, hK2⟩ := (hjj σ _).1 h
      refine ⟨hj, (hjj σ _).2 ⟨hp2, fun g hg => ⟨dk, ?_⟩⟩⟩
      rw [ok]
      refine (hC _ _).2 ⟨r, mono _ _ _ (fun i k x => ?_) hr, pc _ _ _ (hK2 g hg)⟩
      rw [Hp.get_set_ne _ _ (fun e => by subst e; rw [x] at hg; cases hg)]; exact x
  | read =>
    rcases cls_read (P := P) (ops := ops) (L := L) (env := env) hck with hk | ⟨r, p, u, hk⟩
    · exact s1 (pc_of_pure hk)
    obtain ⟨b, hb, hpb, _, h⟩ := (hk σ _).1 h
    rw [oj] at h
    cases hcj : clsOf L U j with
    | pure => exact s2 (cls_pure hcj)
    | other => simp [hck, hcj] at hc
    | readk => simp [hck, hcj] at hc
    | kcall => simp [hck, hcj] at hc
    | appd => simp [hck, hcj] at hc
    | pcall =>
      obtain ⟨C, hC⟩ := cls_pcall (P := P) (ops := ops) (L := L) (env := env) hcj
      obtain ⟨v, hv, hK2⟩ := (hC σ _).1 h
      refine ⟨hj, (hC σ _).2 ⟨v, hv, dk, ?_⟩⟩
      rw [ok]; exact (hk σ _).2 ⟨b, hb, hpb, pc _ _ _ hK2⟩
    | rcall =>
      obtain ⟨C, _, hC⟩ := cls_rcall (P := P) (ops := ops) (L := L) (env := env) hcj
      obtain ⟨v, hv, hK2⟩ := (hC σ _).1 h
      refine ⟨hj, (hC σ _).2 ⟨v, hv, dk, ?_⟩⟩
      rw [ok]; exact (hk σ _).2 ⟨b, hb, hpb, pc _ _ _ hK2⟩
    | read =>
      rcases cls_read (P := P) (ops := ops) (L := L) (env := env) hcj with hjj | ⟨r2, p2, u2, hjj⟩
      · exact s2 hjj
      obtain ⟨b2, hb2, hpb2, hK2⟩ := (hjj σ _).1 h
      refine ⟨hj, (hjj σ _).2 ⟨b2, hb2, hpb2, dk, ?_⟩⟩
      rw [ok]; exact (hk σ _).2 ⟨b, hb, hpb, pc _ _ _ hK2⟩
    | alloc =>
      rcases cls_new (P := P) (ops := ops) (L := L) (env := env) hcj with hjj | ⟨p2, k2, u2, hjj⟩
      · exact s2 hjj
      obtain ⟨hp2, hK2⟩ := (hjj σ _).1 h
      refine ⟨hj, (hjj σ _).2 ⟨hp2, fun g hg => ⟨dk, ?_⟩⟩⟩
      rw [ok]
      refine (hk _ _).2 ⟨b, ?_, hpb, pc _ _ _ (hK2 g hg)⟩
      rw [Hp.get_set_ne _ _ (fun e => by subst e; rw [hb] at hg; cases hg)]; exact hb
  | alloc =>
    rcases cls_new (P := P) (ops := ops) (L := L) (env := env) hck with hk | ⟨p, kk, u, hk⟩
    · exact s1 (pc_of_pure hk)
    obtain ⟨hp, h⟩ := (hk σ _).1 h
    cases hcj : clsOf L U j with
    | pure => exact s2 (cls_pure hcj)
    | other => simp [hck, hcj] at hc
    | readk => simp [hck, hcj] at hc
    | kcall => simp [hck, hcj] at hc
    | appd => simp [hck, hcj] at hc
    | pcall => simp [hck, hcj] at hc
    | rcall => simp [hck, hcj] at hc
    | read =>
      rcases cls_read (P := P) (ops := ops) (L := L) (env := env) hcj with hjj | ⟨r2, p2, u2, hjj⟩
      · exact s2 hjj
      obtain ⟨g0, hg0, hne⟩ := σ.fresh2 r2
      have h0 := (h g0 hg0).2
      rw [oj] at h0
      obtain ⟨b2, hb2, hpb2, _⟩ := (hjj _ _).1 h0
      rw [Hp.get_set_ne _ _ (Ne.symm hne)] at hb2
      refine ⟨hj, (hjj σ _).2 ⟨b2, hb2, hpb2, dk, ?_⟩⟩
      rw [ok]
      refine (hk σ _).2 ⟨hp, fun g hg => ?_⟩
      have h1 := (h g hg).2
      rw [oj] at h1
      obtain ⟨b3, hb3, hpb3, hK3⟩ := (hjj _ _).1 h1
      rw [Hp.get_set_ne _ _ (fun e => by subst e; rw [hb2] at hg; cases hg), hb2] at hb3
      cases hb3
      exact pc _ _ _ hK3
    | alloc =>
      rcases cls_new (P := P) (ops := ops) (L := L) (env := env) hcj with hjj | ⟨p2, k2, u2, hjj⟩
      · exact s2 hjj
      have hp2 : p2 := by
        obtain ⟨g0, hg0, _⟩ := σ.fresh2 0
        have h0 := (h g0 hg0).2
        rw [oj] at h0
        exact ((hjj _ _).1 h0).1
      refine ⟨hj, (hjj σ _).2 ⟨hp2, fun g' hg' => ⟨dk, ?_⟩⟩⟩
      rw [ok]
      refine (hk _ _).2 ⟨hp, fun g hg => ?_⟩
      have hne : g ≠ g' := fun e => by subst e; simp at hg
      rw [Hp.get_set_ne _ _ hne] at hg
      have h1 := (h g hg).2
      rw [oj] at h1
      have h2 := ((hjj _ _).1 h1).2 g' (by rw [Hp.get_set_ne _ _ (Ne.symm hne)]; exact hg')
      rw [Hp.set_comm _ _ _ (Ne.symm hne)]
      exact pc _ _ _ h2
/-- One comes up ahead of others. -/
theorem front (hQ : Resp (Q .normal)) {j : Oper} {post : List Oper} (hsj : noSel j = true) : ∀ (pre : List Oper), (∀ k ∈ pre, k.apart ops j = true ∧ noSel k = true ∧ comm L U k j = true) → ∀ env σ,
    runA P ops L U n Q (pre ++ j :: post) env σ → step1 P ops L U n j (runA P ops L U n Q (pre ++ post)) env σ
  | [], _, env, σ, h => h
  | k :: pre, hk, env, σ, h => by
    have ih := front (post := post) hQ hsj pre (fun x hx => hk x (List.mem_cons_of_mem _ hx))
    obtain ⟨h1, h2, h3⟩ := hk k (List.mem_cons_self ..)
    exact swap (runA_resp hQ _) h1 h2 hsj h3 (step1_mono ih h)
theorem step1_sound {Q' : Exit → Act → World → Prop} {K : Env → Hp → Prop} {i : Nat} {o : Oper} (hi : ops[i]? = some o) (hs : St X G0 n env σ a w) (h : step1 P ops L U n o K env σ) :
    wpOp P ops Q' i (fun a' w' => ∃ env' σ', K env' σ' ∧ St X G0 n env' σ' a' w') a w := by
  obtain ⟨G, h0, hI, hn, hd, hv⟩ := hs
  obtain ⟨hdst, h⟩ := h
  unfold wpOp
  simp only [hi]
  unfold outV at h
  cases hw : wantV ops env o with
  | none => rw [hw] at h; exact h.elim
  | some b =>
    rw [hw] at h
    rw [wantV_spec hv hw]
    cases b with
    | false =>
      rw [if_neg (by simp)]
      exact ⟨_, σ, h, St.put h0 (Ghost.Le.refl _) hI hn hd hv hdst (.tup [] #[] rfl fun i c hi => by cases hi)⟩
    | true =>
      rw [if_pos rfl]
      left
      simp only [cond_true] at h
      cases hm : mop P L env σ o with
      | some e =>
        rw [hm] at h
        obtain ⟨nx, r, w', v, σ', G', h1, h2, h3, le, hI', hr⟩ := mop_sound hI hv hm _ h
        unfold Oper.wp
        rw [h1]
        have hst := St.put h0 le hI' hn hd hv hdst hr
        rcases h2 with rfl | ⟨rfl, rfl⟩
        · exact ⟨_, σ', h3, hst⟩
        · exact ⟨_, σ', h3, hst⟩
      | none =>
        rw [hm] at h
        simp only at h
        cases hc : callV env o with
        | none => rw [hc] at h; exact h.elim
        | some fa =>
          obtain ⟨f, args⟩ := fa
          rw [hc] at h
          have key : ∃ Post, Spec P f args σ Post ∧ ∀ v σ', Post v σ' → K (env.put o.dst v) σ' := by
            simp only at h
            cases hU : memN f U with
            | true =>
              rw [hU] at h
              obtain ⟨r, h1, h2⟩ := h
              exact ⟨_, h1.frame σ, fun v σ' ⟨e1, e2⟩ => by subst e1; subst e2; exact h2⟩
            | false =>
              rw [hU] at h
              cases hR : memN (f + 1000000) U with
              | true =>
                rw [hR] at h
                obtain ⟨r, h1, h2⟩ := h
                exact ⟨_, h1 σ (fun _ _ x => x), fun v σ' ⟨e1, e2⟩ => by subst e1; subst e2; exact h2⟩
              | false =>
                rw [hR] at h
                cases hKk : memN (f + 2000000) U with
                | true => rw [hKk] at h; obtain ⟨Post, h1, _, _, h2⟩ := h; exact ⟨Post, h1, h2⟩
                | false => rw [hKk] at h; obtain ⟨Post, h1, _, h2⟩ := h; exact ⟨Post, h1, h2⟩
          obtain ⟨Post, ⟨hok, hspec⟩, hK⟩ := key
          obtain ⟨rargs, h1, h2⟩ := callV_spec hv hc hok w
          unfold Oper.wp
          rw [h1]
          show Calls P f rargs w _
          refine (hspec X G rargs w hI h2).mono ?_
          rintro e w' ⟨rv, v, σ', G', rfl, hp, le, hI', hr⟩
          exact ⟨_, σ', hK v σ' hp, St.put h0 le hI' hn hd hv hdst hr⟩
/-! ### what waits for what -/
inductive Reach (ops : Array Oper) : Nat → Nat → Prop where
  | one {i : Nat} {o : Oper} {e : Edge} (ho : ops[i]? = some o) (he : e ∈ o.after) (hb : Region.binds .any e = true) : Reach ops e.on i
  | more {k i : Nat} {o : Oper} {e : Edge} (ho : ops[i]? = some o) (he : e ∈ o.after) (hb : Region.binds .any e = true) (h : Reach ops k e.on) : Reach ops k i
theorem Reach.listed {listed : Array Bool} (hcl : ∀ j o e, listed.getD j false = true → ops[j]? = some o → e ∈ o.after → Region.binds .any e = true → listed.getD e.on false = true) {k i : Nat} (h : Reach ops k i)
    (hi : ∀ o e, ops[i]? = some o → e ∈ o.after → Region.binds .any e = true → listed.getD e.on false = true) : listed.getD k false = true := by
  induction h with
  | one ho he hb => exact hi _ _ ho he hb
  | more ho he hb _ ih => exact ih fun o' e' ho' he' hb' => hcl _ o' e' (hi _ _ ho he hb) ho' he' hb'
def maskOf (acc : List Nat) (o : Oper) : Nat := o.after.toList.foldl (fun s e => if Region.binds .any e then s ||| 2 ^ e.on ||| acc.getD e.on 0 else s) 0
def masks : List Oper → List Nat → List Nat
  | [], acc => acc
  | o :: os, acc => masks os (acc ++ [maskOf acc o])
theorem fold_bit (acc : List Nat) (k : Nat) : ∀ (l : List Edge) (s : Nat), (l.foldl (fun s e => if Region.binds .any e then s ||| 2 ^ e.on ||| acc.getD e.on 0 else s) s).testBit k = true →
    s.testBit k = true ∨ ∃ e ∈ l, Region.binds .any e = true ∧ (e.on = k ∨ (acc.getD e.on 0).testBit k = true)
  | [], s, h => .inl h
  | e :: l, s, h => by
    rcases fold_bit acc k l _ h with h | ⟨e', h1, h2⟩
    · dsimp only at h
      split at h
      · rename_i hb
        rw [Nat.testBit_or, Nat.testBit_or, Bool.or_eq_true, Bool.or_eq_true] at h
        rcases h with (h | h) | h
        · exact .inl h
        · exact .inr ⟨e, List.mem_cons_self .., hb, .inl (by rw [Nat.testBit_two_pow] at h; exact of_decide_eq_true h)⟩
        · exact .inr ⟨e, List.mem_cons_self .., hb, .inr h⟩
      · exact .inl h
    · exact .inr ⟨e', List.mem_cons_of_mem _ h1, h2⟩
theorem masks_reach (os : Array Oper) : ∀ (l : List Oper) (acc : List Nat), os.toList = os.toList.take acc.length ++ l → (∀ i k, (acc.getD i 0).testBit k = true → Reach os k i) →
    ∀ i k, ((masks l acc).getD i 0).testBit k = true → Reach os k i
  | [], acc, _, h => h
  | o :: l, acc, hl, h => by
    have hlen : acc.length < os.toList.length := by
      have := congrArg List.length hl
      simp only [List.length_append, List.length_take, List.length_cons] at this
      omega
    have ho : os.toList[acc.length]? = some o := by
      rw [hl, List.getElem?_append_right (by simp; omega)]
      simp only [List.length_take]
      rw [show acc.length - min acc.length os.toList.length = 0 by omega]; rfl
    refine masks_reach os l (acc ++ [maskOf acc o]) ?_ ?_
    · rw [List.length_append, List.length_singleton, List.take_succ_eq_append_getElem hlen]
      have h2 : os.toList[acc.length] = o := by
        rw [List.getElem?_eq_getElem hlen] at ho; cases ho; rfl
      rw [h2, List.append_assoc, List.singleton_append]; exact hl
    · intro i k hb
      rw [List.getD_eq_getElem?_getD, List.getElem?_append] at hb
      split at hb
      · exact h i k (by rw [List.getD_eq_getElem?_getD]; exact hb)
      · by_cases e : i = acc.length
        · subst e
          simp only [Nat.sub_self, List.getElem?_cons_zero, Option.getD_some] at hb
          have ho' : os[acc.length]? = some o := by simpa using ho
          rcases fold_bit acc k _ 0 hb with h0 | ⟨e, h1, h2, h3⟩
          · simp at h0
          · have h1' : e ∈ o.after := by simpa using h1
            rcases h3 with h3 | h3
            · subst h3; exact .one ho' h1' h2
            · exact .more ho' h1' h2 (h _ _ h3)
        · rw [List.getElem?_eq_none (by simp; omega)] at hb; simp at hb
/-- Operations that nothing orders change places; none is of a kind that we don't tell; and each waits for earlier ones alone. -/
def drawOk (L U : List Nat) (ops : Array Oper) : Bool :=
  let ms := masks ops.toList []
  (ops.toList.zipIdx).all fun (o, i) => noSel o && o.after.all (fun e => !Region.binds .any e || Nat.blt e.on i) && (ops.toList.zipIdx).all fun (k, j) => !(Nat.blt j i) || (ms.getD i 0).testBit j || (k.apart ops o && comm L U k o)
def Qh (Q : Exit → Env → Hp → Prop) : Exit → Env → Hp → Prop := fun e env σ => ∃ env0, Eqv env0 env ∧ Q e env0 σ
theorem Qh_resp : Resp (Qh Q .normal) := fun e e' σ he ⟨e0, h1, h2⟩ => ⟨e0, fun t => (h1 t).trans (he t), h2⟩
theorem runA_mono {Q' : Exit → Env → Hp → Prop} (h : ∀ env σ, Q .normal env σ → Q' .normal env σ) : ∀ l env σ, runA P ops L U n Q l env σ → runA P ops L U n Q' l env σ
  | [], env, σ, x => h _ _ x
  | o :: l, env, σ, x => step1_mono (runA_mono h l) x
structure Draw (L U : List Nat) (ops : Array Oper) : Prop where
  sel : ∀ (i : Nat) (o : Oper), ops[i]? = some o → noSel o = true
  back : ∀ (i : Nat) (o : Oper) (e : Edge), ops[i]? = some o → e ∈ o.after → Region.binds .any e = true → e.on < i
  pair : ∀ (i j : Nat) (o k : Oper), ops[i]? = some o → ops[j]? = some k → j < i → Reach ops j i ∨ (k.apart ops o = true ∧ comm L U k o = true)
theorem drawOk_spec (h : drawOk L U ops = true) : Draw L U ops := by
  unfold drawOk at h
  simp only [List.all_eq_true] at h
  have mem : ∀ (i : Nat) (o : Oper), ops[i]? = some o → (o, i) ∈ ops.toList.zipIdx := fun i o hi => by
    rw [List.mem_zipIdx_iff_getElem?]; simpa using hi
  refine ⟨fun i o hi => ?_, fun i o e hi he hb => ?_, fun i j o k hi hj hlt => ?_⟩
  · have := h (o, i) (mem i o hi)
    simp only [Bool.and_eq_true] at this
    exact this.1.1
  · have := h (o, i) (mem i o hi)
    simp only [Bool.and_eq_true] at this
    have h2 := Array.all_eq_true_iff_forall_mem.1 this.1.2 e he
    rw [hb] at h2
    simpa [Nat.blt_eq] using h2
  · have := h (o, i) (mem i o hi)
    simp only [Bool.and_eq_true] at this
    have h2 := List.all_eq_true.1 this.2 (k, j) (mem j k hj)
    simp only [Bool.or_eq_true, Bool.not_eq_true', Bool.and_eq_true] at h2
    rcases h2 with (h2 | h2) | h2
    · rw [show Nat.blt j i = true from by simpa [Nat.blt_eq] using hlt] at h2; cases h2
    · exact .inl (masks_reach ops ops.toList [] (by simp) (fun i k hb => by simp at hb) i j h2)
    · exact .inr h2
theorem any_sound (hD : Draw L U ops) (hQ : Resp (Q .normal)) : ∀ (fuel : Nat) (listed : Array Bool) (env : Env) (σ : Hp) (a : Act) (w : World), listed.size = ops.size →
    (∀ j o e, listed.getD j false = true → ops[j]? = some o → e ∈ o.after → Region.binds .any e = true → listed.getD e.on false = true) →
    ((List.range ops.size).filter fun i => !listed.getD i true).length ≤ fuel →
    runA P ops L U n Q (((List.range ops.size).filter fun i => !listed.getD i true).map fun i => ops.getD i default) env σ → St X G0 n env σ a w →
    wpAny P .any ops (fun e a' w' => ∃ env' σ', Q e env' σ' ∧ St X G0 n env' σ' a' w') fuel listed a w := by
  have nil : ∀ (listed : Array Bool), listed.size = ops.size → Region.ready .any ops listed = [] → ((List.range ops.size).filter fun i => !listed.getD i true) = [] := by
    intro listed hsz hr
    cases hl : (List.range ops.size).filter fun i => !listed.getD i true with
    | nil => rfl
    | cons i l =>
      exfalso
      have hmem : i ∈ (List.range ops.size).filter fun i => !listed.getD i true := by rw [hl]; exact List.mem_cons_self ..
      -- the least that is not yet there
      have hmin : ∀ k, k < i → k < ops.size → listed.getD k true = true := fun k hk hks => by
        cases hv : listed.getD k true with
        | true => rfl
        | false =>
          have hkm : k ∈ (List.range ops.size).filter fun i => !listed.getD i true := List.mem_filter.2 ⟨List.mem_range.2 hks, by rw [hv]; rfl⟩
          have hs : ((List.range ops.size).filter fun i => !listed.getD i true).Pairwise (· < ·) := (List.pairwise_lt_range).filter _
          rw [hl] at hkm hs
          rcases List.mem_cons.1 hkm with e | e
          · omega
          · have := (List.pairwise_cons.1 hs).1 k e; omega
      obtain ⟨h1, h2⟩ := List.mem_filter.1 hmem
      have hi := List.mem_range.1 h1
      have hrd : i ∈ Region.ready .any ops listed := by
        rw [mem_ready]
        refine ⟨by simpa using h2, ops[i], by simp [hi], fun e he hb => ?_⟩
        have hlt := hD.back i _ e (by simp [hi]) he hb
        have := hmin e.on hlt (by omega)
        have hls : e.on < listed.size := by omega
        simpa [hls] using this
      rw [hr] at hrd; cases hrd
  intro fuel
  induction fuel with
  | zero =>
    intro listed env σ a w hsz hcl hf h hs
    have hl : ((List.range ops.size).filter fun i => !listed.getD i true) = [] := List.eq_nil_of_length_eq_zero (by omega)
    rw [hl] at h
    refine ⟨?_, env, σ, h, hs⟩
    cases hr : Region.ready .any ops listed with
    | nil => rfl
    | cons i l =>
      have hm : i ∈ Region.ready .any ops listed := by rw [hr]; exact List.mem_cons_self ..
      obtain ⟨h1, o, h2, _⟩ := mem_ready.1 hm
      have : i ∈ (List.range ops.size).filter fun i => !listed.getD i true := List.mem_filter.2 ⟨List.mem_range.2 (Array.getElem?_eq_some_iff.1 h2).1, by rw [h1]; rfl⟩
      rw [hl] at this; cases this
  | succ fuel ih =>
    intro listed env σ a w hsz hcl hf h hs
    refine ⟨fun hr => ?_, fun i hi => ?_⟩
    · rw [nil listed hsz hr] at h
      exact ⟨env, σ, h, hs⟩
    · obtain ⟨h1, o, h2, h3⟩ := mem_ready.1 hi
      have hlt : i < ops.size := (Array.getElem?_eq_some_iff.1 h2).1
      have hm : i ∈ (List.range ops.size).filter fun i => !listed.getD i true := List.mem_filter.2 ⟨List.mem_range.2 hlt, by rw [h1]; rfl⟩
      obtain ⟨pre, post, hsplit⟩ := List.append_of_mem hm
      have hsorted : ((List.range ops.size).filter fun i => !listed.getD i true).Pairwise (· < ·) := (List.pairwise_lt_range).filter _
      have hnew : ((List.range ops.size).filter fun k => !(listed.setIfInBounds i true).getD k true) = pre ++ post := by
        have e1 : ((List.range ops.size).filter fun k => !(listed.setIfInBounds i true).getD k true) = (((List.range ops.size).filter fun k => !listed.getD k true).filter fun k => !(k == i)) := by
          rw [List.filter_filter]
          apply List.filter_congr
          intro k hk
          by_cases e : i = k
          · subst e
            have : i < listed.size := by omega
            simp [this]
          · have : (listed.setIfInBounds i true).getD k true = listed.getD k true := by simp [Array.getElem?_setIfInBounds_ne e]
            rw [this]
            have : (k == i) = false := by simp; exact fun h => e h.symm
            simp [this]
        rw [e1, hsplit]
        rw [hsplit] at hsorted
        have hp := List.pairwise_append.1 hsorted
        have hq := List.pairwise_cons.1 hp.2.1
        rw [List.filter_append, List.filter_cons]
        simp only [beq_self_eq_true, Bool.not_true, Bool.false_eq_true, if_false]
        congr 1
        · apply List.filter_eq_self.2
          intro k hk
          have := hp.2.2 k hk i (List.mem_cons_self ..)
          simp; omega
        · apply List.filter_eq_self.2
          intro k hk
          have := hq.1 k hk
          simp; omega
      rw [hsplit, List.map_append, List.map_cons] at h
      have hoi : ops.getD i default = o := by simp [h2]
      rw [hoi] at h
      have hpre : ∀ k ∈ pre, k < i ∧ k < ops.size ∧ listed.getD k true = false := fun k hk => by
        have hkm : k ∈ (List.range ops.size).filter fun i => !listed.getD i true := by rw [hsplit]; exact List.mem_append_left _ hk
        obtain ⟨k1, k2⟩ := List.mem_filter.1 hkm
        rw [hsplit] at hsorted
        exact ⟨(List.pairwise_append.1 hsorted).2.2 k hk i (List.mem_cons_self ..), List.mem_range.1 k1, by simpa using k2⟩
      have hst := front hQ (hD.sel i o h2) (pre.map fun i => ops.getD i default) (fun x hx => by
        obtain ⟨k, hk, rfl⟩ := List.mem_map.1 hx
        obtain ⟨k1, k2, k3⟩ := hpre k hk
        have hok : ops[k]? = some (ops.getD k default) := by simp [k2]
        rcases hD.pair i k o _ h2 hok k1 with hr | ⟨p1, p2⟩
        · have := hr.listed hcl (fun o' e ho' he hb => by rw [h2] at ho'; cases ho'; exact h3 e he hb)
          have hls : k < listed.size := by omega
          simp [hls] at this k3
          rw [this] at k3; cases k3
        · exact ⟨p1, hD.sel k _ hok, p2⟩) env σ h
      refine wpOp_mono ?_ (step1_sound (P := P) h2 hs hst)
      rintro a' w' ⟨env', σ', hK, hs'⟩
      refine ih (listed.setIfInBounds i true) env' σ' a' w' (by simp [hsz]) ?_ ?_ ?_ hs'
      · intro j o' e hj ho' he hb
        by_cases e1 : i = j
        · subst e1
          rw [h2] at ho'; cases ho'
          exact getD_set_true (h3 e he hb)
        · rw [getD_set_ne false e1] at hj
          exact getD_set_true (hcl j o' e hj ho' he hb)
      · rw [hnew]
        rw [hsplit] at hf
        simp only [List.length_append, List.length_cons] at hf ⊢
        omega
      · rw [hnew, List.map_append]; exact hK
/-- **A region that draws its order.** -/
theorem W_draw {id : Nat} (hm : P.follows .mixedOrders = true) (hd : drawOk L U ops = true) (h : runA P ops L U n Q ops.toList env σ) : W n P (.region id ops true) Q env σ := fun X G0 a w hs => by
  have h1 := runA_mono (Q' := Qh Q) (fun env σ q => ⟨env, fun _ => rfl, q⟩) _ _ _ h
  refine wp_mono (Q := fun e a' w' => ∃ env' σ', Qh Q e env' σ' ∧ St X G0 n env' σ' a' w') ?_ ?_
  · refine wp_region_any hm (any_sound (L := L) (U := U) (drawOk_spec hd) Qh_resp ops.size (Array.replicate ops.size false) env σ a _ (by simp) ?_ ?_ ?_ ?_)
    · intro j o e hj ho
      have : j < ops.size := (Array.getElem?_eq_some_iff.1 ho).1
      simp [this] at hj
    · have := List.length_filter_le (fun i => !(Array.replicate ops.size false).getD i true) (List.range ops.size)
      simpa using this
    · have e1 : ((List.range ops.size).filter fun i => !(Array.replicate ops.size false).getD i true) = List.range ops.size := by
        apply List.filter_eq_self.2
        intro i hi
        have := List.mem_range.1 hi
        simp [this]
      have e2 : (List.range ops.size).map (fun i => ops.getD i default) = ops.toList := by
        apply List.ext_getElem
        · simp
        · intro i h1 h2
          simp at h1 h2
          simp [h1]
      rw [e1, e2]; exact h1
    · obtain ⟨G, h0, hI, rest⟩ := hs
      exact ⟨G, h0, hI.drew, rest⟩
  · rintro e a' w' ⟨env', σ', ⟨env0, he, q⟩, hst⟩
    exact ⟨env0, σ', q, hst.weaken fun t => .inr (he t)⟩
end Go.Vm
