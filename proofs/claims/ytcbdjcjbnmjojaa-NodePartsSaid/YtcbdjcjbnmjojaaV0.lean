/- A small separation logic over the walk of the model: values told by what they hold, owned memory, triples for code, contracts of functions. Part 0. -/
import Derived.Calls
import Derived.ChangeKeysEq
import Derived.Laws.AppendOwn
import Derived.Laws.BytesString
import Derived.Laws.IdiomStrings
import Derived.Laws.Sem
import Derived.Laws.Strings
import Derived.Laws.StructEq
import Derived.Laws.Tables
import Derived.Laws.World
import Derived.Orders
set_option linter.unusedSimpArgs false
set_option linter.unusedVariables false
set_option linter.unusedSectionVars false
/- Vm, part 0: values that are told by what they hold, ghosts, and how both lie in a world. Plain definitions and small laws. -/
namespace Go.Vm
/-- What is known of a slice's room: nothing; none (capacity = length); that of a token. -/
inductive Tag where
  | no
  | full
  | tk (g : Nat)
  deriving DecidableEq
inductive V where
  | dead
  | bool (b : Bool)
  | int (k : IntKind) (n : Int)
  | str (s : ByteArray)
  | nilp
  | ptr (g : Nat) (off : Nat)
  | pv (cs : List V)
  | sl (sz : Nat) (es : List V) (tag : Tag)
  | bs (g : Nat) (off len cap sz : Nat)
  | nilm
  | mp (g : Nat)
  | fn (f : FuncId) (caps : List V)
  | nilf
  | ifc (t : TypeId) (v : V)
  | nili
  | agg (cs : List V)
  | tup (vs : List V)
  | it (g : Nat)
  deriving Inhabited
def V.cells : V → List V
  | .agg cs => cs
  | v => [v]
/-- A value of one cell. -/
def V.one : V → Bool
  | .dead | .agg _ | .tup _ => false
  | _ => true
def flat (es : List V) : List V := es.flatMap V.cells
theorem flat_nil : flat [] = [] := rfl
theorem flat_cons (e : V) (es : List V) : flat (e :: es) = e.cells ++ flat es := rfl
theorem flat_append (a b : List V) : flat (a ++ b) = flat a ++ flat b := by simp [flat]
/-- What lies at a name of ours. -/
inductive Blk where
  | cells (cs : List V)
  | tok (sz n : Nat)
  | map (kv : List (V × V)) (st : List Nat) (clk : Nat)
  | siter (s : ByteArray) (pos : Nat)
  | miter (m : Nat) (since : Nat) (seen : List Nat) (at_ : Nat)
structure Hp where
  f : Nat → Option Blk
  fin : ∃ n, ∀ i, n ≤ i → f i = none
def Hp.get (σ : Hp) (g : Nat) : Option Blk := σ.f g
theorem Hp.ext' {σ τ : Hp} (h : ∀ g, σ.get g = τ.get g) : σ = τ := by
  cases σ; cases τ; congr 1; exact funext h
def Hp.empty : Hp := ⟨fun _ => none, 0, fun _ _ => rfl⟩
def Hp.set (σ : Hp) (g : Nat) (b : Blk) : Hp :=
  ⟨fun i => if i = g then some b else σ.f i, by
    obtain ⟨n, hn⟩ := σ.fin
    refine ⟨n + g + 1, fun i hi => ?_⟩
    rw [if_neg (by omega)]; exact hn i (by omega)⟩
def Hp.del (σ : Hp) (g : Nat) : Hp :=
  ⟨fun i => if i = g then none else σ.f i, by
    obtain ⟨n, hn⟩ := σ.fin
    refine ⟨n, fun i hi => ?_⟩
    split
    · rfl
    · exact hn i hi⟩
theorem Hp.get_set (σ : Hp) (g h : Nat) (b : Blk) : (σ.set g b).get h = if h = g then some b else σ.get h := rfl
theorem Hp.get_del (σ : Hp) (g h : Nat) : (σ.del g).get h = if h = g then none else σ.get h := rfl
@[simp] theorem Hp.get_set_same (σ : Hp) (g : Nat) (b : Blk) : (σ.set g b).get g = some b := by simp [Hp.get_set]
theorem Hp.get_set_ne (σ : Hp) {g h : Nat} (b : Blk) (hn : h ≠ g) : (σ.set g b).get h = σ.get h := by simp [Hp.get_set, hn]
@[simp] theorem Hp.get_empty (g : Nat) : Hp.empty.get g = none := rfl
theorem Hp.set_comm (σ : Hp) {g h : Nat} (a b : Blk) (hn : g ≠ h) : (σ.set g a).set h b = (σ.set h b).set g a := by
  apply Hp.ext'; intro i; simp only [Hp.get_set]
  by_cases h1 : i = h
  · subst h1; simp [Ne.symm hn]
  · simp [h1]
theorem Hp.set_set (σ : Hp) (g : Nat) (a b : Blk) : (σ.set g a).set g b = σ.set g b := by
  apply Hp.ext'; intro i; simp only [Hp.get_set]; split <;> rfl
theorem Hp.set_same {σ : Hp} {g : Nat} {b : Blk} (h : σ.get g = some b) : σ.set g b = σ := by
  apply Hp.ext'; intro i; simp only [Hp.get_set]; split
  · subst_vars; exact h.symm
  · rfl
theorem Hp.fresh2 (σ : Hp) (h : Nat) : ∃ g, σ.get g = none ∧ g ≠ h := by
  obtain ⟨n, hn⟩ := σ.fin
  exact ⟨n + h + 1, hn _ (by omega), by omega⟩
/-- Ghosts: what is frozen in a block, from its begin on; the block of a name; the token of a name: how many elements, which block, its capacity. -/
structure Ghost where
  fz : Nat → List Value
  bl : Nat → Option Nat
  tk : Nat → Option (Nat × Option Nat × Nat)
structure Ghost.Le (G H : Ghost) : Prop where
  fz : ∀ (b i : Nat) (c : Value), (G.fz b)[i]? = some c → (H.fz b)[i]? = some c
  bl : ∀ g b, G.bl g = some b → H.bl g = some b
  tk : ∀ g n b c, G.tk g = some (n, b, c) → ∃ n' b' c', H.tk g = some (n', b', c') ∧ n ≤ n' ∧ (n = n' → b' = b ∧ c' = c)
theorem Ghost.Le.refl (G : Ghost) : G.Le G := ⟨fun _ _ _ h => h, fun _ _ h => h, fun _ n b c h => ⟨n, b, c, h, Nat.le_refl _, fun _ => ⟨rfl, rfl⟩⟩⟩
theorem Ghost.Le.trans {G H K : Ghost} (h : G.Le H) (k : H.Le K) : G.Le K :=
  ⟨fun b i c x => k.fz b i c (h.fz b i c x), fun g b x => k.bl g b (h.bl g b x), fun g n b c x => by
    obtain ⟨n1, b1, c1, h1, h2, h3⟩ := h.tk g n b c x
    obtain ⟨n2, b2, c2, k1, k2, k3⟩ := k.tk g n1 b1 c1 h1
    refine ⟨n2, b2, c2, k1, Nat.le_trans h2 k2, fun e => ?_⟩
    have e1 : n = n1 := by omega
    have e2 : n1 = n2 := by omega
    obtain ⟨p, q⟩ := h3 e1
    obtain ⟨p', q'⟩ := k3 e2
    exact ⟨p'.trans p, q'.trans q⟩⟩
def TagOk (G : Ghost) : Tag → Option Addr → Nat → Nat → Prop
  | .no, _, _, _ => True
  | .full, _, len, cap => cap = len
  | .tk g, a, len, cap => ∃ n b c, G.tk g = some (n, b, c) ∧ len ≤ n ∧ (len = n → cap = c ∧ (c = 0 ∨ a = b.map (fun b => ⟨b, 0, none⟩)))
theorem TagOk.mono {G H : Ghost} (h : G.Le H) {t : Tag} {a : Option Addr} {l c : Nat} (x : TagOk G t a l c) : TagOk H t a l c := by
  cases t with
  | no => trivial
  | full => exact x
  | tk g =>
    obtain ⟨n, b, c', h1, h2, h3⟩ := x
    obtain ⟨n1, b1, c1, k1, k2, k3⟩ := h.tk g n b c' h1
    refine ⟨n1, b1, c1, k1, Nat.le_trans h2 k2, fun e => ?_⟩
    have e1 : l = n := by omega
    obtain ⟨p', q'⟩ := k3 (by omega)
    rw [p', q']; exact h3 e1
inductive VRel (G : Ghost) : V → Value → Prop where
  | dead (r : Value) : VRel G .dead r
  | bool (b : Bool) : VRel G (.bool b) (.bool b)
  | int (k : IntKind) (n : Int) : VRel G (.int k n) (.int k n)
  | str (s : ByteArray) : VRel G (.str s) (.string s)
  | nilp : VRel G .nilp (.pointer none)
  | ptr (g : Nat) (off b : Nat) (h : G.bl g = some b) : VRel G (.ptr g off) (.pointer (some ⟨b, off, none⟩))
  | pv (cs : List V) (b off : Nat) (rs : Nat → Value) (h : ∀ i c, cs[i]? = some c → (G.fz b)[off + i]? = some (rs i))
      (hr : ∀ i c, cs[i]? = some c → VRel G c (rs i)) : VRel G (.pv cs) (.pointer (some ⟨b, off, none⟩))
  | sl (sz : Nat) (es : List V) (tag : Tag) (a : Option Addr) (cap : Nat) (rs : Nat → Value) (hc : es.length ≤ cap) (hu : ∀ e ∈ es, e.cells.length = sz)
      (hb : es = [] ∨ ∃ b off, a = some ⟨b, off, none⟩ ∧ ∀ i c, (flat es)[i]? = some c → (G.fz b)[off + i]? = some (rs i))
      (hr : ∀ i c, (flat es)[i]? = some c → VRel G c (rs i)) (ht : TagOk G tag a es.length cap) (ho : ∀ e ∈ es, e.cells.all V.one = true) : VRel G (.sl sz es tag) (.slice a es.length cap)
  | bs (g : Nat) (off len cap sz : Nat) (a : Option Addr) (hl : len ≤ cap) (h : cap = 0 ∨ ∃ b, G.bl g = some b ∧ a = some ⟨b, off, none⟩) : VRel G (.bs g off len cap sz) (.slice a len cap)
  | nilm : VRel G .nilm (.map none)
  | mp (g : Nat) (b : Nat) (h : G.bl g = some b) : VRel G (.mp g) (.map (some b))
  | fn (f : FuncId) (caps : List V) (rs : Array Value) (hl : rs.size = caps.length) (hr : ∀ i c, caps[i]? = some c → VRel G c (rs.getD i undef)) : VRel G (.fn f caps) (.func (.func f) #[] rs)
  | nilf : VRel G .nilf .nilFunc
  | ifc (t : TypeId) (v : V) (r : Value) (h : VRel G v r) : VRel G (.ifc t v) (.iface t r)
  | nili : VRel G .nili .nilIface
  | agg (cs : List V) (rs : Array Value) (hl : rs.size = cs.length) (hr : ∀ i c, cs[i]? = some c → VRel G c (rs.getD i undef)) : VRel G (.agg cs) (.agg rs)
  | tup (cs : List V) (rs : Array Value) (hl : rs.size = cs.length) (hr : ∀ i c, cs[i]? = some c → VRel G c (rs.getD i undef)) : VRel G (.tup cs) (.tuple rs)
  | it (g : Nat) (b : Nat) (h : G.bl g = some b) : VRel G (.it g) (.pointer (some ⟨b, 0, none⟩))
theorem VRel.mono {G H : Ghost} (h : G.Le H) {v : V} {r : Value} (x : VRel G v r) : VRel H v r := by
  induction x with
  | dead r => exact .dead r
  | bool b => exact .bool b
  | int k n => exact .int k n
  | str s => exact .str s
  | nilp => exact .nilp
  | ptr g off b hb => exact .ptr g off b (h.bl _ _ hb)
  | pv cs b off rs h1 _ ih => exact .pv cs b off rs (fun i c hi => h.fz _ _ _ (h1 i c hi)) ih
  | sl sz es tag a cap rs hc hu hb _ ht ho ih =>
    refine .sl sz es tag a cap rs hc hu ?_ ih (ht.mono h) ho
    rcases hb with hb | ⟨b, off, e, hb⟩
    · exact .inl hb
    · exact .inr ⟨b, off, e, fun i c hi => h.fz _ _ _ (hb i c hi)⟩
  | bs g off len cap sz a hl hb =>
    refine .bs g off len cap sz a hl ?_
    rcases hb with hb | ⟨b, hb, e⟩
    · exact .inl hb
    · exact .inr ⟨b, h.bl _ _ hb, e⟩
  | nilm => exact .nilm
  | mp g b hb => exact .mp g b (h.bl _ _ hb)
  | fn f caps rs hl _ ih => exact .fn f caps rs hl ih
  | nilf => exact .nilf
  | ifc t v r _ ih => exact .ifc t v r ih
  | nili => exact .nili
  | agg cs rs hl _ ih => exact .agg cs rs hl ih
  | tup cs rs hl _ ih => exact .tup cs rs hl ih
  | it g b hb => exact .it g b (h.bl _ _ hb)
/-- A value's cells, and those of what lies so. -/
theorem VRel.cells {G : Ghost} {v : V} {r : Value} (h : VRel G v r) (hv : ∀ vs, v ≠ .tup vs) (hd : v ≠ .dead) :
    r.cells.size = v.cells.length ∧ ∀ i c, v.cells[i]? = some c → VRel G c (r.cells.getD i undef) := by
  cases h with
  | agg cs rs hl hr => exact ⟨hl, hr⟩
  | tup cs rs hl hr => exact absurd rfl (hv _)
  | dead r => exact absurd rfl hd
  | _ =>
    refine ⟨rfl, fun i c hi => ?_⟩
    cases i with
    | succ i => simp [V.cells] at hi
    | zero =>
      simp only [V.cells, List.getElem?_cons_zero, Option.some.injEq] at hi
      subst hi
      first
        | exact .bool _ | exact .int _ _ | exact .str _ | exact .nilp | (exact .ptr _ _ _ (by assumption)) | (exact .pv _ _ _ _ (by assumption) (by assumption))
        | (exact .sl _ _ _ _ _ _ (by assumption) (by assumption) (by assumption) (by assumption) (by assumption) (by assumption)) | (exact .bs _ _ _ _ _ _ (by assumption) (by assumption))
        | exact .nilm | (exact .mp _ _ (by assumption)) | (exact .fn _ _ _ (by assumption) (by assumption)) | exact .nilf | (exact .ifc _ _ _ (by assumption)) | exact .nili | (exact .it _ _ (by assumption))
/-- What is of one cell lies in one. -/
theorem VRel.oneCell {G : Ghost} {v : V} {r : Value} (h : VRel G v r) (hv : v.one = true) : r.oneCell' = true := by
  cases h <;> first | rfl | simp [V.one] at hv
/-- What is not ours: blocks as they stand, with what is frozen of them; tokens. -/
structure Ext where
  b : Nat → Option (Obj × List Value)
  t : Nat → Option (Option (Nat × Option Nat × Nat))
  os : Os
  out : Array (Nat × ByteArray)
/-- A name that is not ours. -/
def Hid (G : Ghost) (σ : Hp) (g : Nat) (y : Option (Nat × Option Nat × Nat)) : Prop := G.tk g = y ∧ σ.get g = none ∧ (G.bl g ≠ none ∨ y ≠ none)
def ownb (G : Ghost) (g : Nat) : Blk → Option Nat
  | .tok _ _ => (G.tk g).bind (·.2.1)
  | _ => G.bl g
def Rows2 (G : Ghost) (cs : List V) (rs : Array Value) : Prop := rs.size = cs.length ∧ ∀ i c, cs[i]? = some c → VRel G c (rs.getD i undef)
theorem Rows2.mono {G H : Ghost} (h : G.Le H) {cs : List V} {rs : Array Value} (x : Rows2 G cs rs) : Rows2 H cs rs := ⟨x.1, fun i c hi => (x.2 i c hi).mono h⟩
def Rows1 (G : Ghost) (cs : List V) (rs : Array Value) : Prop := Rows2 G cs rs ∧ cs.all V.one = true
theorem Rows1.mono {G H : Ghost} (h : G.Le H) {cs : List V} {rs : Array Value} (x : Rows1 G cs rs) : Rows1 H cs rs := ⟨x.1.mono h, x.2⟩
def MapRel (G : Ghost) (kv : List (V × V)) (st : List Nat) (clk : Nat) (es : Array MapEntry) : Prop :=
  es.size = kv.length ∧ (∀ i k v, kv[i]? = some (k, v) → VRel G k (es.getD i default).key ∧ VRel G v (es.getD i default).val) ∧
    es.toList.map (·.born) = st ∧ (∀ s ∈ st, s < clk) ∧ st.Nodup ∧ (es.toList.map (·.key)).Nodup
theorem MapRel.mono {G H : Ghost} (h : G.Le H) {kv : List (V × V)} {st : List Nat} {clk : Nat} {es : Array MapEntry} (x : MapRel G kv st clk es) : MapRel H kv st clk es :=
  ⟨x.1, fun i k v hi => ⟨(x.2.1 i k v hi).1.mono h, (x.2.1 i k v hi).2.mono h⟩, x.2.2⟩
/-- A block of our own lies so. -/
def BOk (X : Ext) (G : Ghost) (w : World) (g : Nat) : Blk → Prop
  | .cells cs => ∃ b rs e, G.bl g = some b ∧ w.heap[b]? = some (.cells rs e (0, 0)) ∧ Rows1 G cs rs ∧ G.fz b = [] ∧ X.b b = none
  | .tok sz n => ∃ base cap, G.tk g = some (n, base, cap) ∧ match base with
      | none => n = 0 ∧ cap = 0
      | some b => ∃ rs e, w.heap[b]? = some (.cells rs e (0, 0)) ∧ rs.size = cap * sz ∧ n ≤ cap ∧ (G.fz b).length = n * sz ∧ X.b b = none
  | .map kv st clk => ∃ b es, G.bl g = some b ∧ w.heap[b]? = some (.map es clk) ∧ MapRel G kv st clk es ∧ G.fz b = [] ∧ X.b b = none
  | .siter s pos => ∃ b, G.bl g = some b ∧ w.heap[b]? = some (.stringIter s pos) ∧ G.fz b = [] ∧ X.b b = none
  | .miter m since seen c0 => ∃ b bm, G.bl g = some b ∧ w.heap[b]? = some (.mapIter (some bm) since seen.toArray c0) ∧ G.bl m = some bm ∧ G.fz b = [] ∧ X.b b = none
structure Inv (X : Ext) (G : Ghost) (σ : Hp) (w : World) : Prop where
  fz : ∀ (b i : Nat) (c : Value), (G.fz b)[i]? = some c → w.cell? ⟨b, i, none⟩ = some c
  ext : ∀ b o l, X.b b = some (o, l) → w.heap[b]? = some o ∧ G.fz b = l
  ext2 : ∀ g x, X.t g = some x → Hid G σ g x
  blk : ∀ g k, σ.get g = some k → BOk X G w g k
  inj : ∀ g h b k k', σ.get g = some k → σ.get h = some k' → ownb G g k = some b → ownb G h k' = some b → g = h
  fin : ∃ n, ∀ g, n ≤ g → G.bl g = none ∧ G.tk g = none
  eo : w.os = X.os ∧ w.output = X.out
abbrev Env := List (Nat × V)
def Env.get : Env → Nat → V
  | [], _ => .dead
  | (s, v) :: e, t => cond (Nat.beq s t) v (Env.get e t)
@[simp] theorem Env.get_nil (t : Nat) : Env.get [] t = .dead := rfl
theorem Env.get_cons (s : Nat) (v : V) (e : Env) (t : Nat) : Env.get ((s, v) :: e) t = if s = t then v else Env.get e t := by
  simp only [Env.get]
  by_cases h : s = t
  · subst h; simp
  · have : Nat.beq s t = false := by
      cases hb : Nat.beq s t with
      | false => rfl
      | true => exact absurd (Nat.eq_of_beq_eq_true hb) h
    simp [this, h]
def Env.put (e : Env) (d : Option Tmp) (v : V) : Env :=
  match d with
  | some d => (d, v) :: e
  | none => e
end Go.Vm
/- Vm, part 1: how worlds change: a new block, a store, a token that grows. -/
namespace Go.Vm
variable {X : Ext} {G H G0 : Ghost} {σ : Hp} {w : World} {P : Program}
theorem heap_alloc_old (w : World) (o : Obj) {b : Nat} (h : b < w.heap.size) : (w.alloc o).heap[b]? = w.heap[b]? := by
  show (w.heap.push o)[b]? = _
  simp [Array.getElem?_push, Nat.ne_of_lt h]
theorem heap_alloc_new (w : World) (o : Obj) : (w.alloc o).heap[w.heap.size]? = some o := by
  show (w.heap.push o)[w.heap.size]? = _
  simp
theorem lt_of_heap {w : World} {b : Nat} {o : Obj} (h : w.heap[b]? = some o) : b < w.heap.size := by
  rcases Nat.lt_or_ge b w.heap.size with h' | h'
  · exact h'
  · simp [Array.getElem?_eq_none h'] at h
theorem cell_of_heap {w : World} {b : Nat} {rs : Array Value} {e : TypeId} {f : Nat × Nat} (h : w.heap[b]? = some (.cells rs e f)) (i : Nat) : w.cell? ⟨b, i, none⟩ = rs[i]? := by
  simp [World.cell?, h]
theorem BOk.own {g : Nat} {k : Blk} (h : BOk X G w g k) {b : Nat} (hb : ownb G g k = some b) : (∃ o, w.heap[b]? = some o) ∧ X.b b = none := by
  cases k with
  | cells cs => obtain ⟨b', rs, e, h1, h2, h3, h4, h5⟩ := h; simp only [ownb, h1, Option.some.injEq] at hb; subst hb; exact ⟨⟨_, h2⟩, h5⟩
  | tok sz n =>
    obtain ⟨base, cap, h1, h2⟩ := h
    simp only [ownb, h1, Option.bind_some] at hb
    subst hb
    obtain ⟨rs, e, h2, h3, h4, h5, h6⟩ := h2
    exact ⟨⟨_, h2⟩, h6⟩
  | map kv st clk => obtain ⟨b', es, h1, h2, h3, h4, h5⟩ := h; simp only [ownb, h1, Option.some.injEq] at hb; subst hb; exact ⟨⟨_, h2⟩, h5⟩
  | siter s p => obtain ⟨b', h1, h2, h3, h5⟩ := h; simp only [ownb, h1, Option.some.injEq] at hb; subst hb; exact ⟨⟨_, h2⟩, h5⟩
  | miter m s l c => obtain ⟨b', bm, h1, h2, h3, h4, h5⟩ := h; simp only [ownb, h1, Option.some.injEq] at hb; subst hb; exact ⟨⟨_, h2⟩, h5⟩
theorem BOk.lt {g : Nat} {k : Blk} (h : BOk X G w g k) {b : Nat} (hb : ownb G g k = some b) : b < w.heap.size := by
  obtain ⟨⟨o, ho⟩, _⟩ := h.own hb; exact lt_of_heap ho
theorem BOk.keep {w' : World} {g : Nat} {k : Blk} (h : BOk X G w g k) (le : G.Le H) (hk : ∀ b, ownb G g k = some b → w'.heap[b]? = w.heap[b]? ∧ H.fz b = G.fz b)
    (ht : H.tk g = G.tk g) : BOk X H w' g k := by
  cases k with
  | cells cs => 
    obtain ⟨b, rs, e, h1, h2, h3, h4, h5⟩ := h
    obtain ⟨k1, k2⟩ := hk b h1
    exact ⟨b, rs, e, le.bl _ _ h1, k1.trans h2, h3.mono le, k2.trans h4, h5⟩
  | tok sz n =>
    obtain ⟨base, cap, h1, h2⟩ := h
    refine ⟨base, cap, ht.trans h1, ?_⟩
    cases base with
    | none => exact h2
    | some b =>
      obtain ⟨rs, e, h2, h3, h4, h5, h6⟩ := h2
      obtain ⟨k1, k2⟩ := hk b (by simp [ownb, h1])
      exact ⟨rs, e, k1.trans h2, h3, h4, by rw [k2]; exact h5, h6⟩
  | map kv st clk =>
    obtain ⟨b, es, h1, h2, h3, h4, h5⟩ := h
    obtain ⟨k1, k2⟩ := hk b h1
    exact ⟨b, es, le.bl _ _ h1, k1.trans h2, h3.mono le, k2.trans h4, h5⟩
  | siter s p =>
    obtain ⟨b, h1, h2, h4, h5⟩ := h
    obtain ⟨k1, k2⟩ := hk b h1
    exact ⟨b, le.bl _ _ h1, k1.trans h2, k2.trans h4, h5⟩
  | miter m s l c =>
    obtain ⟨b, bm, h1, h2, h3, h4, h5⟩ := h
    obtain ⟨k1, k2⟩ := hk b h1
    exact ⟨b, bm, le.bl _ _ h1, k1.trans h2, le.bl _ _ h3, k2.trans h4, h5⟩
theorem ownb_keep {g : Nat} {k : Blk} (h : BOk X G w g k) (le : G.Le H) (ht : H.tk g = G.tk g) : ownb H g k = ownb G g k := by
  cases k with
  | cells cs => obtain ⟨b, rs, e, h1, _⟩ := h; simp only [ownb, h1, le.bl _ _ h1]
  | tok sz n => simp only [ownb, ht]
  | map kv st clk => obtain ⟨b, rs, h1, _⟩ := h; simp only [ownb, h1, le.bl _ _ h1]
  | siter s p => obtain ⟨b, h1, _⟩ := h; simp only [ownb, h1, le.bl _ _ h1]
  | miter m s l c => obtain ⟨b, bm, h1, _⟩ := h; simp only [ownb, h1, le.bl _ _ h1]
theorem Inv.of_heap {w' : World} (h : Inv X G σ w) (e : w'.heap = w.heap) (eo : w'.os = w.os ∧ w'.output = w.output := by exact ⟨rfl, rfl⟩) : Inv X G σ w' := by
  refine ⟨fun b i c x => ?_, fun b o l x => by rw [e]; exact h.ext b o l x, h.ext2, fun g k x => (h.blk g k x).keep (Ghost.Le.refl _) (fun b _ => ⟨by rw [e], rfl⟩) rfl, h.inj, h.fin, eo.1.trans h.eo.1, eo.2.trans h.eo.2⟩
  have := h.fz b i c x
  simpa [World.cell?, e] using this
theorem Inv.drew (h : Inv X G σ w) : Inv X G σ w.drew := h.of_heap rfl
/-- A name that is not yet taken. -/
theorem Inv.fresh (h : Inv X G σ w) : ∃ g, G.bl g = none ∧ G.tk g = none ∧ σ.get g = none := by
  obtain ⟨n, hn⟩ := h.fin
  obtain ⟨m, hm⟩ := σ.fin
  exact ⟨n + m, (hn _ (by omega)).1, (hn _ (by omega)).2, hm _ (by omega)⟩
theorem Inv.fz_lt (h : Inv X G σ w) {b i : Nat} {c : Value} (x : (G.fz b)[i]? = some c) : b < w.heap.size := World.block_lt_of_cell? _ _ (h.fz b i c x)
theorem Inv.fz_new (h : Inv X G σ w) : G.fz w.heap.size = [] := by
  cases hl : G.fz w.heap.size with
  | nil => rfl
  | cons x l => exact absurd (h.fz_lt (b := w.heap.size) (i := 0) (c := x) (by simp [hl])) (Nat.lt_irrefl _)
theorem cell_alloc (w : World) (o : Obj) {b i : Nat} {c : Value} (h : w.cell? ⟨b, i, none⟩ = some c) : (w.alloc o).cell? ⟨b, i, none⟩ = some c := by
  rw [World.cell?_alloc_lt _ _ _ (World.block_lt_of_cell? _ _ h)]; exact h
/-- A block that nobody asks for. -/
theorem Inv.alloc (h : Inv X G σ w) (o : Obj) : Inv X G σ (w.alloc o) := by
  refine ⟨fun b i c x => cell_alloc _ _ (h.fz b i c x), fun b o' l x => ?_, h.ext2, fun g k x => (h.blk g k x).keep (Ghost.Le.refl _) (fun b hb => ⟨heap_alloc_old _ _ ((h.blk g k x).lt hb), rfl⟩) rfl, h.inj, h.fin, h.eo⟩
  have := h.ext b o' l x
  rw [heap_alloc_old _ _ (lt_of_heap this.1)]; exact this
def Ghost.frz (G : Ghost) (b : Nat) (l : List Value) : Ghost := { G with fz := fun i => if i = b then l else G.fz i }
def Ghost.setBl (G : Ghost) (g b : Nat) : Ghost := { G with bl := fun i => if i = g then some b else G.bl i }
def Ghost.setTk (G : Ghost) (g : Nat) (x : Nat × Option Nat × Nat) : Ghost := { G with tk := fun i => if i = g then some x else G.tk i }
theorem Ghost.le_frz {b : Nat} {l : List Value} (h : ∀ (i : Nat) (c : Value), (G.fz b)[i]? = some c → l[i]? = some c) : G.Le (G.frz b l) :=
  ⟨fun b' i c x => by
    show (if b' = b then l else G.fz b')[i]? = some c
    split
    · subst_vars; exact h i c x
    · exact x, fun _ _ x => x, fun _ n b c x => ⟨n, b, c, x, Nat.le_refl _, fun _ => ⟨rfl, rfl⟩⟩⟩
theorem Ghost.le_setBl {g b : Nat} (h : G.bl g = none) : G.Le (G.setBl g b) :=
  ⟨fun _ _ _ x => x, fun g' b' x => by
    show (if g' = g then some b else G.bl g') = some b'
    split
    · subst_vars; rw [h] at x; cases x
    · exact x, fun _ n b c x => ⟨n, b, c, x, Nat.le_refl _, fun _ => ⟨rfl, rfl⟩⟩⟩
theorem Ghost.le_setTk {g : Nat} {y : Nat × Option Nat × Nat} (h : ∀ n b c, G.tk g = some (n, b, c) → n ≤ y.1 ∧ (n = y.1 → y.2.1 = b ∧ y.2.2 = c)) : G.Le (G.setTk g y) :=
  ⟨fun _ _ _ x => x, fun _ _ x => x, fun g' n b c x => by
    by_cases e : g' = g
    · subst e
      obtain ⟨h1, h2⟩ := h n b c x
      exact ⟨y.1, y.2.1, y.2.2, by show (if g' = g' then some y else G.tk g') = _; rw [if_pos rfl], h1, h2⟩
    · exact ⟨n, b, c, by show (if g' = g then some y else G.tk g') = _; rw [if_neg e]; exact x, Nat.le_refl _, fun _ => ⟨rfl, rfl⟩⟩⟩
/-- A new block whose cells stay as they are. -/
theorem Inv.alloc_frz (h : Inv X G σ w) (rs : Array Value) (e : TypeId) (fr : Nat × Nat := (0, 0)) : G.Le (G.frz w.heap.size rs.toList) ∧ Inv X (G.frz w.heap.size rs.toList) σ (w.alloc (.cells rs e fr)) := by
  have le : G.Le (G.frz w.heap.size rs.toList) := Ghost.le_frz (by rw [h.fz_new]; intro i c x; simp at x)
  refine ⟨le, fun b i c x => ?_, fun b o l x => ?_, h.ext2, fun g k x => (h.blk g k x).keep le (fun b hb => ?_) rfl, fun g g' b k k' x y p q => ?_, h.fin, h.eo⟩
  rotate_left
  · have h1 := (h.alloc (.cells rs e fr)).ext b o l x
    refine ⟨h1.1, ?_⟩
    show (if b = w.heap.size then rs.toList else G.fz b) = l
    rw [if_neg (Nat.ne_of_lt (lt_of_heap (h.ext b o l x).1))]; exact h1.2
  rotate_right
  · have x' : (if b = w.heap.size then rs.toList else G.fz b)[i]? = some c := x
    by_cases e' : b = w.heap.size
    · subst e'
      rw [if_pos rfl] at x'
      rw [cell_of_heap (heap_alloc_new w (.cells rs e fr))]; simpa using x'
    · rw [if_neg e'] at x'
      exact cell_alloc _ _ (h.fz b i c x')
  · have hlt := (h.blk g k x).lt hb
    refine ⟨heap_alloc_old _ _ hlt, ?_⟩
    show (if b = w.heap.size then rs.toList else G.fz b) = _
    rw [if_neg (Nat.ne_of_lt hlt)]
  · rw [ownb_keep (h.blk g k x) le rfl] at p
    rw [ownb_keep (h.blk g' k' y) le rfl] at q
    exact h.inj g g' b k k' x y p q
theorem Inv.ext_new (h : Inv X G σ w) : X.b w.heap.size = none := by
  cases hx : X.b w.heap.size with
  | none => rfl
  | some o => exact absurd (lt_of_heap (h.ext _ o.1 o.2 hx).1) (Nat.lt_irrefl _)
theorem Hid.mono {G H : Ghost} {σ : Hp} {g : Nat} {y : Option (Nat × Option Nat × Nat)} (h : Hid G σ g y) (le : G.Le H) (ht : H.tk g = G.tk g) : Hid H σ g y := by
  obtain ⟨h1, h2, h3⟩ := h
  refine ⟨ht.trans h1, h2, h3.imp (fun hb => ?_) id⟩
  cases hg : G.bl g with
  | none => exact absurd hg hb
  | some b => rw [le.bl _ _ hg]; simp
theorem Inv.ext_tk (h : Inv X G σ w) {g : Nat} (hg : (G.tk g = none ∧ G.bl g = none) ∨ ∃ k, σ.get g = some k) : X.t g = none := by
  cases hx : X.t g with
  | none => rfl
  | some x =>
    obtain ⟨h1, h2, h3⟩ := h.ext2 g x hx
    rcases hg with ⟨hg, hb⟩ | ⟨k, hg⟩
    · rcases h3 with h3 | h3
      · exact absurd hb h3
      · exact absurd (h1.symm.trans hg) h3
    · rw [h2] at hg; cases hg
theorem ext2_set (h : Inv X G σ w) {g : Nat} (hg : X.t g = none) (k : Blk) {g' : Nat} {x : Option (Nat × Option Nat × Nat)} (hx : X.t g' = some x) : g' ≠ g ∧ Hid G (σ.set g k) g' x := by
  have hne : g' ≠ g := fun e => by subst e; rw [hg] at hx; cases hx
  obtain ⟨h1, h2, h3⟩ := h.ext2 g' x hx
  exact ⟨hne, h1, by rw [Hp.get_set, if_neg hne]; exact h2, h3⟩
/-- A new block that is owned by a name: cells, a map, an iterator. -/
theorem Inv.alloc_own (h : Inv X G σ w) {g : Nat} (h1 : G.bl g = none) (h2 : G.tk g = none) (h3 : σ.get g = none) (o : Obj) (k : Blk)
    (hk : ∀ sz n, k ≠ .tok sz n) (hb : ∀ H : Ghost, G.Le H → H.bl g = some w.heap.size → H.fz w.heap.size = [] → BOk X H (w.alloc o) g k) :
    G.Le (G.setBl g w.heap.size) ∧ Inv X (G.setBl g w.heap.size) (σ.set g k) (w.alloc o) := by
  have le : G.Le (G.setBl g w.heap.size) := Ghost.le_setBl h1
  have hg : (G.setBl g w.heap.size).bl g = some w.heap.size := by show (if g = g then some _ else _) = _; rw [if_pos rfl]
  have hbn := hb _ le hg h.fz_new
  have own1 : ownb (G.setBl g w.heap.size) g k = some w.heap.size := by
    cases k with
    | tok sz n => exact absurd rfl (hk _ _)
    | _ => exact hg
  refine ⟨le, (h.alloc o).fz, (h.alloc o).ext, fun g' x hx => (ext2_set h (h.ext_tk (.inl ⟨h2, h1⟩)) k hx).2.mono le rfl, fun g' k' x => ?_, fun g' g'' b k' k'' x y p q => ?_, ?_, h.eo⟩
  · rw [Hp.get_set] at x
    by_cases e : g' = g
    · subst e; rw [if_pos rfl] at x; cases x; exact hbn
    · rw [if_neg e] at x
      exact (h.blk g' k' x).keep le (fun b hb => ⟨heap_alloc_old _ _ ((h.blk g' k' x).lt hb), rfl⟩) rfl
  · rw [Hp.get_set] at x y
    by_cases e : g' = g <;> by_cases e' : g'' = g
    · rw [e, e']
    · subst e
      rw [if_pos rfl] at x; cases x
      rw [if_neg e'] at y
      rw [own1] at p; cases p
      rw [ownb_keep (h.blk g'' k'' y) le rfl] at q
      exact absurd ((h.blk g'' k'' y).lt q) (Nat.lt_irrefl _)
    · subst e'
      rw [if_pos rfl] at y; cases y
      rw [if_neg e] at x
      rw [own1] at q; cases q
      rw [ownb_keep (h.blk g' k' x) le rfl] at p
      exact absurd ((h.blk g' k' x).lt p) (Nat.lt_irrefl _)
    · rw [if_neg e] at x; rw [if_neg e'] at y
      rw [ownb_keep (h.blk g' k' x) le rfl] at p
      rw [ownb_keep (h.blk g'' k'' y) le rfl] at q
      exact h.inj g' g'' b k' k'' x y p q
  · obtain ⟨n, hn⟩ := h.fin
    refine ⟨n + g + 1, fun i hi => ⟨?_, (hn i (by omega)).2⟩⟩
    show (if i = g then some _ else G.bl i) = none
    rw [if_neg (by omega)]; exact (hn i (by omega)).1
theorem Inv.alloc_cells (h : Inv X G σ w) {g : Nat} (h1 : G.bl g = none) (h2 : G.tk g = none) (h3 : σ.get g = none) {cs : List V} {rs : Array Value} (e : TypeId) (hr : Rows1 G cs rs) :
    G.Le (G.setBl g w.heap.size) ∧ Inv X (G.setBl g w.heap.size) (σ.set g (.cells cs)) (w.alloc (.cells rs e)) :=
  h.alloc_own h1 h2 h3 _ _ (fun _ _ => by simp) fun H le hb hf => ⟨_, rs, e, hb, heap_alloc_new _ _, hr.mono le, hf, h.ext_new⟩
theorem setCell_eo (w : World) (a : Addr) (r : Value) : (w.setCell a r).os = w.os ∧ (w.setCell a r).output = w.output := by
  unfold World.setCell
  (repeat' split) <;> exact ⟨rfl, rfl⟩
/-- What a change to one owned block asks. -/
theorem Inv.change (h : Inv X G σ w) {w' : World} {g b : Nat} {k k' : Blk} (hg : σ.get g = some k) (hb : G.bl g = some b) (hk : ∀ sz n, k ≠ .tok sz n) (hk' : ∀ sz n, k' ≠ .tok sz n) (hf : G.fz b = [])
    (hw : ∀ i, i ≠ b → w'.heap[i]? = w.heap[i]?) (hnew : BOk X G w' g k') (eo : w'.os = w.os ∧ w'.output = w.output := by first | exact ⟨rfl, rfl⟩ | exact setCell_eo _ _ _) : Inv X G (σ.set g k') w' := by
  have own0 : ownb G g k = some b := by
    cases k with
    | tok sz n => exact absurd rfl (hk _ _)
    | _ => exact hb
  have own1 : ownb G g k' = some b := by
    cases k' with
    | tok sz n => exact absurd rfl (hk' _ _)
    | _ => exact hb
  have hX := ((h.blk g k hg).own own0).2
  refine ⟨fun b' i c x => ?_, fun b' o l x => ?_, fun g' x hx => (ext2_set h (h.ext_tk (.inr ⟨k, hg⟩)) k' hx).2, fun g' k'' x => ?_, fun g' g'' b' k1 k2 x y p q => ?_, h.fin, eo.1.trans h.eo.1, eo.2.trans h.eo.2⟩
  · have hne : b' ≠ b := fun e => by subst e; rw [hf] at x; simp at x
    have := h.fz b' i c x
    simpa [World.cell?, hw b' hne] using this
  · have hne : b' ≠ b := fun e => by subst e; rw [hX] at x; cases x
    rw [hw b' hne]; exact h.ext b' o l x
  · rw [Hp.get_set] at x
    by_cases e : g' = g
    · subst e; rw [if_pos rfl] at x; cases x; exact hnew
    · rw [if_neg e] at x
      refine (h.blk g' k'' x).keep (Ghost.Le.refl _) (fun b'' hb'' => ⟨hw _ fun e2 => ?_, rfl⟩) rfl
      subst e2
      exact e (h.inj g' g _ _ _ x hg hb'' own0)
  · rw [Hp.get_set] at x y
    by_cases e : g' = g <;> by_cases e' : g'' = g
    · rw [e, e']
    · subst e
      rw [if_pos rfl] at x; cases x
      rw [if_neg e'] at y
      rw [own1] at p; cases p
      exact h.inj _ _ _ _ _ hg y own0 q
    · subst e'
      rw [if_pos rfl] at y; cases y
      rw [if_neg e] at x
      rw [own1] at q; cases q
      exact h.inj _ _ _ _ _ x hg p own0
    · rw [if_neg e] at x; rw [if_neg e'] at y
      exact h.inj g' g'' b' k1 k2 x y p q
theorem heap_setCell_ne (w : World) (a : Addr) (v : Value) {i : Nat} (h : i ≠ a.block) : (w.setCell a v).heap[i]? = w.heap[i]? := by
  simp [World.setCell, Array.getElem?_modify, Ne.symm h]
theorem heap_setCell_same (w : World) {b i : Nat} (v : Value) {rs : Array Value} {e : TypeId} {f : Nat × Nat} (h : w.heap[b]? = some (.cells rs e f)) :
    (w.setCell ⟨b, i, none⟩ v).heap[b]? = some (.cells (rs.setIfInBounds i v) e f) := by
  simp [World.setCell, Array.getElem?_modify, h]
theorem Rows2.set {cs : List V} {rs : Array Value} (h : Rows2 G cs rs) (i : Nat) {v : V} {r : Value} (hv : VRel G v r) : Rows2 G (cs.set i v) (rs.setIfInBounds i r) := by
  refine ⟨by simp [h.1], fun j c hj => ?_⟩
  rw [List.getElem?_set] at hj
  by_cases e : i = j
  · subst e
    rw [if_pos rfl] at hj
    split at hj
    · cases hj
      rename_i hlt
      have : i < rs.size := by rw [h.1]; exact hlt
      simpa [this] using hv
    · cases hj
  · rw [if_neg e] at hj
    have := h.2 j c hj
    simpa [Array.getElem?_setIfInBounds_ne e] using this
theorem one_set {cs : List V} (h : cs.all V.one = true) {i : Nat} {v : V} (hv : v.one = true) : (cs.set i v).all V.one = true := by
  rw [List.all_eq_true] at h ⊢
  intro x hx
  rcases List.mem_or_eq_of_mem_set hx with hx | hx
  · exact h x hx
  · subst hx; exact hv
/-- A store into a cell of one's own. -/
theorem Inv.store (h : Inv X G σ w) {g : Nat} {cs : List V} (hg : σ.get g = some (.cells cs)) {b : Nat} (hb : G.bl g = some b) (i : Nat) {v : V} {r : Value} (hv : VRel G v r) (ho : v.one = true) :
    Inv X G (σ.set g (.cells (cs.set i v))) (w.setCell ⟨b, i, none⟩ r) := by
  obtain ⟨b', rs, e, h1, h2, h3, h4, h5⟩ := h.blk g _ hg
  rw [hb] at h1; cases h1
  exact h.change hg hb (fun _ _ => by simp) (fun _ _ => by simp) h4 (fun j hj => heap_setCell_ne _ _ _ hj) ⟨b, _, e, hb, heap_setCell_same _ _ h2, ⟨h3.1.set i hv, one_set h3.2 ho⟩, h4, h5⟩
/-- What is forgotten. -/
theorem Inv.sub (h : Inv X G σ w) {τ : Hp} (hs : ∀ g k, τ.get g = some k → σ.get g = some k) : Inv X G τ w :=
  ⟨h.fz, h.ext, fun g x hx => ⟨(h.ext2 g x hx).1, (by
    cases ht : τ.get g with
    | none => rfl
    | some k => have := hs g k ht; rw [(h.ext2 g x hx).2.1] at this; cases this), (h.ext2 g x hx).2.2⟩, fun g k x => h.blk g k (hs g k x), fun g g' b k k' x y => h.inj g g' b k k' (hs _ _ x) (hs _ _ y), h.fin, h.eo⟩
/-- The cells of a block of one's own are no more written. -/
theorem Inv.freeze (h : Inv X G σ w) {g : Nat} {cs : List V} (hg : σ.get g = some (.cells cs)) : ∃ b rs, G.bl g = some b ∧ Rows1 G cs rs ∧ G.Le (G.frz b rs.toList) ∧ Inv X (G.frz b rs.toList) (σ.del g) w := by
  obtain ⟨b, rs, e, h1, h2, h3, h4, h5⟩ := h.blk g _ hg
  have le : G.Le (G.frz b rs.toList) := Ghost.le_frz (by rw [h4]; intro i c x; simp at x)
  have sub : ∀ g' k, (σ.del g).get g' = some k → g' ≠ g ∧ σ.get g' = some k := fun g' k x => by
    rw [Hp.get_del] at x
    by_cases e : g' = g
    · rw [if_pos e] at x; cases x
    · rw [if_neg e] at x; exact ⟨e, x⟩
  refine ⟨b, rs, h1, h3, le, fun b' i c x => ?_, fun b' o l x => ?_, fun g' x hx => ⟨(h.ext2 g' x hx).1, (by rw [Hp.get_del]; split <;> first | rfl | exact (h.ext2 g' x hx).2.1), (h.ext2 g' x hx).2.2⟩, fun g' k x => ?_, fun g' g'' b' k k' x y p q => ?_, h.fin, h.eo⟩
  rotate_left
  · have h6 := h.ext b' o l x
    refine ⟨h6.1, ?_⟩
    show (if b' = b then rs.toList else G.fz b') = l
    rw [if_neg (fun e => by subst e; rw [h5] at x; cases x)]; exact h6.2
  rotate_right
  · have x' : (if b' = b then rs.toList else G.fz b')[i]? = some c := x
    by_cases e' : b' = b
    · subst e'
      rw [if_pos rfl] at x'
      rw [cell_of_heap h2]; simpa using x'
    · rw [if_neg e'] at x'; exact h.fz b' i c x'
  · obtain ⟨hne, x⟩ := sub g' k x
    refine (h.blk g' k x).keep le (fun b' hb' => ⟨rfl, ?_⟩) rfl
    show (if b' = b then rs.toList else G.fz b') = _
    rw [if_neg]
    intro e2; subst e2
    exact hne (h.inj g' g b' _ _ x hg hb' h1)
  · obtain ⟨_, x⟩ := sub g' k x
    obtain ⟨_, y⟩ := sub g'' k' y
    rw [ownb_keep (h.blk g' k x) le rfl] at p
    rw [ownb_keep (h.blk g'' k' y) le rfl] at q
    exact h.inj g' g'' b' k k' x y p q
end Go.Vm
/- Vm, part 2: rows of cells read and written; tokens: the right to append. -/
namespace Go.Vm
variable {X : Ext} {G H G0 : Ghost} {σ : Hp} {w : World} {P : Program}
theorem add_none (b off i : Nat) : (⟨b, off, none⟩ : Addr).add i = ⟨b, off + i, none⟩ := by
  unfold Addr.add
  split
  · subst_vars; rfl
  · rfl
theorem run_loadCellsFrom (P : Program) (w : World) (b off : Nat) (c : Nat → Value) : ∀ (n i : Nat) (acc : Array Value), (∀ j, i ≤ j → j < i + n → w.cell? ⟨b, off + j, none⟩ = some (c j)) →
    (loadCellsFrom ⟨b, off, none⟩ i n acc).run P w = .ok (acc ++ ((List.range n).map fun j => c (i + j)).toArray) w := by
  intro n
  induction n with
  | zero => intro i acc _; simp [loadCellsFrom]
  | succ n ih =>
    intro i acc h
    have h0 := h i (Nat.le_refl _) (by omega)
    simp only [loadCellsFrom, Sem.run_bind, run_load, add_none, h0, Result.andThen_ok]
    rw [ih (i + 1) _ (fun j h1 h2 => h j (by omega) (by omega))]
    congr 1
    apply Array.ext'
    simp only [Array.toList_append, Array.toList_push, List.append_assoc, List.singleton_append]
    congr 1
    rw [List.range_succ_eq_map]
    simp only [List.map_cons, List.map_map, Nat.add_zero]
    congr 1
    apply List.map_congr_left
    intro a _
    simp only [Function.comp]
    congr 1; omega
theorem run_loadCells (P : Program) (w : World) (b off n : Nat) (c : Nat → Value) (h : ∀ j, j < n → w.cell? ⟨b, off + j, none⟩ = some (c j)) :
    (loadCells ⟨b, off, none⟩ n).run P w = .ok ((List.range n).map c).toArray w := by
  unfold loadCells
  rw [run_loadCellsFrom P w b off c n 0 #[] (fun j _ h2 => h j (by omega))]
  congr 1
  apply Array.ext'
  simp
/-- A row, from a place on, written over. -/
def splice (rs : Array Value) (off : Nat) : List Value → Array Value
  | [] => rs
  | v :: vs => splice (rs.setIfInBounds off v) (off + 1) vs
theorem splice_size (rs : Array Value) (off : Nat) (vs : List Value) : (splice rs off vs).size = rs.size := by
  induction vs generalizing rs off with
  | nil => rfl
  | cons v vs ih => simp [splice, ih]
theorem splice_get (rs : Array Value) (off : Nat) (vs : List Value) (h : off + vs.length ≤ rs.size) (i : Nat) :
    (splice rs off vs)[i]? = if off ≤ i ∧ i < off + vs.length then vs[i - off]? else rs[i]? := by
  induction vs generalizing rs off with
  | nil => simp only [splice, List.length_nil, Nat.add_zero]; rw [if_neg (by omega)]
  | cons v vs ih =>
    simp only [List.length_cons] at h
    simp only [splice, List.length_cons]
    rw [ih _ _ (by simp; omega)]
    by_cases e : i = off
    · subst e
      have hlt : i < rs.size := by omega
      rw [if_neg (by omega), if_pos (by omega)]
      simp [hlt]
    · by_cases c : off ≤ i ∧ i < off + (vs.length + 1)
      · rw [if_pos (by omega), if_pos c]
        have : i - off = (i - (off + 1)) + 1 := by omega
        rw [this]; simp
      · rw [if_neg (by omega), if_neg c, Array.getElem?_setIfInBounds_ne (by omega)]
theorem run_storeCells (P : Program) (b off : Nat) (e : TypeId) : ∀ (vs : List Value) (i : Nat) (w : World) (rs : Array Value), w.heap[b]? = some (.cells rs e (0, 0)) →
    off + i + vs.length ≤ rs.size → (∀ v ∈ vs, v.oneCell' = true) →
    ∃ w', (storeCells ⟨b, off, none⟩ vs i).run P w = .ok () w' ∧ (∀ j, j ≠ b → w'.heap[j]? = w.heap[j]?) ∧ w'.heap[b]? = some (.cells (splice rs (off + i) vs) e (0, 0)) ∧ w'.heap.size = w.heap.size ∧ w'.os = w.os ∧ w'.output = w.output := by
  intro vs
  induction vs with
  | nil => intro i w rs h _ _; exact ⟨w, by simp [storeCells], fun _ _ => rfl, h, rfl, rfl, rfl⟩
  | cons v vs ih =>
    intro i w rs h hl ho
    simp only [List.length_cons] at hl
    have hc : w.cell? ⟨b, off + i, none⟩ = some (rs[off + i]'(by omega)) := by
      rw [cell_of_heap h]; exact Array.getElem?_eq_getElem (by omega)
    have hf : w.frozen? ⟨b, off + i, none⟩ = false := by
      simp [World.frozen?, h]
    obtain ⟨w', h1, h2, h3, h4, h5, h6⟩ := ih (i + 1) (w.setCell ⟨b, off + i, none⟩ v) (rs.setIfInBounds (off + i) v) (heap_setCell_same _ _ h) (by simp; omega) (fun x hx => ho x (List.mem_cons_of_mem _ hx))
    refine ⟨w', ?_, fun j hj => (h2 j hj).trans (heap_setCell_ne _ _ _ hj), h3, h4.trans (World.size_setCell _ _ _), h5.trans (setCell_eo _ _ _).1, h6.trans (setCell_eo _ _ _).2⟩
    have hs : (store ⟨b, off + i, none⟩ v).run P w = .ok () (w.setCell ⟨b, off + i, none⟩ v) := by
      rw [run_store P w _ _ _ (ho v (List.mem_cons_self ..))]
      simp [hc, hf]
    simp only [storeCells, Sem.run_bind, add_none, hs, Result.andThen_ok]
    exact h1
/-- A token's block takes more. -/
theorem Inv.tok_more (h : Inv X G σ w) {g sz n k b cap : Nat} (hg : σ.get g = some (.tok sz n)) (ht : G.tk g = some (n, some b, cap)) {vs : List Value} (hv : vs.length = k * sz) (hc : n + k ≤ cap) {w' : World}
    (h1 : ∀ j, j ≠ b → w'.heap[j]? = w.heap[j]?) (h2 : ∀ rs e, w.heap[b]? = some (.cells rs e (0, 0)) → w'.heap[b]? = some (.cells (splice rs (n * sz) vs) e (0, 0))) (eo : w'.os = w.os ∧ w'.output = w.output) :
    G.Le ((G.setTk g (n + k, some b, cap)).frz b (G.fz b ++ vs)) ∧ Inv X ((G.setTk g (n + k, some b, cap)).frz b (G.fz b ++ vs)) (σ.set g (.tok sz (n + k))) w' := by
  obtain ⟨base, cap', q1, q2⟩ := h.blk g _ hg
  rw [ht] at q1; cases q1
  obtain ⟨rs, e, p2, p3, p4, p5, p6⟩ := q2
  have hw' := h2 rs e p2
  have le1 : G.Le (G.setTk g (n + k, some b, cap)) := Ghost.le_setTk fun n' b' c' x => by
    rw [ht] at x; cases x; exact ⟨Nat.le_add_right _ _, fun _ => ⟨rfl, rfl⟩⟩
  have le : G.Le ((G.setTk g (n + k, some b, cap)).frz b (G.fz b ++ vs)) := le1.trans (Ghost.le_frz fun i c x => by
    have x' : (G.fz b)[i]? = some c := x
    rw [List.getElem?_append_left]; exact x'
    exact (List.getElem?_eq_some_iff.1 x').1)
  have hsz : n * sz + vs.length ≤ rs.size := by rw [hv, p3, ← Nat.add_mul]; exact Nat.mul_le_mul_right _ hc
  have own0 : ownb G g (.tok sz n) = some b := by simp [ownb, ht]
  have own1 : ownb ((G.setTk g (n + k, some b, cap)).frz b (G.fz b ++ vs)) g (.tok sz (n + k)) = some b := by
    simp [ownb, Ghost.frz, Ghost.setTk]
  have tkne : ∀ g', g' ≠ g → ((G.setTk g (n + k, some b, cap)).frz b (G.fz b ++ vs)).tk g' = G.tk g' := fun g' hne => by
    show (if g' = g then _ else G.tk g') = _; rw [if_neg hne]
  have other : ∀ g' k', g' ≠ g → σ.get g' = some k' → ∀ b', ownb G g' k' = some b' → b' ≠ b := fun g' k' hne x b' hb' e2 => by
    subst e2; exact hne (h.inj g' g _ _ _ x hg hb' own0)
  refine ⟨le, fun b' i c x => ?_, fun b' o l x => ?_, fun g' x hx => ?_, fun g' k' x => ?_, fun g' g'' b' k1 k2 x y p q => ?_, ?_, eo.1.trans h.eo.1, eo.2.trans h.eo.2⟩
  · have x' : (if b' = b then G.fz b ++ vs else G.fz b')[i]? = some c := x
    by_cases e' : b' = b
    · subst e'
      rw [if_pos rfl] at x'
      rw [cell_of_heap hw', splice_get _ _ _ hsz]
      rcases Nat.lt_or_ge i (n * sz) with hi | hi
      · rw [if_neg (by omega)]
        rw [List.getElem?_append_left (by omega)] at x'
        rw [← cell_of_heap p2]; exact h.fz _ _ _ x'
      · rw [List.getElem?_append_right (by omega), p5] at x'
        have := (List.getElem?_eq_some_iff.1 x').1
        rw [if_pos (by omega)]; exact x'
    · rw [if_neg e'] at x'
      have := h.fz b' i c x'
      simpa [World.cell?, h1 b' e'] using this
  · have hne : b' ≠ b := fun e => by subst e; rw [p6] at x; cases x
    rw [h1 b' hne]
    refine ⟨(h.ext b' o l x).1, ?_⟩
    show (if b' = b then G.fz b ++ vs else G.fz b') = l
    rw [if_neg hne]; exact (h.ext b' o l x).2
  · obtain ⟨hne, h8, h9⟩ := ext2_set h (h.ext_tk (.inr ⟨_, hg⟩)) (.tok sz (n + k)) hx
    exact ⟨(tkne g' hne).trans h8, h9⟩
  · rw [Hp.get_set] at x
    by_cases e' : g' = g
    · subst e'
      rw [if_pos rfl] at x; cases x
      refine ⟨some b, cap, ?_, splice rs (n * sz) vs, e, hw', (splice_size _ _ _).trans p3, hc, ?_, p6⟩
      · simp [Ghost.frz, Ghost.setTk]
      · show (if b = b then G.fz b ++ vs else G.fz b).length = _
        rw [if_pos rfl, List.length_append, p5, hv, Nat.add_mul]
    · rw [if_neg e'] at x
      refine (h.blk g' k' x).keep le (fun b' hb' => ⟨h1 _ (other g' k' e' x b' hb'), ?_⟩) (tkne g' e')
      show (if b' = b then G.fz b ++ vs else G.fz b') = _
      rw [if_neg (other g' k' e' x b' hb')]
  · rw [Hp.get_set] at x y
    by_cases e1 : g' = g <;> by_cases e2 : g'' = g
    · rw [e1, e2]
    · subst e1
      rw [if_pos rfl] at x; cases x
      rw [if_neg e2] at y
      rw [own1] at p; cases p
      rw [ownb_keep (h.blk g'' k2 y) le (tkne _ e2)] at q
      exact absurd rfl (other g'' k2 e2 y _ q)
    · subst e2
      rw [if_pos rfl] at y; cases y
      rw [if_neg e1] at x
      rw [own1] at q; cases q
      rw [ownb_keep (h.blk g' k1 x) le (tkne _ e1)] at p
      exact absurd rfl (other g' k1 e1 x _ p)
    · rw [if_neg e1] at x; rw [if_neg e2] at y
      rw [ownb_keep (h.blk g' k1 x) le (tkne _ e1)] at p
      rw [ownb_keep (h.blk g'' k2 y) le (tkne _ e2)] at q
      exact h.inj g' g'' b' k1 k2 x y p q
  · obtain ⟨m, hm⟩ := h.fin
    refine ⟨m + g + 1, fun i hi => ⟨(hm i (by omega)).1, ?_⟩⟩
    rw [tkne i (by omega)]; exact (hm i (by omega)).2
/-- A token's new block. -/
theorem Inv.tok_new (h : Inv X G σ w) {g sz n cap : Nat} (hle : ∀ n' b c, G.tk g = some (n', b, c) → n' < n) (hg : (G.tk g = none ∧ G.bl g = none) ∨ ∃ sz' n', σ.get g = some (.tok sz' n')) (rs : Array Value) (e : TypeId) (hs : rs.size = cap * sz) (hc : n ≤ cap) :
    G.Le ((G.setTk g (n, some w.heap.size, cap)).frz w.heap.size (rs.toList.take (n * sz))) ∧
    Inv X ((G.setTk g (n, some w.heap.size, cap)).frz w.heap.size (rs.toList.take (n * sz))) (σ.set g (.tok sz n)) (w.alloc (.cells rs e)) := by
  have le1 : G.Le (G.setTk g (n, some w.heap.size, cap)) := Ghost.le_setTk fun n' b' c' x => by
    have := hle n' b' c' x
    exact ⟨by show n' ≤ n; omega, fun e => by have : n' = n := e; omega⟩
  have le : G.Le ((G.setTk g (n, some w.heap.size, cap)).frz w.heap.size (rs.toList.take (n * sz))) := le1.trans (Ghost.le_frz fun i c x => by
    have x' : (G.fz w.heap.size)[i]? = some c := x
    rw [h.fz_new] at x'; simp at x')
  have own1 : ownb ((G.setTk g (n, some w.heap.size, cap)).frz w.heap.size (rs.toList.take (n * sz))) g (.tok sz n) = some w.heap.size := by
    simp [ownb, Ghost.frz, Ghost.setTk]
  have tkne : ∀ g', g' ≠ g → ((G.setTk g (n, some w.heap.size, cap)).frz w.heap.size (rs.toList.take (n * sz))).tk g' = G.tk g' := fun g' hne => by
    show (if g' = g then _ else G.tk g') = _; rw [if_neg hne]
  have hXt : X.t g = none := h.ext_tk (hg.imp id fun ⟨sz', n', h0⟩ => ⟨_, h0⟩)
  refine ⟨le, fun b' i c x => ?_, fun b' o l x => ?_, fun g' x hx => ?_, fun g' k' x => ?_, fun g' g'' b' k1 k2 x y p q => ?_, ?_, h.eo⟩
  rotate_left
  · have h6 := (h.alloc (.cells rs e)).ext b' o l x
    refine ⟨h6.1, ?_⟩
    show (if b' = w.heap.size then rs.toList.take (n * sz) else G.fz b') = l
    rw [if_neg (Nat.ne_of_lt (lt_of_heap (h.ext b' o l x).1))]; exact h6.2
  · obtain ⟨hne, h8, h9⟩ := ext2_set h hXt (.tok sz n) hx
    exact ⟨(tkne g' hne).trans h8, h9⟩
  rotate_right
  · have x' : (if b' = w.heap.size then rs.toList.take (n * sz) else G.fz b')[i]? = some c := x
    by_cases e' : b' = w.heap.size
    · subst e'
      rw [if_pos rfl] at x'
      rw [World.cell?_alloc_new]
      rw [List.getElem?_take] at x'
      split at x'
      · simpa using x'
      · cases x'
    · rw [if_neg e'] at x'
      exact cell_alloc _ _ (h.fz b' i c x')
  · rw [Hp.get_set] at x
    by_cases e' : g' = g
    · subst e'
      rw [if_pos rfl] at x; cases x
      refine ⟨some w.heap.size, cap, ?_, rs, e, heap_alloc_new _ _, hs, hc, ?_, h.ext_new⟩
      · simp [Ghost.frz, Ghost.setTk]
      · show (if w.heap.size = w.heap.size then rs.toList.take (n * sz) else _).length = _
        rw [if_pos rfl, List.length_take, Array.length_toList, hs]
        have := Nat.mul_le_mul_right sz hc
        omega
    · rw [if_neg e'] at x
      refine (h.blk g' k' x).keep le (fun b' hb' => ⟨heap_alloc_old _ _ ((h.blk g' k' x).lt hb'), ?_⟩) (tkne g' e')
      show (if b' = w.heap.size then _ else G.fz b') = _
      rw [if_neg (Nat.ne_of_lt ((h.blk g' k' x).lt hb'))]
  · rw [Hp.get_set] at x y
    by_cases e1 : g' = g <;> by_cases e2 : g'' = g
    · rw [e1, e2]
    · subst e1
      rw [if_pos rfl] at x; cases x
      rw [if_neg e2] at y
      rw [own1] at p; cases p
      rw [ownb_keep (h.blk g'' k2 y) le (tkne _ e2)] at q
      exact absurd ((h.blk g'' k2 y).lt q) (Nat.lt_irrefl _)
    · subst e2
      rw [if_pos rfl] at y; cases y
      rw [if_neg e1] at x
      rw [own1] at q; cases q
      rw [ownb_keep (h.blk g' k1 x) le (tkne _ e1)] at p
      exact absurd ((h.blk g' k1 x).lt p) (Nat.lt_irrefl _)
    · rw [if_neg e1] at x; rw [if_neg e2] at y
      rw [ownb_keep (h.blk g' k1 x) le (tkne _ e1)] at p
      rw [ownb_keep (h.blk g'' k2 y) le (tkne _ e2)] at q
      exact h.inj g' g'' b' k1 k2 x y p q
  · obtain ⟨m, hm⟩ := h.fin
    refine ⟨m + g + 1, fun i hi => ⟨(hm i (by omega)).1, ?_⟩⟩
    rw [tkne i (by omega)]; exact (hm i (by omega)).2
/-- A token for what has no room. -/
theorem Inv.tok_nil (h : Inv X G σ w) {g : Nat} (hb : G.bl g = none) (h1 : G.tk g = none) (h3 : σ.get g = none) (sz : Nat) :
    G.Le (G.setTk g (0, none, 0)) ∧ Inv X (G.setTk g (0, none, 0)) (σ.set g (.tok sz 0)) w := by
  have le : G.Le (G.setTk g (0, none, 0)) := Ghost.le_setTk fun n b c x => by rw [h1] at x; cases x
  have own1 : ownb (G.setTk g (0, none, 0)) g (.tok sz 0) = none := by simp [ownb, Ghost.setTk]
  have tkne : ∀ g', g' ≠ g → (G.setTk g (0, none, 0)).tk g' = G.tk g' := fun g' hne => by
    show (if g' = g then _ else G.tk g') = _; rw [if_neg hne]
  refine ⟨le, h.fz, h.ext, fun g' x hx => by
      obtain ⟨hne, h8, h9⟩ := ext2_set h (h.ext_tk (.inl ⟨h1, hb⟩)) (.tok sz 0) hx
      exact ⟨(tkne g' hne).trans h8, h9⟩, fun g' k' x => ?_, fun g' g'' b' k1 k2 x y p q => ?_, ?_, h.eo⟩
  · rw [Hp.get_set] at x
    by_cases e' : g' = g
    · subst e'
      rw [if_pos rfl] at x; cases x
      exact ⟨none, 0, by simp [Ghost.setTk], rfl, rfl⟩
    · rw [if_neg e'] at x
      exact (h.blk g' k' x).keep le (fun b' hb' => ⟨rfl, rfl⟩) (tkne g' e')
  · rw [Hp.get_set] at x y
    by_cases e1 : g' = g <;> by_cases e2 : g'' = g
    · rw [e1, e2]
    · subst e1
      rw [if_pos rfl] at x; cases x
      rw [own1] at p; cases p
    · subst e2
      rw [if_pos rfl] at y; cases y
      rw [own1] at q; cases q
    · rw [if_neg e1] at x; rw [if_neg e2] at y
      rw [ownb_keep (h.blk g' k1 x) le (tkne _ e1)] at p
      rw [ownb_keep (h.blk g'' k2 y) le (tkne _ e2)] at q
      exact h.inj g' g'' b' k1 k2 x y p q
  · obtain ⟨m, hm⟩ := h.fin
    refine ⟨m + g + 1, fun i hi => ⟨(hm i (by omega)).1, ?_⟩⟩
    rw [tkne i (by omega)]; exact (hm i (by omega)).2
end Go.Vm
/- Vm, part 3: single operations: what each comes to, and that it does so. -/
namespace Go.Vm
variable {X : Ext} {G H G0 : Ghost} {σ : Hp} {w : World} {P : Program}
/-- What an operation comes to: a value; a new block, and a value that tells its name; a block that is told anew. -/
inductive Eff where
  | val (p : Prop) (v : V)
  | new (p : Prop) (k : Blk) (v : Nat → V)
  | set (p : Prop) (g : Nat) (k : Blk) (v : V)
  | any (p : Prop) (g : Nat) (l : List (V × Blk)) (d : V × Blk)
  | app (p : Prop) (g m n : Nat) (pre : List V)
def Eff.ap : Eff → Hp → (V → Hp → Prop) → Prop
  | .val p v, σ, K => p ∧ K v σ
  | .new p k v, σ, K => p ∧ ∀ g, σ.get g = none → K (v g) (σ.set g k)
  | .set p g k v, σ, K => p ∧ K v (σ.set g k)
  | .any p g l d, σ, K => p ∧ (l = [] → K d.1 (σ.set g d.2)) ∧ ∀ y ∈ l, K y.1 (σ.set g y.2)
  | .app p g m n pre, σ, K => p ∧ ∀ (g' cap' : Nat) (tl : List V), (g' = g ∨ σ.get g' = none) → m ≤ cap' → tl.length = (cap' - m) * n → K (.bs g' 0 m cap' n) ((σ.del g).set g' (.cells (pre ++ tl)))
/-- It does so, from this world. -/
def Snd (P : Program) (X : Ext) (G : Ghost) (σ : Hp) (w : World) (s : Sem Next) (e : Eff) : Prop :=
  ∀ K, e.ap σ K → ∃ nx r w' v σ' G', s.run P w = .ok nx w' ∧ (nx = .value r ∨ (nx = .skip ∧ r = undef)) ∧ K v σ' ∧ G.Le G' ∧ Inv X G' σ' w' ∧ VRel G' v r
theorem Snd.pure {s : Sem Next} {p : Prop} {v : V} (hI : Inv X G σ w) (h : p → ∃ r, s.run P w = .ok (.value r) w ∧ VRel G v r) : Snd P X G σ w s (.val p v) := by
  intro K ⟨hp, hK⟩
  obtain ⟨r, h1, h2⟩ := h hp
  exact ⟨_, r, w, v, σ, G, h1, .inl rfl, hK, Ghost.Le.refl _, hI, h2⟩
theorem Snd.val {s : Sem Next} {p : Prop} {v : V} (h : p → ∃ r w' G', s.run P w = .ok (.value r) w' ∧ G.Le G' ∧ Inv X G' σ w' ∧ VRel G' v r) : Snd P X G σ w s (.val p v) := by
  intro K ⟨hp, hK⟩
  obtain ⟨r, w', G', h1, h2, h3, h4⟩ := h hp
  exact ⟨_, r, w', v, σ, G', h1, .inl rfl, hK, h2, h3, h4⟩
theorem Snd.new {s : Sem Next} {p : Prop} {k : Blk} {v : Nat → V} (h : p → ∃ g r w' G', σ.get g = none ∧ s.run P w = .ok (.value r) w' ∧ G.Le G' ∧ Inv X G' (σ.set g k) w' ∧ VRel G' (v g) r) : Snd P X G σ w s (.new p k v) := by
  intro K ⟨hp, hK⟩
  obtain ⟨g, r, w', G', h0, h1, h2, h3, h4⟩ := h hp
  exact ⟨_, r, w', v g, _, G', h1, .inl rfl, hK g h0, h2, h3, h4⟩
theorem Snd.set {s : Sem Next} {p : Prop} {g : Nat} {k : Blk} {v : V} (h : p → ∃ r w' G', s.run P w = .ok (.value r) w' ∧ G.Le G' ∧ Inv X G' (σ.set g k) w' ∧ VRel G' v r) : Snd P X G σ w s (.set p g k v) := by
  intro K ⟨hp, hK⟩
  obtain ⟨r, w', G', h1, h2, h3, h4⟩ := h hp
  exact ⟨_, r, w', v, _, G', h1, .inl rfl, hK, h2, h3, h4⟩
theorem Snd.any {s : Sem Next} {p : Prop} {g : Nat} {l : List (V × Blk)} {d : V × Blk} (h : p → ∃ (y : V × Blk) (r : Value) (w' : World) (G' : Ghost), ((l = [] ∧ y = d) ∨ y ∈ l) ∧ s.run P w = .ok (.value r) w' ∧ G.Le G' ∧ Inv X G' (σ.set g y.2) w' ∧ VRel G' y.1 r) : Snd P X G σ w s (.any p g l d) := by
  intro K ⟨hp, hK1, hK2⟩
  obtain ⟨y, r, w', G', h0, h1, h2, h3, h4⟩ := h hp
  refine ⟨_, r, w', y.1, _, G', h1, .inl rfl, ?_, h2, h3, h4⟩
  rcases h0 with ⟨h0, rfl⟩ | h0
  · exact hK1 h0
  · exact hK2 y h0
theorem Snd.app {s : Sem Next} {p : Prop} {g m n : Nat} {pre : List V} (h : p → ∃ (g' cap' : Nat) (tl : List V) (r : Value) (w' : World) (G' : Ghost), (g' = g ∨ σ.get g' = none) ∧ m ≤ cap' ∧ tl.length = (cap' - m) * n ∧ s.run P w = .ok (.value r) w' ∧ G.Le G' ∧ Inv X G' ((σ.del g).set g' (.cells (pre ++ tl))) w' ∧ VRel G' (.bs g' 0 m cap' n) r) : Snd P X G σ w s (.app p g m n pre) := by
  intro K ⟨hp, hK⟩
  obtain ⟨g', cap', tl, r, w', G', a1, a2, a3, h1, h2, h3, h4⟩ := h hp
  exact ⟨_, r, w', _, _, G', h1, .inl rfl, hK g' cap' tl a1 a2 a3, h2, h3, h4⟩
/-! ### values -/
def cell1 : Value → V
  | .bool b => .bool b
  | .int k n => .int k n
  | .string s => .str s
  | .pointer none => .nilp
  | .slice none 0 0 => .sl 0 [] .full
  | .map none => .nilm
  | .nilFunc => .nilf
  | .nilIface => .nili
  | _ => .dead
def ofVal : Value → V
  | .agg cs => .agg (cs.toList.map cell1)
  | .func (.func f) fs cs => if fs.isEmpty && cs.isEmpty then .fn f [] else .dead
  | v => cell1 v
theorem cell1_rel (G : Ghost) (v : Value) : VRel G (cell1 v) v := by
  unfold cell1
  split
  · exact .bool _
  · exact .int _ _
  · exact .str _
  · exact .nilp
  · exact .sl 0 [] .full none 0 (fun _ => undef) (Nat.le_refl _) (fun e he => by cases he) (.inl rfl) (fun i c h => by simp [flat] at h) rfl (fun e he => by cases he)
  · exact .nilm
  · exact .nilf
  · exact .nili
  · exact .dead _
theorem cells_rel (G : Ghost) (cs : Array Value) : Rows2 G (cs.toList.map cell1) cs := by
  refine ⟨by simp, fun i c h => ?_⟩
  rw [List.getElem?_map] at h
  cases hi : cs[i]? with
  | none => simp [hi] at h
  | some x =>
    simp [hi] at h
    subst h
    have : cs.getD i undef = x := by simp [hi]
    rw [this]; exact cell1_rel G x
theorem ofVal_rel (G : Ghost) (v : Value) : VRel G (ofVal v) v := by
  unfold ofVal
  split
  · have := cells_rel G ‹Array Value›
    exact .agg _ _ this.1 this.2
  · split
    · rename_i h
      simp only [Bool.and_eq_true, Array.isEmpty_iff] at h
      obtain ⟨rfl, rfl⟩ := h
      exact .fn _ [] #[] rfl (fun i c h => by simp at h)
    · exact .dead _
  · exact cell1_rel G _
def ev (env : Env) : Operand → V
  | .tmp t => env.get t
  | .const v => ofVal v
  | .func f => .fn f []
  | .global _ => .dead
theorem ev_rel {env : Env} {a : Act} (h : ∀ t, VRel G (env.get t) (a.tmps.getD t undef)) (o : Operand) : VRel G (ev env o) (a.eval o) := by
  cases o with
  | tmp t => exact h t
  | const v => exact ofVal_rel G v
  | func f => exact .fn f [] #[] rfl (fun i c h => by simp at h)
  | global g => exact .dead _
/-! ### types -/
def szT (P : Program) (t : TypeId) : Option Nat := (P.info? t).map (·.size)
def bytesT (P : Program) (t : TypeId) : Option Nat := (P.info? t).map (·.bytes)
def aggT (P : Program) (t : TypeId) : Option Bool :=
  match P.underlying t with
  | some (.struct _) => some true
  | some (.array _ _) => some true
  | some _ => some false
  | none => none
def zeroT (P : Program) (t : TypeId) : Option (List V) := ((P.info? t).bind (·.zero)).map fun v => v.cells.toList.map cell1
def fieldT (P : Program) (s : TypeId) (f : Nat) : Option (TypeId × Nat) :=
  match P.underlying s with
  | some (.struct fs) => (fs[f]?).map fun f => (f.type, f.offset)
  | _ => none
def elemT (P : Program) (t : TypeId) : Option TypeId :=
  match P.underlying t with
  | some (.slice e) => some e
  | _ => none
def arrT (P : Program) (t : TypeId) : Option (Nat × TypeId) :=
  match P.underlying t with
  | some (.array n e) => some (n, e)
  | _ => none
theorem run_und {t : TypeId} {d : TypeDesc} (h : P.underlying t = some d) (w : World) : (underlying t).run P w = .ok d w := by
  simp [underlying, h]
theorem run_inf {t : TypeId} {i : TypeInfo} (h : P.info? t = some i) (w : World) : (typeInfo t).run P w = .ok i w := by
  simp [typeInfo, h]
theorem run_sz {t : TypeId} {n : Nat} (h : szT P t = some n) (w : World) : (sizeOf t).run P w = .ok n w := by
  unfold szT at h
  cases hi : P.info? t with
  | none => simp [hi] at h
  | some i => simp [hi] at h; simp [sizeOf, run_inf hi, h]
theorem run_agg {t : TypeId} {b : Bool} (h : aggT P t = some b) (w : World) : (isAgg t).run P w = .ok b w := by
  unfold aggT at h
  cases hu : P.underlying t with
  | none => simp [hu] at h
  | some d => cases d <;> simp [hu] at h <;> subst h <;> simp [isAgg, run_und hu]
theorem run_zero {t : TypeId} {l : List V} (h : zeroT P t = some l) (w : World) : ∃ z, (zeroValue t).run P w = .ok z w ∧ Rows2 G l z.cells := by
  unfold zeroT at h
  cases hi : P.info? t with
  | none => simp [hi] at h
  | some i =>
    cases hz : i.zero with
    | none => simp [hi, hz] at h
    | some v =>
      simp [hi, hz] at h
      subst h
      exact ⟨v, by simp [zeroValue, run_inf hi, hz], cells_rel G _⟩
end Go.Vm
/- Vm, part 4: memory: load, store, alloc, box, build, slices made, addresses. -/
namespace Go.Vm
variable {X : Ext} {G H G0 : Ghost} {σ : Hp} {w : World} {P : Program}
/-- A row of cells at a place. -/
def RowAt (G : Ghost) (w : World) (b off : Nat) (cs : List V) : Prop := ∀ i c, cs[i]? = some c → ∃ r, w.cell? ⟨b, off + i, none⟩ = some r ∧ VRel G c r
theorem RowAt.drop {b off : Nat} {cs : List V} (h : RowAt G w b off cs) (n : Nat) : RowAt G w b (off + n) (cs.drop n) := fun i c hi => by
  rw [List.getElem?_drop] at hi
  have := h _ _ hi
  rwa [← Nat.add_assoc] at this
theorem RowAt.take {b off : Nat} {cs : List V} (h : RowAt G w b off cs) (n : Nat) : RowAt G w b off (cs.take n) := fun i c hi => by
  rw [List.getElem?_take] at hi
  split at hi
  · exact h _ _ hi
  · cases hi
theorem RowAt.load {b off : Nat} {cs : List V} (h : RowAt G w b off cs) : ∃ rs, (loadCells ⟨b, off, none⟩ cs.length).run P w = .ok rs w ∧ Rows2 G cs rs := by
  have hc : ∀ j, j < cs.length → w.cell? ⟨b, off + j, none⟩ = some ((w.cell? ⟨b, off + j, none⟩).getD undef) := fun j hj => by
    obtain ⟨r, h1, _⟩ := h j _ (List.getElem?_eq_getElem hj)
    rw [h1]; rfl
  refine ⟨_, Vm.run_loadCells P w b off cs.length _ hc, by simp, fun i c hi => ?_⟩
  obtain ⟨r, h1, h2⟩ := h i c hi
  have hlt := (List.getElem?_eq_some_iff.1 hi).1
  simp [hlt, h1, h2]
theorem row_ptr (hI : Inv X G σ w) {g : Nat} {cs : List V} (hg : σ.get g = some (.cells cs)) : ∃ b, G.bl g = some b ∧ RowAt G w b 0 cs := by
  obtain ⟨b, rs, e, h1, h2, h3, h4, h5⟩ := hI.blk g _ hg
  refine ⟨b, h1, fun i c hi => ?_⟩
  have hlt := (List.getElem?_eq_some_iff.1 hi).1
  have := h3.1.2 i c hi
  rw [cell_of_heap h2, Nat.zero_add]
  have hs : i < rs.size := by rw [h3.1.1]; exact hlt
  exact ⟨rs[i], by simp [hs], by simpa [hs] using this⟩
theorem row_fz (hI : Inv X G σ w) {b off : Nat} {cs : List V} {rs : Nat → Value} (h : ∀ i c, cs[i]? = some c → (G.fz b)[off + i]? = some (rs i)) (hr : ∀ i c, cs[i]? = some c → VRel G c (rs i)) : RowAt G w b off cs :=
  fun i c hi => ⟨rs i, hI.fz _ _ _ (h i c hi), hr i c hi⟩
def mLoad (P : Program) (σ : Hp) (t : TypeId) (x : V) : Option Eff :=
  match szT P t, aggT P t, x with
  | some n, some true, .ptr g off => match σ.get g with
    | some (.cells cs) => some (.val (off + n ≤ cs.length) (.agg ((cs.drop off).take n)))
    | _ => none
  | some _, some false, .ptr g off => match σ.get g with
    | some (.cells cs) => some (.val (off < cs.length) (cs.getD off .dead))
    | _ => none
  | some n, some true, .pv cs => some (.val (n ≤ cs.length) (.agg (cs.take n)))
  | some _, some false, .pv cs => some (.val (0 < cs.length) (cs.getD 0 .dead))
  | _, _, _ => none
theorem load_one {b off : Nat} {cs : List V} (h : RowAt G w b off cs) {i : Nat} (hi : i < cs.length) : ∃ r, (load ⟨b, off + i, none⟩).run P w = .ok r w ∧ VRel G (cs.getD i .dead) r := by
  obtain ⟨r, h1, h2⟩ := h i _ (List.getElem?_eq_getElem hi)
  refine ⟨r, by simp [h1], ?_⟩
  simpa [hi] using h2
theorem load_val (hI : Inv X G σ w) {t : TypeId} {x : V} {r : Value} (hx : VRel G x r) {p : Prop} {v : V} (h : mLoad P σ t x = some (.val p v)) (hp : p) :
    ∃ u, (Instr.loadAt t r).run P w = .ok u w ∧ VRel G v u := by
  unfold mLoad at h
  split at h
  · rename_i n g off hn ha
    split at h
    · rename_i cs hg
      cases h
      cases hx with | ptr _ _ b hb =>
      obtain ⟨b', hb', hrow⟩ := row_ptr hI hg
      rw [hb] at hb'; cases hb'
      have h1 := (hrow.drop off).take n
      obtain ⟨rs, h2, h3⟩ := RowAt.load (P := P) h1
      have hl : ((cs.drop off).take n).length = n := by simp; omega
      rw [hl, Nat.zero_add] at h2
      exact ⟨.agg rs, by simp [Instr.loadAt, Instr.sureAddr, loadVar, run_agg ha, run_sz hn, h2], .agg _ _ h3.1 h3.2⟩
    · cases h
  · rename_i n g off hn ha
    split at h
    · rename_i cs hg
      cases h
      cases hx with | ptr _ _ b hb =>
      obtain ⟨b', hb', hrow⟩ := row_ptr hI hg
      rw [hb] at hb'; cases hb'
      obtain ⟨r, h1, h2⟩ := load_one (P := P) hrow hp
      rw [Nat.zero_add] at h1
      have h1' : (load ⟨b, off, none⟩).run P w = .ok r w := h1
      refine ⟨r, ?_, h2⟩
      simp only [Instr.loadAt, Instr.sureAddr, loadVar, pure_bind, Sem.run_bind, run_agg ha, Result.andThen_ok, Bool.false_eq_true, if_false, h1']
    · cases h
  · rename_i n cs hn ha
    cases h
    cases hx with | pv _ b off rs hb hr =>
    have hrow := row_fz hI hb hr
    obtain ⟨rs', h2, h3⟩ := RowAt.load (P := P) (hrow.take n)
    have hl : (cs.take n).length = n := by simp; omega
    rw [hl] at h2
    exact ⟨.agg rs', by simp [Instr.loadAt, Instr.sureAddr, loadVar, run_agg ha, run_sz hn, h2], .agg _ _ h3.1 h3.2⟩
  · rename_i n cs hn ha
    cases h
    cases hx with | pv _ b off rs hb hr =>
    have hrow := row_fz hI hb hr
    obtain ⟨r, h1, h2⟩ := load_one (P := P) hrow hp
    have h1' : (load ⟨b, off, none⟩).run P w = .ok r w := h1
    refine ⟨r, ?_, h2⟩
    simp only [Instr.loadAt, Instr.sureAddr, loadVar, pure_bind, Sem.run_bind, run_agg ha, Result.andThen_ok, Bool.false_eq_true, if_false, h1']
  · cases h
theorem mLoad_val {t : TypeId} {x : V} {e : Eff} (h : mLoad P σ t x = some e) : ∃ p v, e = .val p v := by
  unfold mLoad at h
  split at h <;> first | (split at h <;> cases h <;> exact ⟨_, _, rfl⟩) | (cases h; exact ⟨_, _, rfl⟩) | cases h
theorem mLoad_is {t : TypeId} {x : V} {e : Eff} (h : mLoad P σ t x = some e) : (∃ g o, x = .ptr g o) ∨ ∃ cs, x = .pv cs := by
  unfold mLoad at h
  split at h <;> first | exact .inl ⟨_, _, rfl⟩ | exact .inr ⟨_, rfl⟩ | cases h
theorem sound_load (hI : Inv X G σ w) {t : TypeId} {x : V} {r : Value} (hx : VRel G x r) {e : Eff} (h : mLoad P σ t x = some e) :
    Snd P X G σ w (do pure (.value (← Instr.loadAt t r))) e := by
  obtain ⟨p, v, rfl⟩ := mLoad_val h
  refine Snd.pure hI fun hp => ?_
  obtain ⟨u, h1, h2⟩ := load_val (P := P) hI hx h hp
  exact ⟨u, by rw [Sem.run_bind, h1]; rfl, h2⟩
def putL : List V → Nat → List V → List V
  | cs, _, [] => cs
  | cs, off, v :: vs => putL (cs.set off v) (off + 1) vs
theorem putL_length (cs : List V) (off : Nat) (vs : List V) : (putL cs off vs).length = cs.length := by
  induction vs generalizing cs off with
  | nil => rfl
  | cons v vs ih => simp [putL, ih]
theorem Rows2.splice {cs : List V} {rs : Array Value} (h : Rows2 G cs rs) (off : Nat) {vs : List V} {us : List Value} (hl : us.length = vs.length) (hr : ∀ i c, vs[i]? = some c → VRel G c (us.getD i undef)) :
    Rows2 G (putL cs off vs) (Vm.splice rs off us) := by
  induction vs generalizing cs rs off us with
  | nil =>
    have : us = [] := List.eq_nil_of_length_eq_zero (by simpa using hl)
    subst this; exact h
  | cons v vs ih =>
    cases us with
    | nil => simp at hl
    | cons u us =>
      exact ih (h.set off (by simpa using hr 0 v rfl)) (off + 1) (by simpa using hl) (fun i c hi => by simpa using hr (i + 1) c (by simpa using hi))
theorem one_putL {cs : List V} (h : cs.all V.one = true) {off : Nat} {vs : List V} (hv : vs.all V.one = true) : (putL cs off vs).all V.one = true := by
  induction vs generalizing cs off with
  | nil => exact h
  | cons v vs ih =>
    rw [List.all_cons, Bool.and_eq_true] at hv
    exact ih (one_set h hv.1) hv.2
def mStore (P : Program) (σ : Hp) (t : TypeId) (x v : V) : Option Eff :=
  match szT P t, x with
  | some n, .ptr g off => match σ.get g with
    | some (.cells cs) => some (.set (off + n ≤ cs.length ∧ v.cells.length = n ∧ v.cells.all V.one = true) g (.cells (putL cs off v.cells)) .dead)
    | _ => none
  | _, _ => none
theorem cells_of_one {v : V} (h : v.cells.all V.one = true) : (∀ vs, v ≠ .tup vs) ∧ v ≠ .dead := by
  constructor
  · intro vs e; subst e; simp [V.cells, V.one] at h
  · intro e; subst e; simp [V.cells, V.one] at h
theorem sound_store (hI : Inv X G σ w) {t : TypeId} {x v : V} {r u : Value} (hx : VRel G x r) (hv : VRel G v u) {e : Eff} (h : mStore P σ t x v = some e) :
    Snd P X G σ w (do Instr.storeAt t r u; pure .skip) e := by
  unfold mStore at h
  split at h
  · rename_i n g off hn
    split at h
    · rename_i cs hg
      cases h
      cases hx with | ptr _ _ b hb =>
      intro K ⟨⟨h1, h2, h3⟩, hK⟩
      obtain ⟨n1, n2⟩ := cells_of_one h3
      obtain ⟨c1, c2⟩ := hv.cells n1 n2
      obtain ⟨b', rs, et, p1, p2, p3, p4, p5⟩ := hI.blk g _ hg
      rw [hb] at p1; cases p1
      have hone : ∀ z ∈ u.cells.toList, z.oneCell' = true := fun z hz => by
        obtain ⟨i, hi⟩ := List.getElem?_of_mem hz
        have hlt : i < v.cells.length := by
          have := (List.getElem?_eq_some_iff.1 hi).1
          rw [← c1]; simpa using this
        have hr := c2 i _ (List.getElem?_eq_getElem hlt)
        have e1 : u.cells.getD i undef = z := by
          have : u.cells[i]? = some z := by simpa using hi
          simp [this]
        rw [e1] at hr
        exact hr.oneCell (by have := List.all_eq_true.1 h3 _ (List.getElem_mem hlt); exact this)
      obtain ⟨w', q1, q2, q3, q4, q5⟩ := run_storeCells P b off et u.cells.toList 0 w rs p2 (by simp only [Nat.add_zero, Array.length_toList, c1, h2, p3.1.1]; exact h1) hone
      refine ⟨.skip, undef, w', .dead, _, G, ?_, .inr ⟨rfl, rfl⟩, hK, Ghost.Le.refl _, ?_, .dead _⟩
      · have hsz : u.cells.size = n := c1.trans h2
        simp [Instr.storeAt, Instr.sureAddr, storeVar, run_sz hn, hsz, q1]
      · refine hI.change hg hb (fun _ _ => by simp) (fun _ _ => by simp) p4 q2 ⟨b, _, et, hb, q3, ⟨?_, one_putL p3.2 h3⟩, p4, p5⟩ q5
        rw [Nat.add_zero]
        exact p3.1.splice off (by simpa using c1) (fun i c hi => by
          have := c2 i c hi
          simpa using this)
    · cases h
  · cases h
def mAlloc (P : Program) (t : TypeId) : Option Eff :=
  match zeroT P t with
  | some cs => cond (cs.all V.one) (some (.new True (.cells cs) fun g => .ptr g 0)) none
  | none => none
theorem sound_alloc (hI : Inv X G σ w) {t : TypeId} {e : Eff} (h : mAlloc P t = some e) : Snd P X G σ w (do pure (.value (← Instr.alloc t true (.tuple #[])))) e := by
  unfold mAlloc at h
  split at h
  · rename_i cs hz
    cases ho : cs.all V.one with
    | false => rw [ho] at h; cases h
    | true =>
      rw [ho] at h; cases h
      refine Snd.new fun _ => ?_
      obtain ⟨z, h1, h2⟩ := run_zero hz w
      obtain ⟨g, g1, g2, g3⟩ := hI.fresh
      obtain ⟨le, hI'⟩ := hI.alloc_cells g1 g2 g3 t ⟨h2, ho⟩
      refine ⟨g, .pointer (some ⟨w.heap.size, 0, none⟩), _, _, g3, ?_, le, hI', .ptr _ _ _ (by simp [Ghost.setBl])⟩
      simp [Instr.alloc, h1, newVar, newRow]
  · cases h
def mBox (v : V) : Option Eff := some (.new (v.cells.all V.one = true) (.cells v.cells) fun g => .ptr g 0)
theorem sound_box (hI : Inv X G σ w) {t : TypeId} {v : V} {r : Value} (hv : VRel G v r) {e : Eff} (h : mBox v = some e) : Snd P X G σ w (do pure (.value (← Instr.box t r))) e := by
  cases h
  refine Snd.new fun hp => ?_
  obtain ⟨n1, n2⟩ := cells_of_one hp
  obtain ⟨c1, c2⟩ := hv.cells n1 n2
  obtain ⟨g, g1, g2, g3⟩ := hI.fresh
  obtain ⟨le, hI'⟩ := hI.alloc_cells g1 g2 g3 t ⟨⟨c1, c2⟩, hp⟩
  refine ⟨g, .pointer (some ⟨w.heap.size, 0, none⟩), _, _, g3, ?_, le, hI', .ptr _ _ _ (by simp [Ghost.setBl])⟩
  simp [Instr.box, newVar, newRow]
/-- Parts laid over a row. -/
def fillV (place : Nat → Option (Nat × Nat)) (cs : List V) : List (Nat × V) → Option (List V)
  | [] => some cs
  | (i, v) :: rest => match place i with
    | some (off, n) => cond (Nat.beq v.cells.length n && Nat.ble (off + n) cs.length && v.cells.all V.one) (fillV place (putL cs off v.cells) rest) none
    | none => none
theorem foldl_set_eq (us : List Value) (off : Nat) (cs : Array Value) (k : Nat) :
    (us.zipIdx k).foldl (fun (cs : Array Value) (p : Value × Nat) => cs.setIfInBounds (off + p.2) p.1) cs = Vm.splice cs (off + k) us := by
  induction us generalizing cs k with
  | nil => rfl
  | cons u us ih => simp only [List.zipIdx_cons, List.foldl_cons, Vm.splice]; rw [ih]; rfl
theorem fill_rel {place : Nat → Option (Nat × Nat)} : ∀ (ps : List (Nat × V)) (qs : List (Nat × Value)) (cs out : List V) (rs : Array Value), ps.length = qs.length →
    (∀ (i : Nat) (p : Nat × V) (q : Nat × Value), ps[i]? = some p → qs[i]? = some q → p.1 = q.1 ∧ VRel G p.2 q.2) → Rows2 G cs rs → fillV place cs ps = some out → ∃ ro, Instr.fill place rs qs = some ro ∧ Rows2 G out ro := by
  intro ps
  induction ps with
  | nil =>
    intro qs cs out rs hl _ hr h
    cases qs with
    | cons _ _ => simp at hl
    | nil => cases h; exact ⟨rs, rfl, hr⟩
  | cons p ps ih =>
    intro qs cs out rs hl hp hr h
    cases qs with
    | nil => simp at hl
    | cons q qs =>
      obtain ⟨i, v⟩ := p
      obtain ⟨j, u⟩ := q
      obtain ⟨e1, e2⟩ := hp 0 (i, v) (j, u) rfl rfl
      simp only at e1 e2
      subst e1
      simp only [fillV] at h
      cases hpl : place i with
      | none => simp [hpl] at h
      | some on =>
        obtain ⟨off, n⟩ := on
        simp only [hpl] at h
        cases hc : (Nat.beq v.cells.length n && Nat.ble (off + n) cs.length && v.cells.all V.one) with
        | false => simp [hc] at h
        | true =>
          simp only [hc, cond_true] at h
          simp only [Bool.and_eq_true] at hc
          obtain ⟨⟨h1, h2⟩, h3⟩ := hc
          have h1' := Nat.eq_of_beq_eq_true h1
          have h2' := Nat.le_of_ble_eq_true h2
          obtain ⟨n1, n2⟩ := cells_of_one h3
          obtain ⟨c1, c2⟩ := e2.cells n1 n2
          have hr' := hr.splice off (us := u.cells.toList) (by simpa using c1) (fun k c hk => by have := c2 k c hk; simpa using this)
          obtain ⟨ro, r1, r2⟩ := ih qs _ out _ (by simpa using hl) (fun k p q hp' hq' => hp (k + 1) p q (by simpa using hp') (by simpa using hq')) hr' h
          refine ⟨ro, ?_, r2⟩
          simp only [Instr.fill, hpl]
          rw [if_neg (by simp only [c1, h1', hr.1, ne_eq, not_true_eq_false, Bool.or_eq_true, decide_eq_true_eq, false_or]; simp; omega)]
          rw [← r1]
          congr 1
          rw [← Array.foldl_toList, Array.toList_zipIdx]
          exact foldl_set_eq _ off rs 0
end Go.Vm
/- Vm, part 5: build, slices made of parts, fields, places of elements, cuts, strings' bytes. -/
namespace Go.Vm
variable {X : Ext} {G H G0 : Ghost} {σ : Hp} {w : World} {P : Program}
def placesT (P : Program) (t : TypeId) : Option (List (Nat × Nat)) :=
  match P.underlying t with
  | some (.struct fs) => fs.toList.mapM fun f => (P.info? f.type).map fun i => (f.offset, i.size)
  | _ => none
theorem zero_run {t : TypeId} {l : List V} (h : zeroT P t = some l) (w : World) : ∃ z, (zeroValue t).run P w = .ok z w ∧ Rows2 G l z.cells := by
  unfold zeroT at h
  cases hi : P.info? t with
  | none => simp [hi] at h
  | some i =>
    cases hz : i.zero with
    | none => simp [hi, hz] at h
    | some v =>
      simp [hi, hz] at h
      subst h
      exact ⟨v, by simp [zeroValue, run_inf hi, hz], cells_rel G _⟩
/-- Operands laid side by side. -/
def Pair (G : Ghost) (ps : List (Nat × V)) (qs : List (Nat × Value)) : Prop := ps.length = qs.length ∧ ∀ (i : Nat) (p : Nat × V) (q : Nat × Value), ps[i]? = some p → qs[i]? = some q → p.1 = q.1 ∧ VRel G p.2 q.2
def mBuild (P : Program) (t : TypeId) (ps : List (Nat × V)) : Option Eff :=
  match placesT P t, zeroT P t with
  | some pl, some zs => match fillV (pl[·]?) zs ps with
    | some cs => some (.val True (.agg cs))
    | none => none
  | _, _ => none
theorem sound_build (hI : Inv X G σ w) {t : TypeId} {ps : List (Nat × V)} {qs : Array (Nat × Value)} (hp : Pair G ps qs.toList) {e : Eff} (h : mBuild P t ps = some e) :
    Snd P X G σ w (do pure (.value (← Instr.build t qs))) e := by
  unfold mBuild at h
  split at h
  · rename_i pl zs hpl hz
    split at h
    · rename_i cs hf
      cases h
      refine Snd.pure hI fun _ => ?_
      obtain ⟨z, h1, h2⟩ := zero_run (G := G) hz w
      obtain ⟨ro, r1, r2⟩ := fill_rel ps qs.toList zs cs z.cells hp.1 hp.2 h2 hf
      unfold placesT at hpl
      cases hu : P.underlying t with
      | none => simp [hu] at hpl
      | some d =>
        cases d <;> simp [hu] at hpl
        rename_i fs
        have hpl' := run_places (P := P) w fs.toList pl (by simpa using hpl)
        have e1 : (fun i : Nat => pl.toArray[i]?) = fun i : Nat => pl[i]? := by funext i; simp
        refine ⟨.agg ro, ?_, .agg _ _ r2.1 r2.2⟩
        simp [Instr.build, h1, run_und hu, Array.mapM_eq_mapM_toList, hpl', r1]
    · cases h
  · cases h
def mBuildArr (P : Program) (t : TypeId) (ps : List (Nat × V)) : Option Eff :=
  match arrT P t, zeroT P t with
  | some (_, e), some zs => match szT P e with
    | some n => match fillV (fun i => some (i * n, n)) zs ps with
      | some cs => some (.val True (.agg cs))
      | none => none
    | none => none
  | _, _ => none
theorem sound_buildArr (hI : Inv X G σ w) {t : TypeId} {ps : List (Nat × V)} {qs : Array (Nat × Value)} (hp : Pair G ps qs.toList) {e : Eff} (h : mBuildArr P t ps = some e) :
    Snd P X G σ w (do pure (.value (← Instr.build t qs))) e := by
  unfold mBuildArr at h
  split at h
  · rename_i n el zs ha hz
    split at h
    · rename_i m hm
      split at h
      · rename_i cs hf
        cases h
        refine Snd.pure hI fun _ => ?_
        obtain ⟨z, h1, h2⟩ := zero_run (G := G) hz w
        obtain ⟨ro, r1, r2⟩ := fill_rel ps qs.toList zs cs z.cells hp.1 hp.2 h2 hf
        unfold arrT at ha
        cases hu : P.underlying t with
        | none => simp [hu] at ha
        | some d =>
          cases d <;> simp [hu] at ha
          obtain ⟨rfl, rfl⟩ := ha
          refine ⟨.agg ro, ?_, .agg _ _ r2.1 r2.2⟩
          simp [Instr.build, h1, run_und hu, run_sz hm, r1]
      · cases h
    · cases h
  · cases h
/-- Parts that stand for a slice's elements, in order, all of them. -/
def inOrder : Nat → List (Nat × V) → Bool
  | _, [] => true
  | k, (i, _) :: ps => Nat.beq i k && inOrder (k + 1) ps
def uniV (n : Nat) (es : List V) : Bool := es.all fun e => Nat.beq e.cells.length n && e.cells.all V.one
theorem uniV_spec {n : Nat} {es : List V} (h : uniV n es = true) : ∀ e ∈ es, e.cells.length = n ∧ e.cells.all V.one = true := fun e he => by
  have := List.all_eq_true.1 h e he
  simp only [Bool.and_eq_true] at this
  exact ⟨Nat.eq_of_beq_eq_true this.1, this.2⟩
theorem flat_length {n : Nat} : ∀ {es : List V}, (∀ e ∈ es, e.cells.length = n) → (flat es).length = es.length * n
  | [], _ => by simp [flat]
  | e :: es, h => by
    rw [flat_cons, List.length_append, h e (List.mem_cons_self ..), flat_length fun x hx => h x (List.mem_cons_of_mem _ hx), List.length_cons, Nat.add_mul]; omega
theorem putL_at {cs : List V} {off : Nat} {vs : List V} (h : off + vs.length ≤ cs.length) : putL cs off vs = cs.take off ++ vs ++ cs.drop (off + vs.length) := by
  induction vs generalizing cs off with
  | nil => simp [putL]
  | cons v vs ih =>
    simp only [List.length_cons] at h
    rw [putL, ih (by simp; omega)]
    simp only [List.length_cons]
    have h1 : (cs.set off v).take (off + 1) = cs.take off ++ [v] := by
      rw [List.take_succ_eq_append_getElem (by simp; omega), List.take_set_of_le (Nat.le_refl _)]
      simp
    have h2 : (cs.set off v).drop (off + 1 + vs.length) = cs.drop (off + (vs.length + 1)) := by
      rw [List.drop_set_of_lt (by omega)]; congr 1; omega
    rw [h1, h2]; simp
theorem fill_inOrder {n : Nat} : ∀ (ps : List (Nat × V)) (k : Nat) (pre cs : List V), inOrder k ps = true → uniV n (ps.map (·.2)) = true → pre.length = k * n → cs.length = ps.length * n →
    fillV (fun i => some (i * n, n)) (pre ++ cs) ps = some (pre ++ flat (ps.map (·.2))) := by
  intro ps
  induction ps with
  | nil => intro k pre cs _ _ _ hc; simp only [List.length_nil, Nat.zero_mul] at hc; have := List.eq_nil_of_length_eq_zero hc; subst this; simp [fillV, flat]
  | cons p ps ih =>
    intro k pre cs ho hu hp hc
    obtain ⟨i, v⟩ := p
    simp only [inOrder, Bool.and_eq_true] at ho
    have hi := Nat.eq_of_beq_eq_true ho.1
    subst hi
    simp only [List.length_cons, Nat.add_mul, Nat.one_mul] at hc
    simp only [List.map_cons] at hu ⊢
    have hv := uniV_spec hu v (List.mem_cons_self ..)
    have hu' : uniV n (ps.map (·.2)) = true := by simp only [uniV, List.all_cons, Bool.and_eq_true] at hu ⊢; exact hu.2
    simp only [fillV]
    have hb : (Nat.beq v.cells.length n && Nat.ble (i * n + n) (pre ++ cs).length && v.cells.all V.one) = true := by
      simp only [Bool.and_eq_true]
      refine ⟨⟨by rw [hv.1]; exact Nat.beq_refl _, Nat.ble_eq_true_of_le ?_⟩, hv.2⟩
      rw [List.length_append, hp, hc]; omega
    rw [hb, cond_true, putL_at (by rw [List.length_append, hp, hc, hv.1]; omega)]
    have e1 : (pre ++ cs).take (i * n) = pre := by rw [← hp]; simp
    have e2 : (pre ++ cs).drop (i * n + v.cells.length) = cs.drop n := by rw [← hp, hv.1, List.drop_append]; simp
    rw [e1, e2, ih (i + 1) (pre ++ v.cells) (cs.drop n) ho.2 hu' (by rw [List.length_append, hp, hv.1]; simp [Nat.add_mul]) (by rw [List.length_drop, hc]; omega)]
    simp [flat_cons]
def mBuildSlice (P : Program) (t : TypeId) (len : Nat) (ps : List (Nat × V)) : Option Eff :=
  match elemT P t with
  | some e => match szT P e, zeroT P e with
    | some n, some zs => cond (inOrder 0 ps && Nat.beq ps.length len && Nat.ble (len * n) 1000 && Nat.beq zs.length n) (some (.val (uniV n (ps.map (·.2)) = true) (.sl n (ps.map (·.2)) .full))) none
    | _, _ => none
  | none => none
theorem sl_of_new (hI : Inv X G σ w) {n : Nat} {es : List V} {rs : Array Value} (hu : ∀ e ∈ es, e.cells.length = n) (hr : Rows2 G (flat es) rs) (ho : ∀ e ∈ es, e.cells.all V.one = true) (e : TypeId) :
    ∃ G', G.Le G' ∧ Inv X G' σ (w.alloc (.cells rs e)) ∧ VRel G' (.sl n es .full) (.slice (some ⟨w.heap.size, 0, none⟩) es.length es.length) := by
  obtain ⟨le, hI'⟩ := hI.alloc_frz rs e
  refine ⟨_, le, hI', .sl n es .full _ _ (fun i => rs.getD i undef) (Nat.le_refl _) hu (.inr ⟨w.heap.size, 0, rfl, fun i c hi => ?_⟩) (fun i c hi => (hr.2 i c hi).mono le) rfl ho⟩
  have hlt := (List.getElem?_eq_some_iff.1 hi).1
  show (if w.heap.size = w.heap.size then rs.toList else _)[0 + i]? = _
  rw [if_pos rfl, Nat.zero_add]
  have : i < rs.size := by rw [hr.1]; exact hlt
  simp [this]
theorem build_run (hI : Inv X G σ w) {t el : TypeId} {len n : Nat} {zs : List V} {ps : List (Nat × V)} {qs : Array (Nat × Value)} (hp : Pair G ps qs.toList) (hd : P.underlying t = some (.slice el)) (hn : szT P el = some n) (hz : zeroT P el = some zs)
    (h1 : inOrder 0 ps = true) (h2' : ps.length = len) (h3' : len * n ≤ 1000) (h4' : zs.length = n) (hu : uniV n (ps.map (·.2)) = true) :
    ∃ ro : Array Value, Rows2 G (flat (ps.map (·.2))) ro ∧ (do pure (.value (← Instr.buildSlice t len qs)) : Sem Next).run P w = .ok (.value (.slice (some ⟨w.heap.size, 0, none⟩) (ps.map (·.2)).length (ps.map (·.2)).length)) (w.alloc (.cells ro el)) := by
  obtain ⟨z, z1, z2⟩ := zero_run (G := G) hz w
  have zr : ∀ zz : Array Value, zz = (if len * n = 0 then #[] else z.cells) → Rows2 G ((List.range (len * n)).map fun j => zs.getD (j % n) .dead) ((Array.range (len * n)).map (zz[· % zz.size]!)) := fun zz hzz => by
    refine ⟨by simp, fun i c hi => ?_⟩
    rw [List.getElem?_map] at hi
    have hlt : i < len * n := by
      rcases Nat.lt_or_ge i (len * n) with hh | hh
      · exact hh
      · rw [List.getElem?_eq_none (by simpa using hh)] at hi; cases hi
    have hn0 : 0 < n := by exact Nat.pos_of_ne_zero fun e0 => by subst e0; simp at hlt
    simp [List.getElem?_range hlt] at hi
    subst hi
    subst hzz
    rw [if_neg (by omega)]
    have hzsz : z.cells.size = n := z2.1.trans h4'
    have hmod : i % n < n := Nat.mod_lt _ hn0
    have := z2.2 (i % n) (zs.getD (i % n) .dead) (by simp [h4', hmod])
    simpa [hlt, hzsz, hmod] using this
  have hfill := fill_inOrder (n := n) ps 0 [] ((List.range (len * n)).map fun j => zs.getD (j % n) .dead) h1 hu (by simp) (by simp [h2'])
  simp only [List.nil_append] at hfill
  have huz : (do if len * n = 0 then pure #[] else do pure (← zeroValue el).cells : Sem (Array Value)).run P w = .ok (if len * n = 0 then #[] else z.cells) w := by
    by_cases e0 : len * n = 0
    · simp only [e0, if_true]; rfl
    · simp only [e0, if_false, Sem.run_bind, z1, Result.andThen_ok]; rfl
  obtain ⟨ro, r1, r2⟩ := fill_rel ps qs.toList _ _ _ hp.1 hp.2 (zr _ rfl) hfill
  have hlen : (ps.map (·.2)).length = len := by simpa using h2'
  refine ⟨ro, r2, ?_⟩
  have h24 : ¬ (len * n > 2 ^ 24) := by omega
  simp only [Instr.buildSlice, Sem.run_bind, run_und hd, Result.andThen_ok, run_sz hn, Sem.run_ite, h24, if_false, Sem.run_pure, run_unsupported]
  rw [hlen]
  by_cases e0 : len * n = 0
  · have ee : ∀ f : Nat → Value, Array.map f (Array.range 0) = #[] := fun f => by simp [Array.range]
    simp only [e0, if_true, ee] at r1 ⊢
    simp [ee, r1, newRow]
  · simp only [e0, if_false] at r1 ⊢
    simp [z1, r1, newRow]
theorem sound_buildSlice (hI : Inv X G σ w) {t : TypeId} {len : Nat} {ps : List (Nat × V)} {qs : Array (Nat × Value)} (hp : Pair G ps qs.toList) {e : Eff} (h : mBuildSlice P t len ps = some e) :
    Snd P X G σ w (do pure (.value (← Instr.buildSlice t len qs))) e := by
  unfold mBuildSlice at h
  split at h
  · rename_i el hel
    split at h
    · rename_i n zs hn hz
      cases hc : (inOrder 0 ps && Nat.beq ps.length len && Nat.ble (len * n) 1000 && Nat.beq zs.length n) with
      | false => rw [hc] at h; cases h
      | true =>
        rw [hc] at h; cases h
        simp only [Bool.and_eq_true] at hc
        obtain ⟨⟨⟨h1, h2⟩, h3⟩, h4⟩ := hc
        have h2' := Nat.eq_of_beq_eq_true h2
        have h3' := Nat.le_of_ble_eq_true h3
        have h4' := Nat.eq_of_beq_eq_true h4
        refine Snd.val fun hu => ?_
        unfold elemT at hel
        cases hd : P.underlying t with
        | none => simp [hd] at hel
        | some d =>
          cases d <;> simp [hd] at hel
          subst hel
          rename_i el
          obtain ⟨ro, r2, hrun⟩ := build_run hI hp hd hn hz h1 h2' h3' h4' hu
          obtain ⟨G', g1, g2, g3⟩ := sl_of_new hI (fun e he => (uniV_spec hu e he).1) r2 (fun e he => (uniV_spec hu e he).2) el
          exact ⟨_, _, G', hrun, g1, g2, g3⟩
    · cases h
  · cases h
/-- A built slice with the right to append. -/
def mBuildTok (P : Program) (t : TypeId) (len : Nat) (ps : List (Nat × V)) : Option Eff :=
  match elemT P t with
  | some e => match szT P e, zeroT P e with
    | some n, some zs => cond (inOrder 0 ps && Nat.beq ps.length len && Nat.ble (len * n) 1000 && Nat.beq zs.length n) (some (.new (uniV n (ps.map (·.2)) = true) (.tok n ps.length) fun g => .sl n (ps.map (·.2)) (.tk g))) none
    | _, _ => none
  | none => none
theorem sound_buildTok (hI : Inv X G σ w) {t : TypeId} {len : Nat} {ps : List (Nat × V)} {qs : Array (Nat × Value)} (hp : Pair G ps qs.toList) {e : Eff} (h : mBuildTok P t len ps = some e) :
    Snd P X G σ w (do pure (.value (← Instr.buildSlice t len qs))) e := by
  unfold mBuildTok at h
  split at h
  · rename_i el hel
    split at h
    · rename_i n zs hn hz
      cases hc : (inOrder 0 ps && Nat.beq ps.length len && Nat.ble (len * n) 1000 && Nat.beq zs.length n) with
      | false => rw [hc] at h; cases h
      | true =>
        rw [hc] at h; cases h
        simp only [Bool.and_eq_true] at hc
        obtain ⟨⟨⟨h1, h2⟩, h3⟩, h4⟩ := hc
        refine Snd.new fun hu => ?_
        unfold elemT at hel
        cases hd : P.underlying t with
        | none => simp [hd] at hel
        | some d =>
          cases d <;> simp [hd] at hel
          subst hel
          obtain ⟨ro, r2, hrun⟩ := build_run hI hp hd hn hz h1 (Nat.eq_of_beq_eq_true h2) (Nat.le_of_ble_eq_true h3) (Nat.eq_of_beq_eq_true h4) hu
          obtain ⟨g, g1, g2, g3⟩ := hI.fresh
          have hun : ∀ e ∈ ps.map (·.2), e.cells.length = n := fun e he => (uniV_spec hu e he).1
          have hsz : ro.size = ps.length * n := by rw [r2.1, flat_length hun, List.length_map]
          obtain ⟨le, hI'⟩ := hI.tok_new (g := g) (sz := n) (n := ps.length) (cap := ps.length) (fun n' b c hh => by rw [show G.tk g = none from g2] at hh; cases hh) (.inl ⟨g2, g1⟩) ro _ hsz (Nat.le_refl _)
          refine ⟨g, _, _, _, g3, hrun, le, hI', ?_⟩
          refine .sl n _ (.tk g) _ _ (fun i => ro.getD i undef) (Nat.le_refl _) hun (.inr ⟨w.heap.size, 0, rfl, fun i c hi => ?_⟩) (fun i c hi => (r2.2 i c hi).mono le) ⟨ps.length, some w.heap.size, ps.length, if_pos rfl, by simp, fun _ => ⟨by simp, .inr rfl⟩⟩ (fun e he => (uniV_spec hu e he).2)
          have hlt := (List.getElem?_eq_some_iff.1 hi).1
          show (if w.heap.size = w.heap.size then ro.toList.take (ps.length * n) else _)[0 + i]? = _
          have h5 : i < ro.size := by rw [r2.1]; exact hlt
          rw [if_pos rfl, Nat.zero_add, List.getElem?_take, if_pos (by omega)]
          simp [h5]
    · cases h
  · cases h
end Go.Vm
/- Vm, part 6: fields, places of elements, cuts, made slices. -/
namespace Go.Vm
variable {X : Ext} {G H G0 : Ghost} {σ : Hp} {w : World} {P : Program}
theorem fieldT_spec {s f : Nat} {ft off : Nat} (h : fieldT P s f = some (ft, off)) : ∃ fs fd, P.underlying s = some (.struct fs) ∧ fs[f]? = some fd ∧ fd.type = ft ∧ fd.offset = off := by
  unfold fieldT at h
  cases hu : P.underlying s with
  | none => simp [hu] at h
  | some d =>
    cases d <;> simp [hu] at h
    obtain ⟨fd, h1, h2, h3⟩ := h
    exact ⟨_, fd, rfl, h1, h2, h3⟩
theorem elemT_spec {t e : Nat} (h : elemT P t = some e) : P.underlying t = some (.slice e) := by
  unfold elemT at h
  cases hu : P.underlying t with
  | none => simp [hu] at h
  | some d => cases d <;> simp [hu] at h; subst h; rfl
theorem arrT_spec {t n e : Nat} (h : arrT P t = some (n, e)) : P.underlying t = some (.array n e) := by
  unfold arrT at h
  cases hu : P.underlying t with
  | none => simp [hu] at h
  | some d => cases d <;> simp [hu] at h; obtain ⟨rfl, rfl⟩ := h; rfl
theorem VRel.pv_drop {cs : List V} {b off : Nat} (h : VRel G (.pv cs) (.pointer (some ⟨b, off, none⟩))) (n : Nat) : VRel G (.pv (cs.drop n)) (.pointer (some ⟨b, off + n, none⟩)) := by
  cases h with | pv _ _ _ rs h1 h2 =>
  refine .pv _ b _ (fun i => rs (n + i)) (fun i c hi => ?_) (fun i c hi => ?_)
  · rw [List.getElem?_drop] at hi; rw [Nat.add_assoc]; exact h1 _ _ hi
  · rw [List.getElem?_drop] at hi; exact h2 _ _ hi
def mFieldAddr (P : Program) (s : TypeId) (x : V) (f : Nat) : Option Eff :=
  match fieldT P s f with
  | some (ft, off) => match szT P ft, x with
    | some (_ + 1), .ptr g o => some (.val True (.ptr g (o + off)))
    | some (_ + 1), .pv cs => some (.val True (.pv (cs.drop off)))
    | _, _ => none
  | none => none
theorem run_fieldAt {s f ft off n b o : Nat} (h : fieldT P s f = some (ft, off)) (hn : szT P ft = some (n + 1)) (w : World) :
    (Instr.fieldAt s (.pointer (some ⟨b, o, none⟩)) f).run P w = .ok (.pointer (some ⟨b, o + off, none⟩)) w := by
  obtain ⟨fs, fd, h1, h2, h3, h4⟩ := fieldT_spec h
  subst h3; subst h4
  simp [Instr.fieldAt, run_und h1, h2, Instr.sureAddr, fieldPlace, run_sz hn, add_none]
theorem sound_fieldAddr (hI : Inv X G σ w) {s f : Nat} {x : V} {r : Value} (hx : VRel G x r) {e : Eff} (h : mFieldAddr P s x f = some e) : Snd P X G σ w (do pure (.value (← Instr.fieldAt s r f))) e := by
  unfold mFieldAddr at h
  split at h
  · rename_i ft off hf
    split at h
    · rename_i n g o hn
      cases h
      cases hx with | ptr _ _ b hb =>
      exact Snd.pure hI fun _ => ⟨_, by rw [Sem.run_bind, run_fieldAt hf hn]; rfl, .ptr _ _ b hb⟩
    · rename_i n cs hn
      cases h
      cases hx with | pv _ b o rs h1 h2 =>
      exact Snd.pure hI fun _ => ⟨_, by rw [Sem.run_bind, run_fieldAt hf hn]; rfl, (VRel.pv cs b o rs h1 h2).pv_drop off⟩
    · cases h
  · cases h
theorem run_part {t n : Nat} {cs : List V} {rs : Array Value} (hr : Rows2 G cs rs) (hn : szT P t = some n) (off : Nat) (w : World) :
    (aggT P t = some true → off + n ≤ cs.length → ∃ r, (part t rs off).run P w = .ok r w ∧ VRel G (.agg ((cs.drop off).take n)) r) ∧
    (aggT P t = some false → off < cs.length → ∃ r, (part t rs off).run P w = .ok r w ∧ VRel G (cs.getD off .dead) r) := by
  constructor
  · intro ha hl
    refine ⟨.agg (rs.extract off (off + n)), by simp [part, run_agg ha, run_sz hn], .agg _ _ ?_ fun i c hi => ?_⟩
    · simp; rw [hr.1]; omega
    · rw [List.getElem?_take] at hi
      split at hi
      · rw [List.getElem?_drop] at hi
        have hlt := (List.getElem?_eq_some_iff.1 hi).1
        have := hr.2 _ _ hi
        have h1 : off + i < rs.size := by rw [hr.1]; exact hlt
        have h2 : i < min (off + n) rs.size - off := by omega
        simpa [h1, h2] using this
      · cases hi
  · intro ha hl
    have h1 : off < rs.size := by rw [hr.1]; exact hl
    have := hr.2 off _ (List.getElem?_eq_getElem hl)
    refine ⟨rs[off], by simp [part, run_agg ha, h1], ?_⟩
    simpa [hl, h1] using this
def mField (P : Program) (s : TypeId) (x : V) (f : Nat) : Option Eff :=
  match fieldT P s f, x with
  | some (ft, off), .agg cs => match szT P ft, aggT P ft with
    | some n, some true => some (.val (off + n ≤ cs.length) (.agg ((cs.drop off).take n)))
    | some _, some false => some (.val (off < cs.length) (cs.getD off .dead))
    | _, _ => none
  | _, _ => none
theorem sound_field (hI : Inv X G σ w) {s f : Nat} {x : V} {r : Value} (hx : VRel G x r) {e : Eff} (h : mField P s x f = some e) : Snd P X G σ w (do pure (.value (← Instr.field s r f))) e := by
  unfold mField at h
  split at h
  · rename_i ft off cs hf
    obtain ⟨fs, fd, h1, h2, h3, h4⟩ := fieldT_spec hf
    cases hx with | agg _ rs hl hr =>
    subst h3; subst h4
    split at h
    · rename_i n hn ha
      cases h
      refine Snd.pure hI fun hp => ?_
      obtain ⟨r, r1, r2⟩ := (run_part (G := G) ⟨hl, hr⟩ hn fd.offset w).1 ha hp
      exact ⟨r, by simp [Instr.field, run_und h1, h2, asAgg, r1], r2⟩
    · rename_i n hn ha
      cases h
      refine Snd.pure hI fun hp => ?_
      obtain ⟨r, r1, r2⟩ := (run_part (G := G) ⟨hl, hr⟩ hn fd.offset w).2 ha hp
      exact ⟨r, by simp [Instr.field, run_und h1, h2, asAgg, r1], r2⟩
    · cases h
  · cases h
theorem flat_get {n : Nat} : ∀ {es : List V}, (∀ e ∈ es, e.cells.length = n) → ∀ {i j : Nat} {e : V}, es[i]? = some e → j < n → (flat es)[i * n + j]? = e.cells[j]?
  | [], _, i, j, e, h, _ => by simp at h
  | x :: es, hu, i, j, e, h, hj => by
    have hx := hu x (List.mem_cons_self ..)
    cases i with
    | zero =>
      simp at h; subst h
      rw [flat_cons, Nat.zero_mul, Nat.zero_add, List.getElem?_append_left (by omega)]
    | succ i =>
      rw [flat_cons, List.getElem?_append_right (by rw [hx, Nat.add_mul]; omega), hx]
      have : (i + 1) * n + j - n = i * n + j := by rw [Nat.add_mul]; omega
      rw [this]
      exact flat_get (fun y hy => hu y (List.mem_cons_of_mem _ hy)) (by simpa using h) hj
/-- The place of an element. -/
theorem VRel.elem {sz : Nat} {es : List V} {tag : Tag} {a : Option Addr} {len cap : Nat} (h : VRel G (.sl sz es tag) (.slice a len cap)) {i : Nat} (hi : i < es.length) :
    len = es.length ∧ ∃ b off, a = some ⟨b, off, none⟩ ∧ VRel G (.pv (es.getD i .dead).cells) (.pointer (some ⟨b, off + i * sz, none⟩)) := by
  cases h with | sl _ _ _ _ _ rs hc hu hb hr ht =>
  refine ⟨rfl, ?_⟩
  rcases hb with hb | ⟨b, off, e, hb⟩
  · subst hb; simp at hi
  · refine ⟨b, off, e, ?_⟩
    have he : es[i]? = some (es.getD i .dead) := by simp [hi]
    have hl : (es.getD i .dead).cells.length = sz := hu _ (List.mem_of_getElem? he)
    refine .pv _ b _ (fun j => rs (i * sz + j)) (fun j c hj => ?_) (fun j c hj => ?_)
    · have hlt := (List.getElem?_eq_some_iff.1 hj).1
      rw [← flat_get hu he (by omega)] at hj
      rw [Nat.add_assoc]; exact hb _ _ hj
    · have hlt := (List.getElem?_eq_some_iff.1 hj).1
      rw [← flat_get hu he (by omega)] at hj
      exact hr _ _ hj
def mIndexAddr (P : Program) (t : TypeId) (x i : V) : Option Eff :=
  match i with
  | .int _ i => match elemT P t with
    | some e => match szT P e, x with
      | some n, .sl sz es _ => cond (Nat.beq sz n) (some (.val (0 ≤ i ∧ i < es.length) (.pv (es.getD i.toNat .dead).cells))) none
      | some n, .bs g off len _ sz => cond (Nat.beq sz n) (some (.val (0 ≤ i ∧ i < len) (.ptr g (off + i.toNat * sz)))) none
      | _, _ => none
    | none => match arrT P t with
      | some (m, e) => match szT P e, x with
        | some n, .ptr g off => some (.val (0 ≤ i ∧ i < m) (.ptr g (off + i.toNat * n)))
        | some n, .pv cs => some (.val (0 ≤ i ∧ i < m) (.pv (cs.drop (i.toNat * n))))
        | _, _ => none
      | none => none
  | _ => none
theorem sound_indexAddr (hI : Inv X G σ w) {t : Nat} {x i : V} {r u : Value} (hx : VRel G x r) (hi : VRel G i u) {e : Eff} (h : mIndexAddr P t x i = some e) :
    Snd P X G σ w (do pure (.value (← Instr.indexAt t r u))) e := by
  unfold mIndexAddr at h
  split at h
  · rename_i k i
    cases hi
    split at h
    · rename_i el hel
      have hu := elemT_spec hel
      split at h
      · rename_i n sz es tag hn
        cases hq : Nat.beq sz n with
        | false => rw [hq] at h; cases h
        | true =>
          rw [hq] at h; cases h
          have := Nat.eq_of_beq_eq_true hq; subst this
          refine Snd.pure hI fun ⟨h0, h1⟩ => ?_
          cases hx with | sl _ _ _ a cap rs hc hu' hb hr ht ho =>
          obtain ⟨_, b, off, ea, hv⟩ := (VRel.sl (G := G) sz es tag a cap rs hc hu' hb hr ht ho).elem (i := i.toNat) (by omega)
          subst ea
          exact ⟨_, by simp [Instr.indexAt, asIntOf, run_und hu, h0, h1, run_sz hn, add_none], hv⟩
      · rename_i n g off len cap sz hn
        cases hq : Nat.beq sz n with
        | false => rw [hq] at h; cases h
        | true =>
          rw [hq] at h; cases h
          have := Nat.eq_of_beq_eq_true hq; subst this
          refine Snd.pure hI fun ⟨h0, h1⟩ => ?_
          cases hx with | bs _ _ _ _ _ a hl hb =>
          rcases hb with hb | ⟨b, hb, ea⟩
          · omega
          · subst ea
            exact ⟨_, by simp [Instr.indexAt, asIntOf, run_und hu, h0, h1, run_sz hn, add_none], .ptr _ _ b hb⟩
      · cases h
    · split at h
      · rename_i m el hel
        have hu := arrT_spec hel
        split at h
        · rename_i n g off hn
          cases h
          refine Snd.pure hI fun ⟨h0, h1⟩ => ?_
          cases hx with | ptr _ _ b hb =>
          exact ⟨_, by simp [Instr.indexAt, asIntOf, run_und hu, h0, h1, run_sz hn, add_none, Instr.sureAddr], .ptr _ _ b hb⟩
        · rename_i n cs hn
          cases h
          refine Snd.pure hI fun ⟨h0, h1⟩ => ?_
          cases hx with | pv _ b off rs q1 q2 =>
          exact ⟨_, by simp [Instr.indexAt, asIntOf, run_und hu, h0, h1, run_sz hn, add_none, Instr.sureAddr], (VRel.pv cs b off rs q1 q2).pv_drop _⟩
        · cases h
      · cases h
  · cases h
def byteAt (s : ByteArray) (i : Int) : Int := if h : i.toNat < s.size then ((s[i.toNat]'h).toNat : Int) else 0
def mIndex (P : Program) (t : TypeId) (x i : V) : Option Eff :=
  match i, x with
  | .int _ i, .str s => match P.underlying t with
    | some .string => some (.val (0 ≤ i ∧ i < s.size) (.int .u8 (byteAt s i)))
    | _ => none
  | .int _ i, .agg cs => match arrT P t with
    | some (m, e) => match szT P e, aggT P e with
      | some n, some true => some (.val (0 ≤ i ∧ i < m ∧ i.toNat * n + n ≤ cs.length) (.agg ((cs.drop (i.toNat * n)).take n)))
      | some n, some false => some (.val (0 ≤ i ∧ i < m ∧ i.toNat * n < cs.length) (cs.getD (i.toNat * n) .dead))
      | _, _ => none
    | none => none
  | _, _ => none
theorem sound_index (hI : Inv X G σ w) {t : Nat} {x i : V} {r u : Value} (hx : VRel G x r) (hi : VRel G i u) {e : Eff} (h : mIndex P t x i = some e) :
    Snd P X G σ w (do pure (.value (← Instr.index t r u))) e := by
  unfold mIndex at h
  split at h
  · rename_i k i s
    cases hi; cases hx
    split at h
    · rename_i hu
      cases h
      refine Snd.pure hI fun ⟨h0, h1⟩ => ⟨.int .u8 (byteAt s i), ?_, .int _ _⟩
      have hlt : i.toNat < s.size := by omega
      have hg : s[i.toNat]? = some (s[i.toNat]'hlt) := getElem?_pos s i.toNat hlt
      simp [Instr.index, asIntOf, run_und hu, h0, hg, byteAt, hlt]
    · cases h
  · rename_i k i cs
    cases hi
    cases hx with | agg _ rs hl hr =>
    split at h
    · rename_i m el hel
      have hu := arrT_spec hel
      split at h
      · rename_i n hn ha
        cases h
        refine Snd.pure hI fun ⟨h0, h1, h2⟩ => ?_
        obtain ⟨r, r1, r2⟩ := (run_part (G := G) ⟨hl, hr⟩ hn (i.toNat * n) w).1 ha h2
        exact ⟨r, by simp [Instr.index, asIntOf, run_und hu, h0, h1, run_sz hn, r1], r2⟩
      · rename_i n hn ha
        cases h
        refine Snd.pure hI fun ⟨h0, h1, h2⟩ => ?_
        obtain ⟨r, r1, r2⟩ := (run_part (G := G) ⟨hl, hr⟩ hn (i.toNat * n) w).2 ha h2
        exact ⟨r, by simp [Instr.index, asIntOf, run_und hu, h0, h1, run_sz hn, r1], r2⟩
      · cases h
    · cases h
  · cases h
end Go.Vm
/- Vm, part 7: cuts, made slices, conversions, arithmetic and comparisons. -/
namespace Go.Vm
variable {X : Ext} {G H G0 : Ghost} {σ : Hp} {w : World} {P : Program}
theorem flat_take {n : Nat} {es : List V} (hu : ∀ e ∈ es, e.cells.length = n) (k : Nat) (hk : k ≤ es.length) : flat (es.take k) = (flat es).take (k * n) := by
  have h1 : flat es = flat (es.take k) ++ flat (es.drop k) := by rw [← flat_append, List.take_append_drop]
  have h2 : (flat (es.take k)).length = k * n := by rw [flat_length (n := n) (fun e he => hu e (List.mem_of_mem_take he)), List.length_take, Nat.min_eq_left hk]
  rw [h1, ← h2]; simp
theorem flat_drop {n : Nat} {es : List V} (hu : ∀ e ∈ es, e.cells.length = n) (k : Nat) (hk : k ≤ es.length) : flat (es.drop k) = (flat es).drop (k * n) := by
  have h1 : flat es = flat (es.take k) ++ flat (es.drop k) := by rw [← flat_append, List.take_append_drop]
  have h2 : (flat (es.take k)).length = k * n := by rw [flat_length (n := n) (fun e he => hu e (List.mem_of_mem_take he)), List.length_take, Nat.min_eq_left hk]
  rw [h1, ← h2]; simp
/-- A cut of a slice that is told by value. -/
theorem VRel.cut {sz : Nat} {es : List V} {tag : Tag} {a : Option Addr} {len cap : Nat} (h : VRel G (.sl sz es tag) (.slice a len cap)) {l k m : Nat} (h1 : l ≤ k) (h2 : k ≤ es.length) (hm : k ≤ m) (tag' : Tag)
    (ht' : TagOk G tag' (if m = l then a else a.map (·.add (l * sz))) (k - l) (m - l)) :
    VRel G (.sl sz ((es.take k).drop l) tag') (.slice (if m = l then a else a.map (·.add (l * sz))) (k - l) (m - l)) := by
  cases h with | sl _ _ _ _ _ rs hc hu hb hr ht ho =>
  have hlen : ((es.take k).drop l).length = k - l := by simp; omega
  have hu1 : ∀ e ∈ es.take k, e.cells.length = sz := fun e he => hu e (List.mem_of_mem_take he)
  have hf : flat ((es.take k).drop l) = ((flat es).take (k * sz)).drop (l * sz) := by
    rw [flat_drop hu1 l (by simp; omega), flat_take hu k h2]
  have hget : ∀ (i : Nat) (c : V), (flat ((es.take k).drop l))[i]? = some c → (flat es)[l * sz + i]? = some c := fun i c hi => by
    rw [hf, List.getElem?_drop, List.getElem?_take] at hi
    split at hi
    · exact hi
    · cases hi
  have hh := VRel.sl (G := G) sz ((es.take k).drop l) tag' (if m = l then a else a.map (·.add (l * sz))) (m - l) (fun i => rs (l * sz + i)) (by rw [hlen]; omega)
    (fun e he => hu1 e (List.mem_of_mem_drop he)) ?_ (fun i c hi => hr _ _ (hget i c hi)) (by rw [hlen]; exact ht') (fun e he => ho e (List.mem_of_mem_take (List.mem_of_mem_drop he)))
  · rw [hlen] at hh; exact hh
  · by_cases e0 : k = l
    · left; apply List.eq_nil_of_length_eq_zero; rw [hlen]; omega
    · right
      rcases hb with hb | ⟨b, off, e, hb⟩
      · subst hb; simp at h2; omega
      · subst e
        refine ⟨b, off + l * sz, ?_, fun i c hi => ?_⟩
        · rw [if_neg (by omega)]; simp [add_none]
        · rw [Nat.add_assoc]; exact hb _ _ (hget i c hi)
def bnd : Option V → Int → Option Int
  | none, d => some d
  | some (.int _ i), _ => some i
  | some _, _ => none
/-- Bounds, as they lie. -/
inductive Bnd (G : Ghost) : Option V → Option Value → Prop where
  | no : Bnd G .none .none
  | yes (v : V) (r : Value) (h : VRel G v r) : Bnd G (.some v) (.some r)
theorem Bnd.spec {o : Option V} {r : Option Value} (h : Bnd G o r) {d i : Int} (hi : bnd o d = some i) : (o = none ∧ r = none ∧ i = d) ∨ ∃ k, r = some (.int k i) := by
  cases h with
  | no => simp [bnd] at hi; exact .inl ⟨rfl, rfl, hi.symm⟩
  | yes v r h =>
    cases h <;> simp [bnd] at hi
    all_goals (subst hi; exact .inr ⟨_, rfl⟩)
theorem run_sliceBound (k : IntKind) (i : Int) (y : Nat) (c : BoundsCode) (h : 0 ≤ i) (h' : i ≤ y) (w : World) : (Instr.sliceBound (.int k i) y c).run P w = .ok i.toNat w := by
  simp [Instr.sliceBound, asIntOf, h, h']
theorem run_bounds {lo hi mx : Option V} {lo' hi' mx' : Option Value} (hlo : Bnd G lo lo') (hhi : Bnd G hi hi') (hmx : Bnd G mx mx') {len cap : Nat} {l k m : Int} (b : Bool)
    (h1 : bnd lo 0 = some l) (h2 : bnd hi len = some k) (h3 : bnd mx cap = some m) (hq : mx = none ∨ hi ≠ none) (p0 : 0 ≤ l) (p1 : l ≤ k) (p2 : k ≤ m) (p3 : m ≤ cap) (w : World) :
    (Instr.sliceBounds b len cap lo' hi' mx').run P w = .ok (l.toNat, k.toNat, m.toNat) w := by
  have p4 : 0 ≤ m := by omega
  have p5 : 0 ≤ k := by omega
  have s1 : ∀ kk c (w : World), (Instr.sliceBound (.int kk m) cap c).run P w = .ok m.toNat w := fun kk c w => run_sliceBound kk m cap c p4 p3 w
  have s2 : ∀ kk c (w : World), (Instr.sliceBound (.int kk k) m.toNat c).run P w = .ok k.toNat w := fun kk c w => run_sliceBound kk k m.toNat c p5 (by omega) w
  have s3 : ∀ kk c (w : World), (Instr.sliceBound (.int kk l) k.toNat c).run P w = .ok l.toNat w := fun kk c w => run_sliceBound kk l k.toNat c p0 (by omega) w
  have s4 : ∀ kk c (w : World), (Instr.sliceBound (.int kk k) cap c).run P w = .ok k.toNat w := fun kk c w => run_sliceBound kk k cap c p5 (by omega) w
  clear p0 p1 p2 p3 p4 p5
  rcases hlo.spec h1 with ⟨e1, e2, e3⟩ | ⟨k1, e1⟩ <;> rcases hhi.spec h2 with ⟨f1, f2, f3⟩ | ⟨k2, f1⟩ <;> rcases hmx.spec h3 with ⟨g1, g2, g3⟩ | ⟨k3, g1⟩
  all_goals subst_vars
  all_goals (try simp only [Int.toNat_natCast] at s1 s2 s3 s4)
  all_goals first
    | (exfalso; rcases hq with hq | hq
       · subst hq; cases hmx
       · exact hq rfl)
    | (simp [Instr.sliceBounds, s1, s2, s3, s4]; done)
def noneT : Option V → Bool
  | none => true
  | _ => false
def mSlice (P : Program) (t : TypeId) (x : V) (lo hi mx : Option V) : Option Eff :=
  match x with
  | .sl sz es tag => match elemT P t with
    | some e => match szT P e with
      | some n => match bnd lo 0, bnd hi es.length, mx with
        | some l, some k, none => cond (Nat.beq sz n) (some (.val (0 ≤ l ∧ l ≤ k ∧ k ≤ es.length) (.sl sz ((es.take k.toNat).drop l.toNat) (cond (noneT lo && noneT hi) tag .no)))) none
        | some l, some k, some (.int _ m) => cond (Nat.beq sz n && !noneT hi) (some (.val (0 ≤ l ∧ l ≤ k ∧ k ≤ es.length ∧ m = k) (.sl sz ((es.take k.toNat).drop l.toNat) .full))) none
        | _, _, _ => none
      | none => none
    | none => none
  | .bs g off len cap sz => match elemT P t with
    | some e => match szT P e with
      | some n => match bnd lo 0, bnd hi len, bnd mx cap with
        | some l, some k, some m => cond (Nat.beq sz n && (noneT mx || !noneT hi)) (some (.val (0 ≤ l ∧ l ≤ k ∧ k ≤ m ∧ m ≤ cap) (.bs g (off + l.toNat * sz) (k - l).toNat (m - l).toNat sz))) none
        | _, _, _ => none
      | none => none
    | none => none
  | .ptr g off => match arrT P t with
    | some (len, e) => match szT P e with
      | some n => match bnd lo 0, bnd hi len, bnd mx len with
        | some l, some k, some m => cond (noneT mx || !noneT hi) (some (.val (0 ≤ l ∧ l ≤ k ∧ k ≤ m ∧ m ≤ len) (.bs g (off + l.toNat * n) (k - l).toNat (m - l).toNat n))) none
        | _, _, _ => none
      | none => none
    | none => none
  | .str s => match P.underlying t with
    | some .string => match bnd lo 0, bnd hi s.size, mx with
      | some l, some k, none => some (.val (0 ≤ l ∧ l ≤ k ∧ k ≤ s.size) (.str (s.extract l.toNat k.toNat)))
      | _, _, _ => none
    | _ => none
  | _ => none
theorem noneT_eq {o : Option V} (h : noneT o = true) : o = none := by cases o <;> simp [noneT] at h ⊢
theorem noneT_ne {o : Option V} (h : noneT o = false) : o ≠ none := by cases o <;> simp [noneT] at h ⊢
theorem sound_slice (hI : Inv X G σ w) {t : Nat} {x : V} {r : Value} {lo hi mx : Option V} {lo' hi' mx' : Option Value} (hx : VRel G x r) (hlo : Bnd G lo lo') (hhi : Bnd G hi hi') (hmx : Bnd G mx mx') {e : Eff} (h : mSlice P t x lo hi mx = some e) :
    Snd P X G σ w (do pure (.value (← Instr.sliceAt t r lo' hi' mx'))) e := by
  unfold mSlice at h
  split at h
  · rename_i sz es tag
    split at h
    · rename_i el hel
      have hu := elemT_spec hel
      split at h
      · rename_i n hn
        obtain ⟨a, len, cap, rfl⟩ : ∃ a len cap, r = .slice a len cap := by cases hx; exact ⟨_, _, _, rfl⟩
        have hlen : len = es.length ∧ es.length ≤ cap := by cases hx with | sl _ _ _ _ _ rs hc => exact ⟨rfl, hc⟩
        obtain ⟨rfl, hcap⟩ := hlen
        split at h
        · rename_i l k hl hk
          cases hq : Nat.beq sz n with
          | false => rw [hq] at h; cases h
          | true =>
            rw [hq] at h; cases h
            have := Nat.eq_of_beq_eq_true hq; subst this
            refine Snd.pure hI fun ⟨p0, p1, p2⟩ => ?_
            have hb := run_bounds (P := P) hlo hhi hmx (len := es.length) (cap := cap) (m := cap) true hl hk rfl (.inl rfl) p0 p1 (by omega) (Int.le_refl _) w
            refine ⟨_, by simp [Instr.sliceAt, Instr.slice, run_und hu, hb, run_sz hn]; rfl, ?_⟩
            refine hx.cut (by omega) (by omega) (by omega) _ ?_
            cases hc : (noneT lo && noneT hi) with
            | false => trivial
            | true =>
              simp only [Bool.and_eq_true] at hc
              have e1 := noneT_eq hc.1
              have e2 := noneT_eq hc.2
              subst e1; subst e2
              simp [bnd] at hl hk
              subst hl; subst hk
              cases hx with | sl _ _ _ _ _ rs hc hu hb hr ht =>
              have e3 : (if cap = Int.toNat 0 then a else Option.map (fun x => x.add (Int.toNat 0 * sz)) a) = a := by
                split
                · rfl
                · cases a <;> simp [Addr.add]
              show TagOk G tag (if cap = Int.toNat 0 then a else Option.map (fun x => x.add (Int.toNat 0 * sz)) a) ((es.length : Int).toNat - Int.toNat 0) (cap - Int.toNat 0)
              rw [e3]; simpa using ht
        · rename_i l k _ m hl hk
          cases hq : (Nat.beq sz n && !noneT hi) with
          | false => rw [hq] at h; cases h
          | true =>
            rw [hq] at h; cases h
            simp only [Bool.and_eq_true, Bool.not_eq_true'] at hq
            have := Nat.eq_of_beq_eq_true hq.1; subst this
            refine Snd.pure hI fun ⟨p0, p1, p2, p3⟩ => ?_
            subst p3
            have hb := run_bounds (P := P) hlo hhi hmx (len := es.length) (cap := cap) (m := m) true hl hk rfl (.inr (noneT_ne hq.2)) p0 p1 (Int.le_refl _) (by omega) w
            refine ⟨_, by simp [Instr.sliceAt, Instr.slice, run_und hu, hb, run_sz hn]; rfl, ?_⟩
            exact hx.cut (by omega) (by omega) (Nat.le_refl _) _ rfl
        · cases h
      · cases h
    · cases h
  · rename_i g off len cap sz
    split at h
    · rename_i el hel
      have hu := elemT_spec hel
      split at h
      · rename_i n hn
        split at h
        · rename_i l k m hl hk hm
          cases hq : (Nat.beq sz n && (noneT mx || !noneT hi)) with
          | false => rw [hq] at h; cases h
          | true =>
            rw [hq] at h; cases h
            simp only [Bool.and_eq_true, Bool.or_eq_true, Bool.not_eq_true'] at hq
            have := Nat.eq_of_beq_eq_true hq.1; subst this
            refine Snd.pure hI fun ⟨p0, p1, p2, p3⟩ => ?_
            cases hx with | bs _ _ _ _ _ a hlc hb0 =>
            have hb := run_bounds (P := P) hlo hhi hmx (len := len) (cap := cap) (m := m) true hl hk hm (hq.2.imp noneT_eq noneT_ne) p0 p1 p2 p3 w
            refine ⟨.slice (if m.toNat = l.toNat then a else a.map (·.add (l.toNat * sz))) (k - l).toNat (m - l).toNat, ?_, ?_⟩
            · have e1 : k.toNat - l.toNat = (k - l).toNat := by omega
              have e2 : m.toNat - l.toNat = (m - l).toNat := by omega
              simp [Instr.sliceAt, Instr.slice, run_und hu, hb, run_sz hn, e1, e2]
            · refine .bs _ _ _ _ _ _ (by omega) ?_
              by_cases e0 : m = l
              · left; omega
              · right
                rcases hb0 with hb0 | ⟨b, hb0, ea⟩
                · omega
                · subst ea
                  refine ⟨b, hb0, ?_⟩
                  rw [if_neg (by omega)]; simp [add_none]
        · cases h
      · cases h
    · cases h
  · rename_i g off
    split at h
    · rename_i len el hel
      have hu := arrT_spec hel
      split at h
      · rename_i n hn
        split at h
        · rename_i l k m hl hk hm
          cases hq : (noneT mx || !noneT hi) with
          | false => rw [hq] at h; cases h
          | true =>
            rw [hq] at h; cases h
            simp only [Bool.or_eq_true, Bool.not_eq_true'] at hq
            refine Snd.pure hI fun ⟨p0, p1, p2, p3⟩ => ?_
            cases hx with | ptr _ _ b hb0 =>
            have hb := run_bounds (P := P) hlo hhi hmx (len := len) (cap := len) (m := m) false hl hk hm (hq.imp noneT_eq noneT_ne) p0 p1 p2 p3 w
            refine ⟨.slice (some (if m.toNat = l.toNat then ⟨b, off, none⟩ else (⟨b, off, none⟩ : Addr).add (l.toNat * n))) (k - l).toNat (m - l).toNat, ?_, ?_⟩
            · have e1 : k.toNat - l.toNat = (k - l).toNat := by omega
              have e2 : m.toNat - l.toNat = (m - l).toNat := by omega
              simp [Instr.sliceAt, Instr.slice, run_und hu, hb, run_sz hn, e1, e2, Instr.sureAddr]
            · refine .bs _ _ _ _ _ _ (by omega) ?_
              by_cases e0 : m = l
              · left; omega
              · right
                refine ⟨b, hb0, ?_⟩
                rw [if_neg (by omega)]; simp [add_none]
        · cases h
      · cases h
    · cases h
  · rename_i s
    split at h
    · rename_i hu
      split at h
      · rename_i l k hl hk
        cases h
        refine Snd.pure hI fun ⟨p0, p1, p2⟩ => ?_
        cases hx
        have hb := run_bounds (P := P) hlo hhi .no (len := s.size) (cap := s.size) (m := s.size) false hl hk rfl (.inl rfl) p0 p1 p2 (Int.le_refl _) w
        cases hmx
        exact ⟨_, by simp [Instr.sliceAt, Instr.slice, run_und hu, hb], .str _⟩
      · cases h
    · cases h
  · cases h
end Go.Vm
/- Vm, structs and arrays compared. -/
namespace Go.Vm
variable {X : Ext} {G H G0 : Ghost} {σ : Hp} {w : World} {P : Program}
theorem toList_beq (a b : ByteArray) : (a.toList == b.toList) = decide (a = b) := by
  rw [ByteArray.toList_eq, ByteArray.toList_eq]
  by_cases h : a = b
  · subst h; simp
  · simp only [h, decide_false]
    cases hb : (a.data.toList == b.data.toList) with
    | false => rfl
    | true =>
      exfalso; apply h
      have := eq_of_beq hb
      cases a; cases b
      simp at this
      rw [this]
theorem int_beq (a b : Int) : (a == b) = decide (a = b) := by rw [Bool.eq_iff_iff]; simp
inductive SK where
  | i | s | b
def skOf (P : Program) (t : TypeId) : Option SK :=
  match P.underlying t with
  | some (.int _) => some .i
  | some .string => some .s
  | some .bool => some .b
  | _ => none
def eqFs (P : Program) : List Field → Option (List (Nat × SK))
  | [] => some []
  | f :: fs => if f.name = "_" then none else match skOf P f.type, eqFs P fs with
    | some k, some r => some ((f.offset, k) :: r)
    | _, _ => none
/-- Where the cells of a type lie that are held against each other, if all are plain. -/
def eqShape (P : Program) (t : TypeId) : Option (List (Nat × SK)) :=
  match P.underlying t with
  | some (.struct fs) => cond (!P.eqGuardType P.depth t && !P.stoodInHeld t) (eqFs P fs.toList) none
  | some (.array n e) => match skOf P e, P.info? e with
    | some k, some _ => cond (!P.eqGuardType P.depth t && Nat.beq (P.cellsOf e) 1) (some ((List.range n).map (·, k))) none
    | _, _ => none
  | _ => none
def eqSK : SK → V → V → Option Bool
  | .i, .int k a, .int k' b => if k = k' then some (decide (a = b)) else none
  | .s, .str a, .str b => some (decide (a = b))
  | .b, .bool a, .bool b => some (a == b)
  | _, _, _ => none
def eqBy : List (Nat × SK) → List V → List V → Option Bool
  | [], _, _ => some true
  | (o, k) :: r, xs, ys => match eqSK k (xs.getD o .dead) (ys.getD o .dead), eqBy r xs ys with
    | some b, some c => some (b && c)
    | _, _ => none
theorem eqSK_run {k : SK} {x y : V} {b : Bool} (h : eqSK k x y = some b) {t : TypeId} (ht : skOf P t = some k) {r u : Value} (hx : VRel G x r) (hy : VRel G y u) (d : Nat) (w : World) : (Op.equalIn (d + 1) t r u).run P w = .ok b w := by
  unfold skOf at ht
  split at ht <;> cases ht
  · rename_i q hu
    cases x <;> cases y <;> simp [eqSK] at h
    obtain ⟨rfl, rfl⟩ := h
    cases hx; cases hy
    rw [run_equalIn_int w d t _ q _ _ hu, int_beq]
  · rename_i hu
    cases x <;> cases y <;> simp [eqSK] at h
    subst h
    cases hx; cases hy
    rw [run_equalIn_string w d t _ _ hu, toList_beq]
  · rename_i hu
    cases x <;> cases y <;> simp [eqSK] at h
    subst h
    cases hx; cases hy
    exact run_equalIn_bool w d t _ _ hu
theorem sk_agg {t : TypeId} {k : SK} (h : skOf P t = some k) : aggT P t = some false := by
  unfold skOf at h; unfold aggT
  split at h <;> cases h <;> simp [*]
theorem eqSK_dead {k : SK} {x y : V} {b : Bool} (h : eqSK k x y = some b) : x ≠ .dead ∧ y ≠ .dead := by
  constructor
  · intro e; subst e; cases k <;> simp [eqSK] at h
  · intro e; subst e; cases k <;> cases x <;> simp [eqSK] at h
theorem part_cell {cs : List V} {rs : Array Value} (hr : Rows2 G cs rs) {t : TypeId} (ha : aggT P t = some false) {off : Nat} (hne : cs.getD off .dead ≠ .dead) (w : World) : ∃ r, (part t rs off).run P w = .ok r w ∧ VRel G (cs.getD off .dead) r := by
  cases hc : cs[off]? with
  | none => simp [hc] at hne
  | some c =>
    have hlt := (List.getElem?_eq_some_iff.1 hc).1
    have h1 : off < rs.size := by rw [hr.1]; exact hlt
    have := hr.2 off c hc
    refine ⟨rs[off], by simp [part, run_agg ha, h1], ?_⟩
    simpa [hc, h1] using this
theorem eqFields_run : ∀ {fs : List Field} {sh : List (Nat × SK)} {xs ys : List V} {rs us : Array Value} {b : Bool}, eqFs P fs = some sh → eqBy sh xs ys = some b → Rows2 G xs rs → Rows2 G ys us → ∀ (d : Nat) (w : World), (Op.eqFields (d + 1) rs us fs).run P w = .ok b w
  | [], sh, xs, ys, rs, us, b, h, hb, _, _, d, w => by cases h; cases hb; rfl
  | f :: fs, sh, xs, ys, rs, us, b, h, hb, hx, hy, d, w => by
    simp only [eqFs] at h
    split at h
    · cases h
    · rename_i hn
      split at h
      · rename_i k r hk hr
        cases h
        simp only [eqBy] at hb
        split at hb
        · rename_i b1 b2 h1 h2
          cases hb
          obtain ⟨n1, n2⟩ := eqSK_dead h1
          obtain ⟨p, p1, p2⟩ := part_cell (P := P) hx (sk_agg hk) n1 w
          obtain ⟨q, q1, q2⟩ := part_cell (P := P) hy (sk_agg hk) n2 w
          have h3 := eqSK_run h1 hk p2 q2 d w
          have ih := eqFields_run hr h2 hx hy d w
          simp only [Op.eqFields, ne_eq, hn, not_false_eq_true, if_true, Sem.run_bind, p1, q1, h3, Result.andThen_ok]
          cases b1
          · simp
          · simpa using ih
        · cases hb
      · cases h
theorem eqItems_run {e : TypeId} {k : SK} (hk : skOf P e = some k) : ∀ {is : List Nat} {xs ys : List V} {rs us : Array Value} {b : Bool}, eqBy (is.map (·, k)) xs ys = some b → Rows2 G xs rs → Rows2 G ys us → ∀ (d : Nat) (w : World), (Op.eqItems (d + 1) e 1 rs us is).run P w = .ok b w
  | [], xs, ys, rs, us, b, hb, _, _, d, w => by cases hb; rfl
  | i :: is, xs, ys, rs, us, b, hb, hx, hy, d, w => by
    simp only [List.map_cons, eqBy] at hb
    split at hb
    · rename_i b1 b2 h1 h2
      cases hb
      obtain ⟨n1, n2⟩ := eqSK_dead h1
      obtain ⟨p, p1, p2⟩ := part_cell (P := P) hx (sk_agg hk) n1 w
      obtain ⟨q, q1, q2⟩ := part_cell (P := P) hy (sk_agg hk) n2 w
      have h3 := eqSK_run h1 hk p2 q2 d w
      have ih := eqItems_run hk h2 hx hy d w
      simp only [Op.eqItems, Nat.mul_one, Sem.run_bind, p1, q1, h3, Result.andThen_ok]
      cases b1
      · simp
      · simpa using ih
    · cases hb
def eqAgg (P : Program) (t : TypeId) (xs ys : List V) : Option Eff :=
  match eqShape P t with
  | some sh => match eqBy sh xs ys with
    | some b => some (.val True (.bool b))
    | none => none
  | none => none
theorem run_eqAgg {t : TypeId} {o1 o2 : Operand} {xs ys : List V} {rs us : Array Value} (hx : Rows2 G xs rs) (hy : Rows2 G ys us) {e : Eff} (h : eqAgg P t xs ys = some e) :
    ∃ b, e = .val True (.bool b) ∧ (∀ op, op = .eql ∨ op = .neq → ∀ w : World, (eqGuard op t o1 o2 (.agg rs) (.agg us)).run P w = .ok () w) ∧ ∀ w : World, (binOp .eql t (.agg rs) (.agg us)).run P w = .ok (.bool b) w ∧ (binOp .neq t (.agg rs) (.agg us)).run P w = .ok (.bool (!b)) w := by
  unfold eqAgg at h
  split at h
  · rename_i sh hsh
    split at h
    · rename_i b hb
      cases h
      have key : P.eqGuardType P.depth t = false ∧ ∀ w : World, (Op.equalIn 10000 t (.agg rs) (.agg us)).run P w = .ok b w := by
        unfold eqShape at hsh
        split at hsh
        · rename_i fs hu
          cases hc : (!P.eqGuardType P.depth t && !P.stoodInHeld t) with
          | false => rw [hc] at hsh; cases hsh
          | true =>
            rw [hc] at hsh
            simp only [Bool.and_eq_true, Bool.not_eq_true'] at hc
            refine ⟨hc.1, fun w => ?_⟩
            have hf : P.fieldsOf t = fs := by simp [Program.fieldsOf, hu]
            rw [run_equalIn_struct w 9999 t rs us (by rw [hf]; exact hu) hc.2, hf]
            exact eqFields_run hsh hb hx hy 9998 w
        · rename_i n el hu
          split at hsh
          · rename_i k i hk hi
            cases hc : (!P.eqGuardType P.depth t && Nat.beq (P.cellsOf el) 1) with
            | false => rw [hc] at hsh; cases hsh
            | true =>
              rw [hc] at hsh; cases hsh
              simp only [Bool.and_eq_true, Bool.not_eq_true'] at hc
              refine ⟨hc.1, fun w => ?_⟩
              rw [Go.run_equalIn_array w 9999 rs us hu hi, Nat.eq_of_beq_eq_true hc.2]
              exact eqItems_run hk hb hx hy 9998 w
          · cases hsh
        · cases hsh
      exact ⟨b, rfl, fun op _ w => run_eqGuard_agg w op t o1 o2 rs us key.1, fun w => ⟨by rw [run_eql_struct, key.2]; rfl, by rw [run_neq_struct, key.2]; rfl⟩⟩
    · cases h
  · cases h
end Go.Vm
/- Vm, part 8: arithmetic, comparisons, conversions, lengths, made slices. -/
namespace Go.Vm
variable {X : Ext} {G H G0 : Ghost} {σ : Hp} {w : World} {P : Program}
theorem snd_same {s : Sem Value} {p : Prop} {v : V} (hI : Inv X G σ w) (h : p → ∃ r, s.run P w = .ok r w ∧ VRel G v r) : Snd P X G σ w (do pure (.value (← s))) (.val p v) :=
  Snd.pure hI fun hp => by obtain ⟨r, h1, h2⟩ := h hp; exact ⟨r, by rw [Sem.run_bind, h1]; rfl, h2⟩
/-- Two whole numbers. -/
def intOp (op : BinOp) (k : IntKind) (a b : Int) : Option Eff :=
  match op with
  | .add => some (.val True (.int k (k.wrap (a + b))))
  | .sub => some (.val True (.int k (k.wrap (a - b))))
  | .mul => some (.val True (.int k (k.wrap (a * b))))
  | .quo => some (.val (b ≠ 0) (.int k (k.wrap (a.tdiv b))))
  | .rem => some (.val (b ≠ 0) (.int k (a.tmod b)))
  | .and => some (.val True (.int k (k.wrap (BitVec.ofInt k.bits a &&& BitVec.ofInt k.bits b).toNat)))
  | .or => some (.val True (.int k (k.wrap (BitVec.ofInt k.bits a ||| BitVec.ofInt k.bits b).toNat)))
  | .xor => some (.val True (.int k (k.wrap (BitVec.ofInt k.bits a ^^^ BitVec.ofInt k.bits b).toNat)))
  | .eql => some (.val True (.bool (decide (a = b))))
  | .neq => some (.val True (.bool (!decide (a = b))))
  | .lss => some (.val True (.bool (decide (a < b))))
  | .leq => some (.val True (.bool (decide (a ≤ b))))
  | .gtr => some (.val True (.bool (decide (b < a))))
  | .geq => some (.val True (.bool (decide (b ≤ a))))
  | _ => none
def strOp (op : BinOp) (a b : ByteArray) : Option Eff :=
  match op with
  | .add => some (.val (((a.size + b.size : Nat) : Int) ≤ 9223372036854775807) (.str (a ++ b)))
  | .eql => some (.val True (.bool (decide (a = b))))
  | .neq => some (.val True (.bool (!decide (a = b))))
  | .lss => some (.val True (.bool (Op.bytesLess a.toList b.toList)))
  | .leq => some (.val True (.bool (Op.bytesLess a.toList b.toList || decide (a = b))))
  | .gtr => some (.val True (.bool (!(Op.bytesLess a.toList b.toList || decide (a = b)))))
  | .geq => some (.val True (.bool (!Op.bytesLess a.toList b.toList)))
  | _ => none
/-- Two values held against each other, that are neither numbers nor strings: true, false, or not told. -/
def eqOp (P : Program) (t : TypeId) (x y : V) : Option Eff :=
  match x, y with
  | .bool a, .bool b => match P.underlying t with
    | some .bool => some (.val True (.bool (a == b)))
    | _ => none
  | .nilp, .nilp => match P.underlying t with
    | some (.pointer _) => some (.val True (.bool true))
    | _ => none
  | .ptr _ _, .nilp | .nilp, .ptr _ _ | .pv _, .nilp => match P.underlying t with
    | some (.pointer _) => some (.val True (.bool false))
    | _ => none
  | .nilm, .nilm => match P.underlying t with
    | some (.map _ _) => some (.val True (.bool true))
    | _ => none
  | .mp _, .nilm => match P.underlying t with
    | some (.map _ _) => some (.val True (.bool false))
    | _ => none
  | _, _ => none
def notE : Eff → Option Eff
  | .val p (.bool b) => some (.val p (.bool (!b)))
  | _ => none
def eqOp2 (P : Program) (t : TypeId) (x y : V) : Option Eff :=
  match x, y with
  | .agg xs, .agg ys => eqAgg P t xs ys
  | x, y => eqOp P t x y
def mBin (P : Program) (op : BinOp) (t : TypeId) (x y : V) : Option Eff :=
  match x, y with
  | .int k a, .int k' b => match op with
    | .shl => some (.val (0 ≤ b) (.int k (k.wrap (a * 2 ^ (min b.toNat k.bits)))))
    | .shr => some (.val (0 ≤ b) (.int k (a.fdiv (2 ^ (min b.toNat k.bits)))))
    | op => if k = k' then intOp op k a b else none
  | .str a, .str b => strOp op a b
  | x, y => match op with
    | .eql => eqOp2 P t x y
    | .neq => (eqOp2 P t x y).bind notE
    | _ => none
theorem run_guard_int (op : BinOp) (t : TypeId) (x y : Operand) (k k' : IntKind) (a b : Int) (w : World) : (eqGuard op t x y (.int k a) (.int k' b)).run P w = .ok () w := by
  unfold eqGuard; cases op <;> simp
theorem run_intOp {op : BinOp} {k : IntKind} {a b : Int} {t : TypeId} {p : Prop} {v : V} (h : intOp op k a b = some (.val p v)) (hp : p) (w : World) : ∃ r, (binOp op t (.int k a) (.int k b)).run P w = .ok r w ∧ VRel G v r := by
  cases op <;> simp only [intOp, Option.some.injEq, Eff.val.injEq, reduceCtorEq] at h
  all_goals (obtain ⟨rfl, rfl⟩ := h)
  case add => exact ⟨_, by simp [binOp, Op.intArith], .int _ _⟩
  case sub => exact ⟨_, by simp [binOp, Op.intArith], .int _ _⟩
  case mul => exact ⟨_, by simp [binOp, Op.intArith], .int _ _⟩
  case quo => exact ⟨_, by simp [binOp, Op.intDiv, hp], .int _ _⟩
  case rem => exact ⟨_, by simp [binOp, Op.intDiv, hp], .int _ _⟩
  case and => exact ⟨_, by simp [binOp, Op.intBits], .int _ _⟩
  case or => exact ⟨_, by simp [binOp, Op.intBits], .int _ _⟩
  case xor => exact ⟨_, by simp [binOp, Op.intBits], .int _ _⟩
  case eql => exact ⟨.bool (a == b), by simp [binOp, Op.intCmp], by rw [int_beq]; exact .bool _⟩
  case neq => exact ⟨.bool (a != b), by simp [binOp, Op.intCmp], by unfold bne; rw [int_beq]; exact .bool _⟩
  case lss => exact ⟨.bool (decide (a < b)), by simp [binOp, Op.intCmp], .bool _⟩
  case leq => exact ⟨.bool (decide (a ≤ b)), by simp [binOp, Op.intCmp], .bool _⟩
  case gtr => exact ⟨.bool (decide (a > b)), by simp [binOp, Op.intCmp], .bool _⟩
  case geq => exact ⟨.bool (decide (a ≥ b)), by simp [binOp, Op.intCmp], .bool _⟩
theorem run_strOp {op : BinOp} {a b : ByteArray} {t : TypeId} {p : Prop} {v : V} (h : strOp op a b = some (.val p v)) (hp : p) (w : World) : ∃ r, (binOp op t (.string a) (.string b)).run P w = .ok r w ∧ VRel G v r := by
  cases op <;> simp only [strOp, Option.some.injEq, Eff.val.injEq, reduceCtorEq] at h
  all_goals (obtain ⟨rfl, rfl⟩ := h)
  case add =>
    have : ¬ (((a.size + b.size : Nat) : Int) > IntKind.i64.max) := by show ¬ (_ > (9223372036854775807 : Int)); omega
    exact ⟨_, by simp only [binOp, Op.stringOp, this, if_false]; rfl, .str _⟩
  case eql => exact ⟨.bool (a.toList == b.toList), by simp [binOp, Op.stringOp], by rw [toList_beq]; exact .bool _⟩
  case neq => exact ⟨.bool (!(a.toList == b.toList)), by simp [binOp, Op.stringOp], by rw [toList_beq]; exact .bool _⟩
  case lss => exact ⟨.bool (Op.bytesLess a.toList b.toList), by simp [binOp, Op.stringOp], .bool _⟩
  case leq => exact ⟨.bool (Op.bytesLess a.toList b.toList || (a.toList == b.toList)), by simp [binOp, Op.stringOp], by rw [toList_beq]; exact .bool _⟩
  case gtr => exact ⟨.bool (!(Op.bytesLess a.toList b.toList || (a.toList == b.toList))), by simp [binOp, Op.stringOp], by rw [toList_beq]; exact .bool _⟩
  case geq => exact ⟨.bool (!Op.bytesLess a.toList b.toList), by simp [binOp, Op.stringOp], .bool _⟩
theorem eq_step (t : TypeId) (x y : Value) : Op.equal t x y = Op.equalIn (9999 + 1) t x y := rfl
theorem run_eq1 {t : TypeId} {r u : Value} {b : Bool} {w : World} (h : binOp .eql t r u = (do pure (.bool (← Op.equal t r u)) : Sem Value)) (he : (Op.equal t r u).run P w = .ok b w) : (binOp .eql t r u).run P w = .ok (.bool b) w := by
  rw [h, Sem.run_bind, he]; rfl
theorem run_eq2 {t : TypeId} {r u : Value} {b : Bool} {w : World} (h : binOp .neq t r u = (do pure (.bool (!(← Op.equal t r u))) : Sem Value)) (he : (Op.equal t r u).run P w = .ok b w) : (binOp .neq t r u).run P w = .ok (.bool (!b)) w := by
  rw [h, Sem.run_bind, he]; rfl
theorem run_eqOp {t : TypeId} {o1 o2 : Operand} {x y : V} {r u : Value} (hx : VRel G x r) (hy : VRel G y u) {e : Eff} (h : eqOp P t x y = some e) :
    ∃ b, e = .val True (.bool b) ∧ (∀ op, op = .eql ∨ op = .neq → ∀ w : World, (eqGuard op t o1 o2 r u).run P w = .ok () w) ∧ ∀ w : World, (binOp .eql t r u).run P w = .ok (.bool b) w ∧ (binOp .neq t r u).run P w = .ok (.bool (!b)) w := by
  unfold eqOp at h
  split at h
  all_goals first
    | (cases h; done)
    | (split at h <;> first
        | (cases h; done)
        | (rename_i hu; cases h; cases hx; cases hy
           refine ⟨_, rfl, fun op hop w => ?_, fun w => ⟨?_, ?_⟩⟩
           · rcases hop with rfl | rfl <;> rfl
           · refine run_eq1 rfl ?_
             rw [eq_step]; unfold Op.equalIn; simp only [Sem.run_bind, run_und hu, Result.andThen_ok]; rfl
           · refine run_eq2 rfl ?_
             rw [eq_step]; unfold Op.equalIn; simp only [Sem.run_bind, run_und hu, Result.andThen_ok]; rfl))
theorem run_eqOp2 {t : TypeId} {o1 o2 : Operand} {x y : V} {r u : Value} (hx : VRel G x r) (hy : VRel G y u) {e : Eff} (h : eqOp2 P t x y = some e) :
    ∃ b, e = .val True (.bool b) ∧ (∀ op, op = .eql ∨ op = .neq → ∀ w : World, (eqGuard op t o1 o2 r u).run P w = .ok () w) ∧ ∀ w : World, (binOp .eql t r u).run P w = .ok (.bool b) w ∧ (binOp .neq t r u).run P w = .ok (.bool (!b)) w := by
  unfold eqOp2 at h
  split at h
  · cases hx with | agg _ rs h1 h2 =>
    cases hy with | agg _ us h3 h4 =>
    exact run_eqAgg ⟨h1, h2⟩ ⟨h3, h4⟩ h
  · exact run_eqOp hx hy h
theorem sound_bin (hI : Inv X G σ w) {op : BinOp} {t : Nat} {o1 o2 : Operand} {x y : V} {r u : Value} (hx : VRel G x r) (hy : VRel G y u) {e : Eff} (h : mBin P op t x y = some e) :
    Snd P X G σ w (do pure (.value (← (do eqGuard op t o1 o2 r u; binOp op t r u)))) e := by
  unfold mBin at h
  split at h
  · rename_i k a k' b
    cases hx; cases hy
    split at h
    · cases h
      refine snd_same hI fun hp => ⟨_, ?_, .int _ _⟩
      have : ¬ b < 0 := by omega
      simp [eqGuard, binOp, Op.shift, this]
    · cases h
      refine snd_same hI fun hp => ⟨_, ?_, .int _ _⟩
      have : ¬ b < 0 := by omega
      simp [eqGuard, binOp, Op.shift, this]
    · rename_i op' h1 h2
      split at h
      · rename_i hk; subst hk
        cases e with
        | val p v =>
          refine snd_same hI fun hp => ?_
          obtain ⟨r, h3, h4⟩ := run_intOp (P := P) (G := G) (t := t) h hp w
          exact ⟨r, by rw [Sem.run_bind, run_guard_int]; exact h3, h4⟩
        | new => cases op <;> simp [intOp] at h
        | set => cases op <;> simp [intOp] at h
        | any => cases op <;> simp [intOp] at h
        | app => cases op <;> simp [intOp] at h
      · cases h
  · rename_i a b
    cases hx; cases hy
    cases e with
    | val p v =>
      refine snd_same hI fun hp => ?_
      obtain ⟨r, h3, h4⟩ := run_strOp (P := P) (G := G) (t := t) h hp w
      refine ⟨r, ?_, h4⟩
      have : (eqGuard op t o1 o2 (.string a) (.string b)).run P w = .ok () w := by unfold eqGuard; cases op <;> simp
      rw [Sem.run_bind, this]; exact h3
    | new => cases op <;> simp [strOp] at h
    | set => cases op <;> simp [strOp] at h
    | any => cases op <;> simp [strOp] at h
    | app => cases op <;> simp [strOp] at h
  · rename_i hn1 hn2
    split at h
    · obtain ⟨b, rfl, h1, h2⟩ := run_eqOp2 (o1 := o1) (o2 := o2) hx hy h
      exact snd_same hI fun _ => ⟨.bool b, by rw [Sem.run_bind, h1 .eql (.inl rfl) w, Result.andThen_ok]; exact (h2 w).1, .bool _⟩
    · cases hq : eqOp2 P t x y with
      | none => rw [hq] at h; cases h
      | some e' =>
        rw [hq] at h
        obtain ⟨b, rfl, h1, h2⟩ := run_eqOp2 (o1 := o1) (o2 := o2) hx hy hq
        cases h
        exact snd_same hI fun _ => ⟨.bool (!b), by rw [Sem.run_bind, h1 .neq (.inr rfl) w, Result.andThen_ok]; exact (h2 w).2, .bool _⟩
    · cases h
end Go.Vm
/- Vm, part 9: append. -/
namespace Go.Vm
variable {X : Ext} {G H G0 : Ghost} {σ : Hp} {w : World} {P : Program}
def notInt (P : Program) (t : TypeId) : Bool :=
  match P.underlying t with
  | some (.int _) => false
  | some _ => true
  | none => false
theorem notInt_run {t : TypeId} (h : notInt P t = true) : ∃ d, P.underlying t = some d ∧ (∀ k, d ≠ .int k) := by
  unfold notInt at h
  cases hu : P.underlying t with
  | none => simp [hu] at h
  | some d => cases d <;> simp [hu] at h ⊢
theorem notInt_matches {d : TypeDesc} (h : ∀ k, d ≠ .int k) : (match d with | .int _ => true | _ => false) = false := by
  cases d <;> first | rfl | exact absurd rfl (h _)
/-- There is room. -/
theorem run_append_fits {t t2 e : TypeId} {sz n len cap : Nat} {a : Option Addr} {x : Value} {new : Array Value} (ht : P.underlying t = some (.slice e)) (ht2 : notInt P t2 = true) (hsz : szT P e = some sz)
    (hn : (Builtin.lenOf x).run P w = .ok n w) (hx : (Builtin.firstCells sz n x).run P w = .ok new w) (hfit : len + n ≤ cap) (ty : TypeId) {w' : World}
    (hs : ∀ b : Addr, a = some b → (storeCells (b.add (len * sz)) new.toList).run P w = .ok () w') (hs0 : a = none → w' = w) :
    (Builtin.append_ #[t, t2] ty #[.slice a len cap, x]).run P w = .ok (.slice a (len + n) cap) w' := by
  obtain ⟨d, hd, hk⟩ := notInt_run ht2
  have hm := notInt_matches hk
  unfold Builtin.append_
  simp only [List.getElem?_toArray, List.getElem?_cons_zero, List.getElem?_cons_succ, Sem.run_bind, run_und ht, run_und hd, Result.andThen_ok, run_sz hsz, Sem.run_pure]
  have hm' : (d matches .int _) = false := by cases d <;> first | rfl | exact absurd rfl (hk _)
  simp only [hm', Bool.false_eq_true, if_false, hn, Result.andThen_ok, Bool.not_false, if_true, hfit, Sem.run_bind, hx]
  cases a with
  | none => simp [hs0 rfl]
  | some b => simp [hs b rfl]
/-- There is none: a new block. -/
theorem zero_all {t : TypeId} {l : List V} (h : zeroT P t = some l) (w : World) : ∃ z, (zeroValue t).run P w = .ok z w ∧ ∀ G : Ghost, Rows2 G l z.cells := by
  unfold zeroT at h
  cases hi : P.info? t with
  | none => simp [hi] at h
  | some i =>
    cases hz : i.zero with
    | none => simp [hi, hz] at h
    | some v =>
      simp [hi, hz] at h
      subst h
      exact ⟨v, by simp [zeroValue, run_inf hi, hz], fun G => cells_rel G _⟩
theorem zero_cells {zs : List V} {z : Array Value} (hz : ∀ G : Ghost, Rows2 G zs z) {m : Nat} : ∀ (i : Nat) (r : Value), (Builtin.zeroCells z m)[i]? = some r → ∃ c ∈ zs, ∀ G : Ghost, VRel G c r := by
  intro i r hi
  have hm : r ∈ z := by
    have := Array.mem_of_getElem? hi
    unfold Builtin.zeroCells at this
    rw [Array.mem_map] at this
    obtain ⟨k, hk, rfl⟩ := this
    have hk' : k < m * z.size := by simpa using hk
    have hz0 : 0 < z.size := Nat.pos_of_ne_zero fun e => by rw [e] at hk'; simp at hk'
    have hlt : k % z.size < z.size := Nat.mod_lt _ hz0
    rw [getElem!_pos z (k % z.size) hlt]
    exact Array.getElem_mem hlt
  obtain ⟨j, hj, e⟩ := Array.mem_iff_getElem.1 hm
  have hl : j < zs.length := by rw [← (hz ⟨fun _ => [], fun _ => none, fun _ => none⟩).1]; exact hj
  refine ⟨zs[j], List.getElem_mem hl, fun G => ?_⟩
  have := (hz G).2 j _ (List.getElem?_eq_getElem hl)
  simpa [hj, e] using this
theorem run_append_grows {t t2 e : TypeId} {sz bytes n len cap : Nat} {a : Option Addr} {x : Value} {new old : Array Value} {zs : List V} (ht : P.underlying t = some (.slice e)) (ht2 : notInt P t2 = true) (hsz : szT P e = some sz) (hby : bytesT P e = some bytes) (hb0 : 0 < bytes)
    (hz : zeroT P e = some zs) (hzl : zs.length = sz) (hroom : (len + n) * bytes ≤ 140737488355328)
    (hn : (Builtin.lenOf x).run P w = .ok n w) (hxr : (Builtin.firstCells sz n x).run P w.drew = .ok new w.drew) (hor : (Builtin.firstCells sz len (.slice a len cap)).run P w.drew = .ok old w.drew) (hgrow : ¬ len + n ≤ cap) (ty : TypeId) :
    ∃ rest : Array Value, rest.size = (grownCap w (len + n) cap e - (len + n)) * sz ∧ len + n ≤ grownCap w (len + n) cap e ∧ (∀ (i : Nat) (r : Value), rest[i]? = some r → ∃ c ∈ zs, ∀ G : Ghost, VRel G c r) ∧
    (Builtin.append_ #[t, t2] ty #[.slice a len cap, x]).run P w = .ok (.slice (some ⟨w.heap.size, 0, none⟩) (len + n) (grownCap w (len + n) cap e)) (w.drew.alloc (.cells (old ++ new ++ rest) e)) := by
  obtain ⟨d, hd, hk⟩ := notInt_run ht2
  obtain ⟨i, hi, hib⟩ : ∃ i, P.info? e = some i ∧ i.bytes = bytes := by
    unfold bytesT at hby
    cases hi : P.info? e with
    | none => simp [hi] at hby
    | some i => simp [hi] at hby; exact ⟨i, rfl, hby⟩
  obtain ⟨z, hz1, hz3⟩ := zero_all hz w.drew
  have hz2 := hz3 ⟨fun _ => [], fun _ => none, fun _ => none⟩
  have hm' : (d matches .int _) = false := by cases d <;> first | rfl | exact absurd rfl (hk _)
  have hcap : ¬ (Builtin.nextslicecap (len + n) cap * i.bytes > 2 ^ 48) := by
    have := growslice_fits (need := len + n) (old := cap) (bytes := bytes) (by omega) hroom
    rw [hib]; omega
  have hnb : ¬ ((i.bytes = 0)) := by omega
  have hzs : z.cells.size = sz := hz2.1.trans hzl
  refine ⟨Builtin.zeroCells z.cells (grownCap w (len + n) cap e - (len + n)), by rw [size_zeroCells, hzs], grownCap_ge _ _ _ _, zero_cells hz3, ?_⟩
  unfold Builtin.append_
  simp only [List.getElem?_toArray, List.getElem?_cons_zero, List.getElem?_cons_succ, Sem.run_bind, run_und ht, run_und hd, Result.andThen_ok, run_sz hsz, Sem.run_pure]
  simp only [hm', Bool.false_eq_true, if_false, hn, Result.andThen_ok, Bool.not_false, if_true, hgrow, Sem.run_bind, run_inf hi, Sem.run_ite, hnb, false_or, false_and, and_false, or_false, hcap]
  have hch : (choose (.appendCap (len + n) cap e)).run P w = .ok (grownCap w (len + n) cap e) w.drew := by
    simp [run_choose, Question.forced, grownCap]
  simp only [hch, Result.andThen_ok, run_inf hi, run_askRoom, hor, hxr, hz1, Sem.run_pure, newRow, Sem.run_bind, run_newObj]
  simp
  rfl
/-- Cells that lie under an address, read. -/
theorem firstCells_row {sz n len cap b off : Nat} {cs : List V} (hr : RowAt G w b off cs) (hl : cs.length = n * sz) :
    ∃ rs, (Builtin.firstCells sz n (.slice (some ⟨b, off, none⟩) len cap)).run P w = .ok rs w ∧ Rows2 G cs rs := by
  obtain ⟨rs, h1, h2⟩ := RowAt.load (P := P) hr
  rw [hl] at h1
  exact ⟨rs, by simp [Builtin.firstCells, h1], h2⟩
theorem firstCells_sl (hI : Inv X G σ w) {sz : Nat} {es : List V} {tag : Tag} {a : Option Addr} {len cap : Nat} (h : VRel G (.sl sz es tag) (.slice a len cap)) :
    len = es.length ∧ ∃ rs, (Builtin.firstCells sz len (.slice a len cap)).run P w = .ok rs w ∧ Rows2 G (flat es) rs := by
  cases h with | sl _ _ _ _ _ rs hc hu hb hr ht =>
  refine ⟨rfl, ?_⟩
  rcases hb with hb | ⟨b, off, e, hb⟩
  · subst hb
    cases a with
    | none => exact ⟨#[], by simp [Builtin.firstCells], rfl, fun i c hi => by simp [flat] at hi⟩
    | some a => exact ⟨#[], by simp [Builtin.firstCells, loadCells, loadCellsFrom], rfl, fun i c hi => by simp [flat] at hi⟩
  · subst e
    exact firstCells_row (row_fz hI hb hr) (flat_length hu)
def bytesV (s : ByteArray) : List V := s.data.toList.map fun b => .int .u8 b.toNat
theorem firstCells_str {s : ByteArray} : ∃ rs, (Builtin.firstCells 1 s.size (.string s)).run P w = .ok rs w ∧ Rows2 G (bytesV s) rs := by
  refine ⟨_, rfl, ?_, fun i c hi => ?_⟩
  · have : s.extract 0 s.size = s := ByteArray.extract_zero_size
    simp only [bytesV, List.length_map, this, Array.size_map]; rfl
  · have : s.extract 0 s.size = s := ByteArray.extract_zero_size
    rw [this]
    simp only [bytesV, List.getElem?_map] at hi
    cases hb : s.data.toList[i]? with
    | none => rw [hb] at hi; cases hi
    | some b =>
      rw [hb] at hi; cases hi
      have : s.data[i]? = some b := by simpa using hb
      simp [this]; exact .int _ _
theorem flat_single {es : List V} (h : ∀ e ∈ es, e.cells.length = 1) (h2 : ∀ e ∈ es, ∀ cs, e ≠ .agg cs) : flat es = es := by
  induction es with
  | nil => rfl
  | cons e es ih =>
    rw [flat_cons, ih (fun x hx => h x (List.mem_cons_of_mem _ hx)) (fun x hx => h2 x (List.mem_cons_of_mem _ hx))]
    have : e.cells = [e] := by cases e <;> first | rfl | exact absurd rfl (h2 _ (List.mem_cons_self ..) _)
    rw [this]; rfl
theorem bytesV_flat (s : ByteArray) : flat (bytesV s) = bytesV s :=
  flat_single (fun e he => by obtain ⟨b, _, rfl⟩ := List.mem_map.1 he; rfl) (fun e he cs => by obtain ⟨b, _, rfl⟩ := List.mem_map.1 he; simp)
/-- What is appended: its elements. -/
def srcOf (σ : Hp) (n : Nat) : V → Option (List V)
  | .sl sz es _ => cond (Nat.beq sz n || es.isEmpty) (some es) none
  | .str s => cond (Nat.beq n 1) (some (bytesV s)) none
  | .bs g off len _ sz => match σ.get g with
    | some (.cells cs) => cond (Nat.beq n 1 && Nat.beq sz 1) (some ((cs.drop off).take len)) none
    | _ => none
  | _ => none
/-- What is asked of a source in memory of one's own: that all is there, and of one cell. -/
def srcP (σ : Hp) : V → Prop
  | .bs g off len _ _ => ∀ cs, σ.get g = some (.cells cs) → off + len ≤ cs.length
  | _ => True
theorem src_ok (hI : Inv X G σ w) {n : Nat} {y : V} {u : Value} (hy : VRel G y u) {ys : List V} (h : srcOf σ n y = some ys) (hp : srcP σ y) :
    ((∀ e ∈ ys, e.cells.length = n) ∧ ∀ e ∈ ys, e.cells.all V.one = true) ∧ (Builtin.lenOf u).run P w = .ok ys.length w ∧ ∃ rs, (Builtin.firstCells n ys.length u).run P w = .ok rs w ∧ Rows2 G (flat ys) rs := by
  unfold srcOf at h
  split at h
  · rename_i sz es tag
    obtain ⟨a, len, cap, rfl⟩ : ∃ a len cap, u = .slice a len cap := by cases hy; exact ⟨_, _, _, rfl⟩
    obtain ⟨e1, rs, h1, h2⟩ := firstCells_sl (P := P) hI hy
    subst e1
    cases hc : (Nat.beq sz n || es.isEmpty) with
    | false => rw [hc] at h; cases h
    | true =>
      rw [hc] at h; cases h
      rw [Bool.or_eq_true] at hc
      rcases hc with hc | hc
      · have := Nat.eq_of_beq_eq_true hc; subst this
        cases hy with | sl _ _ _ _ _ _ _ hu _ _ _ ho =>
        exact ⟨⟨hu, ho⟩, rfl, rs, h1, h2⟩
      · have : ys = [] := by simpa using hc
        subst this
        refine ⟨⟨(fun e he => by cases he), (fun e he => by cases he)⟩, rfl, #[], ?_, rfl, (fun i c hi => by simp [flat] at hi)⟩
        cases a <;> simp [Builtin.firstCells, loadCells, loadCellsFrom]
  · rename_i s
    cases hc : Nat.beq n 1 with
    | false => rw [hc] at h; cases h
    | true =>
      rw [hc] at h; cases h
      have := Nat.eq_of_beq_eq_true hc; subst this
      cases hy
      have hl : (bytesV s).length = s.size := by simp [bytesV]
      refine ⟨⟨(fun e he => by obtain ⟨b, _, rfl⟩ := List.mem_map.1 he; rfl), (fun e he => by obtain ⟨b, _, rfl⟩ := List.mem_map.1 he; rfl)⟩, (by rw [hl]; rfl), ?_⟩
      rw [hl, bytesV_flat]; exact firstCells_str
  · rename_i g off len cap sz
    split at h
    · rename_i cs hg
      cases hc : (Nat.beq n 1 && Nat.beq sz 1) with
      | false => rw [hc] at h; cases h
      | true =>
        rw [hc] at h; cases h
        rw [Bool.and_eq_true] at hc
        have e1 := Nat.eq_of_beq_eq_true hc.1; subst e1
        have e2 := Nat.eq_of_beq_eq_true hc.2; subst e2
        have p1 := hp cs hg
        obtain ⟨_, _, _, _, _, ⟨_, hall⟩, _, _⟩ := hI.blk g _ hg
        have p2 : ∀ e ∈ (cs.drop off).take len, e.one = true := fun e he => List.all_eq_true.1 hall e (List.mem_of_mem_drop (List.mem_of_mem_take he))
        cases hy with | bs _ _ _ _ _ a hl hb =>
        have hlen : ((cs.drop off).take len).length = len := by simp; omega
        have hone : ∀ e ∈ (cs.drop off).take len, e.cells.length = 1 ∧ ∀ xs, e ≠ .agg xs := fun e he => by
          have := p2 e he
          cases e <;> first | (simp [V.one] at this; done) | exact ⟨rfl, by simp⟩
        refine ⟨⟨fun e he => (hone e he).1, fun e he => ?_⟩, by rw [hlen]; rfl, ?_⟩
        · have h1 := p2 e he
          have : e.cells = [e] := by cases e <;> first | rfl | (simp [V.one] at h1; done)
          rw [this]; simp [h1]
        rw [hlen, flat_single (fun e he => (hone e he).1) (fun e he => (hone e he).2)]
        obtain ⟨b', hb', hrow⟩ := row_ptr hI hg
        rcases hb with hb | ⟨b, hb, ea⟩
        · have e0 : len = 0 := by omega
          subst e0
          refine ⟨#[], ?_, by simp, fun i c hi => by simp at hi⟩
          cases a <;> simp [Builtin.firstCells, loadCells, loadCellsFrom]
        · rw [hb] at hb'; cases hb'
          subst ea
          have h1 := (hrow.drop off).take len
          rw [Nat.zero_add] at h1
          exact firstCells_row h1 (by rw [hlen]; omega)
    · cases h
  · cases h
end Go.Vm
/- Vm, part 10: append, whole. -/
namespace Go.Vm
variable {X : Ext} {G H G0 : Ghost} {σ : Hp} {w : World} {P : Program}
def room (len k bytes : Nat) : Prop := (len + k) * bytes ≤ 140737488355328
def mAppend (P : Program) (plain : Bool) (σ : Hp) (t t2 : TypeId) (x y : V) : Option Eff :=
  match elemT P t with
  | some e => match szT P e, bytesT P e, zeroT P e with
    | some n, some bytes, some zs => cond (notInt P t2 && Nat.ble 1 bytes && Nat.beq zs.length n)
      (match srcOf σ n y with
        | some ys => match x with
          | .sl sz es (.tk g) => match σ.get g with
            | some (.tok sz' m) => cond (Nat.beq sz' n && (Nat.beq sz n || es.isEmpty)) (some (.set (srcP σ y ∧ es.length = m ∧ room es.length ys.length bytes) g (.tok n (m + ys.length)) (.sl n (es ++ ys) (.tk g)))) none
            | _ => none
          | .sl sz es .full => cond plain (cond (Nat.beq sz n || es.isEmpty) (some (.val (srcP σ y ∧ room es.length ys.length bytes) (.sl n (es ++ ys) .no))) none)
              (match es with
                | [] => some (.new (srcP σ y ∧ room 0 ys.length bytes) (.tok n ys.length) fun g => .sl n ys (.tk g))
                | _ :: _ => cond (Nat.beq sz n) (some (.val (srcP σ y ∧ room es.length ys.length bytes) (.sl n (es ++ ys) .no))) none)
          | _ => none
        | none => none) none
    | _, _, _ => none
  | none => none
theorem sl_uni {sz n : Nat} {es : List V} (hu : ∀ e ∈ es, e.cells.length = sz) (h : (Nat.beq sz n || es.isEmpty) = true) : ∀ e ∈ es, e.cells.length = n := by
  rw [Bool.or_eq_true] at h
  rcases h with h | h
  · have := Nat.eq_of_beq_eq_true h; subst this; exact hu
  · have : es = [] := by simpa using h
    subst this; intro e he; cases he
theorem Rows2.append {cs ds : List V} {rs us : Array Value} (h : Rows2 G cs rs) (k : Rows2 G ds us) : Rows2 G (cs ++ ds) (rs ++ us) := by
  refine ⟨by simp [h.1, k.1], fun i c hi => ?_⟩
  by_cases hlt : i < cs.length
  · rw [List.getElem?_append_left hlt] at hi
    have := h.2 i c hi
    have h1 : i < rs.size := by rw [h.1]; exact hlt
    simpa [Array.getElem?_append, h1] using this
  · rw [List.getElem?_append_right (by omega)] at hi
    have := k.2 _ c hi
    have h1 : ¬ i < rs.size := by rw [h.1]; exact hlt
    rw [Array.getD_eq_getD_getElem?, Array.getElem?_append_right (by omega), h.1]; simpa using this
/-- What lies frozen at a block's begin, as a slice. -/
theorem VRel.of_fz {n : Nat} {es : List V} {b cap : Nat} {l : List Value} {rs : Array Value} (hf : H.fz b = l) (hl : ∀ i (r : Value), i < rs.size → rs[i]? = some r → l[i]? = some r) (hr : Rows2 H (flat es) rs)
    (hu : ∀ e ∈ es, e.cells.length = n) (hc : es.length ≤ cap) (ho : ∀ e ∈ es, e.cells.all V.one = true) (tag : Tag) (ht : TagOk H tag (some ⟨b, 0, none⟩) es.length cap) : VRel H (.sl n es tag) (.slice (some ⟨b, 0, none⟩) es.length cap) := by
  refine .sl n es tag _ cap (fun i => rs.getD i undef) hc hu (.inr ⟨b, 0, rfl, fun i c hi => ?_⟩) (fun i c hi => hr.2 i c hi) ht ho
  have hlt := (List.getElem?_eq_some_iff.1 hi).1
  have h1 : i < rs.size := by rw [hr.1]; exact hlt
  rw [hf, Nat.zero_add]
  exact hl i _ h1 (by simp [h1])
theorem Rows2.old (le : G.Le H) {cs : List V} {rs : Array Value} (h : Rows2 G cs rs) : Rows2 H cs rs := h.mono le
theorem sl_len {sz : Nat} {es : List V} {tag : Tag} {r : Value} (h : VRel G (.sl sz es tag) r) : ∃ a cap, r = .slice a es.length cap ∧ es.length ≤ cap ∧ TagOk G tag a es.length cap ∧ (∀ e ∈ es, e.cells.length = sz) ∧ ∀ e ∈ es, e.cells.all V.one = true := by
  cases h with | sl _ _ _ a cap rs hc hu hb hr ht ho => exact ⟨a, cap, rfl, hc, ht, hu, ho⟩
theorem VRel.tag {sz n : Nat} {es : List V} {tag : Tag} {a : Option Addr} {len cap : Nat} (h : VRel G (.sl sz es tag) (.slice a len cap)) (hn : ∀ e ∈ es, e.cells.length = n) (tag' : Tag) (ht : TagOk G tag' a len cap) : VRel G (.sl n es tag') (.slice a len cap) := by
  cases h with | sl _ _ _ a cap rs hc hu hb hr _ ho => exact .sl n es tag' a cap rs hc hn hb hr ht ho
/-- No room: the new block, frozen whole. -/
theorem append_no (hI : Inv X G σ w) {t t2 e n bytes : Nat} {zs es ys : List V} {sz : Nat} {tag : Tag} {a : Option Addr} {cap : Nat} {u : Value} (ht : P.underlying t = some (.slice e)) (ht2 : notInt P t2 = true) (hsz : szT P e = some n) (hby : bytesT P e = some bytes) (hb0 : 0 < bytes)
    (hz : zeroT P e = some zs) (hzl : zs.length = n) (hx : VRel G (.sl sz es tag) (.slice a es.length cap)) (hun : ∀ e ∈ es, e.cells.length = n) (hroom : room es.length ys.length bytes)
    (hys : ∀ e ∈ ys, e.cells.length = n) (hlen : (Builtin.lenOf u).run P w = .ok ys.length w) (hnew : ∃ rs, (Builtin.firstCells n ys.length u).run P w.drew = .ok rs w.drew ∧ Rows2 G (flat ys) rs) (hgrow : ¬ es.length + ys.length ≤ cap) (ty : TypeId) :
    ∃ (rs : Array Value) (cap' : Nat), rs.size = cap' * n ∧ es.length + ys.length ≤ cap' ∧ (∃ pre : Array Value, Rows2 G (flat (es ++ ys)) pre ∧ ∀ i (r : Value), i < pre.size → pre[i]? = some r → rs[i]? = some r) ∧
      (Builtin.append_ #[t, t2] ty #[.slice a es.length cap, u]).run P w = .ok (.slice (some ⟨w.heap.size, 0, none⟩) (es ++ ys).length cap') (w.drew.alloc (.cells rs e)) := by
  obtain ⟨new, n1, n2⟩ := hnew
  have hx' : VRel G (.sl n es .no) (.slice a es.length cap) := hx.tag hun .no trivial
  obtain ⟨_, old, o1, o2⟩ := firstCells_sl (P := P) hI.drew hx'
  obtain ⟨rest, r1, r2, _, r3⟩ := run_append_grows (P := P) ht ht2 hsz hby hb0 hz hzl hroom hlen n1 o1 hgrow ty
  have hpre : Rows2 G (flat (es ++ ys)) (old ++ new) := by rw [flat_append]; exact o2.append n2
  refine ⟨old ++ new ++ rest, grownCap w (es.length + ys.length) cap e, ?_, r2, ⟨old ++ new, hpre, fun i r hi hr => ?_⟩, by rw [List.length_append]; exact r3⟩
  · rw [Array.size_append, hpre.1, r1, flat_length (n := n) (fun x hx => (List.mem_append.1 hx).elim (hun x) (hys x)), List.length_append, ← Nat.add_mul]; congr 1; omega
  · rw [Array.getElem?_append_left hi]; exact hr
theorem val_of {s : Sem Value} {r : Value} {w w' : World} (h : s.run P w = .ok r w') : (do pure (Next.value (← s)) : Sem Next).run P w = .ok (.value r) w' := by
  rw [Sem.run_bind, h]; rfl
theorem src_drew (hI : Inv X G σ w) {n : Nat} {y : V} {u : Value} (hy : VRel G y u) {ys : List V} (h : srcOf σ n y = some ys) (hp : srcP σ y) :
    ∃ rs, (Builtin.firstCells n ys.length u).run P w.drew = .ok rs w.drew ∧ Rows2 G (flat ys) rs := (src_ok (P := P) hI.drew hy h hp).2.2
theorem sound_append (hI : Inv X G σ w) {plain : Bool} {t t2 ty : Nat} {x y : V} {r u : Value} (hx : VRel G x r) (hy : VRel G y u) {e : Eff} (h : mAppend P plain σ t t2 x y = some e) :
    Snd P X G σ w (do pure (.value (← Builtin.append_ #[t, t2] ty #[r, u]))) e := by
  unfold mAppend at h
  split at h
  case h_2 => cases h
  rename_i el hel
  have hu := elemT_spec hel
  split at h
  case h_2 => cases h
  rename_i n bytes zs hsz hby hz
  cases hq : (notInt P t2 && Nat.ble 1 bytes && Nat.beq zs.length n) with
  | false => rw [hq] at h; cases h
  | true =>
    rw [hq, cond_true] at h
    rw [Bool.and_eq_true, Bool.and_eq_true] at hq
    obtain ⟨⟨q1, q2⟩, q3⟩ := hq
    have hb0 := Nat.le_of_ble_eq_true q2
    have hzl := Nat.eq_of_beq_eq_true q3
    split at h
    case h_2 => cases h
    rename_i ys hys
    -- no token: what comes of it is frozen
    have plainly : ∀ (sz : Nat) (es : List V), VRel G (.sl sz es .full) r → (∀ e ∈ es, e.cells.length = n) → Snd P X G σ w (do pure (.value (← Builtin.append_ #[t, t2] ty #[r, u]))) (.val (srcP σ y ∧ room es.length ys.length bytes) (.sl n (es ++ ys) .no)) := by
      intro sz es hx hun
      refine Snd.val fun ⟨p1, p2⟩ => ?_
      obtain ⟨a, cap, rfl, hc, htag, hus, hos⟩ := sl_len hx
      obtain ⟨⟨s1, so⟩, s2, new, s3, s4⟩ := src_ok (P := P) hI hy hys p1
      by_cases hfit : es.length + ys.length ≤ cap
      · have hcap : cap = es.length := htag
        have hy0 : ys = [] := List.eq_nil_of_length_eq_zero (by omega)
        subst hy0
        have hn0 : new = #[] := by
          have := s4.1
          exact Array.eq_empty_of_size_eq_zero (by simpa [flat] using this)
        subst hn0
        have hrun := run_append_fits (P := P) (w := w) (w' := w) hu q1 hsz (a := a) s2 s3 hfit ty (fun b _ => by simp [storeCells]) (fun _ => rfl)
        refine ⟨_, w, G, val_of hrun, Ghost.Le.refl _, hI, ?_⟩
        rw [List.append_nil]
        exact hx.tag hun .no trivial
      · obtain ⟨rs, cap', r1, r2, ⟨pre, r3, r4⟩, r5⟩ := append_no (P := P) hI hu q1 hsz hby hb0 hz hzl hx hun p2 s1 s2 (src_drew hI hy hys p1) hfit ty
        obtain ⟨le, hI'⟩ := hI.drew.alloc_frz rs el
        refine ⟨_, _, _, val_of r5, le, hI', ?_⟩
        refine VRel.of_fz (b := w.heap.size) (l := rs.toList) (rs := pre) ?_ (fun i r hi hr => by simpa using r4 i r hi hr) (r3.mono le) (fun x hx => (List.mem_append.1 hx).elim (hun x) (s1 x)) (by rw [List.length_append]; exact r2) (fun x hx => (List.mem_append.1 hx).elim (hos x) (so x)) .no trivial
        exact if_pos rfl
    split at h
    · -- a token
      rename_i sz es g
      split at h
      case h_2 => cases h
      rename_i sz' m hg
      cases hq2 : (Nat.beq sz' n && (Nat.beq sz n || es.isEmpty)) with
      | false => rw [hq2] at h; cases h
      | true =>
        rw [hq2, cond_true] at h
        cases h
        rw [Bool.and_eq_true] at hq2
        have := Nat.eq_of_beq_eq_true hq2.1; subst this
        refine Snd.set fun ⟨p1, p2, p3⟩ => ?_
        obtain ⟨a, cap, rfl, hc, htag, hus, hos⟩ := sl_len hx
        have hun := sl_uni hus hq2.2
        obtain ⟨⟨s1, so⟩, s2, new, s3, s4⟩ := src_ok (P := P) hI hy hys p1
        obtain ⟨base, capg, t1, t2'⟩ := hI.blk g _ hg
        obtain ⟨m', b', c', t3, t4, t5⟩ := htag
        rw [t1] at t3; cases t3
        obtain ⟨t6, t7⟩ := t5 p2
        subst t6
        have hon2 : ∀ e ∈ es ++ ys, e.cells.all V.one = true := fun x hx => (List.mem_append.1 hx).elim (hos x) (so x)
        have hun2 : ∀ e ∈ es ++ ys, e.cells.length = sz' := fun x hx => (List.mem_append.1 hx).elim (hun x) (s1 x)
        by_cases hfit : es.length + ys.length ≤ cap
        · by_cases hk : ys.length = 0
          · have hy0 : ys = [] := List.eq_nil_of_length_eq_zero hk
            subst hy0
            have hn0 : new = #[] := Array.eq_empty_of_size_eq_zero (by simpa [flat] using s4.1)
            subst hn0
            have hrun := run_append_fits (P := P) (w := w) (w' := w) hu q1 hsz (a := a) s2 s3 hfit ty (fun b _ => by simp [storeCells]) (fun _ => rfl)
            refine ⟨_, w, G, val_of hrun, Ghost.Le.refl _, ?_, ?_⟩
            · rw [List.length_nil, Nat.add_zero, Hp.set_same hg]; exact hI
            · rw [List.append_nil]
              exact hx.tag hun (.tk g) ⟨_, _, _, t1, t4, fun _ => ⟨rfl, t7⟩⟩
          · have hc0 : cap ≠ 0 := by omega
            cases base with
            | none => exact absurd t2'.2 hc0
            | some b =>
              have ha : a = some ⟨b, 0, none⟩ := by rcases t7 with t7 | t7; exact absurd t7 hc0; exact t7
              subst ha
              obtain ⟨rs0, e0, k1, k2, k3, k4, k5⟩ := t2'
              have hnl : new.toList.length = ys.length * sz' := by rw [Array.length_toList, s4.1, flat_length s1]
              have hone : ∀ v ∈ new.toList, v.oneCell' = true := fun v hv => by
                obtain ⟨i, hi⟩ := List.getElem?_of_mem hv
                have hlt : i < (flat ys).length := by rw [← s4.1]; simpa using (List.getElem?_eq_some_iff.1 hi).1
                have hr := s4.2 i _ (List.getElem?_eq_getElem hlt)
                have e1 : new.getD i undef = v := by
                  have : new[i]? = some v := by simpa using hi
                  simp [this]
                rw [e1] at hr
                obtain ⟨z, hz1, hz2⟩ := List.mem_flatMap.1 (List.getElem_mem hlt)
                exact hr.oneCell (List.all_eq_true.1 (so z hz1) _ hz2)
              obtain ⟨w', z1, z2, z3, z4, z5⟩ := run_storeCells P b (es.length * sz') e0 new.toList 0 w rs0 k1 (by rw [hnl, k2, Nat.add_zero, ← Nat.add_mul]; exact Nat.mul_le_mul_right _ hfit) hone
              have hrun := run_append_fits (P := P) (w := w) (w' := w') hu q1 hsz (a := some ⟨b, 0, none⟩) s2 s3 hfit ty (fun b2 hb2 => by cases hb2; rw [add_none, Nat.zero_add]; exact z1) (fun h0 => by cases h0)
              obtain ⟨le, hI'⟩ := hI.tok_more hg t1 (k := ys.length) hnl (by omega) z2 (fun rs e he => by rw [k1] at he; cases he; rw [← p2]; exact z3) z5
              refine ⟨_, w', _, val_of hrun, le, hI', ?_⟩
              have hold : ∃ rs : Array Value, Rows2 G (flat es) rs ∧ ∀ i (r : Value), i < rs.size → rs[i]? = some r → (G.fz b)[i]? = some r := by
                obtain ⟨_, rs, o1, o2⟩ := firstCells_sl (P := P) hI (hx.tag hun .no trivial)
                cases hx with | sl _ _ _ _ _ rs2 hc' hu' hb' hr' ht' =>
                rcases hb' with hb' | ⟨b2, off2, e2, hb2⟩
                · subst hb'
                  exact ⟨#[], ⟨rfl, fun i c hi => by simp [flat] at hi⟩, fun i r hi => absurd hi (Nat.not_lt_zero _)⟩
                · cases e2
                  refine ⟨((List.range (flat es).length).map rs2).toArray, ⟨by simp, fun i c hi => ?_⟩, fun i r hi hr => ?_⟩
                  · have hlt := (List.getElem?_eq_some_iff.1 hi).1
                    simpa [hlt] using hr' i c hi
                  · have hlt : i < (flat es).length := by simpa using hi
                    have := hb2 i _ (List.getElem?_eq_getElem hlt)
                    simp [hlt] at hr
                    subst hr
                    simpa using this
              obtain ⟨old, o1, o2⟩ := hold
              have hfl : (flat es).length = es.length * sz' := flat_length hun
              have hlen : es.length + ys.length = (es ++ ys).length := by simp
              rw [hlen]
              refine VRel.of_fz (b := b) (l := G.fz b ++ new.toList) (rs := old ++ new) ?_ (fun i r hi hr => ?_) (by rw [flat_append]; exact (o1.mono le).append (s4.mono le)) hun2 (by rw [← hlen]; exact hfit) hon2 (.tk g) ⟨m + ys.length, some b, cap, ?_, by rw [← hlen, p2]; exact Nat.le_refl _, fun _ => ⟨rfl, .inr rfl⟩⟩
              · exact if_pos rfl
              · by_cases hlt : i < old.size
                · rw [Array.getElem?_append_left hlt] at hr
                  have := o2 i r hlt hr
                  rw [List.getElem?_append_left (List.getElem?_eq_some_iff.1 this).1]; exact this
                · rw [Array.getElem?_append_right (by omega)] at hr
                  have e1 : (G.fz b).length = old.size := by rw [k4, o1.1, hfl, p2]
                  rw [List.getElem?_append_right (by omega), e1]; simpa using hr
              · exact if_pos rfl
        · obtain ⟨rs, cap', r1, r2, ⟨pre, r3, r4⟩, r5⟩ := append_no (P := P) hI hu q1 hsz hby hb0 hz hzl hx hun p3 s1 s2 (src_drew hI hy hys p1) hfit ty
          have hlen : es.length + ys.length = (es ++ ys).length := by simp
          obtain ⟨le, hI'⟩ := hI.drew.tok_new (g := g) (sz := sz') (n := m + ys.length) (cap := cap') (fun n' b c hh => by rw [t1] at hh; cases hh; omega) (.inr ⟨_, _, hg⟩) rs el r1 (by omega)
          refine ⟨_, _, _, val_of r5, le, hI', ?_⟩
          have hpl : pre.size = (m + ys.length) * sz' := by rw [r3.1, flat_length hun2, ← hlen, p2]
          refine VRel.of_fz (b := w.heap.size) (l := rs.toList.take ((m + ys.length) * sz')) (rs := pre) ?_ (fun i r hi hr => ?_) (r3.mono le) hun2 (by rw [← hlen]; exact r2) hon2 (.tk g) ⟨m + ys.length, some w.heap.size, cap', ?_, by rw [← hlen, p2]; exact Nat.le_refl _, fun _ => ⟨rfl, .inr rfl⟩⟩
          · exact if_pos rfl
          · rw [List.getElem?_take, if_pos (by omega)]
            simpa using r4 i r hi hr
          · exact if_pos rfl
    · rename_i sz es
      cases plain with
      | true =>
        rw [cond_true] at h
        cases hq2 : (Nat.beq sz n || es.isEmpty) with
        | false => rw [hq2] at h; cases h
        | true => rw [hq2] at h; cases h; exact plainly sz es hx (sl_uni (sl_len hx).choose_spec.choose_spec.2.2.2.1 hq2)
      | false =>
        rw [cond_false] at h
        split at h
        · cases h
          refine Snd.new fun ⟨p1, p2⟩ => ?_
          obtain ⟨a, cap, rfl, hc, htag, hus, hos⟩ := sl_len hx
          have hcap : cap = 0 := htag
          subst hcap
          obtain ⟨⟨s1, so⟩, s2, new, s3, s4⟩ := src_ok (P := P) hI hy hys p1
          obtain ⟨g, g1, g2, g3⟩ := hI.fresh
          by_cases hk : ys.length = 0
          · have hy0 : ys = [] := List.eq_nil_of_length_eq_zero hk
            subst hy0
            have hn0 : new = #[] := Array.eq_empty_of_size_eq_zero (by simpa [flat] using s4.1)
            subst hn0
            have hrun := run_append_fits (P := P) (w := w) (w' := w) hu q1 hsz (a := a) (len := 0) (cap := 0) s2 s3 (by simp) ty (fun b _ => by simp [storeCells]) (fun _ => rfl)
            obtain ⟨le, hI'⟩ := hI.tok_nil g1 g2 g3 n
            refine ⟨g, _, w, _, g3, val_of hrun, le, hI', ?_⟩
            refine (hx.mono le).tag (fun e he => by cases he) (.tk g) ⟨0, none, 0, ?_, Nat.le_refl _, fun _ => ⟨rfl, .inl rfl⟩⟩
            exact if_pos rfl
          · obtain ⟨rs, cap', r1, r2, ⟨pre, r3, r4⟩, r5⟩ := append_no (P := P) (es := []) hI hu q1 hsz hby hb0 hz hzl hx (fun e he => by cases he) p2 s1 s2 (src_drew hI hy hys p1) (fun h0 => hk (by rw [List.length_nil] at h0; omega)) ty
            simp only [List.length_nil, Nat.zero_add] at r2
            obtain ⟨le, hI'⟩ := hI.drew.tok_new (g := g) (sz := n) (n := ys.length) (cap := cap') (fun n' b c hh => by rw [show G.tk g = none from g2] at hh; cases hh) (.inl ⟨g2, g1⟩) rs el r1 r2
            refine ⟨g, _, _, _, g3, val_of r5, le, hI', ?_⟩
            have hpl : pre.size = ys.length * n := by rw [r3.1, List.nil_append, flat_length s1]
            refine VRel.of_fz (b := w.heap.size) (l := rs.toList.take (ys.length * n)) (rs := pre) ?_ (fun i r hi hr => ?_) (r3.mono le) s1 r2 so (.tk g) ⟨ys.length, some w.heap.size, cap', ?_, Nat.le_refl _, fun _ => ⟨rfl, .inr rfl⟩⟩
            · exact if_pos rfl
            · rw [List.getElem?_take, if_pos (by omega)]
              simpa using r4 i r hi hr
            · exact if_pos rfl
        · rename_i e1 es1
          cases hq2 : Nat.beq sz n with
          | false => rw [hq2] at h; cases h
          | true => rw [hq2] at h; cases h; exact plainly sz _ hx (sl_uni (sl_len hx).choose_spec.choose_spec.2.2.2.1 (by rw [hq2]; rfl))
    · cases h
end Go.Vm
/- Vm, part 11: picks, lengths, conversions, made slices, copy. -/
namespace Go.Vm
variable {X : Ext} {G H G0 : Ghost} {σ : Hp} {w : World} {P : Program}
def mPick (c x y : V) : Option Eff :=
  match c with
  | .bool b => some (.val True (cond b x y))
  | _ => none
theorem sound_pick (hI : Inv X G σ w) {c x y : V} {rc r u : Value} (hc : VRel G c rc) (hx : VRel G x r) (hy : VRel G y u) {e : Eff} (h : mPick c x y = some e) :
    Snd P X G σ w (do pure (.value (if ← asBool rc then r else u))) e := by
  unfold mPick at h
  split at h
  · rename_i b
    cases h; cases hc
    refine Snd.pure hI fun _ => ⟨if b then r else u, by simp [asBool], ?_⟩
    cases b
    · exact hy
    · exact hx
  · cases h
def mNil (x : V) : Option Eff :=
  match x with
  | .ptr _ _ | .pv _ | .fn _ _ | .mp _ => some (.val True x)
  | _ => none
theorem sound_nil (hI : Inv X G σ w) {o : Oper} {a : Act} {x : V} {op : Operand} (ho : o.op = .nilCheck op) (hx : VRel G x (a.eval op)) {e : Eff} (h : mNil x = some e) : Snd P X G σ w (execOp a.eval o) e := by
  unfold mNil at h
  split at h
  all_goals first
    | (cases h; done)
    | (cases h
       refine Snd.pure hI fun _ => ⟨a.eval op, ?_, hx⟩
       unfold execOp
       rw [ho]
       dsimp only
       generalize a.eval op = r at hx ⊢
       cases hx
       rfl)
def mExtract (x : V) (i : Nat) : Option Eff :=
  match x with
  | .tup vs => some (.val (i < vs.length) (vs.getD i .dead))
  | _ => none
theorem sound_extract (hI : Inv X G σ w) {x : V} {r : Value} {i : Nat} (hx : VRel G x r) {e : Eff} (h : mExtract x i = some e) : Snd P X G σ w (do pure (.value (← Instr.extract r i))) e := by
  unfold mExtract at h
  split at h
  · rename_i vs
    cases h
    cases hx with | tup _ rs hl hr =>
    refine snd_same hI fun hp => ?_
    have h1 : i < rs.size := by rw [hl]; exact hp
    have := hr i _ (List.getElem?_eq_getElem hp)
    exact ⟨rs[i], by simp [Instr.extract, h1], by simpa [hp, h1] using this⟩
  · cases h
def mLen (P : Program) (σ : Hp) (t : TypeId) (x : V) : Option Eff :=
  match x, P.underlying t with
  | .sl _ es _, some (.slice _) => some (.val True (.int .i64 es.length))
  | .bs _ _ len _ _, some (.slice _) => some (.val True (.int .i64 len))
  | .str s, some .string => some (.val True (.int .i64 s.size))
  | .nilm, some (.map _ _) => some (.val True (.int .i64 0))
  | .mp g, some (.map _ _) => match σ.get g with
    | some (.map kv _ _) => some (.val True (.int .i64 kv.length))
    | _ => none
  | _, _ => none
theorem sound_len (hI : Inv X G σ w) {t ty : Nat} {x : V} {r : Value} (hx : VRel G x r) {e : Eff} (h : mLen P σ t x = some e) : Snd P X G σ w (do pure (.value (← Builtin.len_ #[t] ty #[r]))) e := by
  unfold mLen at h
  split at h
  · rename_i hu
    cases h; cases hx
    exact snd_same hI fun _ => ⟨_, by simp [Builtin.len_, run_und hu]; rfl, .int _ _⟩
  · rename_i hu
    cases h; cases hx
    exact snd_same hI fun _ => ⟨_, by simp [Builtin.len_, run_und hu]; rfl, .int _ _⟩
  · rename_i hu
    cases h; cases hx
    exact snd_same hI fun _ => ⟨_, by simp [Builtin.len_, run_und hu]; rfl, .int _ _⟩
  · rename_i hu
    cases h; cases hx
    exact snd_same hI fun _ => ⟨_, by simp [Builtin.len_, run_und hu]; rfl, .int _ _⟩
  · rename_i g k v hu
    split at h
    · rename_i kv st clk hg
      cases h; cases hx with | mp _ b hb =>
      obtain ⟨b', es, h1, h2, h3, h4, h5⟩ := hI.blk g _ hg
      rw [hb] at h1; cases h1
      refine snd_same hI fun _ => ⟨.int .i64 es.size, ?_, by rw [h3.1]; exact .int _ _⟩
      have : (getObj b).run P w = .ok (.map es clk) w := by simp [getObj, Sem.run, h2]
      simp [Builtin.len_, run_und hu, this, goInt]
    · cases h
  · cases h
def mMinMax (mx : Bool) (x y : V) : Option Eff :=
  match x, y with
  | .int k a, .int _ b => some (.val True (.int k (cond mx (if a < b then b else a) (if b < a then b else a))))
  | _, _ => none
theorem sound_max (hI : Inv X G σ w) {ts : Array TypeId} {ty : Nat} {x y : V} {r u : Value} (hx : VRel G x r) (hy : VRel G y u) {e : Eff} (h : mMinMax true x y = some e) : Snd P X G σ w (do pure (.value (← Builtin.max_ ts ty #[r, u]))) e := by
  unfold mMinMax at h
  split at h
  · cases h; cases hx; cases hy
    exact snd_same hI fun _ => ⟨_, by simp [Builtin.max_, Builtin.max2], .int _ _⟩
  · cases h
theorem sound_min (hI : Inv X G σ w) {ts : Array TypeId} {ty : Nat} {x y : V} {r u : Value} (hx : VRel G x r) (hy : VRel G y u) {e : Eff} (h : mMinMax false x y = some e) : Snd P X G σ w (do pure (.value (← Builtin.min_ ts ty #[r, u]))) e := by
  unfold mMinMax at h
  split at h
  · cases h; cases hx; cases hy
    exact snd_same hI fun _ => ⟨_, by simp [Builtin.min_, Builtin.min2], .int _ _⟩
  · cases h
def numV : V → Int
  | .int _ n => n
  | _ => 0
def isU8 : V → Bool
  | .int .u8 _ => true
  | _ => false
/-- Bytes as a string. -/
def strV (es : List V) : ByteArray := ⟨(es.map fun v => UInt8.ofNat (numV v).toNat).toArray⟩
theorem foldl_push (es : List V) (s : ByteArray) : (es.map numV).foldl (fun r n => r.push (UInt8.ofNat n.toNat)) s = ⟨s.data ++ (es.map fun v => UInt8.ofNat (numV v).toNat).toArray⟩ := by
  induction es generalizing s with
  | nil => simp
  | cons e es ih =>
    simp only [List.map_cons, List.foldl_cons, ih]
    congr 1
    apply Array.ext'
    simp [ByteArray.push]
def mConv (P : Program) (src dst : TypeId) (σ : Hp) (x : V) : Option Eff :=
  match P.underlying src, P.underlying dst, x with
  | some (.int _), some (.int k), .int _ n => some (.val True (.int k (k.wrap n)))
  | some .string, some .string, .str s => some (.val True (.str s))
  | some (.slice e), some .string, .str _ => none
  | some (.slice e), some .string, x => match P.underlying e, srcOf σ 1 x with
    | some (.int .u8), some es => some (.val (srcP σ x ∧ es.all isU8 = true) (.str (strV es)))
    | _, _ => none
  | some .string, some (.slice e), .str s => match P.underlying e with
    | some (.int .u8) => some (.val True (.sl 1 (bytesV s) .no))
    | _ => none
  | _, _, _ => none
theorem u8_rows {es : List V} {rs : Array Value} (h : Rows2 G es rs) (hu : es.all isU8 = true) : rs = ((es.map numV).map (Value.int .u8)).toArray := by
  apply Array.ext
  · simp [h.1]
  · intro i h1 h2
    have hlt : i < es.length := by rw [← h.1]; exact h1
    have hr := h.2 i _ (List.getElem?_eq_getElem hlt)
    have h3 := List.all_eq_true.1 hu _ (List.getElem_mem hlt)
    have e1 : rs.getD i undef = rs[i] := by simp [h1]
    rw [e1] at hr
    generalize hv : es[i] = v at hr h3
    generalize rs[i] = q at hr
    simp only [List.map_map, List.getElem_toArray, List.getElem_map, Function.comp, hv]
    cases hr <;> simp [isU8] at h3
    rename_i k n
    cases k <;> simp [isU8] at h3
    rfl
theorem sound_conv (hI : Inv X G σ w) {src dst : Nat} {x : V} {r : Value} (hx : VRel G x r) {e : Eff} (h : mConv P src dst σ x = some e) : Snd P X G σ w (do pure (.value (← convert src dst r))) e := by
  unfold mConv at h
  split at h
  · rename_i h1 h2
    cases h; cases hx
    exact snd_same hI fun _ => ⟨_, by simp [convert, run_und h1, run_und h2, Conv.intToInt], .int _ _⟩
  · rename_i h1 h2
    cases h; cases hx
    exact snd_same hI fun _ => ⟨_, by simp [convert, run_und h1, run_und h2], .str _⟩
  · cases h
  · rename_i el h1 h2 hns
    split at h
    · rename_i es h3 h4
      cases h
      refine snd_same hI fun ⟨p1, p2⟩ => ?_
      obtain ⟨⟨s1, so⟩, s2, rs, s3, s4⟩ := src_ok (P := P) hI hx h4 p1
      have hfl : flat es = es := flat_single s1 fun e he cs hc => by subst hc; have := List.all_eq_true.1 p2 _ he; simp [isU8] at this
      rw [hfl] at s4
      have hrs := u8_rows s4 p2
      subst hrs
      have key : ∀ a len cap, r = .slice a len cap → ∃ r', (convert src dst r).run P w = .ok r' w ∧ VRel G (.str (strV es)) r' := by
        intro a len cap hr
        subst hr
        have hlen : len = es.length := by
          have : (Result.ok len w : Result Nat) = .ok es.length w := s2
          cases this; rfl
        subst hlen
        rw [run_convert_bytes_string w src dst el a _ _ h1 h3 h2]
        cases a with
        | none =>
          have he : es = [] := by
            have : (Result.ok #[] w : Result (Array Value)) = .ok ((es.map numV).map (Value.int .u8)).toArray w := s3
            cases es with
            | nil => rfl
            | cons e es => simp at this
          subst he
          exact ⟨.string .empty, rfl, .str _⟩
        | some a =>
          have h5 : (loadCells a es.length).run P w = .ok ((es.map numV).map (Value.int .u8)).toArray w := by
            have : (loadCells a (es.length * 1)).run P w = .ok ((es.map numV).map (Value.int .u8)).toArray w := s3
            rwa [Nat.mul_one] at this
          rw [run_bytesToString w a es.length cap (es.map numV) h5, foldl_push]
          refine ⟨_, rfl, ?_⟩
          have : (⟨ByteArray.empty.data ++ (es.map fun v => UInt8.ofNat (numV v).toNat).toArray⟩ : ByteArray) = strV es := by
            unfold strV; congr 1; exact Array.empty_append
          rw [this]; exact .str _
      cases hx with
      | sl => exact key _ _ _ rfl
      | bs => exact key _ _ _ rfl
      | str => exact (hns _ rfl).elim
      | _ => simp [srcOf] at h4
    · cases h
  · rename_i el s h1 h2
    split at h
    · rename_i h3
      cases h; cases hx
      refine Snd.val fun _ => ?_
      have hrun := run_bytes_of_string (P := P) w src dst el s h1 h2 h3
      obtain ⟨le, hI'⟩ := hI.drew.alloc_frz (bytesRow s (grownCap w s.size 0 el)) el ((bytesRow s (grownCap w s.size 0 el)).size, (bytesRow s (grownCap w s.size 0 el)).size + 1)
      refine ⟨_, _, _, val_of hrun, le, hI', ?_⟩
      have hl : (bytesV s).length = s.size := by simp [bytesV]
      have hcap := grownCap_ge w s.size 0 el
      have hv := VRel.of_fz (H := G.frz w.heap.size (bytesRow s (grownCap w s.size 0 el)).toList) (n := 1) (es := bytesV s) (b := w.heap.size) (cap := grownCap w s.size 0 el) (rs := s.data.map fun b => Value.int .u8 b.toNat) (l := (bytesRow s (grownCap w s.size 0 el)).toList)
        (if_pos rfl) (fun i r hi hr => by
          simp only [bytesRow, Array.getElem?_toList]
          rw [Array.getElem?_append_left (by simpa using hi)]; exact hr) ⟨by rw [bytesV_flat]; simp [bytesV], fun i c hi => by
          rw [bytesV_flat] at hi
          simp only [bytesV, List.getElem?_map] at hi
          cases hb : s.data.toList[i]? with
          | none => rw [hb] at hi; cases hi
          | some b =>
            rw [hb] at hi; cases hi
            have : s.data[i]? = some b := by simpa using hb
            simp [this]; exact .int _ _⟩ (fun e he => by obtain ⟨b, _, rfl⟩ := List.mem_map.1 he; rfl) (by rw [hl]; exact hcap) (fun e he => by obtain ⟨b, _, rfl⟩ := List.mem_map.1 he; rfl) .no trivial
      rw [hl] at hv; exact hv
    · cases h
  · cases h
end Go.Vm
/- Vm, part 12: copy, made slices, functions as values, interfaces; then any operation that is no call of a Go function. -/
namespace Go.Vm
variable {X : Ext} {G H G0 : Ghost} {σ : Hp} {w : World} {P : Program}
/-- The first so many of a source's bytes. -/
theorem src_pre (hI : Inv X G σ w) {y : V} {u : Value} (hy : VRel G y u) {ys : List V} (h : srcOf σ 1 y = some ys) (hp : srcP σ y) {k : Nat} (hk : k ≤ ys.length) :
    ∃ rs, (Builtin.firstCells 1 k u).run P w = .ok rs w ∧ Rows2 G (flat (ys.take k)) rs := by
  unfold srcOf at h
  split at h
  · rename_i sz es tag
    obtain ⟨a, cap, rfl, hc, ht, hu, ho⟩ := sl_len hy
    cases hq : (Nat.beq sz 1 || es.isEmpty) with
    | false => rw [hq] at h; cases h
    | true =>
      rw [hq] at h; cases h
      have hun := sl_uni hu hq
      cases hy with | sl _ _ _ _ _ rs _ _ hb hr _ _ =>
      rcases hb with hb | ⟨b, off, e, hb⟩
      · subst hb
        have : k = 0 := by simpa using hk
        subst this
        refine ⟨#[], ?_, rfl, (fun i c hi => by simp [flat] at hi)⟩
        cases a <;> simp [Builtin.firstCells, loadCells, loadCellsFrom]
      · subst e
        have h1 := (row_fz hI hb hr).take (k * 1)
        rw [← flat_take hun k hk] at h1
        have hl : (flat (ys.take k)).length = k * 1 := by rw [flat_length (n := 1) (fun e he => hun e (List.mem_of_mem_take he)), List.length_take, Nat.min_eq_left hk]
        exact firstCells_row h1 hl
  · rename_i s
    cases hq : Nat.beq 1 1 with
    | false => rw [hq] at h; cases h
    | true =>
      rw [hq] at h; cases h
      cases hy
      have hl : (bytesV s).length = s.size := by simp [bytesV]
      have hfl : flat ((bytesV s).take k) = (bytesV s).take k := flat_single (fun e he => by obtain ⟨b, _, rfl⟩ := List.mem_map.1 (List.mem_of_mem_take he); rfl) (fun e he cs => by obtain ⟨b, _, rfl⟩ := List.mem_map.1 (List.mem_of_mem_take he); simp)
      rw [hfl]
      have he : (s.extract 0 k).data = s.data.extract 0 k := ByteArray.data_extract
      refine ⟨_, rfl, ?_, fun i c hi => ?_⟩
      · rw [he]; simp [bytesV]
      · rw [List.getElem?_take] at hi
        split at hi
        · rename_i hik
          simp only [bytesV, List.getElem?_map] at hi
          cases hb : s.data.toList[i]? with
          | none => rw [hb] at hi; cases hi
          | some b =>
            rw [hb] at hi; cases hi
            have h1 : s.data[i]? = some b := by simpa using hb
            have h2 : i < s.data.size := (Array.getElem?_eq_some_iff.1 h1).1
            have h3 : (s.data.extract 0 k)[i]? = some b := by
              rw [Array.getElem?_extract]
              rw [if_pos (by omega), Nat.zero_add]; exact h1
            rw [he]
            have h4 : ((s.data.extract 0 k).map fun b => Value.int .u8 b.toNat)[i]? = some (.int .u8 b.toNat) := by rw [Array.getElem?_map, h3]; rfl
            rw [Array.getD_eq_getD_getElem?, h4]; exact .int _ _
        · cases hi
  · rename_i g off len cap sz
    split at h
    · rename_i cs hg
      cases hq : (Nat.beq 1 1 && Nat.beq sz 1) with
      | false => rw [hq] at h; cases h
      | true =>
        rw [hq] at h; cases h
        have p1 := hp cs hg
        cases hy with | bs _ _ _ _ _ a hl hb =>
        have hlen : ((cs.drop off).take len).length = len := by simp; omega
        obtain ⟨_, _, _, _, _, ⟨_, hall⟩, _, _⟩ := hI.blk g _ hg
        have hone : ∀ e ∈ ((cs.drop off).take len).take k, e.cells.length = 1 ∧ ∀ xs, e ≠ .agg xs := fun e he => by
          have := List.all_eq_true.1 hall e (List.mem_of_mem_drop (List.mem_of_mem_take (List.mem_of_mem_take he)))
          cases e <;> first | (simp [V.one] at this; done) | exact ⟨rfl, by simp⟩
        rw [flat_single (fun e he => (hone e he).1) (fun e he => (hone e he).2)]
        obtain ⟨b', hb', hrow⟩ := row_ptr hI hg
        rcases hb with hb | ⟨b, hb, ea⟩
        · have e0 : k = 0 := by omega
          subst e0
          refine ⟨#[], ?_, by simp, (fun i c hi => by simp at hi)⟩
          cases a <;> simp [Builtin.firstCells, loadCells, loadCellsFrom]
        · rw [hb] at hb'; cases hb'
          subst ea
          have h1 := ((hrow.drop off).take len).take k
          rw [Nat.zero_add] at h1
          exact firstCells_row h1 (by rw [List.length_take, hlen]; omega)
    · cases h
  · cases h
def mCopy (P : Program) (σ : Hp) (t : TypeId) (x y : V) : Option Eff :=
  match elemT P t, x with
  | some e, .bs g off len _ sz => match szT P e, σ.get g, srcOf σ 1 y with
    | some n, some (.cells cs), some ys => cond (Nat.beq n 1 && Nat.beq sz 1) (some (.set (srcP σ y ∧ off + len ≤ cs.length ∧ (ys.take len).all V.one = true) g (.cells (putL cs off (ys.take len))) (.int .i64 (min ys.length len : Nat)))) none
    | _, _, _ => none
  | _, _ => none
theorem Rows2.ones {cs : List V} {rs : Array Value} (h : Rows2 G cs rs) (ho : ∀ c ∈ cs, c.one = true) : ∀ v ∈ rs.toList, v.oneCell' = true := fun v hv => by
  obtain ⟨i, hi⟩ := List.getElem?_of_mem hv
  have hlt : i < cs.length := by rw [← h.1]; simpa using (List.getElem?_eq_some_iff.1 hi).1
  have hr := h.2 i _ (List.getElem?_eq_getElem hlt)
  have e1 : rs.getD i undef = v := by
    have : rs[i]? = some v := by simpa using hi
    simp [this]
  rw [e1] at hr
  exact hr.oneCell (ho _ (List.getElem_mem hlt))
theorem sound_copy (hI : Inv X G σ w) {t t2 ty : Nat} {x y : V} {r u : Value} (hx : VRel G x r) (hy : VRel G y u) {e : Eff} (h : mCopy P σ t x y = some e) :
    Snd P X G σ w (do pure (.value (← Builtin.copy_ #[t, t2] ty #[r, u]))) e := by
  unfold mCopy at h
  split at h
  · rename_i el g off len cap sz hel
    have hu := elemT_spec hel
    split at h
    · rename_i n cs ys hn hg hys
      cases hq : (Nat.beq n 1 && Nat.beq sz 1) with
      | false => rw [hq] at h; cases h
      | true =>
        rw [hq] at h; cases h
        rw [Bool.and_eq_true] at hq
        have e1 := Nat.eq_of_beq_eq_true hq.1; subst e1
        have e2 := Nat.eq_of_beq_eq_true hq.2; subst e2
        refine Snd.set fun ⟨p1, p2, p3⟩ => ?_
        obtain ⟨⟨s1, so⟩, s2, _⟩ := src_ok (P := P) hI hy hys p1
        obtain ⟨rs, s3, s4⟩ := src_pre (P := P) hI hy hys p1 (k := min ys.length len) (Nat.min_le_left _ _)
        have htk : ys.take (min ys.length len) = ys.take len := by
          rcases Nat.le_total ys.length len with hh | hh
          · rw [Nat.min_eq_left hh, List.take_length, List.take_of_length_le hh]
          · rw [Nat.min_eq_right hh]
        have hone : ∀ c ∈ ys.take len, c.one = true := fun c hc => List.all_eq_true.1 p3 c hc
        rw [htk, flat_single (fun e he => s1 e (List.mem_of_mem_take he)) (fun e he xs hx => by subst hx; have := hone _ he; simp [V.one] at this)] at s4
        cases hx with | bs _ _ _ _ _ a hlc hb =>
        have hrun : ∀ w', (∀ b : Addr, a = some b → (storeCells b rs.toList).run P w = .ok () w') → (a = none → w' = w) → (Builtin.copy_ #[t, t2] ty #[.slice a len cap, u]).run P w = .ok (.int .i64 (min ys.length len : Nat)) w' := by
          intro w' h1 h2
          unfold Builtin.copy_
          have s3' : (Builtin.firstCells 1 (Nat.min ys.length len) u).run P w = .ok rs w := s3
          simp only [List.getElem?_toArray, List.getElem?_cons_zero, List.getElem?_cons_succ, Sem.run_bind, run_und hu, Result.andThen_ok, s2, run_sz hn, s3']
          cases a with
          | none => rw [h2 rfl]; rfl
          | some b => simp only [h1 b rfl, Sem.run_bind, Result.andThen_ok]; rfl
        obtain ⟨b', rs0, et, q1, q2, q3, q4, q5⟩ := hI.blk g _ hg
        have hrl : rs.toList.length = (ys.take len).length := by rw [Array.length_toList, s4.1]
        have hle : (ys.take len).length ≤ len := List.length_take_le _ _
        rcases hb with hb | ⟨b, hb, ea⟩
        · have e0 : len = 0 := by omega
          subst e0
          have hrs : rs = #[] := Array.eq_empty_of_size_eq_zero (by rw [s4.1]; simp)
          subst hrs
          refine ⟨_, w, G, val_of (hrun w (fun b _ => by simp [storeCells]) (fun _ => rfl)), Ghost.Le.refl _, ?_, .int _ _⟩
          rw [List.take_zero, putL, Hp.set_same hg]; exact hI
        · rw [hb] at q1; cases q1
          subst ea
          obtain ⟨w', z1, z2, z3, z4, z5⟩ := run_storeCells P b' off et rs.toList 0 w rs0 q2 (by rw [Nat.add_zero, hrl, q3.1.1]; omega) (s4.ones hone)
          refine ⟨_, w', G, val_of (hrun w' (fun b2 h2 => by cases h2; exact z1) (fun h0 => by cases h0)), Ghost.Le.refl _, ?_, .int _ _⟩
          refine hI.change hg hb (fun _ _ => by simp) (fun _ _ => by simp) q4 z2 ⟨b', _, et, hb, z3, ⟨?_, one_putL q3.2 p3⟩, q4, q5⟩ z5
          rw [Nat.add_zero]
          exact q3.1.splice off hrl (fun i c hi => by have := s4.2 i c hi; simpa using this)
    · cases h
  · cases h
def mMake (P : Program) (t : TypeId) (x y : V) : Option Eff :=
  match elemT P t, x, y with
  | some e, .int _ l, .int _ c => match szT P e, bytesT P e, zeroT P e with
    | some n, some bytes, some zs => cond (Nat.beq zs.length n && zs.all V.one && Nat.ble 1 bytes && Nat.ble 1 n)
        (some (.new (0 ≤ l ∧ c = l ∧ bytes * l ≤ 140737488355328) (.cells (List.replicate l.toNat zs).flatten) fun g => .bs g 0 l.toNat l.toNat n)) none
    | _, _, _ => none
  | _, _, _ => none
theorem flatten_get {α : Type} (zs : List α) : ∀ (l i : Nat), i < l * zs.length → (List.replicate l zs).flatten[i]? = zs[i % zs.length]?
  | 0, i, h => by simp at h
  | l + 1, i, h => by
    rw [List.replicate_succ, List.flatten_cons]
    by_cases hi : i < zs.length
    · rw [List.getElem?_append_left hi, Nat.mod_eq_of_lt hi]
    · rw [List.getElem?_append_right (by omega), flatten_get zs l (i - zs.length) (by rw [Nat.succ_mul] at h; omega)]
      congr 1
      exact (Nat.mod_eq_sub_mod (by omega)).symm
theorem sound_make (hI : Inv X G σ w) {t : Nat} {x y : V} {r u : Value} (hx : VRel G x r) (hy : VRel G y u) {e : Eff} (h : mMake P t x y = some e) : Snd P X G σ w (do pure (.value (← Instr.makeSlice t r u))) e := by
  unfold mMake at h
  split at h
  · rename_i el k l k' c hel
    have hu := elemT_spec hel
    cases hx; cases hy
    split at h
    · rename_i n bytes zs hn hby hz
      cases hq : (Nat.beq zs.length n && zs.all V.one && Nat.ble 1 bytes && Nat.ble 1 n) with
      | false => rw [hq] at h; cases h
      | true =>
        rw [hq] at h; cases h
        simp only [Bool.and_eq_true] at hq
        obtain ⟨⟨⟨q1, q2⟩, q3⟩, q4⟩ := hq
        have hzl := Nat.eq_of_beq_eq_true q1
        have hb1 := Nat.le_of_ble_eq_true q3
        have hn1 := Nat.le_of_ble_eq_true q4
        refine Snd.new fun ⟨p0, p1, p2⟩ => ?_
        subst p1
        obtain ⟨l, rfl⟩ := Int.eq_ofNat_of_zero_le p0
        obtain ⟨i, hi, hib⟩ : ∃ i, P.info? el = some i ∧ i.bytes = bytes := by
          unfold bytesT at hby
          cases hi : P.info? el with
          | none => simp [hi] at hby
          | some i => simp [hi] at hby; exact ⟨i, rfl, hby⟩
        obtain ⟨z, z1, z2⟩ := zero_run (G := G) hz w
        have hll : (l : Int) ≤ 140737488355328 := by
          have : (l : Int) * 1 ≤ bytes * l := by
            rw [Int.mul_comm]
            exact Int.mul_le_mul_of_nonneg_right (by omega) (by omega)
          omega
        have hw : IntKind.i64.wrap (l : Int) = l := by
          unfold IntKind.wrap; simp [IntKind.bits, IntKind.signed]; omega
        have htl : (decide ((l : Int) < 0) || decide ((i.bytes : Int) * l > 2 ^ 48)) = false := by
          rw [hib]; simp; omega
        obtain ⟨g, g1, g2, g3⟩ := hI.fresh
        have hzsz : z.cells.size = n := z2.1.trans hzl
        let cells : Array Value := (Array.range (l * n)).map fun j => if l * n = 0 then undef else z.cells[j % z.cells.size]!
        have hrows : Rows1 G (List.replicate l zs).flatten ((Array.range (l * n)).map ((if l * n = 0 then #[] else z.cells)[· % (if l * n = 0 then #[] else z.cells).size]!)) := by
          refine ⟨⟨by simp [hzl], fun i c hi' => ?_⟩, ?_⟩
          · have hlt : i < l * zs.length := by simpa using (List.getElem?_eq_some_iff.1 hi').1
            rw [flatten_get zs l i hlt] at hi'
            rw [hzl] at hlt hi'
            have hmod : i % n < n := Nat.mod_lt _ (by omega)
            have h5 := z2.2 (i % n) c hi'
            rw [if_neg (by omega)]
            simpa [hlt, hzsz, hmod] using h5
          · rw [List.all_eq_true]
            intro c hc
            obtain ⟨l', hl', hc'⟩ := List.mem_flatten.1 hc
            rw [List.eq_of_mem_replicate hl'] at hc'
            exact List.all_eq_true.1 q2 c hc'
        obtain ⟨le, hI'⟩ := hI.alloc_cells g1 g2 g3 el hrows
        refine ⟨g, .slice (some ⟨w.heap.size, 0, none⟩) l l, _, _, g3, val_of ?_, le, hI', .bs _ _ _ _ _ _ (Nat.le_refl _) (.inr ⟨w.heap.size, if_pos rfl, rfl⟩)⟩
        unfold Instr.makeSlice
        simp only [Sem.run_bind, run_und hu, Result.andThen_ok, asInt, asIntOf, Sem.run_pure, run_inf hi, hw]
        simp only [htl, Bool.false_or, decide_eq_true_eq, Bool.or_eq_true, Sem.run_ite, run_askRoom, run_sz hn, Int.toNat_natCast]
        rw [if_neg (by simp)]
        (try simp only [Sem.run_bind, run_askRoom, Result.andThen_ok, run_sz hn])
        by_cases e0 : l * n = 0
        · simp only [e0, if_true, Sem.run_pure, Result.andThen_ok, newRow, Sem.run_bind, run_newObj]
          simp
        · simp only [e0, if_false, Sem.run_bind, z1, Sem.run_pure, Result.andThen_ok, newRow, run_newObj]
          simp
    · cases h
  · cases h
end Go.Vm
