/- A small separation logic over the walk of the model: values told by what they hold, owned memory, triples for code, contracts of functions. Part 2. -/
import Derived.Carry
import Derived.Deep.Slices
import Derived.Lib.Strings
import Derived.OpenShut
import Derived.ProofKit
import Derived.ShutString
import Derived.Test.YtcbdjcjbnmjojaaV1
import Derived.WideKeyArgs
set_option linter.unusedSimpArgs false
set_option linter.unusedVariables false
set_option linter.unusedSectionVars false
/- Vm, part 19: steps that the code does not take: freezing, tokens, forgetting. -/
namespace Go.Vm
variable {X : Ext} {G H G0 : Ghost} {σ : Hp} {w : World} {P : Program} {n : Nat} {env : Env} {a : Act} {Q : Exit → Env → Hp → Prop} {c : Code}
theorem W_ghost {env' : Env} {σ' : Hp} (h : ∀ X G w (vs : Nat → Value), Inv X G σ w → (∀ t, VRel G (env.get t) (vs t)) → ∃ G', G.Le G' ∧ Inv X G' σ' w ∧ ∀ t, VRel G' (env'.get t) (vs t)) (hw : W n P c Q env' σ') : W n P c Q env σ :=
  fun X G0 a w ⟨G, h0, hI, hn, hd, hv⟩ => by
    obtain ⟨G', le, hI', hv'⟩ := h X G w (fun t => a.tmps.getD t undef) hI hv
    exact hw X G0 a w ⟨G', h0.trans le, hI', hn, hd, hv'⟩
theorem get_cons_rel {G' : Ghost} {vs : Nat → Value} {t : Nat} {v : V} (le : G.Le G') (hv : ∀ t, VRel G (env.get t) (vs t)) (h : VRel G' v (vs t)) : ∀ s, VRel G' (Env.get ((t, v) :: env) s) (vs s) := fun s => by
  rw [Env.get_cons]
  split
  · subst_vars; exact h
  · exact (hv s).mono le
theorem frz_get {b : Nat} {rs : Array Value} {i : Nat} {c : V} {cs : List V} (hr : Rows2 G cs rs) (hi : cs[i]? = some c) : ((G.frz b rs.toList).fz b)[i]? = some (rs.getD i undef) := by
  have hlt : i < rs.size := by rw [hr.1]; exact (List.getElem?_eq_some_iff.1 hi).1
  show (if b = b then rs.toList else _)[i]? = _
  rw [if_pos rfl]
  simp [hlt]
/-- A variable in memory that is written no more. -/
theorem W_freeze (t : Nat) {g off : Nat} {cs : List V} (ht : env.get t = .ptr g off) (hg : σ.get g = some (.cells cs)) (h : W n P c Q ((t, .pv (cs.drop off)) :: env) (σ.del g)) : W n P c Q env σ := by
  refine W_ghost (fun X G w vs hI hv => ?_) h
  obtain ⟨b, rs, h1, h2, le, hI'⟩ := hI.freeze hg
  refine ⟨_, le, hI', get_cons_rel le hv ?_⟩
  have hr := hv t
  rw [ht] at hr
  generalize vs t = r at hr ⊢
  cases hr with | ptr _ _ b' hb =>
  rw [h1] at hb; cases hb
  have hpv : VRel (G.frz b rs.toList) (.pv cs) (.pointer (some ⟨b, 0, none⟩)) := .pv cs b 0 (fun i => rs.getD i undef) (fun i c hi => by rw [Nat.zero_add]; exact frz_get h2.1 hi) (fun i c hi => (h2.1.2 i c hi).mono le)
  have := hpv.pv_drop off
  rwa [Nat.zero_add] at this
/-- A row that is written no more, as a slice by value. -/
theorem W_freezeS (t : Nat) {g len : Nat} {cs : List V} (ht : env.get t = .bs g 0 len len 1) (hg : σ.get g = some (.cells cs)) (hl : cs.length = len) (h : W n P c Q ((t, .sl 1 cs .full) :: env) (σ.del g)) : W n P c Q env σ := by
  refine W_ghost (fun X G w vs hI hv => ?_) h
  obtain ⟨b, rs, h1, h2, le, hI'⟩ := hI.freeze hg
  refine ⟨_, le, hI', get_cons_rel le hv ?_⟩
  have hr := hv t
  rw [ht] at hr
  generalize vs t = r at hr ⊢
  cases hr with | bs _ _ _ _ _ a hlc hb =>
  have hone : ∀ e ∈ cs, e.one = true := List.all_eq_true.1 h2.2
  have hc1 : ∀ e ∈ cs, e.cells = [e] := fun e he => by have := hone e he; cases e <;> first | rfl | (simp [V.one] at this; done)
  have hfl : flat cs = cs := flat_single (fun e he => by rw [hc1 e he]; rfl) (fun e he xs hx => by subst hx; have := hone _ he; simp [V.one] at this)
  subst hl
  refine .sl 1 cs .full a _ (fun i => rs.getD i undef) (Nat.le_refl _) (fun e he => by rw [hc1 e he]; rfl) ?_ (fun i c hi => by rw [hfl] at hi; exact (h2.1.2 i c hi).mono le) rfl (fun e he => by rw [hc1 e he]; simp [hone e he])
  rcases hb with hb | ⟨b', hb, ea⟩
  · left; exact List.eq_nil_of_length_eq_zero hb
  · right
    rw [h1] at hb; cases hb
    exact ⟨b, 0, ea, fun i c hi => by rw [hfl] at hi; rw [Nat.zero_add]; exact frz_get h2.1 hi⟩
/-- The right to append to what has no room. -/
theorem W_tok (t sz' : Nat) {sz : Nat} (ht : env.get t = .sl sz [] .full) (h : ∀ g, σ.get g = none → W n P c Q ((t, .sl sz' [] (.tk g)) :: env) (σ.set g (.tok sz' 0))) : W n P c Q env σ := fun X G0 a w ⟨G, h0, hI, hn, hd, hv⟩ => by
  obtain ⟨g, g1, g2, g3⟩ := hI.fresh
  obtain ⟨le, hI'⟩ := hI.tok_nil g1 g2 g3 sz'
  refine h g g3 X G0 a w ⟨_, h0.trans le, hI', hn, hd, get_cons_rel (vs := fun t => a.tmps.getD t undef) le hv ?_⟩
  have hr := hv t
  rw [ht] at hr
  generalize a.tmps.getD t undef = r at hr ⊢
  obtain ⟨ad, cap, rfl, hc, htag, hu, ho⟩ := sl_len hr
  have hc0 : cap = 0 := htag
  subst hc0
  exact (hr.mono le).tag (fun e he => by cases he) (.tk g) ⟨0, none, 0, if_pos rfl, Nat.le_refl _, fun _ => ⟨rfl, .inl rfl⟩⟩
/-- A slice of which less is told. -/
theorem W_untag (t : Nat) {sz : Nat} {es : List V} {tag : Tag} (ht : env.get t = .sl sz es tag) (h : W n P c Q ((t, .sl sz es .no) :: env) σ) : W n P c Q env σ := by
  refine W_ghost (fun X G w vs hI hv => ⟨G, Ghost.Le.refl _, hI, get_cons_rel (Ghost.Le.refl _) hv ?_⟩) h
  have hr := hv t
  rw [ht] at hr
  obtain ⟨ad, cap, e, hc, htag, hu, ho⟩ := sl_len hr
  rw [e] at hr ⊢
  exact hr.tag hu .no trivial
theorem W_resz (t sz' : Nat) {sz : Nat} {tag : Tag} (ht : env.get t = .sl sz [] tag) (h : W n P c Q ((t, .sl sz' [] tag) :: env) σ) : W n P c Q env σ := by
  refine W_ghost (fun X G w vs hI hv => ⟨G, Ghost.Le.refl _, hI, get_cons_rel (Ghost.Le.refl _) hv ?_⟩) h
  have hr := hv t
  rw [ht] at hr
  obtain ⟨ad, cap, e, hc, htag, hu, ho⟩ := sl_len hr
  rw [e] at hr ⊢
  exact hr.tag (fun e he => by cases he) tag htag
/-- An environment that tells the same or less. -/
theorem W_env {env' : Env} (he : ∀ t, env'.get t = .dead ∨ env'.get t = env.get t) (h : W n P c Q env' σ) : W n P c Q env σ :=
  fun X G0 a w hs => h X G0 a w (hs.weaken he)
def Sub : Env → Env → Prop
  | [], _ => True
  | (t, v) :: e, env => env.get t = v ∧ Sub e env
theorem Sub.spec : ∀ {e env : Env}, Sub e env → ∀ t, e.get t = .dead ∨ e.get t = env.get t
  | [], _, _, t => .inl rfl
  | (s, v) :: e, env, ⟨h1, h2⟩, t => by
    rw [Env.get_cons]
    split
    · subst_vars; exact .inr rfl
    · exact Sub.spec h2 t
theorem W_to (env' : Env) (he : Sub env' env) (h : W n P c Q env' σ) : W n P c Q env σ := W_env he.spec h
/-- A block's cells told otherwise. -/
theorem Inv.retell (h : Inv X G σ w) {g : Nat} {cs cs' : List V} (hg : σ.get g = some (.cells cs)) (hr : ∀ rs : Array Value, Rows1 G cs rs → Rows1 G cs' rs) : Inv X G (σ.set g (.cells cs')) w := by
  obtain ⟨b, rs, e, h1, h2, h3, h4, h5⟩ := h.blk g _ hg
  exact h.change hg h1 (fun _ _ => by simp) (fun _ _ => by simp) h4 (fun _ _ => rfl) ⟨b, rs, e, h1, h2, hr rs h3, h4, h5⟩
theorem Rows1.retell {cs : List V} {rs : Array Value} (h : Rows1 G cs rs) {i : Nat} {v u : V} (hi : cs[i]? = some v) (hu : u.one = true) (hv : ∀ r, VRel G v r → VRel G u r) : Rows1 G (cs.set i u) rs := by
  refine ⟨⟨by simpa using h.1.1, fun j c hj => ?_⟩, one_set h.2 hu⟩
  rw [List.getElem?_set] at hj
  by_cases e : i = j
  · subst e
    rw [if_pos rfl] at hj
    split at hj
    · cases hj; exact hv _ (h.1.2 i v hi)
    · cases hj
  · rw [if_neg e] at hj; exact h.1.2 j c hj
/-- The right to append to an empty slice that lies in a block. -/
theorem W_tokH (sz' : Nat) {g i sz : Nat} {cs : List V} (hg : σ.get g = some (.cells cs)) (hi : cs[i]? = some (.sl sz [] .full)) (h : ∀ t, σ.get t = none → W n P c Q env ((σ.set t (.tok sz' 0)).set g (.cells (cs.set i (.sl sz' [] (.tk t)))))) : W n P c Q env σ := fun X G0 a w ⟨G, h0, hI, hn, hd, hv⟩ => by
  obtain ⟨t, g1, g2, g3⟩ := hI.fresh
  obtain ⟨le, hI'⟩ := hI.tok_nil g1 g2 g3 sz'
  have hne : g ≠ t := fun e => by subst e; rw [g3] at hg; cases hg
  have hg' : (σ.set t (.tok sz' 0)).get g = some (.cells cs) := by rw [Hp.get_set, if_neg hne]; exact hg
  refine h t g3 X G0 a w ⟨_, h0.trans le, hI'.retell hg' fun rs hr => hr.retell hi rfl fun r hr => ?_, hn, hd, fun s => (hv s).mono le⟩
  obtain ⟨ad, cap, rfl, hc, htag, hu, ho⟩ := sl_len hr
  have hc0 : cap = 0 := htag
  subst hc0
  exact hr.tag (fun e he => by cases he) (.tk t) ⟨0, none, 0, if_pos rfl, Nat.le_refl _, fun _ => ⟨rfl, .inl rfl⟩⟩
/-- A slice in a block of which less is told. -/
theorem W_untagH {g i sz : Nat} {es : List V} {tag : Tag} {cs : List V} (hg : σ.get g = some (.cells cs)) (hi : cs[i]? = some (.sl sz es tag)) (h : W n P c Q env (σ.set g (.cells (cs.set i (.sl sz es .no))))) : W n P c Q env σ := fun X G0 a w ⟨G, h0, hI, hn, hd, hv⟩ => by
  refine h X G0 a w ⟨G, h0, hI.retell hg fun rs hr => hr.retell hi rfl fun r hr => ?_, hn, hd, hv⟩
  obtain ⟨ad, cap, rfl, hc, htag, hu, ho⟩ := sl_len hr
  exact hr.tag hu .no trivial
/-- What is known of a map's stamps. -/
theorem W_map {g : Nat} {kv : List (V × V)} {st : List Nat} {clk : Nat} (hg : σ.get g = some (.map kv st clk)) (h : st.length = kv.length → st.Nodup → (∀ s ∈ st, s < clk) → W n P c Q env σ) : W n P c Q env σ :=
  fun X G0 a w ⟨G, h0, hI, rest⟩ => by
    obtain ⟨b, es, p1, p2, ⟨q1, q2, q3, q4, q5, q6⟩, _⟩ := hI.blk g _ hg
    exact h (by rw [← q3, ← q1]; simp) q5 q4 X G0 a w ⟨G, h0, hI, rest⟩
theorem nextL_nil {m : Nat} {kv : List (V × V)} {st : List Nat} {since clk : Nat} {done left : List ((V × V) × Nat)} (hp : (done ++ left).Perm (kv.zip st)) (hn : st.Nodup) (hl : st.length = kv.length) :
    (nextL m kv st since (done.map (·.2)) clk = [] ↔ left = []) ∧ ∀ y ∈ nextL m kv st since (done.map (·.2)) clk, ∃ e ∈ left, y = (.tup [.bool true, e.1.1, e.1.2], .miter m since (done.map (·.2) ++ [e.2]) clk) := by
  have hz : (kv.zip st).map (·.2) = st := by
    rw [List.map_snd_zip]; omega
  have hnd : ((done ++ left).map (·.2)).Nodup := (hp.map (·.2)).nodup_iff.2 (by rw [hz]; exact hn)
  rw [List.map_append, List.nodup_append] at hnd
  have hmem : ∀ e, e ∈ kv.zip st → (e.2 ∉ done.map (·.2) ↔ e ∈ left) := fun e he => by
    have := hp.mem_iff.2 he
    constructor
    · intro h
      rcases List.mem_append.1 this with h1 | h1
      · exact absurd (List.mem_map.2 ⟨e, h1, rfl⟩) h
      · exact h1
    · intro h h2
      exact hnd.2.2 e.2 h2 e.2 (List.mem_map.2 ⟨e, h, rfl⟩) rfl
  constructor
  · unfold nextL
    rw [List.filterMap_eq_nil_iff]
    constructor
    · intro h
      rcases left with _ | ⟨e, left⟩
      · rfl
      · have he : e ∈ kv.zip st := hp.mem_iff.1 (List.mem_append_right _ (List.mem_cons_self ..))
        have h1 := h e he
        rw [if_neg ((hmem e he).2 (List.mem_cons_self ..))] at h1
        cases h1
    · intro h e he
      subst h
      rw [if_pos]
      have := hp.mem_iff.2 he
      rw [List.append_nil] at this
      exact List.mem_map.2 ⟨e, this, rfl⟩
  · intro y hy
    unfold nextL at hy
    obtain ⟨e, he, h1⟩ := List.mem_filterMap.1 hy
    split at h1
    · cases h1
    · rename_i hno
      cases h1
      exact ⟨e, (hmem e he).1 hno, rfl⟩
theorem cond_split {α : Type} {b : Bool} {x y : α} {K : α → Prop} (h1 : b = true → K x) (h2 : b = false → K y) : K (cond b x y) := by
  cases b
  · exact h2 rfl
  · exact h1 rfl
/-- An empty slice as a row of one's own. -/
theorem W_bs (t g sz' : Nat) {sz : Nat} (ht : env.get t = .sl sz [] .full) (h : W n P c Q ((t, .bs g 0 0 0 sz') :: env) σ) : W n P c Q env σ := by
  refine W_ghost (fun X G w vs hI hv => ⟨G, Ghost.Le.refl _, hI, get_cons_rel (Ghost.Le.refl _) hv ?_⟩) h
  have hr := hv t
  rw [ht] at hr
  obtain ⟨ad, cap, e, hc, htag, hu, ho⟩ := sl_len hr
  rw [e]
  have hc0 : cap = 0 := htag
  subst hc0
  exact .bs g 0 0 0 sz' ad (Nat.le_refl _) (.inl rfl)
theorem W_bsH (g' sz' : Nat) {g i sz : Nat} {cs : List V} (hg : σ.get g = some (.cells cs)) (hi : cs[i]? = some (.sl sz [] .full)) (h : W n P c Q env (σ.set g (.cells (cs.set i (.bs g' 0 0 0 sz'))))) : W n P c Q env σ := fun X G0 a w ⟨G, h0, hI, hn, hd, hv⟩ => by
  refine h X G0 a w ⟨G, h0, hI.retell hg fun rs hr => hr.retell hi rfl fun r hr => ?_, hn, hd, hv⟩
  obtain ⟨ad, cap, rfl, hc, htag, hu, ho⟩ := sl_len hr
  have hc0 : cap = 0 := htag
  subst hc0
  exact .bs g' 0 0 0 sz' ad (Nat.le_refl _) (.inl rfl)
/-- With all that is told behind. -/
theorem W_cutE {x y : Code} (E : Env) (τ : Hp) (h : W n P x (andThen (fun env σ => Sub E env ∧ σ = τ) Q) env σ) (hy : W n P y Q E τ) : W n P (.seq x y) Q env σ :=
  W_cut _ h fun env σ ⟨h1, h2⟩ => by subst h2; exact W_env h1.spec hy
attribute [push_cast] runA step1 outV Out.ap PThen Sub decide_true decide_false Bool.not_true Bool.not_false List.contains
end Go.Vm
/- Vm, part 20: regions in steps that wait: for a new name, for a call, for what a guard comes to. -/
namespace Go.Vm
variable {X : Ext} {G H G0 : Ghost} {σ : Hp} {w : World} {P : Program} {n : Nat} {env : Env} {a : Act} {Q : Exit → Env → Hp → Prop} {c : Code} {K : Env → Hp → Prop} {D : Bool} {L U : List Nat} {ops : Array Oper} {o : Oper}
def NewK (K : Env → Hp → Prop) (dst : Option Tmp) (env : Env) (σ : Hp) (k : Blk) (v : Nat → V) : Prop := ∀ g, σ.get g = none → K (env.put dst (v g)) (σ.set g k)
def AnyK (K : Env → Hp → Prop) (dst : Option Tmp) (env : Env) (σ : Hp) (g : Nat) (l : List (V × Blk)) (d : V × Blk) : Prop := (l = [] → K (env.put dst d.1) (σ.set g d.2)) ∧ ∀ y ∈ l, K (env.put dst y.1) (σ.set g y.2)
def AppK (K : Env → Hp → Prop) (dst : Option Tmp) (env : Env) (σ : Hp) (g m n : Nat) (pre : List V) : Prop :=
  ∀ (g' cap' : Nat) (tl : List V), (g' = g ∨ σ.get g' = none) → m ≤ cap' → tl.length = (cap' - m) * n → K (env.put dst (.bs g' 0 m cap' n)) ((σ.del g).set g' (.cells (pre ++ tl)))
def NilK (K : Env → Hp → Prop) (dst : Option Tmp) (env : Env) (σ : Hp) (q : Bool) (es : List V) : Prop := ∀ b : Bool, (b = q → es = []) → K (env.put dst (.bool b)) σ
def stepE (K : Env → Hp → Prop) (dst : Option Tmp) (env : Env) (σ : Hp) : Eff → Prop
  | .val p v => p ∧ K (env.put dst v) σ
  | .new p k v => p ∧ NewK K dst env σ k v
  | .set p g k v => p ∧ K (env.put dst v) (σ.set g k)
  | .any p g l d => p ∧ AnyK K dst env σ g l d
  | .app p g m n pre => p ∧ AppK K dst env σ g m n pre
theorem stepE_ap {dst : Option Tmp} {e : Eff} (h : stepE K dst env σ e) : e.ap σ fun v σ' => K (env.put dst v) σ' := by
  cases e <;> exact h
def CallK (P : Program) (D : Bool) (U : List Nat) (K : Env → Hp → Prop) (dst : Option Tmp) (env : Env) (σ : Hp) (f : FuncId) (args : List V) : Prop :=
  cond D (cond (memN f U) (PThen P f args fun v => K (env.put dst v) σ) (cond (memN (f + 1000000) U) (∃ r, RSpec P f args σ r ∧ K (env.put dst r) σ) (cond (memN (f + 2000000) U) (∃ Post, Spec P f args σ Post ∧ (∃ v σ', Post v σ') ∧ (∀ v σ', Post v σ' → Keeps σ σ') ∧ ∀ v σ', Post v σ' → K (env.put dst v) σ') (∃ Post, Spec P f args σ Post ∧ (∃ v σ', Post v σ') ∧ ∀ v σ', Post v σ' → K (env.put dst v) σ'))))
    (CallThen P f args σ fun v σ' => K (env.put dst v) σ')
def RunG (P : Program) (D : Bool) (L U : List Nat) (K : Env → Hp → Prop) (o : Oper) (env : Env) (σ : Hp) : Option Bool → Prop
  | none => False
  | some false => K (env.put o.dst (.tup [])) σ
  | some true => match mop P L env σ o with
    | some e => stepE K o.dst env σ e
    | none => match cond D none (nilAsk P env o) with
      | some (q, es) => NilK K o.dst env σ q es
      | none => match callV env o with
        | some (f, args) => CallK P D U K o.dst env σ f args
        | none => False
def run2 (P : Program) (D : Bool) (ops : Array Oper) (L U : List Nat) (n : Nat) (Q : Exit → Env → Hp → Prop) : List Oper → Env → Hp → Prop
  | [], env, σ => Q .normal env σ
  | o :: rest, env, σ => dstOk n o.dst ∧ RunG P D L U (run2 P D ops L U n Q rest) o env σ (wantV ops env o)
/-! soundness -/
theorem run2_sound {ops : Array Oper} {L U : List Nat} {Q : Exit → Env → Hp → Prop} : ∀ (l : List Oper) (env : Env) (σ : Hp), run2 P false ops L U n Q l env σ → WL n P ops l Q env σ := by
  intro l
  induction l with
  | nil => exact fun env σ h X G0 a w hs => ⟨env, σ, h, hs⟩
  | cons o rest ih =>
    intro env σ ⟨hdst, h⟩ X G0 a w ⟨G, h0, hI, hn, hd, hv⟩
    unfold wpList
    cases hw : wantV ops env o with
    | none => rw [hw] at h; exact h.elim
    | some b =>
      rw [hw] at h
      rw [wantV_spec hv hw]
      cases b with
      | false =>
        rw [if_neg (by simp)]
        exact ih _ _ h X G0 _ w (St.put h0 (Ghost.Le.refl _) hI hn hd hv hdst (.tup [] #[] rfl fun i c hi => by cases hi))
      | true =>
        rw [if_pos rfl]
        left
        simp only [RunG] at h
        cases hm : mop P L env σ o with
        | some e =>
          rw [hm] at h
          obtain ⟨nx, r, w', v, σ', G', h1, h2, h3, le, hI', hr⟩ := mop_sound hI hv hm _ (stepE_ap h)
          unfold Oper.wp
          rw [h1]
          have hst := St.put h0 le hI' hn hd hv hdst hr
          rcases h2 with rfl | ⟨rfl, rfl⟩
          · exact ih _ _ h3 X G0 _ w' hst
          · exact ih _ _ h3 X G0 _ w' hst
        | none =>
          rw [hm] at h
          simp only at h
          rw [cond_false] at h
          cases hna : nilAsk P env o with
          | some qe =>
            obtain ⟨q, es⟩ := qe
            rw [hna] at h
            obtain ⟨b, h1, h2⟩ := nilAsk_spec hv hna w
            unfold Oper.wp
            rw [h1]
            exact ih _ _ (h b h2) X G0 _ w (St.put h0 (Ghost.Le.refl _) hI hn hd hv hdst (.bool b))
          | none =>
          rw [hna] at h
          simp only at h
          cases hc : callV env o with
          | none => rw [hc] at h; exact h.elim
          | some fa =>
            obtain ⟨f, args⟩ := fa
            rw [hc] at h
            obtain ⟨Post, ⟨hok, hspec⟩, hK⟩ := h
            obtain ⟨rargs, h1, h2⟩ := callV_spec hv hc hok w
            unfold Oper.wp
            rw [h1]
            show Calls P f rargs w _
            refine (hspec X G rargs w hI h2).mono ?_
            rintro e w' ⟨rv, v, σ', G', rfl, hp, le, hI', hr⟩
            exact ih _ _ (hK v σ' hp) X G0 _ w' (St.put h0 le hI' hn hd hv hdst hr)
theorem run2_draw {ops : Array Oper} {L U : List Nat} {Q : Exit → Env → Hp → Prop} : ∀ (l : List Oper) (env : Env) (σ : Hp), run2 P true ops L U n Q l env σ → runA P ops L U n Q l env σ := by
  intro l
  induction l with
  | nil => exact fun env σ h => h
  | cons o rest ih =>
    intro env σ ⟨hdst, h⟩
    refine ⟨hdst, ?_⟩
    unfold outV
    cases hw : wantV ops env o with
    | none => rw [hw] at h; exact h.elim
    | some b =>
      rw [hw] at h
      cases b with
      | false => exact ih _ _ h
      | true =>
        simp only [RunG] at h
        simp only [cond_true]
        cases hm : mop P L env σ o with
        | some e =>
          rw [hm] at h
          exact Eff.mono (fun v σ' q => ih _ _ q) (stepE_ap h)
        | none =>
          rw [hm] at h
          simp only at h ⊢
          rw [cond_true] at h
          simp only at h
          cases hc : callV env o with
          | none => rw [hc] at h; exact h.elim
          | some fa =>
            obtain ⟨f, args⟩ := fa
            rw [hc] at h
            simp only [CallK, cond_true] at h ⊢
            cases hU : memN f U with
            | true =>
              rw [hU] at h
              obtain ⟨r, h1, h2⟩ := h
              exact ⟨r, h1, ih _ _ h2⟩
            | false =>
              rw [hU] at h
              cases hR : memN (f + 1000000) U with
              | true =>
                rw [hR] at h
                obtain ⟨r, h1, h2⟩ := h
                exact ⟨r, h1, ih _ _ h2⟩
              | false =>
                rw [hR] at h
                cases hKk : memN (f + 2000000) U with
                | true =>
                  rw [hKk] at h
                  obtain ⟨Post, h1, h2, h4, h3⟩ := h
                  exact ⟨Post, h1, h2, h4, fun v σ' q => ih _ _ (h3 v σ' q)⟩
                | false =>
                  rw [hKk] at h
                  obtain ⟨Post, h1, h2, h3⟩ := h
                  exact ⟨Post, h1, h2, fun v σ' q => ih _ _ (h3 v σ' q)⟩
/-- An end that may be told by less. -/
def Qw (Q : Exit → Env → Hp → Prop) : Exit → Env → Hp → Prop := fun e env σ => ∃ env0, (∀ t, env0.get t = .dead ∨ env0.get t = env.get t) ∧ Q e env0 σ
theorem Qw.keep (S : List Nat) {e : Exit} (h : Q e (keep S env) σ) : Qw Q e env σ := ⟨_, get_keep S env, h⟩
theorem Qw.sub (E : Env) {e : Exit} (hs : Sub E env) (h : Q e E σ) : Qw Q e env σ := ⟨E, hs.spec, h⟩
theorem W_weak {c : Code} (h : W n P c (Qw Q) env σ) : W n P c Q env σ := fun X G0 a w hs => wp_mono (h X G0 a w hs) fun e a' w' ⟨env', σ', ⟨env0, h1, h2⟩, s⟩ => ⟨env0, σ', h2, s.weaken h1⟩
theorem W_reg {id : Nat} (h : run2 P false ops L U n (Qw Q) ops.toList env σ) : W n P (.region id ops false) Q env σ := W_weak (W_region (run2_sound _ _ _ h))
theorem W_regD {id : Nat} (hm : P.follows .mixedOrders = true) (hd : drawOk L U ops = true) (h : run2 P true ops L U n (Qw Q) ops.toList env σ) : W n P (.region id ops true) Q env σ := W_weak (W_draw hm hd (run2_draw _ _ _ h))
theorem want_eqv {e e' : Env} (h : Eqv e e') (o : Oper) : wantV ops e o = wantV ops e' o := by
  unfold wantV
  simp only [h _]
theorem nil_eqv {e e' : Env} (h : Eqv e e') (o : Oper) : nilAsk P e o = nilAsk P e' o := by
  have he := ev_eqv h
  unfold nilAsk
  simp only [he]
theorem call_eqv {e e' : Env} (h : Eqv e e') (o : Oper) : callV e o = callV e' o := by
  have he := ev_eqv h
  unfold callV
  simp only [he]
theorem stepE_eqv (hK : Resp K) {dst : Option Tmp} {e e' : Env} (h : Eqv e e') {x : Eff} (hs : stepE K dst e σ x) : stepE K dst e' σ x := by
  cases x with
  | val p v => exact ⟨hs.1, hK _ _ _ (h.put _ _) hs.2⟩
  | new p k v => exact ⟨hs.1, fun g hg => hK _ _ _ (h.put _ _) (hs.2 g hg)⟩
  | set p g k v => exact ⟨hs.1, hK _ _ _ (h.put _ _) hs.2⟩
  | any p g l d => exact ⟨hs.1, fun e => hK _ _ _ (h.put _ _) (hs.2.1 e), fun y hy => hK _ _ _ (h.put _ _) (hs.2.2 y hy)⟩
  | app p g m n pre => exact ⟨hs.1, fun g' c t a b d => hK _ _ _ (h.put _ _) (hs.2 g' c t a b d)⟩
theorem RunG_eqv (hK : Resp K) {e e' : Env} (h : Eqv e e') {b : Option Bool} (hs : RunG P D L U K o e σ b) : RunG P D L U K o e' σ b := by
  cases b with
  | none => exact hs
  | some b =>
    cases b with
    | false => exact hK _ _ _ (h.put _ _) hs
    | true =>
      simp only [RunG] at hs ⊢
      rw [← mop_eqv (ev_eqv h), ← nil_eqv h, ← call_eqv h]
      cases hm : mop P L e σ o with
      | some x => rw [hm] at hs; exact stepE_eqv hK h hs
      | none =>
        rw [hm] at hs
        simp only at hs ⊢
        cases hn : cond D none (nilAsk P e o) with
        | some qe => obtain ⟨q, es⟩ := qe; rw [hn] at hs; exact fun b hb => hK _ _ _ (h.put _ _) (hs b hb)
        | none =>
          rw [hn] at hs
          simp only at hs ⊢
          cases hc : callV e o with
          | none => rw [hc] at hs; exact hs
          | some fa =>
            obtain ⟨f, args⟩ := fa
            rw [hc] at hs
            simp only [CallK] at hs ⊢
            cases D with
            | false =>
              obtain ⟨Post, h1, h2⟩ := hs
              exact ⟨Post, h1, fun v σ' q => hK _ _ _ (h.put _ _) (h2 v σ' q)⟩
            | true =>
              simp only [cond_true] at hs ⊢
              cases hU : memN f U with
              | true =>
                rw [hU] at hs
                obtain ⟨r, h1, h2⟩ := hs
                exact ⟨r, h1, hK _ _ _ (h.put _ _) h2⟩
              | false =>
                rw [hU] at hs
                cases hR : memN (f + 1000000) U with
                | true =>
                  rw [hR] at hs
                  obtain ⟨r, h1, h2⟩ := hs
                  exact ⟨r, h1, hK _ _ _ (h.put _ _) h2⟩
                | false =>
                  rw [hR] at hs
                  cases hKk : memN (f + 2000000) U with
                  | true =>
                    rw [hKk] at hs
                    obtain ⟨Post, h1, h2, h4, h3⟩ := hs
                    exact ⟨Post, h1, h2, h4, fun v σ' q => hK _ _ _ (h.put _ _) (h3 v σ' q)⟩
                  | false =>
                    rw [hKk] at hs
                    obtain ⟨Post, h1, h2, h3⟩ := hs
                    exact ⟨Post, h1, h2, fun v σ' q => hK _ _ _ (h.put _ _) (h3 v σ' q)⟩
theorem run2_resp {Q : Exit → Env → Hp → Prop} (hQ : Resp (Q .normal)) : ∀ l : List Oper, Resp (run2 P D ops L U n Q l)
  | [] => hQ
  | o :: l => fun e e' σ h ⟨h1, h2⟩ => ⟨h1, by rw [← want_eqv h]; exact RunG_eqv (run2_resp hQ l) h h2⟩
theorem Qw_resp : Resp (Qw Q .normal) := fun e e' σ h ⟨env0, h1, h2⟩ => ⟨env0, fun t => by rw [← h t]; exact h1 t, h2⟩
theorem eqv_lit {d : Nat} {v : V} (hd : env.get d = v) : Eqv ((d, v) :: env) env := fun t => by
  rw [Env.get_cons]
  split
  · subst_vars; rfl
  · rfl
/-- What is left of a region: a name that nothing opens. -/
def Kr (P : Program) (D : Bool) (ops : Array Oper) (L U : List Nat) (n : Nat) (Q : Exit → Env → Hp → Prop) (l : List Oper) (env : Env) (σ : Hp) : Prop := run2 P D ops L U n Q l env σ
theorem Kr_nil : Kr P D ops L U n Q [] env σ = Q .normal env σ := rfl
theorem Kr_cons {rest : List Oper} : Kr P D ops L U n Q (o :: rest) env σ = (dstOk n o.dst ∧ RunG P D L U (Kr P D ops L U n Q rest) o env σ (wantV ops env o)) := rfl
/-- What a guard comes to, by cases. -/
theorem guardT (d : Nat) {l : List Oper} {b : Bool} (hd : env.get d = .bool b) (h1 : b = true → RunG P D L U (Kr P D ops L U n (Qw Q) l) o ((d, .bool true) :: env) σ (some true))
    (h2 : b = false → RunG P D L U (Kr P D ops L U n (Qw Q) l) o ((d, .bool false) :: env) σ (some false)) : RunG P D L U (Kr P D ops L U n (Qw Q) l) o env σ (some b) := by
  cases b with
  | true => exact RunG_eqv (run2_resp Qw_resp l) (eqv_lit hd) (h1 rfl)
  | false => exact RunG_eqv (run2_resp Qw_resp l) (eqv_lit hd) (h2 rfl)
theorem guardF (d : Nat) {l : List Oper} {b : Bool} (hd : env.get d = .bool b) (h1 : b = true → RunG P D L U (Kr P D ops L U n (Qw Q) l) o ((d, .bool true) :: env) σ (some false))
    (h2 : b = false → RunG P D L U (Kr P D ops L U n (Qw Q) l) o ((d, .bool false) :: env) σ (some true)) : RunG P D L U (Kr P D ops L U n (Qw Q) l) o env σ (some (!b)) := by
  cases b with
  | true => exact RunG_eqv (run2_resp Qw_resp l) (eqv_lit hd) (h1 rfl)
  | false => exact RunG_eqv (run2_resp Qw_resp l) (eqv_lit hd) (h2 rfl)
/-! calls -/
theorem callP {dst : Option Tmp} {f : FuncId} {args : List V} {r : V} (h : PSpec P f args r) (hU : (!D || memN f U) = true) (hk : K (env.put dst r) σ) : CallK P D U K dst env σ f args := by
  unfold CallK
  cases D with
  | false => exact ⟨_, h.frame σ, fun v σ' ⟨e1, e2⟩ => by subst e1; subst e2; exact hk⟩
  | true =>
    have : memN f U = true := by simpa using hU
    rw [cond_true, this]; exact ⟨r, h, hk⟩
theorem callS {dst : Option Tmp} {f : FuncId} {args : List V} {Post : V → Hp → Prop} (h : Spec P f args σ Post) (hk : ∀ v σ', Post v σ' → K (env.put dst v) σ') : CallK P false U K dst env σ f args := ⟨_, h, hk⟩
theorem callSD {dst : Option Tmp} {f : FuncId} {args : List V} {Post : V → Hp → Prop} (hU : memN f U = false) (hR : memN (f + 1000000) U = false) (h : Spec P f args σ Post) (he : ∃ v σ', Post v σ') (hk : ∀ v σ', Post v σ' → K (env.put dst v) σ') (hN : memN (f + 2000000) U = false := by rfl) : CallK P true U K dst env σ f args := by
  unfold CallK
  rw [cond_true, hU, cond_false, hR, cond_false, hN]; exact ⟨_, h, he, hk⟩
/-- A call that leaves blocks of two cells or more alone. -/
theorem callKD {dst : Option Tmp} {f : FuncId} {args : List V} {Post : V → Hp → Prop} (hU : (!memN f U && !memN (f + 1000000) U && memN (f + 2000000) U) = true) (h : Spec P f args σ Post) (he : ∃ v σ', Post v σ') (hp : ∀ v σ', Post v σ' → Keeps σ σ') (hk : ∀ v σ', Post v σ' → K (env.put dst v) σ') : CallK P true U K dst env σ f args := by
  simp only [Bool.and_eq_true, Bool.not_eq_true'] at hU
  unfold CallK
  rw [cond_true, hU.1.1, cond_false, hU.1.2, cond_false, hU.2]; exact ⟨_, h, he, hp, hk⟩
/-- A call that only reads. -/
theorem callR {dst : Option Tmp} {f : FuncId} {args : List V} {r : V} (h : RSpec P f args σ r) (hU : (!D || (!memN f U && memN (f + 1000000) U)) = true) (hk : K (env.put dst r) σ) : CallK P D U K dst env σ f args := by
  unfold CallK
  cases D with
  | false => exact ⟨_, h σ (fun _ _ x => x), fun v σ' ⟨e1, e2⟩ => by subst e1; subst e2; exact hk⟩
  | true =>
    simp only [Bool.not_true, Bool.false_or, Bool.and_eq_true, Bool.not_eq_true'] at hU
    rw [cond_true, hU.1, cond_false, hU.2]; exact ⟨r, h, hk⟩
/-- A call that leaves the rest as it is. -/
theorem callF {σ₁ τ : Hp} {dst : Option Tmp} {f : FuncId} {args : List V} {Post : V → Hp → Prop} (h : Spec P f args σ₁ Post) (hd : Disj σ₁ τ) (hk : ∀ v σ', Post v σ' → Disj σ' τ → K (env.put dst v) (σ'.join τ)) : CallK P false U K dst env (σ₁.join τ) f args :=
  ⟨_, h.frame τ hd, fun v σ' ⟨τ', h1, h2, h3⟩ => by subst h3; exact hk v τ' h1 h2⟩
/-! what is told of names -/
theorem Hp.set_none {σ : Hp} {g h : Nat} {b : Blk} : (σ.set g b).get h = none ↔ (h = g) = False ∧ (g = h) = False ∧ σ.get h = none := by
  rw [Hp.get_set]
  by_cases e : h = g
  · subst e; simp
  · simp [e, Ne.symm e]
theorem Hp.join_none_iff {σ τ : Hp} {g : Nat} : (σ.join τ).get g = none ↔ σ.get g = none ∧ τ.get g = none := by
  rw [Hp.get_join]
  cases τ.get g <;> simp
theorem Hp.ne_get {σ : Hp} {g d : Nat} {b : Blk} (hd : σ.get d = some b) (hg : σ.get g = none) : (d = g) = False ∧ (g = d) = False := by
  have : d ≠ g := fun e => by subst e; rw [hg] at hd; cases hd
  exact ⟨eq_false this, eq_false (Ne.symm this)⟩
theorem Spec.introH {f : FuncId} {fn : Func} {args : List V} {rs : List ResultVar} {Post : V → Hp → Prop} (hf : P.funcs[f]? = some fn) (hb : fn.body = some c) (hok : okFn P f = true) (hn : fn.ntmps = n) (hrs : fn.results.toList = rs) (hlen : args.length ≤ n)
    (h : W n P c (ends P rs fun v σ' => ∃ τ, HSub τ σ' ∧ Post v τ) (argEnv 0 args) σ) : Spec P f args σ Post := Spec.intro' hf hb hok hn hrs hlen h
theorem HSub.refl (σ : Hp) : HSub σ σ := fun _ _ h => h
theorem HSub.empty (σ : Hp) : HSub Hp.empty σ := fun _ _ h => by cases h
theorem HSub.set {τ σ : Hp} {g : Nat} {b : Blk} (hg : τ.get g = none) (h : HSub τ σ) : HSub τ (σ.set g b) := fun i k x => by
  rw [Hp.get_set, if_neg]
  · exact h i k x
  · rintro rfl; rw [hg] at x; cases x
theorem HSub.del {τ σ : Hp} {g : Nat} (hg : τ.get g = none) (h : HSub τ σ) : HSub τ (σ.del g) := fun i k x => by
  rw [Hp.get_del, if_neg]
  · exact h i k x
  · rintro rfl; rw [hg] at x; cases x
theorem i64w {n : Int} (h1 : -9223372036854775808 ≤ n) (h2 : n ≤ 9223372036854775807) : IntKind.i64.wrap n = n := by rw [IntKind.wrap_i64]; omega
theorem wrap_of {k : IntKind} {n : Int} (h1 : k.min ≤ n) (h2 : n ≤ k.max) : k.wrap n = n := by
  cases k <;> simp only [IntKind.wrap, IntKind.min, IntKind.max, IntKind.signed, IntKind.bits] at * <;> simp at * <;> omega
theorem u8w {n : Int} (h1 : 0 ≤ n) (h2 : n ≤ 255) : IntKind.u8.wrap n = n := wrap_of h1 h2
theorem u16w {n : Int} (h1 : 0 ≤ n) (h2 : n ≤ 65535) : IntKind.u16.wrap n = n := wrap_of h1 h2
theorem u64w {n : Int} (h1 : 0 ≤ n) (h2 : n ≤ 18446744073709551615) : IntKind.u64.wrap n = n := wrap_of h1 h2
theorem i32w {n : Int} (h1 : -2147483648 ≤ n) (h2 : n ≤ 2147483647) : IntKind.i32.wrap n = n := wrap_of h1 h2
theorem u32w {n : Int} (h1 : 0 ≤ n) (h2 : n ≤ 4294967295) : IntKind.u32.wrap n = n := wrap_of h1 h2
/-! code in rows -/
/-- Codes, one behind another. -/
def WS (n : Nat) (P : Program) : List Code → (Exit → Env → Hp → Prop) → Env → Hp → Prop
  | [], Q, env, σ => Q .normal env σ
  | c :: cs, Q, env, σ => W n P c (andThen (WS n P cs Q) Q) env σ
variable {cs : List Code}
theorem WS.start {c : Code} (h : WS n P [c] Q env σ) : W n P c Q env σ := h.mono fun e env σ q => by cases e <;> exact q
theorem WS.seq {x y : Code} (h : WS n P (x :: y :: cs) Q env σ) : WS n P (.seq x y :: cs) Q env σ :=
  W_seq (h.mono fun e env σ q => by cases e <;> exact q)
theorem WS.weak (S : List Nat) : ∀ {cs : List Code} {Q : Exit → Env → Hp → Prop}, WS n P cs (Qw Q) (keep S env) σ → WS n P cs (Qw Q) env σ
  | [], Q, ⟨env0, h1, h2⟩ => ⟨env0, fun t => by
      rcases h1 t with h | h
      · exact .inl h
      · rw [h]; exact get_keep S env t, h2⟩
  | _ :: _, Q, h => W_keep S h
/-- Where nothing follows, nothing may be dropped. -/
def cons : List Code → Bool
  | [] => false
  | _ => true
theorem WS_keep (S : List Nat) (c : Code) (h : WS n P (c :: cs) Q (keep S env) σ) : WS n P (c :: cs) Q env σ := W_keep S h
/-- A region, and what follows. -/
theorem R0 {id : Nat} (h : ∀ K : Env → Hp → Prop, (∀ env σ, WS n P cs Q env σ → K env σ) → Kr P false ops [] [] n (Qw (andThen K Q)) ops.toList env σ) : WS n P (.region id ops false :: cs) Q env σ := W_reg (h _ fun _ _ h => h)
theorem RU (L U : List Nat) {id : Nat} (h : ∀ K : Env → Hp → Prop, (∀ env σ, WS n P cs Q env σ → K env σ) → Kr P false ops L U n (Qw (andThen K Q)) ops.toList env σ) : WS n P (.region id ops false :: cs) Q env σ := W_reg (h _ fun _ _ h => h)
theorem RD (L U : List Nat) {id : Nat} (hm : P.follows .mixedOrders = true) (hd : drawOk L U ops = true) (h : ∀ K : Env → Hp → Prop, (∀ env σ, WS n P cs Q env σ → K env σ) → Kr P true ops L U n (Qw (andThen K Q)) ops.toList env σ) : WS n P (.region id ops true :: cs) Q env σ :=
  W_regD hm hd (h _ fun _ _ h => h)
theorem A1 (S : List Nat) {id d : Nat} {x : Operand} {ty : TypeId} {pos : _} {af : _} (hd : d < n) (h : WS n P cs Q (keep S ((d, ev env x) :: env)) σ) : WS n P (.region id #[⟨some d, .assign x, ty, pos, af, none⟩] false :: cs) Q env σ :=
  W_reg (L := []) (U := []) ⟨hd, trivial, ⟨_, get_keep S _, h⟩⟩
/-- Behind a region: what is kept. -/
theorem Qk {K : Env → Hp → Prop} (hK : ∀ env σ, WS n P cs Q env σ → K env σ) (S : List Nat) (h : WS n P cs Q (keep S env) σ) : Qw (andThen K Q) .normal env σ := Qw.keep S (hK _ _ h)
theorem Qs {K : Env → Hp → Prop} (hK : ∀ env σ, WS n P cs Q env σ → K env σ) (E : Env) (hs : Sub E env) (h : WS n P cs Q E σ) : Qw (andThen K Q) .normal env σ := Qw.sub E hs (hK _ _ h)
theorem CI {c : Operand} {x z : Code} {t : Bool} (hc : ev env c = .bool t) (h1 : t = true → WS n P (x :: cs) Q env σ) (h2 : t = false → WS n P (z :: cs) Q env σ) : WS n P (.cond c x z :: cs) Q env σ := W_if hc h1 h2
theorem CT {c : Operand} {x z : Code} (hc : ev env c = .bool true) (h1 : WS n P (x :: cs) Q env σ) : WS n P (.cond c x z :: cs) Q env σ := W_true hc h1
theorem CF {c : Operand} {x z : Code} (hc : ev env c = .bool false) (h1 : WS n P (z :: cs) Q env σ) : WS n P (.cond c x z :: cs) Q env σ := W_false hc h1
theorem Sk (h : WS n P cs Q env σ) : WS n P (.skip :: cs) Q env σ := W_skip h
theorem Lb {l : Nat} (h : WS n P cs Q env σ) : WS n P (.label l :: cs) Q env σ := W_label h
theorem Rt (h : Q .ret env σ) : WS n P (.ret :: cs) Q env σ := W_ret h
theorem Ex {id : Nat} (h : Q (.exit id) env σ) : WS n P (.exit id :: cs) Q env σ := W_exit h
theorem WS.cutk (S : List Nat) (M : Env → Hp → Prop) {c : Code} (h : ∀ M' : Env → Hp → Prop, (∀ env σ, M (keep S env) σ → M' env σ) → WS n P [c] (andThen M' Q) env σ) (hy : ∀ env σ, M env σ → WS n P cs Q env σ) (hcs : cons cs = true) : WS n P (c :: cs) Q env σ :=
  W.mono (h _ fun _ _ h => h) fun e env σ q => by
    cases e with
    | normal =>
      cases cs with
      | nil => cases hcs
      | cons c cs => exact W_keep S (hy _ _ q)
    | _ => exact q
theorem Bk {id : Nat} {c : Code} (h : ∀ K : Env → Hp → Prop, (∀ env σ, WS n P cs Q env σ → K env σ) → WS n P [c] (inBlk id (andThen K Q)) env σ) : WS n P (.block id c :: cs) Q env σ :=
  W_block ((h _ fun _ _ h => h).start)
theorem Lp {c : Code} (J : Nat → Env → Hp → Prop) (h0 : ∃ m, J m env σ) (round : ∀ m env σ, J m env σ → ∀ M : Env → Hp → Prop, (∀ env' σ', (∃ m', m' < m ∧ J m' env' σ') → M env' σ') → WS n P [c] (andThen M Q) env σ) : WS n P (.loop c :: cs) Q env σ := by
  obtain ⟨m, h0⟩ := h0
  exact W_loop J m h0 fun m env σ hJ => (round m env σ hJ _ fun _ _ h => h).start.mono fun e env σ q => by cases e <;> exact q
theorem introP {f : FuncId} {fn : Func} {c : Code} {args : List V} {rs : List ResultVar} {r : V} (hf : P.funcs[f]? = some fn) (hb : fn.body = some c) (hok : okFn P f = true) (hn : fn.ntmps = n) (hrs : fn.results.toList = rs) (hlen : args.length ≤ n)
    (h : ∀ Q : Exit → Env → Hp → Prop, (∀ e env σ, ends P rs (fun v _ => v = r) e env σ → Q e env σ) → WS n P [c] Q (argEnv 0 args) Hp.empty) : PSpec P f args r :=
  PSpec.intro hf hb hok hn hrs hlen (h _ fun _ _ _ h => h).start
theorem introS {f : FuncId} {fn : Func} {c : Code} {args : List V} {rs : List ResultVar} {Post : V → Hp → Prop} (hf : P.funcs[f]? = some fn) (hb : fn.body = some c) (hok : okFn P f = true) (hn : fn.ntmps = n) (hrs : fn.results.toList = rs) (hlen : args.length ≤ n)
    (h : ∀ Q : Exit → Env → Hp → Prop, (∀ e env σ, ends P rs (fun v σ' => ∃ τ, HSub τ σ' ∧ Post v τ) e env σ → Q e env σ) → WS n P [c] Q (argEnv 0 args) σ) : Spec P f args σ Post :=
  Spec.introH hf hb hok hn hrs hlen (h _ fun _ _ _ h => h).start
theorem Sc {c : Code} (h : WS n P (c :: cs) Q env σ) (hs : ∀ X G0 a w, St X G0 n env σ a w → c.wp P (fun e a' w' => ∃ env' σ', andThen (WS n P cs Q) Q e env' σ' ∧ St X G0 n env' σ' a' w') a w → (Code.scope c).wp P (fun e a' w' => ∃ env' σ', andThen (WS n P cs Q) Q e env' σ' ∧ St X G0 n env' σ' a' w') a w) : WS n P (.scope c :: cs) Q env σ :=
  fun X G0 a w hst => hs X G0 a w hst (h X G0 a w hst)
theorem WSk {M : Env → Hp → Prop} (S : List Nat) (h : M (keep S env) σ) : M (keep S env) σ := h
theorem Ag {M : Env → Hp → Prop} (h : M env σ) : WS n P [] (andThen M Q) env σ := h
/-- What is told at a place, whichever way it was reached. -/
theorem WS.cut (M : Env → Hp → Prop) {c : Code} (h : WS n P [c] (andThen M Q) env σ) (hy : ∀ env σ, M env σ → WS n P cs Q env σ) : WS n P (c :: cs) Q env σ :=
  W.mono h fun e env σ q => by
    cases e with
    | normal => exact hy _ _ q
    | _ => exact q
theorem RunG_no : RunG P D L U K o env σ none = False := rfl
theorem RunG_f : RunG P D L U K o env σ (some false) = K (env.put o.dst (.tup [])) σ := rfl
theorem RunG_t : RunG P D L U K o env σ (some true) = (match mop P L env σ o with
    | some e => stepE K o.dst env σ e
    | none => match cond D none (nilAsk P env o) with
      | some (q, es) => NilK K o.dst env σ q es
      | none => match callV env o with
        | some (f, args) => CallK P D U K o.dst env σ f args
        | none => False) := rfl
theorem stepE_val {dst : Option Tmp} {p : Prop} {v : V} : stepE K dst env σ (.val p v) = (p ∧ K (env.put dst v) σ) := rfl
theorem stepE_new {dst : Option Tmp} {p : Prop} {k : Blk} {v : Nat → V} : stepE K dst env σ (.new p k v) = (p ∧ NewK K dst env σ k v) := rfl
theorem stepE_set {dst : Option Tmp} {p : Prop} {g : Nat} {k : Blk} {v : V} : stepE K dst env σ (.set p g k v) = (p ∧ K (env.put dst v) (σ.set g k)) := rfl
theorem stepE_any {dst : Option Tmp} {p : Prop} {g : Nat} {l : List (V × Blk)} {d : V × Blk} : stepE K dst env σ (.any p g l d) = (p ∧ AnyK K dst env σ g l d) := rfl
theorem stepE_app {dst : Option Tmp} {p : Prop} {g m n : Nat} {pre : List V} : stepE K dst env σ (.app p g m n pre) = (p ∧ AppK K dst env σ g m n pre) := rfl
attribute [push_cast] Kr_nil Kr_cons RunG_no RunG_f RunG_t stepE_val stepE_new stepE_set stepE_any stepE_app decide_eq_true_eq decide_eq_false_iff_not Int.not_lt Int.not_le Nat.not_lt Nat.not_le Bool.and_eq_true Bool.or_eq_true Bool.and_eq_false_iff Bool.or_eq_false_iff Bool.not_eq_true' Bool.not_eq_false' Bool.not_eq_true Bool.not_eq_false beq_iff_eq
end Go.Vm
/- Vm, part 21: small laws for values that are told by lists. -/
namespace Go.Vm
def u8 (b : UInt8) : V := .int .u8 b.toNat
theorem toNat_div (i n : Nat) : ((i : Int) / (no_index (OfNat.ofNat n))).toNat = i / OfNat.ofNat n := by
  show ((i : Int) / ((OfNat.ofNat n : Nat) : Int)).toNat = _
  rw [← Int.natCast_ediv, Int.toNat_natCast]
theorem toNat_mod (i n : Nat) : ((i : Int) % (no_index (OfNat.ofNat n))).toNat = i % OfNat.ofNat n := by
  show ((i : Int) % ((OfNat.ofNat n : Nat) : Int)).toNat = _
  rw [← Int.natCast_emod, Int.toNat_natCast]
theorem toNat_add (i n : Nat) : ((i : Int) + (no_index (OfNat.ofNat n))).toNat = i + OfNat.ofNat n := by
  show ((i : Int) + ((OfNat.ofNat n : Nat) : Int)).toNat = _
  rw [← Int.natCast_add, Int.toNat_natCast]
theorem toNat_mul (i n : Nat) : ((no_index (OfNat.ofNat n)) * (i : Int)).toNat = OfNat.ofNat n * i := by
  show (((OfNat.ofNat n : Nat) : Int) * (i : Int)).toNat = _
  rw [← Int.natCast_mul, Int.toNat_natCast]
theorem getD_map {α : Type} (f : α → V) (l : List α) (i : Nat) (d : α) (h : i < l.length) : (l.map f).getD i .dead = f (l.getD i d) := by simp [h]
theorem getD_mapI {α : Type} [Inhabited α] (f : α → V) (l : List α) (i : Nat) (h : i < l.length) : (l.map f).getD i .dead = f (l.getD i default) := by simp [h]
theorem getD_u8 (l : List UInt8) (i : Nat) (h : i < l.length) : (l.map u8).getD i .dead = .int .u8 (l.getD i 0).toNat := by simp [h, u8]
theorem u8_cells (b : UInt8) : (u8 b).cells = [u8 b] := rfl
theorem u8_lt (b : UInt8) : (b.toNat : Int) ≤ 255 := by have := b.toNat_lt; omega
theorem u8_nat (b : UInt8) : b.toNat ≤ 255 := by have := b.toNat_lt; omega
theorem tdivN {a b : Int} (h : 0 ≤ a) : a.tdiv b = a / b := Int.tdiv_eq_ediv_of_nonneg h
theorem tmodN {a b : Int} (h : 0 ≤ a) : a.tmod b = a % b := Int.tmod_eq_emod_of_nonneg h
attribute [push_cast] tdivN tmodN i64w u8w Int.toNat_natCast toNat_div toNat_mod toNat_add toNat_mul
variable {X : Ext} {P : Program} {n : Nat} {env : Env} {Q : Exit → Env → Hp → Prop} {c : Code} {K : Env → Hp → Prop} {U : List Nat} {σ τ : Hp} {cs : List Code}
/-- A call that leaves the first part as it is. -/
theorem callF2 {dst : Option Tmp} {f : FuncId} {args : List V} {Post : V → Hp → Prop} (h : Spec P f args τ Post) (hd : Disj σ τ) (hk : ∀ v σ', Post v σ' → Disj σ σ' → K (env.put dst v) (σ.join σ')) : CallK P false U K dst env (σ.join τ) f args := by
  have h1 := h.frame σ hd.symm
  rw [← hd.join_comm] at h1
  exact ⟨_, h1, fun v σ' ⟨τ', h1, h2, h3⟩ => by subst h3; rw [h2.join_comm]; exact hk v τ' h1 h2.symm⟩
theorem Hp.set_join (σ : Hp) (g : Nat) (b : Blk) : σ.set g b = σ.join (Hp.empty.set g b) := by
  apply Hp.ext'; intro i; simp only [Hp.get_set, Hp.get_join, Hp.get_empty]; split <;> rfl
theorem Disj.new {g : Nat} {b : Blk} (hg : σ.get g = none) : Disj σ (Hp.empty.set g b) := (Disj.empty σ).set hg b
theorem Disj.set2 {g : Nat} {b : Blk} (h : Disj σ τ) (hg : σ.get g = none) : Disj σ (τ.set g b) := h.set hg b
theorem Disj.setL {g : Nat} {b : Blk} (h : Disj σ τ) (hg : τ.get g = none) : Disj (σ.set g b) τ := (h.symm.set hg b).symm
theorem Disj.upd {g : Nat} {b b' : Blk} (h : Disj σ τ) (hg : τ.get g = some b') : Disj σ (τ.set g b) := h.set (h.symm.get hg) b
theorem join_get2 {g : Nat} {b : Blk} (h : τ.get g = some b) : (σ.join τ).get g = some b := Hp.join_get h
theorem set_set_same {g : Nat} {a b : Blk} : (σ.set g a).set g b = σ.set g b := Hp.set_set σ g a b
theorem ne2 {a b : Nat} (h : a ≠ b) : (a = b) = False ∧ (b = a) = False := ⟨eq_false h, eq_false (Ne.symm h)⟩
/-- A contract from one with less said. -/
theorem Spec.more {P : Program} {f : FuncId} {args : List V} {σ : Hp} {A B : V → Hp → Prop} (h : Spec P f args σ A) (hab : ∀ v σ', A v σ' → B v σ') : Spec P f args σ B := h.mono hab
/-- Of more names than it needs. -/
theorem Spec.sub {P : Program} {f : FuncId} {args : List V} {σ τ : Hp} {A : V → Hp → Prop} (h : Spec P f args τ A) (hs : HSub τ σ) : Spec P f args σ A :=
  ⟨h.1, fun X G rargs w hI hr => h.2 X G rargs w (hI.sub hs) hr⟩
theorem PSpec.any {P : Program} {f : FuncId} {args : List V} {r : V} (h : PSpec P f args r) (σ : Hp) : Spec P f args σ (fun v σ' => v = r ∧ σ' = σ) := h.frame σ
theorem HSub.join_left {σ τ : Hp} (h : Disj σ τ) : HSub σ (σ.join τ) := fun g k x => h.get_left x
theorem HSub.join_right {σ τ : Hp} : HSub τ (σ.join τ) := fun g k x => Hp.join_get x
theorem HSub.trans {a b c : Hp} (h : HSub a b) (k : HSub b c) : HSub a c := fun g x y => k g x (h g x y)
theorem S_freeze (t : Nat) {g off : Nat} {l : List V} (ht : env.get t = .ptr g off) (hg : σ.get g = some (.cells l)) (h : WS n P (c :: cs) Q ((t, .pv (l.drop off)) :: env) (σ.del g)) : WS n P (c :: cs) Q env σ := W_freeze t ht hg h
theorem S_freezeS (t : Nat) {g len : Nat} {l : List V} (ht : env.get t = .bs g 0 len len 1) (hg : σ.get g = some (.cells l)) (hl : l.length = len) (h : WS n P (c :: cs) Q ((t, .sl 1 l .full) :: env) (σ.del g)) : WS n P (c :: cs) Q env σ := W_freezeS t ht hg hl h
theorem S_tok (t sz' : Nat) {sz : Nat} (ht : env.get t = .sl sz [] .full) (h : ∀ g, σ.get g = none → WS n P (c :: cs) Q ((t, .sl sz' [] (.tk g)) :: env) (σ.set g (.tok sz' 0))) : WS n P (c :: cs) Q env σ := W_tok t sz' ht h
theorem S_untag (t : Nat) {sz : Nat} {es : List V} {tag : Tag} (ht : env.get t = .sl sz es tag) (h : WS n P (c :: cs) Q ((t, .sl sz es .no) :: env) σ) : WS n P (c :: cs) Q env σ := W_untag t ht h
theorem S_resz (t sz' : Nat) {sz : Nat} {tag : Tag} (ht : env.get t = .sl sz [] tag) (h : WS n P (c :: cs) Q ((t, .sl sz' [] tag) :: env) σ) : WS n P (c :: cs) Q env σ := W_resz t sz' ht h
theorem S_to (env' : Env) (he : Sub env' env) (h : WS n P (c :: cs) Q env' σ) : WS n P (c :: cs) Q env σ := W_to env' he h
theorem S_tokH (sz' : Nat) {g i sz : Nat} {l : List V} (hg : σ.get g = some (.cells l)) (hi : l[i]? = some (.sl sz [] .full)) (h : ∀ t, σ.get t = none → WS n P (c :: cs) Q env ((σ.set t (.tok sz' 0)).set g (.cells (l.set i (.sl sz' [] (.tk t)))))) : WS n P (c :: cs) Q env σ := W_tokH sz' hg hi h
theorem S_untagH {g i sz : Nat} {es : List V} {tag : Tag} {l : List V} (hg : σ.get g = some (.cells l)) (hi : l[i]? = some (.sl sz es tag)) (h : WS n P (c :: cs) Q env (σ.set g (.cells (l.set i (.sl sz es .no))))) : WS n P (c :: cs) Q env σ := W_untagH hg hi h
theorem S_map {g : Nat} {kv : List (V × V)} {st : List Nat} {clk : Nat} (hg : σ.get g = some (.map kv st clk)) (h : st.length = kv.length → st.Nodup → (∀ s ∈ st, s < clk) → WS n P (c :: cs) Q env σ) : WS n P (c :: cs) Q env σ := W_map hg h
theorem S_bs (t g sz' : Nat) {sz : Nat} (ht : env.get t = .sl sz [] .full) (h : WS n P (c :: cs) Q ((t, .bs g 0 0 0 sz') :: env) σ) : WS n P (c :: cs) Q env σ := W_bs t g sz' ht h
theorem S_bsH (g' sz' : Nat) {g i sz : Nat} {l : List V} (hg : σ.get g = some (.cells l)) (hi : l[i]? = some (.sl sz [] .full)) (h : WS n P (c :: cs) Q env (σ.set g (.cells (l.set i (.bs g' 0 0 0 sz'))))) : WS n P (c :: cs) Q env σ := W_bsH g' sz' hg hi h
theorem S_sub {τ : Hp} (hs : HSub τ σ) (h : WS n P (c :: cs) Q env τ) : WS n P (c :: cs) Q env σ := W_sub hs h
theorem AnyK.go {dst : Option Tmp} {g m : Nat} {kv : List (V × V)} {st : List Nat} {since clk : Nat} {dn lf : List ((V × V) × Nat)} (hp : (dn ++ lf).Perm (kv.zip st)) (hn : st.Nodup) (hl : st.length = kv.length)
    (h1 : lf = [] → K (env.put dst (.tup [.bool false])) (σ.set g (.miter m since (dn.map (·.2)) clk)))
    (h2 : ∀ e ∈ lf, K (env.put dst (.tup [.bool true, e.1.1, e.1.2])) (σ.set g (.miter m since (dn.map (·.2) ++ [e.2]) clk))) :
    AnyK K dst env σ g (nextL m kv st since (dn.map (·.2)) clk) (.tup [.bool false], .miter m since (dn.map (·.2)) clk) := by
  obtain ⟨a1, a2⟩ := nextL_nil (m := m) (since := since) (clk := clk) hp hn hl
  refine ⟨fun e => h1 (a1.1 e), fun y hy => ?_⟩
  obtain ⟨e, he, rfl⟩ := a2 y hy
  exact h2 e he
theorem S_frz (t : Nat) {g : Nat} {l : List V} (ht : env.get t = .ptr g 0) (hg : σ.get g = none) (h : WS n P (c :: cs) Q ((t, .pv l) :: env) σ) : WS n P (c :: cs) Q env (σ.set g (.cells l)) := by
  refine S_freeze t ht (Hp.get_set_same _ _ _) ?_
  have e : (σ.set g (.cells l)).del g = σ := by
    apply Hp.ext'; intro i; simp only [Hp.get_del, Hp.get_set]
    by_cases e : i = g
    · subst e; simp [hg]
    · simp [e]
  rw [e, List.drop_zero]; exact h
theorem PSpec.R {f : FuncId} {args : List V} {r : V} (h : PSpec P f args r) (σ : Hp) : RSpec P f args σ r := fun τ _ => h.frame τ
theorem RSpec.sub {f : FuncId} {args : List V} {r : V} (h : RSpec P f args τ r) (hs : HSub τ σ) : RSpec P f args σ r := fun υ hu => h υ (fun g k x => hu g k (hs g k x))
theorem W_row (f : Hp → Hp) (h : ∀ σ, HSub (f σ) σ) (hw : WS n P cs Q env (f σ)) (hcs : ∃ c l, cs = c :: l) : WS n P cs Q env σ := by
  obtain ⟨c, l, rfl⟩ := hcs
  exact W_sub (h σ) hw
end Go.Vm
/- Vm, part 22: rows of one's own whose elements have several cells. -/
namespace Go.Vm
variable {α : Type} [Inhabited α] (f : α → V) (k : Nat) (hk : ∀ x, (f x).cells.length = k)
include hk
theorem rows_len (L : List α) : (flat (L.map f)).length = L.length * k := by
  induction L with
  | nil => simp [flat]
  | cons x L ih => rw [List.map_cons, flat_cons, List.length_append, ih, hk, List.length_cons, Nat.succ_mul, Nat.add_comm]
theorem rows_drop (tl : List V) : ∀ (L : List α) (i : Nat), i ≤ L.length → (flat (L.map f) ++ tl).drop (i * k) = flat ((L.drop i).map f) ++ tl
  | L, 0, _ => by simp
  | [], i + 1, h => by simp at h
  | x :: L, i + 1, h => by
    rw [List.map_cons, flat_cons, List.append_assoc, Nat.succ_mul, Nat.add_comm, ← List.drop_drop, List.drop_append_of_le_length (by rw [hk]; omega)]
    have e : (f x).cells.drop k = [] := List.drop_eq_nil_of_le (by rw [hk]; omega)
    rw [e, List.nil_append]
    exact rows_drop tl L i (by simpa using h)
theorem rows_head (tl : List V) (L : List α) (i : Nat) (hi : i < L.length) : (flat (L.map f) ++ tl).drop (i * k) = (f (L.getD i default)).cells ++ (flat ((L.drop (i + 1)).map f) ++ tl) := by
  rw [rows_drop f k hk tl L i (by omega), List.drop_eq_getElem_cons hi, List.map_cons, flat_cons, List.append_assoc]
  simp [hi]
theorem rows_sub (tl : List V) (L : List α) (i : Nat) (hi : i < L.length) : ((flat (L.map f) ++ tl).drop (i * k)).take k = (f (L.getD i default)).cells := by
  rw [rows_head f k hk tl L i hi, List.take_append_of_le_length (by rw [hk]; omega), List.take_of_length_le (by rw [hk]; omega)]
theorem rows_get (tl : List V) (L : List α) (i j : Nat) (hi : i < L.length) (hj : j < k) : (flat (L.map f) ++ tl).getD (i * k + j) .dead = (f (L.getD i default)).cells.getD j .dead := by
  have h1 : (flat (L.map f) ++ tl).getD (i * k + j) .dead = ((flat (L.map f) ++ tl).drop (i * k)).getD j .dead := by simp [List.getD_eq_getElem?_getD]
  rw [h1, rows_head f k hk tl L i hi]
  have : j < (f (L.getD i default)).cells.length := by rw [hk]; exact hj
  rw [List.getD_eq_getElem?_getD, List.getElem?_append_left this]
  simp [List.getD_eq_getElem?_getD]
theorem rows_set (tl : List V) (L : List α) (i j : Nat) (y : α) (v : V) (hi : i < L.length) (hj : j < k) (hy : (f y).cells = (f (L.getD i default)).cells.set j v) : (flat (L.map f) ++ tl).set (i * k + j) v = flat ((L.set i y).map f) ++ tl := by
  induction L generalizing i with
  | nil => simp at hi
  | cons x L ih =>
    cases i with
    | zero =>
      simp only [Nat.zero_mul, Nat.zero_add, List.getD_cons_zero] at hy ⊢
      rw [List.map_cons, flat_cons, List.append_assoc, List.set_append_left _ _ (by rw [hk]; exact hj), ← hy]
      simp [flat_cons]
    | succ i =>
      rw [List.map_cons, flat_cons, List.append_assoc, List.set_append_right _ _ (by rw [hk, Nat.succ_mul]; omega)]
      have e : (i + 1) * k + j - (f x).cells.length = i * k + j := by rw [hk, Nat.succ_mul]; omega
      rw [e, ih i (by simpa using hi) (by simpa using hy)]
      simp [flat_cons]
omit hk [Inhabited α] in
theorem cellsAt_get {σ : Hp} {g : Nat} {cs : List V} (h : σ.get g = some (.cells cs)) : cellsAt σ g = cs := by rw [cellsAt, h]
omit hk [Inhabited α] in
theorem getD_lt {β : Type} (l : List β) (i : Nat) (d : β) (h : i < l.length) : l.getD i d = l[i] := by simp [h]
omit hk [Inhabited α] in
theorem getD_mem {β : Type} (l : List β) (i : Nat) (d : β) (h : i < l.length) : l.getD i d ∈ l := by simp [h]
omit hk [Inhabited α] in
theorem rows_len' {α : Type} (f : α → V) (k : Nat) (hk : ∀ x, (f x).cells.length = k) (L : List α) : (flat (L.map f)).length = L.length * k := by
  induction L with
  | nil => simp [flat]
  | cons x L ih => rw [List.map_cons, flat_cons, List.length_append, ih, hk, List.length_cons, Nat.succ_mul, Nat.add_comm]
omit hk [Inhabited α] in
theorem rows_get' {α : Type} (f : α → V) (k : Nat) (hk : ∀ x, (f x).cells.length = k) : ∀ (L : List α) (i j : Nat) (a : α), L[i]? = some a → j < k → (flat (L.map f))[i * k + j]? = (f a).cells[j]?
  | [], i, j, a, h, _ => by simp at h
  | x :: L, 0, j, a, h, hj => by
    simp only [List.getElem?_cons_zero, Option.some.injEq] at h
    subst h
    rw [List.map_cons, flat_cons, Nat.zero_mul, Nat.zero_add, List.getElem?_append_left (by rw [hk]; exact hj)]
  | x :: L, i + 1, j, a, h, hj => by
    rw [List.map_cons, flat_cons, List.getElem?_append_right (by rw [hk, Nat.succ_mul]; omega)]
    have e : (i + 1) * k + j - (f x).cells.length = i * k + j := by rw [hk, Nat.succ_mul]; omega
    rw [e]
    exact rows_get' f k hk L i j a (by simpa using h) hj
end Go.Vm
/- Vm, part 23: what comes in: the row's reading of an argument gives a value that is told. -/
namespace Go.Vm
open Go.RowKit Go.Deep
/-- A world as ghosts: all that lies is frozen. -/
def wfz (W : World) (b : Nat) : List Value := match W.heap[b]? with
  | some (.cells rs _ _) => rs.toList
  | _ => []
def wG (W : World) : Ghost := ⟨wfz W, fun _ => none, fun _ => none⟩
def wX (W : World) : Ext := ⟨fun b => (W.heap[b]?).map (·, wfz W b), fun _ => none, W.os, W.output⟩
theorem wfz_cell {W : World} {b i : Nat} {c : Value} : (wfz W b)[i]? = some c ↔ W.cell? ⟨b, i, none⟩ = some c := by
  unfold wfz World.cell?
  cases h : W.heap[b]? with
  | none => simp
  | some o => cases o <;> simp
theorem wInv (W : World) : Inv (wX W) (wG W) Hp.empty W := by
  refine ⟨fun b i c h => wfz_cell.1 h, fun b o l h => ?_, fun g x h => (by cases h), fun g k h => (by cases h), fun g h b k k' x => (by cases x), ⟨0, fun g _ => ⟨rfl, rfl⟩⟩, rfl, rfl⟩
  simp only [wX] at h
  cases hh : W.heap[b]? with
  | none => rw [hh] at h; cases h
  | some o' => rw [hh] at h; cases h; exact ⟨rfl, rfl⟩
/-- What stays, behind all. -/
theorem wKept {W w' : World} {G : Ghost} {σ : Hp} (h : Inv (wX W) G σ w') : (∀ k, k < W.heap.size → w'.heap[k]? = W.heap[k]?) ∧ w'.os = W.os ∧ w'.output = W.output :=
  ⟨fun k hk => by
    have hx : (wX W).b k = some (W.heap[k], wfz W k) := by simp [wX, hk]
    rw [(h.ext k _ _ hx).1]; simp [hk], h.eo.1, h.eo.2⟩
/-- Cells that are told. -/
def CR (W : World) (vs : List V) (cs : List Value) : Prop := cs.length = vs.length ∧ vs.all V.one = true ∧ ∀ i c, vs[i]? = some c → VRel (wG W) c (cs.getD i undef)
def OpF {α : Type} (P : Program) (t : TypeId) (e : α → V) (good : α → Prop) (fuel : Nat) : Prop :=
  ∀ (H : Type) (enc : TypeId × Value → H) (W : World) (base : Nat) (spare : Nat → Bool) (held : Bool) (cs : List Value) (x : DataW H) (ps : List MemPlace),
    DataW.trod enc P W base spare held fuel t cs = some (x, ps) → (DataW.weights P t x).all (· ≤ reachBytes) = true → ∃ a : α, CR W (e a).cells cs ∧ good a
def Op1 {α : Type} (P : Program) (t : TypeId) (e : α → V) (good : α → Prop) : Prop := ∀ fuel, OpF P t e good fuel
theorem CR.one {W : World} {v : V} {r : Value} (h1 : v.one = true) (h : VRel (wG W) v r) : CR W v.cells [r] := by
  have hc : v.cells = [v] := by cases v <;> first | rfl | (simp [V.one] at h1; done)
  rw [hc]
  refine ⟨rfl, by simp [h1], fun i c hi => ?_⟩
  cases i with
  | zero => cases hi; exact h
  | succ i => cases hi
section
variable {P : Program} {t : TypeId}
theorem op_int {k : IntKind} (ht : P.underlying t = some (.int k)) : Op1 P t (fun n : Int => .int k n) (fun x => (Lit.int k x).wf = true) := by
  intro fuel H enc W base spare held cs x ps h _
  obtain ⟨n, rfl, hx, hw⟩ := DataW.trod_int ht h
  exact ⟨n, .one rfl (.int _ _), hw⟩
theorem op_bool (ht : P.underlying t = some .bool) : Op1 P t V.bool (fun _ => True) := by
  intro fuel H enc W base spare held cs x ps h _
  obtain ⟨b, rfl, hx⟩ := DataW.trod_bool ht h
  exact ⟨b, .one rfl (.bool _), trivial⟩
theorem op_string (ht : P.underlying t = some .string) : Op1 P t V.str (fun s => s.size ≤ 140737488351232) := by
  intro fuel H enc W base spare held cs x ps h hw
  obtain ⟨s, rfl, hx, _⟩ := DataW.trod_string ht h
  simp only [Prod.mk.injEq] at hx
  obtain ⟨rfl, rfl⟩ := hx
  refine ⟨s, .one rfl (.str _), ?_⟩
  simp only [DataW.weights, List.all_cons, List.all_nil, Bool.and_true, decide_eq_true_eq] at hw
  rw [Array.length_toList] at hw
  exact hw
theorem Op1.map {α β : Type} {e : α → V} {good : α → Prop} (h : Op1 P t e good) (f : α → β) (e' : β → V) (good' : β → Prop) (he : ∀ a, good a → e' (f a) = e a) (hg : ∀ a, good a → good' (f a)) : Op1 P t e' good' := by
  intro fuel H enc W base spare held cs x ps hx hw
  obtain ⟨a, h1, h2⟩ := h fuel H enc W base spare held cs x ps hx hw
  exact ⟨f a, by rw [he a h2]; exact h1, hg a h2⟩
theorem op_byte (ht : P.underlying t = some (.int .u8)) : Op1 P t u8 (fun _ => True) :=
  (op_int ht).map (fun n => UInt8.ofNat n.toNat) _ _ (fun n hn => by
    simp [Lit.wf, IntKind.min, IntKind.max, IntKind.signed, IntKind.bits] at hn
    unfold u8
    congr 1
    simp only [UInt8.toNat_ofNat']
    omega) fun _ _ => trivial
theorem weightsAll_mem {H : Type} {e : TypeId} : ∀ (l : List (DataW H)), (DataW.weightsAll P e l).all (· ≤ reachBytes) = true → ∀ x ∈ l, (DataW.weights P e x).all (· ≤ reachBytes) = true := by
  intro l
  induction l with
  | nil => intro _ x hx; cases hx
  | cons d l ih =>
    intro h x hx
    simp only [DataW.weightsAll, List.all_append, Bool.and_eq_true] at h
    rcases List.mem_cons.1 hx with rfl | hx
    · exact h.1
    · exact ih h.2 x hx
theorem cell_spot {W : World} {a : Addr} {c : Value} (h : W.cell? a = some c) : a = ⟨a.block, a.off, none⟩ := by
  obtain ⟨b, o, s⟩ := a
  unfold World.cell? at h
  cases s with
  | none => rfl
  | some s =>
    cases hh : W.heap[b]? with
    | none => simp [hh] at h
    | some ob => cases ob <;> simp [hh] at h
theorem op_slice {α : Type} (z0 : α) {e : TypeId} {f : α → V} {good : α → Prop} (b sz : Nat) (ht : P.underlying t = some (.slice e)) (hs : P.cellsOf e = sz + 1) (hb : P.bytesOf e = b) (hf : ∀ a, (f a).cells.length = sz + 1) (he : ∀ fuel, OpF P e f good fuel) :
    Op1 P t (fun l : List α => .sl (sz + 1) (l.map f) .no) (fun xs => xs.length ≤ 9223372036854775807 ∧ xs.length * b ≤ 140737488351232 ∧ ∀ x ∈ xs, good x) := by
  intro fuel H enc W base spare held cs x ps h hw
  rcases open_slice ht h with ⟨rfl, hx⟩ | ⟨a, len, cap, m, n, D, Pl, rfl, hba, hl, hm, hmm, hx, hel⟩
  · exact ⟨[], .one rfl (.sl _ _ _ _ _ (fun _ => undef) (Nat.zero_le _) (fun e he => by cases he) (.inl rfl) (fun i c hi => by cases hi) trivial (fun e he => by cases he)), by simp⟩
  · simp only [Prod.mk.injEq] at hx
    obtain ⟨rfl, rfl⟩ := hx
    simp only [DataW.weights, ht, List.all_cons, List.all_append, Bool.and_eq_true, decide_eq_true_eq] at hw
    obtain ⟨hw0, hw1, hw2⟩ := hw
    have hmn : len ≤ m := by rw [hmm]; split <;> omega
    have key : ∀ i, i < len → ∃ a' : α, ∃ c, W.cells? base (a.add (i * P.cellsOf e)) (P.cellsOf e) = some c ∧ CR W (f a').cells c ∧ good a' := by
      intro i hi
      obtain ⟨c, h1, h2⟩ := hel i (by omega)
      obtain ⟨a', h3, h4⟩ := he n H enc W base spare held c (D i) (Pl i) h2 (weightsAll_mem _ hw1 (D i) (List.mem_map.2 ⟨i, by simpa using hi, rfl⟩))
      exact ⟨a', c, h1, h3, h4⟩
    let L : List α := (List.range len).map fun i => if h : i < len then (key i h).choose else z0
    have hL : L.length = len := by simp [L]
    have hLi : ∀ i (h : i < len), L[i]? = some (key i h).choose := fun i h => by simp [L, h]
    refine ⟨L, .one rfl ?_, ?_⟩
    · have hcell : ∀ i (h : i < len) (j : Nat), j < sz + 1 → ∃ c, W.cell? (a.add (i * (sz + 1) + j)) = some c ∧ ∀ v, (f (key i h).choose).cells[j]? = some v → VRel (wG W) v c := fun i h j hj => by
        obtain ⟨c, h1, h2, _⟩ := (key i h).choose_spec
        obtain ⟨_, h3, h4⟩ := World.cells?_some h1
        have hjc : j < c.length := by rw [h3, hs]; exact hj
        have h5 := h4 j (by rw [hs]; exact hj)
        rw [List.getElem?_eq_getElem hjc] at h5
        refine ⟨c[j], ?_, fun v hv => ?_⟩
        · rw [← h5, hs]
          congr 1
          unfold Addr.add
          by_cases e1 : i * (sz + 1) = 0
          · simp [e1]
          · by_cases e2 : j = 0
            · simp [e2]
            · have : i * (sz + 1) + j ≠ 0 := by omega
              simp [e1, e2, this, Nat.add_assoc]
        · have := h2.2.2 j v hv
          rw [List.getD_eq_getElem?_getD, List.getElem?_eq_getElem hjc] at this
          exact this
      have hone : ∀ v ∈ L.map f, v.cells.length = sz + 1 := fun v hv => by obtain ⟨y, _, rfl⟩ := List.mem_map.1 hv; exact hf y
      have hall : ∀ v ∈ L.map f, v.cells.all V.one = true := fun v hv => by
        obtain ⟨y, hy, rfl⟩ := List.mem_map.1 hv
        obtain ⟨i, hi⟩ := List.getElem?_of_mem hy
        have hlt : i < len := by rw [← hL]; exact (List.getElem?_eq_some_iff.1 hi).1
        rw [hLi i hlt] at hi; cases hi
        exact (key i hlt).choose_spec.choose_spec.2.1.2.1
      have hget : ∀ k c, (flat (L.map f))[k]? = some c → ∃ i, ∃ h : i < len, ∃ j, j < sz + 1 ∧ k = i * (sz + 1) + j ∧ (f (key i h).choose).cells[j]? = some c := fun k c hk => by
        have hlen : (flat (L.map f)).length = len * (sz + 1) := by rw [← hL]; exact rows_len' f (sz + 1) hf L
        have hk' : k < len * (sz + 1) := by rw [← hlen]; exact (List.getElem?_eq_some_iff.1 hk).1
        have hi : k / (sz + 1) < len := (Nat.div_lt_iff_lt_mul (by omega)).2 hk'
        have hj : k % (sz + 1) < sz + 1 := Nat.mod_lt _ (by omega)
        have e : k = k / (sz + 1) * (sz + 1) + k % (sz + 1) := by rw [Nat.mul_comm]; exact (Nat.div_add_mod _ _).symm
        refine ⟨k / (sz + 1), hi, k % (sz + 1), hj, e, ?_⟩
        rw [e] at hk
        have h2 := rows_get' f (sz + 1) hf L (k / (sz + 1)) (k % (sz + 1)) (key _ hi).choose (hLi _ hi) hj
        rw [← h2]; exact hk
      let rs : Nat → Value := fun k => (W.cell? (a.add k)).getD undef
      rcases Nat.eq_zero_or_pos len with h0 | hpos
      · have hnil : L = [] := List.eq_nil_of_length_eq_zero (by omega)
        have : VRel (wG W) (.sl (sz + 1) (L.map f) .no) (.slice (some a) (L.map f).length cap) :=
          .sl _ _ _ _ _ rs (by simp; omega) hone (.inl (by simp [hnil])) (fun i c hi => by rw [hnil] at hi; cases hi) trivial hall
        rwa [List.length_map, hL] at this
      · have hsp : a = ⟨a.block, a.off, none⟩ := by
          obtain ⟨c, h1, _⟩ := hcell 0 hpos 0 (by omega)
          exact cell_spot (by simpa [Addr.add] using h1)
        have hadd : ∀ k, a.add k = ⟨a.block, a.off + k, none⟩ := fun k => by
          rw [hsp]; unfold Addr.add
          by_cases e : k = 0
          · simp [e]
          · simp [e]
        have hrs : ∀ k c, (flat (L.map f))[k]? = some c → (wfz W a.block)[a.off + k]? = some (rs k) ∧ VRel (wG W) c (rs k) := fun k c hk => by
          obtain ⟨i, hi, j, hj, rfl, hv⟩ := hget k c hk
          obtain ⟨u, h1, h2⟩ := hcell i hi j hj
          have hr : rs (i * (sz + 1) + j) = u := by simp only [rs, h1, Option.getD_some]
          rw [hr]
          rw [hadd] at h1
          exact ⟨wfz_cell.2 h1, h2 c hv⟩
        have : VRel (wG W) (.sl (sz + 1) (L.map f) .no) (.slice (some a) (L.map f).length cap) :=
          .sl _ _ _ _ _ rs (by simp; omega) hone (.inr ⟨a.block, a.off, by rw [← hsp], fun k c hk => (hrs k c hk).1⟩) (fun k c hk => (hrs k c hk).2) trivial hall
        rwa [List.length_map, hL] at this
    · refine ⟨by have : maxLen = 9223372036854775807 := rfl; omega, ?_, ?_⟩
      · simp only [List.length_map, List.length_range] at hw0
        rw [hb] at hw0
        have h1 : len * b ≤ (len + (m - len)) * b := Nat.mul_le_mul_right _ (by omega)
        have : reachBytes = 140737488351232 := rfl
        rw [hL]; omega
      · intro y hy
        obtain ⟨i, hi, rfl⟩ := List.mem_map.1 hy
        simp only [List.mem_range] at hi
        rw [dif_pos hi]
        obtain ⟨_, _, _, h3⟩ := (key i hi).choose_spec
        exact h3
/-! ### structs: their fields, one behind the other -/
theorem CR.append {W : World} {a b : List V} {x y : List Value} (h : CR W a x) (k : CR W b y) : CR W (a ++ b) (x ++ y) := by
  refine ⟨by rw [List.length_append, List.length_append, h.1, k.1], by rw [List.all_append, h.2.1, k.2.1]; rfl, fun i c hi => ?_⟩
  rw [List.getElem?_append] at hi
  rw [List.getD_eq_getElem?_getD, List.getElem?_append, h.1]
  split at hi
  · rename_i hl
    rw [if_pos hl]
    have := h.2.2 i c hi
    rwa [List.getD_eq_getElem?_getD] at this
  · rename_i hl
    rw [if_neg hl]
    have := k.2.2 _ c hi
    rwa [List.getD_eq_getElem?_getD] at this
/-- Fields from 'off' on. -/
def OpFs {α : Type} (P : Program) (fs : List Field) (off n : Nat) (e : α → List V) (good : α → Prop) (fuel : Nat) : Prop :=
  ∀ (H : Type) (enc : TypeId × Value → H) (W : World) (base : Nat) (spare : Nat → Bool) (held : Bool) (cs : List Value) (xs : List (DataW H × List MemPlace)),
    xs.length = fs.length → (∀ (i : Nat) (f : Field), fs[i]? = some f → DataW.trod enc P W base spare held fuel f.type ((cs.drop f.offset).take (P.cellsOf f.type)) = xs[i]?) →
    (DataW.weightsEach P (fs.map (·.type)) (xs.map (·.1))).all (· ≤ reachBytes) = true → ∃ a : α, CR W (e a) ((cs.drop off).take n) ∧ good a
theorem opFs_one {α : Type} {e : α → V} {good : α → Prop} {f : Field} {off n fuel : Nat} (ho : f.offset = off) (hn : P.cellsOf f.type = n) (h : OpF P f.type e good fuel) : OpFs P [f] off n (fun a => (e a).cells) good fuel := by
  intro H enc W base spare held cs xs hl hx hw
  match xs, hl with
  | [y], _ =>
    have h0 := hx 0 f rfl
    simp only [List.getElem?_cons_zero] at h0
    rw [ho, hn] at h0
    simp only [List.map_cons, List.map_nil, DataW.weightsEach, List.append_nil] at hw
    exact h H enc W base spare held _ y.1 y.2 h0 hw
theorem opFs_cons {α β : Type} {e : α → V} {e' : β → List V} {good : α → Prop} {good' : β → Prop} {f : Field} {fs : List Field} {off n n' fuel : Nat} (ho : f.offset = off) (hn : P.cellsOf f.type = n) (h : OpF P f.type e good fuel) (hs : OpFs P fs (off + n) n' e' good' fuel) :
    OpFs P (f :: fs) off (n + n') (fun a : α × β => (e a.1).cells ++ e' a.2) (fun a => good a.1 ∧ good' a.2) fuel := by
  intro H enc W base spare held cs xs hl hx hw
  match xs, hl with
  | y :: ys, hl =>
    have h0 := hx 0 f rfl
    simp only [List.getElem?_cons_zero] at h0
    rw [ho, hn] at h0
    simp only [List.map_cons, DataW.weightsEach, List.all_append, Bool.and_eq_true] at hw
    obtain ⟨a, ha, hg⟩ := h H enc W base spare held _ y.1 y.2 h0 hw.1
    obtain ⟨a', ha', hg'⟩ := hs H enc W base spare held cs ys (by simpa using hl) (fun i f' hf => by simpa using hx (i + 1) f' (by simpa using hf)) hw.2
    refine ⟨(a, a'), ?_, hg, hg'⟩
    have := ha.append ha'
    rwa [List.take_add, List.drop_drop]
theorem op_zero {α : Type} {e : α → V} {good : α → Prop} : OpF P t e good 0 := by
  intro H enc W base spare held cs x ps h
  simp [DataW.trod] at h
theorem op_struct {α : Type} {e : α → List V} {good : α → Prop} {fs : Array Field} {n : Nat} (ht : P.underlying t = some (.struct fs)) (hn : P.cellsOf t = n) (h : ∀ fuel, OpFs P fs.toList 0 n e good fuel) :
    Op1 P t (fun a => .agg (e a)) good := by
  intro fuel
  cases fuel with
  | zero => exact op_zero
  | succ fuel =>
    intro H enc W base spare held cs x ps hx hw
    obtain ⟨xs, m, hf, he, hl, hlen, hxs⟩ := DataW.trod_struct ht hx
    obtain rfl : m = fuel := by omega
    simp only [Prod.mk.injEq] at he
    obtain ⟨rfl, rfl⟩ := he
    simp only [DataW.weights, ht] at hw
    obtain ⟨a, ha, hga⟩ := h m H enc W base spare held cs xs (by simpa using hlen) (fun i f hf => hxs i f (by simpa using hf)) hw
    refine ⟨a, ?_, hga⟩
    rwa [List.drop_zero, List.take_of_length_le (by omega)] at ha
end
/-! ### what comes in, and what stays -/
section
variable {P : Program} {H : Type} {enc : TypeId × Value → H} {W W' : World} {t : TypeId} {v : Value} {d : DataW H} {ps : List MemPlace} {spare : Nat → Bool} {held : Bool} {base : Nat}
theorem come {α : Type} {e : α → V} {good : α → Prop} (ho : Op1 P t e good) (h : DataW.Trod enc P W base spare held t v d ps) (hw : (DataW.weights P t d).all (· ≤ reachBytes) = true) : ∃ a : α, CR W (e a).cells v.cells.toList ∧ good a := by
  obtain ⟨fuel, h⟩ := h
  exact ho fuel H enc W base spare held _ d ps h hw
theorem weights_each : ∀ {ts : List TypeId} {ds : List (DataW H)} {t : TypeId} {d : DataW H}, (DataW.weightsEach P (t :: ts) (d :: ds)).all (· ≤ reachBytes) = true → (DataW.weights P t d).all (· ≤ reachBytes) = true ∧ (DataW.weightsEach P ts ds).all (· ≤ reachBytes) = true := by
  intro ts ds t d h
  simpa only [DataW.weightsEach, List.all_append, Bool.and_eq_true] using h
theorem CR.agg {cs : List V} {rs : Array Value} (h : CR W (V.agg cs).cells (Value.agg rs).cells.toList) : VRel (wG W) (.agg cs) (.agg rs) := by
  refine .agg cs rs (by simpa [V.cells, Value.cells] using h.1) fun i c hi => ?_
  have := h.2.2 i c hi
  simpa [Value.cells] using this
theorem CR.val {u : V} (hu : u.cells = [u]) (hv : v.cells = #[v]) (h : CR W u.cells v.cells.toList) : VRel (wG W) u v := by
  rw [hu, hv] at h
  exact h.2.2 0 u rfl
structure Kept (W W' : World) : Prop where
  block : ∀ k, k < W.heap.size → W'.heap[k]? = W.heap[k]?
  os : W'.os = W.os
  out : W'.output = W.output
theorem Kept.same (h : Kept W W') {p : MemPlace} (hp : p.block < W.heap.size) : W.sameAt W' p := by
  cases p with
  | cell b o => exact World.cell?_of_block (w := W) (h.block b hp)
  | map b => exact h.block b hp
theorem Kept.frame (h : Kept W W') (may : MemPlace → Prop) : W.keptBut W' may := by
  refine ⟨h.os, h.out, fun i hi => ?_⟩
  rw [h.block i hi]
  split <;> simp_all
theorem Kept.trod (hl : laidOutB P = true) (hr : P.readableRec t = true) (hrow : t < P.types.size) (h : DataW.Trod enc P W 0 (fun _ => true) true t v d ps) (hb : Kept W W') (hlt : ∀ x ∈ ps, x.block < W.heap.size) :
    DataW.Trod enc P W' 0 (fun b => decide (b < W.heap.size)) true t v d ps :=
  WideElems.Trod_stays hl hr hrow h (fun x hx => hb.same (hlt x hx)) (fun x hx => by simpa using hlt x hx)
theorem row_calls {f : FuncId} {vs : List V} {rargs : Array Value} (hp : PSpec P f vs (.bool true)) (hr : Rows2 (wG W) vs rargs) : Calls P f rargs W fun e W' => e = .returned (.bool true) ∧ Kept W W' := by
  refine (hp.2 (wX W) (wG W) rargs W (wInv W) hr).mono ?_
  rintro e w' ⟨rv, G', rfl, le, hI, hv⟩
  cases hv
  obtain ⟨h1, h2, h3⟩ := wKept hI
  exact ⟨rfl, h1, h2, h3⟩
theorem Rows2.nil {G : Ghost} : Rows2 G [] #[] := ⟨rfl, fun i c h => by cases h⟩
theorem rows2_of {G : Ghost} {vs : List V} {l : List Value} (h1 : l.length = vs.length) (h : ∀ i c, vs[i]? = some c → VRel G c (l.getD i undef)) : Rows2 G vs l.toArray := ⟨by simpa using h1, fun i c hi => by simpa using h i c hi⟩
end
end Go.Vm
/- Vm: strings told by the lists of their bytes; values that say less. -/
namespace Go.Vm
/-- A string of bytes. -/
def sb (l : List UInt8) : ByteArray := ⟨l.toArray⟩
abbrev st (l : List UInt8) : V := .str (sb l)
theorem sb_size (l : List UInt8) : (sb l).size = l.length := by simp [sb, ByteArray.size]
theorem sb_bytes (l : List UInt8) : bytesV (sb l) = l.map u8 := by simp [sb, bytesV, u8]
theorem strV_u8 (l : List UInt8) : strV (l.map u8) = sb l := by
  unfold strV sb
  congr 2
  rw [List.map_map]
  conv => rhs; rw [← List.map_id l]
  apply List.map_congr_left
  intro b _
  simp [u8, numV]
theorem sb_toList (l : List UInt8) : (sb l).toList = l := by rw [Lib.toList_data]; simp [sb]
theorem sb_inj {a b : List UInt8} : sb a = sb b ↔ a = b := by
  refine ⟨fun h => ?_, fun h => by rw [h]⟩
  have := congrArg ByteArray.toList h
  rwa [sb_toList, sb_toList] at this
theorem sb_dec (a b : List UInt8) : decide (sb a = sb b) = decide (a = b) := decide_eq_decide.2 sb_inj
theorem sb_nil (a : List UInt8) : (sb a = ByteArray.empty) = (a = []) := propext (by
  have : ByteArray.empty = sb [] := rfl
  rw [this, sb_inj])
theorem less_eq : ∀ (x y : List UInt8), Op.bytesLess x y = decide (x < y)
  | [], [] => by simp [Op.bytesLess]
  | _ :: _, [] => by simp [Op.bytesLess]
  | [], _ :: _ => by simp [Op.bytesLess]
  | a :: x, b :: y => by
    rw [Op.bytesLess, less_eq x y]
    simp only [List.cons_lt_cons_iff]
    by_cases h1 : a < b <;> by_cases h2 : a = b <;> by_cases h3 : x < y <;> simp [h1, h2, h3]
theorem sb_of (s : ByteArray) : sb s.data.toList = s := by simp [sb]
theorem st_of (s : ByteArray) : st s.data.toList = .str s := by rw [st, sb_of]
theorem sb_append (a b : List UInt8) : sb a ++ sb b = sb (a ++ b) := by
  apply ByteArray.ext; simp [sb, ByteArray.append_eq]
variable {P : Program} {n : Nat} {Q : Exit → Env → Hp → Prop} {env : Env} {σ : Hp} {c : Code} {cs : List Code}
/-- A value that says no more. -/
def Wk (v v' : V) : Prop := ∀ G r, VRel G v r → VRel G v' r
theorem Wk.refl (v : V) : Wk v v := fun _ _ h => h
theorem Wk.trans {a b c : V} (h : Wk a b) (k : Wk b c) : Wk a c := fun G r x => k G r (h G r x)
theorem Wk.dead (v : V) : Wk v .dead := fun _ _ _ => .dead _
theorem Wk.untag (sz : Nat) (es : List V) (tag : Tag) : Wk (.sl sz es tag) (.sl sz es .no) := fun G r hr => by
  obtain ⟨ad, cap, rfl, hc, htag, hu, ho⟩ := sl_len hr
  exact hr.tag hu .no trivial
theorem Wk.nil (sz sz' : Nat) (tag : Tag) : Wk (.sl sz [] tag) (.sl sz' [] .no) := fun G r hr => by
  obtain ⟨ad, cap, rfl, hc, htag, hu, ho⟩ := sl_len hr
  exact hr.tag (fun e he => by cases he) .no trivial
/-- Rows, each of which says no more. -/
def Wks : List V → List V → Prop
  | [], [] => True
  | a :: l, b :: m => Wk a b ∧ Wks l m
  | _, _ => False
theorem Wks.len : ∀ {l m : List V}, Wks l m → l.length = m.length
  | [], [], _ => rfl
  | _ :: _, _ :: _, h => by simp [Wks.len h.2]
theorem Wks.get : ∀ {l m : List V}, Wks l m → ∀ (i : Nat) (c : V), m[i]? = some c → ∃ b, l[i]? = some b ∧ Wk b c
  | [], [], _, i, c, h => by simp at h
  | a :: l, b :: m, h, 0, c, e => by simp at e; exact ⟨a, rfl, e ▸ h.1⟩
  | a :: l, b :: m, h, i + 1, c, e => by simp at e ⊢; exact Wks.get h.2 i c e
theorem Wks.refl : ∀ l : List V, Wks l l
  | [] => trivial
  | a :: l => ⟨Wk.refl a, Wks.refl l⟩
theorem Wk.agg {l m : List V} (h : Wks l m) : Wk (.agg l) (.agg m) := fun G r hr => by
  cases hr with
  | agg _ rs hl hc =>
    refine .agg m rs (by rw [hl, h.len]) (fun i c hi => ?_)
    obtain ⟨b, h1, h2⟩ := h.get i c hi
    exact h2 _ _ (hc i b h1)
theorem Wk.tup {l m : List V} (h : Wks l m) : Wk (.tup l) (.tup m) := fun G r hr => by
  cases hr with
  | tup _ rs hl hc =>
    refine .tup m rs (by rw [hl, h.len]) (fun i c hi => ?_)
    obtain ⟨b, h1, h2⟩ := h.get i c hi
    exact h2 _ _ (hc i b h1)
theorem S_wk (t : Nat) {v v' : V} (ht : env.get t = v) (hk : Wk v v') (h : WS n P (c :: cs) Q ((t, v') :: env) σ) : WS n P (c :: cs) Q env σ :=
  W_ghost (fun X G w vs hI hv => ⟨G, Ghost.Le.refl _, hI, get_cons_rel (Ghost.Le.refl _) hv (by
    have hr := hv t
    rw [ht] at hr
    exact hk _ _ hr)⟩) h
theorem PSpec.wk {f : FuncId} {args args' : List V} {r r' : V} (h : PSpec P f args' r) (ha : Wks args args') (hr : Wk r r') : PSpec P f args r' := by
  refine ⟨h.1, fun X G rargs w hI hR => ?_⟩
  refine (h.2 X G rargs w hI ⟨by rw [hR.1, ha.len], fun i c hi => ?_⟩).mono fun e w' ⟨rv, G', h1, h2, h3, h4⟩ => ⟨rv, G', h1, h2, h3, hr _ _ h4⟩
  obtain ⟨b, h1, h2⟩ := ha.get i c hi
  exact h2 _ _ (hR.2 i b h1)
/-- A box beneath another one. -/
theorem S_frz1 (t : Nat) {g h : Nat} {l : List V} {b : Blk} (ht : env.get t = .ptr g 0) (hg : σ.get g = none) (hn : g ≠ h) (k : WS n P (c :: cs) Q ((t, .pv l) :: env) (σ.set h b)) : WS n P (c :: cs) Q env ((σ.set g (.cells l)).set h b) := by
  rw [Hp.set_comm _ _ _ hn]
  refine S_frz t ht ?_ k
  rw [Hp.get_set, if_neg hn]; exact hg
theorem less_sb (a b : List UInt8) : Op.bytesLess (sb a).toList (sb b).toList = decide (a < b) := by rw [sb_toList, sb_toList, less_eq]
theorem dec_sb (a b : List UInt8) : decide (sb a = sb b) = decide (a = b) := sb_dec a b
theorem mk_sb (l : List UInt8) : (⟨l.toArray⟩ : ByteArray) = sb l := rfl
attribute [push_cast] mk_sb sb_inj sb_size less_sb strV_u8 sb_bytes
theorem zb_sb (n : Nat) : zb n = sb (List.replicate n 0) := rfl
attribute [push_cast] zb_sb
theorem Wk.sl0 (sz : Nat) (tag : Tag) (es : List V) (h : es = []) : Wk (.sl 0 [] tag) (.sl sz es .no) := by subst h; exact Wk.nil 0 sz tag
/-- An empty slice comes in with a right to append. -/
theorem Spec.tok {f : FuncId} {sz : Nat} (sz' : Nat) {rest : List V} {Post : Nat → V → Hp → Prop} {Post' : V → Hp → Prop} (h : ∀ g, σ.get g = none → Spec P f (.sl sz' [] (.tk g) :: rest) (σ.set g (.tok sz' 0)) (Post g)) (hp : ∀ g v σ', Post g v σ' → Post' v σ') (hok : okFn P f = true) : Spec P f (.sl sz [] .full :: rest) σ Post' := by
  refine ⟨hok, fun X G rargs w hI hr => ?_⟩
  obtain ⟨g, g1, g2, g3⟩ := hI.fresh
  obtain ⟨le, hI'⟩ := hI.tok_nil g1 g2 g3 sz'
  have hr' : Rows2 (G.setTk g (0, none, 0)) (.sl sz' [] (.tk g) :: rest) rargs := by
    refine ⟨by simpa using hr.1, fun i c hi => ?_⟩
    rcases i with _ | i
    · simp at hi
      subst hi
      have h0 := (hr.2 0 _ rfl).mono le
      obtain ⟨ad, cap, e, hc, htag, hu, ho⟩ := sl_len h0
      have hc0 : cap = 0 := htag
      subst hc0
      rw [e] at h0 ⊢
      exact h0.tag (fun e he => by cases he) (.tk g) ⟨0, none, 0, if_pos rfl, Nat.le_refl _, fun _ => ⟨rfl, .inl rfl⟩⟩
    · exact (hr.2 (i + 1) c (by simpa using hi)).mono le
  exact ((h g g3).2 X _ rargs w hI' hr').mono fun e w' ⟨rv, v, σ', G', e1, e2, e3, e4⟩ => ⟨rv, v, σ', G', e1, hp _ _ _ e2, le.trans e3, e4⟩
theorem Spec.pure {f : FuncId} {args : List V} {r : V} (h : Spec P f args Hp.empty (fun v _ => v = r)) : PSpec P f args r := by
  refine ⟨h.1, fun X G rargs w hI hr => (h.2 X G rargs w hI hr).mono ?_⟩
  rintro e w' ⟨rv, v, σ', G', rfl, rfl, le, hI', hv⟩
  exact ⟨rv, G', rfl, le, hI'.sub (fun g k x => by cases x), hv⟩
theorem Spec.wkR {f : FuncId} {args : List V} {r r' : V} {Post : V → Hp → Prop} (h : Spec P f args σ (fun v σ' => v = r ∧ Post v σ')) (hr : Wk r r') : Spec P f args σ (fun v _ => v = r') :=
  ⟨h.1, fun X G rargs w hI hR => (h.2 X G rargs w hI hR).mono fun e w' ⟨rv, v, σ', G', e1, ⟨e2, _⟩, e3, e4, e5⟩ => ⟨rv, r', σ', G', e1, rfl, e3, e4, hr _ _ (e2 ▸ e5)⟩⟩
/-- The state at hand, told by what holds of it. -/
theorem S_abs {cs' : List Code} (p : Hp → Prop) (h : p σ) (k : ∀ τ, p τ → WS n P cs' Q env τ) : WS n P cs' Q env σ := k σ h
theorem S_wkH {g : Nat} {l l' : List V} (hg : σ.get g = some (.cells l)) (hw : Wks l l') (ho : l'.all V.one = true) (h : WS n P (c :: cs) Q env (σ.set g (.cells l'))) : WS n P (c :: cs) Q env σ := fun X G0 a w ⟨G, h0, hI, hn, hd, hv⟩ => by
  refine h X G0 a w ⟨G, h0, hI.retell hg fun rs hr => ⟨⟨by rw [hr.1.1, hw.len], fun i c hi => ?_⟩, ho⟩, hn, hd, hv⟩
  obtain ⟨b, h1, h2⟩ := hw.get i c hi
  exact h2 _ _ (hr.1.2 i b h1)
theorem S_frz2 (t : Nat) {g h h2 : Nat} {l : List V} {b b2 : Blk} (ht : env.get t = .ptr g 0) (hg : σ.get g = none) (hn : g ≠ h) (hn2 : g ≠ h2) (k : WS n P (c :: cs) Q ((t, .pv l) :: env) ((σ.set h b).set h2 b2)) : WS n P (c :: cs) Q env (((σ.set g (.cells l)).set h b).set h2 b2) := by
  rw [Hp.set_comm σ _ _ hn]
  exact S_frz1 t ht (by rw [Hp.get_set, if_neg hn]; exact hg) hn2 k
theorem all_u8 (l : List UInt8) : (l.map u8).all isU8 = true := by simp [isU8, u8]
end Go.Vm
