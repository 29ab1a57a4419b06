/- The disk and the reference's disk tell the same: what holds between them, and that each operation keeps it. -/
import Derived.Test.YtbicfijohjijhaaVdZ
set_option linter.unusedSimpArgs false
set_option linter.unusedVariables false
set_option maxHeartbeats 1000000
namespace Go.Vm.Try
open Go.Proofs
def pk (w : RW) : PS := ((w.f, w.s), w.b)
def wl (l : List RW) : List PS := (l.filter fun w => !w.sure).map pk
def sl (l : List RW) : List RW := l.filter fun w => w.sure
def Ord (l : List RW) : Prop := l.Pairwise fun a b => a.f = b.f → b.sure = true → a.sure = true
structure Rel (n : Nat) (D : Disk) (X : RDisk) : Prop where
  q : D.quota = X.quota
  c : D.calls = X.calls
  dn : D.down = X.down
  pl : (D.plan = false ∧ X.plan = -1) ∨ (D.plan = true ∧ X.plan = D.left ∧ 0 ≤ D.left ∧ D.left ≤ 9223372036854775807)
  w : D.waits = wl X.l
  sh : ∀ p, look p D.shown = rfind p.1 p.2 X.l
  su : ∀ p, look p D.sure = rfind p.1 p.2 (sl X.l)
  z0 : D.size0 = rLen 0 X.l
  z1 : D.size1 = rLen 1 X.l
  ord : Ord X.l
  ok : ∀ w ∈ X.l, okP (w.f, w.s) ∧ w.b.length = 128
  nd : (D.sure.map (·.1)).Nodup
  s1 : ∀ e ∈ D.sure, okP e.1 ∧ e.2.length = 128
  s2 : ∀ e ∈ D.shown, e.2.length = 128
  n : X.l.length ≤ n
theorem rfind_append (f s : Int) (a b : List RW) : rfind f s (a ++ b) = (rfind f s b).or (rfind f s a) := by
  have key : ∀ (b : List RW) (o : Option Sec), b.foldl (fun o w => if w.f = f ∧ w.s = s then some w.b else o) o = (b.foldl (fun o w => if w.f = f ∧ w.s = s then some w.b else o) none).or o := by
    intro b
    induction b with
    | nil => intro o; simp
    | cons w b ih =>
      intro o
      simp only [List.foldl_cons]
      rw [ih, ih (if w.f = f ∧ w.s = s then some w.b else none)]
      split <;> cases (b.foldl (fun o w => if w.f = f ∧ w.s = s then some w.b else o) none) <;> simp
  unfold rfind
  rw [List.foldl_append, key]
theorem rfind_cons (f s : Int) (w : RW) (b : List RW) : rfind f s (w :: b) = (rfind f s b).or (if w.f = f ∧ w.s = s then some w.b else none) := by
  rw [show w :: b = [w] ++ b from rfl, rfind_append]; rfl
theorem rLen_append (f : Int) (a b : List RW) : rLen f (a ++ b) = b.foldl (fun n w => if w.f = f ∧ n ≤ w.s then w.s + 1 else n) (rLen f a) := by unfold rLen; rw [List.foldl_append]
theorem wl_append (a b : List RW) : wl (a ++ b) = wl a ++ wl b := by simp [wl]
theorem sl_append (a b : List RW) : sl (a ++ b) = sl a ++ sl b := by simp [sl]
/-- What is synced stands ahead of what waits. -/
theorem rfind_split {l : List RW} (h : Ord l) (f s : Int) : rfind f s l = (rfind f s (l.filter fun w => !w.sure)).or (rfind f s (sl l)) := by
  induction l with
  | nil => rfl
  | cons w l ih =>
    unfold Ord at h
    rw [List.pairwise_cons] at h
    obtain ⟨h1, h2⟩ := h
    rw [rfind_cons, ih h2]
    by_cases hs : w.sure = true
    · have e1 : (w :: l).filter (fun w => !w.sure) = l.filter fun w => !w.sure := by simp [hs]
      have e2 : sl (w :: l) = w :: sl l := by simp [sl, hs]
      rw [e1, e2, rfind_cons, Option.or_assoc]
    · have e1 : (w :: l).filter (fun w => !w.sure) = w :: l.filter fun w => !w.sure := by simp [hs]
      have e2 : sl (w :: l) = sl l := by simp [sl, hs]
      rw [e1, e2, rfind_cons, Option.or_assoc, Option.or_assoc]
      congr 1
      by_cases hw : w.f = f ∧ w.s = s
      · have hn : rfind f s (sl l) = none := by
          have : ∀ m : List RW, (∀ x ∈ m, x.f ≠ f) → rfind f s m = none := by
            intro m
            induction m with
            | nil => intro _; rfl
            | cons x m ih =>
              intro hm
              rw [rfind_cons, ih fun y hy => hm y (List.mem_cons_of_mem _ hy), if_neg (fun e => hm x (List.mem_cons_self ..) e.1)]
              rfl
          refine this _ fun x hx => ?_
          obtain ⟨hx1, hx2⟩ := List.mem_filter.1 hx
          intro e
          exact hs (h1 x hx1 (hw.1.trans e.symm) hx2)
        rw [hn]; simp
      · rw [if_neg hw]; simp
theorem look_fold (f s : Int) (g : RW → Bool) : ∀ (ws : List RW) (m : List PS), look (f, s) (ws.foldl (fun m w => if g w = true then setL (w.f, w.s) w.b m else m) m) = (rfind f s (ws.filter g)).or (look (f, s) m)
  | [], m => by simp [rfind]
  | w :: ws, m => by
    rw [List.foldl_cons, look_fold f s g ws]
    by_cases h : g w = true
    · rw [if_pos h, look_setL, List.filter_cons_of_pos h, rfind_cons, Option.or_assoc]
      congr 1
      by_cases e : w.f = f ∧ w.s = s
      · obtain ⟨rfl, rfl⟩ := e; simp
      · rw [if_neg (by simpa using e), if_neg e]; simp
    · rw [if_neg h, List.filter_cons_of_neg h]
theorem bad_iff (f s : Int) (n : Nat) : badW f s n ↔ rWbad f s n := by unfold badW rWbad; omega
theorem Rel.dsize {n : Nat} {D : Disk} {X : RDisk} (h : Rel n D X) {f : Int} (hf : f = 0 ∨ f = 1) : dsize D f = rLen f X.l := by
  unfold Try.dsize
  rcases hf with rfl | rfl
  · rw [if_pos rfl, h.z0]
  · rw [if_neg (by omega), h.z1]
theorem Rel.full {n : Nat} {D : Disk} {X : RDisk} (h : Rel n D X) {f s : Int} (hf : f = 0 ∨ f = 1) : fullW D f s ↔ rfull X f s := by
  unfold fullW rfull
  rw [h.dsize hf, h.dsize (f := 1 - f) (by omega), h.q]
theorem Rel.change {n : Nat} {D : Disk} {X : RDisk} (h : Rel n D X) : changeV D = rchangeV X ∧ Rel n (changeD D) (rchangeD X) := by
  rcases h.pl with ⟨h1, h2⟩ | ⟨h1, h2, h3, h4⟩
  · have e1 : changeV D = 0 := by simp [changeV, h1]
    have e2 : changeD D = { D with calls := IntKind.i64.wrap (D.calls + 1) } := by simp [changeD, h1]
    have e3 : rchangeV X = 0 := by simp [rchangeV, h2]
    have e4 : rchangeD X = { X with calls := IntKind.i64.wrap (X.calls + 1) } := by simp [rchangeD, h2]
    rw [e1, e2, e3, e4]
    exact ⟨rfl, h.q, by simp only [h.c], h.dn, .inl ⟨h1, h2⟩, h.w, h.sh, h.su, h.z0, h.z1, h.ord, h.ok, h.nd, h.s1, h.s2, h.n⟩
  · by_cases h0 : D.left = 0
    · have hx : X.plan = 0 := by omega
      have e1 : changeV D = 51 := by simp [changeV, h1, h0]
      have e2 : changeD D = { D with down := true } := by simp [changeD, h1, h0]
      have e3 : rchangeV X = 51 := by simp [rchangeV, hx]
      have e4 : rchangeD X = { X with down := true } := by simp [rchangeD, hx]
      rw [e1, e2, e3, e4]
      exact ⟨rfl, h.q, h.c, rfl, .inr ⟨h1, h2, h3, h4⟩, h.w, h.sh, h.su, h.z0, h.z1, h.ord, h.ok, h.nd, h.s1, h.s2, h.n⟩
    · have hx : ¬ X.plan = 0 := by omega
      have hx2 : 0 < X.plan := by omega
      have hw : IntKind.i64.wrap (D.left - 1) = D.left - 1 := i64w (by omega) (by omega)
      have hw2 : IntKind.i64.wrap (X.plan - 1) = X.plan - 1 := i64w (by omega) (by omega)
      have e1 : changeV D = 0 := by simp [changeV, h0]
      have e2 : changeD D = { D with left := D.left - 1, calls := IntKind.i64.wrap (D.calls + 1) } := by simp [changeD, h1, h0, hw]
      have e3 : rchangeV X = 0 := by simp [rchangeV, hx]
      have e4 : rchangeD X = { X with plan := X.plan - 1, calls := IntKind.i64.wrap (X.calls + 1) } := by simp [rchangeD, hx, hx2, hw2]
      rw [e1, e2, e3, e4]
      exact ⟨rfl, h.q, by simp only [h.c], h.dn, .inr ⟨h1, by simp only [h2], by simp only []; omega, by simp only []; omega⟩, h.w, h.sh, h.su, h.z0, h.z1, h.ord, h.ok, h.nd, h.s1, h.s2, h.n⟩
theorem Rel.up {n m : Nat} {D : Disk} {X : RDisk} (h : Rel n D X) (hm : n ≤ m) : Rel m D X := ⟨h.q, h.c, h.dn, h.pl, h.w, h.sh, h.su, h.z0, h.z1, h.ord, h.ok, h.nd, h.s1, h.s2, Nat.le_trans h.n hm⟩
theorem Rel.put {n : Nat} {D : Disk} {X : RDisk} (h : Rel n D X) {f s : Int} {b : Sec} (hk : okP (f, s)) (hb : b.length = 128) : Rel (n + 1) (putD D f s b) (rputD X f s b) where
  q := h.q
  c := h.c
  dn := h.dn
  pl := h.pl
  w := by simp only [putD, rputD, wl_append, h.w]; rfl
  sh := fun p => by
    obtain ⟨a, c⟩ := p
    simp only [putD, rputD, look_setL, rfind_append, h.sh]
    rw [rfind_cons]
    by_cases e : f = a ∧ s = c
    · obtain ⟨rfl, rfl⟩ := e; simp [rfind]
    · rw [if_neg (by simpa using e), if_neg e]; simp [rfind]
  su := fun p => by simp only [putD, rputD, sl_append, h.su]; simp [sl]
  z0 := by
    simp only [putD, rputD, rLen_append, h.z0, List.foldl_cons, List.foldl_nil, maxI]
    (repeat' split) <;> omega
  z1 := by
    simp only [putD, rputD, rLen_append, h.z1, List.foldl_cons, List.foldl_nil, maxI]
    have := hk.1
    simp only at this
    (repeat' split) <;> omega
  ord := by
    show Ord (X.l ++ _)
    unfold Ord
    rw [List.pairwise_append]
    exact ⟨h.ord, by simp, fun a _ b hb _ hs => by rw [List.mem_singleton.1 hb] at hs; cases hs⟩
  ok := fun w hw => by
    rcases List.mem_append.1 hw with hw | hw
    · exact h.ok w hw
    · rw [List.mem_singleton.1 hw]; exact ⟨hk, hb⟩
  nd := h.nd
  s1 := h.s1
  s2 := fun e he => by
    rcases setL_mem he with he | he
    · rw [he]; exact hb
    · exact h.s2 e he
  n := by simp only [rputD, List.length_append, List.length_singleton]; have := h.n; omega
theorem Rel.write {n : Nat} {D : Disk} {X : RDisk} (h : Rel n D X) (f s : Int) (b : Sec) : writeE D f s b.length = rwriteE X f s b.length ∧ Rel (n + 1) (writeD D f s b) (rwriteD X f s b) := by
  by_cases hB : badW f s b.length
  · have hB2 := (bad_iff _ _ _).1 hB
    rw [writeE_bad hB, writeD_same (.inl hB), rwriteE, if_pos hB2, rwriteD, if_pos (.inl hB2)]
    exact ⟨rfl, h.up (by omega)⟩
  · have hB2 : ¬ rWbad f s b.length := fun e => hB ((bad_iff _ _ _).2 e)
    cases hd : D.down with
    | true =>
      have hd2 : X.down = true := h.dn ▸ hd
      rw [writeE_down hB hd, writeD_same (.inr (.inl hd)), rwriteE, if_neg hB2, if_pos hd2, rwriteD, if_pos (.inr (.inl hd2))]
      exact ⟨rfl, h.up (by omega)⟩
    | false =>
      have hd2 : ¬ X.down = true := by rw [← h.dn, hd]; simp
      have hf : f = 0 ∨ f = 1 := by unfold badW at hB; omega
      by_cases hF : fullW D f s
      · have hF2 := (h.full hf).1 hF
        rw [writeE_full hB hd hF, writeD_same (.inr (.inr hF)), rwriteE, if_neg hB2, if_neg hd2, if_pos hF2, rwriteD, if_pos (.inr (.inr hF2))]
        exact ⟨rfl, h.up (by omega)⟩
      · have hF2 : ¬ rfull X f s := fun e => hF ((h.full hf).2 e)
        obtain ⟨hv, hR⟩ := h.change
        have hno : ¬ (rWbad f s b.length ∨ X.down = true ∨ rfull X f s) := by
          rintro (e | e | e)
          · exact hB2 e
          · exact hd2 e
          · exact hF2 e
        rw [writeE_ok hB hd hF, writeD_ok hB hd hF, rwriteE, if_neg hB2, if_neg hd2, if_neg hF2, rwriteD, if_neg hno, ← hv]
        refine ⟨rfl, ?_⟩
        have hk : okP (f, s) := by unfold badW at hB; exact ⟨hf, by show 0 ≤ s ∧ s ≤ 65535; omega⟩
        have hbl : b.length = 128 := by unfold badW at hB; omega
        split
        · exact hR.put hk hbl
        · exact hR.up (by omega)
theorem rfind_map (f s : Int) (g : RW → RW) (hg : ∀ w, (g w).f = w.f ∧ (g w).s = w.s ∧ (g w).b = w.b) (l : List RW) : rfind f s (l.map g) = rfind f s l := by
  induction l with
  | nil => rfl
  | cons w l ih => rw [List.map_cons, rfind_cons, rfind_cons, ih, (hg w).1, (hg w).2.1, (hg w).2.2]
theorem rLen_map (f : Int) (g : RW → RW) (hg : ∀ w, (g w).f = w.f ∧ (g w).s = w.s ∧ (g w).b = w.b) (l : List RW) : rLen f (l.map g) = rLen f l := by
  unfold rLen
  generalize (0 : Int) = m
  induction l generalizing m with
  | nil => rfl
  | cons w l ih => rw [List.map_cons, List.foldl_cons, List.foldl_cons, (hg w).1, (hg w).2.1, ih]
def gs (f : Int) (w : RW) : RW := if w.f = f then { w with sure := true } else w
theorem gs_same (f : Int) (w : RW) : (gs f w).f = w.f ∧ (gs f w).s = w.s ∧ (gs f w).b = w.b := by unfold gs; split <;> simp
theorem rsync_all (f : Int) (l : List RW) : rsync f l.length l = l.map (gs f) := by
  unfold rsync
  rw [List.take_length, List.drop_length, List.append_nil]; rfl
theorem wl_sync (f : Int) (l : List RW) : leftF f (wl l) = wl (l.map (gs f)) := by
  induction l with
  | nil => rfl
  | cons w l ih =>
    unfold leftF wl at ih ⊢
    by_cases hs : w.sure = true
    · have : (gs f w).sure = true := by unfold gs; split <;> simp [hs]
      simpa [hs, this] using ih
    · by_cases hf : w.f = f
      · have : (gs f w).sure = true := by simp [gs, hf]
        simpa [hs, this, pk, hf] using ih
      · have e : gs f w = w := by simp [gs, hf]
        simp only [List.map_cons, e]
        simpa [hs, pk, hf] using ih
theorem rfind_filter_eq (f s : Int) (l : List RW) : rfind f s (l.filter fun w => decide (w.f = f)) = rfind f s l := by
  induction l with
  | nil => rfl
  | cons w l ih =>
    by_cases h : w.f = f
    · rw [List.filter_cons_of_pos (by simp [h]), rfind_cons, rfind_cons, ih]
    · rw [List.filter_cons_of_neg (by simp [h]), rfind_cons, ih, if_neg (fun e => h e.1)]; simp
theorem rfind_filter_ne (f f' s : Int) (hne : f' ≠ f) (l : List RW) : rfind f' s (l.filter fun w => decide (w.f = f)) = none := by
  induction l with
  | nil => rfl
  | cons w l ih =>
    by_cases h : w.f = f
    · rw [List.filter_cons_of_pos (by simp [h]), rfind_cons, ih, if_neg (fun e => hne (e.1.symm.trans h))]; rfl
    · rw [List.filter_cons_of_neg (by simp [h]), ih]
theorem sl_sync_eq (f s : Int) (l : List RW) : rfind f s (sl (l.map (gs f))) = rfind f s l := by
  induction l with
  | nil => rfl
  | cons w l ih =>
    rw [List.map_cons, rfind_cons]
    by_cases hf : w.f = f
    · have h1 : (gs f w).sure = true := by simp [gs, hf]
      have h2 : sl (gs f w :: l.map (gs f)) = gs f w :: sl (l.map (gs f)) := by simp [sl, h1]
      rw [h2, rfind_cons, ih, (gs_same f w).1, (gs_same f w).2.1, (gs_same f w).2.2]
    · rw [if_neg (fun e => hf e.1)]
      have h1 : gs f w = w := by simp [gs, hf]
      rw [h1]
      by_cases hs : w.sure = true
      · have h2 : sl (w :: l.map (gs f)) = w :: sl (l.map (gs f)) := by simp [sl, hs]
        rw [h2, rfind_cons, ih, if_neg (fun e => hf e.1)]
      · have h2 : sl (w :: l.map (gs f)) = sl (l.map (gs f)) := by simp [sl, hs]
        rw [h2, ih]; simp
theorem sl_sync_ne (f f' s : Int) (hne : f' ≠ f) (l : List RW) : rfind f' s (sl (l.map (gs f))) = rfind f' s (sl l) := by
  induction l with
  | nil => rfl
  | cons w l ih =>
    by_cases hf : w.f = f
    · have h1 : (gs f w).sure = true := by simp [gs, hf]
      have h2 : sl ((w :: l).map (gs f)) = gs f w :: sl (l.map (gs f)) := by simp [sl, h1]
      rw [h2, rfind_cons, ih, (gs_same f w).1, if_neg (fun e => hne (e.1.symm.trans hf))]
      by_cases hs : w.sure = true
      · have h3 : sl (w :: l) = w :: sl l := by simp [sl, hs]
        rw [h3, rfind_cons, if_neg (fun e => hne (e.1.symm.trans hf))]
      · have h3 : sl (w :: l) = sl l := by simp [sl, hs]
        rw [h3]; simp
    · have h1 : gs f w = w := by simp [gs, hf]
      by_cases hs : w.sure = true
      · have h2 : sl ((w :: l).map (gs f)) = w :: sl (l.map (gs f)) := by simp [sl, hs, h1]
        have h3 : sl (w :: l) = w :: sl l := by simp [sl, hs]
        rw [h2, h3, rfind_cons, rfind_cons, ih]
      · have h2 : sl ((w :: l).map (gs f)) = sl (l.map (gs f)) := by simp [sl, hs, h1]
        have h3 : sl (w :: l) = sl l := by simp [sl, hs]
        rw [h2, h3, ih]
theorem surely_wl (f : Int) (l : List RW) (m : List PS) : surely f (wl l) m = (l.filter fun w => !w.sure).foldl (fun m w => if decide (w.f = f) = true then setL (w.f, w.s) w.b m else m) m := by
  unfold surely wl
  rw [List.foldl_map]
  simp only [pk, decide_eq_true_eq]
  rfl
theorem surely_all (f : Int) (Q : PS → Prop) : ∀ (ws m : List PS), (∀ e ∈ ws, Q e) → (∀ e ∈ m, Q e) → ∀ e ∈ surely f ws m, Q e
  | [], m, _, hm => hm
  | w :: ws, m, hw, hm => by
    refine surely_all f Q ws _ (fun e he => hw e (List.mem_cons_of_mem _ he)) ?_
    show ∀ e ∈ (if w.1.1 = f then setL w.1 w.2 m else m), Q e
    split
    · intro e he
      rcases setL_mem he with he | he
      · rw [he]; exact hw w (List.mem_cons_self ..)
      · exact hm e he
    · exact hm
theorem surely_nodup (f : Int) : ∀ (ws m : List PS), (m.map (·.1)).Nodup → ((surely f ws m).map (·.1)).Nodup
  | [], m, h => h
  | w :: ws, m, h => by
    refine surely_nodup f ws _ ?_
    show ((if w.1.1 = f then setL w.1 w.2 m else m).map (·.1)).Nodup
    split
    · exact setL_nodup h
    · exact h
theorem wl_ok {l : List RW} (h : ∀ w ∈ l, okP (w.f, w.s) ∧ w.b.length = 128) : ∀ e ∈ wl l, okP e.1 ∧ e.2.length = 128 := fun e he => by
  obtain ⟨w, hw, rfl⟩ := List.mem_map.1 he
  exact h w (List.mem_filter.1 hw).1
theorem Rel.syncD {n : Nat} {D : Disk} {X : RDisk} (h : Rel n D X) (f : Int) : Rel n (syncD D f) { X with l := rsync f X.l.length X.l } := by
  rw [rsync_all]
  refine ⟨h.q, h.c, h.dn, h.pl, by simp only [Try.syncD, h.w, wl_sync], fun p => ?_, fun p => ?_, ?_, ?_, ?_, fun w hw => ?_, ?_, ?_, h.s2, by simpa using h.n⟩
  · exact (h.sh p).trans (rfind_map _ _ _ (gs_same f) _).symm
  · obtain ⟨a, c⟩ := p
    simp only [Try.syncD, h.w]
    rw [surely_wl, look_fold, h.su]
    by_cases e : a = f
    · subst e
      rw [rfind_filter_eq, sl_sync_eq, ← rfind_split h.ord]
    · rw [rfind_filter_ne _ _ _ e, sl_sync_ne _ _ _ e]; simp
  · exact h.z0.trans (rLen_map _ _ (gs_same f) _).symm
  · exact h.z1.trans (rLen_map _ _ (gs_same f) _).symm
  · show Ord (X.l.map (gs f))
    unfold Ord
    rw [List.pairwise_map]
    refine h.ord.imp fun {a b} hab e1 e2 => ?_
    rw [(gs_same f a).1, (gs_same f b).1] at e1
    unfold gs at e2 ⊢
    split
    · rfl
    · rename_i hne
      rw [if_neg (fun e => hne (e1.trans e))] at e2
      exact hab e1 e2
  · obtain ⟨w', hw', rfl⟩ := List.mem_map.1 hw
    obtain ⟨g1, g2, g3⟩ := gs_same f w'
    rw [g1, g2, g3]; exact h.ok w' hw'
  · simp only [Try.syncD]; exact surely_nodup _ _ _ h.nd
  · simp only [Try.syncD, h.w]; exact surely_all _ _ _ _ (wl_ok h.ok) h.s1
theorem Rel.sync {n : Nat} {D : Disk} {X : RDisk} (h : Rel n D X) (f : Int) :
    syncE D f = (if f ≠ 0 ∧ f ≠ 1 then 1 else if X.down = true then 51 else rchangeV X) ∧ Rel n (syncF D f) (if (f ≠ 0 ∧ f ≠ 1) ∨ X.down = true then X else if rchangeV X = 0 then { rchangeD X with l := rsync f X.l.length X.l } else rchangeD X) := by
  by_cases hf : f < 0 ∨ 2 ≤ f
  · have ha : askV D f false = 1 := by unfold askV; rw [if_pos (by simpa using hf)]
    have e1 : syncE D f = 1 := by rw [syncE, if_neg (by rw [ha]; decide), ha]
    have e2 : syncF D f = D := by rw [syncF, if_neg (by rw [ha]; decide)]
    rw [e1, e2, if_pos (by omega), if_pos (.inl (by omega))]
    exact ⟨rfl, h⟩
  · cases hd : D.down with
    | true =>
      have hx : X.down = true := h.dn ▸ hd
      have ha : askV D f false = 51 := by unfold askV; rw [if_neg (by simpa using hf), if_pos hd]
      have e1 : syncE D f = 51 := by rw [syncE, if_neg (by rw [ha]; decide), ha]
      have e2 : syncF D f = D := by rw [syncF, if_neg (by rw [ha]; decide)]
      rw [e1, e2, if_neg (by omega), if_pos hx, if_pos (.inr hx)]
      exact ⟨rfl, h⟩
    | false =>
      have hx : ¬ X.down = true := by rw [← h.dn, hd]; decide
      have ha : askV D f false = 0 := by unfold askV; rw [if_neg (by simpa using hf), if_neg (by simp [hd])]
      obtain ⟨hv, hR⟩ := h.change
      have hno : ¬ ((f ≠ 0 ∧ f ≠ 1) ∨ X.down = true) := by
        rintro (e | e)
        · omega
        · exact hx e
      rw [syncE, syncF, if_pos ha, if_pos ha, if_neg (by omega), if_neg hx, if_neg hno, ← hv]
      refine ⟨rfl, ?_⟩
      split
      · have := hR.syncD f
        rwa [rchangeD_l] at this
      · exact hR
/-! a crash -/
def kr (keep : List UInt8) : Nat → List RW → List RW
  | _, [] => []
  | n, w :: l => if w.sure = true then w :: kr keep n l else if dig keep n = true then { w with sure := true } :: kr keep (n + 1) l else kr keep (n + 1) l
def kw (keep : List UInt8) : Nat → List RW → List RW
  | _, [] => []
  | n, w :: l => if w.sure = true then kw keep n l else if dig keep n = true then w :: kw keep (n + 1) l else kw keep (n + 1) l
theorem rcr_kr (keep : List UInt8) : ∀ (l : List RW) (o : List RW) (n : Nat), (l.foldl (rstep keep) (o, n)).1 = o ++ kr keep n l
  | [], o, n => by simp [kr]
  | w :: l, o, n => by
    rw [List.foldl_cons, kr]
    by_cases hs : w.sure = true
    · have e : rstep keep (o, n) w = (o ++ [w], n) := by simp [rstep, hs]
      rw [e, if_pos hs, rcr_kr keep l]; simp
    · rw [if_neg hs]
      by_cases hd : dig keep n = true
      · have e : rstep keep (o, n) w = (o ++ [{ w with sure := true }], n + 1) := by simp [rstep, hs, hd]
        rw [e, if_pos hd, rcr_kr keep l]; simp
      · have e : rstep keep (o, n) w = (o, n + 1) := by simp [rstep, hs, hd]
        rw [e, if_neg hd, rcr_kr keep l]
theorem kr_mem {keep : List UInt8} : ∀ {l : List RW} {n : Nat} {w : RW}, w ∈ kr keep n l → w.sure = true ∧ ∃ w' ∈ l, w'.f = w.f ∧ w'.s = w.s ∧ w'.b = w.b
  | [], n, w, h => by cases h
  | x :: l, n, w, h => by
    rw [kr] at h
    split at h
    · rename_i hs
      rcases List.mem_cons.1 h with rfl | h
      · exact ⟨hs, _, List.mem_cons_self .., rfl, rfl, rfl⟩
      · obtain ⟨h1, w', h2, h3⟩ := kr_mem h; exact ⟨h1, w', List.mem_cons_of_mem _ h2, h3⟩
    · split at h
      · rcases List.mem_cons.1 h with rfl | h
        · exact ⟨rfl, _, List.mem_cons_self .., rfl, rfl, rfl⟩
        · obtain ⟨h1, w', h2, h3⟩ := kr_mem h; exact ⟨h1, w', List.mem_cons_of_mem _ h2, h3⟩
      · obtain ⟨h1, w', h2, h3⟩ := kr_mem h; exact ⟨h1, w', List.mem_cons_of_mem _ h2, h3⟩
theorem kr_len {keep : List UInt8} : ∀ (l : List RW) (n : Nat), (kr keep n l).length ≤ l.length
  | [], n => by simp [kr]
  | x :: l, n => by
    rw [kr]; split
    · simpa using kr_len l n
    · split
      · simpa using kr_len l (n + 1)
      · have := kr_len (keep := keep) l (n + 1); simp; omega
theorem rfind_none {f s : Int} : ∀ {m : List RW}, (∀ x ∈ m, x.f ≠ f) → rfind f s m = none
  | [], _ => rfl
  | x :: m, h => by
    rw [rfind_cons, rfind_none fun y hy => h y (List.mem_cons_of_mem _ hy), if_neg (fun e => h x (List.mem_cons_self ..) e.1)]; rfl
theorem rfind_kr (keep : List UInt8) (f s : Int) : ∀ (l : List RW) (n : Nat), Ord l → rfind f s (kr keep n l) = (rfind f s (kw keep n l)).or (rfind f s (sl l))
  | [], n, _ => rfl
  | w :: l, n, h => by
    unfold Ord at h
    rw [List.pairwise_cons] at h
    obtain ⟨h1, h2⟩ := h
    by_cases hs : w.sure = true
    · have e2 : sl (w :: l) = w :: sl l := by simp [sl, hs]
      rw [kr, if_pos hs, kw, if_pos hs, e2, rfind_cons, rfind_cons, rfind_kr keep f s l n h2, Option.or_assoc]
    · have e2 : sl (w :: l) = sl l := by simp [sl, hs]
      rw [kr, if_neg hs, kw, if_neg hs, e2]
      split
      · rw [rfind_cons, rfind_cons, rfind_kr keep f s l (n + 1) h2, Option.or_assoc, Option.or_assoc]
        congr 1
        by_cases hw : w.f = f ∧ w.s = s
        · have hn : rfind f s (sl l) = none := rfind_none fun x hx => by
            obtain ⟨hx1, hx2⟩ := List.mem_filter.1 hx
            intro e
            exact hs (h1 x hx1 (hw.1.trans e.symm) hx2)
          rw [hn]; simp
        · rw [if_neg hw]; simp
      · exact rfind_kr keep f s l (n + 1) h2
theorem keptS_zip (keep : List UInt8) (m : List PS) : ∀ (i : Nat) (ws : List PS), i ≤ ws.length → keptS keep ws i m = ((ws.take i).zipIdx).foldl (fun m e => if dig keep e.2 = true then setL e.1.1 e.1.2 m else m) m
  | 0, ws, _ => by simp [keptS]
  | i + 1, ws, h => by
    have hi : i < ws.length := h
    rw [keptS_succ, keptS_zip keep m i ws (by omega), List.take_add_one, List.zipIdx_append, List.foldl_append]
    simp [hi, Nat.min_eq_left (Nat.le_of_lt hi)]
theorem zip_kw (keep : List UInt8) : ∀ (l : List RW) (n : Nat) (m : List PS), ((wl l).zipIdx n).foldl (fun m e => if dig keep e.2 = true then setL e.1.1 e.1.2 m else m) m = (kw keep n l).foldl (fun m w => if (fun _ : RW => true) w = true then setL (w.f, w.s) w.b m else m) m
  | [], n, m => rfl
  | w :: l, n, m => by
    by_cases hs : w.sure = true
    · have e : wl (w :: l) = wl l := by simp [wl, hs]
      rw [e, kw, if_pos hs]; exact zip_kw keep l n m
    · have e : wl (w :: l) = pk w :: wl l := by simp [wl, hs]
      rw [e, kw, if_neg hs, List.zipIdx_cons, List.foldl_cons]
      split
      · rename_i hd
        rw [List.foldl_cons, zip_kw keep l (n + 1)]; rfl
      · rename_i hd
        exact zip_kw keep l (n + 1) m
theorem look_crash (keep : List UInt8) (l : List RW) (m : List PS) (f s : Int) : look (f, s) (keptS keep (wl l) (wl l).length m) = (rfind f s (kw keep 0 l)).or (look (f, s) m) := by
  rw [keptS_zip keep m _ _ (Nat.le_refl _), List.take_length, zip_kw, look_fold, List.filter_eq_self.2 (fun _ _ => rfl)]
/-! sizes -/
theorem sizeL_ge (f : Int) (l : List PS) : ∀ e ∈ l, e.1.1 = f → e.1.2 + 1 ≤ sizeL f l := by
  have key : ∀ (l : List PS) (m : Int), m ≤ l.foldl (fun m e => if e.1.1 = f then maxI m (e.1.2 + 1) else m) m ∧ ∀ e ∈ l, e.1.1 = f → e.1.2 + 1 ≤ l.foldl (fun m e => if e.1.1 = f then maxI m (e.1.2 + 1) else m) m := by
    intro l
    induction l with
    | nil => intro m; exact ⟨Int.le_refl _, fun e h => by cases h⟩
    | cons x l ih =>
      intro m
      rw [List.foldl_cons]
      obtain ⟨h1, h2⟩ := ih (if x.1.1 = f then maxI m (x.1.2 + 1) else m)
      have hm : m ≤ (if x.1.1 = f then maxI m (x.1.2 + 1) else m) := by unfold maxI; (repeat' split) <;> omega
      refine ⟨Int.le_trans hm h1, fun e he hf => ?_⟩
      rcases List.mem_cons.1 he with rfl | he
      · refine Int.le_trans ?_ h1
        rw [if_pos hf]; unfold maxI; split <;> omega
      · exact h2 e he hf
  exact (key l 0).2
theorem sizeL_at (f : Int) (l : List PS) : sizeL f l = 0 ∨ ∃ e ∈ l, e.1.1 = f ∧ sizeL f l = e.1.2 + 1 := by
  have key : ∀ (l : List PS) (m : Int), l.foldl (fun m e => if e.1.1 = f then maxI m (e.1.2 + 1) else m) m = m ∨ ∃ e ∈ l, e.1.1 = f ∧ l.foldl (fun m e => if e.1.1 = f then maxI m (e.1.2 + 1) else m) m = e.1.2 + 1 := by
    intro l
    induction l with
    | nil => intro m; exact .inl rfl
    | cons x l ih =>
      intro m
      rw [List.foldl_cons]
      rcases ih (if x.1.1 = f then maxI m (x.1.2 + 1) else m) with h | ⟨e, h1, h2, h3⟩
      · rw [h]
        split
        · rename_i hx
          unfold maxI; split
          · exact .inr ⟨x, List.mem_cons_self .., hx, rfl⟩
          · exact .inl rfl
        · exact .inl rfl
      · exact .inr ⟨e, List.mem_cons_of_mem _ h1, h2, h3⟩
  exact key l 0
theorem rLen_ge (f : Int) (l : List RW) : 0 ≤ rLen f l → ∀ w ∈ l, w.f = f → w.s + 1 ≤ rLen f l := by
  intro _
  have key : ∀ (l : List RW) (m : Int), m ≤ l.foldl (fun n w => if w.f = f ∧ n ≤ w.s then w.s + 1 else n) m ∧ ∀ w ∈ l, w.f = f → w.s + 1 ≤ l.foldl (fun n w => if w.f = f ∧ n ≤ w.s then w.s + 1 else n) m := by
    intro l
    induction l with
    | nil => intro m; exact ⟨Int.le_refl _, fun e h => by cases h⟩
    | cons x l ih =>
      intro m
      rw [List.foldl_cons]
      obtain ⟨h1, h2⟩ := ih (if x.f = f ∧ m ≤ x.s then x.s + 1 else m)
      have hm : m ≤ (if x.f = f ∧ m ≤ x.s then x.s + 1 else m) := by split <;> omega
      refine ⟨Int.le_trans hm h1, fun e he hf => ?_⟩
      rcases List.mem_cons.1 he with rfl | he
      · refine Int.le_trans ?_ h1
        split <;> omega
      · exact h2 e he hf
  exact (key l 0).2
theorem rLen_at (f : Int) (l : List RW) : rLen f l = 0 ∨ ∃ w ∈ l, w.f = f ∧ rLen f l = w.s + 1 := by
  have key : ∀ (l : List RW) (m : Int), l.foldl (fun n w => if w.f = f ∧ n ≤ w.s then w.s + 1 else n) m = m ∨ ∃ w ∈ l, w.f = f ∧ l.foldl (fun n w => if w.f = f ∧ n ≤ w.s then w.s + 1 else n) m = w.s + 1 := by
    intro l
    induction l with
    | nil => intro m; exact .inl rfl
    | cons x l ih =>
      intro m
      rw [List.foldl_cons]
      rcases ih (if x.f = f ∧ m ≤ x.s then x.s + 1 else m) with h | ⟨e, h1, h2, h3⟩
      · rw [h]
        split
        · rename_i hx; exact .inr ⟨x, List.mem_cons_self .., hx.1, rfl⟩
        · exact .inl rfl
      · exact .inr ⟨e, List.mem_cons_of_mem _ h1, h2, h3⟩
  exact key l 0
theorem rfind_some {f s : Int} {b : Sec} : ∀ {l : List RW}, rfind f s l = some b → ∃ w ∈ l, w.f = f ∧ w.s = s ∧ w.b = b
  | [], h => by cases h
  | w :: l, h => by
    rw [rfind_cons] at h
    cases hr : rfind f s l with
    | some c =>
      rw [hr] at h
      obtain ⟨w', h1, h2⟩ := rfind_some hr
      refine ⟨w', List.mem_cons_of_mem _ h1, h2.1, h2.2.1, ?_⟩
      simp at h; rw [← h]; exact h2.2.2
    | none =>
      rw [hr] at h
      simp only [Option.none_or] at h
      split at h
      · rename_i hw; cases h; exact ⟨w, List.mem_cons_self .., hw.1, hw.2, rfl⟩
      · cases h
theorem rfind_ex {l : List RW} {w : RW} (h : w ∈ l) : ∃ b, rfind w.f w.s l = some b := by
  induction l with
  | nil => cases h
  | cons x l ih =>
    rw [rfind_cons]
    rcases List.mem_cons.1 h with rfl | h
    · rw [if_pos ⟨rfl, rfl⟩]
      cases rfind w.f w.s l with
      | none => exact ⟨_, rfl⟩
      | some c => exact ⟨c, rfl⟩
    · obtain ⟨b, hb⟩ := ih h
      exact ⟨b, by rw [hb]; rfl⟩
theorem size_eq (f : Int) {S : List PS} {K : List RW} (hn : (S.map (·.1)).Nodup) (h : ∀ p, look p S = rfind p.1 p.2 K) (hs : ∀ e ∈ S, 0 ≤ e.1.2) (hk : ∀ w ∈ K, 0 ≤ w.s) : sizeL f S = rLen f K := by
  have r0 : 0 ≤ rLen f K := by
    rcases rLen_at f K with e | ⟨w, h1, h2, h3⟩
    · omega
    · have := hk w h1; omega
  have a : sizeL f S ≤ rLen f K := by
    rcases sizeL_at f S with e | ⟨e, h1, h2, h3⟩
    · omega
    · have hl : look e.1 S = some e.2 := (look_some hn).2 h1
      rw [h] at hl
      obtain ⟨w, w1, w2, w3, _⟩ := rfind_some hl
      have := rLen_ge f K r0 w w1 (by rw [w2, h2])
      omega
  have b : rLen f K ≤ sizeL f S := by
    rcases rLen_at f K with e | ⟨w, h1, h2, h3⟩
    · rcases sizeL_at f S with e2 | ⟨x, h1, h2, h3⟩
      · omega
      · have := hs x h1; omega
    · obtain ⟨b, hb⟩ := rfind_ex h1
      have hl := (h (w.f, w.s)).trans hb
      have hm := (look_some hn).1 hl
      have := sizeL_ge f S _ hm h2
      simp only at this; omega
  omega
theorem Rel.crash {n : Nat} {D : Disk} {X : RDisk} (h : Rel n D X) (keep : List UInt8) {sh : List PS} (hp : sh.Perm (crashS D keep)) : Rel n (crashD D (crashS D keep) sh) { X with l := (rcr keep X.l).1, plan := -1, down := false } := by
  have hK : (rcr keep X.l).1 = kr keep 0 X.l := by unfold rcr; rw [rcr_kr]; rfl
  rw [hK]
  have hS : crashS D keep = keptS keep (wl X.l) (wl X.l).length D.sure := by unfold crashS; rw [h.w]
  have hws := wl_ok h.ok
  have hn : ((crashS D keep).map (·.1)).Nodup := by rw [hS]; exact keptS_nodup h.nd _
  have hok : ∀ e ∈ crashS D keep, okP e.1 ∧ e.2.length = 128 := by rw [hS]; exact keptS_ok _ hws h.s1 _ (Nat.le_refl _)
  have hl : ∀ p, look p (crashS D keep) = rfind p.1 p.2 (kr keep 0 X.l) := fun p => by
    obtain ⟨a, c⟩ := p
    rw [hS, look_crash, h.su, rfind_kr keep a c X.l 0 h.ord]
  have hall : ∀ w ∈ kr keep 0 X.l, w.sure = true := fun w hw => (kr_mem hw).1
  have hsl : sl (kr keep 0 X.l) = kr keep 0 X.l := List.filter_eq_self.2 hall
  have hk : ∀ w ∈ kr keep 0 X.l, okP (w.f, w.s) ∧ w.b.length = 128 := fun w hw => by
    obtain ⟨_, w', h1, h2, h3, h4⟩ := kr_mem hw
    have := h.ok w' h1
    rwa [h2, h3, h4] at this
  have hz : ∀ f, sizeL f sh = rLen f (kr keep 0 X.l) := fun f => by
    rw [sizeL_perm f hp]
    exact size_eq f hn hl (fun e he => (hok e he).1.2.1) (fun w hw => (hk w hw).1.2.1)
  refine ⟨h.q, h.c, rfl, .inl ⟨rfl, rfl⟩, ?_, fun p => ?_, fun p => ?_, hz 0, hz 1, ?_, hk, hn, hok, fun e he => (hok e (hp.mem_iff.1 he)).2, ?_⟩
  · simp only [crashD]
    have : wl (kr keep 0 X.l) = [] := by
      unfold wl
      rw [List.filter_eq_nil_iff.2 (fun w hw => by simp [hall w hw])]; rfl
    exact this.symm
  · exact (look_perm hp hn).trans (hl p)
  · simp only [hsl]; exact hl p
  · show Ord (kr keep 0 X.l)
    unfold Ord
    exact List.Pairwise.imp_of_mem (fun {a b} ha _ _ _ _ => hall a ha) (List.pairwise_of_forall (R := fun _ _ => True) (fun _ _ => trivial))
  · exact Nat.le_trans (kr_len X.l 0) h.n
/-! what is read -/
theorem Rel.read {n : Nat} {D : Disk} {X : RDisk} (h : Rel n D X) (f s : Int) : readE D f s = rreadE X f s ∧ readV D f s = rreadV X f s := by
  have e : readE D f s = rreadE X f s := by
    unfold readE rreadE
    by_cases hb : rbad f s
    · have ha : askV D f (decide (s < 0)) = 1 := by unfold askV; rw [if_pos (by unfold rbad at hb; simp; omega)]
      rw [if_neg (by rw [ha]; decide), ha, if_pos hb]
    · rw [if_neg hb]
      have hnb : ¬ ((decide (f < 0) || decide (2 ≤ f) || decide (s < 0)) = true) := by unfold rbad at hb; simp; omega
      cases hd : D.down with
      | true =>
        have ha : askV D f (decide (s < 0)) = 51 := by unfold askV; rw [if_neg hnb, if_pos hd]
        rw [if_neg (by rw [ha]; decide), ha, if_pos (h.dn ▸ hd)]
      | false =>
        have ha : askV D f (decide (s < 0)) = 0 := by unfold askV; rw [if_neg hnb, if_neg (by simp [hd])]
        have hx : ¬ X.down = true := by rw [← h.dn, hd]; decide
        rw [if_pos ha, if_neg hx, h.dsize (by unfold rbad at hb; omega)]
  refine ⟨e, ?_⟩
  unfold readV rreadV readB
  rw [e, h.sh]
theorem Rel.new {q : Int} : Rel 0 (Disk.new q) ⟨q, [], 0, -1, false⟩ :=
  ⟨rfl, rfl, rfl, .inl ⟨rfl, rfl⟩, rfl, fun _ => rfl, fun _ => rfl, rfl, rfl, List.Pairwise.nil, fun w h => (by cases h), List.nodup_nil, fun e h => (by cases h), fun e h => (by cases h), Nat.le_refl _⟩
theorem Rel.fail {n : Nat} {D : Disk} {X : RDisk} (h : Rel n D X) {k : Int} (h1 : 0 ≤ k) (h2 : k ≤ 9223372036854775807) : Rel n { D with plan := true, left := k } { X with plan := k } :=
  ⟨h.q, h.c, h.dn, .inr ⟨rfl, rfl, h1, h2⟩, h.w, h.sh, h.su, h.z0, h.z1, h.ord, h.ok, h.nd, h.s1, h.s2, h.n⟩
theorem Rel.quota {n : Nat} {D : Disk} {X : RDisk} (h : Rel n D X) (k : Int) : Rel n { D with quota := k } { X with quota := k } :=
  ⟨rfl, h.c, h.dn, h.pl, h.w, h.sh, h.su, h.z0, h.z1, h.ord, h.ok, h.nd, h.s1, h.s2, h.n⟩
theorem fresh4 (σ : Hp) (d : Nat) : ∃ a b c, σ.get a = none ∧ σ.get b = none ∧ σ.get c = none ∧ a ≠ d ∧ b ≠ d ∧ c ≠ d ∧ b ≠ a ∧ c ≠ a ∧ c ≠ b := by
  obtain ⟨n, hn⟩ := σ.fin
  exact ⟨n + d + 1, n + d + 2, n + d + 3, hn _ (by omega), hn _ (by omega), hn _ (by omega), by omega, by omega, by omega, by omega, by omega, by omega⟩
theorem DiskAt.ex (D : Disk) (d : Nat) (τ : Hp) (hd : τ.get d = none) : ∃ σ, DiskAt D d σ ∧ Disj σ τ := by
  obtain ⟨g1, g2, gt, h1, h2, h3, n1, n2, n3, n4, n5, n6⟩ := fresh4 τ d
  refine ⟨(((Hp.empty.set d (.cells (dcells D g1 g2 (.sl 3 (D.waits.map encW) (.tk gt))))).set g1 (.map (encM D.sure) [] 0)).set g2 (.map (encM D.shown) [] 0)).set gt (.tok 3 D.waits.length), DiskAt.of (g1 := g1) (g2 := g2) (gt := gt) ?_ ?_ ?_ ?_ n1 n2 n3 n4 n5 n6, ?_⟩
  · simp [Hp.get_set, n1.symm, n2.symm, n3.symm]
  · exact ⟨[], 0, by simp [Hp.get_set, n4.symm, n5.symm]⟩
  · exact ⟨[], 0, by simp [Hp.get_set, n6.symm]⟩
  · simp
  · intro i
    simp only [Hp.get_set]
    (repeat' split) <;> first | (subst_vars; first | exact .inr hd | exact .inr h1 | exact .inr h2 | exact .inr h3) | exact .inl rfl
theorem RDiskAt.ex (X : RDisk) (x : Nat) (τ : Hp) (hx : τ.get x = none) : ∃ σ, RDiskAt X x σ ∧ Disj τ σ := by
  obtain ⟨gl, _, _, h1, _, _, n1, _⟩ := fresh4 τ x
  refine ⟨(Hp.empty.set x (.cells (rcells X gl X.l.length))).set gl (.cells (flat (X.l.map encR))), ⟨gl, X.l.length, [], ⟨?_, ?_, ?_, ?_, n1⟩⟩, ?_⟩
  · simp [Hp.get_set, n1.symm]
  · simp [cellsAt]
  · rw [List.append_nil, rows_len encR 4 encR_len]
  · simp [isCells]
  · intro i
    simp only [Hp.get_set]
    (repeat' split) <;> first | (subst_vars; first | exact .inl hx | exact .inl h1) | exact .inr rfl
theorem DiskAt.name {D : Disk} {d : Nat} {σ τ : Hp} (h : DiskAt D d σ) (hj : Disj σ τ) : τ.get d = none := by
  obtain ⟨g1, g2, gt, h⟩ := h.hd
  exact hj.get h
theorem RDiskAt.name {X : RDisk} {x : Nat} {σ τ : Hp} (h : RDiskAt X x τ) (hj : Disj σ τ) : σ.get x = none := by
  obtain ⟨gl, cap, tl, h⟩ := h
  exact hj.symm.get h.hx
section
variable {P : Program} {K : Env → Hp → Prop} {U : List Nat} {σ τ : Hp} {env : Env}
theorem callFD {dst : Option Tmp} {f : FuncId} {args : List V} {Post : V → Hp → Prop} (hU : (!memN f U && !memN (f + 1000000) U) = true) (h : Spec P f args σ Post) (hd : Disj σ τ) (he : ∃ v σ', Post v σ' ∧ Disj σ' τ) (hk : ∀ v σ', Post v σ' → Disj σ' τ → K (env.put dst v) (σ'.join τ)) : CallK P true U K dst env (σ.join τ) f args := by
  simp only [Bool.and_eq_true, Bool.not_eq_true'] at hU
  obtain ⟨v, σ', h1, h2⟩ := he
  exact callSD hU.1 hU.2 (h.frame τ hd) ⟨v, _, σ', h1, h2, rfl⟩ fun v σ' ⟨τ', h1, h2, h3⟩ => by subst h3; exact hk v τ' h1 h2
theorem callF2D {dst : Option Tmp} {f : FuncId} {args : List V} {Post : V → Hp → Prop} (hU : (!memN f U && !memN (f + 1000000) U) = true) (h : Spec P f args τ Post) (hd : Disj σ τ) (he : ∃ v σ', Post v σ' ∧ Disj σ σ') (hk : ∀ v σ', Post v σ' → Disj σ σ' → K (env.put dst v) (σ.join σ')) : CallK P true U K dst env (σ.join τ) f args := by
  simp only [Bool.and_eq_true, Bool.not_eq_true'] at hU
  obtain ⟨v, σ', h1, h2⟩ := he
  have h3 := h.frame σ hd.symm
  rw [← hd.join_comm] at h3
  exact callSD hU.1 hU.2 h3 ⟨v, _, σ', h1, h2.symm, rfl⟩ fun v σ' ⟨τ', h1, h2, h3⟩ => by subst h3; rw [h2.join_comm]; exact hk v τ' h1 h2.symm
end
theorem Rel.dok {n : Nat} {D : Disk} {X : RDisk} (h : Rel n D X) : D.Ok := by
  have hb : ∀ f, 0 ≤ rLen f X.l ∧ rLen f X.l ≤ 65536 := fun f => rLen_bound f X.l fun w hw => ⟨(h.ok w hw).1.2.1, (h.ok w hw).1.2.2⟩
  refine ⟨fun e he => (h.s1 e he).2, h.s2, fun e he => ?_, ?_, ?_, ?_, ?_⟩
  · rw [h.w] at he; exact (wl_ok h.ok e he).2
  all_goals first | (rw [h.z0]; first | exact (hb 0).1 | exact (hb 0).2) | (rw [h.z1]; first | exact (hb 1).1 | exact (hb 1).2)
theorem Rel.dok2 {n : Nat} {D : Disk} {X : RDisk} (h : Rel n D X) : D.Ok2 := ⟨fun e he => (h.s1 e he).1, fun e he => by rw [h.w] at he; exact (wl_ok h.ok e he).1, h.nd⟩
theorem Rel.dw {n : Nat} {D : Disk} {X : RDisk} (h : Rel n D X) : D.waits.length ≤ n := by
  rw [h.w]; unfold wl; rw [List.length_map]
  exact Nat.le_trans (List.length_filter_le _ _) h.n
theorem Rel.xs {n : Nat} {D : Disk} {X : RDisk} (h : Rel n D X) : ∀ w ∈ X.l, 0 ≤ w.s ∧ w.s ≤ 65535 := fun w hw => ⟨(h.ok w hw).1.2.1, (h.ok w hw).1.2.2⟩
theorem Rel.waits {n : Nat} {D : Disk} {X : RDisk} (h : Rel n D X) : D.waits.length = rwaits X.l := by
  rw [h.w]; unfold wl; rw [List.length_map]
  have key : ∀ (l : List RW) (m : Nat), l.foldl (fun n w => if w.sure = true then n else n + 1) m = m + (l.filter fun w => !w.sure).length := by
    intro l
    induction l with
    | nil => intro m; rfl
    | cons w l ih =>
      intro m
      rw [List.foldl_cons, ih]
      by_cases hs : w.sure = true
      · simp [hs]
      · simp [hs]; omega
  unfold rwaits; rw [key]; omega
end Go.Vm.Try
