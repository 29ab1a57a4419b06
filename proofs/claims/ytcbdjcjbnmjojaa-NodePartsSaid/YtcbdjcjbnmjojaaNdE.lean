/- Walks of functions of the program, and laws of what they compute. -/
import Derived.Test.YtcbdjcjbnmjojaaNdD
set_option linter.unusedSimpArgs false
set_option linter.unusedVariables false
set_option maxHeartbeats 4000000
set_option maxRecDepth 20000
namespace Go.Vm.Try
open Go.Proofs Go.Vm.Node
def nd0 : Nd := ⟨false, [], [], []⟩
def readN (b : List UInt8) : Nd × Int := match readB b with
  | some x => (ofR x, 0)
  | none => (nd0, 3)
def ndc (leaf : Bool) (ks : List (List UInt8)) (cs : List Cl) (ds : List Int) (gk gc : Nat) : List V := if leaf then [.bool true, .sl 1 (ks.map st) (.tk gk), .sl 3 (cs.map encC) (.tk gc), .sl 0 [] .full] else [.bool false, .sl 1 (ks.map st) (.tk gk), .sl 0 [] .full, .sl 1 (ds.map (V.int .i64)) (.tk gc)]
structure RdSt (leaf : Bool) (ks : List (List UInt8)) (cs : List Cl) (ds : List Int) (rest : List UInt8) (g2 g4 g5 gk gc : Nat) (σ : Hp) : Prop where
  h2 : σ.get g2 = some (.cells [.bool false, .sl 0 [] .full, .sl 0 [] .full, .sl 0 [] .full])
  h4 : σ.get g4 = some (.cells [.sl 1 (rest.map u8) .no])
  h5 : σ.get g5 = some (.cells (ndc leaf ks cs ds gk gc))
  hk : σ.get gk = some (.tok 1 ks.length)
  hc : σ.get gc = some (if leaf then .tok 3 cs.length else .tok 1 ds.length)
  n1 : g2 ≠ g4
  n2 : g2 ≠ g5
  n3 : g4 ≠ g5
  n4 : gk ≠ gc
theorem RdSt.ne {leaf : Bool} {ks : List (List UInt8)} {cs : List Cl} {ds : List Int} {rest : List UInt8} {g2 g4 g5 gk gc : Nat} {σ : Hp} (h : RdSt leaf ks cs ds rest g2 g4 g5 gk gc σ) :
    g2 ≠ gk ∧ g4 ≠ gk ∧ g5 ≠ gk ∧ g2 ≠ gc ∧ g4 ≠ gc ∧ g5 ≠ gc := by
  have h2 := h.h2; have h4 := h.h4; have h5 := h.h5; have hk := h.hk; have hc := h.hc
  refine ⟨?_, ?_, ?_, ?_, ?_, ?_⟩ <;> rintro rfl <;> cases leaf <;> simp_all
theorem RdSt.nes {leaf : Bool} {ks : List (List UInt8)} {cs : List Cl} {ds : List Int} {rest : List UInt8} {g2 g4 g5 gk gc : Nat} {σ : Hp} (h : RdSt leaf ks cs ds rest g2 g4 g5 gk gc σ) :
    ((g2 = g4) = False ∧ (g4 = g2) = False) ∧ ((g2 = g5) = False ∧ (g5 = g2) = False) ∧ ((g4 = g5) = False ∧ (g5 = g4) = False) ∧ ((gk = gc) = False ∧ (gc = gk) = False) ∧ ((g2 = gk) = False ∧ (gk = g2) = False) ∧ ((g4 = gk) = False ∧ (gk = g4) = False) ∧ ((g5 = gk) = False ∧ (gk = g5) = False) ∧
    ((g2 = gc) = False ∧ (gc = g2) = False) ∧ ((g4 = gc) = False ∧ (gc = g4) = False) ∧ ((g5 = gc) = False ∧ (gc = g5) = False) :=
  have n := h.ne
  ⟨ne2 h.n1, ne2 h.n2, ne2 h.n3, ne2 h.n4, ne2 n.1, ne2 n.2.1, ne2 n.2.2.1, ne2 n.2.2.2.1, ne2 n.2.2.2.2.1, ne2 n.2.2.2.2.2⟩
/-- Read on. -/
theorem RdSt.step {leaf : Bool} {ks : List (List UInt8)} {cs : List Cl} {ds : List Int} {rest : List UInt8} {g2 g4 g5 gk gc : Nat} {σ : Hp} (h : RdSt leaf ks cs ds rest g2 g4 g5 gk gc σ) (rest' : List UInt8) :
    RdSt leaf ks cs ds rest' g2 g4 g5 gk gc (σ.set g4 (.cells [.sl 1 (rest'.map u8) .no])) := by
  have n := h.nes
  refine ⟨?_, ?_, ?_, ?_, ?_, h.n1, h.n2, h.n3, h.n4⟩ <;> simp only [Hp.get_set, n, if_true, if_false]
  · exact h.h2
  · exact h.h5
  · exact h.hk
  · exact h.hc
theorem RdSt.key {leaf : Bool} {ks : List (List UInt8)} {cs : List Cl} {ds : List Int} {rest : List UInt8} {g2 g4 g5 gk gc : Nat} {σ : Hp} (h : RdSt leaf ks cs ds rest g2 g4 g5 gk gc σ) (k : List UInt8) {l : List V} (hl : l = ndc leaf (ks ++ [k]) cs ds gk gc) :
    RdSt leaf (ks ++ [k]) cs ds rest g2 g4 g5 gk gc ((σ.set gk (.tok 1 (ks.length + 1))).set g5 (.cells l)) := by
  have n := h.nes
  refine ⟨?_, ?_, ?_, ?_, ?_, h.n1, h.n2, h.n3, h.n4⟩ <;> simp only [Hp.get_set, n, if_true, if_false]
  · exact h.h2
  · exact h.h4
  · rw [hl]
  · simp
  · exact h.hc
theorem RdSt.kid {ks : List (List UInt8)} {cs : List Cl} {ds : List Int} {rest : List UInt8} {g2 g4 g5 gk gc : Nat} {σ : Hp} (h : RdSt false ks cs ds rest g2 g4 g5 gk gc σ) (d : Int) {l : List V} (hl : l = ndc false ks cs (ds ++ [d]) gk gc) :
    RdSt false ks cs (ds ++ [d]) rest g2 g4 g5 gk gc ((σ.set gc (.tok 1 (ds.length + 1))).set g5 (.cells l)) := by
  have n := h.nes
  refine ⟨?_, ?_, ?_, ?_, ?_, h.n1, h.n2, h.n3, h.n4⟩ <;> simp only [Hp.get_set, n, if_true, if_false]
  · exact h.h2
  · exact h.h4
  · rw [hl]
  · exact h.hk
  · simp
theorem RdSt.cell {ks : List (List UInt8)} {cs : List Cl} {ds : List Int} {rest : List UInt8} {g2 g4 g5 gk gc : Nat} {σ : Hp} (h : RdSt true ks cs ds rest g2 g4 g5 gk gc σ) (c : Cl) {l : List V} (hl : l = ndc true ks (cs ++ [c]) ds gk gc) :
    RdSt true ks (cs ++ [c]) ds rest g2 g4 g5 gk gc ((σ.set gc (.tok 3 (cs.length + 1))).set g5 (.cells l)) := by
  have n := h.nes
  refine ⟨?_, ?_, ?_, ?_, ?_, h.n1, h.n2, h.n3, h.n4⟩ <;> simp only [Hp.get_set, n, if_true, if_false]
  · exact h.h2
  · exact h.h4
  · rw [hl]
  · exact h.hk
  · simp
/-- Beside it, a part of a leaf. -/
structure Rd8 (leaf : Bool) (ks : List (List UInt8)) (cs : List Cl) (ds : List Int) (rest : List UInt8) (c : Cl) (g2 g4 g5 gk gc g8 : Nat) (σ : Hp) : Prop where
  S : RdSt leaf ks cs ds rest g2 g4 g5 gk gc σ
  h8 : σ.get g8 = some (.cells [.int .i64 c.len, st c.data, .int .i64 c.page])
  m2 : g8 ≠ g2
  m4 : g8 ≠ g4
  m5 : g8 ≠ g5
  m6 : g8 ≠ gk
  m7 : g8 ≠ gc
theorem RdSt.new8 {leaf : Bool} {ks : List (List UInt8)} {cs : List Cl} {ds : List Int} {rest : List UInt8} {g2 g4 g5 gk gc g8 : Nat} {σ : Hp} (h : RdSt leaf ks cs ds rest g2 g4 g5 gk gc σ) (h0 : σ.get g8 = none) (c : Cl) :
    Rd8 leaf ks cs ds rest c g2 g4 g5 gk gc g8 (σ.set g8 (.cells [.int .i64 c.len, st c.data, .int .i64 c.page])) := by
  have a2 : g2 ≠ g8 := fun e => by have := h.h2; rw [e, h0] at this; cases this
  have a4 : g4 ≠ g8 := fun e => by have := h.h4; rw [e, h0] at this; cases this
  have a5 : g5 ≠ g8 := fun e => by have := h.h5; rw [e, h0] at this; cases this
  have ak : gk ≠ g8 := fun e => by have := h.hk; rw [e, h0] at this; cases this
  have ac : gc ≠ g8 := fun e => by have := h.hc; rw [e, h0] at this; cases this
  refine ⟨⟨?_, ?_, ?_, ?_, ?_, h.n1, h.n2, h.n3, h.n4⟩, Hp.get_set_same _ _ _, a2.symm, a4.symm, a5.symm, ak.symm, ac.symm⟩
  · rw [Hp.get_set_ne _ _ a2]; exact h.h2
  · rw [Hp.get_set_ne _ _ a4]; exact h.h4
  · rw [Hp.get_set_ne _ _ a5]; exact h.h5
  · rw [Hp.get_set_ne _ _ ak]; exact h.hk
  · rw [Hp.get_set_ne _ _ ac]; exact h.hc
theorem Rd8.set8 {leaf : Bool} {ks : List (List UInt8)} {cs : List Cl} {ds : List Int} {rest : List UInt8} {c : Cl} {g2 g4 g5 gk gc g8 : Nat} {σ : Hp} (h : Rd8 leaf ks cs ds rest c g2 g4 g5 gk gc g8 σ) (c' : Cl) :
    Rd8 leaf ks cs ds rest c' g2 g4 g5 gk gc g8 (σ.set g8 (.cells [.int .i64 c'.len, st c'.data, .int .i64 c'.page])) := by
  refine ⟨⟨?_, ?_, ?_, ?_, ?_, h.S.n1, h.S.n2, h.S.n3, h.S.n4⟩, Hp.get_set_same _ _ _, h.m2, h.m4, h.m5, h.m6, h.m7⟩
  · rw [Hp.get_set_ne _ _ h.m2.symm]; exact h.S.h2
  · rw [Hp.get_set_ne _ _ h.m4.symm]; exact h.S.h4
  · rw [Hp.get_set_ne _ _ h.m5.symm]; exact h.S.h5
  · rw [Hp.get_set_ne _ _ h.m6.symm]; exact h.S.hk
  · rw [Hp.get_set_ne _ _ h.m7.symm]; exact h.S.hc
theorem Rd8.of {leaf : Bool} {ks ks' : List (List UInt8)} {cs cs' : List Cl} {ds ds' : List Int} {rest rest' : List UInt8} {c : Cl} {g2 g4 g5 gk gc g8 : Nat} {σ σ' : Hp} (h : Rd8 leaf ks cs ds rest c g2 g4 g5 gk gc g8 σ) (hS : RdSt leaf ks' cs' ds' rest' g2 g4 g5 gk gc σ') (e : σ'.get g8 = σ.get g8) :
    Rd8 leaf ks' cs' ds' rest' c g2 g4 g5 gk gc g8 σ' := ⟨hS, e.trans h.h8, h.m2, h.m4, h.m5, h.m6, h.m7⟩
theorem RdSt.leaf0 {τ : Hp} {rest : List UInt8} {ga gr gn tk tc : Nat} {l1 : List V} (h2 : τ.get ga = some (.cells [.bool false, .sl 0 [] .full, .sl 0 [] .full, .sl 0 [] .full])) (h4 : τ.get gr = some (.cells [.sl 1 (rest.map u8) .no])) (h5 : τ.get gn = some (.cells [.bool true, .sl 0 [] .full, .sl 0 [] .full, .sl 0 [] .full]))
    (n1 : ga ≠ gr) (n2 : ga ≠ gn) (n3 : gr ≠ gn) (hk : τ.get tk = none) (hc : ((τ.set tk (.tok 1 0)).set gn (.cells l1)).get tc = none) :
    RdSt true [] [] [] rest ga gr gn tk tc ((((τ.set tk (.tok 1 0)).set gn (.cells l1)).set tc (.tok 3 0)).set gn (.cells [.bool true, .sl 1 [] (.tk tk), .sl 3 [] (.tk tc), .sl 0 [] .full])) := by
  have a1 : ga ≠ tk := fun e => by rw [e, hk] at h2; cases h2
  have a2 : gr ≠ tk := fun e => by rw [e, hk] at h4; cases h4
  have a3 : gn ≠ tk := fun e => by rw [e, hk] at h5; cases h5
  rw [Hp.get_set] at hc
  split at hc
  · cases hc
  rename_i b3
  rw [Hp.get_set] at hc
  split at hc
  · cases hc
  rename_i b4
  have b1 : ga ≠ tc := fun e => by rw [e, hc] at h2; cases h2
  have b2 : gr ≠ tc := fun e => by rw [e, hc] at h4; cases h4
  have e1 := ne2 n1; have e2 := ne2 n2; have e3 := ne2 n3; have e4 := ne2 a1; have e5 := ne2 a2; have e6 := ne2 a3; have e7 := ne2 b1; have e8 := ne2 b2; have e9 := ne2 b3; have e10 := ne2 b4
  refine ⟨?_, ?_, ?_, ?_, ?_, n1, n2, n3, Ne.symm b4⟩ <;> simp only [Hp.get_set, e1, e2, e3, e4, e5, e6, e7, e8, e9, e10, if_true, if_false]
  · exact h2
  · exact h4
  · rfl
  · rfl
  · rfl
theorem RdSt.inner0 {τ : Hp} {rest rest' : List UInt8} {kid : Int} {ga gr gn tk gd : Nat} {l1 : List V} {b5 : Blk} (h2 : τ.get ga = some (.cells [.bool false, .sl 0 [] .full, .sl 0 [] .full, .sl 0 [] .full])) (h4 : τ.get gr = some (.cells [.sl 1 (rest.map u8) .no])) (h5 : τ.get gn = some b5)
    (n1 : ga ≠ gr) (n2 : ga ≠ gn) (n3 : gr ≠ gn) (hd : (τ.set gr (.cells [.sl 1 (rest'.map u8) .no])).get gd = none) (hk : (((τ.set gr (.cells [.sl 1 (rest'.map u8) .no])).set gd (.tok 1 1)).set gn (.cells l1)).get tk = none) :
    RdSt false [] [] [kid] rest' ga gr gn tk gd (((((τ.set gr (.cells [.sl 1 (rest'.map u8) .no])).set gd (.tok 1 1)).set gn (.cells l1)).set tk (.tok 1 0)).set gn (.cells [.bool false, .sl 1 [] (.tk tk), .sl 0 [] .full, .sl 1 [.int .i64 kid] (.tk gd)])) := by
  rw [Hp.get_set] at hd
  split at hd
  · cases hd
  rename_i c1
  have c2 : ga ≠ gd := fun e => by rw [e, hd] at h2; cases h2
  have c3 : gn ≠ gd := fun e => by rw [e, hd] at h5; cases h5
  rw [Hp.get_set] at hk
  split at hk
  · cases hk
  rename_i c4
  rw [Hp.get_set] at hk
  split at hk
  · cases hk
  rename_i c5
  rw [Hp.get_set] at hk
  split at hk
  · cases hk
  rename_i c6
  have c7 : ga ≠ tk := fun e => by rw [e, hk] at h2; cases h2
  have e1 := ne2 n1; have e2 := ne2 n2; have e3 := ne2 n3; have e4 := ne2 c1; have e5 := ne2 c2; have e6 := ne2 c3; have e7 := ne2 c4; have e8 := ne2 c5; have e9 := ne2 c6; have e10 := ne2 c7
  refine ⟨?_, ?_, ?_, ?_, ?_, n1, n2, n3, c5⟩ <;> simp only [Hp.get_set, e1, e2, e3, e4, e5, e6, e7, e8, e9, e10, if_true, if_false]
  · exact h2
  · rfl
  · rfl
  · rfl
def kid0 (b : List UInt8) : Int := if pfx b then 0 else val (first 4 (b.drop 3))
def Xk (b : List UInt8) (k : Nat) : Nd := ofR ⟨pfx b, kid0 b, rdL (pfx b) k (Node.rest b)⟩
def RdK (b : List UInt8) (k : Nat) (ga gr gn tk tc : Nat) (σ : Hp) : Prop := RdSt (pfx b) (Xk b k).keys (Xk b k).cells (Xk b k).kids (rdR (pfx b) k (Node.rest b)) ga gr gn tk tc σ
theorem RdK.leaf0 {b : List UInt8} {ga gr gn tk tc : Nat} {σ : Hp} (hl : pfx b = true) (h : RdSt true [] [] [] (b.drop 3) ga gr gn tk tc σ) : RdK b 0 ga gr gn tk tc σ := by
  unfold RdK Xk Node.rest kid0; rw [hl]; exact h
theorem RdK.inner0 {b : List UInt8} {ga gr gn tk tc : Nat} {σ : Hp} (hl : pfx b = false) (h : RdSt false [] [] [((val (first 4 (b.drop 3)) : Nat) : Int)] ((b.drop 3).drop 4) ga gr gn tk tc σ) : RdK b 0 ga gr gn tk tc σ := by
  rw [List.drop_drop] at h
  unfold RdK Xk Node.rest kid0; rw [hl]; exact h

theorem keeps_set {σ : Hp} {r : Nat} {a x : V} (h : σ.get r = some (.cells [a])) : Keeps σ (σ.set r (.cells [x])) := fun g cs hg hl => by
  have hn : g ≠ r := fun e => by
    rw [e, h] at hg; cases hg; simp at hl
  rw [Hp.get_set_ne _ _ hn]; exact hg
theorem rdP_len (leaf : Bool) (r : List UInt8) : (rdP leaf r).2.length ≤ r.length := by rw [rdP_snd, List.length_drop]; omega
theorem rdR_len (leaf : Bool) : ∀ (k : Nat) (r : List UInt8), (rdR leaf k r).length ≤ r.length
  | 0, _ => Nat.le_refl _
  | k + 1, r => Nat.le_trans (rdR_len leaf k _) (rdP_len leaf r)
theorem rdRb_len (b : List UInt8) (k : Nat) : (rdR (pfx b) k (Node.rest b)).length ≤ b.length := by
  refine Nat.le_trans (rdR_len _ _ _) ?_
  unfold Node.rest; split <;> simp
theorem Xk_keys (b : List UInt8) (k : Nat) : (Xk b k).keys.length = k := by simp [Xk, ofR, rdL_len]
theorem Xk_cells (b : List UInt8) (k : Nat) (h : pfx b = true) : (Xk b k).cells.length = k := by simp [Xk, ofR, rdL_len, h]
theorem Xk_kids (b : List UInt8) (k : Nat) (h : pfx b = false) : (Xk b k).kids.length = k + 1 := by simp [Xk, ofR, rdL_len, h]
theorem first1_lt (r : List UInt8) : val (first 1 r) < 256 := by have := val_lt (first 1 r); rwa [first_len] at this
theorem first2_lt (r : List UInt8) : val (first 2 r) < 65536 := by have := val_lt (first 2 r); rwa [first_len] at this
theorem RdK.inner {b : List UInt8} {k ga gr gn tk tc : Nat} {σ : Hp} {r0 : List UInt8} (hl : pfx b = false) (h0 : rdR (pfx b) k (Node.rest b) = r0)
    (h : RdSt false ((Xk b k).keys ++ [first (val (first 1 r0)) (r0.drop 1)]) (Xk b k).cells ((Xk b k).kids ++ [((val (first 4 ((r0.drop 1).drop (val (first 1 r0)))) : Nat) : Int)]) (((r0.drop 1).drop (val (first 1 r0))).drop 4) ga gr gn tk tc σ) : RdK b (k + 1) ga gr gn tk tc σ := by
  unfold RdK
  have e : rdR (pfx b) (k + 1) (Node.rest b) = ((r0.drop 1).drop (val (first 1 r0))).drop 4 := by rw [rdR_snoc, h0, hl]; rfl
  rw [e]
  unfold Xk at h ⊢
  rw [rdL_snoc, h0]
  rw [hl] at h ⊢
  simpa [ofR, rdP] using h
theorem RdK.leaf {b : List UInt8} {k ga gr gn tk tc : Nat} {σ : Hp} {r0 : List UInt8} (hl : pfx b = true) (h0 : rdR (pfx b) k (Node.rest b) = r0) {c : Cl} {r4 : List UInt8}
    (hc : c = ⟨(rdP true r0).1.len, (rdP true r0).1.data, (rdP true r0).1.page⟩) (hr : r4 = (rdP true r0).2)
    (h : RdSt true ((Xk b k).keys ++ [first (val (first 1 r0)) ((r0.drop 1).drop 2)]) ((Xk b k).cells ++ [c]) (Xk b k).kids r4 ga gr gn tk tc σ) : RdK b (k + 1) ga gr gn tk tc σ := by
  unfold RdK
  have e : rdR (pfx b) (k + 1) (Node.rest b) = (rdP true r0).2 := by rw [rdR_snoc, h0, hl]
  have ek : (rdP true r0).1.key = first (val (first 1 r0)) ((r0.drop 1).drop 2) := by unfold rdP; simp only [if_true]; split <;> rfl
  rw [e, ← hr]
  unfold Xk at h ⊢
  rw [rdL_snoc, h0]
  rw [hl] at h ⊢
  rw [hc, ← ek] at h
  simpa [ofR] using h
theorem Xk_parse (b : List UInt8) : Xk b (min (cnt b) 512) = ofR (parse b) := by
  unfold Xk parse kid0 Node.rest
  rw [pfx_eq]
  cases pfx b <;> rfl
theorem parse_sm (b : List UInt8) : Sm (ofR (parse b)) := by
  have h : (parse b).l.length ≤ 512 := by
    unfold parse
    simp only
    split <;> simp only [rdL_len] <;> omega
  refine ⟨?_, ?_, ?_⟩ <;> simp only [ofR]
  · simp; omega
  · split <;> simp; omega
  · split <;> simp; omega
theorem wk_leaf {X : Nd} {ks : List (List UInt8)} {cs : List Cl} {tk tc : Nat} (h1 : X.leaf = true) (h2 : X.keys = ks) (h3 : X.cells = cs) (h4 : X.kids = []) : Wks [.bool true, .sl 1 (ks.map st) (.tk tk), .sl 3 (cs.map encC) (.tk tc), .sl 0 [] .full] (ncs X) := by
  unfold ncs; rw [h1, h2, h3, h4]
  exact ⟨Wk.refl _, Wk.untag _ _ _, Wk.untag _ _ _, Wk.nil _ _ _, trivial⟩
theorem wk_inner {X : Nd} {ks : List (List UInt8)} {ds : List Int} {tk tc : Nat} (h1 : X.leaf = false) (h2 : X.keys = ks) (h3 : X.kids = ds) (h4 : X.cells = []) : Wks [.bool false, .sl 1 (ks.map st) (.tk tk), .sl 0 [] .full, .sl 1 (ds.map (V.int .i64)) (.tk tc)] (ncs X) := by
  unfold ncs; rw [h1, h2, h3, h4]
  exact ⟨Wk.refl _, Wk.untag _ _ _, Wk.nil _ _ _, Wk.untag _ _ _, trivial⟩
theorem readN_ok {b : List UInt8} (h1 : b.length = 512) (h2 : (writeN (ofR (parse b))).2 = 0) (h3 : (writeN (ofR (parse b))).1 = b) : readN b = (ofR (parse b), 0) := by
  have : writeR (parse b) = (b, 0) := by rw [← writeN_ofR (parse_pure b)]; exact Prod.ext h3 h2
  unfold readN readB
  rw [if_pos ⟨h1, this⟩]
theorem readN_no1 {b : List UInt8} (h2 : (writeN (ofR (parse b))).2 ≠ 0) : readN b = (nd0, 3) := by
  unfold readN readB
  rw [if_neg (fun h => h2 (by rw [writeN_ofR (parse_pure b), h.2]))]
theorem readN_no2 {b : List UInt8} (h3 : (writeN (ofR (parse b))).1 ≠ b) : readN b = (nd0, 3) := by
  unfold readN readB
  rw [if_neg (fun h => h3 (by rw [writeN_ofR (parse_pure b), h.2]))]
theorem S_anyK {n : Nat} {P : Program} {env : Env} {Q : Exit → Env → Hp → Prop} {cs : List Code} {b : List UInt8} {k ga gr gn : Nat} {σ : Hp} (h : ∃ tk tc, RdK b k ga gr gn tk tc σ) (hk : ∀ tk tc τ, RdK b k ga gr gn tk tc τ → WS n P cs Q env τ) : WS n P cs Q env σ := by
  obtain ⟨tk, tc, h⟩ := h
  exact hk tk tc σ h

theorem bequal_spec (a b : List UInt8) : PSpec Go.Proofs.Try.prog 64 [.sl 1 (a.map u8) .no, .sl 1 (b.map u8) .no] (.bool (decide (a = b))) := by
 refine introP (n := 10) (rs := [.tmp 4]) (fn := Go.Proofs.Try.f64) (by first | exact Go.Proofs.Try.func64 | rfl) rfl (by kernel_rfl) rfl rfl (Nat.le_of_ble_eq_true rfl) (fun Q0 hQ0 => ?_)
 refine WS.seq ?_
 refine A1 [0, 1] (by decide) ?_
 refine WS.seq ?_
 refine R0 fun K hK => ?_
 try simp (maxSteps := 4000000) (disch := omega) only [push_cast, Nat.reduceLT, Nat.reduceEqDiff, Int.reduceToNat, Int.reduceLT, Int.reduceLE, Int.reduceAdd, Int.reduceSub, Int.reduceMul, Int.reduceNeg, Int.reduceEq, reduceCtorEq, Int.cast_ofNat_Int, Hp.get_set, all_u8]
 (repeat refine And.intro (by first | omega | (simp; done) | (simp_all; done) | (simp_all; omega)) ?_)
 refine Qk hK [4] ?_
 clear hK K
 refine Rt ?_
 refine hQ0 _ _ _ ?_
 try simp (maxSteps := 4000000) only [push_cast, Int.reduceToNat, Int.reduceLT, Int.reduceLE, Int.reduceAdd, Int.reduceSub, Int.reduceMul, Int.reduceNeg, Int.reduceEq, reduceCtorEq, Nat.reduceLeDiff, Nat.reduceLT, Nat.reduceEqDiff, Nat.reduceAdd, Nat.reduceMul, Nat.reduceSub, Int.cast_ofNat_Int, all_u8]
 first | done | rfl | (simp; done) | (simp_all; done) | (simp_all; omega)
theorem read_spec (b : List UInt8) (hb : b.length ≤ 1000) : PSpec Go.Proofs.Try.prog 21 [.sl 1 (b.map u8) .no] (.tup [encN (readN b).1, .int .i64 (readN b).2]) := by
 refine introP (n := 102) (rs := [.cell 2 26, .tmp 3]) (fn := Go.Proofs.Try.f21) (by first | exact Go.Proofs.Try.func21 | rfl) rfl (by kernel_rfl) rfl rfl (Nat.le_of_ble_eq_true rfl) (fun Q0 hQ0 => ?_)
 obtain ⟨lf, hl⟩ : ∃ x, pfx b = x := ⟨_, rfl⟩
 have hpf : decide (((val (first 1 b) : Nat) : Int) = 1) = pfx b := by rw [← pfx_eq]; exact decide_eq_decide.2 (by omega)
 cases lf
 all_goals
 rw [hl] at hpf
 refine WS.seq ?_
 refine R0 fun K hK => ?_
 try simp (maxSteps := 4000000) (disch := omega) only [push_cast, Nat.reduceLT, Nat.reduceEqDiff, Hp.get_set, all_anyC, all_anyP, key_get, cell_get, kid_get, encC, List.length_map, encN, all_u8, Hp.set_set, Hp.get_set_same, List.length_map, i64w, hpf]
 refine fun ga hga => ?_
 try simp only [Hp.set_none, Hp.join_none_iff] at hga
 try simp (maxSteps := 4000000) (disch := omega) only [push_cast, Nat.reduceLT, Nat.reduceEqDiff, Hp.get_set, all_anyC, all_anyP, key_get, cell_get, kid_get, encC, List.length_map, encN, all_u8, Hp.set_set, Hp.get_set_same, List.length_map, i64w, hpf, hga]
 refine Qk hK [0, 2] ?_
 clear hK K
 refine WS.seq (WS.seq ?_)
 refine R0 fun K hK => ?_
 try simp (maxSteps := 4000000) (disch := omega) only [push_cast, Nat.reduceLT, Nat.reduceEqDiff, Int.reduceToNat, Int.reduceLT, Int.reduceLE, Int.reduceAdd, Int.reduceSub, Int.reduceMul, Int.reduceNeg, Int.reduceEq, reduceCtorEq, Int.cast_ofNat_Int, Hp.get_set, all_anyC, all_anyP, key_get, cell_get, kid_get, encC, List.length_map, encN, all_u8, Hp.set_set, Hp.get_set_same, List.length_map, i64w, hpf, hga]
 refine Qk hK [0, 2, 13] ?_
 clear hK K
 refine CI rfl (fun hc => ?_) (fun hc => ?_)
 ·
  all_goals try (cases hc; done)
  all_goals try simp only [push_cast] at hc
  all_goals try (exfalso; omega)
  all_goals
   refine WS.seq ?_
   refine R0 fun K hK => ?_
   try simp (maxSteps := 4000000) (disch := omega) only [push_cast, Nat.reduceLT, Nat.reduceEqDiff, Nat.reduceAdd, Nat.reduceMul, Nat.reduceSub, Nat.reduceLeDiff, Hp.get_set, all_anyC, all_anyP, key_get, cell_get, kid_get, encC, List.length_map, encN, all_u8, Hp.set_set, Hp.get_set_same, List.length_map, i64w, hpf, hga]
   (repeat refine And.intro (by first | (unfold Go.Vm.room; omega) | omega | (simp; done) | (simp_all; done) | (simp_all; omega)) ?_)
   refine Qk hK [2, 3] ?_
   clear hK K
   refine S_wkH (g := ga) (by first | exact Hp.get_set_same _ _ _ | (simp only [Hp.get_set_same]; done)) (l := [.bool false, .sl 0 [] .full, .sl 0 [] .full, .sl 0 [] .full]) (l' := [.bool false, .sl 1 [] .no, .sl 3 [] .no, .sl 1 [] .no]) ⟨Wk.refl _, Wk.nil 0 1 .full, Wk.nil 0 3 .full, Wk.nil 0 1 .full, trivial⟩ rfl ?_
   refine Rt ?_
   refine hQ0 _ _ _ ?_
   try simp (maxSteps := 4000000) only [push_cast, Int.reduceToNat, Int.reduceLT, Int.reduceLE, Int.reduceAdd, Int.reduceSub, Int.reduceMul, Int.reduceNeg, Int.reduceEq, reduceCtorEq, Nat.reduceLeDiff, Nat.reduceLT, Nat.reduceEqDiff, Nat.reduceAdd, Nat.reduceMul, Nat.reduceSub, Int.cast_ofNat_Int, all_anyC, all_anyP, key_get, cell_get, kid_get, encC, List.length_map, encN, all_u8, Hp.set_set, Hp.get_set_same, List.length_map, i64w, hpf, hga]
   have he : readN b = (nd0, 3) := by unfold readN readB; rw [if_neg (by omega)]
   rw [he]
   rfl
 all_goals try (cases hc; done)
 all_goals try simp only [push_cast] at hc
 all_goals try (exfalso; omega)
 all_goals
  have hb5 : b.length = 512 := by omega
  refine Sk ?_
  refine WS.seq ?_
  refine R0 fun K hK => ?_
  try simp (maxSteps := 4000000) (disch := omega) only [push_cast, Nat.reduceLT, Nat.reduceEqDiff, Nat.reduceAdd, Nat.reduceMul, Nat.reduceSub, Nat.reduceLeDiff, Hp.get_set, all_anyC, all_anyP, key_get, cell_get, kid_get, encC, List.length_map, encN, all_u8, Hp.set_set, Hp.get_set_same, List.length_map, i64w, hpf, hga]
  (repeat refine And.intro (by first | (unfold Go.Vm.room; omega) | omega | (simp; done) | (simp_all; done) | (simp_all; omega)) ?_)
  refine fun gr hgr => ?_
  try simp only [Hp.set_none, Hp.join_none_iff] at hgr
  try simp (maxSteps := 4000000) (disch := omega) only [push_cast, Nat.reduceLT, Nat.reduceEqDiff, Nat.reduceAdd, Nat.reduceMul, Nat.reduceSub, Nat.reduceLeDiff, Hp.get_set, all_anyC, all_anyP, key_get, cell_get, kid_get, encC, List.length_map, encN, all_u8, Hp.set_set, Hp.get_set_same, List.length_map, i64w, hpf, hga, hgr]
  (repeat refine And.intro (by first | (unfold Go.Vm.room; omega) | omega | (simp; done) | (simp_all; done) | (simp_all; omega)) ?_)
  refine Qk hK [0, 2, 4] ?_
  clear hK K
  refine WS.seq ?_
  refine R0 fun K hK => ?_
  try simp (maxSteps := 4000000) (disch := omega) only [push_cast, Nat.reduceLT, Nat.reduceEqDiff, Nat.reduceAdd, Nat.reduceMul, Nat.reduceSub, Nat.reduceLeDiff, Int.reduceToNat, Int.reduceLT, Int.reduceLE, Int.reduceAdd, Int.reduceSub, Int.reduceMul, Int.reduceNeg, Int.reduceEq, reduceCtorEq, Int.cast_ofNat_Int, Hp.get_set, all_anyC, all_anyP, key_get, cell_get, kid_get, encC, List.length_map, encN, all_u8, Hp.set_set, Hp.get_set_same, List.length_map, i64w, hpf, hga, hgr]
  (repeat refine And.intro (by first | (unfold Go.Vm.room; omega) | omega | (simp; done) | (simp_all; done) | (simp_all; omega)) ?_)
  refine callS (number_spec b 1 (by omega) (by omega) (Hp.get_set_same _ _ _)) (fun v τ h => ?_)
  obtain ⟨rfl, rfl⟩ := h
  try simp (maxSteps := 4000000) (disch := omega) only [push_cast, Nat.reduceLT, Nat.reduceEqDiff, Nat.reduceAdd, Nat.reduceMul, Nat.reduceSub, Nat.reduceLeDiff, Int.reduceToNat, Int.reduceLT, Int.reduceLE, Int.reduceAdd, Int.reduceSub, Int.reduceMul, Int.reduceNeg, Int.reduceEq, reduceCtorEq, Int.cast_ofNat_Int, Hp.get_set, all_anyC, all_anyP, key_get, cell_get, kid_get, encC, List.length_map, encN, all_u8, Hp.set_set, Hp.get_set_same, List.length_map, i64w, hpf, hga, hgr]
  (repeat refine And.intro (by first | (unfold Go.Vm.room; omega) | omega | (simp; done) | (simp_all; done) | (simp_all; omega)) ?_)
  refine fun gn hgn => ?_
  try simp only [Hp.set_none, Hp.join_none_iff] at hgn
  try simp (maxSteps := 4000000) (disch := omega) only [push_cast, Nat.reduceLT, Nat.reduceEqDiff, Nat.reduceAdd, Nat.reduceMul, Nat.reduceSub, Nat.reduceLeDiff, Int.reduceToNat, Int.reduceLT, Int.reduceLE, Int.reduceAdd, Int.reduceSub, Int.reduceMul, Int.reduceNeg, Int.reduceEq, reduceCtorEq, Int.cast_ofNat_Int, Hp.get_set, all_anyC, all_anyP, key_get, cell_get, kid_get, encC, List.length_map, encN, all_u8, Hp.set_set, Hp.get_set_same, List.length_map, i64w, hpf, hga, hgr, hgn]
  (repeat refine And.intro (by first | (unfold Go.Vm.room; omega) | omega | (simp; done) | (simp_all; done) | (simp_all; omega)) ?_)
  refine Qk hK [0, 2, 4, 5] ?_
  clear hK K
  refine S_abs (fun τ => τ.get ga = some (.cells [.bool false, .sl 0 [] .full, .sl 0 [] .full, .sl 0 [] .full]) ∧ τ.get gr = some (.cells [.sl 1 ((b.drop 1).map u8) .no]) ∧ τ.get gn = some (.cells [.bool (pfx b), .sl 0 [] .full, .sl 0 [] .full, .sl 0 [] .full]) ∧ ga ≠ gr ∧ ga ≠ gn ∧ gr ≠ gn) (by rw [hl]; simp_all [Hp.get_set]) (fun τ hh => ?_)
  obtain ⟨h2, h4, h5, n1, n2, n3⟩ := hh
  rw [hl] at h5
  have hcn : val (first 2 (b.drop 1)) = cnt b := rfl
  refine WS.seq ?_
  refine R0 fun K hK => ?_
  try simp (maxSteps := 4000000) (disch := omega) only [push_cast, Nat.reduceLT, Nat.reduceEqDiff, Int.reduceToNat, Int.reduceLT, Int.reduceLE, Int.reduceAdd, Int.reduceSub, Int.reduceMul, Int.reduceNeg, Int.reduceEq, reduceCtorEq, Int.cast_ofNat_Int, Hp.get_set, all_anyC, all_anyP, key_get, cell_get, kid_get, encC, List.length_map, encN, all_u8, Hp.set_set, Hp.get_set_same, List.length_map, i64w, hpf, hga, hgr, hgn, h2, h4, h5, hcn]
  refine callS (number_spec (b.drop 1) 2 (by omega) (by simp; omega) h4) (fun v τ h => ?_)
  obtain ⟨rfl, rfl⟩ := h
  try simp (maxSteps := 4000000) (disch := omega) only [push_cast, Nat.reduceLT, Nat.reduceEqDiff, Int.reduceToNat, Int.reduceLT, Int.reduceLE, Int.reduceAdd, Int.reduceSub, Int.reduceMul, Int.reduceNeg, Int.reduceEq, reduceCtorEq, Int.cast_ofNat_Int, Hp.get_set, all_anyC, all_anyP, key_get, cell_get, kid_get, encC, List.length_map, encN, all_u8, Hp.set_set, Hp.get_set_same, List.length_map, i64w, hpf, hga, hgr, hgn, h2, h4, h5, hcn]
  refine Qk hK [0, 2, 4, 5, 6] ?_
  clear hK K
  refine S_abs (fun τ => τ.get ga = some (.cells [.bool false, .sl 0 [] .full, .sl 0 [] .full, .sl 0 [] .full]) ∧ τ.get gr = some (.cells [.sl 1 ((b.drop 3).map u8) .no]) ∧ τ.get gn = some (.cells [.bool (pfx b), .sl 0 [] .full, .sl 0 [] .full, .sl 0 [] .full]) ∧ ga ≠ gr ∧ ga ≠ gn ∧ gr ≠ gn) (by rw [hl]; simp_all [Hp.get_set]) (fun τ hh => ?_)
  obtain ⟨h2, h4, h5, n1, n2, n3⟩ := hh
  rw [hl] at h5
  refine WS.seq (WS.seq ?_)
  refine R0 fun K hK => ?_
  try simp (maxSteps := 4000000) (disch := omega) only [push_cast, Nat.reduceLT, Nat.reduceEqDiff, Nat.reduceAdd, Nat.reduceMul, Nat.reduceSub, Nat.reduceLeDiff, Int.reduceToNat, Int.reduceLT, Int.reduceLE, Int.reduceAdd, Int.reduceSub, Int.reduceMul, Int.reduceNeg, Int.reduceEq, reduceCtorEq, Int.cast_ofNat_Int, Hp.get_set, all_anyC, all_anyP, key_get, cell_get, kid_get, encC, List.length_map, encN, all_u8, Hp.set_set, Hp.get_set_same, List.length_map, i64w, hpf, hga, hgr, hgn, hcn, h2, h4, h5]
  (repeat refine And.intro (by first | (unfold Go.Vm.room; omega) | omega | (simp; done) | (simp_all; done) | (simp_all; omega)) ?_)
  refine Qk hK [0, 2, 4, 5, 6, 27] ?_
  clear hK K
  refine CI rfl (fun hc => ?_) (fun hc => ?_)
  ·
   all_goals try (cases hc; done)
   all_goals try simp only [push_cast] at hc
   all_goals try (exfalso; omega)
   all_goals
    refine RU [30] [] fun K hK => ?_
    try simp (maxSteps := 4000000) (disch := omega) only [push_cast, Nat.reduceLT, Nat.reduceEqDiff, Nat.reduceAdd, Nat.reduceMul, Nat.reduceSub, Nat.reduceLeDiff, Int.reduceToNat, Int.reduceLT, Int.reduceLE, Int.reduceAdd, Int.reduceSub, Int.reduceMul, Int.reduceNeg, Int.reduceEq, reduceCtorEq, Int.cast_ofNat_Int, Hp.get_set, all_anyC, all_anyP, key_get, cell_get, kid_get, encC, List.length_map, encN, all_u8, Hp.set_set, Hp.get_set_same, List.length_map, i64w, hpf, hga, hgr, hgn, hcn, h2, h4, h5]
    (repeat refine And.intro (by first | (unfold Go.Vm.room; omega) | omega | (simp; done) | (simp_all; done) | (simp_all; omega)) ?_)
    refine callS (number_spec (b.drop 3) 4 (by omega) (by simp; omega) h4) (fun v τ h => ?_)
    obtain ⟨rfl, rfl⟩ := h
    try simp (maxSteps := 4000000) (disch := omega) only [push_cast, Nat.reduceLT, Nat.reduceEqDiff, Nat.reduceAdd, Nat.reduceMul, Nat.reduceSub, Nat.reduceLeDiff, Int.reduceToNat, Int.reduceLT, Int.reduceLE, Int.reduceAdd, Int.reduceSub, Int.reduceMul, Int.reduceNeg, Int.reduceEq, reduceCtorEq, Int.cast_ofNat_Int, Hp.get_set, all_anyC, all_anyP, key_get, cell_get, kid_get, encC, List.length_map, encN, all_u8, Hp.set_set, Hp.get_set_same, List.length_map, i64w, hpf, hga, hgr, hgn, hcn, h2, h4, h5]
    (repeat refine And.intro (by first | (unfold Go.Vm.room; omega) | omega | (simp; done) | (simp_all; done) | (simp_all; omega)) ?_)
    refine fun gd hgd => ?_
    try simp only [Hp.set_none, Hp.join_none_iff] at hgd
    have nh2_d := Hp.ne_get h2 (by first | exact hgd | exact hgd.2.2 | exact hgd.2.2.2.2 | exact hgd.2.2.2.2.2.2 | simp_all)
    have nh4_d := Hp.ne_get h4 (by first | exact hgd | exact hgd.2.2 | exact hgd.2.2.2.2 | exact hgd.2.2.2.2.2.2 | simp_all)
    have nh5_d := Hp.ne_get h5 (by first | exact hgd | exact hgd.2.2 | exact hgd.2.2.2.2 | exact hgd.2.2.2.2.2.2 | simp_all)
    try simp (maxSteps := 4000000) (disch := omega) only [push_cast, Nat.reduceLT, Nat.reduceEqDiff, Nat.reduceAdd, Nat.reduceMul, Nat.reduceSub, Nat.reduceLeDiff, Int.reduceToNat, Int.reduceLT, Int.reduceLE, Int.reduceAdd, Int.reduceSub, Int.reduceMul, Int.reduceNeg, Int.reduceEq, reduceCtorEq, Int.cast_ofNat_Int, Hp.get_set, all_anyC, all_anyP, key_get, cell_get, kid_get, encC, List.length_map, encN, all_u8, Hp.set_set, Hp.get_set_same, List.length_map, i64w, hpf, hga, hgr, hgn, hcn, h2, h4, h5, hgd, nh2_d, nh4_d, nh5_d]
    (repeat refine And.intro (by first | (unfold Go.Vm.room; omega) | omega | (simp; done) | (simp_all; done) | (simp_all; omega)) ?_)
    refine Qk hK [0, 2, 4, 5, 6] ?_
    clear hK K
    refine WS.seq (WS.seq ?_)
    first
    | (refine S_tokH 1 (g := gn) (i := 1) h5 rfl (fun tk htk => ?_); refine S_tokH 3 (g := gn) (i := 2) (Hp.get_set_same _ _ _) rfl (fun tc htc => ?_); refine S_anyK (b := b) (k := 0) (ga := ga) (gr := gr) (gn := gn) ⟨tk, tc, RdK.leaf0 hl (RdSt.leaf0 h2 h4 h5 n1 n2 n3 htk htc)⟩ (fun tk tc τ hS => ?_))
    | (refine S_tokH 1 (g := gn) (i := 1) (Hp.get_set_same _ _ _) rfl (fun tk htk => ?_); refine S_anyK (b := b) (k := 0) (ga := ga) (gr := gr) (gn := gn) ⟨tk, gd, RdK.inner0 hl (RdSt.inner0 h2 h4 h5 n1 n2 n3 (Hp.set_none.2 hgd) htk)⟩ (fun tk tc τ hS => ?_))
    refine R0 fun K hK => ?_
    try simp (maxSteps := 4000000) (disch := omega) only [push_cast, Nat.reduceLT, Nat.reduceEqDiff, Hp.get_set, all_anyC, all_anyP, key_get, cell_get, kid_get, encC, List.length_map, encN, all_u8, Hp.set_set, Hp.get_set_same, List.length_map, i64w, hpf, hga, hgr, hgn, hcn, h2, h4, h5, hgd, nh2_d, nh4_d, nh5_d]
    refine Qk hK [0, 2, 4, 5, 32, 33] ?_
    clear hK K
    refine Bk fun K0 hK0 => ?_
    refine WS_keep [0, 2, 4, 5, 32, 33] _ ?_
    refine Lp (fun m env σ' => ∃ (k : Nat), m = 512 - k ∧ env = [(0, .sl 1 (b.map u8) .no), (2, .ptr ga 0), (4, .ptr gr 0), (5, .ptr gn 0), (32, .int .i64 (min (cnt b) 512 : Nat)), (33, .int .i64 k)] ∧ σ' = σ' ∧ (k ≤ min (cnt b) 512 ∧ RdK b k ga gr gn tk tc σ')) ?_ ?_
    · refine ⟨_, 0,  rfl, ?_, ?_, ?_⟩
      · (try simp (disch := omega) only [push_cast, Int.reduceToNat, Int.reduceLT, Int.reduceLE, Int.reduceAdd, Int.reduceSub, Int.reduceMul, Int.reduceNeg, Int.reduceEq, reduceCtorEq, Nat.reduceLeDiff, Nat.reduceLT, Nat.reduceEqDiff, Nat.reduceAdd, Nat.reduceMul, Nat.reduceSub, Int.cast_ofNat_Int, all_anyC, all_anyP, key_get, cell_get, kid_get, encC, List.length_map, encN, all_u8, Hp.set_set, Hp.get_set_same, List.length_map, i64w, hpf, hga, hgr, hgn, hcn, h2, h4, h5, hgd, nh2_d, nh4_d, nh5_d]) <;> (first | done | rfl | (simp; done) | (simp; omega) | omega | (simp_all; done) | (simp_all; omega))
      · first | rfl | (try simp (disch := omega) only [push_cast, Int.reduceToNat, Int.reduceLT, Int.reduceLE, Int.reduceAdd, Int.reduceSub, Int.reduceMul, Int.reduceNeg, Int.reduceEq, reduceCtorEq, Nat.reduceLeDiff, Nat.reduceLT, Nat.reduceEqDiff, Nat.reduceAdd, Nat.reduceMul, Nat.reduceSub, Int.cast_ofNat_Int, all_anyC, all_anyP, key_get, cell_get, kid_get, encC, List.length_map, encN, all_u8, Hp.set_set, Hp.get_set_same, List.length_map, i64w, hpf, hga, hgr, hgn, hcn, h2, h4, h5, hgd, nh2_d, nh4_d, nh5_d]) <;> (first | done | rfl | (simp; done) | (simp; omega) | omega | (simp_all; done) | (simp_all; omega))
      · exact ⟨by omega, hS⟩
    intro m env σ' hJ M0 hM0
    obtain ⟨k, rfl, rfl, -, hk, hS⟩ := hJ
    have hrl := rdRb_len b k
    have hxk := Xk_keys b k
    unfold RdK at hS
    generalize hks : (Xk b k).keys = ks at hS hxk
    generalize hcs : (Xk b k).cells = cs at hS
    generalize hds : (Xk b k).kids = ds at hS
    generalize hr0 : rdR (pfx b) k (Node.rest b) = r0 at hS hrl
    rw [hl] at hS
    have hf1 := first1_lt r0
    have hn := hS.nes
    have h2 := hS.h2
    have h4 := hS.h4
    have h5 := hS.h5
    have htk := hS.hk
    have htc := hS.hc
    simp only [ndc, if_true, Bool.false_eq_true, if_false] at h5 htc
    have hca : (cellsAt _ gn).length = 4 := congrArg List.length (cellsAt_get h5)
    refine WS.seq ?_
    refine R0 fun K hK => ?_
    try simp (maxSteps := 4000000) (disch := omega) only [push_cast, Nat.reduceLT, Nat.reduceEqDiff, Int.reduceToNat, Int.reduceLT, Int.reduceLE, Int.reduceAdd, Int.reduceSub, Int.reduceMul, Int.reduceNeg, Int.reduceEq, reduceCtorEq, Int.cast_ofNat_Int, Hp.get_set, all_anyC, all_anyP, key_get, cell_get, kid_get, encC, List.length_map, encN, all_u8, Hp.set_set, Hp.get_set_same, List.length_map, i64w, hpf, hga, hgr, hgn, hcn, hgd, nh2_d, nh4_d, nh5_d, h2, h4, h5, htk, htc, hn]
    refine Qk hK [0, 2, 4, 5, 32, 33, 34] ?_
    clear hK K
    refine WS.seq ?_
    refine CI rfl (fun hc => ?_) (fun hc => ?_)
    rotate_left
    ·
     all_goals try (cases hc; done)
     all_goals try simp only [push_cast] at hc
     all_goals try (exfalso; omega)
     all_goals
      have hke : k = min (cnt b) 512 := by omega
      have hX := Xk_parse b
      rw [← hke] at hX
      rw [hX] at hks hcs hds
      have hXl : (ofR (parse b)).leaf = pfx b := by rw [← hX]; rfl
      rw [hl] at hXl
      have hsm := parse_sm b
      refine Ex ?_
      simp only [push_cast, WS, Nat.reduceEqDiff]
      refine hK0 _ _ ?_
      clear hK0
      try clear K0
      refine WS_keep [0, 2, 5] _ ?_
      refine WS.seq (WS.seq ?_)
      first
      | refine S_wkH (g := gn) h5 (wk_leaf hXl hks hcs (by rw [← hX]; simp [Xk, ofR, hl])) rfl ?_
      | refine S_wkH (g := gn) h5 (wk_inner hXl hks hds (by rw [← hX]; simp [Xk, ofR, hl])) rfl ?_
      refine S_abs (fun τ => τ.get ga = some (.cells [.bool false, .sl 0 [] .full, .sl 0 [] .full, .sl 0 [] .full]) ∧ τ.get gn = some (.cells (ncs (ofR (parse b)))) ∧ ga ≠ gn) ⟨by rw [Hp.get_set_ne _ _ hS.n2]; exact h2, Hp.get_set_same _ _ _, hS.n2⟩ (fun τ hh => ?_)
      obtain ⟨h2, h5, n2⟩ := hh
      simp only [ncs] at h5
      refine R0 fun K hK => ?_
      try simp (maxSteps := 4000000) (disch := omega) only [push_cast, Nat.reduceLT, Nat.reduceEqDiff, Nat.reduceAdd, Nat.reduceMul, Nat.reduceSub, Nat.reduceLeDiff, Hp.get_set, all_anyC, all_anyP, key_get, cell_get, kid_get, encC, List.length_map, encN, all_u8, Hp.set_set, Hp.get_set_same, List.length_map, i64w, hpf, hga, hgr, hgn, hcn, hgd, nh2_d, nh4_d, nh5_d, hn, h2, h5]
      (repeat refine And.intro (by first | (unfold Go.Vm.room; omega) | omega | (simp; done) | (simp_all; done) | (simp_all; omega)) ?_)
      refine callP (write_spec (ofR (parse b)) hsm) rfl ?_
      try simp (maxSteps := 4000000) (disch := omega) only [push_cast, Nat.reduceLT, Nat.reduceEqDiff, Nat.reduceAdd, Nat.reduceMul, Nat.reduceSub, Nat.reduceLeDiff, Hp.get_set, all_anyC, all_anyP, key_get, cell_get, kid_get, encC, List.length_map, encN, all_u8, Hp.set_set, Hp.get_set_same, List.length_map, i64w, hpf, hga, hgr, hgn, hcn, hgd, nh2_d, nh4_d, nh5_d, hn, h2, h5]
      (repeat refine And.intro (by first | (unfold Go.Vm.room; omega) | omega | (simp; done) | (simp_all; done) | (simp_all; omega)) ?_)
      refine Qk hK [0, 2, 5, 9, 10] ?_
      clear hK K
      refine WS.seq ?_
      refine R0 fun K hK => ?_
      try simp (maxSteps := 4000000) (disch := omega) only [push_cast, Nat.reduceLT, Nat.reduceEqDiff, Int.reduceToNat, Int.reduceLT, Int.reduceLE, Int.reduceAdd, Int.reduceSub, Int.reduceMul, Int.reduceNeg, Int.reduceEq, reduceCtorEq, Int.cast_ofNat_Int, Hp.get_set, all_anyC, all_anyP, key_get, cell_get, kid_get, encC, List.length_map, encN, all_u8, Hp.set_set, Hp.get_set_same, List.length_map, i64w, hpf, hga, hgr, hgn, hcn, hgd, nh2_d, nh4_d, nh5_d, hn, h2, h5]
      all_goals try (first | refine guardT 94 rfl (fun hc => ?_) (fun hc => ?_) | refine guardF 94 rfl (fun hc => ?_) (fun hc => ?_)) <;> try simp only [push_cast] at hc
      all_goals try (exfalso; omega)
      all_goals try simp (maxSteps := 4000000) (disch := omega) only [push_cast, Nat.reduceLT, Nat.reduceEqDiff, Int.reduceToNat, Int.reduceLT, Int.reduceLE, Int.reduceAdd, Int.reduceSub, Int.reduceMul, Int.reduceNeg, Int.reduceEq, reduceCtorEq, Int.cast_ofNat_Int, Hp.get_set, all_anyC, all_anyP, key_get, cell_get, kid_get, encC, List.length_map, encN, all_u8, Hp.set_set, Hp.get_set_same, List.length_map, i64w, hpf, hga, hgr, hgn, hcn, hgd, nh2_d, nh4_d, nh5_d, hn, h2, h5]
      all_goals try (
        refine callP (bequal_spec _ _) rfl ?_)
      all_goals try simp (maxSteps := 4000000) (disch := omega) only [push_cast, Nat.reduceLT, Nat.reduceEqDiff, Int.reduceToNat, Int.reduceLT, Int.reduceLE, Int.reduceAdd, Int.reduceSub, Int.reduceMul, Int.reduceNeg, Int.reduceEq, reduceCtorEq, Int.cast_ofNat_Int, Hp.get_set, all_anyC, all_anyP, key_get, cell_get, kid_get, encC, List.length_map, encN, all_u8, Hp.set_set, Hp.get_set_same, List.length_map, i64w, hpf, hga, hgr, hgn, hcn, hgd, nh2_d, nh4_d, nh5_d, hn, h2, h5]
      all_goals
       refine Qk hK [2, 5, 99] ?_
       clear hK K
       refine CI rfl (fun hc => ?_) (fun hc => ?_)
       ·
        all_goals try (cases hc; done)
        all_goals try simp only [push_cast] at hc
        all_goals try (exfalso; omega)
        all_goals
         refine WS.seq ?_
         refine R0 fun K hK => ?_
         try simp (maxSteps := 4000000) (disch := omega) only [push_cast, Nat.reduceLT, Nat.reduceEqDiff, Nat.reduceAdd, Nat.reduceMul, Nat.reduceSub, Nat.reduceLeDiff, Hp.get_set, all_anyC, all_anyP, key_get, cell_get, kid_get, encC, List.length_map, encN, all_u8, Hp.set_set, Hp.get_set_same, List.length_map, i64w, hpf, hga, hgr, hgn, hcn, hgd, nh2_d, nh4_d, nh5_d, hn, h2, h5]
         (repeat refine And.intro (by first | (unfold Go.Vm.room; omega) | omega | (simp; done) | (simp_all; done) | (simp_all; omega)) ?_)
         refine Qk hK [2, 3] ?_
         clear hK K
         refine S_wkH (g := ga) (by first | exact Hp.get_set_same _ _ _ | (simp only [Hp.get_set_same]; done)) (l := [.bool false, .sl 0 [] .full, .sl 0 [] .full, .sl 0 [] .full]) (l' := [.bool false, .sl 1 [] .no, .sl 3 [] .no, .sl 1 [] .no]) ⟨Wk.refl _, Wk.nil 0 1 .full, Wk.nil 0 3 .full, Wk.nil 0 1 .full, trivial⟩ rfl ?_
         refine Rt ?_
         refine hQ0 _ _ _ ?_
         try simp (maxSteps := 4000000) only [push_cast, Int.reduceToNat, Int.reduceLT, Int.reduceLE, Int.reduceAdd, Int.reduceSub, Int.reduceMul, Int.reduceNeg, Int.reduceEq, reduceCtorEq, Nat.reduceLeDiff, Nat.reduceLT, Nat.reduceEqDiff, Nat.reduceAdd, Nat.reduceMul, Nat.reduceSub, Int.cast_ofNat_Int, all_anyC, all_anyP, key_get, cell_get, kid_get, encC, List.length_map, encN, all_u8, Hp.set_set, Hp.get_set_same, List.length_map, i64w, hpf, hga, hgr, hgn, hcn, hgd, nh2_d, nh4_d, nh5_d, hn, h2, h5]
         first
         | (have hz := readN_no1 (b := b) (by assumption); rw [hz]; rfl)
         | (have hz := readN_no2 (b := b) (by assumption); rw [hz]; rfl)
       all_goals try (cases hc; done)
       all_goals try simp only [push_cast] at hc
       all_goals try (exfalso; omega)
       all_goals
        refine Sk ?_
        refine WS.seq ?_
        refine R0 fun K hK => ?_
        try simp (maxSteps := 4000000) (disch := omega) only [push_cast, Nat.reduceLT, Nat.reduceEqDiff, Nat.reduceAdd, Nat.reduceMul, Nat.reduceSub, Nat.reduceLeDiff, Hp.get_set, all_anyC, all_anyP, key_get, cell_get, kid_get, encC, List.length_map, encN, all_u8, Hp.set_set, Hp.get_set_same, List.length_map, i64w, hpf, hga, hgr, hgn, hcn, hgd, nh2_d, nh4_d, nh5_d, hn, h2, h5]
        (repeat refine And.intro (by first | (unfold Go.Vm.room; omega) | omega | (simp; done) | (simp_all; done) | (simp_all; omega)) ?_)
        refine Qk hK [2, 3] ?_
        clear hK K
        refine Rt ?_
        refine hQ0 _ _ _ ?_
        try simp (maxSteps := 4000000) only [push_cast, Int.reduceToNat, Int.reduceLT, Int.reduceLE, Int.reduceAdd, Int.reduceSub, Int.reduceMul, Int.reduceNeg, Int.reduceEq, reduceCtorEq, Nat.reduceLeDiff, Nat.reduceLT, Nat.reduceEqDiff, Nat.reduceAdd, Nat.reduceMul, Nat.reduceSub, Int.cast_ofNat_Int, all_anyC, all_anyP, key_get, cell_get, kid_get, encC, List.length_map, encN, all_u8, Hp.set_set, Hp.get_set_same, List.length_map, i64w, hpf, hga, hgr, hgn, hcn, hgd, nh2_d, nh4_d, nh5_d, hn, h2, h5]
        rw [readN_ok hb5 (by assumption) (by assumption)]
    all_goals try (cases hc; done)
    all_goals try simp only [push_cast] at hc
    all_goals try (exfalso; omega)
    all_goals
     refine Sk ?_
     refine WS.seq ?_
     refine Bk fun K1 hK1 => ?_
     refine WS.seq ?_
     refine R0 fun K hK => ?_
     try simp (maxSteps := 4000000) (disch := omega) only [push_cast, Nat.reduceLT, Nat.reduceEqDiff, Hp.get_set, all_anyC, all_anyP, key_get, cell_get, kid_get, encC, List.length_map, encN, all_u8, Hp.set_set, Hp.get_set_same, List.length_map, i64w, hpf, hga, hgr, hgn, hcn, hgd, nh2_d, nh4_d, nh5_d, h2, h4, h5, htk, htc, hn]
     refine callS (number_spec r0 1 (by omega) (by omega) h4) (fun v τ h => ?_)
     obtain ⟨rfl, rfl⟩ := h
     try simp (maxSteps := 4000000) (disch := omega) only [push_cast, Nat.reduceLT, Nat.reduceEqDiff, Hp.get_set, all_anyC, all_anyP, key_get, cell_get, kid_get, encC, List.length_map, encN, all_u8, Hp.set_set, Hp.get_set_same, List.length_map, i64w, hpf, hga, hgr, hgn, hcn, hgd, nh2_d, nh4_d, nh5_d, h2, h4, h5, htk, htc, hn]
     refine Qk hK [0, 2, 4, 5, 7, 32, 33] ?_
     clear hK K
     refine S_abs (RdSt _ ks cs ds (r0.drop 1) ga gr gn tk tc) (hS.step _) (fun τ hS => ?_)
     have hn := hS.nes
     have h2 := hS.h2
     have h4 := hS.h4
     have h5 := hS.h5
     have htk := hS.hk
     have htc := hS.hc
     simp only [ndc, if_true, Bool.false_eq_true, if_false] at h5 htc
     have hca : (cellsAt _ gn).length = 4 := congrArg List.length (cellsAt_get h5)
     have hrl1 : (r0.drop 1).length ≤ r0.length := by simp only [List.length_drop]; omega
     refine WS.seq (WS.seq ?_)
     refine R0 fun K hK => ?_
     try simp (maxSteps := 4000000) (disch := omega) only [push_cast, Nat.reduceLT, Nat.reduceEqDiff, Nat.reduceAdd, Nat.reduceMul, Nat.reduceSub, Nat.reduceLeDiff, Int.reduceToNat, Int.reduceLT, Int.reduceLE, Int.reduceAdd, Int.reduceSub, Int.reduceMul, Int.reduceNeg, Int.reduceEq, reduceCtorEq, Int.cast_ofNat_Int, Hp.get_set, all_anyC, all_anyP, key_get, cell_get, kid_get, encC, List.length_map, encN, all_u8, Hp.set_set, Hp.get_set_same, List.length_map, i64w, hpf, hga, hgr, hgn, hcn, hgd, nh2_d, nh4_d, nh5_d, hn, h2, h4, h5, htk, htc]
     (repeat refine And.intro (by first | (unfold Go.Vm.room; omega) | omega | (simp; done) | (simp_all; done) | (simp_all; omega)) ?_)
     refine Qk hK [0, 2, 4, 5, 7, 32, 33, 39] ?_
     clear hK K
     refine CI rfl (fun hc => ?_) (fun hc => ?_)
     ·
      all_goals try (cases hc; done)
      all_goals try simp only [push_cast] at hc
      all_goals try (exfalso; omega)
      all_goals
       have hdl := Xk_kids b k hl
       rw [hds] at hdl
       refine WS.seq ?_
       refine RD [1000041] [2000063] fo (by kernel_rfl) fun K hK => ?_
       try simp (maxSteps := 4000000) (disch := omega) only [push_cast, Nat.reduceLT, Nat.reduceEqDiff, Nat.reduceAdd, Nat.reduceMul, Nat.reduceSub, Nat.reduceLeDiff, Int.reduceToNat, Int.reduceLT, Int.reduceLE, Int.reduceAdd, Int.reduceSub, Int.reduceMul, Int.reduceNeg, Int.reduceEq, reduceCtorEq, Int.cast_ofNat_Int, Hp.get_set, all_anyC, all_anyP, key_get, cell_get, kid_get, encC, List.length_map, encN, all_u8, Hp.set_set, Hp.get_set_same, List.length_map, i64w, hpf, hga, hgr, hgn, hcn, hgd, nh2_d, nh4_d, nh5_d, hn, h2, h4, h5, htk, htc]
       (repeat refine And.intro (by first | (unfold Go.Vm.room; omega) | omega | (simp; done) | (simp_all; done) | (simp_all; omega)) ?_)
       try simp (maxSteps := 4000000) (disch := omega) only [push_cast, Nat.reduceLT, Nat.reduceEqDiff, Nat.reduceAdd, Nat.reduceMul, Nat.reduceSub, Nat.reduceLeDiff, Int.reduceToNat, Int.reduceLT, Int.reduceLE, Int.reduceAdd, Int.reduceSub, Int.reduceMul, Int.reduceNeg, Int.reduceEq, reduceCtorEq, Int.cast_ofNat_Int, Hp.get_set, all_anyC, all_anyP, key_get, cell_get, kid_get, encC, List.length_map, encN, all_u8, Hp.set_set, Hp.get_set_same, List.length_map, i64w, hpf, hga, hgr, hgn, hcn, hgd, nh2_d, nh4_d, nh5_d, hn, h2, h4, h5, htk, htc]
       (repeat refine And.intro (by first | (unfold Go.Vm.room; omega) | omega | (simp; done) | (simp_all; done) | (simp_all; omega)) ?_)
       refine callKD rfl (next_spec (r0.drop 1) (val (first 1 r0)) (by omega) (by omega) h4) ⟨_, _, rfl, rfl⟩ (fun v σ2 h => by obtain ⟨rfl, rfl⟩ := h; exact keeps_set h4) (fun v σ2 h => ?_)
       obtain ⟨rfl, rfl⟩ := h
       try simp (maxSteps := 4000000) (disch := omega) only [push_cast, Nat.reduceLT, Nat.reduceEqDiff, Nat.reduceAdd, Nat.reduceMul, Nat.reduceSub, Nat.reduceLeDiff, Int.reduceToNat, Int.reduceLT, Int.reduceLE, Int.reduceAdd, Int.reduceSub, Int.reduceMul, Int.reduceNeg, Int.reduceEq, reduceCtorEq, Int.cast_ofNat_Int, Hp.get_set, all_anyC, all_anyP, key_get, cell_get, kid_get, encC, List.length_map, encN, all_u8, Hp.set_set, Hp.get_set_same, List.length_map, i64w, hpf, hga, hgr, hgn, hcn, hgd, nh2_d, nh4_d, nh5_d, hn, h2, h4, h5, htk, htc]
       (repeat refine And.intro (by first | (unfold Go.Vm.room; omega) | omega | (simp; done) | (simp_all; done) | (simp_all; omega)) ?_)
       try simp (maxSteps := 4000000) (disch := omega) only [push_cast, Nat.reduceLT, Nat.reduceEqDiff, Nat.reduceAdd, Nat.reduceMul, Nat.reduceSub, Nat.reduceLeDiff, Int.reduceToNat, Int.reduceLT, Int.reduceLE, Int.reduceAdd, Int.reduceSub, Int.reduceMul, Int.reduceNeg, Int.reduceEq, reduceCtorEq, Int.cast_ofNat_Int, Hp.get_set, all_anyC, all_anyP, key_get, cell_get, kid_get, encC, List.length_map, encN, all_u8, Hp.set_set, Hp.get_set_same, List.length_map, i64w, hpf, hga, hgr, hgn, hcn, hgd, nh2_d, nh4_d, nh5_d, hn, h2, h4, h5, htk, htc]
       (repeat refine And.intro (by first | (unfold Go.Vm.room; omega) | omega | (simp; done) | (simp_all; done) | (simp_all; omega)) ?_)
       try simp (maxSteps := 4000000) (disch := omega) only [push_cast, Nat.reduceLT, Nat.reduceEqDiff, Nat.reduceAdd, Nat.reduceMul, Nat.reduceSub, Nat.reduceLeDiff, Int.reduceToNat, Int.reduceLT, Int.reduceLE, Int.reduceAdd, Int.reduceSub, Int.reduceMul, Int.reduceNeg, Int.reduceEq, reduceCtorEq, Int.cast_ofNat_Int, Hp.get_set, all_anyC, all_anyP, key_get, cell_get, kid_get, encC, List.length_map, encN, all_u8, Hp.set_set, Hp.get_set_same, List.length_map, i64w, hpf, hga, hgr, hgn, hcn, hgd, nh2_d, nh4_d, nh5_d, hn, h2, h4, h5, htk, htc]
       (repeat refine And.intro (by first | (unfold Go.Vm.room; omega) | omega | (simp; done) | (simp_all; done) | (simp_all; omega)) ?_)
       try simp (maxSteps := 4000000) (disch := omega) only [push_cast, Nat.reduceLT, Nat.reduceEqDiff, Nat.reduceAdd, Nat.reduceMul, Nat.reduceSub, Nat.reduceLeDiff, Int.reduceToNat, Int.reduceLT, Int.reduceLE, Int.reduceAdd, Int.reduceSub, Int.reduceMul, Int.reduceNeg, Int.reduceEq, reduceCtorEq, Int.cast_ofNat_Int, Hp.get_set, all_anyC, all_anyP, key_get, cell_get, kid_get, encC, List.length_map, encN, all_u8, Hp.set_set, Hp.get_set_same, List.length_map, i64w, hpf, hga, hgr, hgn, hcn, hgd, nh2_d, nh4_d, nh5_d, hn, h2, h4, h5, htk, htc]
       (repeat refine And.intro (by first | (unfold Go.Vm.room; omega) | omega | (simp; done) | (simp_all; done) | (simp_all; omega)) ?_)
       refine Qk hK [0, 2, 4, 5, 32, 33] ?_
       clear hK K
       refine S_abs (RdSt _ (ks ++ [first (val (first 1 r0)) (r0.drop 1)]) cs ds ((r0.drop 1).drop (val (first 1 r0))) ga gr gn tk tc) ((hS.step _).key _ (by simp [ndc])) (fun τ hS => ?_)
       have hn := hS.nes
       have h2 := hS.h2
       have h4 := hS.h4
       have h5 := hS.h5
       have htk := hS.hk
       have htc := hS.hc
       simp only [ndc, if_true, Bool.false_eq_true, if_false] at h5 htc
       have hca : (cellsAt _ gn).length = 4 := congrArg List.length (cellsAt_get h5)
       have hrl2 : ((r0.drop 1).drop (val (first 1 r0))).length ≤ r0.length := by simp only [List.length_drop]; omega
       refine WS.seq ?_
       refine RD [1000050] [2000062] fo (by kernel_rfl) fun K hK => ?_
       try simp (maxSteps := 4000000) (disch := omega) only [push_cast, Nat.reduceLT, Nat.reduceEqDiff, Nat.reduceAdd, Nat.reduceMul, Nat.reduceSub, Nat.reduceLeDiff, Int.reduceToNat, Int.reduceLT, Int.reduceLE, Int.reduceAdd, Int.reduceSub, Int.reduceMul, Int.reduceNeg, Int.reduceEq, reduceCtorEq, Int.cast_ofNat_Int, Hp.get_set, all_anyC, all_anyP, key_get, cell_get, kid_get, encC, List.length_map, encN, all_u8, Hp.set_set, Hp.get_set_same, List.length_map, i64w, hpf, hga, hgr, hgn, hcn, hgd, nh2_d, nh4_d, nh5_d, hn, h2, h4, h5, htk, htc]
       (repeat refine And.intro (by first | (unfold Go.Vm.room; omega) | omega | (simp; done) | (simp_all; done) | (simp_all; omega)) ?_)
       try simp (maxSteps := 4000000) (disch := omega) only [push_cast, Nat.reduceLT, Nat.reduceEqDiff, Nat.reduceAdd, Nat.reduceMul, Nat.reduceSub, Nat.reduceLeDiff, Int.reduceToNat, Int.reduceLT, Int.reduceLE, Int.reduceAdd, Int.reduceSub, Int.reduceMul, Int.reduceNeg, Int.reduceEq, reduceCtorEq, Int.cast_ofNat_Int, Hp.get_set, all_anyC, all_anyP, key_get, cell_get, kid_get, encC, List.length_map, encN, all_u8, Hp.set_set, Hp.get_set_same, List.length_map, i64w, hpf, hga, hgr, hgn, hcn, hgd, nh2_d, nh4_d, nh5_d, hn, h2, h4, h5, htk, htc]
       (repeat refine And.intro (by first | (unfold Go.Vm.room; omega) | omega | (simp; done) | (simp_all; done) | (simp_all; omega)) ?_)
       refine callKD rfl (number_spec ((r0.drop 1).drop (val (first 1 r0))) 4 (by omega) (by omega) h4) ⟨_, _, rfl, rfl⟩ (fun v σ2 h => by obtain ⟨rfl, rfl⟩ := h; exact keeps_set h4) (fun v σ2 h => ?_)
       obtain ⟨rfl, rfl⟩ := h
       try simp (maxSteps := 4000000) (disch := omega) only [push_cast, Nat.reduceLT, Nat.reduceEqDiff, Nat.reduceAdd, Nat.reduceMul, Nat.reduceSub, Nat.reduceLeDiff, Int.reduceToNat, Int.reduceLT, Int.reduceLE, Int.reduceAdd, Int.reduceSub, Int.reduceMul, Int.reduceNeg, Int.reduceEq, reduceCtorEq, Int.cast_ofNat_Int, Hp.get_set, all_anyC, all_anyP, key_get, cell_get, kid_get, encC, List.length_map, encN, all_u8, Hp.set_set, Hp.get_set_same, List.length_map, i64w, hpf, hga, hgr, hgn, hcn, hgd, nh2_d, nh4_d, nh5_d, hn, h2, h4, h5, htk, htc]
       (repeat refine And.intro (by first | (unfold Go.Vm.room; omega) | omega | (simp; done) | (simp_all; done) | (simp_all; omega)) ?_)
       try simp (maxSteps := 4000000) (disch := omega) only [push_cast, Nat.reduceLT, Nat.reduceEqDiff, Nat.reduceAdd, Nat.reduceMul, Nat.reduceSub, Nat.reduceLeDiff, Int.reduceToNat, Int.reduceLT, Int.reduceLE, Int.reduceAdd, Int.reduceSub, Int.reduceMul, Int.reduceNeg, Int.reduceEq, reduceCtorEq, Int.cast_ofNat_Int, Hp.get_set, all_anyC, all_anyP, key_get, cell_get, kid_get, encC, List.length_map, encN, all_u8, Hp.set_set, Hp.get_set_same, List.length_map, i64w, hpf, hga, hgr, hgn, hcn, hgd, nh2_d, nh4_d, nh5_d, hn, h2, h4, h5, htk, htc]
       (repeat refine And.intro (by first | (unfold Go.Vm.room; omega) | omega | (simp; done) | (simp_all; done) | (simp_all; omega)) ?_)
       try simp (maxSteps := 4000000) (disch := omega) only [push_cast, Nat.reduceLT, Nat.reduceEqDiff, Nat.reduceAdd, Nat.reduceMul, Nat.reduceSub, Nat.reduceLeDiff, Int.reduceToNat, Int.reduceLT, Int.reduceLE, Int.reduceAdd, Int.reduceSub, Int.reduceMul, Int.reduceNeg, Int.reduceEq, reduceCtorEq, Int.cast_ofNat_Int, Hp.get_set, all_anyC, all_anyP, key_get, cell_get, kid_get, encC, List.length_map, encN, all_u8, Hp.set_set, Hp.get_set_same, List.length_map, i64w, hpf, hga, hgr, hgn, hcn, hgd, nh2_d, nh4_d, nh5_d, hn, h2, h4, h5, htk, htc]
       (repeat refine And.intro (by first | (unfold Go.Vm.room; omega) | omega | (simp; done) | (simp_all; done) | (simp_all; omega)) ?_)
       try simp (maxSteps := 4000000) (disch := omega) only [push_cast, Nat.reduceLT, Nat.reduceEqDiff, Nat.reduceAdd, Nat.reduceMul, Nat.reduceSub, Nat.reduceLeDiff, Int.reduceToNat, Int.reduceLT, Int.reduceLE, Int.reduceAdd, Int.reduceSub, Int.reduceMul, Int.reduceNeg, Int.reduceEq, reduceCtorEq, Int.cast_ofNat_Int, Hp.get_set, all_anyC, all_anyP, key_get, cell_get, kid_get, encC, List.length_map, encN, all_u8, Hp.set_set, Hp.get_set_same, List.length_map, i64w, hpf, hga, hgr, hgn, hcn, hgd, nh2_d, nh4_d, nh5_d, hn, h2, h4, h5, htk, htc]
       (repeat refine And.intro (by first | (unfold Go.Vm.room; omega) | omega | (simp; done) | (simp_all; done) | (simp_all; omega)) ?_)
       refine Qk hK [0, 2, 4, 5, 32, 33] ?_
       clear hK K
       refine S_abs (RdSt _ (ks ++ [first (val (first 1 r0)) (r0.drop 1)]) cs (ds ++ [((val (first 4 ((r0.drop 1).drop (val (first 1 r0)))) : Nat) : Int)]) (((r0.drop 1).drop (val (first 1 r0))).drop 4) ga gr gn tk tc) ((hS.step _).kid _ (by simp [ndc])) (fun τ hS => ?_)
       refine Ex ?_
       simp only [push_cast, WS, Nat.reduceEqDiff]
       refine hK1 _ _ ?_
       clear hK1
       try clear K1
       refine WS_keep [0, 2, 4, 5, 32, 33] _ ?_
       refine R0 fun K hK => ?_
       try simp (maxSteps := 4000000) (disch := omega) only [push_cast, Nat.reduceLT, Nat.reduceEqDiff, Int.reduceToNat, Int.reduceLT, Int.reduceLE, Int.reduceAdd, Int.reduceSub, Int.reduceMul, Int.reduceNeg, Int.reduceEq, reduceCtorEq, Int.cast_ofNat_Int, Hp.get_set, all_anyC, all_anyP, key_get, cell_get, kid_get, encC, List.length_map, encN, all_u8, Hp.set_set, Hp.get_set_same, List.length_map, i64w, hpf, hga, hgr, hgn, hcn, hgd, nh2_d, nh4_d, nh5_d, hn, h2, h4, h5, htk, htc]
       (repeat refine And.intro (by first | (unfold Go.Vm.room; omega) | omega | (simp; done) | (simp_all; done) | (simp_all; omega)) ?_)
       refine Qk hK [0, 2, 4, 5, 32, 33] ?_
       clear hK K
       refine Ag (hM0 _ _ ?_)
       refine ⟨_, ?_, k + 1,  rfl, ?_, ?_, ?_⟩
       · first | omega | (simp; done) | (simp_all; done) | (simp_all; omega)
       · (try simp (disch := omega) only [push_cast, Int.reduceToNat, Int.reduceLT, Int.reduceLE, Int.reduceAdd, Int.reduceSub, Int.reduceMul, Int.reduceNeg, Int.reduceEq, reduceCtorEq, Nat.reduceLeDiff, Nat.reduceLT, Nat.reduceEqDiff, Nat.reduceAdd, Nat.reduceMul, Nat.reduceSub, Int.cast_ofNat_Int, all_anyC, all_anyP, key_get, cell_get, kid_get, encC, List.length_map, encN, all_u8, Hp.set_set, Hp.get_set_same, List.length_map, i64w, hpf, hga, hgr, hgn, hcn, hgd, nh2_d, nh4_d, nh5_d, hn, h2, h4, h5, htk, htc]) <;> (first | done | rfl | (simp; done) | (simp; omega) | omega | (simp_all; done) | (simp_all; omega))
       · first | rfl | (try simp (disch := omega) only [push_cast, Int.reduceToNat, Int.reduceLT, Int.reduceLE, Int.reduceAdd, Int.reduceSub, Int.reduceMul, Int.reduceNeg, Int.reduceEq, reduceCtorEq, Nat.reduceLeDiff, Nat.reduceLT, Nat.reduceEqDiff, Nat.reduceAdd, Nat.reduceMul, Nat.reduceSub, Int.cast_ofNat_Int, all_anyC, all_anyP, key_get, cell_get, kid_get, encC, List.length_map, encN, all_u8, Hp.set_set, Hp.get_set_same, List.length_map, i64w, hpf, hga, hgr, hgn, hcn, hgd, nh2_d, nh4_d, nh5_d, hn, h2, h4, h5, htk, htc]) <;> (first | done | rfl | (simp; done) | (simp; omega) | omega | (simp_all; done) | (simp_all; omega))
       · first | exact ⟨by omega, RdK.inner hl hr0 (by rw [hks, hcs, hds]; exact hS)⟩ | exact ⟨by omega, RdK.leaf hl hr0 hcl hrl4 (by rw [hks, hcs, hds]; exact hS)⟩
     all_goals try (cases hc; done)
     all_goals try simp only [push_cast] at hc
     all_goals try (exfalso; omega)
     all_goals
      have hdl := Xk_cells b k hl
      rw [hcs] at hdl
      refine Sk ?_
      refine WS.seq ?_
      refine R0 fun K hK => ?_
      try simp (maxSteps := 4000000) (disch := omega) only [push_cast, Nat.reduceLT, Nat.reduceEqDiff, Nat.reduceAdd, Nat.reduceMul, Nat.reduceSub, Nat.reduceLeDiff, Hp.get_set, all_anyC, all_anyP, key_get, cell_get, kid_get, encC, List.length_map, encN, all_u8, Hp.set_set, Hp.get_set_same, List.length_map, i64w, hpf, hga, hgr, hgn, hcn, hgd, nh2_d, nh4_d, nh5_d, hn, h2, h4, h5, htk, htc]
      (repeat refine And.intro (by first | (unfold Go.Vm.room; omega) | omega | (simp; done) | (simp_all; done) | (simp_all; omega)) ?_)
      refine callS (number_spec (r0.drop 1) 2 (by omega) (by omega) h4) (fun v τ h => ?_)
      obtain ⟨rfl, rfl⟩ := h
      try simp (maxSteps := 4000000) (disch := omega) only [push_cast, Nat.reduceLT, Nat.reduceEqDiff, Nat.reduceAdd, Nat.reduceMul, Nat.reduceSub, Nat.reduceLeDiff, Hp.get_set, all_anyC, all_anyP, key_get, cell_get, kid_get, encC, List.length_map, encN, all_u8, Hp.set_set, Hp.get_set_same, List.length_map, i64w, hpf, hga, hgr, hgn, hcn, hgd, nh2_d, nh4_d, nh5_d, hn, h2, h4, h5, htk, htc]
      (repeat refine And.intro (by first | (unfold Go.Vm.room; omega) | omega | (simp; done) | (simp_all; done) | (simp_all; omega)) ?_)
      refine fun ge hge => ?_
      try simp only [Hp.set_none, Hp.join_none_iff] at hge
      have nh2_e := Hp.ne_get h2 (by first | exact hge | exact hge.2.2 | exact hge.2.2.2.2 | exact hge.2.2.2.2.2.2 | simp_all)
      have nh4_e := Hp.ne_get h4 (by first | exact hge | exact hge.2.2 | exact hge.2.2.2.2 | exact hge.2.2.2.2.2.2 | simp_all)
      have nh5_e := Hp.ne_get h5 (by first | exact hge | exact hge.2.2 | exact hge.2.2.2.2 | exact hge.2.2.2.2.2.2 | simp_all)
      have nhtk_e := Hp.ne_get htk (by first | exact hge | exact hge.2.2 | exact hge.2.2.2.2 | exact hge.2.2.2.2.2.2 | simp_all)
      have nhtc_e := Hp.ne_get htc (by first | exact hge | exact hge.2.2 | exact hge.2.2.2.2 | exact hge.2.2.2.2.2.2 | simp_all)
      try simp (maxSteps := 4000000) (disch := omega) only [push_cast, Nat.reduceLT, Nat.reduceEqDiff, Nat.reduceAdd, Nat.reduceMul, Nat.reduceSub, Nat.reduceLeDiff, Hp.get_set, all_anyC, all_anyP, key_get, cell_get, kid_get, encC, List.length_map, encN, all_u8, Hp.set_set, Hp.get_set_same, List.length_map, i64w, hpf, hga, hgr, hgn, hcn, hgd, nh2_d, nh4_d, nh5_d, hn, h2, h4, h5, htk, htc, hge, nh2_e, nh4_e, nh5_e, nhtk_e, nhtc_e]
      (repeat refine And.intro (by first | (unfold Go.Vm.room; omega) | omega | (simp; done) | (simp_all; done) | (simp_all; omega)) ?_)
      refine Qk hK [0, 2, 4, 5, 7, 8, 32, 33] ?_
      clear hK K
      refine S_abs (Rd8 _ ks cs ds ((r0.drop 1).drop 2) ⟨((val (first 2 (r0.drop 1)) : Nat) : Int), [], 0⟩ ga gr gn tk tc ge) ((hS.step _).new8 (Hp.set_none.2 hge) _) (fun τ hR => ?_)
      have hS := hR.S
      have hn := hS.nes
      have h2 := hS.h2
      have h4 := hS.h4
      have h5 := hS.h5
      have htk := hS.hk
      have htc := hS.hc
      simp only [ndc, if_true, Bool.false_eq_true, if_false] at h5 htc
      have hca : (cellsAt _ gn).length = 4 := congrArg List.length (cellsAt_get h5)
      have hrl2 : ((r0.drop 1).drop 2).length ≤ r0.length := by simp only [List.length_drop]; omega
      have hf2 := first2_lt (r0.drop 1)
      refine WS.seq ?_
      refine RD [1000060] [2000063] fo (by kernel_rfl) fun K hK => ?_
      try simp (maxSteps := 4000000) (disch := omega) only [push_cast, Nat.reduceLT, Nat.reduceEqDiff, Nat.reduceAdd, Nat.reduceMul, Nat.reduceSub, Nat.reduceLeDiff, Int.reduceToNat, Int.reduceLT, Int.reduceLE, Int.reduceAdd, Int.reduceSub, Int.reduceMul, Int.reduceNeg, Int.reduceEq, reduceCtorEq, Int.cast_ofNat_Int, Hp.get_set, all_anyC, all_anyP, key_get, cell_get, kid_get, encC, List.length_map, encN, all_u8, Hp.set_set, Hp.get_set_same, List.length_map, i64w, hpf, hga, hgr, hgn, hcn, hgd, nh2_d, nh4_d, nh5_d, hn, hge, nh2_e, nh4_e, nh5_e, nhtk_e, nhtc_e, h2, h4, h5, htk, htc]
      (repeat refine And.intro (by first | (unfold Go.Vm.room; omega) | omega | (simp; done) | (simp_all; done) | (simp_all; omega)) ?_)
      try simp (maxSteps := 4000000) (disch := omega) only [push_cast, Nat.reduceLT, Nat.reduceEqDiff, Nat.reduceAdd, Nat.reduceMul, Nat.reduceSub, Nat.reduceLeDiff, Int.reduceToNat, Int.reduceLT, Int.reduceLE, Int.reduceAdd, Int.reduceSub, Int.reduceMul, Int.reduceNeg, Int.reduceEq, reduceCtorEq, Int.cast_ofNat_Int, Hp.get_set, all_anyC, all_anyP, key_get, cell_get, kid_get, encC, List.length_map, encN, all_u8, Hp.set_set, Hp.get_set_same, List.length_map, i64w, hpf, hga, hgr, hgn, hcn, hgd, nh2_d, nh4_d, nh5_d, hn, hge, nh2_e, nh4_e, nh5_e, nhtk_e, nhtc_e, h2, h4, h5, htk, htc]
      (repeat refine And.intro (by first | (unfold Go.Vm.room; omega) | omega | (simp; done) | (simp_all; done) | (simp_all; omega)) ?_)
      refine callKD rfl (next_spec ((r0.drop 1).drop 2) (val (first 1 r0)) (by omega) (by omega) h4) ⟨_, _, rfl, rfl⟩ (fun v σ2 h => by obtain ⟨rfl, rfl⟩ := h; exact keeps_set h4) (fun v σ2 h => ?_)
      obtain ⟨rfl, rfl⟩ := h
      try simp (maxSteps := 4000000) (disch := omega) only [push_cast, Nat.reduceLT, Nat.reduceEqDiff, Nat.reduceAdd, Nat.reduceMul, Nat.reduceSub, Nat.reduceLeDiff, Int.reduceToNat, Int.reduceLT, Int.reduceLE, Int.reduceAdd, Int.reduceSub, Int.reduceMul, Int.reduceNeg, Int.reduceEq, reduceCtorEq, Int.cast_ofNat_Int, Hp.get_set, all_anyC, all_anyP, key_get, cell_get, kid_get, encC, List.length_map, encN, all_u8, Hp.set_set, Hp.get_set_same, List.length_map, i64w, hpf, hga, hgr, hgn, hcn, hgd, nh2_d, nh4_d, nh5_d, hn, hge, nh2_e, nh4_e, nh5_e, nhtk_e, nhtc_e, h2, h4, h5, htk, htc]
      (repeat refine And.intro (by first | (unfold Go.Vm.room; omega) | omega | (simp; done) | (simp_all; done) | (simp_all; omega)) ?_)
      try simp (maxSteps := 4000000) (disch := omega) only [push_cast, Nat.reduceLT, Nat.reduceEqDiff, Nat.reduceAdd, Nat.reduceMul, Nat.reduceSub, Nat.reduceLeDiff, Int.reduceToNat, Int.reduceLT, Int.reduceLE, Int.reduceAdd, Int.reduceSub, Int.reduceMul, Int.reduceNeg, Int.reduceEq, reduceCtorEq, Int.cast_ofNat_Int, Hp.get_set, all_anyC, all_anyP, key_get, cell_get, kid_get, encC, List.length_map, encN, all_u8, Hp.set_set, Hp.get_set_same, List.length_map, i64w, hpf, hga, hgr, hgn, hcn, hgd, nh2_d, nh4_d, nh5_d, hn, hge, nh2_e, nh4_e, nh5_e, nhtk_e, nhtc_e, h2, h4, h5, htk, htc]
      (repeat refine And.intro (by first | (unfold Go.Vm.room; omega) | omega | (simp; done) | (simp_all; done) | (simp_all; omega)) ?_)
      try simp (maxSteps := 4000000) (disch := omega) only [push_cast, Nat.reduceLT, Nat.reduceEqDiff, Nat.reduceAdd, Nat.reduceMul, Nat.reduceSub, Nat.reduceLeDiff, Int.reduceToNat, Int.reduceLT, Int.reduceLE, Int.reduceAdd, Int.reduceSub, Int.reduceMul, Int.reduceNeg, Int.reduceEq, reduceCtorEq, Int.cast_ofNat_Int, Hp.get_set, all_anyC, all_anyP, key_get, cell_get, kid_get, encC, List.length_map, encN, all_u8, Hp.set_set, Hp.get_set_same, List.length_map, i64w, hpf, hga, hgr, hgn, hcn, hgd, nh2_d, nh4_d, nh5_d, hn, hge, nh2_e, nh4_e, nh5_e, nhtk_e, nhtc_e, h2, h4, h5, htk, htc]
      (repeat refine And.intro (by first | (unfold Go.Vm.room; omega) | omega | (simp; done) | (simp_all; done) | (simp_all; omega)) ?_)
      try simp (maxSteps := 4000000) (disch := omega) only [push_cast, Nat.reduceLT, Nat.reduceEqDiff, Nat.reduceAdd, Nat.reduceMul, Nat.reduceSub, Nat.reduceLeDiff, Int.reduceToNat, Int.reduceLT, Int.reduceLE, Int.reduceAdd, Int.reduceSub, Int.reduceMul, Int.reduceNeg, Int.reduceEq, reduceCtorEq, Int.cast_ofNat_Int, Hp.get_set, all_anyC, all_anyP, key_get, cell_get, kid_get, encC, List.length_map, encN, all_u8, Hp.set_set, Hp.get_set_same, List.length_map, i64w, hpf, hga, hgr, hgn, hcn, hgd, nh2_d, nh4_d, nh5_d, hn, hge, nh2_e, nh4_e, nh5_e, nhtk_e, nhtc_e, h2, h4, h5, htk, htc]
      (repeat refine And.intro (by first | (unfold Go.Vm.room; omega) | omega | (simp; done) | (simp_all; done) | (simp_all; omega)) ?_)
      refine Qk hK [0, 2, 4, 5, 8, 32, 33] ?_
      clear hK K
      refine S_abs (Rd8 _ (ks ++ [first (val (first 1 r0)) ((r0.drop 1).drop 2)]) cs ds (((r0.drop 1).drop 2).drop (val (first 1 r0))) ⟨((val (first 2 (r0.drop 1)) : Nat) : Int), [], 0⟩ ga gr gn tk tc ge) (hR.of ((hS.step _).key _ (by simp [ndc])) (by rw [Hp.get_set_ne _ _ hR.m5, Hp.get_set_ne _ _ hR.m6, Hp.get_set_ne _ _ hR.m4])) (fun τ hR => ?_)
      have hS := hR.S
      have hn := hS.nes
      have h2 := hS.h2
      have h4 := hS.h4
      have h5 := hS.h5
      have htk := hS.hk
      have htc := hS.hc
      simp only [ndc, if_true, Bool.false_eq_true, if_false] at h5 htc
      have hca : (cellsAt _ gn).length = 4 := congrArg List.length (cellsAt_get h5)
      have h8 := hR.h8
      have hrl3 : (((r0.drop 1).drop 2).drop (val (first 1 r0))).length ≤ r0.length := by simp only [List.length_drop]; omega
      refine WS.seq (WS.seq ?_)
      refine R0 fun K hK => ?_
      try simp (maxSteps := 4000000) (disch := omega) only [push_cast, Nat.reduceLT, Nat.reduceEqDiff, Nat.reduceAdd, Nat.reduceMul, Nat.reduceSub, Nat.reduceLeDiff, Int.reduceToNat, Int.reduceLT, Int.reduceLE, Int.reduceAdd, Int.reduceSub, Int.reduceMul, Int.reduceNeg, Int.reduceEq, reduceCtorEq, Int.cast_ofNat_Int, Hp.get_set, all_anyC, all_anyP, key_get, cell_get, kid_get, encC, List.length_map, encN, all_u8, Hp.set_set, Hp.get_set_same, List.length_map, i64w, hpf, hga, hgr, hgn, hcn, hgd, nh2_d, nh4_d, nh5_d, hn, hge, nh2_e, nh4_e, nh5_e, nhtk_e, nhtc_e, h2, h4, h5, htk, htc, h8]
      (repeat refine And.intro (by first | (unfold Go.Vm.room; omega) | omega | (simp; done) | (simp_all; done) | (simp_all; omega)) ?_)
      refine Qk hK [0, 2, 4, 5, 8, 32, 33, 70] ?_
      clear hK K
      refine CI rfl (fun hc => ?_) (fun hc => ?_)
      ·
       all_goals try (cases hc; done)
       all_goals try simp only [push_cast] at hc
       all_goals try (exfalso; omega)
       all_goals
        refine R0 fun K hK => ?_
        try simp (maxSteps := 4000000) (disch := omega) only [push_cast, Nat.reduceLT, Nat.reduceEqDiff, Nat.reduceAdd, Nat.reduceMul, Nat.reduceSub, Nat.reduceLeDiff, Int.reduceToNat, Int.reduceLT, Int.reduceLE, Int.reduceAdd, Int.reduceSub, Int.reduceMul, Int.reduceNeg, Int.reduceEq, reduceCtorEq, Int.cast_ofNat_Int, Hp.get_set, all_anyC, all_anyP, key_get, cell_get, kid_get, encC, List.length_map, encN, all_u8, Hp.set_set, Hp.get_set_same, List.length_map, i64w, hpf, hga, hgr, hgn, hcn, hgd, nh2_d, nh4_d, nh5_d, hn, hge, nh2_e, nh4_e, nh5_e, nhtk_e, nhtc_e, h2, h4, h5, htk, htc, h8]
        (repeat refine And.intro (by first | (unfold Go.Vm.room; omega) | omega | (simp; done) | (simp_all; done) | (simp_all; omega)) ?_)
        refine callS (next_spec (((r0.drop 1).drop 2).drop (val (first 1 r0))) (val (first 2 (r0.drop 1))) (by omega) (by omega) h4) (fun v τ h => ?_)
        obtain ⟨rfl, rfl⟩ := h
        try simp (maxSteps := 4000000) (disch := omega) only [push_cast, Nat.reduceLT, Nat.reduceEqDiff, Nat.reduceAdd, Nat.reduceMul, Nat.reduceSub, Nat.reduceLeDiff, Int.reduceToNat, Int.reduceLT, Int.reduceLE, Int.reduceAdd, Int.reduceSub, Int.reduceMul, Int.reduceNeg, Int.reduceEq, reduceCtorEq, Int.cast_ofNat_Int, Hp.get_set, all_anyC, all_anyP, key_get, cell_get, kid_get, encC, List.length_map, encN, all_u8, Hp.set_set, Hp.get_set_same, List.length_map, i64w, hpf, hga, hgr, hgn, hcn, hgd, nh2_d, nh4_d, nh5_d, hn, hge, nh2_e, nh4_e, nh5_e, nhtk_e, nhtc_e, h2, h4, h5, htk, htc, h8]
        (repeat refine And.intro (by first | (unfold Go.Vm.room; omega) | omega | (simp; done) | (simp_all; done) | (simp_all; omega)) ?_)
        refine Qk hK [0, 2, 4, 5, 8, 32, 33] ?_
        clear hK K
        refine S_abs (Rd8 _ (ks ++ [first (val (first 1 r0)) ((r0.drop 1).drop 2)]) cs ds ((((r0.drop 1).drop 2).drop (val (first 1 r0))).drop (val (first 2 (r0.drop 1)))) ⟨(((val (first 2 (r0.drop 1))) : Nat) : Int), first (val (first 2 (r0.drop 1))) (((r0.drop 1).drop 2).drop (val (first 1 r0))), 0⟩ ga gr gn tk tc ge) ((hR.of (hS.step _) (Hp.get_set_ne _ _ hR.m4)).set8 _) (fun τ hR => ?_)
        have hcl : (⟨(((val (first 2 (r0.drop 1))) : Nat) : Int), first (val (first 2 (r0.drop 1))) (((r0.drop 1).drop 2).drop (val (first 1 r0))), 0⟩ : Cl) = ⟨(rdP true r0).1.len, (rdP true r0).1.data, (rdP true r0).1.page⟩ := by unfold rdP; simp only [if_true]; rw [if_pos (by omega)]
        have hrl4 : (((r0.drop 1).drop 2).drop (val (first 1 r0))).drop (val (first 2 (r0.drop 1))) = (rdP true r0).2 := by unfold rdP; simp only [if_true]; rw [if_pos (by omega)]
        generalize (⟨(((val (first 2 (r0.drop 1))) : Nat) : Int), first (val (first 2 (r0.drop 1))) (((r0.drop 1).drop 2).drop (val (first 1 r0))), 0⟩ : Cl) = c at hR hcl
        generalize (((r0.drop 1).drop 2).drop (val (first 1 r0))).drop (val (first 2 (r0.drop 1))) = r4 at hR hrl4
        have hS := hR.S
        have hn := hS.nes
        have h2 := hS.h2
        have h4 := hS.h4
        have h5 := hS.h5
        have htk := hS.hk
        have htc := hS.hc
        simp only [ndc, if_true, Bool.false_eq_true, if_false] at h5 htc
        have hca : (cellsAt _ gn).length = 4 := congrArg List.length (cellsAt_get h5)
        have h8 := hR.h8
        refine R0 fun K hK => ?_
        try simp (maxSteps := 4000000) (disch := omega) only [push_cast, Nat.reduceLT, Nat.reduceEqDiff, Nat.reduceAdd, Nat.reduceMul, Nat.reduceSub, Nat.reduceLeDiff, Int.reduceToNat, Int.reduceLT, Int.reduceLE, Int.reduceAdd, Int.reduceSub, Int.reduceMul, Int.reduceNeg, Int.reduceEq, reduceCtorEq, Int.cast_ofNat_Int, Hp.get_set, all_anyC, all_anyP, key_get, cell_get, kid_get, encC, List.length_map, encN, all_u8, Hp.set_set, Hp.get_set_same, List.length_map, i64w, hpf, hga, hgr, hgn, hcn, hgd, nh2_d, nh4_d, nh5_d, hn, hge, nh2_e, nh4_e, nh5_e, nhtk_e, nhtc_e, h8, h2, h4, h5, htk, htc, h8]
        (repeat refine And.intro (by first | (unfold Go.Vm.room; omega) | omega | (simp; done) | (simp_all; done) | (simp_all; omega)) ?_)
        try simp (maxSteps := 4000000) (disch := omega) only [push_cast, Nat.reduceLT, Nat.reduceEqDiff, Nat.reduceAdd, Nat.reduceMul, Nat.reduceSub, Nat.reduceLeDiff, Int.reduceToNat, Int.reduceLT, Int.reduceLE, Int.reduceAdd, Int.reduceSub, Int.reduceMul, Int.reduceNeg, Int.reduceEq, reduceCtorEq, Int.cast_ofNat_Int, Hp.get_set, all_anyC, all_anyP, key_get, cell_get, kid_get, encC, List.length_map, encN, all_u8, Hp.set_set, Hp.get_set_same, List.length_map, i64w, hpf, hga, hgr, hgn, hcn, hgd, nh2_d, nh4_d, nh5_d, hn, hge, nh2_e, nh4_e, nh5_e, nhtk_e, nhtc_e, h8, h2, h4, h5, htk, htc, h8]
        (repeat refine And.intro (by first | (unfold Go.Vm.room; omega) | omega | (simp; done) | (simp_all; done) | (simp_all; omega)) ?_)
        try simp (maxSteps := 4000000) (disch := omega) only [push_cast, Nat.reduceLT, Nat.reduceEqDiff, Nat.reduceAdd, Nat.reduceMul, Nat.reduceSub, Nat.reduceLeDiff, Int.reduceToNat, Int.reduceLT, Int.reduceLE, Int.reduceAdd, Int.reduceSub, Int.reduceMul, Int.reduceNeg, Int.reduceEq, reduceCtorEq, Int.cast_ofNat_Int, Hp.get_set, all_anyC, all_anyP, key_get, cell_get, kid_get, encC, List.length_map, encN, all_u8, Hp.set_set, Hp.get_set_same, List.length_map, i64w, hpf, hga, hgr, hgn, hcn, hgd, nh2_d, nh4_d, nh5_d, hn, hge, nh2_e, nh4_e, nh5_e, nhtk_e, nhtc_e, h8, h2, h4, h5, htk, htc, h8]
        (repeat refine And.intro (by first | (unfold Go.Vm.room; omega) | omega | (simp; done) | (simp_all; done) | (simp_all; omega)) ?_)
        try simp (maxSteps := 4000000) (disch := omega) only [push_cast, Nat.reduceLT, Nat.reduceEqDiff, Nat.reduceAdd, Nat.reduceMul, Nat.reduceSub, Nat.reduceLeDiff, Int.reduceToNat, Int.reduceLT, Int.reduceLE, Int.reduceAdd, Int.reduceSub, Int.reduceMul, Int.reduceNeg, Int.reduceEq, reduceCtorEq, Int.cast_ofNat_Int, Hp.get_set, all_anyC, all_anyP, key_get, cell_get, kid_get, encC, List.length_map, encN, all_u8, Hp.set_set, Hp.get_set_same, List.length_map, i64w, hpf, hga, hgr, hgn, hcn, hgd, nh2_d, nh4_d, nh5_d, hn, hge, nh2_e, nh4_e, nh5_e, nhtk_e, nhtc_e, h8, h2, h4, h5, htk, htc, h8]
        (repeat refine And.intro (by first | (unfold Go.Vm.room; omega) | omega | (simp; done) | (simp_all; done) | (simp_all; omega)) ?_)
        refine Qk hK [0, 2, 4, 5, 32, 33] ?_
        clear hK K
        refine S_abs (RdSt _ (ks ++ [first (val (first 1 r0)) ((r0.drop 1).drop 2)]) (cs ++ [c]) ds r4 ga gr gn tk tc) (hS.cell c (by simp [ndc, encC])) (fun τ hS => ?_)
        simp only [push_cast, WS, Nat.reduceEqDiff]
        refine hK1 _ _ ?_
        clear hK1
        try clear K1
        refine WS_keep [0, 2, 4, 5, 32, 33] _ ?_
        refine R0 fun K hK => ?_
        try simp (maxSteps := 4000000) (disch := omega) only [push_cast, Nat.reduceLT, Nat.reduceEqDiff, Int.reduceToNat, Int.reduceLT, Int.reduceLE, Int.reduceAdd, Int.reduceSub, Int.reduceMul, Int.reduceNeg, Int.reduceEq, reduceCtorEq, Int.cast_ofNat_Int, Hp.get_set, all_anyC, all_anyP, key_get, cell_get, kid_get, encC, List.length_map, encN, all_u8, Hp.set_set, Hp.get_set_same, List.length_map, i64w, hpf, hga, hgr, hgn, hcn, hgd, nh2_d, nh4_d, nh5_d, hn, hge, nh2_e, nh4_e, nh5_e, nhtk_e, nhtc_e, h8, h2, h4, h5, htk, htc, h8]
        (repeat refine And.intro (by first | (unfold Go.Vm.room; omega) | omega | (simp; done) | (simp_all; done) | (simp_all; omega)) ?_)
        refine Qk hK [0, 2, 4, 5, 32, 33] ?_
        clear hK K
        refine Ag (hM0 _ _ ?_)
        refine ⟨_, ?_, k + 1,  rfl, ?_, ?_, ?_⟩
        · first | omega | (simp; done) | (simp_all; done) | (simp_all; omega)
        · (try simp (disch := omega) only [push_cast, Int.reduceToNat, Int.reduceLT, Int.reduceLE, Int.reduceAdd, Int.reduceSub, Int.reduceMul, Int.reduceNeg, Int.reduceEq, reduceCtorEq, Nat.reduceLeDiff, Nat.reduceLT, Nat.reduceEqDiff, Nat.reduceAdd, Nat.reduceMul, Nat.reduceSub, Int.cast_ofNat_Int, all_anyC, all_anyP, key_get, cell_get, kid_get, encC, List.length_map, encN, all_u8, Hp.set_set, Hp.get_set_same, List.length_map, i64w, hpf, hga, hgr, hgn, hcn, hgd, nh2_d, nh4_d, nh5_d, hn, hge, nh2_e, nh4_e, nh5_e, nhtk_e, nhtc_e, h8, h2, h4, h5, htk, htc, h8]) <;> (first | done | rfl | (simp; done) | (simp; omega) | omega | (simp_all; done) | (simp_all; omega))
        · first | rfl | (try simp (disch := omega) only [push_cast, Int.reduceToNat, Int.reduceLT, Int.reduceLE, Int.reduceAdd, Int.reduceSub, Int.reduceMul, Int.reduceNeg, Int.reduceEq, reduceCtorEq, Nat.reduceLeDiff, Nat.reduceLT, Nat.reduceEqDiff, Nat.reduceAdd, Nat.reduceMul, Nat.reduceSub, Int.cast_ofNat_Int, all_anyC, all_anyP, key_get, cell_get, kid_get, encC, List.length_map, encN, all_u8, Hp.set_set, Hp.get_set_same, List.length_map, i64w, hpf, hga, hgr, hgn, hcn, hgd, nh2_d, nh4_d, nh5_d, hn, hge, nh2_e, nh4_e, nh5_e, nhtk_e, nhtc_e, h8, h2, h4, h5, htk, htc, h8]) <;> (first | done | rfl | (simp; done) | (simp; omega) | omega | (simp_all; done) | (simp_all; omega))
        · first | exact ⟨by omega, RdK.inner hl hr0 (by rw [hks, hcs, hds]; exact hS)⟩ | exact ⟨by omega, RdK.leaf hl hr0 hcl hrl4 (by rw [hks, hcs, hds]; exact hS)⟩
      ·
       all_goals try (cases hc; done)
       all_goals try simp only [push_cast] at hc
       all_goals try (exfalso; omega)
       all_goals
        refine R0 fun K hK => ?_
        try simp (maxSteps := 4000000) (disch := omega) only [push_cast, Nat.reduceLT, Nat.reduceEqDiff, Nat.reduceAdd, Nat.reduceMul, Nat.reduceSub, Nat.reduceLeDiff, Hp.get_set, all_anyC, all_anyP, key_get, cell_get, kid_get, encC, List.length_map, encN, all_u8, Hp.set_set, Hp.get_set_same, List.length_map, i64w, hpf, hga, hgr, hgn, hcn, hgd, nh2_d, nh4_d, nh5_d, hn, hge, nh2_e, nh4_e, nh5_e, nhtk_e, nhtc_e, h2, h4, h5, htk, htc, h8]
        (repeat refine And.intro (by first | (unfold Go.Vm.room; omega) | omega | (simp; done) | (simp_all; done) | (simp_all; omega)) ?_)
        refine callS (number_spec (((r0.drop 1).drop 2).drop (val (first 1 r0))) 4 (by omega) (by omega) h4) (fun v τ h => ?_)
        obtain ⟨rfl, rfl⟩ := h
        try simp (maxSteps := 4000000) (disch := omega) only [push_cast, Nat.reduceLT, Nat.reduceEqDiff, Nat.reduceAdd, Nat.reduceMul, Nat.reduceSub, Nat.reduceLeDiff, Hp.get_set, all_anyC, all_anyP, key_get, cell_get, kid_get, encC, List.length_map, encN, all_u8, Hp.set_set, Hp.get_set_same, List.length_map, i64w, hpf, hga, hgr, hgn, hcn, hgd, nh2_d, nh4_d, nh5_d, hn, hge, nh2_e, nh4_e, nh5_e, nhtk_e, nhtc_e, h2, h4, h5, htk, htc, h8]
        (repeat refine And.intro (by first | (unfold Go.Vm.room; omega) | omega | (simp; done) | (simp_all; done) | (simp_all; omega)) ?_)
        refine Qk hK [0, 2, 4, 5, 8, 32, 33] ?_
        clear hK K
        refine S_abs (Rd8 _ (ks ++ [first (val (first 1 r0)) ((r0.drop 1).drop 2)]) cs ds ((((r0.drop 1).drop 2).drop (val (first 1 r0))).drop 4) ⟨(((val (first 2 (r0.drop 1))) : Nat) : Int), [], ((val (first 4 (((r0.drop 1).drop 2).drop (val (first 1 r0)))) : Nat) : Int)⟩ ga gr gn tk tc ge) ((hR.of (hS.step _) (Hp.get_set_ne _ _ hR.m4)).set8 _) (fun τ hR => ?_)
        have hcl : (⟨(((val (first 2 (r0.drop 1))) : Nat) : Int), [], ((val (first 4 (((r0.drop 1).drop 2).drop (val (first 1 r0)))) : Nat) : Int)⟩ : Cl) = ⟨(rdP true r0).1.len, (rdP true r0).1.data, (rdP true r0).1.page⟩ := by unfold rdP; simp only [if_true]; rw [if_neg (by omega)]
        have hrl4 : (((r0.drop 1).drop 2).drop (val (first 1 r0))).drop 4 = (rdP true r0).2 := by unfold rdP; simp only [if_true]; rw [if_neg (by omega)]
        generalize (⟨(((val (first 2 (r0.drop 1))) : Nat) : Int), [], ((val (first 4 (((r0.drop 1).drop 2).drop (val (first 1 r0)))) : Nat) : Int)⟩ : Cl) = c at hR hcl
        generalize (((r0.drop 1).drop 2).drop (val (first 1 r0))).drop 4 = r4 at hR hrl4
        have hS := hR.S
        have hn := hS.nes
        have h2 := hS.h2
        have h4 := hS.h4
        have h5 := hS.h5
        have htk := hS.hk
        have htc := hS.hc
        simp only [ndc, if_true, Bool.false_eq_true, if_false] at h5 htc
        have hca : (cellsAt _ gn).length = 4 := congrArg List.length (cellsAt_get h5)
        have h8 := hR.h8
        refine R0 fun K hK => ?_
        try simp (maxSteps := 4000000) (disch := omega) only [push_cast, Nat.reduceLT, Nat.reduceEqDiff, Nat.reduceAdd, Nat.reduceMul, Nat.reduceSub, Nat.reduceLeDiff, Int.reduceToNat, Int.reduceLT, Int.reduceLE, Int.reduceAdd, Int.reduceSub, Int.reduceMul, Int.reduceNeg, Int.reduceEq, reduceCtorEq, Int.cast_ofNat_Int, Hp.get_set, all_anyC, all_anyP, key_get, cell_get, kid_get, encC, List.length_map, encN, all_u8, Hp.set_set, Hp.get_set_same, List.length_map, i64w, hpf, hga, hgr, hgn, hcn, hgd, nh2_d, nh4_d, nh5_d, hn, hge, nh2_e, nh4_e, nh5_e, nhtk_e, nhtc_e, h8, h2, h4, h5, htk, htc, h8]
        (repeat refine And.intro (by first | (unfold Go.Vm.room; omega) | omega | (simp; done) | (simp_all; done) | (simp_all; omega)) ?_)
        try simp (maxSteps := 4000000) (disch := omega) only [push_cast, Nat.reduceLT, Nat.reduceEqDiff, Nat.reduceAdd, Nat.reduceMul, Nat.reduceSub, Nat.reduceLeDiff, Int.reduceToNat, Int.reduceLT, Int.reduceLE, Int.reduceAdd, Int.reduceSub, Int.reduceMul, Int.reduceNeg, Int.reduceEq, reduceCtorEq, Int.cast_ofNat_Int, Hp.get_set, all_anyC, all_anyP, key_get, cell_get, kid_get, encC, List.length_map, encN, all_u8, Hp.set_set, Hp.get_set_same, List.length_map, i64w, hpf, hga, hgr, hgn, hcn, hgd, nh2_d, nh4_d, nh5_d, hn, hge, nh2_e, nh4_e, nh5_e, nhtk_e, nhtc_e, h8, h2, h4, h5, htk, htc, h8]
        (repeat refine And.intro (by first | (unfold Go.Vm.room; omega) | omega | (simp; done) | (simp_all; done) | (simp_all; omega)) ?_)
        try simp (maxSteps := 4000000) (disch := omega) only [push_cast, Nat.reduceLT, Nat.reduceEqDiff, Nat.reduceAdd, Nat.reduceMul, Nat.reduceSub, Nat.reduceLeDiff, Int.reduceToNat, Int.reduceLT, Int.reduceLE, Int.reduceAdd, Int.reduceSub, Int.reduceMul, Int.reduceNeg, Int.reduceEq, reduceCtorEq, Int.cast_ofNat_Int, Hp.get_set, all_anyC, all_anyP, key_get, cell_get, kid_get, encC, List.length_map, encN, all_u8, Hp.set_set, Hp.get_set_same, List.length_map, i64w, hpf, hga, hgr, hgn, hcn, hgd, nh2_d, nh4_d, nh5_d, hn, hge, nh2_e, nh4_e, nh5_e, nhtk_e, nhtc_e, h8, h2, h4, h5, htk, htc, h8]
        (repeat refine And.intro (by first | (unfold Go.Vm.room; omega) | omega | (simp; done) | (simp_all; done) | (simp_all; omega)) ?_)
        try simp (maxSteps := 4000000) (disch := omega) only [push_cast, Nat.reduceLT, Nat.reduceEqDiff, Nat.reduceAdd, Nat.reduceMul, Nat.reduceSub, Nat.reduceLeDiff, Int.reduceToNat, Int.reduceLT, Int.reduceLE, Int.reduceAdd, Int.reduceSub, Int.reduceMul, Int.reduceNeg, Int.reduceEq, reduceCtorEq, Int.cast_ofNat_Int, Hp.get_set, all_anyC, all_anyP, key_get, cell_get, kid_get, encC, List.length_map, encN, all_u8, Hp.set_set, Hp.get_set_same, List.length_map, i64w, hpf, hga, hgr, hgn, hcn, hgd, nh2_d, nh4_d, nh5_d, hn, hge, nh2_e, nh4_e, nh5_e, nhtk_e, nhtc_e, h8, h2, h4, h5, htk, htc, h8]
        (repeat refine And.intro (by first | (unfold Go.Vm.room; omega) | omega | (simp; done) | (simp_all; done) | (simp_all; omega)) ?_)
        refine Qk hK [0, 2, 4, 5, 32, 33] ?_
        clear hK K
        refine S_abs (RdSt _ (ks ++ [first (val (first 1 r0)) ((r0.drop 1).drop 2)]) (cs ++ [c]) ds r4 ga gr gn tk tc) (hS.cell c (by simp [ndc, encC])) (fun τ hS => ?_)
        simp only [push_cast, WS, Nat.reduceEqDiff]
        refine hK1 _ _ ?_
        clear hK1
        try clear K1
        refine WS_keep [0, 2, 4, 5, 32, 33] _ ?_
        refine R0 fun K hK => ?_
        try simp (maxSteps := 4000000) (disch := omega) only [push_cast, Nat.reduceLT, Nat.reduceEqDiff, Int.reduceToNat, Int.reduceLT, Int.reduceLE, Int.reduceAdd, Int.reduceSub, Int.reduceMul, Int.reduceNeg, Int.reduceEq, reduceCtorEq, Int.cast_ofNat_Int, Hp.get_set, all_anyC, all_anyP, key_get, cell_get, kid_get, encC, List.length_map, encN, all_u8, Hp.set_set, Hp.get_set_same, List.length_map, i64w, hpf, hga, hgr, hgn, hcn, hgd, nh2_d, nh4_d, nh5_d, hn, hge, nh2_e, nh4_e, nh5_e, nhtk_e, nhtc_e, h8, h2, h4, h5, htk, htc, h8]
        (repeat refine And.intro (by first | (unfold Go.Vm.room; omega) | omega | (simp; done) | (simp_all; done) | (simp_all; omega)) ?_)
        refine Qk hK [0, 2, 4, 5, 32, 33] ?_
        clear hK K
        refine Ag (hM0 _ _ ?_)
        refine ⟨_, ?_, k + 1,  rfl, ?_, ?_, ?_⟩
        · first | omega | (simp; done) | (simp_all; done) | (simp_all; omega)
        · (try simp (disch := omega) only [push_cast, Int.reduceToNat, Int.reduceLT, Int.reduceLE, Int.reduceAdd, Int.reduceSub, Int.reduceMul, Int.reduceNeg, Int.reduceEq, reduceCtorEq, Nat.reduceLeDiff, Nat.reduceLT, Nat.reduceEqDiff, Nat.reduceAdd, Nat.reduceMul, Nat.reduceSub, Int.cast_ofNat_Int, all_anyC, all_anyP, key_get, cell_get, kid_get, encC, List.length_map, encN, all_u8, Hp.set_set, Hp.get_set_same, List.length_map, i64w, hpf, hga, hgr, hgn, hcn, hgd, nh2_d, nh4_d, nh5_d, hn, hge, nh2_e, nh4_e, nh5_e, nhtk_e, nhtc_e, h8, h2, h4, h5, htk, htc, h8]) <;> (first | done | rfl | (simp; done) | (simp; omega) | omega | (simp_all; done) | (simp_all; omega))
        · first | rfl | (try simp (disch := omega) only [push_cast, Int.reduceToNat, Int.reduceLT, Int.reduceLE, Int.reduceAdd, Int.reduceSub, Int.reduceMul, Int.reduceNeg, Int.reduceEq, reduceCtorEq, Nat.reduceLeDiff, Nat.reduceLT, Nat.reduceEqDiff, Nat.reduceAdd, Nat.reduceMul, Nat.reduceSub, Int.cast_ofNat_Int, all_anyC, all_anyP, key_get, cell_get, kid_get, encC, List.length_map, encN, all_u8, Hp.set_set, Hp.get_set_same, List.length_map, i64w, hpf, hga, hgr, hgn, hcn, hgd, nh2_d, nh4_d, nh5_d, hn, hge, nh2_e, nh4_e, nh5_e, nhtk_e, nhtc_e, h8, h2, h4, h5, htk, htc, h8]) <;> (first | done | rfl | (simp; done) | (simp; omega) | omega | (simp_all; done) | (simp_all; omega))
        · first | exact ⟨by omega, RdK.inner hl hr0 (by rw [hks, hcs, hds]; exact hS)⟩ | exact ⟨by omega, RdK.leaf hl hr0 hcl hrl4 (by rw [hks, hcs, hds]; exact hS)⟩
  ·
   all_goals try (cases hc; done)
   all_goals try simp only [push_cast] at hc
   all_goals try (exfalso; omega)
   all_goals
    refine Sk ?_
    refine WS.seq (WS.seq ?_)
    first
    | (refine S_tokH 1 (g := gn) (i := 1) h5 rfl (fun tk htk => ?_); refine S_tokH 3 (g := gn) (i := 2) (Hp.get_set_same _ _ _) rfl (fun tc htc => ?_); refine S_anyK (b := b) (k := 0) (ga := ga) (gr := gr) (gn := gn) ⟨tk, tc, RdK.leaf0 hl (RdSt.leaf0 h2 h4 h5 n1 n2 n3 htk htc)⟩ (fun tk tc τ hS => ?_))
    | (refine S_tokH 1 (g := gn) (i := 1) (Hp.get_set_same _ _ _) rfl (fun tk htk => ?_); refine S_anyK (b := b) (k := 0) (ga := ga) (gr := gr) (gn := gn) ⟨tk, gd, RdK.inner0 hl (RdSt.inner0 h2 h4 h5 n1 n2 n3 (Hp.set_none.2 hgd) htk)⟩ (fun tk tc τ hS => ?_))
    refine R0 fun K hK => ?_
    try simp (maxSteps := 4000000) (disch := omega) only [push_cast, Nat.reduceLT, Nat.reduceEqDiff, Hp.get_set, all_anyC, all_anyP, key_get, cell_get, kid_get, encC, List.length_map, encN, all_u8, Hp.set_set, Hp.get_set_same, List.length_map, i64w, hpf, hga, hgr, hgn, hcn, h2, h4, h5]
    refine Qk hK [0, 2, 4, 5, 32, 33] ?_
    clear hK K
    refine Bk fun K0 hK0 => ?_
    refine WS_keep [0, 2, 4, 5, 32, 33] _ ?_
    refine Lp (fun m env σ' => ∃ (k : Nat), m = 512 - k ∧ env = [(0, .sl 1 (b.map u8) .no), (2, .ptr ga 0), (4, .ptr gr 0), (5, .ptr gn 0), (32, .int .i64 (min (cnt b) 512 : Nat)), (33, .int .i64 k)] ∧ σ' = σ' ∧ (k ≤ min (cnt b) 512 ∧ RdK b k ga gr gn tk tc σ')) ?_ ?_
    · refine ⟨_, 0,  rfl, ?_, ?_, ?_⟩
      · (try simp (disch := omega) only [push_cast, Int.reduceToNat, Int.reduceLT, Int.reduceLE, Int.reduceAdd, Int.reduceSub, Int.reduceMul, Int.reduceNeg, Int.reduceEq, reduceCtorEq, Nat.reduceLeDiff, Nat.reduceLT, Nat.reduceEqDiff, Nat.reduceAdd, Nat.reduceMul, Nat.reduceSub, Int.cast_ofNat_Int, all_anyC, all_anyP, key_get, cell_get, kid_get, encC, List.length_map, encN, all_u8, Hp.set_set, Hp.get_set_same, List.length_map, i64w, hpf, hga, hgr, hgn, hcn, h2, h4, h5]) <;> (first | done | rfl | (simp; done) | (simp; omega) | omega | (simp_all; done) | (simp_all; omega))
      · first | rfl | (try simp (disch := omega) only [push_cast, Int.reduceToNat, Int.reduceLT, Int.reduceLE, Int.reduceAdd, Int.reduceSub, Int.reduceMul, Int.reduceNeg, Int.reduceEq, reduceCtorEq, Nat.reduceLeDiff, Nat.reduceLT, Nat.reduceEqDiff, Nat.reduceAdd, Nat.reduceMul, Nat.reduceSub, Int.cast_ofNat_Int, all_anyC, all_anyP, key_get, cell_get, kid_get, encC, List.length_map, encN, all_u8, Hp.set_set, Hp.get_set_same, List.length_map, i64w, hpf, hga, hgr, hgn, hcn, h2, h4, h5]) <;> (first | done | rfl | (simp; done) | (simp; omega) | omega | (simp_all; done) | (simp_all; omega))
      · exact ⟨by omega, hS⟩
    intro m env σ' hJ M0 hM0
    obtain ⟨k, rfl, rfl, -, hk, hS⟩ := hJ
    have hrl := rdRb_len b k
    have hxk := Xk_keys b k
    unfold RdK at hS
    generalize hks : (Xk b k).keys = ks at hS hxk
    generalize hcs : (Xk b k).cells = cs at hS
    generalize hds : (Xk b k).kids = ds at hS
    generalize hr0 : rdR (pfx b) k (Node.rest b) = r0 at hS hrl
    rw [hl] at hS
    have hf1 := first1_lt r0
    have hn := hS.nes
    have h2 := hS.h2
    have h4 := hS.h4
    have h5 := hS.h5
    have htk := hS.hk
    have htc := hS.hc
    simp only [ndc, if_true, Bool.false_eq_true, if_false] at h5 htc
    have hca : (cellsAt _ gn).length = 4 := congrArg List.length (cellsAt_get h5)
    refine WS.seq ?_
    refine R0 fun K hK => ?_
    try simp (maxSteps := 4000000) (disch := omega) only [push_cast, Nat.reduceLT, Nat.reduceEqDiff, Int.reduceToNat, Int.reduceLT, Int.reduceLE, Int.reduceAdd, Int.reduceSub, Int.reduceMul, Int.reduceNeg, Int.reduceEq, reduceCtorEq, Int.cast_ofNat_Int, Hp.get_set, all_anyC, all_anyP, key_get, cell_get, kid_get, encC, List.length_map, encN, all_u8, Hp.set_set, Hp.get_set_same, List.length_map, i64w, hpf, hga, hgr, hgn, hcn, h2, h4, h5, htk, htc, hn]
    refine Qk hK [0, 2, 4, 5, 32, 33, 34] ?_
    clear hK K
    refine WS.seq ?_
    refine CI rfl (fun hc => ?_) (fun hc => ?_)
    rotate_left
    ·
     all_goals try (cases hc; done)
     all_goals try simp only [push_cast] at hc
     all_goals try (exfalso; omega)
     all_goals
      have hke : k = min (cnt b) 512 := by omega
      have hX := Xk_parse b
      rw [← hke] at hX
      rw [hX] at hks hcs hds
      have hXl : (ofR (parse b)).leaf = pfx b := by rw [← hX]; rfl
      rw [hl] at hXl
      have hsm := parse_sm b
      refine Ex ?_
      simp only [push_cast, WS, Nat.reduceEqDiff]
      refine hK0 _ _ ?_
      clear hK0
      try clear K0
      refine WS_keep [0, 2, 5] _ ?_
      refine WS.seq (WS.seq ?_)
      first
      | refine S_wkH (g := gn) h5 (wk_leaf hXl hks hcs (by rw [← hX]; simp [Xk, ofR, hl])) rfl ?_
      | refine S_wkH (g := gn) h5 (wk_inner hXl hks hds (by rw [← hX]; simp [Xk, ofR, hl])) rfl ?_
      refine S_abs (fun τ => τ.get ga = some (.cells [.bool false, .sl 0 [] .full, .sl 0 [] .full, .sl 0 [] .full]) ∧ τ.get gn = some (.cells (ncs (ofR (parse b)))) ∧ ga ≠ gn) ⟨by rw [Hp.get_set_ne _ _ hS.n2]; exact h2, Hp.get_set_same _ _ _, hS.n2⟩ (fun τ hh => ?_)
      obtain ⟨h2, h5, n2⟩ := hh
      simp only [ncs] at h5
      refine R0 fun K hK => ?_
      try simp (maxSteps := 4000000) (disch := omega) only [push_cast, Nat.reduceLT, Nat.reduceEqDiff, Nat.reduceAdd, Nat.reduceMul, Nat.reduceSub, Nat.reduceLeDiff, Hp.get_set, all_anyC, all_anyP, key_get, cell_get, kid_get, encC, List.length_map, encN, all_u8, Hp.set_set, Hp.get_set_same, List.length_map, i64w, hpf, hga, hgr, hgn, hcn, hn, h2, h5]
      (repeat refine And.intro (by first | (unfold Go.Vm.room; omega) | omega | (simp; done) | (simp_all; done) | (simp_all; omega)) ?_)
      refine callP (write_spec (ofR (parse b)) hsm) rfl ?_
      try simp (maxSteps := 4000000) (disch := omega) only [push_cast, Nat.reduceLT, Nat.reduceEqDiff, Nat.reduceAdd, Nat.reduceMul, Nat.reduceSub, Nat.reduceLeDiff, Hp.get_set, all_anyC, all_anyP, key_get, cell_get, kid_get, encC, List.length_map, encN, all_u8, Hp.set_set, Hp.get_set_same, List.length_map, i64w, hpf, hga, hgr, hgn, hcn, hn, h2, h5]
      (repeat refine And.intro (by first | (unfold Go.Vm.room; omega) | omega | (simp; done) | (simp_all; done) | (simp_all; omega)) ?_)
      refine Qk hK [0, 2, 5, 9, 10] ?_
      clear hK K
      refine WS.seq ?_
      refine R0 fun K hK => ?_
      try simp (maxSteps := 4000000) (disch := omega) only [push_cast, Nat.reduceLT, Nat.reduceEqDiff, Int.reduceToNat, Int.reduceLT, Int.reduceLE, Int.reduceAdd, Int.reduceSub, Int.reduceMul, Int.reduceNeg, Int.reduceEq, reduceCtorEq, Int.cast_ofNat_Int, Hp.get_set, all_anyC, all_anyP, key_get, cell_get, kid_get, encC, List.length_map, encN, all_u8, Hp.set_set, Hp.get_set_same, List.length_map, i64w, hpf, hga, hgr, hgn, hcn, hn, h2, h5]
      all_goals try (first | refine guardT 94 rfl (fun hc => ?_) (fun hc => ?_) | refine guardF 94 rfl (fun hc => ?_) (fun hc => ?_)) <;> try simp only [push_cast] at hc
      all_goals try (exfalso; omega)
      all_goals try simp (maxSteps := 4000000) (disch := omega) only [push_cast, Nat.reduceLT, Nat.reduceEqDiff, Int.reduceToNat, Int.reduceLT, Int.reduceLE, Int.reduceAdd, Int.reduceSub, Int.reduceMul, Int.reduceNeg, Int.reduceEq, reduceCtorEq, Int.cast_ofNat_Int, Hp.get_set, all_anyC, all_anyP, key_get, cell_get, kid_get, encC, List.length_map, encN, all_u8, Hp.set_set, Hp.get_set_same, List.length_map, i64w, hpf, hga, hgr, hgn, hcn, hn, h2, h5]
      all_goals try (
        refine callP (bequal_spec _ _) rfl ?_)
      all_goals try simp (maxSteps := 4000000) (disch := omega) only [push_cast, Nat.reduceLT, Nat.reduceEqDiff, Int.reduceToNat, Int.reduceLT, Int.reduceLE, Int.reduceAdd, Int.reduceSub, Int.reduceMul, Int.reduceNeg, Int.reduceEq, reduceCtorEq, Int.cast_ofNat_Int, Hp.get_set, all_anyC, all_anyP, key_get, cell_get, kid_get, encC, List.length_map, encN, all_u8, Hp.set_set, Hp.get_set_same, List.length_map, i64w, hpf, hga, hgr, hgn, hcn, hn, h2, h5]
      all_goals
       refine Qk hK [2, 5, 99] ?_
       clear hK K
       refine CI rfl (fun hc => ?_) (fun hc => ?_)
       ·
        all_goals try (cases hc; done)
        all_goals try simp only [push_cast] at hc
        all_goals try (exfalso; omega)
        all_goals
         refine WS.seq ?_
         refine R0 fun K hK => ?_
         try simp (maxSteps := 4000000) (disch := omega) only [push_cast, Nat.reduceLT, Nat.reduceEqDiff, Nat.reduceAdd, Nat.reduceMul, Nat.reduceSub, Nat.reduceLeDiff, Hp.get_set, all_anyC, all_anyP, key_get, cell_get, kid_get, encC, List.length_map, encN, all_u8, Hp.set_set, Hp.get_set_same, List.length_map, i64w, hpf, hga, hgr, hgn, hcn, hn, h2, h5]
         (repeat refine And.intro (by first | (unfold Go.Vm.room; omega) | omega | (simp; done) | (simp_all; done) | (simp_all; omega)) ?_)
         refine Qk hK [2, 3] ?_
         clear hK K
         refine S_wkH (g := ga) (by first | exact Hp.get_set_same _ _ _ | (simp only [Hp.get_set_same]; done)) (l := [.bool false, .sl 0 [] .full, .sl 0 [] .full, .sl 0 [] .full]) (l' := [.bool false, .sl 1 [] .no, .sl 3 [] .no, .sl 1 [] .no]) ⟨Wk.refl _, Wk.nil 0 1 .full, Wk.nil 0 3 .full, Wk.nil 0 1 .full, trivial⟩ rfl ?_
         refine Rt ?_
         refine hQ0 _ _ _ ?_
         try simp (maxSteps := 4000000) only [push_cast, Int.reduceToNat, Int.reduceLT, Int.reduceLE, Int.reduceAdd, Int.reduceSub, Int.reduceMul, Int.reduceNeg, Int.reduceEq, reduceCtorEq, Nat.reduceLeDiff, Nat.reduceLT, Nat.reduceEqDiff, Nat.reduceAdd, Nat.reduceMul, Nat.reduceSub, Int.cast_ofNat_Int, all_anyC, all_anyP, key_get, cell_get, kid_get, encC, List.length_map, encN, all_u8, Hp.set_set, Hp.get_set_same, List.length_map, i64w, hpf, hga, hgr, hgn, hcn, hn, h2, h5]
         first
         | (have hz := readN_no1 (b := b) (by assumption); rw [hz]; rfl)
         | (have hz := readN_no2 (b := b) (by assumption); rw [hz]; rfl)
       all_goals try (cases hc; done)
       all_goals try simp only [push_cast] at hc
       all_goals try (exfalso; omega)
       all_goals
        refine Sk ?_
        refine WS.seq ?_
        refine R0 fun K hK => ?_
        try simp (maxSteps := 4000000) (disch := omega) only [push_cast, Nat.reduceLT, Nat.reduceEqDiff, Nat.reduceAdd, Nat.reduceMul, Nat.reduceSub, Nat.reduceLeDiff, Hp.get_set, all_anyC, all_anyP, key_get, cell_get, kid_get, encC, List.length_map, encN, all_u8, Hp.set_set, Hp.get_set_same, List.length_map, i64w, hpf, hga, hgr, hgn, hcn, hn, h2, h5]
        (repeat refine And.intro (by first | (unfold Go.Vm.room; omega) | omega | (simp; done) | (simp_all; done) | (simp_all; omega)) ?_)
        refine Qk hK [2, 3] ?_
        clear hK K
        refine Rt ?_
        refine hQ0 _ _ _ ?_
        try simp (maxSteps := 4000000) only [push_cast, Int.reduceToNat, Int.reduceLT, Int.reduceLE, Int.reduceAdd, Int.reduceSub, Int.reduceMul, Int.reduceNeg, Int.reduceEq, reduceCtorEq, Nat.reduceLeDiff, Nat.reduceLT, Nat.reduceEqDiff, Nat.reduceAdd, Nat.reduceMul, Nat.reduceSub, Int.cast_ofNat_Int, all_anyC, all_anyP, key_get, cell_get, kid_get, encC, List.length_map, encN, all_u8, Hp.set_set, Hp.get_set_same, List.length_map, i64w, hpf, hga, hgr, hgn, hcn, hn, h2, h5]
        rw [readN_ok hb5 (by assumption) (by assumption)]
    all_goals try (cases hc; done)
    all_goals try simp only [push_cast] at hc
    all_goals try (exfalso; omega)
    all_goals
     refine Sk ?_
     refine WS.seq ?_
     refine Bk fun K1 hK1 => ?_
     refine WS.seq ?_
     refine R0 fun K hK => ?_
     try simp (maxSteps := 4000000) (disch := omega) only [push_cast, Nat.reduceLT, Nat.reduceEqDiff, Hp.get_set, all_anyC, all_anyP, key_get, cell_get, kid_get, encC, List.length_map, encN, all_u8, Hp.set_set, Hp.get_set_same, List.length_map, i64w, hpf, hga, hgr, hgn, hcn, h2, h4, h5, htk, htc, hn]
     refine callS (number_spec r0 1 (by omega) (by omega) h4) (fun v τ h => ?_)
     obtain ⟨rfl, rfl⟩ := h
     try simp (maxSteps := 4000000) (disch := omega) only [push_cast, Nat.reduceLT, Nat.reduceEqDiff, Hp.get_set, all_anyC, all_anyP, key_get, cell_get, kid_get, encC, List.length_map, encN, all_u8, Hp.set_set, Hp.get_set_same, List.length_map, i64w, hpf, hga, hgr, hgn, hcn, h2, h4, h5, htk, htc, hn]
     refine Qk hK [0, 2, 4, 5, 7, 32, 33] ?_
     clear hK K
     refine S_abs (RdSt _ ks cs ds (r0.drop 1) ga gr gn tk tc) (hS.step _) (fun τ hS => ?_)
     have hn := hS.nes
     have h2 := hS.h2
     have h4 := hS.h4
     have h5 := hS.h5
     have htk := hS.hk
     have htc := hS.hc
     simp only [ndc, if_true, Bool.false_eq_true, if_false] at h5 htc
     have hca : (cellsAt _ gn).length = 4 := congrArg List.length (cellsAt_get h5)
     have hrl1 : (r0.drop 1).length ≤ r0.length := by simp only [List.length_drop]; omega
     refine WS.seq (WS.seq ?_)
     refine R0 fun K hK => ?_
     try simp (maxSteps := 4000000) (disch := omega) only [push_cast, Nat.reduceLT, Nat.reduceEqDiff, Nat.reduceAdd, Nat.reduceMul, Nat.reduceSub, Nat.reduceLeDiff, Int.reduceToNat, Int.reduceLT, Int.reduceLE, Int.reduceAdd, Int.reduceSub, Int.reduceMul, Int.reduceNeg, Int.reduceEq, reduceCtorEq, Int.cast_ofNat_Int, Hp.get_set, all_anyC, all_anyP, key_get, cell_get, kid_get, encC, List.length_map, encN, all_u8, Hp.set_set, Hp.get_set_same, List.length_map, i64w, hpf, hga, hgr, hgn, hcn, hn, h2, h4, h5, htk, htc]
     (repeat refine And.intro (by first | (unfold Go.Vm.room; omega) | omega | (simp; done) | (simp_all; done) | (simp_all; omega)) ?_)
     refine Qk hK [0, 2, 4, 5, 7, 32, 33, 39] ?_
     clear hK K
     refine CI rfl (fun hc => ?_) (fun hc => ?_)
     ·
      all_goals try (cases hc; done)
      all_goals try simp only [push_cast] at hc
      all_goals try (exfalso; omega)
      all_goals
       have hdl := Xk_kids b k hl
       rw [hds] at hdl
       refine WS.seq ?_
       refine RD [1000041] [2000063] fo (by kernel_rfl) fun K hK => ?_
       try simp (maxSteps := 4000000) (disch := omega) only [push_cast, Nat.reduceLT, Nat.reduceEqDiff, Nat.reduceAdd, Nat.reduceMul, Nat.reduceSub, Nat.reduceLeDiff, Int.reduceToNat, Int.reduceLT, Int.reduceLE, Int.reduceAdd, Int.reduceSub, Int.reduceMul, Int.reduceNeg, Int.reduceEq, reduceCtorEq, Int.cast_ofNat_Int, Hp.get_set, all_anyC, all_anyP, key_get, cell_get, kid_get, encC, List.length_map, encN, all_u8, Hp.set_set, Hp.get_set_same, List.length_map, i64w, hpf, hga, hgr, hgn, hcn, hn, h2, h4, h5, htk, htc]
       (repeat refine And.intro (by first | (unfold Go.Vm.room; omega) | omega | (simp; done) | (simp_all; done) | (simp_all; omega)) ?_)
       try simp (maxSteps := 4000000) (disch := omega) only [push_cast, Nat.reduceLT, Nat.reduceEqDiff, Nat.reduceAdd, Nat.reduceMul, Nat.reduceSub, Nat.reduceLeDiff, Int.reduceToNat, Int.reduceLT, Int.reduceLE, Int.reduceAdd, Int.reduceSub, Int.reduceMul, Int.reduceNeg, Int.reduceEq, reduceCtorEq, Int.cast_ofNat_Int, Hp.get_set, all_anyC, all_anyP, key_get, cell_get, kid_get, encC, List.length_map, encN, all_u8, Hp.set_set, Hp.get_set_same, List.length_map, i64w, hpf, hga, hgr, hgn, hcn, hn, h2, h4, h5, htk, htc]
       (repeat refine And.intro (by first | (unfold Go.Vm.room; omega) | omega | (simp; done) | (simp_all; done) | (simp_all; omega)) ?_)
       refine callKD rfl (next_spec (r0.drop 1) (val (first 1 r0)) (by omega) (by omega) h4) ⟨_, _, rfl, rfl⟩ (fun v σ2 h => by obtain ⟨rfl, rfl⟩ := h; exact keeps_set h4) (fun v σ2 h => ?_)
       obtain ⟨rfl, rfl⟩ := h
       try simp (maxSteps := 4000000) (disch := omega) only [push_cast, Nat.reduceLT, Nat.reduceEqDiff, Nat.reduceAdd, Nat.reduceMul, Nat.reduceSub, Nat.reduceLeDiff, Int.reduceToNat, Int.reduceLT, Int.reduceLE, Int.reduceAdd, Int.reduceSub, Int.reduceMul, Int.reduceNeg, Int.reduceEq, reduceCtorEq, Int.cast_ofNat_Int, Hp.get_set, all_anyC, all_anyP, key_get, cell_get, kid_get, encC, List.length_map, encN, all_u8, Hp.set_set, Hp.get_set_same, List.length_map, i64w, hpf, hga, hgr, hgn, hcn, hn, h2, h4, h5, htk, htc]
       (repeat refine And.intro (by first | (unfold Go.Vm.room; omega) | omega | (simp; done) | (simp_all; done) | (simp_all; omega)) ?_)
       try simp (maxSteps := 4000000) (disch := omega) only [push_cast, Nat.reduceLT, Nat.reduceEqDiff, Nat.reduceAdd, Nat.reduceMul, Nat.reduceSub, Nat.reduceLeDiff, Int.reduceToNat, Int.reduceLT, Int.reduceLE, Int.reduceAdd, Int.reduceSub, Int.reduceMul, Int.reduceNeg, Int.reduceEq, reduceCtorEq, Int.cast_ofNat_Int, Hp.get_set, all_anyC, all_anyP, key_get, cell_get, kid_get, encC, List.length_map, encN, all_u8, Hp.set_set, Hp.get_set_same, List.length_map, i64w, hpf, hga, hgr, hgn, hcn, hn, h2, h4, h5, htk, htc]
       (repeat refine And.intro (by first | (unfold Go.Vm.room; omega) | omega | (simp; done) | (simp_all; done) | (simp_all; omega)) ?_)
       try simp (maxSteps := 4000000) (disch := omega) only [push_cast, Nat.reduceLT, Nat.reduceEqDiff, Nat.reduceAdd, Nat.reduceMul, Nat.reduceSub, Nat.reduceLeDiff, Int.reduceToNat, Int.reduceLT, Int.reduceLE, Int.reduceAdd, Int.reduceSub, Int.reduceMul, Int.reduceNeg, Int.reduceEq, reduceCtorEq, Int.cast_ofNat_Int, Hp.get_set, all_anyC, all_anyP, key_get, cell_get, kid_get, encC, List.length_map, encN, all_u8, Hp.set_set, Hp.get_set_same, List.length_map, i64w, hpf, hga, hgr, hgn, hcn, hn, h2, h4, h5, htk, htc]
       (repeat refine And.intro (by first | (unfold Go.Vm.room; omega) | omega | (simp; done) | (simp_all; done) | (simp_all; omega)) ?_)
       try simp (maxSteps := 4000000) (disch := omega) only [push_cast, Nat.reduceLT, Nat.reduceEqDiff, Nat.reduceAdd, Nat.reduceMul, Nat.reduceSub, Nat.reduceLeDiff, Int.reduceToNat, Int.reduceLT, Int.reduceLE, Int.reduceAdd, Int.reduceSub, Int.reduceMul, Int.reduceNeg, Int.reduceEq, reduceCtorEq, Int.cast_ofNat_Int, Hp.get_set, all_anyC, all_anyP, key_get, cell_get, kid_get, encC, List.length_map, encN, all_u8, Hp.set_set, Hp.get_set_same, List.length_map, i64w, hpf, hga, hgr, hgn, hcn, hn, h2, h4, h5, htk, htc]
       (repeat refine And.intro (by first | (unfold Go.Vm.room; omega) | omega | (simp; done) | (simp_all; done) | (simp_all; omega)) ?_)
       refine Qk hK [0, 2, 4, 5, 32, 33] ?_
       clear hK K
       refine S_abs (RdSt _ (ks ++ [first (val (first 1 r0)) (r0.drop 1)]) cs ds ((r0.drop 1).drop (val (first 1 r0))) ga gr gn tk tc) ((hS.step _).key _ (by simp [ndc])) (fun τ hS => ?_)
       have hn := hS.nes
       have h2 := hS.h2
       have h4 := hS.h4
       have h5 := hS.h5
       have htk := hS.hk
       have htc := hS.hc
       simp only [ndc, if_true, Bool.false_eq_true, if_false] at h5 htc
       have hca : (cellsAt _ gn).length = 4 := congrArg List.length (cellsAt_get h5)
       have hrl2 : ((r0.drop 1).drop (val (first 1 r0))).length ≤ r0.length := by simp only [List.length_drop]; omega
       refine WS.seq ?_
       refine RD [1000050] [2000062] fo (by kernel_rfl) fun K hK => ?_
       try simp (maxSteps := 4000000) (disch := omega) only [push_cast, Nat.reduceLT, Nat.reduceEqDiff, Nat.reduceAdd, Nat.reduceMul, Nat.reduceSub, Nat.reduceLeDiff, Int.reduceToNat, Int.reduceLT, Int.reduceLE, Int.reduceAdd, Int.reduceSub, Int.reduceMul, Int.reduceNeg, Int.reduceEq, reduceCtorEq, Int.cast_ofNat_Int, Hp.get_set, all_anyC, all_anyP, key_get, cell_get, kid_get, encC, List.length_map, encN, all_u8, Hp.set_set, Hp.get_set_same, List.length_map, i64w, hpf, hga, hgr, hgn, hcn, hn, h2, h4, h5, htk, htc]
       (repeat refine And.intro (by first | (unfold Go.Vm.room; omega) | omega | (simp; done) | (simp_all; done) | (simp_all; omega)) ?_)
       try simp (maxSteps := 4000000) (disch := omega) only [push_cast, Nat.reduceLT, Nat.reduceEqDiff, Nat.reduceAdd, Nat.reduceMul, Nat.reduceSub, Nat.reduceLeDiff, Int.reduceToNat, Int.reduceLT, Int.reduceLE, Int.reduceAdd, Int.reduceSub, Int.reduceMul, Int.reduceNeg, Int.reduceEq, reduceCtorEq, Int.cast_ofNat_Int, Hp.get_set, all_anyC, all_anyP, key_get, cell_get, kid_get, encC, List.length_map, encN, all_u8, Hp.set_set, Hp.get_set_same, List.length_map, i64w, hpf, hga, hgr, hgn, hcn, hn, h2, h4, h5, htk, htc]
       (repeat refine And.intro (by first | (unfold Go.Vm.room; omega) | omega | (simp; done) | (simp_all; done) | (simp_all; omega)) ?_)
       refine callKD rfl (number_spec ((r0.drop 1).drop (val (first 1 r0))) 4 (by omega) (by omega) h4) ⟨_, _, rfl, rfl⟩ (fun v σ2 h => by obtain ⟨rfl, rfl⟩ := h; exact keeps_set h4) (fun v σ2 h => ?_)
       obtain ⟨rfl, rfl⟩ := h
       try simp (maxSteps := 4000000) (disch := omega) only [push_cast, Nat.reduceLT, Nat.reduceEqDiff, Nat.reduceAdd, Nat.reduceMul, Nat.reduceSub, Nat.reduceLeDiff, Int.reduceToNat, Int.reduceLT, Int.reduceLE, Int.reduceAdd, Int.reduceSub, Int.reduceMul, Int.reduceNeg, Int.reduceEq, reduceCtorEq, Int.cast_ofNat_Int, Hp.get_set, all_anyC, all_anyP, key_get, cell_get, kid_get, encC, List.length_map, encN, all_u8, Hp.set_set, Hp.get_set_same, List.length_map, i64w, hpf, hga, hgr, hgn, hcn, hn, h2, h4, h5, htk, htc]
       (repeat refine And.intro (by first | (unfold Go.Vm.room; omega) | omega | (simp; done) | (simp_all; done) | (simp_all; omega)) ?_)
       try simp (maxSteps := 4000000) (disch := omega) only [push_cast, Nat.reduceLT, Nat.reduceEqDiff, Nat.reduceAdd, Nat.reduceMul, Nat.reduceSub, Nat.reduceLeDiff, Int.reduceToNat, Int.reduceLT, Int.reduceLE, Int.reduceAdd, Int.reduceSub, Int.reduceMul, Int.reduceNeg, Int.reduceEq, reduceCtorEq, Int.cast_ofNat_Int, Hp.get_set, all_anyC, all_anyP, key_get, cell_get, kid_get, encC, List.length_map, encN, all_u8, Hp.set_set, Hp.get_set_same, List.length_map, i64w, hpf, hga, hgr, hgn, hcn, hn, h2, h4, h5, htk, htc]
       (repeat refine And.intro (by first | (unfold Go.Vm.room; omega) | omega | (simp; done) | (simp_all; done) | (simp_all; omega)) ?_)
       try simp (maxSteps := 4000000) (disch := omega) only [push_cast, Nat.reduceLT, Nat.reduceEqDiff, Nat.reduceAdd, Nat.reduceMul, Nat.reduceSub, Nat.reduceLeDiff, Int.reduceToNat, Int.reduceLT, Int.reduceLE, Int.reduceAdd, Int.reduceSub, Int.reduceMul, Int.reduceNeg, Int.reduceEq, reduceCtorEq, Int.cast_ofNat_Int, Hp.get_set, all_anyC, all_anyP, key_get, cell_get, kid_get, encC, List.length_map, encN, all_u8, Hp.set_set, Hp.get_set_same, List.length_map, i64w, hpf, hga, hgr, hgn, hcn, hn, h2, h4, h5, htk, htc]
       (repeat refine And.intro (by first | (unfold Go.Vm.room; omega) | omega | (simp; done) | (simp_all; done) | (simp_all; omega)) ?_)
       try simp (maxSteps := 4000000) (disch := omega) only [push_cast, Nat.reduceLT, Nat.reduceEqDiff, Nat.reduceAdd, Nat.reduceMul, Nat.reduceSub, Nat.reduceLeDiff, Int.reduceToNat, Int.reduceLT, Int.reduceLE, Int.reduceAdd, Int.reduceSub, Int.reduceMul, Int.reduceNeg, Int.reduceEq, reduceCtorEq, Int.cast_ofNat_Int, Hp.get_set, all_anyC, all_anyP, key_get, cell_get, kid_get, encC, List.length_map, encN, all_u8, Hp.set_set, Hp.get_set_same, List.length_map, i64w, hpf, hga, hgr, hgn, hcn, hn, h2, h4, h5, htk, htc]
       (repeat refine And.intro (by first | (unfold Go.Vm.room; omega) | omega | (simp; done) | (simp_all; done) | (simp_all; omega)) ?_)
       refine Qk hK [0, 2, 4, 5, 32, 33] ?_
       clear hK K
       refine S_abs (RdSt _ (ks ++ [first (val (first 1 r0)) (r0.drop 1)]) cs (ds ++ [((val (first 4 ((r0.drop 1).drop (val (first 1 r0)))) : Nat) : Int)]) (((r0.drop 1).drop (val (first 1 r0))).drop 4) ga gr gn tk tc) ((hS.step _).kid _ (by simp [ndc])) (fun τ hS => ?_)
       refine Ex ?_
       simp only [push_cast, WS, Nat.reduceEqDiff]
       refine hK1 _ _ ?_
       clear hK1
       try clear K1
       refine WS_keep [0, 2, 4, 5, 32, 33] _ ?_
       refine R0 fun K hK => ?_
       try simp (maxSteps := 4000000) (disch := omega) only [push_cast, Nat.reduceLT, Nat.reduceEqDiff, Int.reduceToNat, Int.reduceLT, Int.reduceLE, Int.reduceAdd, Int.reduceSub, Int.reduceMul, Int.reduceNeg, Int.reduceEq, reduceCtorEq, Int.cast_ofNat_Int, Hp.get_set, all_anyC, all_anyP, key_get, cell_get, kid_get, encC, List.length_map, encN, all_u8, Hp.set_set, Hp.get_set_same, List.length_map, i64w, hpf, hga, hgr, hgn, hcn, hn, h2, h4, h5, htk, htc]
       (repeat refine And.intro (by first | (unfold Go.Vm.room; omega) | omega | (simp; done) | (simp_all; done) | (simp_all; omega)) ?_)
       refine Qk hK [0, 2, 4, 5, 32, 33] ?_
       clear hK K
       refine Ag (hM0 _ _ ?_)
       refine ⟨_, ?_, k + 1,  rfl, ?_, ?_, ?_⟩
       · first | omega | (simp; done) | (simp_all; done) | (simp_all; omega)
       · (try simp (disch := omega) only [push_cast, Int.reduceToNat, Int.reduceLT, Int.reduceLE, Int.reduceAdd, Int.reduceSub, Int.reduceMul, Int.reduceNeg, Int.reduceEq, reduceCtorEq, Nat.reduceLeDiff, Nat.reduceLT, Nat.reduceEqDiff, Nat.reduceAdd, Nat.reduceMul, Nat.reduceSub, Int.cast_ofNat_Int, all_anyC, all_anyP, key_get, cell_get, kid_get, encC, List.length_map, encN, all_u8, Hp.set_set, Hp.get_set_same, List.length_map, i64w, hpf, hga, hgr, hgn, hcn, hn, h2, h4, h5, htk, htc]) <;> (first | done | rfl | (simp; done) | (simp; omega) | omega | (simp_all; done) | (simp_all; omega))
       · first | rfl | (try simp (disch := omega) only [push_cast, Int.reduceToNat, Int.reduceLT, Int.reduceLE, Int.reduceAdd, Int.reduceSub, Int.reduceMul, Int.reduceNeg, Int.reduceEq, reduceCtorEq, Nat.reduceLeDiff, Nat.reduceLT, Nat.reduceEqDiff, Nat.reduceAdd, Nat.reduceMul, Nat.reduceSub, Int.cast_ofNat_Int, all_anyC, all_anyP, key_get, cell_get, kid_get, encC, List.length_map, encN, all_u8, Hp.set_set, Hp.get_set_same, List.length_map, i64w, hpf, hga, hgr, hgn, hcn, hn, h2, h4, h5, htk, htc]) <;> (first | done | rfl | (simp; done) | (simp; omega) | omega | (simp_all; done) | (simp_all; omega))
       · first | exact ⟨by omega, RdK.inner hl hr0 (by rw [hks, hcs, hds]; exact hS)⟩ | exact ⟨by omega, RdK.leaf hl hr0 hcl hrl4 (by rw [hks, hcs, hds]; exact hS)⟩
     all_goals try (cases hc; done)
     all_goals try simp only [push_cast] at hc
     all_goals try (exfalso; omega)
     all_goals
      have hdl := Xk_cells b k hl
      rw [hcs] at hdl
      refine Sk ?_
      refine WS.seq ?_
      refine R0 fun K hK => ?_
      try simp (maxSteps := 4000000) (disch := omega) only [push_cast, Nat.reduceLT, Nat.reduceEqDiff, Nat.reduceAdd, Nat.reduceMul, Nat.reduceSub, Nat.reduceLeDiff, Hp.get_set, all_anyC, all_anyP, key_get, cell_get, kid_get, encC, List.length_map, encN, all_u8, Hp.set_set, Hp.get_set_same, List.length_map, i64w, hpf, hga, hgr, hgn, hcn, hn, h2, h4, h5, htk, htc]
      (repeat refine And.intro (by first | (unfold Go.Vm.room; omega) | omega | (simp; done) | (simp_all; done) | (simp_all; omega)) ?_)
      refine callS (number_spec (r0.drop 1) 2 (by omega) (by omega) h4) (fun v τ h => ?_)
      obtain ⟨rfl, rfl⟩ := h
      try simp (maxSteps := 4000000) (disch := omega) only [push_cast, Nat.reduceLT, Nat.reduceEqDiff, Nat.reduceAdd, Nat.reduceMul, Nat.reduceSub, Nat.reduceLeDiff, Hp.get_set, all_anyC, all_anyP, key_get, cell_get, kid_get, encC, List.length_map, encN, all_u8, Hp.set_set, Hp.get_set_same, List.length_map, i64w, hpf, hga, hgr, hgn, hcn, hn, h2, h4, h5, htk, htc]
      (repeat refine And.intro (by first | (unfold Go.Vm.room; omega) | omega | (simp; done) | (simp_all; done) | (simp_all; omega)) ?_)
      refine fun ge hge => ?_
      try simp only [Hp.set_none, Hp.join_none_iff] at hge
      have nh2_e := Hp.ne_get h2 (by first | exact hge | exact hge.2.2 | exact hge.2.2.2.2 | exact hge.2.2.2.2.2.2 | simp_all)
      have nh4_e := Hp.ne_get h4 (by first | exact hge | exact hge.2.2 | exact hge.2.2.2.2 | exact hge.2.2.2.2.2.2 | simp_all)
      have nh5_e := Hp.ne_get h5 (by first | exact hge | exact hge.2.2 | exact hge.2.2.2.2 | exact hge.2.2.2.2.2.2 | simp_all)
      have nhtk_e := Hp.ne_get htk (by first | exact hge | exact hge.2.2 | exact hge.2.2.2.2 | exact hge.2.2.2.2.2.2 | simp_all)
      have nhtc_e := Hp.ne_get htc (by first | exact hge | exact hge.2.2 | exact hge.2.2.2.2 | exact hge.2.2.2.2.2.2 | simp_all)
      try simp (maxSteps := 4000000) (disch := omega) only [push_cast, Nat.reduceLT, Nat.reduceEqDiff, Nat.reduceAdd, Nat.reduceMul, Nat.reduceSub, Nat.reduceLeDiff, Hp.get_set, all_anyC, all_anyP, key_get, cell_get, kid_get, encC, List.length_map, encN, all_u8, Hp.set_set, Hp.get_set_same, List.length_map, i64w, hpf, hga, hgr, hgn, hcn, hn, h2, h4, h5, htk, htc, hge, nh2_e, nh4_e, nh5_e, nhtk_e, nhtc_e]
      (repeat refine And.intro (by first | (unfold Go.Vm.room; omega) | omega | (simp; done) | (simp_all; done) | (simp_all; omega)) ?_)
      refine Qk hK [0, 2, 4, 5, 7, 8, 32, 33] ?_
      clear hK K
      refine S_abs (Rd8 _ ks cs ds ((r0.drop 1).drop 2) ⟨((val (first 2 (r0.drop 1)) : Nat) : Int), [], 0⟩ ga gr gn tk tc ge) ((hS.step _).new8 (Hp.set_none.2 hge) _) (fun τ hR => ?_)
      have hS := hR.S
      have hn := hS.nes
      have h2 := hS.h2
      have h4 := hS.h4
      have h5 := hS.h5
      have htk := hS.hk
      have htc := hS.hc
      simp only [ndc, if_true, Bool.false_eq_true, if_false] at h5 htc
      have hca : (cellsAt _ gn).length = 4 := congrArg List.length (cellsAt_get h5)
      have hrl2 : ((r0.drop 1).drop 2).length ≤ r0.length := by simp only [List.length_drop]; omega
      have hf2 := first2_lt (r0.drop 1)
      refine WS.seq ?_
      refine RD [1000060] [2000063] fo (by kernel_rfl) fun K hK => ?_
      try simp (maxSteps := 4000000) (disch := omega) only [push_cast, Nat.reduceLT, Nat.reduceEqDiff, Nat.reduceAdd, Nat.reduceMul, Nat.reduceSub, Nat.reduceLeDiff, Int.reduceToNat, Int.reduceLT, Int.reduceLE, Int.reduceAdd, Int.reduceSub, Int.reduceMul, Int.reduceNeg, Int.reduceEq, reduceCtorEq, Int.cast_ofNat_Int, Hp.get_set, all_anyC, all_anyP, key_get, cell_get, kid_get, encC, List.length_map, encN, all_u8, Hp.set_set, Hp.get_set_same, List.length_map, i64w, hpf, hga, hgr, hgn, hcn, hn, hge, nh2_e, nh4_e, nh5_e, nhtk_e, nhtc_e, h2, h4, h5, htk, htc]
      (repeat refine And.intro (by first | (unfold Go.Vm.room; omega) | omega | (simp; done) | (simp_all; done) | (simp_all; omega)) ?_)
      try simp (maxSteps := 4000000) (disch := omega) only [push_cast, Nat.reduceLT, Nat.reduceEqDiff, Nat.reduceAdd, Nat.reduceMul, Nat.reduceSub, Nat.reduceLeDiff, Int.reduceToNat, Int.reduceLT, Int.reduceLE, Int.reduceAdd, Int.reduceSub, Int.reduceMul, Int.reduceNeg, Int.reduceEq, reduceCtorEq, Int.cast_ofNat_Int, Hp.get_set, all_anyC, all_anyP, key_get, cell_get, kid_get, encC, List.length_map, encN, all_u8, Hp.set_set, Hp.get_set_same, List.length_map, i64w, hpf, hga, hgr, hgn, hcn, hn, hge, nh2_e, nh4_e, nh5_e, nhtk_e, nhtc_e, h2, h4, h5, htk, htc]
      (repeat refine And.intro (by first | (unfold Go.Vm.room; omega) | omega | (simp; done) | (simp_all; done) | (simp_all; omega)) ?_)
      refine callKD rfl (next_spec ((r0.drop 1).drop 2) (val (first 1 r0)) (by omega) (by omega) h4) ⟨_, _, rfl, rfl⟩ (fun v σ2 h => by obtain ⟨rfl, rfl⟩ := h; exact keeps_set h4) (fun v σ2 h => ?_)
      obtain ⟨rfl, rfl⟩ := h
      try simp (maxSteps := 4000000) (disch := omega) only [push_cast, Nat.reduceLT, Nat.reduceEqDiff, Nat.reduceAdd, Nat.reduceMul, Nat.reduceSub, Nat.reduceLeDiff, Int.reduceToNat, Int.reduceLT, Int.reduceLE, Int.reduceAdd, Int.reduceSub, Int.reduceMul, Int.reduceNeg, Int.reduceEq, reduceCtorEq, Int.cast_ofNat_Int, Hp.get_set, all_anyC, all_anyP, key_get, cell_get, kid_get, encC, List.length_map, encN, all_u8, Hp.set_set, Hp.get_set_same, List.length_map, i64w, hpf, hga, hgr, hgn, hcn, hn, hge, nh2_e, nh4_e, nh5_e, nhtk_e, nhtc_e, h2, h4, h5, htk, htc]
      (repeat refine And.intro (by first | (unfold Go.Vm.room; omega) | omega | (simp; done) | (simp_all; done) | (simp_all; omega)) ?_)
      try simp (maxSteps := 4000000) (disch := omega) only [push_cast, Nat.reduceLT, Nat.reduceEqDiff, Nat.reduceAdd, Nat.reduceMul, Nat.reduceSub, Nat.reduceLeDiff, Int.reduceToNat, Int.reduceLT, Int.reduceLE, Int.reduceAdd, Int.reduceSub, Int.reduceMul, Int.reduceNeg, Int.reduceEq, reduceCtorEq, Int.cast_ofNat_Int, Hp.get_set, all_anyC, all_anyP, key_get, cell_get, kid_get, encC, List.length_map, encN, all_u8, Hp.set_set, Hp.get_set_same, List.length_map, i64w, hpf, hga, hgr, hgn, hcn, hn, hge, nh2_e, nh4_e, nh5_e, nhtk_e, nhtc_e, h2, h4, h5, htk, htc]
      (repeat refine And.intro (by first | (unfold Go.Vm.room; omega) | omega | (simp; done) | (simp_all; done) | (simp_all; omega)) ?_)
      try simp (maxSteps := 4000000) (disch := omega) only [push_cast, Nat.reduceLT, Nat.reduceEqDiff, Nat.reduceAdd, Nat.reduceMul, Nat.reduceSub, Nat.reduceLeDiff, Int.reduceToNat, Int.reduceLT, Int.reduceLE, Int.reduceAdd, Int.reduceSub, Int.reduceMul, Int.reduceNeg, Int.reduceEq, reduceCtorEq, Int.cast_ofNat_Int, Hp.get_set, all_anyC, all_anyP, key_get, cell_get, kid_get, encC, List.length_map, encN, all_u8, Hp.set_set, Hp.get_set_same, List.length_map, i64w, hpf, hga, hgr, hgn, hcn, hn, hge, nh2_e, nh4_e, nh5_e, nhtk_e, nhtc_e, h2, h4, h5, htk, htc]
      (repeat refine And.intro (by first | (unfold Go.Vm.room; omega) | omega | (simp; done) | (simp_all; done) | (simp_all; omega)) ?_)
      try simp (maxSteps := 4000000) (disch := omega) only [push_cast, Nat.reduceLT, Nat.reduceEqDiff, Nat.reduceAdd, Nat.reduceMul, Nat.reduceSub, Nat.reduceLeDiff, Int.reduceToNat, Int.reduceLT, Int.reduceLE, Int.reduceAdd, Int.reduceSub, Int.reduceMul, Int.reduceNeg, Int.reduceEq, reduceCtorEq, Int.cast_ofNat_Int, Hp.get_set, all_anyC, all_anyP, key_get, cell_get, kid_get, encC, List.length_map, encN, all_u8, Hp.set_set, Hp.get_set_same, List.length_map, i64w, hpf, hga, hgr, hgn, hcn, hn, hge, nh2_e, nh4_e, nh5_e, nhtk_e, nhtc_e, h2, h4, h5, htk, htc]
      (repeat refine And.intro (by first | (unfold Go.Vm.room; omega) | omega | (simp; done) | (simp_all; done) | (simp_all; omega)) ?_)
      refine Qk hK [0, 2, 4, 5, 8, 32, 33] ?_
      clear hK K
      refine S_abs (Rd8 _ (ks ++ [first (val (first 1 r0)) ((r0.drop 1).drop 2)]) cs ds (((r0.drop 1).drop 2).drop (val (first 1 r0))) ⟨((val (first 2 (r0.drop 1)) : Nat) : Int), [], 0⟩ ga gr gn tk tc ge) (hR.of ((hS.step _).key _ (by simp [ndc])) (by rw [Hp.get_set_ne _ _ hR.m5, Hp.get_set_ne _ _ hR.m6, Hp.get_set_ne _ _ hR.m4])) (fun τ hR => ?_)
      have hS := hR.S
      have hn := hS.nes
      have h2 := hS.h2
      have h4 := hS.h4
      have h5 := hS.h5
      have htk := hS.hk
      have htc := hS.hc
      simp only [ndc, if_true, Bool.false_eq_true, if_false] at h5 htc
      have hca : (cellsAt _ gn).length = 4 := congrArg List.length (cellsAt_get h5)
      have h8 := hR.h8
      have hrl3 : (((r0.drop 1).drop 2).drop (val (first 1 r0))).length ≤ r0.length := by simp only [List.length_drop]; omega
      refine WS.seq (WS.seq ?_)
      refine R0 fun K hK => ?_
      try simp (maxSteps := 4000000) (disch := omega) only [push_cast, Nat.reduceLT, Nat.reduceEqDiff, Nat.reduceAdd, Nat.reduceMul, Nat.reduceSub, Nat.reduceLeDiff, Int.reduceToNat, Int.reduceLT, Int.reduceLE, Int.reduceAdd, Int.reduceSub, Int.reduceMul, Int.reduceNeg, Int.reduceEq, reduceCtorEq, Int.cast_ofNat_Int, Hp.get_set, all_anyC, all_anyP, key_get, cell_get, kid_get, encC, List.length_map, encN, all_u8, Hp.set_set, Hp.get_set_same, List.length_map, i64w, hpf, hga, hgr, hgn, hcn, hn, hge, nh2_e, nh4_e, nh5_e, nhtk_e, nhtc_e, h2, h4, h5, htk, htc, h8]
      (repeat refine And.intro (by first | (unfold Go.Vm.room; omega) | omega | (simp; done) | (simp_all; done) | (simp_all; omega)) ?_)
      refine Qk hK [0, 2, 4, 5, 8, 32, 33, 70] ?_
      clear hK K
      refine CI rfl (fun hc => ?_) (fun hc => ?_)
      ·
       all_goals try (cases hc; done)
       all_goals try simp only [push_cast] at hc
       all_goals try (exfalso; omega)
       all_goals
        refine R0 fun K hK => ?_
        try simp (maxSteps := 4000000) (disch := omega) only [push_cast, Nat.reduceLT, Nat.reduceEqDiff, Nat.reduceAdd, Nat.reduceMul, Nat.reduceSub, Nat.reduceLeDiff, Int.reduceToNat, Int.reduceLT, Int.reduceLE, Int.reduceAdd, Int.reduceSub, Int.reduceMul, Int.reduceNeg, Int.reduceEq, reduceCtorEq, Int.cast_ofNat_Int, Hp.get_set, all_anyC, all_anyP, key_get, cell_get, kid_get, encC, List.length_map, encN, all_u8, Hp.set_set, Hp.get_set_same, List.length_map, i64w, hpf, hga, hgr, hgn, hcn, hn, hge, nh2_e, nh4_e, nh5_e, nhtk_e, nhtc_e, h2, h4, h5, htk, htc, h8]
        (repeat refine And.intro (by first | (unfold Go.Vm.room; omega) | omega | (simp; done) | (simp_all; done) | (simp_all; omega)) ?_)
        refine callS (next_spec (((r0.drop 1).drop 2).drop (val (first 1 r0))) (val (first 2 (r0.drop 1))) (by omega) (by omega) h4) (fun v τ h => ?_)
        obtain ⟨rfl, rfl⟩ := h
        try simp (maxSteps := 4000000) (disch := omega) only [push_cast, Nat.reduceLT, Nat.reduceEqDiff, Nat.reduceAdd, Nat.reduceMul, Nat.reduceSub, Nat.reduceLeDiff, Int.reduceToNat, Int.reduceLT, Int.reduceLE, Int.reduceAdd, Int.reduceSub, Int.reduceMul, Int.reduceNeg, Int.reduceEq, reduceCtorEq, Int.cast_ofNat_Int, Hp.get_set, all_anyC, all_anyP, key_get, cell_get, kid_get, encC, List.length_map, encN, all_u8, Hp.set_set, Hp.get_set_same, List.length_map, i64w, hpf, hga, hgr, hgn, hcn, hn, hge, nh2_e, nh4_e, nh5_e, nhtk_e, nhtc_e, h2, h4, h5, htk, htc, h8]
        (repeat refine And.intro (by first | (unfold Go.Vm.room; omega) | omega | (simp; done) | (simp_all; done) | (simp_all; omega)) ?_)
        refine Qk hK [0, 2, 4, 5, 8, 32, 33] ?_
        clear hK K
        refine S_abs (Rd8 _ (ks ++ [first (val (first 1 r0)) ((r0.drop 1).drop 2)]) cs ds ((((r0.drop 1).drop 2).drop (val (first 1 r0))).drop (val (first 2 (r0.drop 1)))) ⟨(((val (first 2 (r0.drop 1))) : Nat) : Int), first (val (first 2 (r0.drop 1))) (((r0.drop 1).drop 2).drop (val (first 1 r0))), 0⟩ ga gr gn tk tc ge) ((hR.of (hS.step _) (Hp.get_set_ne _ _ hR.m4)).set8 _) (fun τ hR => ?_)
        have hcl : (⟨(((val (first 2 (r0.drop 1))) : Nat) : Int), first (val (first 2 (r0.drop 1))) (((r0.drop 1).drop 2).drop (val (first 1 r0))), 0⟩ : Cl) = ⟨(rdP true r0).1.len, (rdP true r0).1.data, (rdP true r0).1.page⟩ := by unfold rdP; simp only [if_true]; rw [if_pos (by omega)]
        have hrl4 : (((r0.drop 1).drop 2).drop (val (first 1 r0))).drop (val (first 2 (r0.drop 1))) = (rdP true r0).2 := by unfold rdP; simp only [if_true]; rw [if_pos (by omega)]
        generalize (⟨(((val (first 2 (r0.drop 1))) : Nat) : Int), first (val (first 2 (r0.drop 1))) (((r0.drop 1).drop 2).drop (val (first 1 r0))), 0⟩ : Cl) = c at hR hcl
        generalize (((r0.drop 1).drop 2).drop (val (first 1 r0))).drop (val (first 2 (r0.drop 1))) = r4 at hR hrl4
        have hS := hR.S
        have hn := hS.nes
        have h2 := hS.h2
        have h4 := hS.h4
        have h5 := hS.h5
        have htk := hS.hk
        have htc := hS.hc
        simp only [ndc, if_true, Bool.false_eq_true, if_false] at h5 htc
        have hca : (cellsAt _ gn).length = 4 := congrArg List.length (cellsAt_get h5)
        have h8 := hR.h8
        refine R0 fun K hK => ?_
        try simp (maxSteps := 4000000) (disch := omega) only [push_cast, Nat.reduceLT, Nat.reduceEqDiff, Nat.reduceAdd, Nat.reduceMul, Nat.reduceSub, Nat.reduceLeDiff, Int.reduceToNat, Int.reduceLT, Int.reduceLE, Int.reduceAdd, Int.reduceSub, Int.reduceMul, Int.reduceNeg, Int.reduceEq, reduceCtorEq, Int.cast_ofNat_Int, Hp.get_set, all_anyC, all_anyP, key_get, cell_get, kid_get, encC, List.length_map, encN, all_u8, Hp.set_set, Hp.get_set_same, List.length_map, i64w, hpf, hga, hgr, hgn, hcn, hn, hge, nh2_e, nh4_e, nh5_e, nhtk_e, nhtc_e, h8, h2, h4, h5, htk, htc, h8]
        (repeat refine And.intro (by first | (unfold Go.Vm.room; omega) | omega | (simp; done) | (simp_all; done) | (simp_all; omega)) ?_)
        try simp (maxSteps := 4000000) (disch := omega) only [push_cast, Nat.reduceLT, Nat.reduceEqDiff, Nat.reduceAdd, Nat.reduceMul, Nat.reduceSub, Nat.reduceLeDiff, Int.reduceToNat, Int.reduceLT, Int.reduceLE, Int.reduceAdd, Int.reduceSub, Int.reduceMul, Int.reduceNeg, Int.reduceEq, reduceCtorEq, Int.cast_ofNat_Int, Hp.get_set, all_anyC, all_anyP, key_get, cell_get, kid_get, encC, List.length_map, encN, all_u8, Hp.set_set, Hp.get_set_same, List.length_map, i64w, hpf, hga, hgr, hgn, hcn, hn, hge, nh2_e, nh4_e, nh5_e, nhtk_e, nhtc_e, h8, h2, h4, h5, htk, htc, h8]
        (repeat refine And.intro (by first | (unfold Go.Vm.room; omega) | omega | (simp; done) | (simp_all; done) | (simp_all; omega)) ?_)
        try simp (maxSteps := 4000000) (disch := omega) only [push_cast, Nat.reduceLT, Nat.reduceEqDiff, Nat.reduceAdd, Nat.reduceMul, Nat.reduceSub, Nat.reduceLeDiff, Int.reduceToNat, Int.reduceLT, Int.reduceLE, Int.reduceAdd, Int.reduceSub, Int.reduceMul, Int.reduceNeg, Int.reduceEq, reduceCtorEq, Int.cast_ofNat_Int, Hp.get_set, all_anyC, all_anyP, key_get, cell_get, kid_get, encC, List.length_map, encN, all_u8, Hp.set_set, Hp.get_set_same, List.length_map, i64w, hpf, hga, hgr, hgn, hcn, hn, hge, nh2_e, nh4_e, nh5_e, nhtk_e, nhtc_e, h8, h2, h4, h5, htk, htc, h8]
        (repeat refine And.intro (by first | (unfold Go.Vm.room; omega) | omega | (simp; done) | (simp_all; done) | (simp_all; omega)) ?_)
        try simp (maxSteps := 4000000) (disch := omega) only [push_cast, Nat.reduceLT, Nat.reduceEqDiff, Nat.reduceAdd, Nat.reduceMul, Nat.reduceSub, Nat.reduceLeDiff, Int.reduceToNat, Int.reduceLT, Int.reduceLE, Int.reduceAdd, Int.reduceSub, Int.reduceMul, Int.reduceNeg, Int.reduceEq, reduceCtorEq, Int.cast_ofNat_Int, Hp.get_set, all_anyC, all_anyP, key_get, cell_get, kid_get, encC, List.length_map, encN, all_u8, Hp.set_set, Hp.get_set_same, List.length_map, i64w, hpf, hga, hgr, hgn, hcn, hn, hge, nh2_e, nh4_e, nh5_e, nhtk_e, nhtc_e, h8, h2, h4, h5, htk, htc, h8]
        (repeat refine And.intro (by first | (unfold Go.Vm.room; omega) | omega | (simp; done) | (simp_all; done) | (simp_all; omega)) ?_)
        refine Qk hK [0, 2, 4, 5, 32, 33] ?_
        clear hK K
        refine S_abs (RdSt _ (ks ++ [first (val (first 1 r0)) ((r0.drop 1).drop 2)]) (cs ++ [c]) ds r4 ga gr gn tk tc) (hS.cell c (by simp [ndc, encC])) (fun τ hS => ?_)
        simp only [push_cast, WS, Nat.reduceEqDiff]
        refine hK1 _ _ ?_
        clear hK1
        try clear K1
        refine WS_keep [0, 2, 4, 5, 32, 33] _ ?_
        refine R0 fun K hK => ?_
        try simp (maxSteps := 4000000) (disch := omega) only [push_cast, Nat.reduceLT, Nat.reduceEqDiff, Int.reduceToNat, Int.reduceLT, Int.reduceLE, Int.reduceAdd, Int.reduceSub, Int.reduceMul, Int.reduceNeg, Int.reduceEq, reduceCtorEq, Int.cast_ofNat_Int, Hp.get_set, all_anyC, all_anyP, key_get, cell_get, kid_get, encC, List.length_map, encN, all_u8, Hp.set_set, Hp.get_set_same, List.length_map, i64w, hpf, hga, hgr, hgn, hcn, hn, hge, nh2_e, nh4_e, nh5_e, nhtk_e, nhtc_e, h8, h2, h4, h5, htk, htc, h8]
        (repeat refine And.intro (by first | (unfold Go.Vm.room; omega) | omega | (simp; done) | (simp_all; done) | (simp_all; omega)) ?_)
        refine Qk hK [0, 2, 4, 5, 32, 33] ?_
        clear hK K
        refine Ag (hM0 _ _ ?_)
        refine ⟨_, ?_, k + 1,  rfl, ?_, ?_, ?_⟩
        · first | omega | (simp; done) | (simp_all; done) | (simp_all; omega)
        · (try simp (disch := omega) only [push_cast, Int.reduceToNat, Int.reduceLT, Int.reduceLE, Int.reduceAdd, Int.reduceSub, Int.reduceMul, Int.reduceNeg, Int.reduceEq, reduceCtorEq, Nat.reduceLeDiff, Nat.reduceLT, Nat.reduceEqDiff, Nat.reduceAdd, Nat.reduceMul, Nat.reduceSub, Int.cast_ofNat_Int, all_anyC, all_anyP, key_get, cell_get, kid_get, encC, List.length_map, encN, all_u8, Hp.set_set, Hp.get_set_same, List.length_map, i64w, hpf, hga, hgr, hgn, hcn, hn, hge, nh2_e, nh4_e, nh5_e, nhtk_e, nhtc_e, h8, h2, h4, h5, htk, htc, h8]) <;> (first | done | rfl | (simp; done) | (simp; omega) | omega | (simp_all; done) | (simp_all; omega))
        · first | rfl | (try simp (disch := omega) only [push_cast, Int.reduceToNat, Int.reduceLT, Int.reduceLE, Int.reduceAdd, Int.reduceSub, Int.reduceMul, Int.reduceNeg, Int.reduceEq, reduceCtorEq, Nat.reduceLeDiff, Nat.reduceLT, Nat.reduceEqDiff, Nat.reduceAdd, Nat.reduceMul, Nat.reduceSub, Int.cast_ofNat_Int, all_anyC, all_anyP, key_get, cell_get, kid_get, encC, List.length_map, encN, all_u8, Hp.set_set, Hp.get_set_same, List.length_map, i64w, hpf, hga, hgr, hgn, hcn, hn, hge, nh2_e, nh4_e, nh5_e, nhtk_e, nhtc_e, h8, h2, h4, h5, htk, htc, h8]) <;> (first | done | rfl | (simp; done) | (simp; omega) | omega | (simp_all; done) | (simp_all; omega))
        · first | exact ⟨by omega, RdK.inner hl hr0 (by rw [hks, hcs, hds]; exact hS)⟩ | exact ⟨by omega, RdK.leaf hl hr0 hcl hrl4 (by rw [hks, hcs, hds]; exact hS)⟩
      ·
       all_goals try (cases hc; done)
       all_goals try simp only [push_cast] at hc
       all_goals try (exfalso; omega)
       all_goals
        refine R0 fun K hK => ?_
        try simp (maxSteps := 4000000) (disch := omega) only [push_cast, Nat.reduceLT, Nat.reduceEqDiff, Nat.reduceAdd, Nat.reduceMul, Nat.reduceSub, Nat.reduceLeDiff, Hp.get_set, all_anyC, all_anyP, key_get, cell_get, kid_get, encC, List.length_map, encN, all_u8, Hp.set_set, Hp.get_set_same, List.length_map, i64w, hpf, hga, hgr, hgn, hcn, hn, hge, nh2_e, nh4_e, nh5_e, nhtk_e, nhtc_e, h2, h4, h5, htk, htc, h8]
        (repeat refine And.intro (by first | (unfold Go.Vm.room; omega) | omega | (simp; done) | (simp_all; done) | (simp_all; omega)) ?_)
        refine callS (number_spec (((r0.drop 1).drop 2).drop (val (first 1 r0))) 4 (by omega) (by omega) h4) (fun v τ h => ?_)
        obtain ⟨rfl, rfl⟩ := h
        try simp (maxSteps := 4000000) (disch := omega) only [push_cast, Nat.reduceLT, Nat.reduceEqDiff, Nat.reduceAdd, Nat.reduceMul, Nat.reduceSub, Nat.reduceLeDiff, Hp.get_set, all_anyC, all_anyP, key_get, cell_get, kid_get, encC, List.length_map, encN, all_u8, Hp.set_set, Hp.get_set_same, List.length_map, i64w, hpf, hga, hgr, hgn, hcn, hn, hge, nh2_e, nh4_e, nh5_e, nhtk_e, nhtc_e, h2, h4, h5, htk, htc, h8]
        (repeat refine And.intro (by first | (unfold Go.Vm.room; omega) | omega | (simp; done) | (simp_all; done) | (simp_all; omega)) ?_)
        refine Qk hK [0, 2, 4, 5, 8, 32, 33] ?_
        clear hK K
        refine S_abs (Rd8 _ (ks ++ [first (val (first 1 r0)) ((r0.drop 1).drop 2)]) cs ds ((((r0.drop 1).drop 2).drop (val (first 1 r0))).drop 4) ⟨(((val (first 2 (r0.drop 1))) : Nat) : Int), [], ((val (first 4 (((r0.drop 1).drop 2).drop (val (first 1 r0)))) : Nat) : Int)⟩ ga gr gn tk tc ge) ((hR.of (hS.step _) (Hp.get_set_ne _ _ hR.m4)).set8 _) (fun τ hR => ?_)
        have hcl : (⟨(((val (first 2 (r0.drop 1))) : Nat) : Int), [], ((val (first 4 (((r0.drop 1).drop 2).drop (val (first 1 r0)))) : Nat) : Int)⟩ : Cl) = ⟨(rdP true r0).1.len, (rdP true r0).1.data, (rdP true r0).1.page⟩ := by unfold rdP; simp only [if_true]; rw [if_neg (by omega)]
        have hrl4 : (((r0.drop 1).drop 2).drop (val (first 1 r0))).drop 4 = (rdP true r0).2 := by unfold rdP; simp only [if_true]; rw [if_neg (by omega)]
        generalize (⟨(((val (first 2 (r0.drop 1))) : Nat) : Int), [], ((val (first 4 (((r0.drop 1).drop 2).drop (val (first 1 r0)))) : Nat) : Int)⟩ : Cl) = c at hR hcl
        generalize (((r0.drop 1).drop 2).drop (val (first 1 r0))).drop 4 = r4 at hR hrl4
        have hS := hR.S
        have hn := hS.nes
        have h2 := hS.h2
        have h4 := hS.h4
        have h5 := hS.h5
        have htk := hS.hk
        have htc := hS.hc
        simp only [ndc, if_true, Bool.false_eq_true, if_false] at h5 htc
        have hca : (cellsAt _ gn).length = 4 := congrArg List.length (cellsAt_get h5)
        have h8 := hR.h8
        refine R0 fun K hK => ?_
        try simp (maxSteps := 4000000) (disch := omega) only [push_cast, Nat.reduceLT, Nat.reduceEqDiff, Nat.reduceAdd, Nat.reduceMul, Nat.reduceSub, Nat.reduceLeDiff, Int.reduceToNat, Int.reduceLT, Int.reduceLE, Int.reduceAdd, Int.reduceSub, Int.reduceMul, Int.reduceNeg, Int.reduceEq, reduceCtorEq, Int.cast_ofNat_Int, Hp.get_set, all_anyC, all_anyP, key_get, cell_get, kid_get, encC, List.length_map, encN, all_u8, Hp.set_set, Hp.get_set_same, List.length_map, i64w, hpf, hga, hgr, hgn, hcn, hn, hge, nh2_e, nh4_e, nh5_e, nhtk_e, nhtc_e, h8, h2, h4, h5, htk, htc, h8]
        (repeat refine And.intro (by first | (unfold Go.Vm.room; omega) | omega | (simp; done) | (simp_all; done) | (simp_all; omega)) ?_)
        try simp (maxSteps := 4000000) (disch := omega) only [push_cast, Nat.reduceLT, Nat.reduceEqDiff, Nat.reduceAdd, Nat.reduceMul, Nat.reduceSub, Nat.reduceLeDiff, Int.reduceToNat, Int.reduceLT, Int.reduceLE, Int.reduceAdd, Int.reduceSub, Int.reduceMul, Int.reduceNeg, Int.reduceEq, reduceCtorEq, Int.cast_ofNat_Int, Hp.get_set, all_anyC, all_anyP, key_get, cell_get, kid_get, encC, List.length_map, encN, all_u8, Hp.set_set, Hp.get_set_same, List.length_map, i64w, hpf, hga, hgr, hgn, hcn, hn, hge, nh2_e, nh4_e, nh5_e, nhtk_e, nhtc_e, h8, h2, h4, h5, htk, htc, h8]
        (repeat refine And.intro (by first | (unfold Go.Vm.room; omega) | omega | (simp; done) | (simp_all; done) | (simp_all; omega)) ?_)
        try simp (maxSteps := 4000000) (disch := omega) only [push_cast, Nat.reduceLT, Nat.reduceEqDiff, Nat.reduceAdd, Nat.reduceMul, Nat.reduceSub, Nat.reduceLeDiff, Int.reduceToNat, Int.reduceLT, Int.reduceLE, Int.reduceAdd, Int.reduceSub, Int.reduceMul, Int.reduceNeg, Int.reduceEq, reduceCtorEq, Int.cast_ofNat_Int, Hp.get_set, all_anyC, all_anyP, key_get, cell_get, kid_get, encC, List.length_map, encN, all_u8, Hp.set_set, Hp.get_set_same, List.length_map, i64w, hpf, hga, hgr, hgn, hcn, hn, hge, nh2_e, nh4_e, nh5_e, nhtk_e, nhtc_e, h8, h2, h4, h5, htk, htc, h8]
        (repeat refine And.intro (by first | (unfold Go.Vm.room; omega) | omega | (simp; done) | (simp_all; done) | (simp_all; omega)) ?_)
        try simp (maxSteps := 4000000) (disch := omega) only [push_cast, Nat.reduceLT, Nat.reduceEqDiff, Nat.reduceAdd, Nat.reduceMul, Nat.reduceSub, Nat.reduceLeDiff, Int.reduceToNat, Int.reduceLT, Int.reduceLE, Int.reduceAdd, Int.reduceSub, Int.reduceMul, Int.reduceNeg, Int.reduceEq, reduceCtorEq, Int.cast_ofNat_Int, Hp.get_set, all_anyC, all_anyP, key_get, cell_get, kid_get, encC, List.length_map, encN, all_u8, Hp.set_set, Hp.get_set_same, List.length_map, i64w, hpf, hga, hgr, hgn, hcn, hn, hge, nh2_e, nh4_e, nh5_e, nhtk_e, nhtc_e, h8, h2, h4, h5, htk, htc, h8]
        (repeat refine And.intro (by first | (unfold Go.Vm.room; omega) | omega | (simp; done) | (simp_all; done) | (simp_all; omega)) ?_)
        refine Qk hK [0, 2, 4, 5, 32, 33] ?_
        clear hK K
        refine S_abs (RdSt _ (ks ++ [first (val (first 1 r0)) ((r0.drop 1).drop 2)]) (cs ++ [c]) ds r4 ga gr gn tk tc) (hS.cell c (by simp [ndc, encC])) (fun τ hS => ?_)
        simp only [push_cast, WS, Nat.reduceEqDiff]
        refine hK1 _ _ ?_
        clear hK1
        try clear K1
        refine WS_keep [0, 2, 4, 5, 32, 33] _ ?_
        refine R0 fun K hK => ?_
        try simp (maxSteps := 4000000) (disch := omega) only [push_cast, Nat.reduceLT, Nat.reduceEqDiff, Int.reduceToNat, Int.reduceLT, Int.reduceLE, Int.reduceAdd, Int.reduceSub, Int.reduceMul, Int.reduceNeg, Int.reduceEq, reduceCtorEq, Int.cast_ofNat_Int, Hp.get_set, all_anyC, all_anyP, key_get, cell_get, kid_get, encC, List.length_map, encN, all_u8, Hp.set_set, Hp.get_set_same, List.length_map, i64w, hpf, hga, hgr, hgn, hcn, hn, hge, nh2_e, nh4_e, nh5_e, nhtk_e, nhtc_e, h8, h2, h4, h5, htk, htc, h8]
        (repeat refine And.intro (by first | (unfold Go.Vm.room; omega) | omega | (simp; done) | (simp_all; done) | (simp_all; omega)) ?_)
        refine Qk hK [0, 2, 4, 5, 32, 33] ?_
        clear hK K
        refine Ag (hM0 _ _ ?_)
        refine ⟨_, ?_, k + 1,  rfl, ?_, ?_, ?_⟩
        · first | omega | (simp; done) | (simp_all; done) | (simp_all; omega)
        · (try simp (disch := omega) only [push_cast, Int.reduceToNat, Int.reduceLT, Int.reduceLE, Int.reduceAdd, Int.reduceSub, Int.reduceMul, Int.reduceNeg, Int.reduceEq, reduceCtorEq, Nat.reduceLeDiff, Nat.reduceLT, Nat.reduceEqDiff, Nat.reduceAdd, Nat.reduceMul, Nat.reduceSub, Int.cast_ofNat_Int, all_anyC, all_anyP, key_get, cell_get, kid_get, encC, List.length_map, encN, all_u8, Hp.set_set, Hp.get_set_same, List.length_map, i64w, hpf, hga, hgr, hgn, hcn, hn, hge, nh2_e, nh4_e, nh5_e, nhtk_e, nhtc_e, h8, h2, h4, h5, htk, htc, h8]) <;> (first | done | rfl | (simp; done) | (simp; omega) | omega | (simp_all; done) | (simp_all; omega))
        · first | rfl | (try simp (disch := omega) only [push_cast, Int.reduceToNat, Int.reduceLT, Int.reduceLE, Int.reduceAdd, Int.reduceSub, Int.reduceMul, Int.reduceNeg, Int.reduceEq, reduceCtorEq, Nat.reduceLeDiff, Nat.reduceLT, Nat.reduceEqDiff, Nat.reduceAdd, Nat.reduceMul, Nat.reduceSub, Int.cast_ofNat_Int, all_anyC, all_anyP, key_get, cell_get, kid_get, encC, List.length_map, encN, all_u8, Hp.set_set, Hp.get_set_same, List.length_map, i64w, hpf, hga, hgr, hgn, hcn, hn, hge, nh2_e, nh4_e, nh5_e, nhtk_e, nhtc_e, h8, h2, h4, h5, htk, htc, h8]) <;> (first | done | rfl | (simp; done) | (simp; omega) | omega | (simp_all; done) | (simp_all; omega))
        · first | exact ⟨by omega, RdK.inner hl hr0 (by rw [hks, hcs, hds]; exact hS)⟩ | exact ⟨by omega, RdK.leaf hl hr0 hcl hrl4 (by rw [hks, hcs, hds]; exact hS)⟩
end Go.Vm.Try
