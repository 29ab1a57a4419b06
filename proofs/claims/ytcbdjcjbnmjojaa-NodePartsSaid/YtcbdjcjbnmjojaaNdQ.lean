/- Nodes: their bytes, and how they are read again. -/
import Derived.Test.YtcbdjcjbnmjojaaNdP
set_option linter.unusedSimpArgs false
set_option linter.unusedVariables false
namespace Go.Vm.Node
def b8 (n : Int) (k : Nat) : UInt8 := UInt8.ofNat (n / ((256 ^ k : Nat) : Int) % 256).toNat
/-- A number's bytes, the greatest first. -/
def beW (size : Nat) (n : Int) : List UInt8 := (List.range size).map fun i => b8 n (size - 1 - i)
def val (l : List UInt8) : Nat := l.foldl (fun a b => 256 * a + b.toNat) 0
theorem beW_len (s : Nat) (n : Int) : (beW s n).length = s := by simp [beW]
theorem beW_2 (n : Int) : beW 2 n = [b8 n 1, b8 n 0] := rfl
theorem beW_4 (n : Int) : beW 4 n = [b8 n 3, b8 n 2, b8 n 1, b8 n 0] := rfl
theorem b8_nat (n : Int) (k : Nat) : ((b8 n k).toNat : Int) = n / ((256 ^ k : Nat) : Int) % 256 := by
  have h1 : 0 ≤ n / ((256 ^ k : Nat) : Int) % 256 := Int.emod_nonneg _ (by decide)
  have h2 : n / ((256 ^ k : Nat) : Int) % 256 < 256 := Int.emod_lt_of_pos _ (by decide)
  unfold b8
  rw [UInt8.toNat_ofNat']
  omega
theorem val_2 {n : Int} (h0 : 0 ≤ n) (h1 : n < 65536) : (val (beW 2 n) : Int) = n := by
  have e1 : ((b8 n 1).toNat : Int) = n / 256 % 256 := b8_nat n 1
  have e0 : ((b8 n 0).toNat : Int) = n / 1 % 256 := b8_nat n 0
  show ((256 * (256 * 0 + (b8 n 1).toNat) + (b8 n 0).toNat : Nat) : Int) = n
  omega
theorem val_4 {n : Int} (h0 : 0 ≤ n) (h1 : n < 4294967296) : (val (beW 4 n) : Int) = n := by
  have e3 : ((b8 n 3).toNat : Int) = n / 16777216 % 256 := b8_nat n 3
  have e2 : ((b8 n 2).toNat : Int) = n / 65536 % 256 := b8_nat n 2
  have e1 : ((b8 n 1).toNat : Int) = n / 256 % 256 := b8_nat n 1
  have e0 : ((b8 n 0).toNat : Int) = n / 1 % 256 := b8_nat n 0
  show ((256 * (256 * (256 * (256 * 0 + (b8 n 3).toNat) + (b8 n 2).toNat) + (b8 n 1).toNat) + (b8 n 0).toNat : Nat) : Int) = n
  omega
/-- A part's bytes. -/
def pb (leaf : Bool) (x : Pt) : List UInt8 :=
  UInt8.ofNat x.key.length :: ((if leaf then beW 2 x.len else []) ++ x.key ++ (if leaf = true ∧ x.len ≤ 120 then x.data else beW 4 x.page))
def hd (x : Rn) : List UInt8 := (if x.leaf then 1 else 2) :: beW 2 x.l.length ++ (if x.leaf then [] else beW 4 x.kid)
def body (leaf : Bool) (l : List Pt) : List UInt8 := l.flatMap (pb leaf)
/-- A node's bytes, without what is behind them. -/
def bytesR (x : Rn) : List UInt8 := hd x ++ body x.leaf x.l
def page (x : Rn) : List UInt8 := bytesR x ++ List.replicate (512 - (bytesR x).length) 0
/-- What is written: bytes, and an error. -/
def writeR (x : Rn) : List UInt8 × Int := if rightR x = true then (if (bytesR x).length ≤ 512 then (page x, 0) else ([], 2)) else ([], 3)
def writeN (n : Nd) : List UInt8 × Int := if right n = true then (if (bytesR (toR n)).length ≤ 512 then (page (toR n), 0) else ([], 2)) else ([], 3)
/-- The first bytes, noughts where there are none. -/
def first (n : Nat) (r : List UInt8) : List UInt8 := r.take n ++ List.replicate (n - r.length) 0
theorem first_len (n : Nat) (r : List UInt8) : (first n r).length = n := by simp [first]; omega
theorem first_app (a r : List UInt8) : first a.length (a ++ r) = a := by simp [first]
theorem first_app' {n : Nat} (a r : List UInt8) (h : a.length = n) : first n (a ++ r) = a := by subst h; exact first_app a r
theorem drop_app' {n : Nat} (a r : List UInt8) (h : a.length = n) : (a ++ r).drop n = r := by subst h; simp
/-- A part that is read, and what is behind it: -/
def rdP (leaf : Bool) (r : List UInt8) : Pt × List UInt8 :=
  let k := val (first 1 r)
  let r := r.drop 1
  if leaf then
    let len := val (first 2 r)
    let r := r.drop 2
    let key := first k r
    let r := r.drop k
    if len ≤ 120 then (⟨key, len, first len r, 0⟩, r.drop len) else (⟨key, len, [], val (first 4 r)⟩, r.drop 4)
  else
    let key := first k r
    let r := r.drop k
    (⟨key, 0, [], val (first 4 r)⟩, r.drop 4)
def rdL (leaf : Bool) : Nat → List UInt8 → List Pt
  | 0, _ => []
  | n + 1, r => (rdP leaf r).1 :: rdL leaf n (rdP leaf r).2
def rdR (leaf : Bool) : Nat → List UInt8 → List UInt8
  | 0, r => r
  | n + 1, r => rdR leaf n (rdP leaf r).2
theorem rdL_len (leaf : Bool) : ∀ (n : Nat) (r : List UInt8), (rdL leaf n r).length = n
  | 0, _ => rfl
  | n + 1, r => by simp [rdL, rdL_len leaf n]
theorem rdL_snoc (leaf : Bool) : ∀ (n : Nat) (r : List UInt8), rdL leaf (n + 1) r = rdL leaf n r ++ [(rdP leaf (rdR leaf n r)).1]
  | 0, _ => rfl
  | n + 1, r => by
    rw [rdL, rdL_snoc leaf n]; rfl
theorem rdR_snoc (leaf : Bool) : ∀ (n : Nat) (r : List UInt8), rdR leaf (n + 1) r = (rdP leaf (rdR leaf n r)).2
  | 0, _ => rfl
  | n + 1, r => by
    rw [rdR, rdR_snoc leaf n]; rfl
/-- A node out of its parts. -/
def ofR (x : Rn) : Nd := ⟨x.leaf, x.l.map (·.key), if x.leaf then x.l.map (fun p => ⟨p.len, p.data, p.page⟩) else [], if x.leaf then [] else x.kid :: x.l.map (·.page)⟩
def parse (b : List UInt8) : Rn :=
  let leaf := decide (val (first 1 b) = 1)
  let n := min (val (first 2 (b.drop 1))) 512
  if leaf then ⟨true, 0, rdL true n (b.drop 3)⟩ else ⟨false, val (first 4 (b.drop 3)), rdL false n (b.drop 7)⟩
theorem key1 {x r : List UInt8} (h : x.length ≤ 100) : val (first 1 (UInt8.ofNat x.length :: r)) = x.length := by
  have : (UInt8.ofNat x.length).toNat = x.length := by rw [UInt8.toNat_ofNat']; omega
  simp [val, first, this]
theorem rdP_pb {leaf : Bool} {x : Pt} (hk : x.key.length ≤ 100) (hx : ptOk leaf x = true) (r : List UInt8) : rdP leaf (pb leaf x ++ r) = (x, r) := by
  unfold rdP pb
  simp only [List.cons_append, List.drop_succ_cons, List.drop_zero, key1 hk, List.append_assoc]
  cases leaf with
  | true =>
    simp only [if_true, true_and]
    simp only [ptOk, if_true, Cl.right] at hx
    split at hx
    · cases hx
    · rename_i h1
      have hv : (val (beW 2 x.len) : Int) = x.len := val_2 (by omega) (by omega)
      rw [first_app' _ _ (beW_len 2 x.len), drop_app' _ _ (beW_len 2 x.len), first_app, drop_app' _ _ rfl]
      split at hx
      · rename_i h2
        obtain ⟨h3, h4⟩ := of_decide_eq_true hx
        have h5 : val (beW 2 x.len) = x.data.length := by omega
        rw [if_pos h2, if_pos (by omega), h5, first_app, drop_app' _ _ rfl]
        cases x; simp_all
      · rename_i h2
        rw [Bool.and_eq_true] at hx
        have h3 := of_decide_eq_true hx.1
        have h4 := of_decide_eq_true hx.2
        rw [if_neg h2, if_neg (by omega), first_app' _ _ (beW_len 4 x.page), drop_app' _ _ (beW_len 4 x.page), val_4 (by omega) (by omega)]
        cases x; simp_all
  | false =>
    simp only [Bool.false_eq_true, if_false, false_and, List.nil_append]
    simp only [ptOk, Bool.false_eq_true, if_false, Bool.and_eq_true, decide_eq_true_eq] at hx
    have h4 := of_decide_eq_true hx.2
    rw [first_app, drop_app' _ _ rfl, first_app' _ _ (beW_len 4 x.page), drop_app' _ _ (beW_len 4 x.page), val_4 (by omega) (by omega)]
    cases x; simp_all
theorem rdL_body {leaf : Bool} : ∀ (l : List Pt) (r : List UInt8), (∀ x ∈ l, x.key.length ≤ 100 ∧ ptOk leaf x = true) → rdL leaf l.length (body leaf l ++ r) = l ∧ rdR leaf l.length (body leaf l ++ r) = r
  | [], r, _ => ⟨rfl, rfl⟩
  | x :: l, r, h => by
    have hx := h x (by simp)
    have ih := rdL_body l r fun y hy => h y (by simp [hy])
    have e : body leaf (x :: l) ++ r = pb leaf x ++ (body leaf l ++ r) := by simp [body]
    rw [e]
    simp only [List.length_cons, rdL, rdR, rdP_pb hx.1 hx.2]
    exact ⟨by rw [ih.1], ih.2⟩
theorem pb_len (leaf : Bool) (x : Pt) : 1 ≤ (pb leaf x).length := by simp [pb]
theorem body_len (leaf : Bool) : ∀ l : List Pt, l.length ≤ (body leaf l).length
  | [] => Nat.zero_le _
  | x :: l => by
    have := body_len leaf l
    have := pb_len leaf x
    simp only [body, List.flatMap_cons, List.length_append, List.length_cons] at *
    omega
theorem rightR_parts {x : Rn} (h : rightR x = true) : ∀ p ∈ x.l, p.key.length ≤ 100 ∧ ptOk x.leaf p = true := fun p hp => by
  simp only [rightR, Bool.and_eq_true, decide_eq_true_eq] at h
  refine ⟨?_, List.all_eq_true.1 h.2 p hp⟩
  obtain ⟨i, hi, rfl⟩ := List.getElem_of_mem hp
  have := (h.1.2 i (by simpa using hi)).1
  simpa [hi] using this
theorem parse_page {x : Rn} (h : rightR x = true) (hl : (bytesR x).length ≤ 512) : parse (page x) = x := by
  have hp := rightR_parts h
  have hb := body_len x.leaf x.l
  have hn : x.l.length ≤ 512 := by
    simp only [bytesR, List.length_append] at hl; omega
  have hv : val (beW 2 (x.l.length : Int)) = x.l.length := by have := val_2 (n := x.l.length) (by omega) (by omega); omega
  simp only [rightR, Bool.and_eq_true, decide_eq_true_eq] at h
  obtain ⟨leaf, kid, l⟩ := x
  unfold page bytesR hd parse
  generalize List.replicate _ (0 : UInt8) = z
  simp only at hp hn hv h ⊢
  cases leaf with
  | true =>
    simp only [if_true, List.append_nil, List.cons_append, List.append_assoc]
    simp only [if_true, decide_eq_true_eq] at h
    have e1 : ∀ r : List UInt8, val (first 1 (1 :: r)) = 1 := fun r => by simp [first, val]
    rw [e1]
    simp only [decide_true, if_true, List.drop_succ_cons, List.drop_zero]
    rw [first_app' _ _ (beW_len 2 _), hv, drop_app' _ _ (beW_len 2 _), Nat.min_eq_left hn, (rdL_body l z hp).1, h.1.1]
  | false =>
    simp only [Bool.false_eq_true, if_false, List.cons_append, List.append_assoc]
    simp only [Bool.false_eq_true, if_false, Bool.and_eq_true, decide_eq_true_eq] at h
    have e1 : ∀ r : List UInt8, decide (val (first 1 (2 :: r)) = 1) = false := fun r => by simp [first, val]
    rw [e1]
    have hk := of_decide_eq_true h.1.1.2
    have e7 : ∀ r : List UInt8, (beW 2 (l.length : Int) ++ (beW 4 kid ++ r)).drop 6 = r := fun r => by
      rw [← List.append_assoc, drop_app' _ _ (by simp [beW_len])]
    simp only [Bool.false_eq_true, if_false, List.drop_succ_cons, List.drop_zero]
    rw [first_app' _ _ (beW_len 2 _), hv, drop_app' _ _ (beW_len 2 _), Nat.min_eq_left hn, first_app' _ _ (beW_len 4 _), val_4 (by omega) (by omega), e7, (rdL_body l z hp).1]
end Go.Vm.Node
