/- What the printed functions of the reference on rows come to, and of the statements. -/
import Derived.Test.YtefpnnljflcmbaaRFuns
import Derived.Test.YtefpnnljflcmbaaVRefs
import Derived.Test.YtefpnnljflcmbaaPRex16
import Derived.Test.YtefpnnljflcmbaaPRex20
import Derived.Test.YtefpnnljflcmbaaPRex2
import Derived.Test.YtefpnnljflcmbaaPRex13
namespace Go.Proofs.Ytefpnnljflcmbaa.RRefs
set_option linter.unusedVariables false
set_option linter.unusedSimpArgs false
open Go.RowKit Go.Proofs.Ytefpnnljflcmbaa.PRe Go.Proofs.Ytefpnnljflcmbaa.VFuns Go.Proofs.Ytefpnnljflcmbaa.VRefs Go.Proofs.Ytefpnnljflcmbaa.VText Go.Proofs.Ytefpnnljflcmbaa.RSpec Go.Proofs.Ytefpnnljflcmbaa.RFuns Go.Proofs.Ytefpnnljflcmbaa.CRight Go.Proofs.YtefpnnljflcmbaaW.PrintWords Go.Proofs.YtefpnnljflcmbaaW.PrintLast Go.Proofs.YtefpnnljflcmbaaW.PrintMore
open Go.Proofs.Ytefpnnljflcmbaa.VMath (enc enc_len enc_pos enc_ten enc_byte enc_lt spec specAt spec_enc specAt_range specAt_next wrapi wrapu wf_i64 wf_u8 cnt val val_snoc val_nonneg cnt_end)
open Go.Proofs.Ytefpnnljflcmbaa.CMath (rgt ord tl tl_inj tl_nil tl_len)
theorem rwrite_l1 (l : List S35) (hl : l.length ≤ 16) (hv : ∀ v ∈ l, vok v) (hr : l.all rv = true) (d : Nat) : ∀ (k n : Nat) (acc : List Int), n + d = l.length → 2 * d + 12 < k → acc.length ≤ 1 + 2000011 * n →
    hindsightref03_Write.l1 k l acc (n : Int) = some (fin (acc ++ bodies (l.drop n))) := by
  induction d with
  | zero =>
    intro k n acc hn hk ha
    obtain ⟨k, rfl⟩ : ∃ m, k = m + 2 := ⟨k - 2, by omega⟩
    rw [hindsightref03_Write.l1, if_neg (by omega), hindsightref03_Write.j2, if_neg (by simp), List.drop_eq_nil_of_le (by omega), bodies, List.append_nil]
    unfold fin
    by_cases h : 8192 < acc.length
    · rw [if_pos (by omega), if_pos h]
    · rw [if_neg (by omega), if_neg h]
  | succ d ih =>
    intro k n acc hn hk ha
    obtain ⟨k, rfl⟩ : ∃ m, k = m + 2 := ⟨k - 2, by omega⟩
    have hm := rd_mem l n (by omega)
    have hvo := hv _ hm
    have hri := List.all_eq_true.1 hr _ hm
    have hb := body_len _ hvo
    rw [hindsightref03_Write.l1, if_pos (by omega), hindsightref03_Write.j2]
    by_cases h0 : (acc.length : Int) ≤ 8192
    case neg =>
      rw [if_neg (by simpa using h0), if_pos (by omega), fin_long]
      rw [List.length_append]; omega
    rw [if_pos (by simpa using h0), if_pos (by omega), if_pos (by omega), drop_at l n (by omega), bodies]
    generalize rd_T35 l n = v at *
    rw [if_pos (by omega), Option.bind_some, next_at n (by omega)]
    have hl2 : (acc ++ body v).length ≤ 1 + 2000011 * (n + 1) := by rw [List.length_append]; omega
    have hz := enc_ten (zig_nat v hvo)
    have ht := enc_ten (v := v.f2.size) (by have := hvo.2.2.2.2; omega)
    have hs := hvo.2.2.2.2
    have hzr := zig_range v.f1 hvo.2.2.1 hvo.2.2.2.1
    have hkd := rv_kind hri
    by_cases k1 : v.f0 = 1
    · have e : body v = v.f0 :: enc (zig v.f1).toNat := by unfold body; rw [if_pos k1]
      rw [if_pos k1, rzig_tells v.f1 hvo.2.2.1 hvo.2.2.2.1, Option.bind_some, rput_tells _ hzr.1 hzr.2 k (by omega), Option.bind_some, if_pos (by simp; omega), Option.bind_some, if_neg (by omega)]
      rw [show acc ++ [v.f0] ++ enc (zig v.f1).toNat = acc ++ body v by rw [e]; simp]
      rw [ih k (n + 1) _ (by omega) (by omega) hl2, List.append_assoc]
    rw [if_neg k1]
    by_cases k2 : v.f0 > 1
    · have e : body v = v.f0 :: (enc v.f2.size ++ bytesOf v.f2) := by
        unfold body; rw [if_neg k1]
        by_cases k3 : v.f0 = 2
        · rw [if_pos k3]
        · rw [if_neg k3, if_pos (by omega)]
      rw [if_pos k2, wrapu _ (by omega) (by omega), rput_tells _ (by omega) (by omega) k (by omega), Option.bind_some, if_pos (by simp; omega), Option.bind_some, if_pos (by simp; omega), Int.toNat_natCast]
      rw [show acc ++ [v.f0] ++ enc v.f2.size ++ bytesOf v.f2 = acc ++ body v by rw [e]; simp]
      rw [ih k (n + 1) _ (by omega) (by omega) hl2, List.append_assoc]
    · have e : body v = [v.f0] := by unfold body; rw [if_neg k1, if_neg (by omega), if_neg (by omega)]
      rw [if_neg k2]
      rw [show acc ++ [v.f0] = acc ++ body v by rw [e]]
      rw [ih k (n + 1) _ (by omega) (by omega) hl2, List.append_assoc]
theorem rwrite_l0 (l : List S35) (hl : l.length ≤ 16) (hv : ∀ v ∈ l, vok v) (d : Nat) : ∀ (k n : Nat), n + d = l.length → (l.take n).all rv = true → d + 2 * l.length + 20 < k →
    hindsightref03_Write.l0 k l (n : Int) = some (if l.all rv = true then fin ((l.length : Int) :: bodies l) else ([], 3)) := by
  induction d with
  | zero =>
    intro k n hn hr hk
    obtain ⟨k, rfl⟩ : ∃ m, k = m + 1 := ⟨k - 1, by omega⟩
    rw [List.take_of_length_le (by omega)] at hr
    rw [hindsightref03_Write.l0, if_neg (by omega), if_pos hr]
    have h1 : (l.length : Int) % 256 = l.length := by omega
    rw [h1]
    have := rwrite_l1 l hl hv hr l.length k 0 [(l.length : Int)] (by omega) (by omega) (by simp)
    rw [show ((0 : Nat) : Int) = 0 from rfl] at this
    rw [this]; simp
  | succ d ih =>
    intro k n hn hr hk
    obtain ⟨k, rfl⟩ : ∃ m, k = m + 1 := ⟨k - 1, by omega⟩
    have hm := rd_mem l n (by omega)
    rw [hindsightref03_Write.l0, if_pos (by omega), if_pos (by omega), rright_tells, Option.bind_some]
    cases h : rgt (rd_T35 l n).f0 (rd_T35 l n).f1 (rd_T35 l n).f2
    · rw [if_neg (by simp), if_neg]
      intro ha
      have := List.all_eq_true.1 ha _ hm
      unfold rv at this
      rw [h] at this; cases this
    · rw [if_pos rfl, next_at n (by omega), ih k (n + 1) (by omega) _ (by omega)]
      have hc : l.take (n + 1) = l.take n ++ [rd_T35 l n] := by rw [rd_at l n (by omega), List.take_succ_eq_append_getElem (by omega)]
      rw [hc, List.all_append, hr]
      simp [rv, h]
theorem rwrite_tells (l : List S35) (hl : l.length ≤ 9223372036854775807) (hv : ∀ v ∈ l, vok v) (k : Nat) (hk : 100 ≤ k) : hindsightref03_Write.f k l = some (wr l) := by
  unfold hindsightref03_Write.f wr
  by_cases h : (l.length : Int) > 16
  · rw [if_pos h, if_pos (by omega)]
  · rw [if_neg h]
    have := rwrite_l0 l (by omega) hv l.length k 0 (by omega) (by simp) (by omega)
    rw [show ((0 : Nat) : Int) = 0 from rfl] at this
    rw [this]
    cases h2 : l.all rv
    · simp
    · simp; omega
/-- a value that is read, as the reference tells it -/
theorem one_tells (b : List Int) (hb : ∀ c ∈ b, 0 ≤ c ∧ c ≤ 255) (hl : b.length ≤ 8192) (at_ : Int) (h0 : 0 ≤ at_) (h1 : at_ ≤ b.length) (k : Nat) (hk : 50 ≤ k) :
    ∃ r, hindsightref03_one.f k b at_ = some r ∧ ((valAt b at_).2.2.2.2 = 0 ∧ (valAt b at_).1 ≤ 3 → r = ((valAt b at_).1, (valAt b at_).2.1, (valAt b at_).2.2.1, (valAt b at_).2.2.2.1, true)) ∧ (¬ ((valAt b at_).2.2.2.2 = 0 ∧ (valAt b at_).1 ≤ 3) → r.2.2.2.2 = false) := by
  obtain ⟨k, rfl⟩ : ∃ m, k = m + 1 := ⟨k - 1, by omega⟩
  have hk2 := rd_byte b at_ hb
  have hr := specAt_range b (at_ + 1) hb
  have hn := specAt_next b (at_ + 1) hb
  unfold hindsightref03_one.f
  by_cases c0 : at_ ≥ (b.length : Int)
  · rw [if_pos c0, hindsightref03_one.j0, if_pos rfl]
    have hv : valAt b at_ = (0, 0, ⟨#[]⟩, 0, 10) := by unfold valAt; rw [if_pos c0]
    rw [hv]
    exact ⟨_, rfl, fun h => by simp at h, fun _ => rfl⟩
  rw [if_neg c0, if_pos h0, if_pos (by omega), hindsightref03_one.j0]
  by_cases c3 : rd b at_ > 3
  · rw [if_pos (by simpa using c3)]
    have hv : valAt b at_ = (rd b at_, 0, ⟨#[]⟩, at_ + 1, 0) := by unfold valAt; rw [if_neg c0, if_neg (by omega), if_neg (by omega), if_neg (by omega)]
    rw [hv]
    exact ⟨_, rfl, fun h => by simp at h; omega, fun _ => rfl⟩
  rw [if_neg (by simpa using c3), if_pos h0, if_pos (by omega), wrapi (at_ + 1) (by omega) (by omega)]
  by_cases c1 : rd b at_ = 0
  · rw [if_pos c1]
    have hv : valAt b at_ = (rd b at_, 0, ⟨#[]⟩, at_ + 1, 0) := by unfold valAt; rw [if_neg c0, if_neg (by omega), if_neg (by omega), if_neg (by omega)]
    rw [hv]
    exact ⟨_, rfl, fun _ => rfl, fun h => absurd ⟨rfl, by simp; omega⟩ h⟩
  rw [if_neg c1, rget_tells b _ hb (by omega) k (by omega), Option.bind_some]
  by_cases c2 : (specAt b (at_ + 1)).2.2 = 0
  case neg =>
    rw [if_neg c2]
    refine ⟨_, rfl, fun h => ?_, fun _ => rfl⟩
    exfalso
    have h1 := h.1
    unfold valAt at h1
    rw [if_neg c0] at h1
    by_cases d1 : rd b at_ = 1
    · rw [if_pos d1, if_neg c2] at h1; exact c2 h1
    · rw [if_neg d1] at h1
      have ht : (textAt b (at_ + 1)).2.2 = (specAt b (at_ + 1)).2.2 := by unfold textAt; rw [if_neg c2]
      by_cases d2 : rd b at_ = 2
      · rw [if_pos d2] at h1; rw [ht] at h1; exact c2 h1
      · rw [if_neg d2, if_pos (by omega)] at h1; rw [ht] at h1; exact c2 h1
  rw [if_pos c2]
  by_cases d1 : rd b at_ = 1
  · rw [if_pos d1, rzag_tells _ hr.1 hr.2, Option.bind_some]
    have hv : valAt b at_ = (1, zag (specAt b (at_ + 1)).1, ⟨#[]⟩, (specAt b (at_ + 1)).2.1, 0) := by unfold valAt; rw [if_neg c0, if_pos d1, if_pos c2]
    rw [hv]
    exact ⟨_, rfl, fun _ => by rw [d1], fun h => absurd ⟨rfl, by simp⟩ h⟩
  rw [if_neg d1, wrapi ((b.length : Int) - _) (by omega) (by omega), wrapu _ (by omega) (by omega)]
  have hv : valAt b at_ = (rd b at_, 0, (textAt b (at_ + 1)).1, (textAt b (at_ + 1)).2.1, (textAt b (at_ + 1)).2.2) := by
    unfold valAt; rw [if_neg c0, if_neg d1]
    by_cases d2 : rd b at_ = 2
    · rw [if_pos d2, d2]
    · rw [if_neg d2, if_pos (by omega), show rd b at_ = 3 by omega]
  rw [hv]
  by_cases e1 : (specAt b (at_ + 1)).1 > (b.length : Int) - (specAt b (at_ + 1)).2.1
  · rw [if_pos e1]
    refine ⟨_, rfl, fun h => ?_, fun _ => rfl⟩
    exfalso
    have h1 := h.1
    unfold textAt at h1
    rw [if_pos c2, if_pos e1] at h1
    simp at h1
  · rw [if_neg e1, wrapi (specAt b (at_ + 1)).1 (by omega) (by omega), wrapi _ (by omega) (by omega), if_pos (by omega), if_pos (by omega), if_pos (by omega)]
    have ht : textAt b (at_ + 1) = (strOfNums ((b.take ((specAt b (at_ + 1)).2.1 + (specAt b (at_ + 1)).1).toNat).drop (specAt b (at_ + 1)).2.1.toNat), (specAt b (at_ + 1)).2.1 + (specAt b (at_ + 1)).1, 0) := by unfold textAt; rw [if_pos c2, if_neg e1]
    rw [ht]
    exact ⟨_, rfl, fun _ => rfl, fun h => absurd ⟨rfl, by simp; omega⟩ h⟩
theorem rback_tells (b : List Int) (l : List S35) (hl : l.length ≤ 16) (hv : ∀ v ∈ l, vok v) (k : Nat) (hk : 100 ≤ k) :
    ((hindsightref03_Write.f k l).bind fun bt295 => (if bt295.2 = 0 then (if (strOfNums bt295.1).toList = (strOfNums b).toList then (some (l, bt295.2)) else (some (([] : List (S35)), (3 : Int)))) else (some (([] : List (S35)), 3)))) = some (back b l) := by
  rw [rwrite_tells l (by omega) hv k hk, Option.bind_some]
  unfold back same
  by_cases h : (wr l).2 = 0
  · rw [if_pos h]
    by_cases h2 : (strOfNums (wr l).1).toList = (strOfNums b).toList
    · rw [if_pos h2, if_pos ⟨h, by simpa using h2⟩, h]
    · rw [if_neg h2, if_neg (fun z => h2 (by simpa using z.2))]
  · rw [if_neg h, if_neg (fun z => h z.1)]
theorem back_wrong (b : List Int) (l : List S35) (v : S35) (hm : v ∈ l) (h : v.f0 > 3) : back b l = ([], 3) := by
  have hw : wr l = ([], 3) := by
    unfold wr
    rw [if_pos]
    left
    rw [List.all_eq_false]
    refine ⟨v, hm, fun hr => ?_⟩
    have := rv_kind hr
    omega
  unfold back
  rw [hw, if_neg (by simp)]
theorem rread_l0 (b : List Int) (hb : ∀ c ∈ b, 0 ≤ c ∧ c ≤ 255) (hl : b.length ≤ 8192) (hp : 0 < b.length) (n : Nat) (hn : n ≤ 16) (he : rd b 0 = n) (d : Nat) : ∀ (k i : Nat) (acc : List S35) (at_ : Int), i + d = n → acc.length = i → (∀ v ∈ acc, vok v) → 0 ≤ at_ → at_ ≤ b.length → d + 110 ≤ k →
    hindsightref03_Read.l0 k b acc at_ (i : Int) = some (match vals d b at_ with | none => ([], 3) | some l => back b (acc ++ l)) := by
  induction d with
  | zero =>
    intro k i acc at_ hi ha hv h0 h1 hk
    obtain ⟨k, rfl⟩ : ∃ m, k = m + 1 := ⟨k - 1, by omega⟩
    rw [hindsightref03_Read.l0, if_pos (by omega), he, wrapi _ (by omega) (by omega), if_neg (by omega), rback_tells b acc (by omega) hv k (by omega)]
    simp [vals]
  | succ d ih =>
    intro k i acc at_ hi ha hv h0 h1 hk
    obtain ⟨k, rfl⟩ : ∃ m, k = m + 1 := ⟨k - 1, by omega⟩
    have ho := val_ok b at_ hb hl h0 h1
    obtain ⟨r, hr1, hr2, hr3⟩ := one_tells b hb hl at_ h0 h1 k (by omega)
    rw [hindsightref03_Read.l0, if_pos (by omega), he, wrapi _ (by omega) (by omega), if_pos (by omega), hr1, Option.bind_some, vals]
    by_cases h : (valAt b at_).2.2.2.2 = 0
    · by_cases h3 : (valAt b at_).1 ≤ 3
      · rw [hr2 ⟨h, h3⟩, if_pos rfl, if_pos h, if_pos (by omega), next_at i (by omega)]
        rw [ih k (i + 1) _ _ (by omega) (by simp [ha]) (by
          intro v hv2
          rcases List.mem_append.1 hv2 with h2 | h2
          · exact hv v h2
          · rw [List.mem_singleton.1 h2]; exact ho.1) ho.2.1 ho.2.2 (by omega)]
        cases vals d b (valAt b at_).2.2.2.1 <;> simp
      · rw [hr3 (fun z => h3 z.2), if_neg (by simp), if_pos h]
        cases h4 : vals d b (valAt b at_).2.2.2.1 with
        | none => rfl
        | some l2 =>
          simp only [Option.map_some]
          rw [back_wrong b _ (⟨(valAt b at_).1, (valAt b at_).2.1, (valAt b at_).2.2.1⟩ : S35) (by simp) (by simp only; omega)]
    · rw [hr3 (fun z => h z.1), if_neg (by simp), if_neg h]
theorem spec_first (c : Int) (s : List Int) (hb : ∀ x ∈ c :: s, 0 ≤ x ∧ x ≤ 255) : (c ≤ 127 → spec (c :: s) = (c, 1, 0)) ∧ (c > 127 → (spec (c :: s)).2.2 = 0 → 128 ≤ (spec (c :: s)).1) := by
  have hc := hb c (by simp)
  constructor
  · intro h
    have h0 : cnt (c :: s) = 0 := by unfold cnt; rw [if_neg (by omega)]
    unfold spec
    rw [h0, if_neg (by omega), if_neg (by simp), if_neg (by omega)]
    simp [val]; omega
  · intro h he
    have h0 : 0 < cnt (c :: s) := by unfold cnt; rw [if_pos (by omega)]; omega
    unfold spec at he ⊢
    split at he
    · cases he
    · rename_i g1
      rw [if_neg g1]
      split at he
      · cases he
      · rename_i g2
        rw [if_neg g2]
        split at he
        · cases he
        · rename_i g3
          rw [if_neg g3]
          simp only
          have hz : (c :: s).getD (cnt (c :: s)) 0 ≠ 0 := fun z => g3 ⟨h0, z⟩
          have hend := cnt_end (c :: s) (by omega)
          have hlt : cnt (c :: s) < (c :: s).length := by omega
          have hby : 0 ≤ (c :: s).getD (cnt (c :: s)) 0 := by
            rw [List.getD_eq_getElem?_getD, List.getElem?_eq_getElem hlt]
            exact (hb _ (List.getElem_mem hlt)).1
          rw [val_snoc _ _ hlt]
          have hn := val_nonneg (cnt (c :: s)) (c :: s)
          generalize (c :: s).getD (cnt (c :: s)) 0 = q at *
          have hq : q % 128 = q := by omega
          rw [hq]
          have hp : (128 : Int) ≤ 128 ^ cnt (c :: s) := by
            obtain ⟨m, hm⟩ : ∃ m, cnt (c :: s) = m + 1 := ⟨cnt (c :: s) - 1, by omega⟩
            rw [hm, Int.pow_succ]
            have : (0 : Int) < 128 ^ m := Int.pow_pos (by decide)
            omega
          have : 128 ^ cnt (c :: s) * 1 ≤ 128 ^ cnt (c :: s) * q := Int.mul_le_mul_of_nonneg_left (by omega) (by omega)
          omega
theorem rread_tells (b : List Int) (hb : ∀ c ∈ b, 0 ≤ c ∧ c ≤ 255) (k : Nat) (hk : 200 ≤ k) : hindsightref03_Read.f k b = some (rdr b) := by
  obtain ⟨k, rfl⟩ : ∃ m, k = m + 1 := ⟨k - 1, by omega⟩
  unfold hindsightref03_Read.f rdr
  by_cases hl : 8192 < b.length
  · rw [if_pos (by omega), if_pos hl]
  rw [if_neg (by omega), if_neg hl]
  cases b with
  | nil =>
    have hs : specAt [] 0 = (0, 0, 10) := by decide
    rw [hs, if_pos (by simp), if_neg (by simp), hindsightref03_Read.j0, if_pos rfl]
  | cons c s =>
    have hf := spec_first c s hb
    have hc := hb c (by simp)
    have hrd : rd (c :: s) 0 = c := by simp [rd]
    have hs : specAt (c :: s) 0 = if (spec (c :: s)).2.2 = 0 then ((spec (c :: s)).1, (spec (c :: s)).2.1, 0) else (0, 0, (spec (c :: s)).2.2) := by
      unfold specAt
      rw [if_neg (by simp; omega)]
      simp
    rw [if_neg (by simp only [List.length_cons]; omega), if_pos (by simp only [List.length_cons]; omega), hrd, hindsightref03_Read.j0]
    by_cases h16 : c > 16
    · rw [if_pos (by simpa using h16), if_neg]
      rintro ⟨g1, g2⟩
      by_cases g3 : c ≤ 127
      · rw [hs, hf.1 g3] at g2; simp at g2; omega
      · rw [hs] at g1 g2
        by_cases g4 : (spec (c :: s)).2.2 = 0
        · have := hf.2 (by omega) g4
          rw [if_pos g4] at g2; simp only at g2; omega
        · rw [if_neg g4] at g1; exact g4 g1
    · have h1 := hf.1 (by omega)
      have h2 : specAt (c :: s) 0 = (c, 1, 0) := by rw [hs, h1]; rfl
      rw [if_neg (by simpa using h16), h2, if_pos ⟨rfl, by simp only; omega⟩]
      have := rread_l0 (c :: s) hb (by omega) (by simp) c.toNat (by omega) (by rw [hrd]; omega) c.toNat k 0 [] 1 (by omega) rfl (by simp) (by omega) (by simp; omega) (by omega)
      rw [show ((0 : Nat) : Int) = 0 from rfl] at this
      rw [this]
      cases vals c.toNat (c :: s) 1 <;> rfl
end Go.Proofs.Ytefpnnljflcmbaa.RRefs
