/- The law RecordBack over the printed functions. -/
import Derived.Test.YtefpnnljflcmbaaRAlive
import Derived.Test.YtefpnnljflcmbaaPRex26
namespace Go.Proofs.Ytefpnnljflcmbaa.Pure
set_option linter.unusedVariables false
set_option linter.unusedSimpArgs false
open Go.RowKit Go.Proofs.Ytefpnnljflcmbaa.PRe Go.Proofs.Ytefpnnljflcmbaa.VFuns Go.Proofs.Ytefpnnljflcmbaa.VRefs Go.Proofs.Ytefpnnljflcmbaa.VText Go.Proofs.Ytefpnnljflcmbaa.RSpec Go.Proofs.Ytefpnnljflcmbaa.RFuns Go.Proofs.Ytefpnnljflcmbaa.RRefs Go.Proofs.Ytefpnnljflcmbaa.RAlive Go.Proofs.Ytefpnnljflcmbaa.CRight Go.Proofs.YtefpnnljflcmbaaW.PrintWords Go.Proofs.YtefpnnljflcmbaaW.PrintLast Go.Proofs.YtefpnnljflcmbaaW.PrintMore
open Go.Proofs.Ytefpnnljflcmbaa.VMath (enc enc_len enc_pos enc_ten enc_byte enc_lt spec specAt spec_enc specAt_range specAt_next wrapi wrapu wf_i64 wf_u8 cnt val val_snoc val_nonneg cnt_end str_toList)
open Go.Proofs.Ytefpnnljflcmbaa.CMath (rgt ord tl tl_inj tl_nil tl_len size0 cmpB sgn cb_sgn cb_neg cb_zero cb_less cb_trans)
theorem bytesOf_byte (s : ByteArray) : ∀ c ∈ bytesOf s, 0 ≤ c ∧ c ≤ 255 := by
  intro c hc
  unfold bytesOf at hc
  obtain ⟨x, _, rfl⟩ := List.mem_map.1 hc
  have := x.toNat_lt
  omega
theorem str_bytesOf (s : ByteArray) : strOfNums (bytesOf s) = s := by
  apply tl_inj
  rw [str_toList, ByteArray.toList_eq]
  unfold bytesOf
  rw [List.map_map]
  conv => rhs; rw [← List.map_id s.data.toList]
  apply List.map_congr_left
  intro x _
  simp
theorem body_byte (v : S35) (h : vok v) : ∀ c ∈ body v, 0 ≤ c ∧ c ≤ 255 := by
  intro c hc
  unfold body at hc
  rcases List.mem_cons.1 hc with rfl | hc
  · exact ⟨h.1, h.2.1⟩
  · split at hc
    · exact enc_byte _ _ (Nat.lt_succ_self _) c hc
    · split at hc
      · rcases List.mem_append.1 hc with hc | hc
        · exact enc_byte _ _ (Nat.lt_succ_self _) c hc
        · exact bytesOf_byte _ c hc
      · split at hc
        · rcases List.mem_append.1 hc with hc | hc
          · exact enc_byte _ _ (Nat.lt_succ_self _) c hc
          · exact bytesOf_byte _ c hc
        · simp at hc
theorem bodies_byte : ∀ (l : List S35), (∀ v ∈ l, vok v) → ∀ c ∈ bodies l, 0 ≤ c ∧ c ≤ 255
  | [], _, c, hc => by simp [bodies] at hc
  | v :: l, h, c, hc => by
    rw [bodies] at hc
    rcases List.mem_append.1 hc with hc | hc
    · exact body_byte v (h v (by simp)) c hc
    · exact bodies_byte l (fun w hw => h w (List.mem_cons_of_mem _ hw)) c hc
theorem spec_at (pre post : List Int) (v : Nat) (hv : v < 18446744073709551616) : specAt (pre ++ enc v ++ post) pre.length = ((v : Int), (pre.length : Int) + (enc v).length, 0) := by
  unfold specAt
  rw [if_neg (by simp; omega)]
  have : (pre ++ enc v ++ post).drop (pre.length : Int).toNat = enc v ++ post := by simp [List.append_assoc]
  rw [this, spec_enc v hv, if_pos rfl]
theorem text_at (pre post : List Int) (s : ByteArray) (hs : s.size ≤ 2000000) : textAt (pre ++ (enc s.size ++ bytesOf s) ++ post) pre.length = (s, (pre.length : Int) + (enc s.size).length + s.size, 0) := by
  have h1 := spec_at pre (bytesOf s ++ post) s.size (by omega)
  have e : pre ++ (enc s.size ++ bytesOf s) ++ post = pre ++ enc s.size ++ (bytesOf s ++ post) := by simp
  rw [e]
  unfold textAt
  rw [h1]
  simp only [if_true]
  have hlen : ((pre ++ enc s.size ++ (bytesOf s ++ post)).length : Int) = pre.length + (enc s.size).length + s.size + post.length := by simp [bytesOf_length]; omega
  rw [if_neg (by omega)]
  have e2 : ((pre ++ enc s.size ++ (bytesOf s ++ post)).take ((pre.length : Int) + (enc s.size).length + s.size).toNat).drop ((pre.length : Int) + (enc s.size).length).toNat = bytesOf s := by
    have h3 : ((pre.length : Int) + (enc s.size).length + s.size).toNat = (pre ++ enc s.size ++ bytesOf s).length := by simp [bytesOf_length]; omega
    have h4 : ((pre.length : Int) + (enc s.size).length).toNat = (pre ++ enc s.size).length := by simp; omega
    rw [h3, h4, ← List.append_assoc, List.take_left, List.drop_left]
  rw [e2, str_bytesOf]
theorem rd_pre (pre post : List Int) (c : Int) : rd (pre ++ c :: post) (pre.length : Int) = c := by
  unfold rd; simp [List.getD_eq_getElem?_getD]
theorem val_body (pre post : List Int) (v : S35) (hv : vok v) (hr : rv v = true) : valAt (pre ++ body v ++ post) pre.length = (v.f0, v.f1, v.f2, (pre.length : Int) + (body v).length, 0) := by
  have hk := rv_kind hr
  have hz := zig_range v.f1 hv.2.2.1 hv.2.2.2.1
  have e0 : (pre ++ body v ++ post) = pre ++ v.f0 :: ((body v).tail ++ post) := by
    have : body v = v.f0 :: (body v).tail := by unfold body; rfl
    rw [this]; simp
  have hrd : rd (pre ++ body v ++ post) (pre.length : Int) = v.f0 := by rw [e0]; exact rd_pre _ _ _
  have hlt : ¬ ((pre.length : Int) ≥ ((pre ++ body v ++ post).length : Int)) := by rw [e0]; simp; omega
  unfold valAt
  rw [hrd, if_neg hlt]
  unfold rv rgt at hr
  simp only [decide_eq_true_eq] at hr
  by_cases k1 : v.f0 = 1
  · have e : body v = v.f0 :: enc (zig v.f1).toNat := by unfold body; rw [if_pos k1]
    have h1 := spec_at (pre ++ [v.f0]) post (zig v.f1).toNat (zig_nat v hv)
    have e2 : pre ++ body v ++ post = pre ++ [v.f0] ++ enc (zig v.f1).toNat ++ post := by rw [e]; simp
    have e3 : ((pre ++ [v.f0]).length : Int) = (pre.length : Int) + 1 := by simp
    rw [e3] at h1
    rw [if_pos k1, e2, h1]
    simp only [if_true]
    rw [Int.toNat_of_nonneg hz.1, zag_zig]
    have hs : v.f2 = ⟨#[]⟩ := size0 _ (by omega)
    have hlb : ((body v).length : Int) = 1 + (enc (zig v.f1).toNat).length := by rw [e]; simp; omega
    rw [hlb, k1, hs]
    simp only [Prod.mk.injEq, true_and, and_true]; omega
  rw [if_neg k1]
  by_cases k2 : v.f0 = 2
  · have e : body v = v.f0 :: (enc v.f2.size ++ bytesOf v.f2) := by unfold body; rw [if_neg k1, if_pos k2]
    have h1 := text_at (pre ++ [v.f0]) post v.f2 hv.2.2.2.2
    have e2 : pre ++ body v ++ post = pre ++ [v.f0] ++ (enc v.f2.size ++ bytesOf v.f2) ++ post := by rw [e]; simp
    have e3 : ((pre ++ [v.f0]).length : Int) = (pre.length : Int) + 1 := by simp
    rw [e3] at h1
    rw [if_pos k2, e2, h1]
    have hlb : ((body v).length : Int) = 1 + (enc v.f2.size).length + v.f2.size := by rw [e]; simp [bytesOf_length]; omega
    rw [hlb, k2, show v.f1 = 0 by omega]
    simp only [Prod.mk.injEq, true_and, and_true]; omega
  rw [if_neg k2]
  by_cases k3 : v.f0 = 3
  · have e : body v = v.f0 :: (enc v.f2.size ++ bytesOf v.f2) := by unfold body; rw [if_neg k1, if_neg k2, if_pos k3]
    have h1 := text_at (pre ++ [v.f0]) post v.f2 hv.2.2.2.2
    have e2 : pre ++ body v ++ post = pre ++ [v.f0] ++ (enc v.f2.size ++ bytesOf v.f2) ++ post := by rw [e]; simp
    have e3 : ((pre ++ [v.f0]).length : Int) = (pre.length : Int) + 1 := by simp
    rw [e3] at h1
    rw [if_pos k3, e2, h1]
    have hlb : ((body v).length : Int) = 1 + (enc v.f2.size).length + v.f2.size := by rw [e]; simp [bytesOf_length]; omega
    rw [hlb, k3, show v.f1 = 0 by omega]
    simp only [Prod.mk.injEq, true_and, and_true]; omega
  · have e : body v = [v.f0] := by unfold body; rw [if_neg k1, if_neg k2, if_neg k3]
    have hs : v.f2 = ⟨#[]⟩ := size0 _ (by omega)
    rw [if_neg k3, e, show v.f1 = 0 by omega, hs]; rfl
theorem vals_bodies : ∀ (l : List S35) (pre : List Int), (∀ v ∈ l, vok v) → l.all rv = true → vals l.length (pre ++ bodies l) (pre.length : Int) = some l
  | [], pre, _, _ => rfl
  | v :: l, pre, h, hr => by
    rw [List.all_cons, Bool.and_eq_true] at hr
    have h1 := val_body pre (bodies l) v (h v (by simp)) hr.1
    have ih := vals_bodies l (pre ++ body v) (fun w hw => h w (List.mem_cons_of_mem _ hw)) hr.2
    rw [List.length_cons, vals, bodies, ← List.append_assoc, h1]
    simp only [if_true]
    rw [show ((pre.length : Int) + (body v).length) = ((pre ++ body v).length : Int) by simp, ih]
    rfl
theorem rdr_wr (l : List S35) (h : ∀ v ∈ l, vok v) (hw : (wr l).2 = 0) : rdr (wr l).1 = (l, 0) := by
  have hw0 : wr l = ((l.length : Int) :: bodies l, 0) ∧ l.all rv = true ∧ l.length ≤ 16 ∧ ((l.length : Int) :: bodies l).length ≤ 8192 := by
    unfold wr at hw ⊢
    split at hw
    · cases hw
    · rename_i g
      have g1 : l.all rv = true := by cases hq : l.all rv <;> simp_all
      rw [if_neg g]
      unfold fin at hw ⊢
      split at hw
      · cases hw
      · rename_i g2
        rw [if_neg g2]
        exact ⟨rfl, g1, by omega, by omega⟩
  obtain ⟨e1, hr, h16, hlen⟩ := hw0
  have hb : ∀ c ∈ (l.length : Int) :: bodies l, 0 ≤ c ∧ c ≤ 255 := by
    intro c hc
    rcases List.mem_cons.1 hc with rfl | hc
    · omega
    · exact bodies_byte l h c hc
  have hs := (spec_first (l.length : Int) (bodies l) hb).1 (by omega)
  have hsp : specAt ((l.length : Int) :: bodies l) 0 = ((l.length : Int), 1, 0) := by
    unfold specAt
    rw [if_neg (by simp; omega)]
    simp [hs]
  have hv := vals_bodies l [(l.length : Int)] h hr
  rw [e1]
  simp only
  unfold rdr
  rw [if_neg (by omega), hsp, if_pos ⟨rfl, by simp only; omega⟩]
  simp only [Int.toNat_natCast]
  have hv2 : vals l.length ((l.length : Int) :: bodies l) 1 = some l := hv
  rw [hv2]
  simp only
  unfold back same
  rw [e1, if_pos ⟨rfl, by simp⟩]
theorem wr_byte (l : List S35) (h : ∀ v ∈ l, vok v) : ∀ c ∈ (wr l).1, 0 ≤ c ∧ c ≤ 255 := by
  intro c hc
  unfold wr at hc
  split at hc
  · simp at hc
  · rename_i g
    unfold fin at hc
    split at hc
    · simp at hc
    · rcases List.mem_cons.1 hc with rfl | hc
      · omega
      · exact bodies_byte l h c hc
theorem wr_len (l : List S35) : (wr l).1.length ≤ 8192 := by
  unfold wr
  split
  · simp
  · unfold fin
    split
    · simp
    · simp only; omega
theorem back_j1 (l : List S35) (b : List Int) (hl : l.length ≤ 9223372036854775807) (hv : ∀ v ∈ l, vok v) (hb : ∀ c ∈ b, 0 ≤ c ∧ c ≤ 255) (hbl : b.length ≤ 140737488355328) (k : Nat) (hk : l.length + 2 * b.length + 400 ≤ k) : hindsightlaw03_RecordBack.j1 k l b (wr l).2 = some true := by
  obtain ⟨k, rfl⟩ : ∃ m, k = m + 1 := ⟨k - 1, by omega⟩
  have hq := rdr_ok b hb
  rw [hindsightlaw03_RecordBack.j1, read_tells b hb k (by omega) hbl, Option.bind_some, write_tells (rdr b).1 (by omega) hq.2.1 k (by omega), Option.bind_some, alive_tells k (by omega), Option.bind_some, if_pos rfl, right_row l hl hv k (by omega), Option.bind_some, if_pos (by simp)]
  by_cases h : (rdr b).2 = 0
  · obtain ⟨h1, h2⟩ := hq.2.2 h
    rw [if_pos h, if_pos (by rw [h1])]
    unfold same at h2
    rw [h2]
  · rw [if_neg h]
theorem RecordBack : hindsightlaw03_RecordBack.Pure := by
  intro l b hl hb
  have hb2 : ∀ c ∈ b, 0 ≤ c ∧ c ≤ 255 := fun c hc => wf_u8 (hb.2.2 c hc)
  refine ⟨2 * l.length + 4 * b.length + 20000, ?_⟩
  generalize hk : 2 * l.length + 4 * b.length + 20000 = k
  obtain ⟨g, h1, h2⟩ := great_tells l hl k (by omega)
  obtain ⟨k, rfl⟩ : ∃ m, k = m + 1 := ⟨k - 1, by omega⟩
  unfold hindsightlaw03_RecordBack.f
  rw [h1, Option.bind_some]
  have ha : hindsightlaw03_RecordBack.j0 (k + 1) l b true = some true := by
    rw [hindsightlaw03_RecordBack.j0, if_pos rfl, alive_tells k (by omega)]; rfl
  cases g
  case true => exact ha
  rw [if_neg (by simp)]
  by_cases h5 : (b.length : Int) > 9000
  · rw [decide_eq_true h5]; exact ha
  have hv := (h2 rfl).2
  have hwl := wr_len l
  rw [decide_eq_false h5, hindsightlaw03_RecordBack.j0, if_neg (by simp), write_tells l hl.1 hv k (by omega), Option.bind_some]
  by_cases h : (wr l).2 = 0
  · rw [if_pos h, read_tells _ (wr_byte l hv) k (by omega) (by omega), Option.bind_some, rdr_wr l hv h, if_pos rfl, same_tells l l hl.1 k (by omega), Option.bind_some, if_pos ((sameL_iff _ _).2 rfl)]
    exact back_j1 l b hl.1 hv hb2 (by omega) k (by omega)
  · rw [if_neg h]
    exact back_j1 l b hl.1 hv hb2 (by omega) k (by omega)
end Go.Proofs.Ytefpnnljflcmbaa.Pure
