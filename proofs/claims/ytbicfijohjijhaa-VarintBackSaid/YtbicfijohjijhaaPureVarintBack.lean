/- The law VarintBack over the printed functions: numbers and a text that are written one behind the other are read back, and whatever bytes are a number are its very bytes: for any numbers, text, bytes and place. -/
import Derived.Test.YtbicfijohjijhaaVAlive
import Derived.Test.YtbicfijohjijhaaVText
import Derived.Test.YtbicfijohjijhaaPVix19
import Derived.Test.YtbicfijohjijhaaPVix7
import Derived.Test.YtbicfijohjijhaaPVix11
namespace Go.Proofs.Ytbicfijohjijhaa.Pure
set_option linter.unusedVariables false
set_option linter.unusedSimpArgs false
open Go.RowKit Go.Proofs.Ytbicfijohjijhaa.PVi Go.Proofs.Ytbicfijohjijhaa.VMath Go.Proofs.Ytbicfijohjijhaa.VFuns Go.Proofs.Ytbicfijohjijhaa.VAlive Go.Proofs.Ytbicfijohjijhaa.VText Go.Proofs.YtbicfijohjijhaaW.PrintWords Go.Proofs.YtbicfijohjijhaaW.PrintLast
def encs : List Int → List Int
  | [] => []
  | v :: l => enc v.toNat ++ encs l
theorem encs_append (a b : List Int) : encs (a ++ b) = encs a ++ encs b := by
  induction a with
  | nil => rfl
  | cons v a ih => simp [encs, ih]
theorem encs_len (l : List Int) (h : ∀ x ∈ l, 0 ≤ x ∧ x < 18446744073709551616) : (encs l).length ≤ 10 * l.length := by
  induction l with
  | nil => simp [encs]
  | cons v l ih =>
    have h1 := ih (fun x hx => h x (List.mem_cons_of_mem _ hx))
    have h2 := h v (by simp)
    have h3 := (enc_ten (v := v.toNat) (by omega)).2
    simp only [encs, List.length_append, List.length_cons]
    omega
theorem encs_byte (l : List Int) : ∀ c ∈ encs l, 0 ≤ c ∧ c ≤ 255 := by
  induction l with
  | nil => simp [encs]
  | cons v l ih =>
    intro c hc
    simp only [encs, List.mem_append] at hc
    rcases hc with hc | hc
    · exact enc_byte _ _ (Nat.lt_succ_self _) c hc
    · exact ih c hc
theorem take_snoc (l : List Int) (n : Nat) (h : n < l.length) : l.take (n + 1) = l.take n ++ [l.getD n 0] := by
  rw [List.take_succ_eq_append_getElem h]; simp [List.getD_eq_getElem?_getD, List.getElem?_eq_getElem h]
theorem bytesOf_byte (s : ByteArray) : ∀ c ∈ bytesOf s, 0 ≤ c ∧ c ≤ 255 := by
  intro c hc
  unfold bytesOf at hc
  obtain ⟨x, _, rfl⟩ := List.mem_map.1 hc
  have := x.toNat_lt
  omega
theorem str_bytesOf (s : ByteArray) : (strOfNums (bytesOf s)).toList = s.toList := by
  rw [str_toList, ByteArray.toList_eq]
  unfold bytesOf
  rw [List.map_map]
  conv => rhs; rw [← List.map_id s.data.toList]
  apply List.map_congr_left
  intro x _
  simp
/-- Get at the place where a number begins. -/
theorem at_enc (pre post : List Int) (v : Nat) (hv : v < 18446744073709551616) : specAt (pre ++ enc v ++ post) pre.length = ((v : Int), (pre.length : Int) + (enc v).length, 0) := by
  unfold specAt
  rw [if_neg (by simp; omega)]
  have : (pre ++ enc v ++ post).drop (pre.length : Int).toNat = enc v ++ post := by
    simp [List.append_assoc]
  rw [this, spec_enc v hv, if_pos rfl]
/-- The last part: any bytes. -/
theorem back_j3 (b : List Int) (at_ : Int) (hb : ∀ c ∈ b, 0 ≤ c ∧ c ≤ 255) (hl : b.length ≤ 140737488355328) (k : Nat) (hk : 2 * b.length + 50 ≤ k) : hindsightlaw01_VarintBack.j3 k b at_ false = some true := by
  obtain ⟨k, rfl⟩ : ∃ m, k = m + 1 := ⟨k - 1, by omega⟩
  simp only [hindsightlaw01_VarintBack.j3]
  have hr := specAt_range b at_ hb
  have hn := specAt_next b at_ hb
  rw [if_neg (by decide), get_tells b at_ hb hl k (by omega), alive_tells k (by omega)]
  simp only [Option.bind_some, if_true]
  by_cases he : (specAt b at_).2.2 = 0
  · rw [if_pos he, if_pos hn.2]
    -- what was told is a number's bytes
    unfold specAt at he
    by_cases h0 : at_ < 0 ∨ at_ > b.length
    · rw [if_pos h0] at he; exact absurd he (by decide)
    rw [if_neg h0] at he
    have hd : specAt b at_ = ((spec (b.drop at_.toNat)).1, at_ + (spec (b.drop at_.toNat)).2.1, 0) := by
      unfold specAt
      rw [if_neg h0]
      split
      · rfl
      · rename_i h; rw [if_neg h] at he; exact absurd he h
    generalize hs : b.drop at_.toNat = s at *
    have hse : (spec s).2.2 = 0 := by
      rcases Decidable.em ((spec s).2.2 = 0) with h | h
      · exact h
      · rw [if_neg h] at he; exact absurd he h
    have hsl : s.length + at_.toNat = b.length := by rw [← hs]; simp; omega
    have hsb : ∀ c ∈ s, 0 ≤ c ∧ c ≤ 255 := fun c hc => hb c (List.mem_of_mem_drop (hs ▸ hc))
    have hcl := cnt_le s
    unfold spec at hse
    by_cases h1 : 9 ≤ cnt s ∧ 9 < s.length ∧ s.getD 9 0 > 1
    · rw [if_pos h1] at hse; exact absurd hse (by decide)
    rw [if_neg h1] at hse
    by_cases h2 : s.length ≤ cnt s
    · rw [if_pos h2] at hse; exact absurd hse (by decide)
    rw [if_neg h2] at hse
    by_cases h3 : 0 < cnt s ∧ s.getD (cnt s) 0 = 0
    · rw [if_pos h3] at hse; exact absurd hse (by decide)
    have hsp : spec s = (val (cnt s + 1) s, (cnt s : Int) + 1, 0) := by
      unfold spec
      rw [if_neg h1, if_neg h2, if_neg h3]
    rw [hsp] at hd
    rw [hd] at hr hn ⊢
    simp only at hr hn ⊢
    rw [if_pos (by omega), put_tells _ hr.1 hr.2 k (by omega)]
    simp only [Option.bind_some]
    rw [if_pos (by omega), if_pos (by omega), enc_val (cnt s) s rfl (by omega) hsb (fun h h' => h3 ⟨h, h'⟩)]
    have : (b.take (at_ + ((cnt s : Int) + 1)).toNat).drop at_.toNat = s.take (cnt s + 1) := by
      rw [← hs, List.drop_take]
      congr 1
      omega
    rw [this]; simp
  · rw [if_neg he]
theorem back_l1 (l : List Int) (i : Int) (s : ByteArray) (b : List Int) (at_ : Int) (hl : l.length ≤ 60) (hlv : ∀ x ∈ l, 0 ≤ x ∧ x < 18446744073709551616) (i0 : -9223372036854775808 ≤ i) (i1 : i < 9223372036854775808) (hs : s.size ≤ 2000)
    (hb : ∀ c ∈ b, 0 ≤ c ∧ c ≤ 255) (hbl : b.length ≤ 140737488355328) (d : Nat) : ∀ (k n : Nat), n + d = l.length → 2 * b.length + 10000 + d < k →
    hindsightlaw01_VarintBack.l1 k l i s b at_ (encs l ++ enc (zig i).toNat ++ (enc s.size ++ bytesOf s)) ((encs (l.take n)).length : Int) n = some true := by
  have hz := zig_range i i0 i1
  have hel := encs_len l hlv
  have hzl := (enc_ten (v := (zig i).toNat) (by omega)).2
  have hsl := (enc_ten (v := s.size) (by omega)).2
  have hal : (encs l ++ enc (zig i).toNat ++ (enc s.size ++ bytesOf s)).length ≤ 4000 := by
    simp only [List.length_append, bytesOf_length]; omega
  have hab : ∀ c ∈ encs l ++ enc (zig i).toNat ++ (enc s.size ++ bytesOf s), 0 ≤ c ∧ c ≤ 255 := by
    intro c hc
    simp only [List.mem_append] at hc
    rcases hc with (hc | hc) | hc | hc
    · exact encs_byte l c hc
    · exact enc_byte _ _ (Nat.lt_succ_self _) c hc
    · exact enc_byte _ _ (Nat.lt_succ_self _) c hc
    · exact bytesOf_byte s c hc
  induction d with
  | zero =>
    intro k n hn hk
    obtain ⟨k, rfl⟩ : ∃ m, k = m + 1 := ⟨k - 1, by omega⟩
    simp only [hindsightlaw01_VarintBack.l1]
    rw [if_neg (by omega), List.take_of_length_le (by omega)]
    have g1 := at_enc (encs l) (enc s.size ++ bytesOf s) (zig i).toNat (by omega)
    rw [Int.toNat_of_nonneg hz.1] at g1
    unfold varint_GetInt.f
    rw [get_tells _ _ hab (by omega) k (by omega), g1]
    simp only [Option.bind_some, if_true]
    rw [zag_tells _ hz.1 hz.2, zag_zig]
    simp only [Option.bind_some, if_true]
    have g2 := at_enc (encs l ++ enc (zig i).toNat) (bytesOf s) s.size (by omega)
    rw [List.append_assoc (encs l ++ enc (zig i).toNat)] at g2
    simp only [List.length_append, Int.natCast_add] at g2
    rw [get_text _ _ hab (by omega) k (by omega)]
    simp only [Option.bind_some]
    unfold textAt
    rw [g2]
    simp only [if_true]
    have e1 : ((encs l ++ enc (zig i).toNat ++ (enc s.size ++ bytesOf s)).length : Int) = (encs l).length + (enc (zig i).toNat).length + (enc s.size).length + s.size := by
      simp only [List.length_append, bytesOf_length]; omega
    have hno : ¬ ((s.size : Int) > ((encs l ++ enc (zig i).toNat ++ (enc s.size ++ bytesOf s)).length : Int) - (((encs l).length : Int) + (enc (zig i).toNat).length + (enc s.size).length)) := by rw [e1]; omega
    rw [if_neg hno]
    simp only [if_true]
    have e2 : ((encs l ++ enc (zig i).toNat ++ (enc s.size ++ bytesOf s)).take (((encs l).length : Int) + (enc (zig i).toNat).length + (enc s.size).length + s.size).toNat).drop (((encs l).length : Int) + (enc (zig i).toNat).length + (enc s.size).length).toNat = bytesOf s := by
      rw [List.take_of_length_le (by simp only [List.length_append, bytesOf_length]; omega)]
      rw [show encs l ++ enc (zig i).toNat ++ (enc s.size ++ bytesOf s) = (encs l ++ enc (zig i).toNat ++ enc s.size) ++ bytesOf s by simp only [List.append_assoc]]
      rw [show (((encs l).length : Int) + (enc (zig i).toNat).length + (enc s.size).length).toNat = (encs l ++ enc (zig i).toNat ++ enc s.size).length by simp only [List.length_append]; omega]
      exact List.drop_left
    rw [e2, if_pos (str_bytesOf s), e1, bne_self_eq_false]
    exact back_j3 b at_ hb hbl k (by omega)
  | succ d ih =>
    intro k n hn hk
    obtain ⟨k, rfl⟩ : ∃ m, k = m + 1 := ⟨k - 1, by omega⟩
    have hlt : n < l.length := by omega
    have hm : l.getD n 0 ∈ l := by rw [List.getD_eq_getElem?_getD, List.getElem?_eq_getElem hlt]; simp
    have hv := hlv _ hm
    have hsplit : encs l = encs (l.take n) ++ enc (l.getD n 0).toNat ++ encs (l.drop (n + 1)) := by
      conv => lhs; rw [← List.take_append_drop (n + 1) l]
      rw [encs_append, take_snoc l n hlt, encs_append]
      simp [encs]
    simp only [hindsightlaw01_VarintBack.l1]
    have g1 := at_enc (encs (l.take n)) (encs (l.drop (n + 1)) ++ enc (zig i).toNat ++ (enc s.size ++ bytesOf s)) (l.getD n 0).toNat (by omega)
    rw [Int.toNat_of_nonneg hv.1] at g1
    have e0 : encs (l.take n) ++ enc (l.getD n 0).toNat ++ (encs (l.drop (n + 1)) ++ enc (zig i).toNat ++ (enc s.size ++ bytesOf s)) = encs l ++ enc (zig i).toNat ++ (enc s.size ++ bytesOf s) := by
      rw [hsplit]; simp only [List.append_assoc]
    rw [e0] at g1
    rw [if_pos (by omega), get_tells _ _ hab (by omega) k (by omega), g1]
    simp only [Option.bind_some, if_true]
    have hp := enc_pos (l.getD n 0).toNat
    have hrd : rd l n = l.getD n 0 := by unfold rd; simp
    rw [if_pos (by omega), hrd, if_pos rfl, if_neg (by omega), wrapi _ (by omega) (by omega)]
    have := ih k (n + 1) (by omega) (by omega)
    rw [take_snoc l n hlt, encs_append] at this
    simpa [encs] using this
theorem back_l0 (l : List Int) (i : Int) (s : ByteArray) (b : List Int) (at_ : Int) (hl : l.length ≤ 60) (hlv : ∀ x ∈ l, 0 ≤ x ∧ x < 18446744073709551616) (i0 : -9223372036854775808 ≤ i) (i1 : i < 9223372036854775808) (hs : s.size ≤ 2000)
    (hb : ∀ c ∈ b, 0 ≤ c ∧ c ≤ 255) (hbl : b.length ≤ 140737488355328) (d : Nat) : ∀ (k n : Nat), n + d = l.length → 2 * b.length + 11000 + d < k →
    hindsightlaw01_VarintBack.l0 k l i s b at_ (encs (l.take n)) n = some true := by
  have hz := zig_range i i0 i1
  have hel := encs_len l hlv
  have hzl := (enc_ten (v := (zig i).toNat) (by omega)).2
  have hsl := (enc_ten (v := s.size) (by omega)).2
  induction d with
  | zero =>
    intro k n hn hk
    obtain ⟨k, rfl⟩ : ∃ m, k = m + 1 := ⟨k - 1, by omega⟩
    simp only [hindsightlaw01_VarintBack.l0]
    rw [if_neg (by omega), List.take_of_length_le (by omega)]
    unfold varint_PutInt.f
    rw [zig_tells i i0 i1]
    simp only [Option.bind_some]
    rw [put_tells _ hz.1 hz.2 k (by omega)]
    simp only [Option.bind_some]
    rw [if_pos (by omega), puttext_tells s k (by omega) (by omega)]
    simp only [Option.bind_some]
    rw [if_pos (by simp only [List.length_append, bytesOf_length]; omega)]
    have := back_l1 l i s b at_ hl hlv i0 i1 hs hb hbl l.length k 0 (by omega) (by omega)
    simpa [encs] using this
  | succ d ih =>
    intro k n hn hk
    obtain ⟨k, rfl⟩ : ∃ m, k = m + 1 := ⟨k - 1, by omega⟩
    have hlt : n < l.length := by omega
    have hm : l.getD n 0 ∈ l := by rw [List.getD_eq_getElem?_getD, List.getElem?_eq_getElem hlt]; simp
    have hv := hlv _ hm
    have hrd : rd l n = l.getD n 0 := by unfold rd; simp
    have h2 := encs_len (l.take n) (fun x hx => hlv x (List.mem_of_mem_take hx))
    have h3 := (enc_ten (v := (l.getD n 0).toNat) (by omega)).2
    simp only [hindsightlaw01_VarintBack.l0]
    rw [if_pos (by omega), if_pos (by omega), hrd, put_tells _ hv.1 hv.2 k (by omega)]
    simp only [Option.bind_some]
    simp only [List.length_take] at h2
    rw [if_pos (by omega), wrapi _ (by omega) (by omega)]
    have := ih k (n + 1) (by omega) (by omega)
    rw [take_snoc l n hlt, encs_append] at this
    simpa [encs] using this
theorem VarintBack : hindsightlaw01_VarintBack.Pure := by
  intro l i s b at_ hlm hl8 hlv hi hs hbm hbl hb ha
  obtain ⟨i0, i1⟩ := wf_i64 hi
  have hb' : ∀ c ∈ b, 0 ≤ c ∧ c ≤ 255 := fun c hc => wf_u8 (hb c hc)
  have hlv' : ∀ x ∈ l, 0 ≤ x ∧ x < 18446744073709551616 := fun x hx => wf_u64 (hlv x hx)
  refine ⟨2 * b.length + 12000, ?_⟩
  unfold hindsightlaw01_VarintBack.f
  have hal : ∀ c, c = true → hindsightlaw01_VarintBack.j0 (2 * b.length + 12000) l i s b at_ c = some true := by
    rintro c rfl
    rw [show 2 * b.length + 12000 = (2 * b.length + 11999) + 1 by omega]
    simp only [hindsightlaw01_VarintBack.j0]
    rw [if_pos trivial, alive_tells _ (by omega)]; rfl
  by_cases h1 : (l.length : Int) > 60
  · rw [if_pos h1]; exact hal _ rfl
  rw [if_neg h1]
  by_cases h2 : (s.size : Int) > 2000
  · rw [if_pos h2]; exact hal _ rfl
  rw [if_neg h2]
  by_cases h3 : (b.length : Int) > 2000
  · exact hal _ (decide_eq_true h3)
  rw [decide_eq_false h3, show 2 * b.length + 12000 = (2 * b.length + 11999) + 1 by omega]
  simp only [hindsightlaw01_VarintBack.j0]
  rw [if_neg (by decide)]
  have := back_l0 l i s b at_ (by omega) hlv' i0 i1 (by omega) hb' (by omega) l.length (2 * b.length + 11999) 0 (by omega) (by omega)
  simpa [encs] using this
end Go.Proofs.Ytbicfijohjijhaa.Pure
