-- Written by a program of this session (wip/tool), which goes by the kit's print.
import Derived.Test.YtefpnnljflcmbaaPRex0
import Derived.Test.YtefpnnljflcmbaaPRex8
namespace Go.Proofs.Ytefpnnljflcmbaa.PRe
open Go.RowKit Go.Proofs.YtefpnnljflcmbaaW.PrintWords Go.Proofs.YtefpnnljflcmbaaW.PrintLast Go.Proofs.YtefpnnljflcmbaaW.PrintMore
attribute [local go_sem] max2_int min2_int max_two min_two max_three min_three max_four min_four   -- for this text's walks alone
set_option linter.unusedVariables false
set_option linter.unusedSimpArgs false

/-! ### varint_GetText: function 86 -/
def varint_GetText.f (k : Nat) (l0 : List Int) (a1 : Int) : Option (ByteArray × Int × Int) := (varint_Get.f k l0 a1).bind fun bt161 => (if bt161.2.2 = 0 then (if bt161.1 > (IntKind.u64.wrap (wrap64 ((l0.length : Int) - bt161.2.1))) then (some ((⟨#[]⟩ : ByteArray), 0, 10)) else (if 0 ≤ bt161.2.1 then (if bt161.2.1 ≤ (wrap64 (bt161.2.1 + (wrap64 (bt161.1)))) then (if (wrap64 (bt161.2.1 + (wrap64 (bt161.1)))) ≤ (l0.length : Int) then (some (strOfNums ((l0.take ((wrap64 (bt161.2.1 + (wrap64 (bt161.1)))) : Int).toNat).drop (bt161.2.1 : Int).toNat), wrap64 (bt161.2.1 + (wrap64 (bt161.1))), 0)) else (none)) else (none)) else (none))) else (some ((⟨#[]⟩ : ByteArray), 0, bt161.2.2)))
theorem varint_GetText.mono : ∀ a0 a1 k, LeO (varint_GetText.f k a0 a1) (varint_GetText.f (k + 1) a0 a1) := by
 intro a0 a1 k
 unfold varint_GetText.f
 repeat' first
   | (with_reducible exact varint_Get.mono _ _ _)
   | (with_reducible exact LeO.refl _)
   | (with_reducible exact LeO.none _)
   | (with_reducible refine LeO.ite ?_ ?_)
   | (with_reducible refine LeO.bind ?_ (fun _ => ?_))
   | exact varint_Get.mono _ _ _
   | exact LeO.none _
   | refine LeO.ite ?_ ?_
   | refine LeO.bind ?_ (fun _ => ?_)
set_option maxHeartbeats 8000000 in
set_option maxRecDepth 100000 in
theorem varint_GetText.calls (k : Nat) (A0 : Option Addr) (c0 : Nat) (l0 : List Int) (a1 : Int) (r1 : ByteArray) (r2 : Int) (r3 : Int) (w : World) (hr0 : Kd.C (Kd.int .u8) w A0 l0.length l0) (hc0 : l0.length ≤ c0) (h : varint_GetText.f k l0 a1 = some (r1, r2, r3)) :
  Calls Try.prog 86 #[.slice A0 l0.length c0, .int .i64 a1] w fun e w' => e = .returned (.tuple #[.string r1, .int .i64 r2, .int .i64 r3]) ∧ Drawn0 w w' := by
 have HR0 := Aside0.mk hr0
 have HC0 := Aside0.mk hc0
 clear hr0 hc0
 have H : ((varint_Get.f k l0 a1).bind fun bt161 => (if bt161.2.2 = 0 then (if bt161.1 > (IntKind.u64.wrap (wrap64 ((l0.length : Int) - bt161.2.1))) then (some ((⟨#[]⟩ : ByteArray), 0, 10)) else (if 0 ≤ bt161.2.1 then (if bt161.2.1 ≤ (wrap64 (bt161.2.1 + (wrap64 (bt161.1)))) then (if (wrap64 (bt161.2.1 + (wrap64 (bt161.1)))) ≤ (l0.length : Int) then (some (strOfNums ((l0.take ((wrap64 (bt161.2.1 + (wrap64 (bt161.1)))) : Int).toNat).drop (bt161.2.1 : Int).toNat), wrap64 (bt161.2.1 + (wrap64 (bt161.1))), 0)) else (none)) else (none)) else (none))) else (some ((⟨#[]⟩ : ByteArray), 0, bt161.2.2)))) = some (r1, r2, r3) := h
 clear h
 replace H := Option.bind_eq_some_iff.mp H
 obtain ⟨⟨t161, t162, t163⟩, A30, H⟩ := H
 replace H : (if t163 = 0 then (if t161 > (IntKind.u64.wrap (wrap64 ((l0.length : Int) - t162))) then (some ((⟨#[]⟩ : ByteArray), 0, 10)) else (if 0 ≤ t162 then (if t162 ≤ (wrap64 (t162 + (wrap64 (t161)))) then (if (wrap64 (t162 + (wrap64 (t161)))) ≤ (l0.length : Int) then (some (strOfNums ((l0.take ((wrap64 (t162 + (wrap64 (t161)))) : Int).toNat).drop (t162 : Int).toNat), wrap64 (t162 + (wrap64 (t161))), 0)) else (none)) else (none)) else (none))) else (some ((⟨#[]⟩ : ByteArray), 0, t163))) = some (r1, r2, r3) := H
 have A3 := Aside0.mk A30
 clear A30
 by_cases c4 : t163 = 0
 ·rw [if_pos c4] at H
  have c4b0 : (t163 == 0) = true := beq_iff_eq.mpr c4
  have c4b1 : (t163 != 0) = false := bne_eq_false_iff_eq.mpr c4
  clear c4
  by_cases c5 : t161 > (IntKind.u64.wrap (wrap64 ((l0.length : Int) - t162)))
  ·rw [if_pos c5] at H
   have c5b0 : decide ((IntKind.u64.wrap (wrap64 ((l0.length : Int) - t162))) < t161) = true := decide_eq_true c5
   clear c5
   simp only [Option.some.injEq, Prod.mk.injEq] at H
   obtain ⟨rfl, rfl, rfl⟩ := H
   go_enter Try.func86, Try.ntmps86
   go_wp2_with (first | ((with_reducible refine gate_callee (f := 66) rfl ?_); refine goesL_ (some 13) rfl rfl Try.func66 (by kernel_rfl) rfl #[.slice A0 l0.length c0, .int .i64 a1] rfl (by (try simp only [List.map_toArray, List.map_cons, List.map_nil]); first | done | rfl | (simp only [List.length_drop, List.length_take]; rfl)) ?_; (with_reducible refine (varint_Get.calls k _ _ l0 a1 t161 t162 t163 _ ?side1 ?side2 A3.out).mono ?_); (case side1 => repeat (first | exact HR0.out | (with_reducible refine Kd.C_alloc ?_ _) | (with_reducible refine Kd.C_drewN ?_ _) | (with_reducible refine Kd.C_drew ?_))); (case side2 => exact HC0.out); rintro e w' ⟨rfl, ⟨nd, rfl⟩⟩; refine ⟨_, rfl, ?_⟩))
   go_ret3
   exact ⟨by first | rfl | (simp; done) | (simp [*]; done), by repeat (first | exact Drawn0.refl _ | apply Drawn0.step)⟩
  ·rw [if_neg c5] at H
   have c5b0 : decide ((IntKind.u64.wrap (wrap64 ((l0.length : Int) - t162))) < t161) = false := decide_eq_false c5
   clear c5
   by_cases c6 : 0 ≤ t162
   ·rw [if_pos c6] at H
    have c6b0 := eq_true c6
    have c6b1 : decide (0 ≤ t162) = true := decide_eq_true c6
    clear c6
    by_cases c7 : t162 ≤ (wrap64 (t162 + (wrap64 (t161))))
    ·rw [if_pos c7] at H
     have c7b0 := eq_true c7
     have c7b1 : decide (t162 ≤ (wrap64 (t162 + (wrap64 (t161))))) = true := decide_eq_true c7
     by_cases c8 : (wrap64 (t162 + (wrap64 (t161)))) ≤ (l0.length : Int)
     ·rw [if_pos c8] at H
      have c8b0 := eq_true c8
      have c8b1 : decide ((wrap64 (t162 + (wrap64 (t161)))) ≤ (l0.length : Int)) = true := decide_eq_true c8
      obtain ⟨y164, hy164⟩ : ∃ y_ : List Int, y_ = ((l0.take ((wrap64 (t162 + (wrap64 (t161)))) : Int).toNat).drop (t162 : Int).toNat) := ⟨_, rfl⟩
      replace H : (some (strOfNums y164, wrap64 (t162 + (wrap64 (t161))), 0)) = some (r1, r2, r3) := by first | (rw [hy164]; with_reducible exact H) | (have H2_ := (Option.bind_some _ _).symm.trans H; rw [hy164]; with_reducible exact H2_) | (have H2_ := (Option.bind_some _ _).symm.trans H; with_reducible exact H2_) | with_reducible exact H | (rw [hy164]; exact H) | exact H
      have Ny164 := Aside0.mk hy164
      clear hy164
      simp only [Option.some.injEq, Prod.mk.injEq] at H
      obtain ⟨rfl, rfl, rfl⟩ := H
      go_enter Try.func86, Try.ntmps86
      go_wp2_with (first | ((with_reducible refine gate_callee (f := 66) rfl ?_); refine goesL_ (some 13) rfl rfl Try.func66 (by kernel_rfl) rfl #[.slice A0 l0.length c0, .int .i64 a1] rfl (by (try simp only [List.map_toArray, List.map_cons, List.map_nil]); first | done | rfl | (simp only [List.length_drop, List.length_take]; rfl)) ?_; (with_reducible refine (varint_Get.calls k _ _ l0 a1 t161 t162 t163 _ ?side1 ?side2 A3.out).mono ?_); (case side1 => repeat (first | exact HR0.out | (with_reducible refine Kd.C_alloc ?_ _) | (with_reducible refine Kd.C_drewN ?_ _) | (with_reducible refine Kd.C_drew ?_))); (case side2 => exact HC0.out); rintro e w' ⟨rfl, ⟨nd, rfl⟩⟩; refine ⟨_, rfl, ?_⟩; have q9 : ((wrap64 (t162 + (wrap64 (t161)))) : Int) ≤ ((l0.length : Int) : Int) := of_decide_eq_true (by first | (with_reducible assumption) | assumption); obtain ⟨i09, hi09, _, hsz9, _⟩ := info_parts info5; have hroom9 : l0.length ≤ c0 := HC0.out; have hC9 : Kd.C (Kd.int .u8) _ A0 l0.length l0 := HR0.out; have ql9 : (t162 : Int) ≤ ((wrap64 (t162 + (wrap64 (t161)))) : Int) := of_decide_eq_true (by first | (with_reducible assumption) | assumption); have q09 : (0 : Int) ≤ (t162 : Int) := of_decide_eq_true (by first | (with_reducible assumption) | assumption); have hcut9 := cut_mid (P := Try.prog) 23 5 .i64 .i64 Try.underlying23 hi09 1 hsz9 A0 l0.length c0 t162 (wrap64 (t162 + (wrap64 (t161)))) q09 ql9 q9 hroom9; have hr9 := Kd.C_mid (lo := (t162 : Int).toNat) (hi := ((wrap64 (t162 + (wrap64 (t161)))) : Int).toNat) (c := c0) hC9 (by omega) (by omega) hroom9; obtain ⟨A9, hA9⟩ : ∃ A1, A1 = (if c0 = (t162 : Int).toNat then A0 else (A0 : Option Addr).map (·.add ((t162 : Int).toNat * 1))) := ⟨_, rfl⟩; obtain ⟨c9, hc9⟩ : ∃ c1, c1 = c0 - (t162 : Int).toNat := ⟨_, rfl⟩; have hy9 : y164.length = ((wrap64 (t162 + (wrap64 (t161)))) : Int).toNat - (t162 : Int).toNat := (by rw [Ny164.out, List.length_drop, List.length_take] <;> omega); rw [show ((l0).take ((wrap64 (t162 + (wrap64 (t161)))) : Int).toNat).drop (t162 : Int).toNat = y164 from Ny164.out.symm] at hr9; replace hr9 : Kd.C (Kd.int .u8) _ A9 y164.length y164 := (by rw [hA9]; exact hr9); rw [← hy9, ← hA9, ← hc9] at hcut9; have HR167 := Aside0.mk hr9; have HC167 := Aside0.mk (show y164.length ≤ c9 from by rw [hy9, hc9]; exact Nat.sub_le_sub_right (Nat.le_trans (by omega) hroom9) _); clear hr9 hC9 hroom9 hi09 hsz9 hc9; have KY9 := Aside0.mk hy9; have KA9 := Aside0.mk hA9; clear hy9 hA9; replace q9 := eq_true q9; have hcv10 := Kd.C_string (P := Try.prog) (A := A9) (c := c9) Try.underlying23 Try.underlying5 Try.underlying9 HR167.out; (try have hcv11 := fun m_ : Nat => Kd.C_string (P := Try.prog) (A := A9) (c := c9) Try.underlying23 Try.underlying5 Try.underlying9 (Kd.C_drewN HR167.out m_))))
      go_ret3
      exact ⟨by first | rfl | (simp; done) | (simp [*]; done), by repeat (first | exact Drawn0.refl _ | apply Drawn0.step)⟩
     ·rw [if_neg c8] at H
      exact absurd H (by simp)
    ·rw [if_neg c7] at H
     exact absurd H (by simp)
   ·rw [if_neg c6] at H
    exact absurd H (by simp)
 ·rw [if_neg c4] at H
  have c4b0 : (t163 == 0) = false := beq_eq_false_iff_ne.mpr c4
  have c4b1 : (t163 != 0) = true := bne_iff_ne.mpr c4
  simp only [Option.some.injEq, Prod.mk.injEq] at H
  obtain ⟨rfl, rfl, rfl⟩ := H
  go_enter Try.func86, Try.ntmps86
  go_wp2_with (first | ((with_reducible refine gate_callee (f := 66) rfl ?_); refine goesL_ (some 13) rfl rfl Try.func66 (by kernel_rfl) rfl #[.slice A0 l0.length c0, .int .i64 a1] rfl (by (try simp only [List.map_toArray, List.map_cons, List.map_nil]); first | done | rfl | (simp only [List.length_drop, List.length_take]; rfl)) ?_; (with_reducible refine (varint_Get.calls k _ _ l0 a1 t161 t162 t163 _ ?side1 ?side2 A3.out).mono ?_); (case side1 => repeat (first | exact HR0.out | (with_reducible refine Kd.C_alloc ?_ _) | (with_reducible refine Kd.C_drewN ?_ _) | (with_reducible refine Kd.C_drew ?_))); (case side2 => exact HC0.out); rintro e w' ⟨rfl, ⟨nd, rfl⟩⟩; refine ⟨_, rfl, ?_⟩))
  go_ret3
  exact ⟨by first | rfl | (simp; done) | (simp [*]; done), by repeat (first | exact Drawn0.refl _ | apply Drawn0.step)⟩

end Go.Proofs.Ytefpnnljflcmbaa.PRe
