-- Written by a program of this session (wip/tool), which goes by the kit's print.
import Derived.Test.YtefpnnljflcmbaaPRex0
import Derived.Test.YtefpnnljflcmbaaPRex2
import Derived.Test.YtefpnnljflcmbaaPRex7
import Derived.Test.YtefpnnljflcmbaaPRex12
import Derived.Test.YtefpnnljflcmbaaPRex13
import Derived.Test.YtefpnnljflcmbaaPRex16
import Derived.Test.YtefpnnljflcmbaaPRex20
import Derived.Test.YtefpnnljflcmbaaPRex21
import Derived.Test.YtefpnnljflcmbaaPRex22
import Derived.Test.YtefpnnljflcmbaaPRex24
namespace Go.Proofs.Ytefpnnljflcmbaa.PRe
open Go.RowKit Go.Proofs.YtefpnnljflcmbaaW.PrintWords Go.Proofs.YtefpnnljflcmbaaW.PrintLast Go.Proofs.YtefpnnljflcmbaaW.PrintMore
attribute [local go_sem] max2_int min2_int max_two min_two max_three min_three max_four min_four   -- for this text's walks alone
set_option linter.unusedVariables false
set_option linter.unusedSimpArgs false

/-! ### hindsightlaw03_RecordBytes: function 3 -/
theorem aM3 : type_of% @Aside0.mk := @Aside0.mk
mutual
def hindsightlaw03_RecordBytes.j0 : Nat → List (S35) → List (S35) → List Int → Bool → Option (Bool)
 | 0, _, _, _, _ => none
 | k + 1, x0, x1, x2, x27 => if x27 = true then ((hindsightlaw03_alive.f k).bind fun t310 => (some t310)) else ((record_Write.f k x0).bind fun bt311 => ((hindsightref03_Write.f k x0).bind fun bt315 => ((some (([] : List Int) : List Int)).bind fun y319 => (if y319.length + x2.length < 140737488355328 then ((some (y319 ++ x2 : List Int)).bind fun y322 => ((record_Read.f k y322).bind fun bt325 => (hindsightlaw03_RecordBytes.l0 k x0 x1 x2 bt311.1 bt311.2 bt315.1 bt315.2 y322 bt325.1 bt325.2 0))) else (none)))))
def hindsightlaw03_RecordBytes.l0 : Nat → List (S35) → List (S35) → List Int → List Int → Int → List Int → Int → List Int → List (S35) → Int → Int → Option (Bool)
 | 0, _, _, _, _, _, _, _, _, _, _, _ => none
 | k + 1, x0, x1, x2, x7, x8, x9, x10, x11, x12, x13, x14 => if x14 < (x11.length : Int) then (if 0 ≤ x14 then (hindsightlaw03_RecordBytes.l0 k x0 x1 x2 x7 x8 x9 x10 (x11.set (x14 : Int).toNat (Go.bits .xor .u8 (rd x11 x14) 255)) x12 x13 (wrap64 (x14 + 1))) else (none)) else ((hindsightref03_Read.f k x2).bind fun bt331 => ((hindsightlaw03_alive.f k).bind fun t335 => (if t335 = true then (if (strOfNums x7).toList = (strOfNums x9).toList then (if x8 = x10 then ((hindsightref03_Same.f k x12 bt331.1).bind fun t336 => (if t336 = true then (if x13 = bt331.2 then ((record_Right.f k x0).bind fun t337 => (if (t337 == (x10 == 0)) = true then ((record_Same.f k x0 x1).bind fun t338 => ((hindsightref03_Same.f k x0 x1).bind fun t339 => (some (t338 == t339)))) else (none))) else (none)) else (none))) else (none)) else (none)) else (none))))
end
def hindsightlaw03_RecordBytes.f (k : Nat) (l0 : List (S35)) (l1 : List (S35)) (l2 : List Int) : Option (Bool) := (hindsightlaw03_Great.f k l0).bind fun t308 => (if t308 = true then (hindsightlaw03_RecordBytes.j0 k l0 l1 l2 true) else ((hindsightlaw03_Great.f k l1).bind fun t309 => (if t309 = true then (hindsightlaw03_RecordBytes.j0 k l0 l1 l2 true) else (hindsightlaw03_RecordBytes.j0 k l0 l1 l2 (decide ((l2.length : Int) > 9000))))))
theorem hindsightlaw03_RecordBytes.mono_l : ∀ k, (∀ y0 y1 y2 y3, LeO (hindsightlaw03_RecordBytes.j0 k y0 y1 y2 y3) (hindsightlaw03_RecordBytes.j0 (k + 1) y0 y1 y2 y3)) ∧ (∀ y0 y1 y2 y3 y4 y5 y6 y7 y8 y9 y10, LeO (hindsightlaw03_RecordBytes.l0 k y0 y1 y2 y3 y4 y5 y6 y7 y8 y9 y10) (hindsightlaw03_RecordBytes.l0 (k + 1) y0 y1 y2 y3 y4 y5 y6 y7 y8 y9 y10))
 | 0 => ⟨fun _ _ _ _ r h => by simp [hindsightlaw03_RecordBytes.j0] at h, fun _ _ _ _ _ _ _ _ _ _ _ r h => by simp [hindsightlaw03_RecordBytes.l0] at h⟩
 | k + 1 => by
  obtain ⟨ih0, ih1⟩ := hindsightlaw03_RecordBytes.mono_l k
  refine ⟨?_, ?_⟩
  ·intro y0 y1 y2 y3
   unfold hindsightlaw03_RecordBytes.j0
   repeat' first
   | (with_reducible exact ih0 _ _ _ _)
   | (with_reducible exact ih1 _ _ _ _ _ _ _ _ _ _ _)
   | (with_reducible exact hindsightlaw03_Great.mono _ _)
   | (with_reducible exact hindsightlaw03_alive.mono _)
   | (with_reducible exact hindsightref03_Read.mono _ _)
   | (with_reducible exact hindsightref03_Same.mono _ _ _)
   | (with_reducible exact hindsightref03_Write.mono _ _)
   | (with_reducible exact record_Read.mono _ _)
   | (with_reducible exact record_Right.mono _ _)
   | (with_reducible exact record_Same.mono _ _ _)
   | (with_reducible exact record_Write.mono _ _)
   | (with_reducible exact LeO.refl _)
   | (with_reducible exact LeO.none _)
   | (with_reducible refine LeO.ite ?_ ?_)
   | (with_reducible refine LeO.bind ?_ (fun _ => ?_))
   | exact ih0 _ _ _ _
   | exact ih1 _ _ _ _ _ _ _ _ _ _ _
   | exact hindsightlaw03_Great.mono _ _
   | exact hindsightlaw03_alive.mono _
   | exact hindsightref03_Read.mono _ _
   | exact hindsightref03_Same.mono _ _ _
   | exact hindsightref03_Write.mono _ _
   | exact record_Read.mono _ _
   | exact record_Right.mono _ _
   | exact record_Same.mono _ _ _
   | exact record_Write.mono _ _
   | exact LeO.none _
   | refine LeO.ite ?_ ?_
   | refine LeO.bind ?_ (fun _ => ?_)
  ·intro y0 y1 y2 y3 y4 y5 y6 y7 y8 y9 y10
   unfold hindsightlaw03_RecordBytes.l0
   repeat' first
   | (with_reducible exact ih0 _ _ _ _)
   | (with_reducible exact ih1 _ _ _ _ _ _ _ _ _ _ _)
   | (with_reducible exact hindsightlaw03_Great.mono _ _)
   | (with_reducible exact hindsightlaw03_alive.mono _)
   | (with_reducible exact hindsightref03_Read.mono _ _)
   | (with_reducible exact hindsightref03_Same.mono _ _ _)
   | (with_reducible exact hindsightref03_Write.mono _ _)
   | (with_reducible exact record_Read.mono _ _)
   | (with_reducible exact record_Right.mono _ _)
   | (with_reducible exact record_Same.mono _ _ _)
   | (with_reducible exact record_Write.mono _ _)
   | (with_reducible exact LeO.refl _)
   | (with_reducible exact LeO.none _)
   | (with_reducible refine LeO.ite ?_ ?_)
   | (with_reducible refine LeO.bind ?_ (fun _ => ?_))
   | exact ih0 _ _ _ _
   | exact ih1 _ _ _ _ _ _ _ _ _ _ _
   | exact hindsightlaw03_Great.mono _ _
   | exact hindsightlaw03_alive.mono _
   | exact hindsightref03_Read.mono _ _
   | exact hindsightref03_Same.mono _ _ _
   | exact hindsightref03_Write.mono _ _
   | exact record_Read.mono _ _
   | exact record_Right.mono _ _
   | exact record_Same.mono _ _ _
   | exact record_Write.mono _ _
   | exact LeO.none _
   | refine LeO.ite ?_ ?_
   | refine LeO.bind ?_ (fun _ => ?_)
theorem hindsightlaw03_RecordBytes.mono : ∀ a0 a1 a2 k, LeO (hindsightlaw03_RecordBytes.f k a0 a1 a2) (hindsightlaw03_RecordBytes.f (k + 1) a0 a1 a2) := by
 intro a0 a1 a2 k
 obtain ⟨ih0, ih1⟩ := hindsightlaw03_RecordBytes.mono_l k
 unfold hindsightlaw03_RecordBytes.f
 repeat' first
   | (with_reducible exact ih0 _ _ _ _)
   | (with_reducible exact ih1 _ _ _ _ _ _ _ _ _ _ _)
   | (with_reducible exact hindsightlaw03_Great.mono _ _)
   | (with_reducible exact hindsightlaw03_alive.mono _)
   | (with_reducible exact hindsightref03_Read.mono _ _)
   | (with_reducible exact hindsightref03_Same.mono _ _ _)
   | (with_reducible exact hindsightref03_Write.mono _ _)
   | (with_reducible exact record_Read.mono _ _)
   | (with_reducible exact record_Right.mono _ _)
   | (with_reducible exact record_Same.mono _ _ _)
   | (with_reducible exact record_Write.mono _ _)
   | (with_reducible exact LeO.refl _)
   | (with_reducible exact LeO.none _)
   | (with_reducible refine LeO.ite ?_ ?_)
   | (with_reducible refine LeO.bind ?_ (fun _ => ?_))
   | exact ih0 _ _ _ _
   | exact ih1 _ _ _ _ _ _ _ _ _ _ _
   | exact hindsightlaw03_Great.mono _ _
   | exact hindsightlaw03_alive.mono _
   | exact hindsightref03_Read.mono _ _
   | exact hindsightref03_Same.mono _ _ _
   | exact hindsightref03_Write.mono _ _
   | exact record_Read.mono _ _
   | exact record_Right.mono _ _
   | exact record_Same.mono _ _ _
   | exact record_Write.mono _ _
   | exact LeO.none _
   | refine LeO.ite ?_ ?_
   | refine LeO.bind ?_ (fun _ => ?_)
set_option maxHeartbeats 8000000 in
set_option maxRecDepth 100000 in
theorem hindsightlaw03_RecordBytes.calls (k : Nat) (A0 : Option Addr) (c0 : Nat) (l0 : List (S35)) (A1 : Option Addr) (c1 : Nat) (l1 : List (S35)) (A2 : Option Addr) (c2 : Nat) (l2 : List Int) (r : Bool) (w : World) (hr0 : Kd.C k35 w A0 l0.length l0) (hc0 : l0.length ≤ c0) (hr1 : Kd.C k35 w A1 l1.length l1) (hc1 : l1.length ≤ c1) (hr2 : Kd.C (Kd.int .u8) w A2 l2.length l2) (hc2 : l2.length ≤ c2) (h : hindsightlaw03_RecordBytes.f k l0 l1 l2 = some r) :
  Calls Try.prog 3 #[.slice A0 l0.length c0, .slice A1 l1.length c1, .slice A2 l2.length c2] w fun e w' => e = .returned (.bool r) ∧ Below w.heap.size w w' := by
 have HR0 := aM3 hr0
 have HC0 := aM3 hc0
 clear hr0 hc0
 have HR1 := aM3 hr1
 have HC1 := aM3 hc1
 clear hr1 hc1
 have HR2 := aM3 hr2
 have HC2 := aM3 hc2
 clear hr2 hc2
 have HB := aM3 (Below.refl w.heap.size w)
 have H : ((hindsightlaw03_Great.f k l0).bind fun t308 => (if t308 = true then (hindsightlaw03_RecordBytes.j0 k l0 l1 l2 true) else ((hindsightlaw03_Great.f k l1).bind fun t309 => (if t309 = true then (hindsightlaw03_RecordBytes.j0 k l0 l1 l2 true) else (hindsightlaw03_RecordBytes.j0 k l0 l1 l2 (decide ((l2.length : Int) > 9000))))))) = some r := h
 clear h
 have HC4 := aM3 H
 clear H
 go_enter Try.func3, Try.ntmps3
 go_upto_region 1 with (fail)
 go_cut [27] (fun v27 wc => ∃ (kq : Nat) (x27_3 : Bool), v27 = .bool x27_3 ∧ Aside0 (hindsightlaw03_RecordBytes.j0 kq l0 l1 l2 x27_3 = some r) ∧ Aside0 (kq ≤ k) ∧ Aside0 (Below w.heap.size w wc))
 case first =>
  have H := HC4.out
  clear HC4
  replace H := Option.bind_eq_some_iff.mp H
  obtain ⟨t308, A50, H⟩ := H
  replace H : (if t308 = true then (hindsightlaw03_RecordBytes.j0 k l0 l1 l2 true) else ((hindsightlaw03_Great.f k l1).bind fun t309 => (if t309 = true then (hindsightlaw03_RecordBytes.j0 k l0 l1 l2 true) else (hindsightlaw03_RecordBytes.j0 k l0 l1 l2 (decide ((l2.length : Int) > 9000)))))) = some r := H
  have A5 := aM3 A50
  clear A50
  by_cases c6 : t308 = true
  ·subst c6
   have H1 : (hindsightlaw03_RecordBytes.j0 k l0 l1 l2 true) = some r := by rw [if_pos rfl] at H; exact H
   clear H
   have H := H1
   clear H1
   have H' := aM3 H
   clear H
   go_wp2_with (first | ((with_reducible refine gate_callee (f := 14) rfl ?_); refine goesL_ (some 18) rfl rfl Try.func14 (by kernel_rfl) rfl #[.slice A0 l0.length c0] rfl (by (try simp only [List.map_toArray, List.map_cons, List.map_nil]); first | done | rfl | (simp only [List.length_drop, List.length_take]; rfl)) ?_; (with_reducible refine (hindsightlaw03_Great.calls k _ _ l0 true _ ?side1 ?side2 A5.out).mono ?_); (case side1 => repeat (first | exact (Kd.C_below HR0.out HB.out) | (with_reducible refine Kd.C_alloc ?_ _) | (with_reducible refine Kd.C_drewN ?_ _) | (with_reducible refine Kd.C_drew ?_))); (case side2 => exact HC0.out); rintro e w' ⟨rfl, ⟨nd, rfl⟩⟩; refine ⟨_, rfl, ?_⟩))
   go_meet
   case rel => exact ⟨_, (true), (by first | rfl | (simp; done) | (simp [*]; done)), H', ⟨by first | omega | exact Nat.le_refl _⟩, ⟨by repeat (first | (with_reducible first | exact HB.out | apply below_alloc | apply pw_below_drewN | apply below_drew1) | exact HB.out)⟩⟩
  ·replace c6 := Bool.eq_false_iff.mpr c6
   subst c6
   have H1 : ((hindsightlaw03_Great.f k l1).bind fun t309 => (if t309 = true then (hindsightlaw03_RecordBytes.j0 k l0 l1 l2 true) else (hindsightlaw03_RecordBytes.j0 k l0 l1 l2 (decide ((l2.length : Int) > 9000))))) = some r := by rw [if_neg (show ¬ (false = true) by decide)] at H; exact H
   clear H
   have H := H1
   clear H1
   replace H := Option.bind_eq_some_iff.mp H
   obtain ⟨t309, A70, H⟩ := H
   replace H : (if t309 = true then (hindsightlaw03_RecordBytes.j0 k l0 l1 l2 true) else (hindsightlaw03_RecordBytes.j0 k l0 l1 l2 (decide ((l2.length : Int) > 9000)))) = some r := H
   have A7 := aM3 A70
   clear A70
   by_cases c8 : t309 = true
   ·subst c8
    have H1 : (hindsightlaw03_RecordBytes.j0 k l0 l1 l2 true) = some r := by rw [if_pos rfl] at H; exact H
    clear H
    have H := H1
    clear H1
    have H' := aM3 H
    clear H
    go_wp2_with (first | ((with_reducible refine gate_callee (f := 14) rfl ?_); refine goesL_ (some 18) rfl rfl Try.func14 (by kernel_rfl) rfl #[.slice A0 l0.length c0] rfl (by (try simp only [List.map_toArray, List.map_cons, List.map_nil]); first | done | rfl | (simp only [List.length_drop, List.length_take]; rfl)) ?_; (with_reducible refine (hindsightlaw03_Great.calls k _ _ l0 false _ ?side1 ?side2 A5.out).mono ?_); (case side1 => repeat (first | exact (Kd.C_below HR0.out HB.out) | (with_reducible refine Kd.C_alloc ?_ _) | (with_reducible refine Kd.C_drewN ?_ _) | (with_reducible refine Kd.C_drew ?_))); (case side2 => exact HC0.out); rintro e w' ⟨rfl, ⟨nd, rfl⟩⟩; refine ⟨_, rfl, ?_⟩) | (go_at_call 14; (with_reducible refine (hindsightlaw03_Great.calls k _ _ l1 true _ ?side1 ?side2 A7.out).mono ?_); (case side1 => repeat (first | exact (Kd.C_below HR1.out (by repeat (first | (with_reducible first | exact HB.out | apply below_alloc | apply pw_below_drewN | apply below_drew1) | exact HB.out))) | (with_reducible refine Kd.C_alloc ?_ _) | (with_reducible refine Kd.C_drewN ?_ _) | (with_reducible refine Kd.C_drew ?_))); (case side2 => exact HC1.out); rintro e w' ⟨rfl, ⟨nd, rfl⟩⟩))
    go_meet
    case rel => exact ⟨_, (true), (by first | rfl | (simp; done) | (simp [*]; done)), H', ⟨by first | omega | exact Nat.le_refl _⟩, ⟨by repeat (first | (with_reducible first | exact HB.out | apply below_alloc | apply pw_below_drewN | apply below_drew1) | exact HB.out)⟩⟩
   ·replace c8 := Bool.eq_false_iff.mpr c8
    subst c8
    have H1 : (hindsightlaw03_RecordBytes.j0 k l0 l1 l2 (decide ((l2.length : Int) > 9000))) = some r := by rw [if_neg (show ¬ (false = true) by decide)] at H; exact H
    clear H
    have H := H1
    clear H1
    have H' := aM3 H
    clear H
    go_wp2_with (first | ((with_reducible refine gate_callee (f := 14) rfl ?_); refine goesL_ (some 18) rfl rfl Try.func14 (by kernel_rfl) rfl #[.slice A0 l0.length c0] rfl (by (try simp only [List.map_toArray, List.map_cons, List.map_nil]); first | done | rfl | (simp only [List.length_drop, List.length_take]; rfl)) ?_; (with_reducible refine (hindsightlaw03_Great.calls k _ _ l0 false _ ?side1 ?side2 A5.out).mono ?_); (case side1 => repeat (first | exact (Kd.C_below HR0.out HB.out) | (with_reducible refine Kd.C_alloc ?_ _) | (with_reducible refine Kd.C_drewN ?_ _) | (with_reducible refine Kd.C_drew ?_))); (case side2 => exact HC0.out); rintro e w' ⟨rfl, ⟨nd, rfl⟩⟩; refine ⟨_, rfl, ?_⟩) | (go_at_call 14; (with_reducible refine (hindsightlaw03_Great.calls k _ _ l1 false _ ?side1 ?side2 A7.out).mono ?_); (case side1 => repeat (first | exact (Kd.C_below HR1.out (by repeat (first | (with_reducible first | exact HB.out | apply below_alloc | apply pw_below_drewN | apply below_drew1) | exact HB.out))) | (with_reducible refine Kd.C_alloc ?_ _) | (with_reducible refine Kd.C_drewN ?_ _) | (with_reducible refine Kd.C_drew ?_))); (case side2 => exact HC1.out); rintro e w' ⟨rfl, ⟨nd, rfl⟩⟩))
    go_meet
    case rel => exact ⟨_, (decide ((l2.length : Int) > 9000)), (by first | rfl | (simp; done) | (simp [*]; done)), H', ⟨by first | omega | exact Nat.le_refl _⟩, ⟨by repeat (first | (with_reducible first | exact HB.out | apply below_alloc | apply pw_below_drewN | apply below_drew1) | exact HB.out)⟩⟩
 case rest =>
  clear HC4
  try clear c1
  try clear c2
  try clear p2
  try clear c3
  try clear c6
  try clear c8
  obtain ⟨kq, x27_3, rfl, HA, HJ3, HB⟩ := hcut
  cases kq with
  | zero => exact absurd HA.out (by simp [hindsightlaw03_RecordBytes.j0])
  | succ kj3 =>
   have H := HA.out
   clear HA
   simp only [hindsightlaw03_RecordBytes.j0] at H
   by_cases c9 : x27_3 = true
   ·subst c9
    have H1 : ((hindsightlaw03_alive.f kj3).bind fun t310 => (some t310)) = some r := by rw [if_pos rfl] at H; exact H
    clear H
    have H := H1
    clear H1
    replace H := Option.bind_eq_some_iff.mp H
    obtain ⟨t310, A100, H⟩ := H
    replace H : (some t310) = some r := H
    have A10 := aM3 A100
    clear A100
    obtain rfl := Option.some.inj H
    go_wp2_with (first | ((with_reducible refine gate_callee (f := 15) rfl ?_); refine goesL_ (some 28) rfl rfl Try.func15 (by kernel_rfl) rfl #[] rfl (by (try simp only [List.map_toArray, List.map_cons, List.map_nil]); first | done | rfl | (simp only [List.length_drop, List.length_take]; rfl)) ?_; (with_reducible refine (hindsightlaw03_alive.calls kj3  t310 _ A10.out).mono ?_); rintro e w11 ⟨rfl, hb⟩; refine ⟨_, rfl, ?_⟩; have n0_ := aM3 (below_step (by repeat (first | (with_reducible first | exact HB.out | apply below_alloc | apply pw_below_drewN | apply below_drew1) | exact HB.out)) hb); clear HB; have HB := n0_; clear n0_; (try clear hb); (try clear hb2); (try clear hk); (try clear hi)))
    go_ret
    exact ⟨by first | rfl | (simp [errW_none, errW_some] <;> rfl) | (simp [*, errW_none, errW_some] <;> rfl), by repeat (first | (with_reducible first | exact HB.out | apply below_alloc | apply pw_below_drewN | apply below_drew1) | exact HB.out)⟩
   ·replace c9 := Bool.eq_false_iff.mpr c9
    subst c9
    have H1 : ((record_Write.f kj3 l0).bind fun bt311 => ((hindsightref03_Write.f kj3 l0).bind fun bt315 => ((some (([] : List Int) : List Int)).bind fun y319 => (if y319.length + l2.length < 140737488355328 then ((some (y319 ++ l2 : List Int)).bind fun y322 => ((record_Read.f kj3 y322).bind fun bt325 => (hindsightlaw03_RecordBytes.l0 kj3 l0 l1 l2 bt311.1 bt311.2 bt315.1 bt315.2 y322 bt325.1 bt325.2 0))) else (none))))) = some r := by rw [if_neg (show ¬ (false = true) by decide)] at H; exact H
    clear H
    have H := H1
    clear H1
    replace H := Option.bind_eq_some_iff.mp H
    obtain ⟨⟨t311, t312⟩, A120, H⟩ := H
    replace H : ((hindsightref03_Write.f kj3 l0).bind fun bt315 => ((some (([] : List Int) : List Int)).bind fun y319 => (if y319.length + l2.length < 140737488355328 then ((some (y319 ++ l2 : List Int)).bind fun y322 => ((record_Read.f kj3 y322).bind fun bt325 => (hindsightlaw03_RecordBytes.l0 kj3 l0 l1 l2 t311 t312 bt315.1 bt315.2 y322 bt325.1 bt325.2 0))) else (none)))) = some r := H
    have A12 := aM3 A120
    clear A120
    replace H := Option.bind_eq_some_iff.mp H
    obtain ⟨⟨t315, t316⟩, A130, H⟩ := H
    replace H : ((some (([] : List Int) : List Int)).bind fun y319 => (if y319.length + l2.length < 140737488355328 then ((some (y319 ++ l2 : List Int)).bind fun y322 => ((record_Read.f kj3 y322).bind fun bt325 => (hindsightlaw03_RecordBytes.l0 kj3 l0 l1 l2 t311 t312 t315 t316 y322 bt325.1 bt325.2 0))) else (none))) = some r := H
    have A13 := aM3 A130
    clear A130
    obtain ⟨y319, hy319⟩ : ∃ y_ : List Int, y_ = (([] : List Int)) := ⟨_, rfl⟩
    replace H : (if y319.length + l2.length < 140737488355328 then ((some (y319 ++ l2 : List Int)).bind fun y322 => ((record_Read.f kj3 y322).bind fun bt325 => (hindsightlaw03_RecordBytes.l0 kj3 l0 l1 l2 t311 t312 t315 t316 y322 bt325.1 bt325.2 0))) else (none)) = some r := by first | (rw [hy319]; with_reducible exact H) | (have H2_ := (Option.bind_some _ _).symm.trans H; rw [hy319]; with_reducible exact H2_) | (have H2_ := (Option.bind_some _ _).symm.trans H; with_reducible exact H2_) | with_reducible exact H | (rw [hy319]; exact H) | exact H
    have Ny319 := aM3 hy319
    clear hy319
    by_cases c14 : y319.length + l2.length < 140737488355328
    ·rw [if_pos c14] at H
     have LMc14 := aM3 c14
     clear c14
     obtain ⟨y322, hy322⟩ : ∃ y_ : List Int, y_ = (y319 ++ l2) := ⟨_, rfl⟩
     replace H : ((record_Read.f kj3 y322).bind fun bt325 => (hindsightlaw03_RecordBytes.l0 kj3 l0 l1 l2 t311 t312 t315 t316 y322 bt325.1 bt325.2 0)) = some r := by first | (rw [hy322]; with_reducible exact H) | (have H2_ := (Option.bind_some _ _).symm.trans H; rw [hy322]; with_reducible exact H2_) | (have H2_ := (Option.bind_some _ _).symm.trans H; with_reducible exact H2_) | with_reducible exact H | (rw [hy322]; exact H) | exact H
     have Ny322 := aM3 hy322
     clear hy322
     replace H := Option.bind_eq_some_iff.mp H
     obtain ⟨⟨t325, t326⟩, A150, H⟩ := H
     replace H : (hindsightlaw03_RecordBytes.l0 kj3 l0 l1 l2 t311 t312 t315 t316 y322 t325 t326 0) = some r := H
     have A15 := aM3 A150
     clear A150
     have H' := aM3 H
     clear H
     go_wp2_with (first | ((with_reducible refine gate_callee (f := 16) rfl ?_); refine goesL_ (some 31) rfl rfl Try.func16 (by kernel_rfl) rfl #[.slice A0 l0.length c0] rfl (by (try simp only [List.map_toArray, List.map_cons, List.map_nil]); first | done | rfl | (simp only [List.length_drop, List.length_take]; rfl)) ?_; (with_reducible refine (record_Write.calls kj3 _ _ l0 t311 t312 _ ?side1 ?side2 A12.out).mono ?_); (case side1 => repeat (first | exact (Kd.C_below HR0.out HB.out) | (with_reducible refine Kd.C_alloc ?_ _) | (with_reducible refine Kd.C_drewN ?_ _) | (with_reducible refine Kd.C_drew ?_))); (case side2 => exact HC0.out); rintro e w16 ⟨v313, rfl, ho0, hb⟩; refine ⟨_, rfl, ?_⟩; have n0_ := aM3 (Kd.R_lower ho0 (below_size (by repeat (first | (with_reducible first | exact HB.out | apply below_alloc | apply pw_below_drewN | apply below_drew1) | exact HB.out)))); have n1_ := aM3 (below_step (by repeat (first | (with_reducible first | exact HB.out | apply below_alloc | apply pw_below_drewN | apply below_drew1) | exact HB.out)) hb); clear HB; have HO314 := n0_; have HB := n1_; clear n0_ n1_; (try clear hb); (try clear hb2); (try clear hk); (try clear hi); (try clear ho0)) | ((with_reducible refine gate_callee (f := 17) rfl ?_); refine goesL_ (some 36) rfl rfl Try.func17 (by kernel_rfl) rfl #[.slice A0 l0.length c0] rfl (by (try simp only [List.map_toArray, List.map_cons, List.map_nil]); first | done | rfl | (simp only [List.length_drop, List.length_take]; rfl)) ?_; (with_reducible refine (hindsightref03_Write.calls kj3 _ _ l0 t315 t316 _ ?side1 ?side2 A13.out).mono ?_); (case side1 => repeat (first | exact (Kd.C_below HR0.out HB.out) | (with_reducible refine Kd.C_alloc ?_ _) | (with_reducible refine Kd.C_drewN ?_ _) | (with_reducible refine Kd.C_drew ?_))); (case side2 => exact HC0.out); rintro e w17 ⟨v317, rfl, ho0, hb⟩; refine ⟨_, rfl, ?_⟩; have n0_ := aM3 (Kd.R_elder' (by (with_reducible repeat (first | apply Kd.R_alloc | apply Kd.R_drewN | apply Kd.R_drew)); exact HO314.out) (Kd.R_base ho0) hb); have n1_ := aM3 (Kd.R_lower (Kd.R_new' ho0 (Kd.R_lt (by (with_reducible repeat (first | apply Kd.R_alloc | apply Kd.R_drewN | apply Kd.R_drew)); exact HO314.out))) (below_size (by repeat (first | (with_reducible first | exact HB.out | apply below_alloc | apply pw_below_drewN | apply below_drew1) | exact HB.out)))); have n2_ := aM3 (below_step (by repeat (first | (with_reducible first | exact HB.out | apply below_alloc | apply pw_below_drewN | apply below_drew1) | exact HB.out)) hb); clear HO314; clear HB; have HO314 := n0_; have HO318 := n1_; have HB := n2_; clear n0_ n1_ n2_; (try clear hb); (try clear hb2); (try clear hk); (try clear hi); (try clear ho0)) | ((with_reducible refine gate_dst (N := 39) rfl ?_); (try (refine gate_guard (by rfl) ?_; dsimp only)); refine Kd.R_lit (Kd.int .u8) _ 5 ?hg (N := 39) ?hd (xs := ([] : List Int)) (inner := []) (ok := fun _ => True) (okp := fun _ => True) ?hr ?hp (fun _ hk => hk) trivial (Below.refl _ _) (Nat.le_refl _) (by simp) ?_; (case hd => rfl); (case hg => rfl); (case hr => first | (go_simp; done) | (go_simp; rfl)); (case hp => exact (Reps.none _ _)); intro v320 w18 ho19 hb hg_ hnew_; clear hg_ hnew_; (first | rw [← Ny319.out] at ho19 | (simp only [Int.reduceToNat] at ho19; rw [← Ny319.out] at ho19)); have n0_ := aM3 (Kd.R_elder' (by (with_reducible repeat (first | apply Kd.R_alloc | apply Kd.R_drewN | apply Kd.R_drew)); exact HO314.out) (Kd.R_base ho19) hb); have n1_ := aM3 (Kd.R_elder' (by (with_reducible repeat (first | apply Kd.R_alloc | apply Kd.R_drewN | apply Kd.R_drew)); exact HO318.out) (Kd.R_base ho19) hb); have n2_ := aM3 (Kd.R_lower (Kd.R_new' (Kd.R_new' ho19 (Kd.R_lt (by (with_reducible repeat (first | apply Kd.R_alloc | apply Kd.R_drewN | apply Kd.R_drew)); exact HO314.out))) (Kd.R_lt (by (with_reducible repeat (first | apply Kd.R_alloc | apply Kd.R_drewN | apply Kd.R_drew)); exact HO318.out))) (below_size (by repeat (first | (with_reducible first | exact HB.out | apply below_alloc | apply pw_below_drewN | apply below_drew1) | exact HB.out)))); have n3_ := aM3 (below_step (by repeat (first | (with_reducible first | exact HB.out | apply below_alloc | apply pw_below_drewN | apply below_drew1) | exact HB.out)) hb); clear HO314; clear HO318; clear HB; have HO314 := n0_; have HO318 := n1_; have HO321 := n2_; have HB := n3_; clear n0_ n1_ n2_ n3_; clear hb ho19) | ((with_reducible refine gate_builtin (b := .append) (xs := #[.tmp 39, .tmp 40]) rfl ?_); (try (refine gate_guard (by rfl) ?_; dsimp only)); at_builtin; refine Kd.R_append_rows (Kd.int .u8) (w0 := w) w.heap.size rfl (.tmp 39) (.tmp 40) 23 5 (.int .u8 0) 1 rfl Try.underlying23 info5 rfl (by decide) (by omega) v320 y319 l2 _ _ _ (fun k_ => some k_ ≠ (v313 : Value).ownBlock ∧ some k_ ≠ (v317 : Value).ownBlock) (fun _ => False) rfl rfl ?aO ?aR (fun _ _ h => h) (fun _ h => h.elim) ?aF ?aB ?aS ?aL ?_; (case aR => repeat (first | exact (Kd.C_below HR2.out HB.out) | (with_reducible refine Kd.C_alloc ?_ _) | (with_reducible refine Kd.C_drewN ?_ _) | (with_reducible refine Kd.C_drew ?_))); (case aB => exact (by repeat (first | (with_reducible first | exact HB.out | apply below_alloc | apply pw_below_drewN | apply below_drew1) | exact HB.out))); (case aF => exact (fun k_ hk => ⟨Kd.fresh' (Kd.R_lt (by (with_reducible repeat (first | apply Kd.R_alloc | apply Kd.R_drewN | apply Kd.R_drew)); exact HO314.out)) k_ hk, Kd.fresh' (Kd.R_lt (by (with_reducible repeat (first | apply Kd.R_alloc | apply Kd.R_drewN | apply Kd.R_drew)); exact HO318.out)) k_ hk⟩)); (case aO => exact (by (with_reducible repeat (first | apply Kd.R_alloc | apply Kd.R_drewN | apply Kd.R_drew)); exact Kd.R_mono HO321.out (fun _ hk => ⟨hk.1.2, hk.2⟩))); (case aS => exact (below_size (by repeat (first | (with_reducible first | exact HB.out | apply below_alloc | apply pw_below_drewN | apply below_drew1) | exact HB.out)))); (case aL => have := LMc14.out; omega); intro v323 w20 ho hb hg hat; rw [← Ny322.out] at ho; have n0_ := aM3 (Kd.R_after (ok := (fun k_ => some k_ ≠ (v317 : Value).ownBlock)) (by (with_reducible repeat (first | apply Kd.R_alloc | apply Kd.R_drewN | apply Kd.R_drew)); exact Kd.R_mono HO314.out (fun _ hk => ⟨hk.1.2, hk.2⟩)) hg hat); have n1_ := aM3 (Kd.R_after (ok := (fun k_ => some k_ ≠ (v313 : Value).ownBlock)) (by (with_reducible repeat (first | apply Kd.R_alloc | apply Kd.R_drewN | apply Kd.R_drew)); exact Kd.R_mono HO318.out (fun _ hk => ⟨hk.1.2, hk.2⟩)) hg hat); have n2_ := aM3 (hb); have n3_ := aM3 (ho); clear HO314; clear HO318; clear HB; clear HO321; have HO314 := n0_; have HO318 := n1_; have HB := n2_; have HO324 := n3_; clear n0_ n1_ n2_ n3_; clear ho hb hg hat; obtain ⟨Ao21, co21, eo21⟩ := Kd.R_slice HO324.out; subst eo21) | ((with_reducible refine gate_callee (f := 18) rfl ?_); refine goesL_ (some 44) rfl rfl Try.func18 (by kernel_rfl) rfl #[.slice Ao21 y322.length co21] rfl (by (try simp only [List.map_toArray, List.map_cons, List.map_nil]); first | done | rfl | (simp only [List.length_drop, List.length_take]; rfl)) ?_; (with_reducible refine (record_Read.calls kj3 _ _ y322 t325 t326 _ ?side1 ?side2 A15.out).mono ?_); (case side1 => repeat (first | exact (Kd.R_reads' HO324.out).2.2 | (with_reducible refine Kd.C_alloc ?_ _) | (with_reducible refine Kd.C_drewN ?_ _) | (with_reducible refine Kd.C_drew ?_))); (case side2 => exact (Kd.R_reads' HO324.out).2.1); rintro e w22 ⟨v327, rfl, ho0, hb⟩; refine ⟨_, rfl, ?_⟩; have n0_ := aM3 (Kd.R_below (by (with_reducible repeat (first | apply Kd.R_alloc | apply Kd.R_drewN | apply Kd.R_drew)); exact HO314.out) hb); have n1_ := aM3 (Kd.R_below (by (with_reducible repeat (first | apply Kd.R_alloc | apply Kd.R_drewN | apply Kd.R_drew)); exact HO318.out) hb); have n2_ := aM3 (Kd.R_below (by (with_reducible repeat (first | apply Kd.R_alloc | apply Kd.R_drewN | apply Kd.R_drew)); exact HO324.out) hb); have n3_ := aM3 (Kd.R_lower ho0 (below_size (by repeat (first | (with_reducible first | exact HB.out | apply below_alloc | apply pw_below_drewN | apply below_drew1) | exact HB.out)))); have n4_ := aM3 (below_step (by repeat (first | (with_reducible first | exact HB.out | apply below_alloc | apply pw_below_drewN | apply below_drew1) | exact HB.out)) hb); clear HO314; clear HO318; clear HO324; clear HB; have HO314 := n0_; have HO318 := n1_; have HO324 := n2_; have HO328 := n3_; have HB := n4_; clear n0_ n1_ n2_ n3_ n4_; (try clear hb); (try clear hb2); (try clear hk); (try clear hi); (try clear ho0)))
     go_loopg [14] kj3 (fun kq v14 w' => ∃ (x11_2 : List Int) (x14_2 : Int), v14 = .int .i64 x14_2 ∧ Aside0 (hindsightlaw03_RecordBytes.l0 kq l0 l1 l2 t311 t312 t315 t316 x11_2 t325 t326 x14_2 = some r) ∧ Aside0 (kq ≤ kj3) ∧ Aside0 (Kd.R (Kd.int .u8) 5 w' w.heap.size (fun k_ => some k_ ≠ (v317 : Value).ownBlock ∧ some k_ ≠ ((.slice Ao21 y322.length co21) : Value).ownBlock) v313 t311) ∧ Aside0 (Kd.R (Kd.int .u8) 5 w' w.heap.size (fun k_ => some k_ ≠ (v313 : Value).ownBlock ∧ some k_ ≠ ((.slice Ao21 y322.length co21) : Value).ownBlock) v317 t315) ∧ Aside0 (Kd.R (Kd.int .u8) 5 w' w.heap.size (fun k_ => some k_ ≠ (v313 : Value).ownBlock ∧ some k_ ≠ (v317 : Value).ownBlock) (.slice Ao21 y322.length co21) x11_2) ∧ Aside0 (Kd.R k35 35 w' w.heap.size (fun _ => True) v327 t325) ∧ Aside0 (Below w.heap.size w w'))
     case atStart => exact ⟨(y322), (0), (by first | rfl | (simp; done) | (simp [*]; done)), H', ⟨Nat.le_refl _⟩, ⟨by (with_reducible repeat (first | apply Kd.R_alloc | apply Kd.R_drewN | apply Kd.R_drew)); exact HO314.out⟩, ⟨by (with_reducible repeat (first | apply Kd.R_alloc | apply Kd.R_drewN | apply Kd.R_drew)); exact HO318.out⟩, ⟨by (with_reducible repeat (first | apply Kd.R_alloc | apply Kd.R_drewN | apply Kd.R_drew)); exact HO324.out⟩, ⟨by (with_reducible repeat (first | apply Kd.R_alloc | apply Kd.R_drewN | apply Kd.R_drew)); exact HO328.out⟩, ⟨by repeat (first | (with_reducible first | exact HB.out | apply below_alloc | apply pw_below_drewN | apply below_drew1) | exact HB.out)⟩⟩
     case round =>
      clear H'
      try clear c1
      try clear c2
      try clear p2
      try clear c3
      try clear c6
      try clear c8
      try clear c9
      try clear c14
      try clear c15
      try clear c16
      try clear c17
      try clear c18
      try clear p2
      obtain ⟨x11_2, x14_2, rfl, HA, HK2, HO_7, HO_9, HO_11, HO_12, HB⟩ := hrel
      have hl11_2 := (Kd.R_reads' HO_11.out).1
      rw [hl11_2] at HO_11
      (try simp only [hl11_2])
      (try simp only [hl11_2] at HO_7)
      (try simp only [hl11_2] at HO_9)
      (try simp only [hl11_2] at HO_12)
      cases gk with
      | zero => exact absurd HA.out (by simp [hindsightlaw03_RecordBytes.l0])
      | succ k2 =>
       have H := HA.out
       clear HA
       simp only [hindsightlaw03_RecordBytes.l0] at H
       by_cases c23 : x14_2 < (x11_2.length : Int)
       ·rw [if_pos c23] at H
        have c23b0 : decide (x14_2 < (x11_2.length : Int)) = true := decide_eq_true c23
        clear c23
        by_cases c24 : 0 ≤ x14_2
        ·rw [if_pos c24] at H
         have c24b0 : decide (0 ≤ x14_2) = true := decide_eq_true c24
         clear c24
         obtain ⟨y330, hy330⟩ : ∃ y_ : List Int, y_ = (x11_2.set (x14_2 : Int).toNat (Go.bits .xor .u8 (rd x11_2 x14_2) 255)) := ⟨_, rfl⟩
         replace H : (hindsightlaw03_RecordBytes.l0 k2 l0 l1 l2 t311 t312 t315 t316 y330 t325 t326 (wrap64 (x14_2 + 1))) = some r := by first | (rw [hy330]; with_reducible exact H) | (have H2_ := (Option.bind_some _ _).symm.trans H; rw [hy330]; with_reducible exact H2_) | (have H2_ := (Option.bind_some _ _).symm.trans H; with_reducible exact H2_) | with_reducible exact H | (rw [hy330]; exact H) | exact H
         have Ny330 := aM3 hy330
         clear hy330
         have H' := aM3 H
         clear H
         have p329 : 0 ≤ (x14_2 : Int) := of_decide_eq_true (by first | (with_reducible assumption) | assumption)
         have q329 : x14_2 < (x11_2.length : Int) := of_decide_eq_true (by first | (with_reducible assumption) | assumption)
         obtain ⟨ad329, e329, hx329_0⟩ := Kd.at_int (Kd.R_reads' HO_11.out).2.2 x14_2 p329 q329
         cases e329
         replace p329 := eq_true p329
         replace q329 := eq_true q329
         have p25 : 0 ≤ (x14_2 : Int) := of_decide_eq_true (by first | (with_reducible assumption) | assumption)
         have q25 : (x14_2 : Int) < ((x11_2.length : Int) : Int) := of_decide_eq_true (by first | (with_reducible assumption) | assumption)
         obtain ⟨go25, co25, eo25, gb25, gl25, cl25, HG25⟩ := Kd.R_form HO_11.out (by omega)
         (first | cases eo25 | (injection eo25 with ea_ en_ ec_; (first | subst ea_ | (injection ea_ with ea_; subst ea_)); subst ec_; clear en_))
         have GB25 := aM3 gb25
         have GG25 := aM3 HG25
         clear gb25 gl25 HG25
         (first | simp only [add_plain] at hx329_0 | skip)
         obtain ⟨hx25_0, hf25_0⟩ := Kd.R_celln 0 HO_11.out (x14_2 : Int) p25 q25
         replace p25 := eq_true p25
         replace q25 := eq_true q25
         have HP26 := Kd.R_putg HO_11.out (x14_2 : Int) (Go.bits .xor .u8 (rd x11_2 x14_2) 255)
         go_wp2_with (first | ((with_reducible refine gate_store (t := 5) (p := 60) rfl ?_); refine store_event (t := 5) (p := 60) (v := ?vo_w27) (w1 := (wr.setCell ⟨go25, (x14_2 : Int).toNat, none⟩ (.int .u8 (Go.bits .xor .u8 (rd x11_2 x14_2) 255)))) ?hg ?ho ?hn ?hr ?_; (case ho => rfl); (case hg => rfl); (case hn => rfl); (case hr => first | (go_simp; done) | (go_simp; rfl)); intro w27 hw; have hg : wr.grownBy w27 (some go25) := (by rw [hw]; exact HP26.2); have hp_ : Kd.R (Kd.int .u8) 5 w27 w.heap.size (fun k_ => some k_ ≠ (v313 : Value).ownBlock ∧ some k_ ≠ (v317 : Value).ownBlock) (.slice (some ⟨go25, 0, none⟩) x11_2.length co21) y330 := (by rw [hw, Ny330.out]; exact HP26.1); clear HP26; have n0_ := aM3 (Kd.R_after (v := (.slice (some ⟨go25, 0, none⟩) x11_2.length co21)) (v1 := (.slice (some ⟨go25, 0, none⟩) x11_2.length co21)) (ok := (fun k_ => some k_ ≠ (v317 : Value).ownBlock)) (by (with_reducible repeat (first | apply Kd.R_alloc | apply Kd.R_drewN | apply Kd.R_drew)); exact HO_7.out) hg (.inl rfl)); have n1_ := aM3 (Kd.R_after (v := (.slice (some ⟨go25, 0, none⟩) x11_2.length co21)) (v1 := (.slice (some ⟨go25, 0, none⟩) x11_2.length co21)) (ok := (fun k_ => some k_ ≠ (v313 : Value).ownBlock)) (by (with_reducible repeat (first | apply Kd.R_alloc | apply Kd.R_drewN | apply Kd.R_drew)); exact HO_9.out) hg (.inl rfl)); have n2_ := aM3 (hp_); have n3_ := aM3 (Kd.R_over' (v := (.slice (some ⟨go25, 0, none⟩) x11_2.length co21)) (by (with_reducible repeat (first | apply Kd.R_alloc | apply Kd.R_drewN | apply Kd.R_drew)); exact HO_12.out) (Kd.R_typed HO_11.out) (by decide) hg); have n4_ := aM3 ((by rw [hw]; exact below_set (HB.out) GB25.out : Below w.heap.size w w27)); clear HO_7; clear HO_9; clear HO_11; clear HO_12; clear HB; have HO_7 := n0_; have HO_9 := n1_; have HO_11 := n2_; have HO_12 := n3_; have HB := n4_; clear n0_ n1_ n2_ n3_ n4_; clear hg hw hp_))
         (try simp only [← hl11_2])
         go_roundg k2
         case measure => have := HJ3.out; have := HK2.out; omega
         case rel => exact ⟨(y330), (wrap64 (x14_2 + 1)), (by first | rfl | (simp; done) | (simp [*]; done)), H', ⟨by have := HJ3.out; have := HK2.out; omega⟩, ⟨by (try simp only [hl11_2]); (with_reducible repeat (first | apply Kd.R_alloc | apply Kd.R_drewN | apply Kd.R_drew)); exact HO_7.out⟩, ⟨by (try simp only [hl11_2]); (with_reducible repeat (first | apply Kd.R_alloc | apply Kd.R_drewN | apply Kd.R_drew)); exact HO_9.out⟩, ⟨by (try simp only [hl11_2]); (with_reducible repeat (first | apply Kd.R_alloc | apply Kd.R_drewN | apply Kd.R_drew)); exact HO_11.out⟩, ⟨by (try simp only [hl11_2]); (with_reducible repeat (first | apply Kd.R_alloc | apply Kd.R_drewN | apply Kd.R_drew)); exact HO_12.out⟩, ⟨by repeat (first | (with_reducible first | exact HB.out | apply below_alloc | apply pw_below_drewN | apply below_drew1) | exact HB.out)⟩⟩
        ·rw [if_neg c24] at H
         exact absurd H (by simp)
       ·rw [if_neg c23] at H
        have c23b0 : decide (x14_2 < (x11_2.length : Int)) = false := decide_eq_false c23
        clear c23
        replace H := Option.bind_eq_some_iff.mp H
        obtain ⟨⟨t331, t332⟩, A280, H⟩ := H
        replace H : ((hindsightlaw03_alive.f k2).bind fun t335 => (if t335 = true then (if (strOfNums t311).toList = (strOfNums t315).toList then (if t312 = t316 then ((hindsightref03_Same.f k2 t325 t331).bind fun t336 => (if t336 = true then (if t326 = t332 then ((record_Right.f k2 l0).bind fun t337 => (if (t337 == (t316 == 0)) = true then ((record_Same.f k2 l0 l1).bind fun t338 => ((hindsightref03_Same.f k2 l0 l1).bind fun t339 => (some (t338 == t339)))) else (none))) else (none)) else (none))) else (none)) else (none)) else (none))) = some r := H
        have A28 := aM3 A280
        clear A280
        replace H := Option.bind_eq_some_iff.mp H
        obtain ⟨t335, A290, H⟩ := H
        replace H : (if t335 = true then (if (strOfNums t311).toList = (strOfNums t315).toList then (if t312 = t316 then ((hindsightref03_Same.f k2 t325 t331).bind fun t336 => (if t336 = true then (if t326 = t332 then ((record_Right.f k2 l0).bind fun t337 => (if (t337 == (t316 == 0)) = true then ((record_Same.f k2 l0 l1).bind fun t338 => ((hindsightref03_Same.f k2 l0 l1).bind fun t339 => (some (t338 == t339)))) else (none))) else (none)) else (none))) else (none)) else (none)) else (none)) = some r := H
        have A29 := aM3 A290
        clear A290
        by_cases c30 : t335 = true
        ·subst c30
         have H1 : (if (strOfNums t311).toList = (strOfNums t315).toList then (if t312 = t316 then ((hindsightref03_Same.f k2 t325 t331).bind fun t336 => (if t336 = true then (if t326 = t332 then ((record_Right.f k2 l0).bind fun t337 => (if (t337 == (t316 == 0)) = true then ((record_Same.f k2 l0 l1).bind fun t338 => ((hindsightref03_Same.f k2 l0 l1).bind fun t339 => (some (t338 == t339)))) else (none))) else (none)) else (none))) else (none)) else (none)) = some r := by rw [if_pos rfl] at H; exact H
         clear H
         have H := H1
         clear H1
         by_cases c31 : (strOfNums t311).toList = (strOfNums t315).toList
         ·rw [if_pos c31] at H
          have c31b0 : ((strOfNums t311).toList == (strOfNums t315).toList) = true := beq_iff_eq.mpr c31
          have c31b1 : ((strOfNums t311).toList != (strOfNums t315).toList) = false := bne_eq_false_iff_eq.mpr c31
          clear c31
          by_cases c32 : t312 = t316
          ·rw [if_pos c32] at H
           have c32b0 : (t312 == t316) = true := beq_iff_eq.mpr c32
           have c32b1 : (t312 != t316) = false := bne_eq_false_iff_eq.mpr c32
           clear c32
           replace H := Option.bind_eq_some_iff.mp H
           obtain ⟨t336, A330, H⟩ := H
           replace H : (if t336 = true then (if t326 = t332 then ((record_Right.f k2 l0).bind fun t337 => (if (t337 == (t316 == 0)) = true then ((record_Same.f k2 l0 l1).bind fun t338 => ((hindsightref03_Same.f k2 l0 l1).bind fun t339 => (some (t338 == t339)))) else (none))) else (none)) else (none)) = some r := H
           have A33 := aM3 A330
           clear A330
           by_cases c34 : t336 = true
           ·subst c34
            have H1 : (if t326 = t332 then ((record_Right.f k2 l0).bind fun t337 => (if (t337 == (t316 == 0)) = true then ((record_Same.f k2 l0 l1).bind fun t338 => ((hindsightref03_Same.f k2 l0 l1).bind fun t339 => (some (t338 == t339)))) else (none))) else (none)) = some r := by rw [if_pos rfl] at H; exact H
            clear H
            have H := H1
            clear H1
            by_cases c35 : t326 = t332
            ·rw [if_pos c35] at H
             have c35b0 : (t326 == t332) = true := beq_iff_eq.mpr c35
             have c35b1 : (t326 != t332) = false := bne_eq_false_iff_eq.mpr c35
             clear c35
             replace H := Option.bind_eq_some_iff.mp H
             obtain ⟨t337, A360, H⟩ := H
             replace H : (if (t337 == (t316 == 0)) = true then ((record_Same.f k2 l0 l1).bind fun t338 => ((hindsightref03_Same.f k2 l0 l1).bind fun t339 => (some (t338 == t339)))) else (none)) = some r := H
             have A36 := aM3 A360
             clear A360
             by_cases c37 : (t337 == (t316 == 0)) = true
             ·rw [if_pos c37] at H
              have c37b0 : (t337 == (t316 == 0)) = true := c37
              (try (have c37b1 : decide (t337 = (t316 == 0)) = true := by simpa using c37))
              (try (have c37b2 : (t337 == (t316 == 0)) = true := by simpa using c37))
              (try (have c37b3 : (!(t337 == (t316 == 0))) = false := by first | exact c37 | simpa using c37))
              clear c37
              replace H := Option.bind_eq_some_iff.mp H
              obtain ⟨t338, A380, H⟩ := H
              replace H : ((hindsightref03_Same.f k2 l0 l1).bind fun t339 => (some (t338 == t339))) = some r := H
              have A38 := aM3 A380
              clear A380
              replace H := Option.bind_eq_some_iff.mp H
              obtain ⟨t339, A390, H⟩ := H
              replace H : (some (t338 == t339)) = some r := H
              have A39 := aM3 A390
              clear A390
              obtain rfl := Option.some.inj H
              go_wp2_with (first | ((with_reducible refine gate_callee (f := 19) rfl ?_); refine goesL_ (some 63) rfl rfl Try.func19 (by kernel_rfl) rfl #[.slice A2 l2.length c2] rfl (by (try simp only [List.map_toArray, List.map_cons, List.map_nil]); first | done | rfl | (simp only [List.length_drop, List.length_take]; rfl)) ?_; (with_reducible refine (hindsightref03_Read.calls k2 _ _ l2 t331 t332 _ ?side1 ?side2 A28.out).mono ?_); (case side1 => repeat (first | exact (Kd.C_below HR2.out HB.out) | (with_reducible refine Kd.C_alloc ?_ _) | (with_reducible refine Kd.C_drewN ?_ _) | (with_reducible refine Kd.C_drew ?_))); (case side2 => exact HC2.out); rintro e w40 ⟨v333, rfl, ho0, hb⟩; refine ⟨_, rfl, ?_⟩; have n0_ := aM3 (Kd.R_below (by (with_reducible repeat (first | apply Kd.R_alloc | apply Kd.R_drewN | apply Kd.R_drew)); exact HO_7.out) hb); have n1_ := aM3 (Kd.R_below (by (with_reducible repeat (first | apply Kd.R_alloc | apply Kd.R_drewN | apply Kd.R_drew)); exact HO_9.out) hb); have n2_ := aM3 (Kd.R_below (by (with_reducible repeat (first | apply Kd.R_alloc | apply Kd.R_drewN | apply Kd.R_drew)); exact HO_11.out) hb); have n3_ := aM3 (Kd.R_elder' (by (with_reducible repeat (first | apply Kd.R_alloc | apply Kd.R_drewN | apply Kd.R_drew)); exact HO_12.out) (Kd.R_base ho0) hb); have n4_ := aM3 (Kd.R_lower (Kd.R_new' ho0 (Kd.R_lt (by (with_reducible repeat (first | apply Kd.R_alloc | apply Kd.R_drewN | apply Kd.R_drew)); exact HO_12.out))) (below_size (by repeat (first | (with_reducible first | exact HB.out | apply below_alloc | apply pw_below_drewN | apply below_drew1) | exact HB.out)))); have n5_ := aM3 (below_step (by repeat (first | (with_reducible first | exact HB.out | apply below_alloc | apply pw_below_drewN | apply below_drew1) | exact HB.out)) hb); clear HO_7; clear HO_9; clear HO_11; clear HO_12; clear HB; have HO_7 := n0_; have HO_9 := n1_; have HO_11 := n2_; have HO_12 := n3_; have HO334 := n4_; have HB := n5_; clear n0_ n1_ n2_ n3_ n4_ n5_; (try clear hb); (try clear hb2); (try clear hk); (try clear hi); (try clear ho0)) | ((with_reducible refine gate_callee (f := 15) rfl ?_); refine goesL_ (some 66) rfl rfl Try.func15 (by kernel_rfl) rfl #[] rfl (by (try simp only [List.map_toArray, List.map_cons, List.map_nil]); first | done | rfl | (simp only [List.length_drop, List.length_take]; rfl)) ?_; (with_reducible refine (hindsightlaw03_alive.calls k2  true _ A29.out).mono ?_); rintro e w41 ⟨rfl, hb⟩; refine ⟨_, rfl, ?_⟩; have n0_ := aM3 (Kd.R_below (by (with_reducible repeat (first | apply Kd.R_alloc | apply Kd.R_drewN | apply Kd.R_drew)); exact HO_7.out) hb); have n1_ := aM3 (Kd.R_below (by (with_reducible repeat (first | apply Kd.R_alloc | apply Kd.R_drewN | apply Kd.R_drew)); exact HO_9.out) hb); have n2_ := aM3 (Kd.R_below (by (with_reducible repeat (first | apply Kd.R_alloc | apply Kd.R_drewN | apply Kd.R_drew)); exact HO_11.out) hb); have n3_ := aM3 (Kd.R_below (by (with_reducible repeat (first | apply Kd.R_alloc | apply Kd.R_drewN | apply Kd.R_drew)); exact HO_12.out) hb); have n4_ := aM3 (Kd.R_below (by (with_reducible repeat (first | apply Kd.R_alloc | apply Kd.R_drewN | apply Kd.R_drew)); exact HO334.out) hb); have n5_ := aM3 (below_step (by repeat (first | (with_reducible first | exact HB.out | apply below_alloc | apply pw_below_drewN | apply below_drew1) | exact HB.out)) hb); clear HO_7; clear HO_9; clear HO_11; clear HO_12; clear HO334; clear HB; have HO_7 := n0_; have HO_9 := n1_; have HO_11 := n2_; have HO_12 := n3_; have HO334 := n4_; have HB := n5_; clear n0_ n1_ n2_ n3_ n4_ n5_; (try clear hb); (try clear hb2); (try clear hk); (try clear hi); have hcv42 := own_string (P := Try.prog) Try.underlying23 Try.underlying5 Try.underlying9 (Kd.own_of_R HO_7.out); (try have hcv43 := fun m_ : Nat => own_string (P := Try.prog) Try.underlying23 Try.underlying5 Try.underlying9 (Kd.own_of_R (Kd.R_drewN HO_7.out m_))); have hcv44 := own_string (P := Try.prog) Try.underlying23 Try.underlying5 Try.underlying9 (Kd.own_of_R HO_9.out); (try have hcv45 := fun m_ : Nat => own_string (P := Try.prog) Try.underlying23 Try.underlying5 Try.underlying9 (Kd.own_of_R (Kd.R_drewN HO_9.out m_))); obtain ⟨Ao46, co46, eo46⟩ := Kd.R_slice HO_12.out; subst eo46; obtain ⟨Ao47, co47, eo47⟩ := Kd.R_slice HO334.out; subst eo47) | (go_at_call 20; (with_reducible refine (hindsightref03_Same.calls k2 _ _ t325 _ _ t331 true _ ?side1 ?side2 ?side3 ?side4 A33.out).mono ?_); (case side1 => repeat (first | exact (Kd.R_reads' HO_12.out).2.2 | (with_reducible refine Kd.C_alloc ?_ _) | (with_reducible refine Kd.C_drewN ?_ _) | (with_reducible refine Kd.C_drew ?_))); (case side2 => exact (Kd.R_reads' HO_12.out).2.1); (case side3 => repeat (first | exact (Kd.R_reads' HO334.out).2.2 | (with_reducible refine Kd.C_alloc ?_ _) | (with_reducible refine Kd.C_drewN ?_ _) | (with_reducible refine Kd.C_drew ?_))); (case side4 => exact (Kd.R_reads' HO334.out).2.1); rintro e w' ⟨rfl, ⟨nd, rfl⟩⟩) | (go_at_call 21; (with_reducible refine (record_Right.calls k2 _ _ l0 t337 _ ?side1 ?side2 A36.out).mono ?_); (case side1 => repeat (first | exact (Kd.C_below HR0.out (by repeat (first | (with_reducible first | exact HB.out | apply below_alloc | apply pw_below_drewN | apply below_drew1) | exact HB.out))) | (with_reducible refine Kd.C_alloc ?_ _) | (with_reducible refine Kd.C_drewN ?_ _) | (with_reducible refine Kd.C_drew ?_))); (case side2 => exact HC0.out); rintro e w48 ⟨rfl, hb⟩; have n0_ := aM3 (Kd.R_below (by (with_reducible repeat (first | apply Kd.R_alloc | apply Kd.R_drewN | apply Kd.R_drew)); exact HO_7.out) hb); have n1_ := aM3 (Kd.R_below (by (with_reducible repeat (first | apply Kd.R_alloc | apply Kd.R_drewN | apply Kd.R_drew)); exact HO_9.out) hb); have n2_ := aM3 (Kd.R_below (by (with_reducible repeat (first | apply Kd.R_alloc | apply Kd.R_drewN | apply Kd.R_drew)); exact HO_11.out) hb); have n3_ := aM3 (Kd.R_below (by (with_reducible repeat (first | apply Kd.R_alloc | apply Kd.R_drewN | apply Kd.R_drew)); exact HO_12.out) hb); have n4_ := aM3 (Kd.R_below (by (with_reducible repeat (first | apply Kd.R_alloc | apply Kd.R_drewN | apply Kd.R_drew)); exact HO334.out) hb); have n5_ := aM3 (below_step (by repeat (first | (with_reducible first | exact HB.out | apply below_alloc | apply pw_below_drewN | apply below_drew1) | exact HB.out)) hb); clear HO_7; clear HO_9; clear HO_11; clear HO_12; clear HO334; clear HB; have HO_7 := n0_; have HO_9 := n1_; have HO_11 := n2_; have HO_12 := n3_; have HO334 := n4_; have HB := n5_; clear n0_ n1_ n2_ n3_ n4_ n5_; (try clear hb); (try clear hb2); (try clear hk); (try clear hi)) | (go_at_call 22; (with_reducible refine (record_Same.calls k2 _ _ l0 _ _ l1 t338 _ ?side1 ?side2 ?side3 ?side4 A38.out).mono ?_); (case side1 => repeat (first | exact (Kd.C_below HR0.out HB.out) | (with_reducible refine Kd.C_alloc ?_ _) | (with_reducible refine Kd.C_drewN ?_ _) | (with_reducible refine Kd.C_drew ?_))); (case side2 => exact HC0.out); (case side3 => repeat (first | exact (Kd.C_below HR1.out HB.out) | (with_reducible refine Kd.C_alloc ?_ _) | (with_reducible refine Kd.C_drewN ?_ _) | (with_reducible refine Kd.C_drew ?_))); (case side4 => exact HC1.out); rintro e w' ⟨rfl, ⟨nd, rfl⟩⟩) | (go_at_call 20; (with_reducible refine (hindsightref03_Same.calls k2 _ _ l0 _ _ l1 t339 _ ?side1 ?side2 ?side3 ?side4 A39.out).mono ?_); (case side1 => repeat (first | exact (Kd.C_below HR0.out (by repeat (first | (with_reducible first | exact HB.out | apply below_alloc | apply pw_below_drewN | apply below_drew1) | exact HB.out))) | (with_reducible refine Kd.C_alloc ?_ _) | (with_reducible refine Kd.C_drewN ?_ _) | (with_reducible refine Kd.C_drew ?_))); (case side2 => exact HC0.out); (case side3 => repeat (first | exact (Kd.C_below HR1.out (by repeat (first | (with_reducible first | exact HB.out | apply below_alloc | apply pw_below_drewN | apply below_drew1) | exact HB.out))) | (with_reducible refine Kd.C_alloc ?_ _) | (with_reducible refine Kd.C_drewN ?_ _) | (with_reducible refine Kd.C_drew ?_))); (case side4 => exact HC1.out); rintro e w' ⟨rfl, ⟨nd, rfl⟩⟩))
              (try (all_goals (try (exact absurd (c37b3.symm.trans (show (!(t337 == (t316 == 0))) = true by assumption)) (by decide)))))
              go_ret
              exact ⟨by first | rfl | (simp [errW_none, errW_some] <;> rfl) | (simp [*, errW_none, errW_some] <;> rfl), by repeat (first | (with_reducible first | exact HB.out | apply below_alloc | apply pw_below_drewN | apply below_drew1) | exact HB.out)⟩
             ·rw [if_neg c37] at H
              exact absurd H (by simp)
            ·rw [if_neg c35] at H
             exact absurd H (by simp)
           ·replace c34 := Bool.eq_false_iff.mpr c34
            subst c34
            have H1 : (none) = some r := by rw [if_neg (show ¬ (false = true) by decide)] at H; exact H
            clear H
            have H := H1
            clear H1
            exact absurd H (by simp)
          ·rw [if_neg c32] at H
           exact absurd H (by simp)
         ·rw [if_neg c31] at H
          exact absurd H (by simp)
        ·replace c30 := Bool.eq_false_iff.mpr c30
         subst c30
         have H1 : (none) = some r := by rw [if_neg (show ¬ (false = true) by decide)] at H; exact H
         clear H
         have H := H1
         clear H1
         exact absurd H (by simp)
    ·rw [if_neg c14] at H
     exact absurd H (by simp)

/-- THE ONE PURE STATEMENT of hindsightlaw03_RecordBytes: yours. -/
def hindsightlaw03_RecordBytes.Pure : Prop := ∀ (l0 : List (S35)) (l1 : List (S35)) (l2 : List Int), (l0.length ≤ 9223372036854775807 ∧ l0.length * 32 ≤ 140737488351232 ∧ ∀ y_ ∈ l0, good35 y_) → (l1.length ≤ 9223372036854775807 ∧ l1.length * 32 ≤ 140737488351232 ∧ ∀ y_ ∈ l1, good35 y_) → (l2.length ≤ 9223372036854775807 ∧ l2.length * 1 ≤ 140737488351232 ∧ ∀ y_ ∈ l2, (Lit.int .u8 y_).wf = true) → ∃ k, hindsightlaw03_RecordBytes.f k l0 l1 l2 = some true
theorem hindsightlaw03_RecordBytes.walk (P : hindsightlaw03_RecordBytes.Pure) (A0 : Option Addr) (c0 : Nat) (l0 : List (S35)) (A1 : Option Addr) (c1 : Nat) (l1 : List (S35)) (A2 : Option Addr) (c2 : Nat) (l2 : List Int) (w : World) (hr0 : Kd.C k35 w A0 l0.length l0) (hc0 : l0.length ≤ c0) (hr1 : Kd.C k35 w A1 l1.length l1) (hc1 : l1.length ≤ c1) (hr2 : Kd.C (Kd.int .u8) w A2 l2.length l2) (hc2 : l2.length ≤ c2) (hg0 : l0.length ≤ 9223372036854775807 ∧ l0.length * 32 ≤ 140737488351232 ∧ ∀ y_ ∈ l0, good35 y_) (hg1 : l1.length ≤ 9223372036854775807 ∧ l1.length * 32 ≤ 140737488351232 ∧ ∀ y_ ∈ l1, good35 y_) (hg2 : l2.length ≤ 9223372036854775807 ∧ l2.length * 1 ≤ 140737488351232 ∧ ∀ y_ ∈ l2, (Lit.int .u8 y_).wf = true) :
  Calls Try.prog 3 #[.slice A0 l0.length c0, .slice A1 l1.length c1, .slice A2 l2.length c2] w fun e w' => e = .returned (.bool true) ∧ Below w.heap.size w w' := by
 obtain ⟨k, h⟩ := P l0 l1 l2 hg0 hg1 hg2
 refine (hindsightlaw03_RecordBytes.calls k _ _ l0 _ _ l1 _ _ l2 true w hr0 hc0 hr1 hc1 hr2 hc2 h).mono ?_
 rintro e w' ⟨rfl, hd⟩
 exact ⟨rfl, hd⟩

end Go.Proofs.Ytefpnnljflcmbaa.PRe
