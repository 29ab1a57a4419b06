-- Written by a program of this session (wip/tool), which goes by the kit's print.
import Derived.Test.YtefpnnljflcmbaaPRex0
import Derived.Test.YtefpnnljflcmbaaPRex2
import Derived.Test.YtefpnnljflcmbaaPRex13
import Derived.Test.YtefpnnljflcmbaaPRex31
import Derived.Test.YtefpnnljflcmbaaPRex33
namespace Go.Proofs.Ytefpnnljflcmbaa.PRe
open Go.RowKit Go.Proofs.YtefpnnljflcmbaaW.PrintWords Go.Proofs.YtefpnnljflcmbaaW.PrintLast Go.Proofs.YtefpnnljflcmbaaW.PrintMore
attribute [local go_sem] max2_int min2_int max_two min_two max_three min_three max_four min_four   -- for this text's walks alone
set_option linter.unusedVariables false
set_option linter.unusedSimpArgs false

/-! ### hindsightlaw03_RecordOrders: function 10 -/
def hindsightlaw03_RecordOrders.j0 : Nat → List (S35) → List (S35) → Bool → Option (Bool)
 | 0, _, _, _ => none
 | k + 1, x0, x1, x10 => if x10 = true then ((hindsightlaw03_alive.f k).bind fun t387 => (some t387)) else ((hindsightlaw03_alive.f k).bind fun t388 => (if t388 = true then ((record_Order.f k x0 x1).bind fun t389 => ((hindsightref03_Order.f k x0 x1).bind fun t390 => (some (t389 == t390)))) else (none)))
def hindsightlaw03_RecordOrders.f (k : Nat) (l0 : List (S35)) (l1 : List (S35)) : Option (Bool) := (hindsightlaw03_Great.f k l0).bind fun t385 => (if t385 = true then (hindsightlaw03_RecordOrders.j0 k l0 l1 true) else ((hindsightlaw03_Great.f k l1).bind fun t386 => (hindsightlaw03_RecordOrders.j0 k l0 l1 t386)))
theorem hindsightlaw03_RecordOrders.mono_l : ∀ k, (∀ y0 y1 y2, LeO (hindsightlaw03_RecordOrders.j0 k y0 y1 y2) (hindsightlaw03_RecordOrders.j0 (k + 1) y0 y1 y2))
 | 0 => fun _ _ _ r h => by simp [hindsightlaw03_RecordOrders.j0] at h
 | k + 1 => by
  have ih0 := hindsightlaw03_RecordOrders.mono_l k
  ·intro y0 y1 y2
   unfold hindsightlaw03_RecordOrders.j0
   repeat' first
   | (with_reducible exact ih0 _ _ _)
   | (with_reducible exact hindsightlaw03_Great.mono _ _)
   | (with_reducible exact hindsightlaw03_alive.mono _)
   | (with_reducible exact hindsightref03_Order.mono _ _ _)
   | (with_reducible exact record_Order.mono _ _ _)
   | (with_reducible exact LeO.refl _)
   | (with_reducible exact LeO.none _)
   | (with_reducible refine LeO.ite ?_ ?_)
   | (with_reducible refine LeO.bind ?_ (fun _ => ?_))
   | exact ih0 _ _ _
   | exact hindsightlaw03_Great.mono _ _
   | exact hindsightlaw03_alive.mono _
   | exact hindsightref03_Order.mono _ _ _
   | exact record_Order.mono _ _ _
   | exact LeO.none _
   | refine LeO.ite ?_ ?_
   | refine LeO.bind ?_ (fun _ => ?_)
theorem hindsightlaw03_RecordOrders.mono : ∀ a0 a1 k, LeO (hindsightlaw03_RecordOrders.f k a0 a1) (hindsightlaw03_RecordOrders.f (k + 1) a0 a1) := by
 intro a0 a1 k
 have ih0 := hindsightlaw03_RecordOrders.mono_l k
 unfold hindsightlaw03_RecordOrders.f
 repeat' first
   | (with_reducible exact ih0 _ _ _)
   | (with_reducible exact hindsightlaw03_Great.mono _ _)
   | (with_reducible exact hindsightlaw03_alive.mono _)
   | (with_reducible exact hindsightref03_Order.mono _ _ _)
   | (with_reducible exact record_Order.mono _ _ _)
   | (with_reducible exact LeO.refl _)
   | (with_reducible exact LeO.none _)
   | (with_reducible refine LeO.ite ?_ ?_)
   | (with_reducible refine LeO.bind ?_ (fun _ => ?_))
   | exact ih0 _ _ _
   | exact hindsightlaw03_Great.mono _ _
   | exact hindsightlaw03_alive.mono _
   | exact hindsightref03_Order.mono _ _ _
   | exact record_Order.mono _ _ _
   | exact LeO.none _
   | refine LeO.ite ?_ ?_
   | refine LeO.bind ?_ (fun _ => ?_)
set_option maxHeartbeats 8000000 in
set_option maxRecDepth 100000 in
theorem hindsightlaw03_RecordOrders.calls (k : Nat) (A0 : Option Addr) (c0 : Nat) (l0 : List (S35)) (A1 : Option Addr) (c1 : Nat) (l1 : List (S35)) (r : Bool) (w : World) (hr0 : Kd.C k35 w A0 l0.length l0) (hc0 : l0.length ≤ c0) (hr1 : Kd.C k35 w A1 l1.length l1) (hc1 : l1.length ≤ c1) (h : hindsightlaw03_RecordOrders.f k l0 l1 = some r) :
  Calls Try.prog 10 #[.slice A0 l0.length c0, .slice A1 l1.length c1] w fun e w' => e = .returned (.bool r) ∧ Below w.heap.size w w' := by
 have HR0 := Aside0.mk hr0
 have HC0 := Aside0.mk hc0
 clear hr0 hc0
 have HR1 := Aside0.mk hr1
 have HC1 := Aside0.mk hc1
 clear hr1 hc1
 have HB := Aside0.mk (Below.refl w.heap.size w)
 have H : ((hindsightlaw03_Great.f k l0).bind fun t385 => (if t385 = true then (hindsightlaw03_RecordOrders.j0 k l0 l1 true) else ((hindsightlaw03_Great.f k l1).bind fun t386 => (hindsightlaw03_RecordOrders.j0 k l0 l1 t386)))) = some r := h
 clear h
 have HC3 := Aside0.mk H
 clear H
 go_enter Try.func10, Try.ntmps10
 go_upto_region 1 with (fail)
 go_cut [10] (fun v10 wc => ∃ (kq : Nat) (x10_2 : Bool), v10 = .bool x10_2 ∧ Aside0 (hindsightlaw03_RecordOrders.j0 kq l0 l1 x10_2 = some r) ∧ Aside0 (kq ≤ k) ∧ Aside0 (Below w.heap.size w wc))
 case first =>
  have H := HC3.out
  clear HC3
  replace H := Option.bind_eq_some_iff.mp H
  obtain ⟨t385, A40, H⟩ := H
  replace H : (if t385 = true then (hindsightlaw03_RecordOrders.j0 k l0 l1 true) else ((hindsightlaw03_Great.f k l1).bind fun t386 => (hindsightlaw03_RecordOrders.j0 k l0 l1 t386))) = some r := H
  have A4 := Aside0.mk A40
  clear A40
  by_cases c5 : t385 = true
  ·subst c5
   have H1 : (hindsightlaw03_RecordOrders.j0 k l0 l1 true) = some r := by rw [if_pos rfl] at H; exact H
   clear H
   have H := H1
   clear H1
   have H' := Aside0.mk H
   clear H
   go_wp2_with (first | ((with_reducible refine gate_callee (f := 14) rfl ?_); refine goesL_ (some 6) rfl rfl Try.func14 (by kernel_rfl) rfl #[.slice A0 l0.length c0] rfl (by (try simp only [List.map_toArray, List.map_cons, List.map_nil]); first | done | rfl | (simp only [List.length_drop, List.length_take]; rfl)) ?_; (with_reducible refine (hindsightlaw03_Great.calls k _ _ l0 true _ ?side1 ?side2 A4.out).mono ?_); (case side1 => repeat (first | exact (Kd.C_below HR0.out HB.out) | (with_reducible refine Kd.C_alloc ?_ _) | (with_reducible refine Kd.C_drewN ?_ _) | (with_reducible refine Kd.C_drew ?_))); (case side2 => exact HC0.out); rintro e w' ⟨rfl, ⟨nd, rfl⟩⟩; refine ⟨_, rfl, ?_⟩))
   go_meet
   case rel => exact ⟨_, (true), (by first | rfl | (simp; done) | (simp [*]; done)), H', ⟨by first | omega | exact Nat.le_refl _⟩, ⟨by repeat (first | (with_reducible first | exact HB.out | apply below_alloc | apply pw_below_drewN | apply below_drew1) | exact HB.out)⟩⟩
  ·replace c5 := Bool.eq_false_iff.mpr c5
   subst c5
   have H1 : ((hindsightlaw03_Great.f k l1).bind fun t386 => (hindsightlaw03_RecordOrders.j0 k l0 l1 t386)) = some r := by rw [if_neg (show ¬ (false = true) by decide)] at H; exact H
   clear H
   have H := H1
   clear H1
   replace H := Option.bind_eq_some_iff.mp H
   obtain ⟨t386, A60, H⟩ := H
   replace H : (hindsightlaw03_RecordOrders.j0 k l0 l1 t386) = some r := H
   have A6 := Aside0.mk A60
   clear A60
   have H' := Aside0.mk H
   clear H
   go_wp2_with (first | ((with_reducible refine gate_callee (f := 14) rfl ?_); refine goesL_ (some 6) rfl rfl Try.func14 (by kernel_rfl) rfl #[.slice A0 l0.length c0] rfl (by (try simp only [List.map_toArray, List.map_cons, List.map_nil]); first | done | rfl | (simp only [List.length_drop, List.length_take]; rfl)) ?_; (with_reducible refine (hindsightlaw03_Great.calls k _ _ l0 false _ ?side1 ?side2 A4.out).mono ?_); (case side1 => repeat (first | exact (Kd.C_below HR0.out HB.out) | (with_reducible refine Kd.C_alloc ?_ _) | (with_reducible refine Kd.C_drewN ?_ _) | (with_reducible refine Kd.C_drew ?_))); (case side2 => exact HC0.out); rintro e w' ⟨rfl, ⟨nd, rfl⟩⟩; refine ⟨_, rfl, ?_⟩) | (go_at_call 14; (with_reducible refine (hindsightlaw03_Great.calls k _ _ l1 t386 _ ?side1 ?side2 A6.out).mono ?_); (case side1 => repeat (first | exact (Kd.C_below HR1.out (by repeat (first | (with_reducible first | exact HB.out | apply below_alloc | apply pw_below_drewN | apply below_drew1) | exact HB.out))) | (with_reducible refine Kd.C_alloc ?_ _) | (with_reducible refine Kd.C_drewN ?_ _) | (with_reducible refine Kd.C_drew ?_))); (case side2 => exact HC1.out); rintro e w' ⟨rfl, ⟨nd, rfl⟩⟩))
   go_meet
   case rel => exact ⟨_, (t386), (by first | rfl | (simp; done) | (simp [*]; done)), H', ⟨by first | omega | exact Nat.le_refl _⟩, ⟨by repeat (first | (with_reducible first | exact HB.out | apply below_alloc | apply pw_below_drewN | apply below_drew1) | exact HB.out)⟩⟩
 case rest =>
  clear HC3
  try clear c1
  try clear p2
  try clear c5
  obtain ⟨kq, x10_2, rfl, HA, HJ2, HB⟩ := hcut
  cases kq with
  | zero => exact absurd HA.out (by simp [hindsightlaw03_RecordOrders.j0])
  | succ kj2 =>
   have H := HA.out
   clear HA
   simp only [hindsightlaw03_RecordOrders.j0] at H
   by_cases c7 : x10_2 = true
   ·subst c7
    have H1 : ((hindsightlaw03_alive.f kj2).bind fun t387 => (some t387)) = some r := by rw [if_pos rfl] at H; exact H
    clear H
    have H := H1
    clear H1
    replace H := Option.bind_eq_some_iff.mp H
    obtain ⟨t387, A80, H⟩ := H
    replace H : (some t387) = some r := H
    have A8 := Aside0.mk A80
    clear A80
    obtain rfl := Option.some.inj H
    go_wp2_with (first | ((with_reducible refine gate_callee (f := 15) rfl ?_); refine goesL_ (some 11) rfl rfl Try.func15 (by kernel_rfl) rfl #[] rfl (by (try simp only [List.map_toArray, List.map_cons, List.map_nil]); first | done | rfl | (simp only [List.length_drop, List.length_take]; rfl)) ?_; (with_reducible refine (hindsightlaw03_alive.calls kj2  t387 _ A8.out).mono ?_); rintro e w9 ⟨rfl, hb⟩; refine ⟨_, rfl, ?_⟩; have n0_ := Aside0.mk (below_step (by repeat (first | (with_reducible first | exact HB.out | apply below_alloc | apply pw_below_drewN | apply below_drew1) | exact HB.out)) hb); clear HB; have HB := n0_; clear n0_; (try clear hb); (try clear hb2); (try clear hk); (try clear hi)))
    go_ret
    exact ⟨by first | rfl | (simp [errW_none, errW_some] <;> rfl) | (simp [*, errW_none, errW_some] <;> rfl), by repeat (first | (with_reducible first | exact HB.out | apply below_alloc | apply pw_below_drewN | apply below_drew1) | exact HB.out)⟩
   ·replace c7 := Bool.eq_false_iff.mpr c7
    subst c7
    have H1 : ((hindsightlaw03_alive.f kj2).bind fun t388 => (if t388 = true then ((record_Order.f kj2 l0 l1).bind fun t389 => ((hindsightref03_Order.f kj2 l0 l1).bind fun t390 => (some (t389 == t390)))) else (none))) = some r := by rw [if_neg (show ¬ (false = true) by decide)] at H; exact H
    clear H
    have H := H1
    clear H1
    replace H := Option.bind_eq_some_iff.mp H
    obtain ⟨t388, A100, H⟩ := H
    replace H : (if t388 = true then ((record_Order.f kj2 l0 l1).bind fun t389 => ((hindsightref03_Order.f kj2 l0 l1).bind fun t390 => (some (t389 == t390)))) else (none)) = some r := H
    have A10 := Aside0.mk A100
    clear A100
    by_cases c11 : t388 = true
    ·subst c11
     have H1 : ((record_Order.f kj2 l0 l1).bind fun t389 => ((hindsightref03_Order.f kj2 l0 l1).bind fun t390 => (some (t389 == t390)))) = some r := by rw [if_pos rfl] at H; exact H
     clear H
     have H := H1
     clear H1
     replace H := Option.bind_eq_some_iff.mp H
     obtain ⟨t389, A120, H⟩ := H
     replace H : ((hindsightref03_Order.f kj2 l0 l1).bind fun t390 => (some (t389 == t390))) = some r := H
     have A12 := Aside0.mk A120
     clear A120
     replace H := Option.bind_eq_some_iff.mp H
     obtain ⟨t390, A130, H⟩ := H
     replace H : (some (t389 == t390)) = some r := H
     have A13 := Aside0.mk A130
     clear A130
     obtain rfl := Option.some.inj H
     go_wp2_with (first | ((with_reducible refine gate_callee (f := 15) rfl ?_); refine goesL_ (some 12) rfl rfl Try.func15 (by kernel_rfl) rfl #[] rfl (by (try simp only [List.map_toArray, List.map_cons, List.map_nil]); first | done | rfl | (simp only [List.length_drop, List.length_take]; rfl)) ?_; (with_reducible refine (hindsightlaw03_alive.calls kj2  true _ A10.out).mono ?_); rintro e w14 ⟨rfl, hb⟩; refine ⟨_, rfl, ?_⟩; have n0_ := Aside0.mk (below_step (by repeat (first | (with_reducible first | exact HB.out | apply below_alloc | apply pw_below_drewN | apply below_drew1) | exact HB.out)) hb); clear HB; have HB := n0_; clear n0_; (try clear hb); (try clear hb2); (try clear hk); (try clear hi)) | (go_at_call 47; (with_reducible refine (record_Order.calls kj2 _ _ l0 _ _ l1 t389 _ ?side1 ?side2 ?side3 ?side4 A12.out).mono ?_); (case side1 => repeat (first | exact (Kd.C_below HR0.out HB.out) | (with_reducible refine Kd.C_alloc ?_ _) | (with_reducible refine Kd.C_drewN ?_ _) | (with_reducible refine Kd.C_drew ?_))); (case side2 => exact HC0.out); (case side3 => repeat (first | exact (Kd.C_below HR1.out HB.out) | (with_reducible refine Kd.C_alloc ?_ _) | (with_reducible refine Kd.C_drewN ?_ _) | (with_reducible refine Kd.C_drew ?_))); (case side4 => exact HC1.out); rintro e w15 ⟨rfl, hb⟩; have n0_ := Aside0.mk (below_step (by repeat (first | (with_reducible first | exact HB.out | apply below_alloc | apply pw_below_drewN | apply below_drew1) | exact HB.out)) hb); clear HB; have HB := n0_; clear n0_; (try clear hb); (try clear hb2); (try clear hk); (try clear hi)) | (go_at_call 48; (with_reducible refine (hindsightref03_Order.calls kj2 _ _ l0 _ _ l1 t390 _ ?side1 ?side2 ?side3 ?side4 A13.out).mono ?_); (case side1 => repeat (first | exact (Kd.C_below HR0.out HB.out) | (with_reducible refine Kd.C_alloc ?_ _) | (with_reducible refine Kd.C_drewN ?_ _) | (with_reducible refine Kd.C_drew ?_))); (case side2 => exact HC0.out); (case side3 => repeat (first | exact (Kd.C_below HR1.out HB.out) | (with_reducible refine Kd.C_alloc ?_ _) | (with_reducible refine Kd.C_drewN ?_ _) | (with_reducible refine Kd.C_drew ?_))); (case side4 => exact HC1.out); rintro e w16 ⟨rfl, hb⟩; have n0_ := Aside0.mk (below_step (by repeat (first | (with_reducible first | exact HB.out | apply below_alloc | apply pw_below_drewN | apply below_drew1) | exact HB.out)) hb); clear HB; have HB := n0_; clear n0_; (try clear hb); (try clear hb2); (try clear hk); (try clear hi)))
     go_ret
     exact ⟨by first | rfl | (simp [errW_none, errW_some] <;> rfl) | (simp [*, errW_none, errW_some] <;> rfl), by repeat (first | (with_reducible first | exact HB.out | apply below_alloc | apply pw_below_drewN | apply below_drew1) | exact HB.out)⟩
    ·replace c11 := Bool.eq_false_iff.mpr c11
     subst c11
     have H1 : (none) = some r := by rw [if_neg (show ¬ (false = true) by decide)] at H; exact H
     clear H
     have H := H1
     clear H1
     exact absurd H (by simp)

/-- THE ONE PURE STATEMENT of hindsightlaw03_RecordOrders: yours. -/
def hindsightlaw03_RecordOrders.Pure : Prop := ∀ (l0 : List (S35)) (l1 : List (S35)), (l0.length ≤ 9223372036854775807 ∧ l0.length * 32 ≤ 140737488351232 ∧ ∀ y_ ∈ l0, good35 y_) → (l1.length ≤ 9223372036854775807 ∧ l1.length * 32 ≤ 140737488351232 ∧ ∀ y_ ∈ l1, good35 y_) → ∃ k, hindsightlaw03_RecordOrders.f k l0 l1 = some true
theorem hindsightlaw03_RecordOrders.walk (P : hindsightlaw03_RecordOrders.Pure) (A0 : Option Addr) (c0 : Nat) (l0 : List (S35)) (A1 : Option Addr) (c1 : Nat) (l1 : List (S35)) (w : World) (hr0 : Kd.C k35 w A0 l0.length l0) (hc0 : l0.length ≤ c0) (hr1 : Kd.C k35 w A1 l1.length l1) (hc1 : l1.length ≤ c1) (hg0 : l0.length ≤ 9223372036854775807 ∧ l0.length * 32 ≤ 140737488351232 ∧ ∀ y_ ∈ l0, good35 y_) (hg1 : l1.length ≤ 9223372036854775807 ∧ l1.length * 32 ≤ 140737488351232 ∧ ∀ y_ ∈ l1, good35 y_) :
  Calls Try.prog 10 #[.slice A0 l0.length c0, .slice A1 l1.length c1] w fun e w' => e = .returned (.bool true) ∧ Below w.heap.size w w' := by
 obtain ⟨k, h⟩ := P l0 l1 hg0 hg1
 refine (hindsightlaw03_RecordOrders.calls k _ _ l0 _ _ l1 true w hr0 hc0 hr1 hc1 h).mono ?_
 rintro e w' ⟨rfl, hd⟩
 exact ⟨rfl, hd⟩

end Go.Proofs.Ytefpnnljflcmbaa.PRe
