-- Written by a program of this session (wip/tool), which goes by the kit's print.
import Derived.Test.YtefpnnljflcmbaaPRex0
import Derived.Test.YtefpnnljflcmbaaPRex1
import Derived.Test.YtefpnnljflcmbaaPRex14
namespace Go.Proofs.Ytefpnnljflcmbaa.PRe
open Go.RowKit Go.Proofs.YtefpnnljflcmbaaW.PrintWords Go.Proofs.YtefpnnljflcmbaaW.PrintLast Go.Proofs.YtefpnnljflcmbaaW.PrintMore
attribute [local go_sem] max2_int min2_int max_two min_two max_three min_three max_four min_four   -- for this text's walks alone
set_option linter.unusedVariables false
set_option linter.unusedSimpArgs false

attribute [local go_sem high] eqA35
/-! ### hindsightref02_Order: function 30 -/
def hindsightref02_Order.j0 : Nat → Bool → Int → Int → ByteArray → Int → Int → ByteArray → Option (Int)
 | 0, _, _, _, _, _, _, _ => none
 | k + 1, x18, x379000, x379001, x379002, x380000, x380001, x380002 => if x18 = true then (some 0) else (if x379000 = x380000 then (if x379000 = 1 then (if x379001 < x380001 then (some (-1)) else (some 1)) else (if (Op.bytesLess x379002.toList x380002.toList) = true then (some (-1)) else (some 1))) else (if x379000 < x380000 then (some (-1)) else (some 1)))
def hindsightref02_Order.f (k : Nat) (a0_0 : Int) (a0_1 : Int) (a0_2 : ByteArray) (a1_0 : Int) (a1_1 : Int) (a1_2 : ByteArray) : Option (Int) := (hindsightref02_Right.f a0_0 a0_1 a0_2).bind fun t380 => (if t380 = true then ((hindsightref02_Right.f a1_0 a1_1 a1_2).bind fun t381 => (if t381 = true then (hindsightref02_Order.j0 k (a0_0 == a1_0 && (a0_1 == a1_1 && (a0_2.toList == a1_2.toList))) a0_0 a0_1 a0_2 a1_0 a1_1 a1_2) else (hindsightref02_Order.j0 k true a0_0 a0_1 a0_2 a1_0 a1_1 a1_2))) else (hindsightref02_Order.j0 k true a0_0 a0_1 a0_2 a1_0 a1_1 a1_2))
theorem hindsightref02_Order.mono_l : ∀ k, (∀ y0 y1 y2 y3 y4 y5 y6, LeO (hindsightref02_Order.j0 k y0 y1 y2 y3 y4 y5 y6) (hindsightref02_Order.j0 (k + 1) y0 y1 y2 y3 y4 y5 y6))
 | 0 => fun _ _ _ _ _ _ _ r h => by simp [hindsightref02_Order.j0] at h
 | k + 1 => by
  have ih0 := hindsightref02_Order.mono_l k
  ·intro y0 y1 y2 y3 y4 y5 y6
   unfold hindsightref02_Order.j0
   repeat' first
   | (with_reducible exact ih0 _ _ _ _ _ _ _)
   | (with_reducible exact LeO.refl _)
   | (with_reducible exact LeO.none _)
   | (with_reducible refine LeO.ite ?_ ?_)
   | (with_reducible refine LeO.bind ?_ (fun _ => ?_))
   | exact ih0 _ _ _ _ _ _ _
   | exact LeO.none _
   | refine LeO.ite ?_ ?_
   | refine LeO.bind ?_ (fun _ => ?_)
theorem hindsightref02_Order.mono : ∀ a0 a1 a2 a3 a4 a5 k, LeO (hindsightref02_Order.f k a0 a1 a2 a3 a4 a5) (hindsightref02_Order.f (k + 1) a0 a1 a2 a3 a4 a5) := by
 intro a0 a1 a2 a3 a4 a5 k
 have ih0 := hindsightref02_Order.mono_l k
 unfold hindsightref02_Order.f
 repeat' first
   | (with_reducible exact ih0 _ _ _ _ _ _ _)
   | (with_reducible exact LeO.refl _)
   | (with_reducible exact LeO.none _)
   | (with_reducible refine LeO.ite ?_ ?_)
   | (with_reducible refine LeO.bind ?_ (fun _ => ?_))
   | exact ih0 _ _ _ _ _ _ _
   | exact LeO.none _
   | refine LeO.ite ?_ ?_
   | refine LeO.bind ?_ (fun _ => ?_)
set_option maxHeartbeats 8000000 in
set_option maxRecDepth 100000 in
theorem hindsightref02_Order.calls (k : Nat) (a0_0 : Int) (a0_1 : Int) (a0_2 : ByteArray) (a1_0 : Int) (a1_1 : Int) (a1_2 : ByteArray) (r : Int) (w : World) (h : hindsightref02_Order.f k a0_0 a0_1 a0_2 a1_0 a1_1 a1_2 = some r) :
  Calls Try.prog 30 #[.agg #[.int .u8 a0_0, .int .i64 a0_1, .string a0_2], .agg #[.int .u8 a1_0, .int .i64 a1_1, .string a1_2]] w fun e w' => e = .returned (.int .i64 r) ∧ Below w.heap.size w w' := by
 have hu35 := Try.underlying35
 have HB := Aside0.mk (Below.refl w.heap.size w)
 have H : ((hindsightref02_Right.f a0_0 a0_1 a0_2).bind fun t380 => (if t380 = true then ((hindsightref02_Right.f a1_0 a1_1 a1_2).bind fun t381 => (if t381 = true then (hindsightref02_Order.j0 k (a0_0 == a1_0 && (a0_1 == a1_1 && (a0_2.toList == a1_2.toList))) a0_0 a0_1 a0_2 a1_0 a1_1 a1_2) else (hindsightref02_Order.j0 k true a0_0 a0_1 a0_2 a1_0 a1_1 a1_2))) else (hindsightref02_Order.j0 k true a0_0 a0_1 a0_2 a1_0 a1_1 a1_2))) = some r := h
 clear h
 have HC3 := Aside0.mk H
 clear H
 go_enter Try.func30, Try.ntmps30
 go_upto_region 1 with (first | ((with_reducible refine gate_dst (N := 2) rfl ?_); refine box_event ?hg (N := 2) ?hd (cs := #[.int .u8 a0_0, .int .i64 a0_1, .string a0_2]) (t := 35) ?hr ?_; (case hd => rfl); (case hg => rfl); (case hr => first | (go_simp; done) | (go_simp; rfl)); intro gb378 hg w4 hbox hb; have n0_ := Aside0.mk (below_step (by repeat (first | (with_reducible first | exact HB.out | apply below_alloc | apply pw_below_drewN | apply below_drew1) | exact HB.out)) hb); have n1_ := Aside0.mk (hbox); have n2_ := Aside0.mk ((by rw [hg]; exact (below_size (by repeat (first | (with_reducible first | exact HB.out | apply below_alloc | apply pw_below_drewN | apply below_drew1) | exact HB.out))) : w.heap.size ≤ gb378)); have n3_ := Aside0.mk ((by rw [hg]; exact (below_size (by repeat (first | (with_reducible first | exact HB.out | apply below_alloc | apply pw_below_drewN | apply below_drew1) | exact HB.out))) : w.heap.size ≤ gb378)); clear HB; have HB := n0_; have BK378 := n1_; have GW378 := n2_; have GE378 := n3_; clear n0_ n1_ n2_ n3_; clear hb hbox hg) | ((with_reducible refine gate_dst (N := 3) rfl ?_); refine box_event ?hg (N := 3) ?hd (cs := #[.int .u8 a1_0, .int .i64 a1_1, .string a1_2]) (t := 35) ?hr ?_; (case hd => rfl); (case hg => rfl); (case hr => first | (go_simp; done) | (go_simp; rfl)); intro gb379 hg w5 hbox hb; have n0_ := Aside0.mk (blk_below (g := gb378) (o := .cells #[.int .u8 a0_0, .int .i64 a0_1, .string a0_2] 35 (0, 0)) (by (with_reducible repeat (first | refine blk_drewN ?_ _ | refine blk_drew ?_ | refine blk_alloc ?_ _)); exact BK378.out) hb); have n1_ := Aside0.mk (below_step (by repeat (first | (with_reducible first | exact HB.out | apply below_alloc | apply pw_below_drewN | apply below_drew1 | refine below_set ?_ GE378.out) | exact HB.out)) hb); have n2_ := Aside0.mk (hbox); have n3_ := Aside0.mk ((by rw [hg]; exact (below_size (by repeat (first | (with_reducible first | exact HB.out | apply below_alloc | apply pw_below_drewN | apply below_drew1 | refine below_set ?_ GE378.out) | exact HB.out))) : w.heap.size ≤ gb379)); have n4_ := Aside0.mk ((by rw [hg]; exact (below_size (by repeat (first | (with_reducible first | exact HB.out | apply below_alloc | apply pw_below_drewN | apply below_drew1 | refine below_set ?_ GE378.out) | exact HB.out))) : w.heap.size ≤ gb379)); have n5_ := Aside0.mk ((by rw [hg]; exact Nat.ne_of_lt (blk_lt (g := gb378) (o := .cells #[.int .u8 a0_0, .int .i64 a0_1, .string a0_2] 35 (0, 0)) (by (with_reducible repeat (first | refine blk_drewN ?_ _ | refine blk_drew ?_ | refine blk_alloc ?_ _)); exact BK378.out)) : gb378 ≠ gb379)); have n6_ := Aside0.mk ((by rw [hg]; exact Nat.ne_of_gt (blk_lt (g := gb378) (o := .cells #[.int .u8 a0_0, .int .i64 a0_1, .string a0_2] 35 (0, 0)) (by (with_reducible repeat (first | refine blk_drewN ?_ _ | refine blk_drew ?_ | refine blk_alloc ?_ _)); exact BK378.out)) : gb379 ≠ gb378)); clear BK378; clear HB; have BK378 := n0_; have HB := n1_; have BK379 := n2_; have GW379 := n3_; have GE379 := n4_; have NB378_379 := n5_; have NB379_378 := n6_; clear n0_ n1_ n2_ n3_ n4_ n5_ n6_; clear hb hbox hg))
 (try simp only [Act.put, List.setIfInBounds_toArray, List.set_cons_zero, List.set_cons_succ])
 go_cut [18] (fun v18 wc => ∃ (kq : Nat) (x18_2 : Bool), v18 = .bool x18_2 ∧ Aside0 (hindsightref02_Order.j0 kq x18_2 a0_0 a0_1 a0_2 a1_0 a1_1 a1_2 = some r) ∧ Aside0 (kq ≤ k) ∧ Aside0 (wc.heap[gb378]? = some (.cells #[.int .u8 a0_0, .int .i64 a0_1, .string a0_2] 35 (0, 0))) ∧ Aside0 (wc.heap[gb379]? = some (.cells #[.int .u8 a1_0, .int .i64 a1_1, .string a1_2] 35 (0, 0))) ∧ Aside0 (Below w.heap.size w wc))
 case first =>
  have H := HC3.out
  clear HC3
  replace H := Option.bind_eq_some_iff.mp H
  obtain ⟨t380, A60, H⟩ := H
  replace H : (if t380 = true then ((hindsightref02_Right.f a1_0 a1_1 a1_2).bind fun t381 => (if t381 = true then (hindsightref02_Order.j0 k (a0_0 == a1_0 && (a0_1 == a1_1 && (a0_2.toList == a1_2.toList))) a0_0 a0_1 a0_2 a1_0 a1_1 a1_2) else (hindsightref02_Order.j0 k true a0_0 a0_1 a0_2 a1_0 a1_1 a1_2))) else (hindsightref02_Order.j0 k true a0_0 a0_1 a0_2 a1_0 a1_1 a1_2)) = some r := H
  have A6 := Aside0.mk A60
  clear A60
  by_cases c7 : t380 = true
  ·subst c7
   have H1 : ((hindsightref02_Right.f a1_0 a1_1 a1_2).bind fun t381 => (if t381 = true then (hindsightref02_Order.j0 k (a0_0 == a1_0 && (a0_1 == a1_1 && (a0_2.toList == a1_2.toList))) a0_0 a0_1 a0_2 a1_0 a1_1 a1_2) else (hindsightref02_Order.j0 k true a0_0 a0_1 a0_2 a1_0 a1_1 a1_2))) = some r := by rw [if_pos rfl] at H; exact H
   clear H
   have H := H1
   clear H1
   replace H := Option.bind_eq_some_iff.mp H
   obtain ⟨t381, A80, H⟩ := H
   replace H : (if t381 = true then (hindsightref02_Order.j0 k (a0_0 == a1_0 && (a0_1 == a1_1 && (a0_2.toList == a1_2.toList))) a0_0 a0_1 a0_2 a1_0 a1_1 a1_2) else (hindsightref02_Order.j0 k true a0_0 a0_1 a0_2 a1_0 a1_1 a1_2)) = some r := H
   have A8 := Aside0.mk A80
   clear A80
   by_cases c9 : t381 = true
   ·subst c9
    have H1 : (hindsightref02_Order.j0 k (a0_0 == a1_0 && (a0_1 == a1_1 && (a0_2.toList == a1_2.toList))) a0_0 a0_1 a0_2 a1_0 a1_1 a1_2) = some r := by rw [if_pos rfl] at H; exact H
    clear H
    have H := H1
    clear H1
    have H' := Aside0.mk H
    clear H
    have hnb10 := NB378_379.out
    have hnc10 := NB379_378.out
    have hcz11_0 : w5.cell? ⟨gb378, 0, none⟩ = some (.int .u8 a0_0) := (blk_cell BK378.out 0).trans rfl
    have hcz11_1 : w5.cell? ⟨gb378, 1, none⟩ = some (.int .i64 a0_1) := (blk_cell BK378.out 1).trans rfl
    have hcz11_2 : w5.cell? ⟨gb378, 2, none⟩ = some (.string a0_2) := (blk_cell BK378.out 2).trans rfl
    have hfz11_0 := blk_frozen BK378.out 0
    have hfz11_1 := blk_frozen BK378.out 1
    have hfz11_2 := blk_frozen BK378.out 2
    go_wp2_with (first | ((with_reducible refine gate_callee (f := 28) rfl ?_); refine goesL_ (some 7) rfl rfl Try.func28 (by kernel_rfl) rfl #[.agg #[.int .u8 a0_0, .int .i64 a0_1, .string a0_2]] rfl (by (try simp only [List.map_toArray, List.map_cons, List.map_nil]); first | done | rfl | (simp only [List.length_drop, List.length_take]; rfl)) ?_; (with_reducible refine (hindsightref02_Right.calls a0_0 a0_1 a0_2 true _ A6.out).mono ?_); rintro e w12 ⟨rfl, hb⟩; refine ⟨_, rfl, ?_⟩; have n0_ := Aside0.mk (blk_below (g := gb378) (o := .cells #[.int .u8 a0_0, .int .i64 a0_1, .string a0_2] 35 (0, 0)) (by (with_reducible repeat (first | refine blk_drewN ?_ _ | refine blk_drew ?_ | refine blk_alloc ?_ _)); exact BK378.out) hb); have n1_ := Aside0.mk (blk_below (g := gb379) (o := .cells #[.int .u8 a1_0, .int .i64 a1_1, .string a1_2] 35 (0, 0)) (by (with_reducible repeat (first | refine blk_drewN ?_ _ | refine blk_drew ?_ | refine blk_alloc ?_ _)); exact BK379.out) hb); have n2_ := Aside0.mk (below_step (by repeat (first | (with_reducible first | exact HB.out | apply below_alloc | apply pw_below_drewN | apply below_drew1 | refine below_set ?_ GE378.out | refine below_set ?_ GE379.out) | exact HB.out)) hb); clear BK378; clear BK379; clear HB; have BK378 := n0_; have BK379 := n1_; have HB := n2_; clear n0_ n1_ n2_; (try clear hb); (try clear hb2); (try clear hk); (try clear hi); have hcz13_0 : w12.cell? ⟨gb379, 0, none⟩ = some (.int .u8 a1_0) := (blk_cell BK379.out 0).trans rfl; have hcz13_1 : w12.cell? ⟨gb379, 1, none⟩ = some (.int .i64 a1_1) := (blk_cell BK379.out 1).trans rfl; have hcz13_2 : w12.cell? ⟨gb379, 2, none⟩ = some (.string a1_2) := (blk_cell BK379.out 2).trans rfl; have hfz13_0 := blk_frozen BK379.out 0; have hfz13_1 := blk_frozen BK379.out 1; have hfz13_2 := blk_frozen BK379.out 2) | (go_at_call 28; (with_reducible refine (hindsightref02_Right.calls a1_0 a1_1 a1_2 true _ A8.out).mono ?_); rintro e w14 ⟨rfl, hb⟩; have n0_ := Aside0.mk (blk_below (g := gb378) (o := .cells #[.int .u8 a0_0, .int .i64 a0_1, .string a0_2] 35 (0, 0)) (by (with_reducible repeat (first | refine blk_drewN ?_ _ | refine blk_drew ?_ | refine blk_alloc ?_ _)); exact BK378.out) hb); have n1_ := Aside0.mk (blk_below (g := gb379) (o := .cells #[.int .u8 a1_0, .int .i64 a1_1, .string a1_2] 35 (0, 0)) (by (with_reducible repeat (first | refine blk_drewN ?_ _ | refine blk_drew ?_ | refine blk_alloc ?_ _)); exact BK379.out) hb); have n2_ := Aside0.mk (below_step (by repeat (first | (with_reducible first | exact HB.out | apply below_alloc | apply pw_below_drewN | apply below_drew1 | refine below_set ?_ GE378.out | refine below_set ?_ GE379.out) | exact HB.out)) hb); clear BK378; clear BK379; clear HB; have BK378 := n0_; have BK379 := n1_; have HB := n2_; clear n0_ n1_ n2_; (try clear hb); (try clear hb2); (try clear hk); (try clear hi); have hcz15_0 : w14.cell? ⟨gb378, 0, none⟩ = some (.int .u8 a0_0) := (blk_cell BK378.out 0).trans rfl; have hcz15_1 : w14.cell? ⟨gb378, 1, none⟩ = some (.int .i64 a0_1) := (blk_cell BK378.out 1).trans rfl; have hcz15_2 : w14.cell? ⟨gb378, 2, none⟩ = some (.string a0_2) := (blk_cell BK378.out 2).trans rfl; have hfz15_0 := blk_frozen BK378.out 0; have hfz15_1 := blk_frozen BK378.out 1; have hfz15_2 := blk_frozen BK378.out 2; have hcz16_0 : w14.cell? ⟨gb379, 0, none⟩ = some (.int .u8 a1_0) := (blk_cell BK379.out 0).trans rfl; have hcz16_1 : w14.cell? ⟨gb379, 1, none⟩ = some (.int .i64 a1_1) := (blk_cell BK379.out 1).trans rfl; have hcz16_2 : w14.cell? ⟨gb379, 2, none⟩ = some (.string a1_2) := (blk_cell BK379.out 2).trans rfl; have hfz16_0 := blk_frozen BK379.out 0; have hfz16_1 := blk_frozen BK379.out 1; have hfz16_2 := blk_frozen BK379.out 2))
    go_meet
    case rel => exact ⟨_, ((a0_0 == a1_0 && (a0_1 == a1_1 && (a0_2.toList == a1_2.toList)))), (by first | rfl | (simp; done) | (simp [*]; done)), H', ⟨by first | omega | exact Nat.le_refl _⟩, ⟨by (with_reducible repeat (first | refine blk_drewN ?_ _ | refine blk_drew ?_ | refine blk_alloc ?_ _)); exact BK378.out⟩, ⟨by (with_reducible repeat (first | refine blk_drewN ?_ _ | refine blk_drew ?_ | refine blk_alloc ?_ _)); exact BK379.out⟩, ⟨by repeat (first | (with_reducible first | exact HB.out | apply below_alloc | apply pw_below_drewN | apply below_drew1 | refine below_set ?_ GE378.out | refine below_set ?_ GE379.out) | exact HB.out)⟩⟩
   ·replace c9 := Bool.eq_false_iff.mpr c9
    subst c9
    have H1 : (hindsightref02_Order.j0 k true a0_0 a0_1 a0_2 a1_0 a1_1 a1_2) = some r := by rw [if_neg (show ¬ (false = true) by decide)] at H; exact H
    clear H
    have H := H1
    clear H1
    have H' := Aside0.mk H
    clear H
    have hnb17 := NB378_379.out
    have hnc17 := NB379_378.out
    have hcz18_0 : w5.cell? ⟨gb378, 0, none⟩ = some (.int .u8 a0_0) := (blk_cell BK378.out 0).trans rfl
    have hcz18_1 : w5.cell? ⟨gb378, 1, none⟩ = some (.int .i64 a0_1) := (blk_cell BK378.out 1).trans rfl
    have hcz18_2 : w5.cell? ⟨gb378, 2, none⟩ = some (.string a0_2) := (blk_cell BK378.out 2).trans rfl
    have hfz18_0 := blk_frozen BK378.out 0
    have hfz18_1 := blk_frozen BK378.out 1
    have hfz18_2 := blk_frozen BK378.out 2
    go_wp2_with (first | ((with_reducible refine gate_callee (f := 28) rfl ?_); refine goesL_ (some 7) rfl rfl Try.func28 (by kernel_rfl) rfl #[.agg #[.int .u8 a0_0, .int .i64 a0_1, .string a0_2]] rfl (by (try simp only [List.map_toArray, List.map_cons, List.map_nil]); first | done | rfl | (simp only [List.length_drop, List.length_take]; rfl)) ?_; (with_reducible refine (hindsightref02_Right.calls a0_0 a0_1 a0_2 true _ A6.out).mono ?_); rintro e w19 ⟨rfl, hb⟩; refine ⟨_, rfl, ?_⟩; have n0_ := Aside0.mk (blk_below (g := gb378) (o := .cells #[.int .u8 a0_0, .int .i64 a0_1, .string a0_2] 35 (0, 0)) (by (with_reducible repeat (first | refine blk_drewN ?_ _ | refine blk_drew ?_ | refine blk_alloc ?_ _)); exact BK378.out) hb); have n1_ := Aside0.mk (blk_below (g := gb379) (o := .cells #[.int .u8 a1_0, .int .i64 a1_1, .string a1_2] 35 (0, 0)) (by (with_reducible repeat (first | refine blk_drewN ?_ _ | refine blk_drew ?_ | refine blk_alloc ?_ _)); exact BK379.out) hb); have n2_ := Aside0.mk (below_step (by repeat (first | (with_reducible first | exact HB.out | apply below_alloc | apply pw_below_drewN | apply below_drew1 | refine below_set ?_ GE378.out | refine below_set ?_ GE379.out) | exact HB.out)) hb); clear BK378; clear BK379; clear HB; have BK378 := n0_; have BK379 := n1_; have HB := n2_; clear n0_ n1_ n2_; (try clear hb); (try clear hb2); (try clear hk); (try clear hi); have hcz20_0 : w19.cell? ⟨gb379, 0, none⟩ = some (.int .u8 a1_0) := (blk_cell BK379.out 0).trans rfl; have hcz20_1 : w19.cell? ⟨gb379, 1, none⟩ = some (.int .i64 a1_1) := (blk_cell BK379.out 1).trans rfl; have hcz20_2 : w19.cell? ⟨gb379, 2, none⟩ = some (.string a1_2) := (blk_cell BK379.out 2).trans rfl; have hfz20_0 := blk_frozen BK379.out 0; have hfz20_1 := blk_frozen BK379.out 1; have hfz20_2 := blk_frozen BK379.out 2) | (go_at_call 28; (with_reducible refine (hindsightref02_Right.calls a1_0 a1_1 a1_2 false _ A8.out).mono ?_); rintro e w21 ⟨rfl, hb⟩; have n0_ := Aside0.mk (blk_below (g := gb378) (o := .cells #[.int .u8 a0_0, .int .i64 a0_1, .string a0_2] 35 (0, 0)) (by (with_reducible repeat (first | refine blk_drewN ?_ _ | refine blk_drew ?_ | refine blk_alloc ?_ _)); exact BK378.out) hb); have n1_ := Aside0.mk (blk_below (g := gb379) (o := .cells #[.int .u8 a1_0, .int .i64 a1_1, .string a1_2] 35 (0, 0)) (by (with_reducible repeat (first | refine blk_drewN ?_ _ | refine blk_drew ?_ | refine blk_alloc ?_ _)); exact BK379.out) hb); have n2_ := Aside0.mk (below_step (by repeat (first | (with_reducible first | exact HB.out | apply below_alloc | apply pw_below_drewN | apply below_drew1 | refine below_set ?_ GE378.out | refine below_set ?_ GE379.out) | exact HB.out)) hb); clear BK378; clear BK379; clear HB; have BK378 := n0_; have BK379 := n1_; have HB := n2_; clear n0_ n1_ n2_; (try clear hb); (try clear hb2); (try clear hk); (try clear hi)))
    go_meet
    case rel => exact ⟨_, (true), (by first | rfl | (simp; done) | (simp [*]; done)), H', ⟨by first | omega | exact Nat.le_refl _⟩, ⟨by (with_reducible repeat (first | refine blk_drewN ?_ _ | refine blk_drew ?_ | refine blk_alloc ?_ _)); exact BK378.out⟩, ⟨by (with_reducible repeat (first | refine blk_drewN ?_ _ | refine blk_drew ?_ | refine blk_alloc ?_ _)); exact BK379.out⟩, ⟨by repeat (first | (with_reducible first | exact HB.out | apply below_alloc | apply pw_below_drewN | apply below_drew1 | refine below_set ?_ GE378.out | refine below_set ?_ GE379.out) | exact HB.out)⟩⟩
  ·replace c7 := Bool.eq_false_iff.mpr c7
   subst c7
   have H1 : (hindsightref02_Order.j0 k true a0_0 a0_1 a0_2 a1_0 a1_1 a1_2) = some r := by rw [if_neg (show ¬ (false = true) by decide)] at H; exact H
   clear H
   have H := H1
   clear H1
   have H' := Aside0.mk H
   clear H
   have hnb22 := NB378_379.out
   have hnc22 := NB379_378.out
   have hcz23_0 : w5.cell? ⟨gb378, 0, none⟩ = some (.int .u8 a0_0) := (blk_cell BK378.out 0).trans rfl
   have hcz23_1 : w5.cell? ⟨gb378, 1, none⟩ = some (.int .i64 a0_1) := (blk_cell BK378.out 1).trans rfl
   have hcz23_2 : w5.cell? ⟨gb378, 2, none⟩ = some (.string a0_2) := (blk_cell BK378.out 2).trans rfl
   have hfz23_0 := blk_frozen BK378.out 0
   have hfz23_1 := blk_frozen BK378.out 1
   have hfz23_2 := blk_frozen BK378.out 2
   go_wp2_with (first | ((with_reducible refine gate_callee (f := 28) rfl ?_); refine goesL_ (some 7) rfl rfl Try.func28 (by kernel_rfl) rfl #[.agg #[.int .u8 a0_0, .int .i64 a0_1, .string a0_2]] rfl (by (try simp only [List.map_toArray, List.map_cons, List.map_nil]); first | done | rfl | (simp only [List.length_drop, List.length_take]; rfl)) ?_; (with_reducible refine (hindsightref02_Right.calls a0_0 a0_1 a0_2 false _ A6.out).mono ?_); rintro e w24 ⟨rfl, hb⟩; refine ⟨_, rfl, ?_⟩; have n0_ := Aside0.mk (blk_below (g := gb378) (o := .cells #[.int .u8 a0_0, .int .i64 a0_1, .string a0_2] 35 (0, 0)) (by (with_reducible repeat (first | refine blk_drewN ?_ _ | refine blk_drew ?_ | refine blk_alloc ?_ _)); exact BK378.out) hb); have n1_ := Aside0.mk (blk_below (g := gb379) (o := .cells #[.int .u8 a1_0, .int .i64 a1_1, .string a1_2] 35 (0, 0)) (by (with_reducible repeat (first | refine blk_drewN ?_ _ | refine blk_drew ?_ | refine blk_alloc ?_ _)); exact BK379.out) hb); have n2_ := Aside0.mk (below_step (by repeat (first | (with_reducible first | exact HB.out | apply below_alloc | apply pw_below_drewN | apply below_drew1 | refine below_set ?_ GE378.out | refine below_set ?_ GE379.out) | exact HB.out)) hb); clear BK378; clear BK379; clear HB; have BK378 := n0_; have BK379 := n1_; have HB := n2_; clear n0_ n1_ n2_; (try clear hb); (try clear hb2); (try clear hk); (try clear hi)))
   go_meet
   case rel => exact ⟨_, (true), (by first | rfl | (simp; done) | (simp [*]; done)), H', ⟨by first | omega | exact Nat.le_refl _⟩, ⟨by (with_reducible repeat (first | refine blk_drewN ?_ _ | refine blk_drew ?_ | refine blk_alloc ?_ _)); exact BK378.out⟩, ⟨by (with_reducible repeat (first | refine blk_drewN ?_ _ | refine blk_drew ?_ | refine blk_alloc ?_ _)); exact BK379.out⟩, ⟨by repeat (first | (with_reducible first | exact HB.out | apply below_alloc | apply pw_below_drewN | apply below_drew1 | refine below_set ?_ GE378.out | refine below_set ?_ GE379.out) | exact HB.out)⟩⟩
 case rest =>
  clear HC3
  try clear c1
  try clear c2
  try clear p2
  try clear c3
  try clear c7
  try clear c9
  try clear c10
  try clear c17
  try clear c22
  try clear hcz11_0
  try clear hcz11_1
  try clear hcz11_2
  try clear hcz13_0
  try clear hcz13_1
  try clear hcz13_2
  try clear hcz15_0
  try clear hcz15_1
  try clear hcz15_2
  try clear hcz16_0
  try clear hcz16_1
  try clear hcz16_2
  try clear hcz18_0
  try clear hcz18_1
  try clear hcz18_2
  try clear hcz20_0
  try clear hcz20_1
  try clear hcz20_2
  try clear hcz23_0
  try clear hcz23_1
  try clear hcz23_2
  try clear hfz11_0
  try clear hfz11_1
  try clear hfz11_2
  try clear hfz13_0
  try clear hfz13_1
  try clear hfz13_2
  try clear hfz15_0
  try clear hfz15_1
  try clear hfz15_2
  try clear hfz16_0
  try clear hfz16_1
  try clear hfz16_2
  try clear hfz18_0
  try clear hfz18_1
  try clear hfz18_2
  try clear hfz20_0
  try clear hfz20_1
  try clear hfz20_2
  try clear hfz23_0
  try clear hfz23_1
  try clear hfz23_2
  obtain ⟨kq, x18_2, rfl, HA, HJ2, BK378, BK379, HB⟩ := hcut
  cases kq with
  | zero => exact absurd HA.out (by simp [hindsightref02_Order.j0])
  | succ kj2 =>
   have H := HA.out
   clear HA
   simp only [hindsightref02_Order.j0] at H
   by_cases c25 : x18_2 = true
   ·subst c25
    have H1 : (some 0) = some r := by rw [if_pos rfl] at H; exact H
    clear H
    have H := H1
    clear H1
    obtain rfl := Option.some.inj H
    go_wp2
    go_ret
    exact ⟨by first | rfl | (simp [errW_none, errW_some] <;> rfl) | (simp [*, errW_none, errW_some] <;> rfl), by repeat (first | (with_reducible first | exact HB.out | apply below_alloc | apply pw_below_drewN | apply below_drew1 | refine below_set ?_ GE378.out | refine below_set ?_ GE379.out) | exact HB.out)⟩
   ·replace c25 := Bool.eq_false_iff.mpr c25
    subst c25
    have H1 : (if a0_0 = a1_0 then (if a0_0 = 1 then (if a0_1 < a1_1 then (some (-1)) else (some 1)) else (if (Op.bytesLess a0_2.toList a1_2.toList) = true then (some (-1)) else (some 1))) else (if a0_0 < a1_0 then (some (-1)) else (some 1))) = some r := by rw [if_neg (show ¬ (false = true) by decide)] at H; exact H
    clear H
    have H := H1
    clear H1
    by_cases c26 : a0_0 = a1_0
    ·rw [if_pos c26] at H
     have c26b0 : (a0_0 == a1_0) = true := beq_iff_eq.mpr c26
     have c26b1 : (a0_0 != a1_0) = false := bne_eq_false_iff_eq.mpr c26
     clear c26
     by_cases c27 : a0_0 = 1
     ·rw [if_pos c27] at H
      have c27b0 : (a0_0 == 1) = true := beq_iff_eq.mpr c27
      have c27b1 : (a0_0 != 1) = false := bne_eq_false_iff_eq.mpr c27
      clear c27
      by_cases c28 : a0_1 < a1_1
      ·rw [if_pos c28] at H
       have c28b0 : decide (a0_1 < a1_1) = true := decide_eq_true c28
       clear c28
       obtain rfl := Option.some.inj H
       have hnb29 := NB378_379.out
       have hnc29 := NB379_378.out
       have hcz30_0 : wc.cell? ⟨gb378, 0, none⟩ = some (.int .u8 a0_0) := (blk_cell BK378.out 0).trans rfl
       have hcz30_1 : wc.cell? ⟨gb378, 1, none⟩ = some (.int .i64 a0_1) := (blk_cell BK378.out 1).trans rfl
       have hcz30_2 : wc.cell? ⟨gb378, 2, none⟩ = some (.string a0_2) := (blk_cell BK378.out 2).trans rfl
       have hfz30_0 := blk_frozen BK378.out 0
       have hfz30_1 := blk_frozen BK378.out 1
       have hfz30_2 := blk_frozen BK378.out 2
       have hcz31_0 : wc.cell? ⟨gb379, 0, none⟩ = some (.int .u8 a1_0) := (blk_cell BK379.out 0).trans rfl
       have hcz31_1 : wc.cell? ⟨gb379, 1, none⟩ = some (.int .i64 a1_1) := (blk_cell BK379.out 1).trans rfl
       have hcz31_2 : wc.cell? ⟨gb379, 2, none⟩ = some (.string a1_2) := (blk_cell BK379.out 2).trans rfl
       have hfz31_0 := blk_frozen BK379.out 0
       have hfz31_1 := blk_frozen BK379.out 1
       have hfz31_2 := blk_frozen BK379.out 2
       go_wp2
       go_ret
       exact ⟨by first | rfl | (simp [errW_none, errW_some] <;> rfl) | (simp [*, errW_none, errW_some] <;> rfl), by repeat (first | (with_reducible first | exact HB.out | apply below_alloc | apply pw_below_drewN | apply below_drew1 | refine below_set ?_ GE378.out | refine below_set ?_ GE379.out) | exact HB.out)⟩
      ·rw [if_neg c28] at H
       have c28b0 : decide (a0_1 < a1_1) = false := decide_eq_false c28
       clear c28
       obtain rfl := Option.some.inj H
       have hnb32 := NB378_379.out
       have hnc32 := NB379_378.out
       have hcz33_0 : wc.cell? ⟨gb378, 0, none⟩ = some (.int .u8 a0_0) := (blk_cell BK378.out 0).trans rfl
       have hcz33_1 : wc.cell? ⟨gb378, 1, none⟩ = some (.int .i64 a0_1) := (blk_cell BK378.out 1).trans rfl
       have hcz33_2 : wc.cell? ⟨gb378, 2, none⟩ = some (.string a0_2) := (blk_cell BK378.out 2).trans rfl
       have hfz33_0 := blk_frozen BK378.out 0
       have hfz33_1 := blk_frozen BK378.out 1
       have hfz33_2 := blk_frozen BK378.out 2
       have hcz34_0 : wc.cell? ⟨gb379, 0, none⟩ = some (.int .u8 a1_0) := (blk_cell BK379.out 0).trans rfl
       have hcz34_1 : wc.cell? ⟨gb379, 1, none⟩ = some (.int .i64 a1_1) := (blk_cell BK379.out 1).trans rfl
       have hcz34_2 : wc.cell? ⟨gb379, 2, none⟩ = some (.string a1_2) := (blk_cell BK379.out 2).trans rfl
       have hfz34_0 := blk_frozen BK379.out 0
       have hfz34_1 := blk_frozen BK379.out 1
       have hfz34_2 := blk_frozen BK379.out 2
       go_wp2
       go_ret
       exact ⟨by first | rfl | (simp [errW_none, errW_some] <;> rfl) | (simp [*, errW_none, errW_some] <;> rfl), by repeat (first | (with_reducible first | exact HB.out | apply below_alloc | apply pw_below_drewN | apply below_drew1 | refine below_set ?_ GE378.out | refine below_set ?_ GE379.out) | exact HB.out)⟩
     ·rw [if_neg c27] at H
      have c27b0 : (a0_0 == 1) = false := beq_eq_false_iff_ne.mpr c27
      have c27b1 : (a0_0 != 1) = true := bne_iff_ne.mpr c27
      by_cases c35 : (Op.bytesLess a0_2.toList a1_2.toList) = true
      ·rw [if_pos c35] at H
       have c35b0 : (Op.bytesLess a0_2.toList a1_2.toList) = true := c35
       clear c35
       obtain rfl := Option.some.inj H
       have hnb36 := NB378_379.out
       have hnc36 := NB379_378.out
       have hcz37_0 : wc.cell? ⟨gb378, 0, none⟩ = some (.int .u8 a0_0) := (blk_cell BK378.out 0).trans rfl
       have hcz37_1 : wc.cell? ⟨gb378, 1, none⟩ = some (.int .i64 a0_1) := (blk_cell BK378.out 1).trans rfl
       have hcz37_2 : wc.cell? ⟨gb378, 2, none⟩ = some (.string a0_2) := (blk_cell BK378.out 2).trans rfl
       have hfz37_0 := blk_frozen BK378.out 0
       have hfz37_1 := blk_frozen BK378.out 1
       have hfz37_2 := blk_frozen BK378.out 2
       have hcz38_0 : wc.cell? ⟨gb379, 0, none⟩ = some (.int .u8 a1_0) := (blk_cell BK379.out 0).trans rfl
       have hcz38_1 : wc.cell? ⟨gb379, 1, none⟩ = some (.int .i64 a1_1) := (blk_cell BK379.out 1).trans rfl
       have hcz38_2 : wc.cell? ⟨gb379, 2, none⟩ = some (.string a1_2) := (blk_cell BK379.out 2).trans rfl
       have hfz38_0 := blk_frozen BK379.out 0
       have hfz38_1 := blk_frozen BK379.out 1
       have hfz38_2 := blk_frozen BK379.out 2
       go_wp2
       go_ret
       exact ⟨by first | rfl | (simp [errW_none, errW_some] <;> rfl) | (simp [*, errW_none, errW_some] <;> rfl), by repeat (first | (with_reducible first | exact HB.out | apply below_alloc | apply pw_below_drewN | apply below_drew1 | refine below_set ?_ GE378.out | refine below_set ?_ GE379.out) | exact HB.out)⟩
      ·rw [if_neg c35] at H
       have c35b0 : (Op.bytesLess a0_2.toList a1_2.toList) = false := by simpa using c35
       clear c35
       obtain rfl := Option.some.inj H
       have hnb39 := NB378_379.out
       have hnc39 := NB379_378.out
       have hcz40_0 : wc.cell? ⟨gb378, 0, none⟩ = some (.int .u8 a0_0) := (blk_cell BK378.out 0).trans rfl
       have hcz40_1 : wc.cell? ⟨gb378, 1, none⟩ = some (.int .i64 a0_1) := (blk_cell BK378.out 1).trans rfl
       have hcz40_2 : wc.cell? ⟨gb378, 2, none⟩ = some (.string a0_2) := (blk_cell BK378.out 2).trans rfl
       have hfz40_0 := blk_frozen BK378.out 0
       have hfz40_1 := blk_frozen BK378.out 1
       have hfz40_2 := blk_frozen BK378.out 2
       have hcz41_0 : wc.cell? ⟨gb379, 0, none⟩ = some (.int .u8 a1_0) := (blk_cell BK379.out 0).trans rfl
       have hcz41_1 : wc.cell? ⟨gb379, 1, none⟩ = some (.int .i64 a1_1) := (blk_cell BK379.out 1).trans rfl
       have hcz41_2 : wc.cell? ⟨gb379, 2, none⟩ = some (.string a1_2) := (blk_cell BK379.out 2).trans rfl
       have hfz41_0 := blk_frozen BK379.out 0
       have hfz41_1 := blk_frozen BK379.out 1
       have hfz41_2 := blk_frozen BK379.out 2
       go_wp2
       go_ret
       exact ⟨by first | rfl | (simp [errW_none, errW_some] <;> rfl) | (simp [*, errW_none, errW_some] <;> rfl), by repeat (first | (with_reducible first | exact HB.out | apply below_alloc | apply pw_below_drewN | apply below_drew1 | refine below_set ?_ GE378.out | refine below_set ?_ GE379.out) | exact HB.out)⟩
    ·rw [if_neg c26] at H
     have c26b0 : (a0_0 == a1_0) = false := beq_eq_false_iff_ne.mpr c26
     have c26b1 : (a0_0 != a1_0) = true := bne_iff_ne.mpr c26
     by_cases c42 : a0_0 < a1_0
     ·rw [if_pos c42] at H
      have c42b0 : decide (a0_0 < a1_0) = true := decide_eq_true c42
      clear c42
      obtain rfl := Option.some.inj H
      have hnb43 := NB378_379.out
      have hnc43 := NB379_378.out
      have hcz44_0 : wc.cell? ⟨gb378, 0, none⟩ = some (.int .u8 a0_0) := (blk_cell BK378.out 0).trans rfl
      have hcz44_1 : wc.cell? ⟨gb378, 1, none⟩ = some (.int .i64 a0_1) := (blk_cell BK378.out 1).trans rfl
      have hcz44_2 : wc.cell? ⟨gb378, 2, none⟩ = some (.string a0_2) := (blk_cell BK378.out 2).trans rfl
      have hfz44_0 := blk_frozen BK378.out 0
      have hfz44_1 := blk_frozen BK378.out 1
      have hfz44_2 := blk_frozen BK378.out 2
      have hcz45_0 : wc.cell? ⟨gb379, 0, none⟩ = some (.int .u8 a1_0) := (blk_cell BK379.out 0).trans rfl
      have hcz45_1 : wc.cell? ⟨gb379, 1, none⟩ = some (.int .i64 a1_1) := (blk_cell BK379.out 1).trans rfl
      have hcz45_2 : wc.cell? ⟨gb379, 2, none⟩ = some (.string a1_2) := (blk_cell BK379.out 2).trans rfl
      have hfz45_0 := blk_frozen BK379.out 0
      have hfz45_1 := blk_frozen BK379.out 1
      have hfz45_2 := blk_frozen BK379.out 2
      go_wp2
      go_ret
      exact ⟨by first | rfl | (simp [errW_none, errW_some] <;> rfl) | (simp [*, errW_none, errW_some] <;> rfl), by repeat (first | (with_reducible first | exact HB.out | apply below_alloc | apply pw_below_drewN | apply below_drew1 | refine below_set ?_ GE378.out | refine below_set ?_ GE379.out) | exact HB.out)⟩
     ·rw [if_neg c42] at H
      have c42b0 : decide (a0_0 < a1_0) = false := decide_eq_false c42
      clear c42
      obtain rfl := Option.some.inj H
      have hnb46 := NB378_379.out
      have hnc46 := NB379_378.out
      have hcz47_0 : wc.cell? ⟨gb378, 0, none⟩ = some (.int .u8 a0_0) := (blk_cell BK378.out 0).trans rfl
      have hcz47_1 : wc.cell? ⟨gb378, 1, none⟩ = some (.int .i64 a0_1) := (blk_cell BK378.out 1).trans rfl
      have hcz47_2 : wc.cell? ⟨gb378, 2, none⟩ = some (.string a0_2) := (blk_cell BK378.out 2).trans rfl
      have hfz47_0 := blk_frozen BK378.out 0
      have hfz47_1 := blk_frozen BK378.out 1
      have hfz47_2 := blk_frozen BK378.out 2
      have hcz48_0 : wc.cell? ⟨gb379, 0, none⟩ = some (.int .u8 a1_0) := (blk_cell BK379.out 0).trans rfl
      have hcz48_1 : wc.cell? ⟨gb379, 1, none⟩ = some (.int .i64 a1_1) := (blk_cell BK379.out 1).trans rfl
      have hcz48_2 : wc.cell? ⟨gb379, 2, none⟩ = some (.string a1_2) := (blk_cell BK379.out 2).trans rfl
      have hfz48_0 := blk_frozen BK379.out 0
      have hfz48_1 := blk_frozen BK379.out 1
      have hfz48_2 := blk_frozen BK379.out 2
      go_wp2
      go_ret
      exact ⟨by first | rfl | (simp [errW_none, errW_some] <;> rfl) | (simp [*, errW_none, errW_some] <;> rfl), by repeat (first | (with_reducible first | exact HB.out | apply below_alloc | apply pw_below_drewN | apply below_drew1 | refine below_set ?_ GE378.out | refine below_set ?_ GE379.out) | exact HB.out)⟩

end Go.Proofs.Ytefpnnljflcmbaa.PRe
