-- Written by a program of this session (wip/tool), which goes by the kit's print.
import Derived.Test.YtefpnnljflcmbaaPCex0
import Derived.Test.YtefpnnljflcmbaaPCex7
import Derived.Test.YtefpnnljflcmbaaPCex35
import Derived.Test.YtefpnnljflcmbaaPCex36
namespace Go.Proofs.Ytefpnnljflcmbaa.PCe
open Go.RowKit Go.Proofs.YtefpnnljflcmbaaW.PrintWords Go.Proofs.YtefpnnljflcmbaaW.PrintLast Go.Proofs.YtefpnnljflcmbaaW.PrintMore
attribute [local go_sem] max2_int min2_int max_two min_two max_three min_three max_four min_four   -- for this text's walks alone
set_option linter.unusedVariables false
set_option linter.unusedSimpArgs false

/-! ### cell_Div: function 55 -/
def cell_Div.j0 : Nat → Int → Bool → Int → Int → ByteArray → Int → Int → ByteArray → Option (Int × Int × ByteArray × Int)
 | 0, _, _, _, _, _, _, _, _ => none
 | k + 1, x7, x18, x523000, x523001, x523002, x524000, x524001, x524002 => if x18 = true then (some (0, 0, (⟨#[]⟩ : ByteArray), x7)) else (if x524001 = (-1) then ((cell_Neg.f k x523000 x523001 x523002).bind fun bt527 => (some (bt527.1, bt527.2.1, bt527.2.2.1, bt527.2.2.2))) else (if x524001 = 0 then (none) else ((cell_number.f (wrap64 (Int.tdiv x523001 x524001))).bind fun bt531 => (some (bt531.1, bt531.2.1, bt531.2.2, 0)))))
def cell_Div.f (k : Nat) (a0_0 : Int) (a0_1 : Int) (a0_2 : ByteArray) (a1_0 : Int) (a1_1 : Int) (a1_2 : ByteArray) : Option (Int × Int × ByteArray × Int) := (cell_divides.f k a0_0 a0_1 a0_2 a1_0 a1_1 a1_2).bind fun bt525 => (if bt525.2 = 0 then (cell_Div.j0 k bt525.2 bt525.1 a0_0 a0_1 a0_2 a1_0 a1_1 a1_2) else (cell_Div.j0 k bt525.2 true a0_0 a0_1 a0_2 a1_0 a1_1 a1_2))
theorem cell_Div.mono_l : ∀ k, (∀ y0 y1 y2 y3 y4 y5 y6 y7, LeO (cell_Div.j0 k y0 y1 y2 y3 y4 y5 y6 y7) (cell_Div.j0 (k + 1) y0 y1 y2 y3 y4 y5 y6 y7))
 | 0 => fun _ _ _ _ _ _ _ _ r h => by simp [cell_Div.j0] at h
 | k + 1 => by
  have ih0 := cell_Div.mono_l k
  ·intro y0 y1 y2 y3 y4 y5 y6 y7
   unfold cell_Div.j0
   repeat' first
   | (with_reducible exact ih0 _ _ _ _ _ _ _ _)
   | (with_reducible exact cell_Neg.mono _ _ _ _)
   | (with_reducible exact cell_divides.mono _ _ _ _ _ _ _)
   | (with_reducible exact LeO.refl _)
   | (with_reducible exact LeO.none _)
   | (with_reducible refine LeO.ite ?_ ?_)
   | (with_reducible refine LeO.bind ?_ (fun _ => ?_))
   | exact ih0 _ _ _ _ _ _ _ _
   | exact cell_Neg.mono _ _ _ _
   | exact cell_divides.mono _ _ _ _ _ _ _
   | exact LeO.none _
   | refine LeO.ite ?_ ?_
   | refine LeO.bind ?_ (fun _ => ?_)
theorem cell_Div.mono : ∀ a0 a1 a2 a3 a4 a5 k, LeO (cell_Div.f k a0 a1 a2 a3 a4 a5) (cell_Div.f (k + 1) a0 a1 a2 a3 a4 a5) := by
 intro a0 a1 a2 a3 a4 a5 k
 have ih0 := cell_Div.mono_l k
 unfold cell_Div.f
 repeat' first
   | (with_reducible exact ih0 _ _ _ _ _ _ _ _)
   | (with_reducible exact cell_Neg.mono _ _ _ _)
   | (with_reducible exact cell_divides.mono _ _ _ _ _ _ _)
   | (with_reducible exact LeO.refl _)
   | (with_reducible exact LeO.none _)
   | (with_reducible refine LeO.ite ?_ ?_)
   | (with_reducible refine LeO.bind ?_ (fun _ => ?_))
   | exact ih0 _ _ _ _ _ _ _ _
   | exact cell_Neg.mono _ _ _ _
   | exact cell_divides.mono _ _ _ _ _ _ _
   | exact LeO.none _
   | refine LeO.ite ?_ ?_
   | refine LeO.bind ?_ (fun _ => ?_)
set_option maxHeartbeats 8000000 in
set_option maxRecDepth 100000 in
theorem cell_Div.calls (k : Nat) (a0_0 : Int) (a0_1 : Int) (a0_2 : ByteArray) (a1_0 : Int) (a1_1 : Int) (a1_2 : ByteArray) (r1 : Int) (r2 : Int) (r3 : ByteArray) (r4 : Int) (w : World) (h : cell_Div.f k a0_0 a0_1 a0_2 a1_0 a1_1 a1_2 = some (r1, r2, r3, r4)) :
  Calls Try.prog 55 #[.agg #[.int .u8 a0_0, .int .i64 a0_1, .string a0_2], .agg #[.int .u8 a1_0, .int .i64 a1_1, .string a1_2]] w fun e w' => e = .returned (.tuple #[.agg #[.int .u8 r1, .int .i64 r2, .string r3], .int .i64 r4]) ∧ Below w.heap.size w w' := by
 have hu35 := Try.underlying35
 have HB := Aside0.mk (Below.refl w.heap.size w)
 have H : ((cell_divides.f k a0_0 a0_1 a0_2 a1_0 a1_1 a1_2).bind fun bt525 => (if bt525.2 = 0 then (cell_Div.j0 k bt525.2 bt525.1 a0_0 a0_1 a0_2 a1_0 a1_1 a1_2) else (cell_Div.j0 k bt525.2 true a0_0 a0_1 a0_2 a1_0 a1_1 a1_2))) = some (r1, r2, r3, r4) := h
 clear h
 replace H := Option.bind_eq_some_iff.mp H
 obtain ⟨⟨t525, t526⟩, A30, H⟩ := H
 replace H : (if t526 = 0 then (cell_Div.j0 k t526 t525 a0_0 a0_1 a0_2 a1_0 a1_1 a1_2) else (cell_Div.j0 k t526 true a0_0 a0_1 a0_2 a1_0 a1_1 a1_2)) = some (r1, r2, r3, r4) := H
 have A3 := Aside0.mk A30
 clear A30
 have HC4 := Aside0.mk H
 clear H
 go_enter Try.func55, Try.ntmps55
 go_upto_region 2 with (first | ((with_reducible refine gate_dst (N := 2) rfl ?_); refine box_event ?hg (N := 2) ?hd (cs := #[.int .u8 a0_0, .int .i64 a0_1, .string a0_2]) (t := 35) ?hr ?_; (case hd => rfl); (case hg => rfl); (case hr => first | (go_simp; done) | (go_simp; rfl)); intro gb522 hg w5 hbox hb; have n0_ := Aside0.mk (below_step (by repeat (first | (with_reducible first | exact HB.out | apply below_alloc | apply pw_below_drewN | apply below_drew1) | exact HB.out)) hb); have n1_ := Aside0.mk (hbox); have n2_ := Aside0.mk ((by rw [hg]; exact (below_size (by repeat (first | (with_reducible first | exact HB.out | apply below_alloc | apply pw_below_drewN | apply below_drew1) | exact HB.out))) : w.heap.size ≤ gb522)); have n3_ := Aside0.mk ((by rw [hg]; exact (below_size (by repeat (first | (with_reducible first | exact HB.out | apply below_alloc | apply pw_below_drewN | apply below_drew1) | exact HB.out))) : w.heap.size ≤ gb522)); clear HB; have HB := n0_; have BK522 := n1_; have GW522 := n2_; have GE522 := n3_; clear n0_ n1_ n2_ n3_; clear hb hbox hg) | ((with_reducible refine gate_dst (N := 3) rfl ?_); refine box_event ?hg (N := 3) ?hd (cs := #[.int .u8 a1_0, .int .i64 a1_1, .string a1_2]) (t := 35) ?hr ?_; (case hd => rfl); (case hg => rfl); (case hr => first | (go_simp; done) | (go_simp; rfl)); intro gb523 hg w6 hbox hb; have n0_ := Aside0.mk (blk_below (g := gb522) (o := .cells #[.int .u8 a0_0, .int .i64 a0_1, .string a0_2] 35 (0, 0)) (by (with_reducible repeat (first | refine blk_drewN ?_ _ | refine blk_drew ?_ | refine blk_alloc ?_ _)); exact BK522.out) hb); have n1_ := Aside0.mk (below_step (by repeat (first | (with_reducible first | exact HB.out | apply below_alloc | apply pw_below_drewN | apply below_drew1 | refine below_set ?_ GE522.out) | exact HB.out)) hb); have n2_ := Aside0.mk (hbox); have n3_ := Aside0.mk ((by rw [hg]; exact (below_size (by repeat (first | (with_reducible first | exact HB.out | apply below_alloc | apply pw_below_drewN | apply below_drew1 | refine below_set ?_ GE522.out) | exact HB.out))) : w.heap.size ≤ gb523)); have n4_ := Aside0.mk ((by rw [hg]; exact (below_size (by repeat (first | (with_reducible first | exact HB.out | apply below_alloc | apply pw_below_drewN | apply below_drew1 | refine below_set ?_ GE522.out) | exact HB.out))) : w.heap.size ≤ gb523)); have n5_ := Aside0.mk ((by rw [hg]; exact Nat.ne_of_lt (blk_lt (g := gb522) (o := .cells #[.int .u8 a0_0, .int .i64 a0_1, .string a0_2] 35 (0, 0)) (by (with_reducible repeat (first | refine blk_drewN ?_ _ | refine blk_drew ?_ | refine blk_alloc ?_ _)); exact BK522.out)) : gb522 ≠ gb523)); have n6_ := Aside0.mk ((by rw [hg]; exact Nat.ne_of_gt (blk_lt (g := gb522) (o := .cells #[.int .u8 a0_0, .int .i64 a0_1, .string a0_2] 35 (0, 0)) (by (with_reducible repeat (first | refine blk_drewN ?_ _ | refine blk_drew ?_ | refine blk_alloc ?_ _)); exact BK522.out)) : gb523 ≠ gb522)); clear BK522; clear HB; have BK522 := n0_; have HB := n1_; have BK523 := n2_; have GW523 := n3_; have GE523 := n4_; have NB522_523 := n5_; have NB523_522 := n6_; clear n0_ n1_ n2_ n3_ n4_ n5_ n6_; clear hb hbox hg) | ((with_reducible refine gate_dst (N := 4) rfl ?_); refine box_event ?hg (N := 4) ?hd (cs := #[.int .u8 0, .int .i64 0, .string (⟨#[]⟩ : ByteArray)]) (t := 35) ?hr ?_; (case hd => rfl); (case hg => rfl); (case hr => first | (go_simp; done) | (go_simp; rfl)); intro gb524 hg w7 hbox hb; have n0_ := Aside0.mk (blk_below (g := gb522) (o := .cells #[.int .u8 a0_0, .int .i64 a0_1, .string a0_2] 35 (0, 0)) (by (with_reducible repeat (first | refine blk_drewN ?_ _ | refine blk_drew ?_ | refine blk_alloc ?_ _)); exact BK522.out) hb); have n1_ := Aside0.mk (blk_below (g := gb523) (o := .cells #[.int .u8 a1_0, .int .i64 a1_1, .string a1_2] 35 (0, 0)) (by (with_reducible repeat (first | refine blk_drewN ?_ _ | refine blk_drew ?_ | refine blk_alloc ?_ _)); exact BK523.out) hb); have n2_ := Aside0.mk (below_step (by repeat (first | (with_reducible first | exact HB.out | apply below_alloc | apply pw_below_drewN | apply below_drew1 | refine below_set ?_ GE522.out | refine below_set ?_ GE523.out) | exact HB.out)) hb); have n3_ := Aside0.mk (hbox); have n4_ := Aside0.mk ((by rw [hg]; exact (below_size (by repeat (first | (with_reducible first | exact HB.out | apply below_alloc | apply pw_below_drewN | apply below_drew1 | refine below_set ?_ GE522.out | refine below_set ?_ GE523.out) | exact HB.out))) : w.heap.size ≤ gb524)); have n5_ := Aside0.mk ((by rw [hg]; exact (below_size (by repeat (first | (with_reducible first | exact HB.out | apply below_alloc | apply pw_below_drewN | apply below_drew1 | refine below_set ?_ GE522.out | refine below_set ?_ GE523.out) | exact HB.out))) : w.heap.size ≤ gb524)); have n6_ := Aside0.mk ((by rw [hg]; exact Nat.ne_of_lt (blk_lt (g := gb522) (o := .cells #[.int .u8 a0_0, .int .i64 a0_1, .string a0_2] 35 (0, 0)) (by (with_reducible repeat (first | refine blk_drewN ?_ _ | refine blk_drew ?_ | refine blk_alloc ?_ _)); exact BK522.out)) : gb522 ≠ gb524)); have n7_ := Aside0.mk ((by rw [hg]; exact Nat.ne_of_gt (blk_lt (g := gb522) (o := .cells #[.int .u8 a0_0, .int .i64 a0_1, .string a0_2] 35 (0, 0)) (by (with_reducible repeat (first | refine blk_drewN ?_ _ | refine blk_drew ?_ | refine blk_alloc ?_ _)); exact BK522.out)) : gb524 ≠ gb522)); have n8_ := Aside0.mk ((by rw [hg]; exact Nat.ne_of_lt (blk_lt (g := gb523) (o := .cells #[.int .u8 a1_0, .int .i64 a1_1, .string a1_2] 35 (0, 0)) (by (with_reducible repeat (first | refine blk_drewN ?_ _ | refine blk_drew ?_ | refine blk_alloc ?_ _)); exact BK523.out)) : gb523 ≠ gb524)); have n9_ := Aside0.mk ((by rw [hg]; exact Nat.ne_of_gt (blk_lt (g := gb523) (o := .cells #[.int .u8 a1_0, .int .i64 a1_1, .string a1_2] 35 (0, 0)) (by (with_reducible repeat (first | refine blk_drewN ?_ _ | refine blk_drew ?_ | refine blk_alloc ?_ _)); exact BK523.out)) : gb524 ≠ gb523)); clear BK522; clear BK523; clear HB; have BK522 := n0_; have BK523 := n1_; have HB := n2_; have BK524 := n3_; have GW524 := n4_; have GE524 := n5_; have NB522_524 := n6_; have NB524_522 := n7_; have NB523_524 := n8_; have NB524_523 := n9_; clear n0_ n1_ n2_ n3_ n4_ n5_ n6_ n7_ n8_ n9_; clear hb hbox hg; have hnb8 := NB522_523.out; have hnc8 := NB523_522.out; have hnb9 := NB522_524.out; have hnc9 := NB524_522.out; have hcz10_0 : w7.cell? ⟨gb522, 0, none⟩ = some (.int .u8 a0_0) := (blk_cell BK522.out 0).trans rfl; have hcz10_1 : w7.cell? ⟨gb522, 1, none⟩ = some (.int .i64 a0_1) := (blk_cell BK522.out 1).trans rfl; have hcz10_2 : w7.cell? ⟨gb522, 2, none⟩ = some (.string a0_2) := (blk_cell BK522.out 2).trans rfl; have hfz10_0 := blk_frozen BK522.out 0; have hfz10_1 := blk_frozen BK522.out 1; have hfz10_2 := blk_frozen BK522.out 2; have hnb11 := NB523_524.out; have hnc11 := NB524_523.out; have hcz12_0 : w7.cell? ⟨gb523, 0, none⟩ = some (.int .u8 a1_0) := (blk_cell BK523.out 0).trans rfl; have hcz12_1 : w7.cell? ⟨gb523, 1, none⟩ = some (.int .i64 a1_1) := (blk_cell BK523.out 1).trans rfl; have hcz12_2 : w7.cell? ⟨gb523, 2, none⟩ = some (.string a1_2) := (blk_cell BK523.out 2).trans rfl; have hfz12_0 := blk_frozen BK523.out 0; have hfz12_1 := blk_frozen BK523.out 1; have hfz12_2 := blk_frozen BK523.out 2) | ((with_reducible refine gate_callee (f := 82) rfl ?_); refine goesL_ (some 11) rfl rfl Try.func82 (by kernel_rfl) rfl #[.agg #[.int .u8 a0_0, .int .i64 a0_1, .string a0_2], .agg #[.int .u8 a1_0, .int .i64 a1_1, .string a1_2]] rfl (by (try simp only [List.map_toArray, List.map_cons, List.map_nil]); first | done | rfl | (simp only [List.length_drop, List.length_take]; rfl)) ?_; (with_reducible refine (cell_divides.calls k a0_0 a0_1 a0_2 a1_0 a1_1 a1_2 t525 t526 _ A3.out).mono ?_); rintro e w13 ⟨rfl, hb⟩; refine ⟨_, rfl, ?_⟩; have n0_ := Aside0.mk (blk_below (g := gb522) (o := .cells #[.int .u8 a0_0, .int .i64 a0_1, .string a0_2] 35 (0, 0)) (by (with_reducible repeat (first | refine blk_drewN ?_ _ | refine blk_drew ?_ | refine blk_alloc ?_ _)); exact BK522.out) hb); have n1_ := Aside0.mk (blk_below (g := gb523) (o := .cells #[.int .u8 a1_0, .int .i64 a1_1, .string a1_2] 35 (0, 0)) (by (with_reducible repeat (first | refine blk_drewN ?_ _ | refine blk_drew ?_ | refine blk_alloc ?_ _)); exact BK523.out) hb); have n2_ := Aside0.mk (blk_below (g := gb524) (o := .cells #[.int .u8 0, .int .i64 0, .string (⟨#[]⟩ : ByteArray)] 35 (0, 0)) (by (with_reducible repeat (first | refine blk_drewN ?_ _ | refine blk_drew ?_ | refine blk_alloc ?_ _)); exact BK524.out) hb); have n3_ := Aside0.mk (below_step (by repeat (first | (with_reducible first | exact HB.out | apply below_alloc | apply pw_below_drewN | apply below_drew1 | refine below_set ?_ GE522.out | refine below_set ?_ GE523.out | refine below_set ?_ GE524.out) | exact HB.out)) hb); clear BK522; clear BK523; clear BK524; clear HB; have BK522 := n0_; have BK523 := n1_; have BK524 := n2_; have HB := n3_; clear n0_ n1_ n2_ n3_; (try clear hb); (try clear hb2); (try clear hk); (try clear hi)))
 (try simp only [Act.put, List.setIfInBounds_toArray, List.set_cons_zero, List.set_cons_succ])
 go_cut [18] (fun v18 wc => ∃ (kq : Nat) (x18_3 : Bool), v18 = .bool x18_3 ∧ Aside0 (cell_Div.j0 kq t526 x18_3 a0_0 a0_1 a0_2 a1_0 a1_1 a1_2 = some (r1, r2, r3, r4)) ∧ Aside0 (kq ≤ k) ∧ Aside0 (wc.heap[gb522]? = some (.cells #[.int .u8 a0_0, .int .i64 a0_1, .string a0_2] 35 (0, 0))) ∧ Aside0 (wc.heap[gb523]? = some (.cells #[.int .u8 a1_0, .int .i64 a1_1, .string a1_2] 35 (0, 0))) ∧ Aside0 (wc.heap[gb524]? = some (.cells #[.int .u8 0, .int .i64 0, .string (⟨#[]⟩ : ByteArray)] 35 (0, 0))) ∧ Aside0 (Below w.heap.size w wc))
 case first =>
  have H := HC4.out
  clear HC4
  by_cases c14 : t526 = 0
  ·rw [if_pos c14] at H
   have c14b0 : (t526 == 0) = true := beq_iff_eq.mpr c14
   have c14b1 : (t526 != 0) = false := bne_eq_false_iff_eq.mpr c14
   clear c14
   (first | rw [c14b0] | (simp only [i64_w, i32_w]; rw [c14b0]) | skip)
   have H' := Aside0.mk H
   clear H
   go_wp2
   go_meet
   case rel => exact ⟨_, (t525), (by first | rfl | (simp; done) | (simp [*]; done)), H', ⟨by first | omega | exact Nat.le_refl _⟩, ⟨by (with_reducible repeat (first | refine blk_drewN ?_ _ | refine blk_drew ?_ | refine blk_alloc ?_ _)); exact BK522.out⟩, ⟨by (with_reducible repeat (first | refine blk_drewN ?_ _ | refine blk_drew ?_ | refine blk_alloc ?_ _)); exact BK523.out⟩, ⟨by (with_reducible repeat (first | refine blk_drewN ?_ _ | refine blk_drew ?_ | refine blk_alloc ?_ _)); exact BK524.out⟩, ⟨by repeat (first | (with_reducible first | exact HB.out | apply below_alloc | apply pw_below_drewN | apply below_drew1 | refine below_set ?_ GE522.out | refine below_set ?_ GE523.out | refine below_set ?_ GE524.out) | exact HB.out)⟩⟩
  ·rw [if_neg c14] at H
   have c14b0 : (t526 == 0) = false := beq_eq_false_iff_ne.mpr c14
   have c14b1 : (t526 != 0) = true := bne_iff_ne.mpr c14
   (first | rw [c14b0] | (simp only [i64_w, i32_w]; rw [c14b0]) | skip)
   have H' := Aside0.mk H
   clear H
   go_wp2
   go_meet
   case rel => exact ⟨_, (true), (by first | rfl | (simp; done) | (simp [*]; done)), H', ⟨by first | omega | exact Nat.le_refl _⟩, ⟨by (with_reducible repeat (first | refine blk_drewN ?_ _ | refine blk_drew ?_ | refine blk_alloc ?_ _)); exact BK522.out⟩, ⟨by (with_reducible repeat (first | refine blk_drewN ?_ _ | refine blk_drew ?_ | refine blk_alloc ?_ _)); exact BK523.out⟩, ⟨by (with_reducible repeat (first | refine blk_drewN ?_ _ | refine blk_drew ?_ | refine blk_alloc ?_ _)); exact BK524.out⟩, ⟨by repeat (first | (with_reducible first | exact HB.out | apply below_alloc | apply pw_below_drewN | apply below_drew1 | refine below_set ?_ GE522.out | refine below_set ?_ GE523.out | refine below_set ?_ GE524.out) | exact HB.out)⟩⟩
 case rest =>
  clear HC4
  try clear c1
  try clear p2
  try clear c5
  try clear c8
  try clear c9
  try clear c11
  try clear c14
  try clear c14b0
  try clear c14b1
  try clear hcz10_0
  try clear hcz10_1
  try clear hcz10_2
  try clear hcz12_0
  try clear hcz12_1
  try clear hcz12_2
  try clear hfz10_0
  try clear hfz10_1
  try clear hfz10_2
  try clear hfz12_0
  try clear hfz12_1
  try clear hfz12_2
  obtain ⟨kq, x18_3, rfl, HA, HJ3, BK522, BK523, BK524, HB⟩ := hcut
  cases kq with
  | zero => exact absurd HA.out (by simp [cell_Div.j0])
  | succ kj3 =>
   have H := HA.out
   clear HA
   simp only [cell_Div.j0] at H
   by_cases c15 : x18_3 = true
   ·subst c15
    have H1 : (some (0, 0, (⟨#[]⟩ : ByteArray), t526)) = some (r1, r2, r3, r4) := by rw [if_pos rfl] at H; exact H
    clear H
    have H := H1
    clear H1
    simp only [Option.some.injEq, Prod.mk.injEq] at H
    obtain ⟨rfl, rfl, rfl, rfl⟩ := H
    have hnb16 := NB524_522.out
    have hnc16 := NB522_524.out
    have hnb17 := NB524_523.out
    have hnc17 := NB523_524.out
    have hcz18_0 : wc.cell? ⟨gb524, 0, none⟩ = some (.int .u8 0) := (blk_cell BK524.out 0).trans rfl
    have hcz18_1 : wc.cell? ⟨gb524, 1, none⟩ = some (.int .i64 0) := (blk_cell BK524.out 1).trans rfl
    have hcz18_2 : wc.cell? ⟨gb524, 2, none⟩ = some (.string (⟨#[]⟩ : ByteArray)) := (blk_cell BK524.out 2).trans rfl
    have hfz18_0 := blk_frozen BK524.out 0
    have hfz18_1 := blk_frozen BK524.out 1
    have hfz18_2 := blk_frozen BK524.out 2
    go_wp2
    refine bodyPost_ret (results_ct rfl _ _ gb524 35 #[.int .u8 0, .int .i64 0, .string (⟨#[]⟩ : ByteArray)] (0, 0) _ rfl (by (with_reducible repeat (first | refine blk_drewN ?_ _ | refine blk_drew ?_ | refine blk_alloc ?_ _)); refine blk_put (cs := #[.int .u8 0, .int .i64 0, .string (⟨#[]⟩ : ByteArray)]) ?_ 2 _ rfl; (with_reducible repeat (first | refine blk_drewN ?_ _ | refine blk_drew ?_ | refine blk_alloc ?_ _)); refine blk_put (cs := #[.int .u8 0, .int .i64 0, .string (⟨#[]⟩ : ByteArray)]) ?_ 1 _ rfl; (with_reducible repeat (first | refine blk_drewN ?_ _ | refine blk_drew ?_ | refine blk_alloc ?_ _)); refine blk_put (cs := #[.int .u8 0, .int .i64 0, .string (⟨#[]⟩ : ByteArray)]) ?_ 0 _ rfl; (with_reducible repeat (first | refine blk_drewN ?_ _ | refine blk_drew ?_ | refine blk_alloc ?_ _)); exact BK524.out) Try.underlying35 rfl (by kernel_rfl)) rfl ?_
    exact ⟨by first | rfl | (simp [errW_none, errW_some] <;> rfl) | (simp [*, errW_none, errW_some] <;> rfl), by repeat (first | (with_reducible first | exact HB.out | apply below_alloc | apply pw_below_drewN | apply below_drew1 | refine below_set ?_ GE522.out | refine below_set ?_ GE523.out | refine below_set ?_ GE524.out) | exact HB.out)⟩
   ·replace c15 := Bool.eq_false_iff.mpr c15
    subst c15
    have H1 : (if a1_1 = (-1) then ((cell_Neg.f kj3 a0_0 a0_1 a0_2).bind fun bt527 => (some (bt527.1, bt527.2.1, bt527.2.2.1, bt527.2.2.2))) else (if a1_1 = 0 then (none) else ((cell_number.f (wrap64 (Int.tdiv a0_1 a1_1))).bind fun bt531 => (some (bt531.1, bt531.2.1, bt531.2.2, 0))))) = some (r1, r2, r3, r4) := by rw [if_neg (show ¬ (false = true) by decide)] at H; exact H
    clear H
    have H := H1
    clear H1
    by_cases c19 : a1_1 = (-1)
    ·rw [if_pos c19] at H
     have c19b0 : (a1_1 == (-1)) = true := beq_iff_eq.mpr c19
     have c19b1 : (a1_1 != (-1)) = false := bne_eq_false_iff_eq.mpr c19
     clear c19
     replace H := Option.bind_eq_some_iff.mp H
     obtain ⟨⟨t527, t528, t529, t530⟩, A200, H⟩ := H
     replace H : (some (t527, t528, t529, t530)) = some (r1, r2, r3, r4) := H
     have A20 := Aside0.mk A200
     clear A200
     simp only [Option.some.injEq, Prod.mk.injEq] at H
     obtain ⟨rfl, rfl, rfl, rfl⟩ := H
     have hnb21 := NB523_522.out
     have hnc21 := NB522_523.out
     have hnb22 := NB523_524.out
     have hnc22 := NB524_523.out
     have hcz23_0 : wc.cell? ⟨gb523, 0, none⟩ = some (.int .u8 a1_0) := (blk_cell BK523.out 0).trans rfl
     have hcz23_1 : wc.cell? ⟨gb523, 1, none⟩ = some (.int .i64 a1_1) := (blk_cell BK523.out 1).trans rfl
     have hcz23_2 : wc.cell? ⟨gb523, 2, none⟩ = some (.string a1_2) := (blk_cell BK523.out 2).trans rfl
     have hfz23_0 := blk_frozen BK523.out 0
     have hfz23_1 := blk_frozen BK523.out 1
     have hfz23_2 := blk_frozen BK523.out 2
     have hnb24 := NB522_524.out
     have hnc24 := NB524_522.out
     have hcz25_0 : wc.cell? ⟨gb522, 0, none⟩ = some (.int .u8 a0_0) := (blk_cell BK522.out 0).trans rfl
     have hcz25_1 : wc.cell? ⟨gb522, 1, none⟩ = some (.int .i64 a0_1) := (blk_cell BK522.out 1).trans rfl
     have hcz25_2 : wc.cell? ⟨gb522, 2, none⟩ = some (.string a0_2) := (blk_cell BK522.out 2).trans rfl
     have hfz25_0 := blk_frozen BK522.out 0
     have hfz25_1 := blk_frozen BK522.out 1
     have hfz25_2 := blk_frozen BK522.out 2
     go_wp2_with (first | ((with_reducible refine gate_callee (f := 58) rfl ?_); refine goesL_ (some 25) rfl rfl Try.func58 (by kernel_rfl) rfl #[.agg #[.int .u8 a0_0, .int .i64 a0_1, .string a0_2]] rfl (by (try simp only [List.map_toArray, List.map_cons, List.map_nil]); first | done | rfl | (simp only [List.length_drop, List.length_take]; rfl)) ?_; (with_reducible refine (cell_Neg.calls kj3 a0_0 a0_1 a0_2 t527 t528 t529 t530 _ A20.out).mono ?_); rintro e w26 ⟨rfl, hb⟩; refine ⟨_, rfl, ?_⟩; have n0_ := Aside0.mk (blk_below (g := gb522) (o := .cells #[.int .u8 a0_0, .int .i64 a0_1, .string a0_2] 35 (0, 0)) (by (with_reducible repeat (first | refine blk_drewN ?_ _ | refine blk_drew ?_ | refine blk_alloc ?_ _)); exact BK522.out) hb); have n1_ := Aside0.mk (blk_below (g := gb523) (o := .cells #[.int .u8 a1_0, .int .i64 a1_1, .string a1_2] 35 (0, 0)) (by (with_reducible repeat (first | refine blk_drewN ?_ _ | refine blk_drew ?_ | refine blk_alloc ?_ _)); exact BK523.out) hb); have n2_ := Aside0.mk (blk_below (g := gb524) (o := .cells #[.int .u8 0, .int .i64 0, .string (⟨#[]⟩ : ByteArray)] 35 (0, 0)) (by (with_reducible repeat (first | refine blk_drewN ?_ _ | refine blk_drew ?_ | refine blk_alloc ?_ _)); exact BK524.out) hb); have n3_ := Aside0.mk (below_step (by repeat (first | (with_reducible first | exact HB.out | apply below_alloc | apply pw_below_drewN | apply below_drew1 | refine below_set ?_ GE522.out | refine below_set ?_ GE523.out | refine below_set ?_ GE524.out) | exact HB.out)) hb); clear BK522; clear BK523; clear BK524; clear HB; have BK522 := n0_; have BK523 := n1_; have BK524 := n2_; have HB := n3_; clear n0_ n1_ n2_ n3_; (try clear hb); (try clear hb2); (try clear hk); (try clear hi); have hcz27_0 : w26.cell? ⟨gb524, 0, none⟩ = some (.int .u8 0) := (blk_cell BK524.out 0).trans rfl; have hcz27_1 : w26.cell? ⟨gb524, 1, none⟩ = some (.int .i64 0) := (blk_cell BK524.out 1).trans rfl; have hcz27_2 : w26.cell? ⟨gb524, 2, none⟩ = some (.string (⟨#[]⟩ : ByteArray)) := (blk_cell BK524.out 2).trans rfl; have hfz27_0 := blk_frozen BK524.out 0; have hfz27_1 := blk_frozen BK524.out 1; have hfz27_2 := blk_frozen BK524.out 2))
     refine bodyPost_ret (results_ct rfl _ _ gb524 35 #[.int .u8 t527, .int .i64 t528, .string t529] (0, 0) _ rfl (by (with_reducible repeat (first | refine blk_drewN ?_ _ | refine blk_drew ?_ | refine blk_alloc ?_ _)); refine blk_put (cs := #[.int .u8 t527, .int .i64 t528, .string (⟨#[]⟩ : ByteArray)]) ?_ 2 _ rfl; (with_reducible repeat (first | refine blk_drewN ?_ _ | refine blk_drew ?_ | refine blk_alloc ?_ _)); refine blk_put (cs := #[.int .u8 t527, .int .i64 0, .string (⟨#[]⟩ : ByteArray)]) ?_ 1 _ rfl; (with_reducible repeat (first | refine blk_drewN ?_ _ | refine blk_drew ?_ | refine blk_alloc ?_ _)); refine blk_put (cs := #[.int .u8 0, .int .i64 0, .string (⟨#[]⟩ : ByteArray)]) ?_ 0 _ rfl; (with_reducible repeat (first | refine blk_drewN ?_ _ | refine blk_drew ?_ | refine blk_alloc ?_ _)); exact BK524.out) Try.underlying35 rfl (by kernel_rfl)) rfl ?_
     exact ⟨by first | rfl | (simp [errW_none, errW_some] <;> rfl) | (simp [*, errW_none, errW_some] <;> rfl), by repeat (first | (with_reducible first | exact HB.out | apply below_alloc | apply pw_below_drewN | apply below_drew1 | refine below_set ?_ GE522.out | refine below_set ?_ GE523.out | refine below_set ?_ GE524.out) | exact HB.out)⟩
    ·rw [if_neg c19] at H
     have c19b0 : (a1_1 == (-1)) = false := beq_eq_false_iff_ne.mpr c19
     have c19b1 : (a1_1 != (-1)) = true := bne_iff_ne.mpr c19
     by_cases c28 : a1_1 = 0
     ·rw [if_pos c28] at H
      exact absurd H (by simp)
     ·rw [if_neg c28] at H
      have c28b0 : (a1_1 == 0) = false := beq_eq_false_iff_ne.mpr c28
      have c28b1 : (a1_1 != 0) = true := bne_iff_ne.mpr c28
      replace H := Option.bind_eq_some_iff.mp H
      obtain ⟨⟨t531, t532, t533⟩, A290, H⟩ := H
      replace H : (some (t531, t532, t533, 0)) = some (r1, r2, r3, r4) := H
      have A29 := Aside0.mk A290
      clear A290
      simp only [Option.some.injEq, Prod.mk.injEq] at H
      obtain ⟨rfl, rfl, rfl, rfl⟩ := H
      have hnb30 := NB523_522.out
      have hnc30 := NB522_523.out
      have hnb31 := NB523_524.out
      have hnc31 := NB524_523.out
      have hcz32_0 : wc.cell? ⟨gb523, 0, none⟩ = some (.int .u8 a1_0) := (blk_cell BK523.out 0).trans rfl
      have hcz32_1 : wc.cell? ⟨gb523, 1, none⟩ = some (.int .i64 a1_1) := (blk_cell BK523.out 1).trans rfl
      have hcz32_2 : wc.cell? ⟨gb523, 2, none⟩ = some (.string a1_2) := (blk_cell BK523.out 2).trans rfl
      have hfz32_0 := blk_frozen BK523.out 0
      have hfz32_1 := blk_frozen BK523.out 1
      have hfz32_2 := blk_frozen BK523.out 2
      have hnb33 := NB522_524.out
      have hnc33 := NB524_522.out
      have hcz34_0 : wc.cell? ⟨gb522, 0, none⟩ = some (.int .u8 a0_0) := (blk_cell BK522.out 0).trans rfl
      have hcz34_1 : wc.cell? ⟨gb522, 1, none⟩ = some (.int .i64 a0_1) := (blk_cell BK522.out 1).trans rfl
      have hcz34_2 : wc.cell? ⟨gb522, 2, none⟩ = some (.string a0_2) := (blk_cell BK522.out 2).trans rfl
      have hfz34_0 := blk_frozen BK522.out 0
      have hfz34_1 := blk_frozen BK522.out 1
      have hfz34_2 := blk_frozen BK522.out 2
      go_wp2_with (first | ((with_reducible refine gate_callee (f := 74) rfl ?_); refine goesL_ (some 33) rfl rfl Try.func74 (by kernel_rfl) rfl #[.int .i64 (wrap64 (Int.tdiv a0_1 a1_1))] rfl (by (try simp only [List.map_toArray, List.map_cons, List.map_nil]); first | done | rfl | (simp only [List.length_drop, List.length_take]; rfl)) ?_; (with_reducible refine (cell_number.calls (wrap64 (Int.tdiv a0_1 a1_1)) t531 t532 t533 _ A29.out).mono ?_); rintro e w35 ⟨rfl, hb⟩; refine ⟨_, rfl, ?_⟩; have n0_ := Aside0.mk (blk_below (g := gb522) (o := .cells #[.int .u8 a0_0, .int .i64 a0_1, .string a0_2] 35 (0, 0)) (by (with_reducible repeat (first | refine blk_drewN ?_ _ | refine blk_drew ?_ | refine blk_alloc ?_ _)); exact BK522.out) hb); have n1_ := Aside0.mk (blk_below (g := gb523) (o := .cells #[.int .u8 a1_0, .int .i64 a1_1, .string a1_2] 35 (0, 0)) (by (with_reducible repeat (first | refine blk_drewN ?_ _ | refine blk_drew ?_ | refine blk_alloc ?_ _)); exact BK523.out) hb); have n2_ := Aside0.mk (blk_below (g := gb524) (o := .cells #[.int .u8 0, .int .i64 0, .string (⟨#[]⟩ : ByteArray)] 35 (0, 0)) (by (with_reducible repeat (first | refine blk_drewN ?_ _ | refine blk_drew ?_ | refine blk_alloc ?_ _)); exact BK524.out) hb); have n3_ := Aside0.mk (below_step (by repeat (first | (with_reducible first | exact HB.out | apply below_alloc | apply pw_below_drewN | apply below_drew1 | refine below_set ?_ GE522.out | refine below_set ?_ GE523.out | refine below_set ?_ GE524.out) | exact HB.out)) hb); clear BK522; clear BK523; clear BK524; clear HB; have BK522 := n0_; have BK523 := n1_; have BK524 := n2_; have HB := n3_; clear n0_ n1_ n2_ n3_; (try clear hb); (try clear hb2); (try clear hk); (try clear hi); have hcz36_0 : w35.cell? ⟨gb524, 0, none⟩ = some (.int .u8 0) := (blk_cell BK524.out 0).trans rfl; have hcz36_1 : w35.cell? ⟨gb524, 1, none⟩ = some (.int .i64 0) := (blk_cell BK524.out 1).trans rfl; have hcz36_2 : w35.cell? ⟨gb524, 2, none⟩ = some (.string (⟨#[]⟩ : ByteArray)) := (blk_cell BK524.out 2).trans rfl; have hfz36_0 := blk_frozen BK524.out 0; have hfz36_1 := blk_frozen BK524.out 1; have hfz36_2 := blk_frozen BK524.out 2))
      refine bodyPost_ret (results_ct rfl _ _ gb524 35 #[.int .u8 t531, .int .i64 t532, .string t533] (0, 0) _ rfl (by (with_reducible repeat (first | refine blk_drewN ?_ _ | refine blk_drew ?_ | refine blk_alloc ?_ _)); refine blk_put (cs := #[.int .u8 t531, .int .i64 t532, .string (⟨#[]⟩ : ByteArray)]) ?_ 2 _ rfl; (with_reducible repeat (first | refine blk_drewN ?_ _ | refine blk_drew ?_ | refine blk_alloc ?_ _)); refine blk_put (cs := #[.int .u8 t531, .int .i64 0, .string (⟨#[]⟩ : ByteArray)]) ?_ 1 _ rfl; (with_reducible repeat (first | refine blk_drewN ?_ _ | refine blk_drew ?_ | refine blk_alloc ?_ _)); refine blk_put (cs := #[.int .u8 0, .int .i64 0, .string (⟨#[]⟩ : ByteArray)]) ?_ 0 _ rfl; (with_reducible repeat (first | refine blk_drewN ?_ _ | refine blk_drew ?_ | refine blk_alloc ?_ _)); exact BK524.out) Try.underlying35 rfl (by kernel_rfl)) rfl ?_
      exact ⟨by first | rfl | (simp [errW_none, errW_some] <;> rfl) | (simp [*, errW_none, errW_some] <;> rfl), by repeat (first | (with_reducible first | exact HB.out | apply below_alloc | apply pw_below_drewN | apply below_drew1 | refine below_set ?_ GE522.out | refine below_set ?_ GE523.out | refine below_set ?_ GE524.out) | exact HB.out)⟩

end Go.Proofs.Ytefpnnljflcmbaa.PCe
