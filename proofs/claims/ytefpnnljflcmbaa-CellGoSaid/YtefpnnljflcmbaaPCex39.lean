-- Written by a program of this session (wip/tool), which goes by the kit's print.
import Derived.Test.YtefpnnljflcmbaaPCex0
import Derived.Test.YtefpnnljflcmbaaPCex7
import Derived.Test.YtefpnnljflcmbaaPCex36
namespace Go.Proofs.Ytefpnnljflcmbaa.PCe
open Go.RowKit Go.Proofs.YtefpnnljflcmbaaW.PrintWords Go.Proofs.YtefpnnljflcmbaaW.PrintLast Go.Proofs.YtefpnnljflcmbaaW.PrintMore
attribute [local go_sem] max2_int min2_int max_two min_two max_three min_three max_four min_four   -- for this text's walks alone
set_option linter.unusedVariables false
set_option linter.unusedSimpArgs false

/-! ### cell_Mod: function 57 -/
def cell_Mod.j0 : Nat → Int → Bool → Int → Int → ByteArray → Int → Int → ByteArray → Option (Int × Int × ByteArray × Int)
 | 0, _, _, _, _, _, _, _, _ => none
 | k + 1, x7, x18, x556000, x556001, x556002, x557000, x557001, x557002 => if x18 = true then (some (0, 0, (⟨#[]⟩ : ByteArray), x7)) else (if x557001 = (-1) then ((cell_number.f 0).bind fun bt560 => (some (bt560.1, bt560.2.1, bt560.2.2, 0))) else (if x557001 = 0 then (none) else ((cell_number.f (Int.tmod x556001 x557001)).bind fun bt563 => (some (bt563.1, bt563.2.1, bt563.2.2, 0)))))
def cell_Mod.f (k : Nat) (a0_0 : Int) (a0_1 : Int) (a0_2 : ByteArray) (a1_0 : Int) (a1_1 : Int) (a1_2 : ByteArray) : Option (Int × Int × ByteArray × Int) := (cell_divides.f k a0_0 a0_1 a0_2 a1_0 a1_1 a1_2).bind fun bt558 => (if bt558.2 = 0 then (cell_Mod.j0 k bt558.2 bt558.1 a0_0 a0_1 a0_2 a1_0 a1_1 a1_2) else (cell_Mod.j0 k bt558.2 true a0_0 a0_1 a0_2 a1_0 a1_1 a1_2))
theorem cell_Mod.mono_l : ∀ k, (∀ y0 y1 y2 y3 y4 y5 y6 y7, LeO (cell_Mod.j0 k y0 y1 y2 y3 y4 y5 y6 y7) (cell_Mod.j0 (k + 1) y0 y1 y2 y3 y4 y5 y6 y7))
 | 0 => fun _ _ _ _ _ _ _ _ r h => by simp [cell_Mod.j0] at h
 | k + 1 => by
  have ih0 := cell_Mod.mono_l k
  ·intro y0 y1 y2 y3 y4 y5 y6 y7
   unfold cell_Mod.j0
   repeat' first
   | (with_reducible exact ih0 _ _ _ _ _ _ _ _)
   | (with_reducible exact cell_divides.mono _ _ _ _ _ _ _)
   | (with_reducible exact LeO.refl _)
   | (with_reducible exact LeO.none _)
   | (with_reducible refine LeO.ite ?_ ?_)
   | (with_reducible refine LeO.bind ?_ (fun _ => ?_))
   | exact ih0 _ _ _ _ _ _ _ _
   | exact cell_divides.mono _ _ _ _ _ _ _
   | exact LeO.none _
   | refine LeO.ite ?_ ?_
   | refine LeO.bind ?_ (fun _ => ?_)
theorem cell_Mod.mono : ∀ a0 a1 a2 a3 a4 a5 k, LeO (cell_Mod.f k a0 a1 a2 a3 a4 a5) (cell_Mod.f (k + 1) a0 a1 a2 a3 a4 a5) := by
 intro a0 a1 a2 a3 a4 a5 k
 have ih0 := cell_Mod.mono_l k
 unfold cell_Mod.f
 repeat' first
   | (with_reducible exact ih0 _ _ _ _ _ _ _ _)
   | (with_reducible exact cell_divides.mono _ _ _ _ _ _ _)
   | (with_reducible exact LeO.refl _)
   | (with_reducible exact LeO.none _)
   | (with_reducible refine LeO.ite ?_ ?_)
   | (with_reducible refine LeO.bind ?_ (fun _ => ?_))
   | exact ih0 _ _ _ _ _ _ _ _
   | exact cell_divides.mono _ _ _ _ _ _ _
   | exact LeO.none _
   | refine LeO.ite ?_ ?_
   | refine LeO.bind ?_ (fun _ => ?_)
set_option maxHeartbeats 8000000 in
set_option maxRecDepth 100000 in
theorem cell_Mod.calls (k : Nat) (a0_0 : Int) (a0_1 : Int) (a0_2 : ByteArray) (a1_0 : Int) (a1_1 : Int) (a1_2 : ByteArray) (r1 : Int) (r2 : Int) (r3 : ByteArray) (r4 : Int) (w : World) (h : cell_Mod.f k a0_0 a0_1 a0_2 a1_0 a1_1 a1_2 = some (r1, r2, r3, r4)) :
  Calls Try.prog 57 #[.agg #[.int .u8 a0_0, .int .i64 a0_1, .string a0_2], .agg #[.int .u8 a1_0, .int .i64 a1_1, .string a1_2]] w fun e w' => e = .returned (.tuple #[.agg #[.int .u8 r1, .int .i64 r2, .string r3], .int .i64 r4]) ∧ Below w.heap.size w w' := by
 have hu35 := Try.underlying35
 have HB := Aside0.mk (Below.refl w.heap.size w)
 have H : ((cell_divides.f k a0_0 a0_1 a0_2 a1_0 a1_1 a1_2).bind fun bt558 => (if bt558.2 = 0 then (cell_Mod.j0 k bt558.2 bt558.1 a0_0 a0_1 a0_2 a1_0 a1_1 a1_2) else (cell_Mod.j0 k bt558.2 true a0_0 a0_1 a0_2 a1_0 a1_1 a1_2))) = some (r1, r2, r3, r4) := h
 clear h
 replace H := Option.bind_eq_some_iff.mp H
 obtain ⟨⟨t558, t559⟩, A30, H⟩ := H
 replace H : (if t559 = 0 then (cell_Mod.j0 k t559 t558 a0_0 a0_1 a0_2 a1_0 a1_1 a1_2) else (cell_Mod.j0 k t559 true a0_0 a0_1 a0_2 a1_0 a1_1 a1_2)) = some (r1, r2, r3, r4) := H
 have A3 := Aside0.mk A30
 clear A30
 have HC4 := Aside0.mk H
 clear H
 go_enter Try.func57, Try.ntmps57
 go_upto_region 2 with (first | ((with_reducible refine gate_dst (N := 2) rfl ?_); refine box_event ?hg (N := 2) ?hd (cs := #[.int .u8 a0_0, .int .i64 a0_1, .string a0_2]) (t := 35) ?hr ?_; (case hd => rfl); (case hg => rfl); (case hr => first | (go_simp; done) | (go_simp; rfl)); intro gb555 hg w5 hbox hb; have n0_ := Aside0.mk (below_step (by repeat (first | (with_reducible first | exact HB.out | apply below_alloc | apply pw_below_drewN | apply below_drew1) | exact HB.out)) hb); have n1_ := Aside0.mk (hbox); have n2_ := Aside0.mk ((by rw [hg]; exact (below_size (by repeat (first | (with_reducible first | exact HB.out | apply below_alloc | apply pw_below_drewN | apply below_drew1) | exact HB.out))) : w.heap.size ≤ gb555)); have n3_ := Aside0.mk ((by rw [hg]; exact (below_size (by repeat (first | (with_reducible first | exact HB.out | apply below_alloc | apply pw_below_drewN | apply below_drew1) | exact HB.out))) : w.heap.size ≤ gb555)); clear HB; have HB := n0_; have BK555 := n1_; have GW555 := n2_; have GE555 := n3_; clear n0_ n1_ n2_ n3_; clear hb hbox hg) | ((with_reducible refine gate_dst (N := 3) rfl ?_); refine box_event ?hg (N := 3) ?hd (cs := #[.int .u8 a1_0, .int .i64 a1_1, .string a1_2]) (t := 35) ?hr ?_; (case hd => rfl); (case hg => rfl); (case hr => first | (go_simp; done) | (go_simp; rfl)); intro gb556 hg w6 hbox hb; have n0_ := Aside0.mk (blk_below (g := gb555) (o := .cells #[.int .u8 a0_0, .int .i64 a0_1, .string a0_2] 35 (0, 0)) (by (with_reducible repeat (first | refine blk_drewN ?_ _ | refine blk_drew ?_ | refine blk_alloc ?_ _)); exact BK555.out) hb); have n1_ := Aside0.mk (below_step (by repeat (first | (with_reducible first | exact HB.out | apply below_alloc | apply pw_below_drewN | apply below_drew1 | refine below_set ?_ GE555.out) | exact HB.out)) hb); have n2_ := Aside0.mk (hbox); have n3_ := Aside0.mk ((by rw [hg]; exact (below_size (by repeat (first | (with_reducible first | exact HB.out | apply below_alloc | apply pw_below_drewN | apply below_drew1 | refine below_set ?_ GE555.out) | exact HB.out))) : w.heap.size ≤ gb556)); have n4_ := Aside0.mk ((by rw [hg]; exact (below_size (by repeat (first | (with_reducible first | exact HB.out | apply below_alloc | apply pw_below_drewN | apply below_drew1 | refine below_set ?_ GE555.out) | exact HB.out))) : w.heap.size ≤ gb556)); have n5_ := Aside0.mk ((by rw [hg]; exact Nat.ne_of_lt (blk_lt (g := gb555) (o := .cells #[.int .u8 a0_0, .int .i64 a0_1, .string a0_2] 35 (0, 0)) (by (with_reducible repeat (first | refine blk_drewN ?_ _ | refine blk_drew ?_ | refine blk_alloc ?_ _)); exact BK555.out)) : gb555 ≠ gb556)); have n6_ := Aside0.mk ((by rw [hg]; exact Nat.ne_of_gt (blk_lt (g := gb555) (o := .cells #[.int .u8 a0_0, .int .i64 a0_1, .string a0_2] 35 (0, 0)) (by (with_reducible repeat (first | refine blk_drewN ?_ _ | refine blk_drew ?_ | refine blk_alloc ?_ _)); exact BK555.out)) : gb556 ≠ gb555)); clear BK555; clear HB; have BK555 := n0_; have HB := n1_; have BK556 := n2_; have GW556 := n3_; have GE556 := n4_; have NB555_556 := n5_; have NB556_555 := n6_; clear n0_ n1_ n2_ n3_ n4_ n5_ n6_; clear hb hbox hg) | ((with_reducible refine gate_dst (N := 4) rfl ?_); refine box_event ?hg (N := 4) ?hd (cs := #[.int .u8 0, .int .i64 0, .string (⟨#[]⟩ : ByteArray)]) (t := 35) ?hr ?_; (case hd => rfl); (case hg => rfl); (case hr => first | (go_simp; done) | (go_simp; rfl)); intro gb557 hg w7 hbox hb; have n0_ := Aside0.mk (blk_below (g := gb555) (o := .cells #[.int .u8 a0_0, .int .i64 a0_1, .string a0_2] 35 (0, 0)) (by (with_reducible repeat (first | refine blk_drewN ?_ _ | refine blk_drew ?_ | refine blk_alloc ?_ _)); exact BK555.out) hb); have n1_ := Aside0.mk (blk_below (g := gb556) (o := .cells #[.int .u8 a1_0, .int .i64 a1_1, .string a1_2] 35 (0, 0)) (by (with_reducible repeat (first | refine blk_drewN ?_ _ | refine blk_drew ?_ | refine blk_alloc ?_ _)); exact BK556.out) hb); have n2_ := Aside0.mk (below_step (by repeat (first | (with_reducible first | exact HB.out | apply below_alloc | apply pw_below_drewN | apply below_drew1 | refine below_set ?_ GE555.out | refine below_set ?_ GE556.out) | exact HB.out)) hb); have n3_ := Aside0.mk (hbox); have n4_ := Aside0.mk ((by rw [hg]; exact (below_size (by repeat (first | (with_reducible first | exact HB.out | apply below_alloc | apply pw_below_drewN | apply below_drew1 | refine below_set ?_ GE555.out | refine below_set ?_ GE556.out) | exact HB.out))) : w.heap.size ≤ gb557)); have n5_ := Aside0.mk ((by rw [hg]; exact (below_size (by repeat (first | (with_reducible first | exact HB.out | apply below_alloc | apply pw_below_drewN | apply below_drew1 | refine below_set ?_ GE555.out | refine below_set ?_ GE556.out) | exact HB.out))) : w.heap.size ≤ gb557)); have n6_ := Aside0.mk ((by rw [hg]; exact Nat.ne_of_lt (blk_lt (g := gb555) (o := .cells #[.int .u8 a0_0, .int .i64 a0_1, .string a0_2] 35 (0, 0)) (by (with_reducible repeat (first | refine blk_drewN ?_ _ | refine blk_drew ?_ | refine blk_alloc ?_ _)); exact BK555.out)) : gb555 ≠ gb557)); have n7_ := Aside0.mk ((by rw [hg]; exact Nat.ne_of_gt (blk_lt (g := gb555) (o := .cells #[.int .u8 a0_0, .int .i64 a0_1, .string a0_2] 35 (0, 0)) (by (with_reducible repeat (first | refine blk_drewN ?_ _ | refine blk_drew ?_ | refine blk_alloc ?_ _)); exact BK555.out)) : gb557 ≠ gb555)); have n8_ := Aside0.mk ((by rw [hg]; exact Nat.ne_of_lt (blk_lt (g := gb556) (o := .cells #[.int .u8 a1_0, .int .i64 a1_1, .string a1_2] 35 (0, 0)) (by (with_reducible repeat (first | refine blk_drewN ?_ _ | refine blk_drew ?_ | refine blk_alloc ?_ _)); exact BK556.out)) : gb556 ≠ gb557)); have n9_ := Aside0.mk ((by rw [hg]; exact Nat.ne_of_gt (blk_lt (g := gb556) (o := .cells #[.int .u8 a1_0, .int .i64 a1_1, .string a1_2] 35 (0, 0)) (by (with_reducible repeat (first | refine blk_drewN ?_ _ | refine blk_drew ?_ | refine blk_alloc ?_ _)); exact BK556.out)) : gb557 ≠ gb556)); clear BK555; clear BK556; clear HB; have BK555 := n0_; have BK556 := n1_; have HB := n2_; have BK557 := n3_; have GW557 := n4_; have GE557 := n5_; have NB555_557 := n6_; have NB557_555 := n7_; have NB556_557 := n8_; have NB557_556 := n9_; clear n0_ n1_ n2_ n3_ n4_ n5_ n6_ n7_ n8_ n9_; clear hb hbox hg; have hnb8 := NB555_556.out; have hnc8 := NB556_555.out; have hnb9 := NB555_557.out; have hnc9 := NB557_555.out; have hcz10_0 : w7.cell? ⟨gb555, 0, none⟩ = some (.int .u8 a0_0) := (blk_cell BK555.out 0).trans rfl; have hcz10_1 : w7.cell? ⟨gb555, 1, none⟩ = some (.int .i64 a0_1) := (blk_cell BK555.out 1).trans rfl; have hcz10_2 : w7.cell? ⟨gb555, 2, none⟩ = some (.string a0_2) := (blk_cell BK555.out 2).trans rfl; have hfz10_0 := blk_frozen BK555.out 0; have hfz10_1 := blk_frozen BK555.out 1; have hfz10_2 := blk_frozen BK555.out 2; have hnb11 := NB556_557.out; have hnc11 := NB557_556.out; have hcz12_0 : w7.cell? ⟨gb556, 0, none⟩ = some (.int .u8 a1_0) := (blk_cell BK556.out 0).trans rfl; have hcz12_1 : w7.cell? ⟨gb556, 1, none⟩ = some (.int .i64 a1_1) := (blk_cell BK556.out 1).trans rfl; have hcz12_2 : w7.cell? ⟨gb556, 2, none⟩ = some (.string a1_2) := (blk_cell BK556.out 2).trans rfl; have hfz12_0 := blk_frozen BK556.out 0; have hfz12_1 := blk_frozen BK556.out 1; have hfz12_2 := blk_frozen BK556.out 2) | ((with_reducible refine gate_callee (f := 82) rfl ?_); refine goesL_ (some 11) rfl rfl Try.func82 (by kernel_rfl) rfl #[.agg #[.int .u8 a0_0, .int .i64 a0_1, .string a0_2], .agg #[.int .u8 a1_0, .int .i64 a1_1, .string a1_2]] rfl (by (try simp only [List.map_toArray, List.map_cons, List.map_nil]); first | done | rfl | (simp only [List.length_drop, List.length_take]; rfl)) ?_; (with_reducible refine (cell_divides.calls k a0_0 a0_1 a0_2 a1_0 a1_1 a1_2 t558 t559 _ A3.out).mono ?_); rintro e w13 ⟨rfl, hb⟩; refine ⟨_, rfl, ?_⟩; have n0_ := Aside0.mk (blk_below (g := gb555) (o := .cells #[.int .u8 a0_0, .int .i64 a0_1, .string a0_2] 35 (0, 0)) (by (with_reducible repeat (first | refine blk_drewN ?_ _ | refine blk_drew ?_ | refine blk_alloc ?_ _)); exact BK555.out) hb); have n1_ := Aside0.mk (blk_below (g := gb556) (o := .cells #[.int .u8 a1_0, .int .i64 a1_1, .string a1_2] 35 (0, 0)) (by (with_reducible repeat (first | refine blk_drewN ?_ _ | refine blk_drew ?_ | refine blk_alloc ?_ _)); exact BK556.out) hb); have n2_ := Aside0.mk (blk_below (g := gb557) (o := .cells #[.int .u8 0, .int .i64 0, .string (⟨#[]⟩ : ByteArray)] 35 (0, 0)) (by (with_reducible repeat (first | refine blk_drewN ?_ _ | refine blk_drew ?_ | refine blk_alloc ?_ _)); exact BK557.out) hb); have n3_ := Aside0.mk (below_step (by repeat (first | (with_reducible first | exact HB.out | apply below_alloc | apply pw_below_drewN | apply below_drew1 | refine below_set ?_ GE555.out | refine below_set ?_ GE556.out | refine below_set ?_ GE557.out) | exact HB.out)) hb); clear BK555; clear BK556; clear BK557; clear HB; have BK555 := n0_; have BK556 := n1_; have BK557 := n2_; have HB := n3_; clear n0_ n1_ n2_ n3_; (try clear hb); (try clear hb2); (try clear hk); (try clear hi)))
 (try simp only [Act.put, List.setIfInBounds_toArray, List.set_cons_zero, List.set_cons_succ])
 go_cut [18] (fun v18 wc => ∃ (kq : Nat) (x18_3 : Bool), v18 = .bool x18_3 ∧ Aside0 (cell_Mod.j0 kq t559 x18_3 a0_0 a0_1 a0_2 a1_0 a1_1 a1_2 = some (r1, r2, r3, r4)) ∧ Aside0 (kq ≤ k) ∧ Aside0 (wc.heap[gb555]? = some (.cells #[.int .u8 a0_0, .int .i64 a0_1, .string a0_2] 35 (0, 0))) ∧ Aside0 (wc.heap[gb556]? = some (.cells #[.int .u8 a1_0, .int .i64 a1_1, .string a1_2] 35 (0, 0))) ∧ Aside0 (wc.heap[gb557]? = some (.cells #[.int .u8 0, .int .i64 0, .string (⟨#[]⟩ : ByteArray)] 35 (0, 0))) ∧ Aside0 (Below w.heap.size w wc))
 case first =>
  have H := HC4.out
  clear HC4
  by_cases c14 : t559 = 0
  ·rw [if_pos c14] at H
   have c14b0 : (t559 == 0) = true := beq_iff_eq.mpr c14
   have c14b1 : (t559 != 0) = false := bne_eq_false_iff_eq.mpr c14
   clear c14
   (first | rw [c14b0] | (simp only [i64_w, i32_w]; rw [c14b0]) | skip)
   have H' := Aside0.mk H
   clear H
   go_wp2
   go_meet
   case rel => exact ⟨_, (t558), (by first | rfl | (simp; done) | (simp [*]; done)), H', ⟨by first | omega | exact Nat.le_refl _⟩, ⟨by (with_reducible repeat (first | refine blk_drewN ?_ _ | refine blk_drew ?_ | refine blk_alloc ?_ _)); exact BK555.out⟩, ⟨by (with_reducible repeat (first | refine blk_drewN ?_ _ | refine blk_drew ?_ | refine blk_alloc ?_ _)); exact BK556.out⟩, ⟨by (with_reducible repeat (first | refine blk_drewN ?_ _ | refine blk_drew ?_ | refine blk_alloc ?_ _)); exact BK557.out⟩, ⟨by repeat (first | (with_reducible first | exact HB.out | apply below_alloc | apply pw_below_drewN | apply below_drew1 | refine below_set ?_ GE555.out | refine below_set ?_ GE556.out | refine below_set ?_ GE557.out) | exact HB.out)⟩⟩
  ·rw [if_neg c14] at H
   have c14b0 : (t559 == 0) = false := beq_eq_false_iff_ne.mpr c14
   have c14b1 : (t559 != 0) = true := bne_iff_ne.mpr c14
   (first | rw [c14b0] | (simp only [i64_w, i32_w]; rw [c14b0]) | skip)
   have H' := Aside0.mk H
   clear H
   go_wp2
   go_meet
   case rel => exact ⟨_, (true), (by first | rfl | (simp; done) | (simp [*]; done)), H', ⟨by first | omega | exact Nat.le_refl _⟩, ⟨by (with_reducible repeat (first | refine blk_drewN ?_ _ | refine blk_drew ?_ | refine blk_alloc ?_ _)); exact BK555.out⟩, ⟨by (with_reducible repeat (first | refine blk_drewN ?_ _ | refine blk_drew ?_ | refine blk_alloc ?_ _)); exact BK556.out⟩, ⟨by (with_reducible repeat (first | refine blk_drewN ?_ _ | refine blk_drew ?_ | refine blk_alloc ?_ _)); exact BK557.out⟩, ⟨by repeat (first | (with_reducible first | exact HB.out | apply below_alloc | apply pw_below_drewN | apply below_drew1 | refine below_set ?_ GE555.out | refine below_set ?_ GE556.out | refine below_set ?_ GE557.out) | exact HB.out)⟩⟩
 case rest =>
  clear HC4
  try clear c1
  try clear p2
  try clear c5
  try clear c8
  try clear c9
  try clear c11
  try clear c14
  try clear c14b0
  try clear c14b1
  try clear hcz10_0
  try clear hcz10_1
  try clear hcz10_2
  try clear hcz12_0
  try clear hcz12_1
  try clear hcz12_2
  try clear hfz10_0
  try clear hfz10_1
  try clear hfz10_2
  try clear hfz12_0
  try clear hfz12_1
  try clear hfz12_2
  obtain ⟨kq, x18_3, rfl, HA, HJ3, BK555, BK556, BK557, HB⟩ := hcut
  cases kq with
  | zero => exact absurd HA.out (by simp [cell_Mod.j0])
  | succ kj3 =>
   have H := HA.out
   clear HA
   simp only [cell_Mod.j0] at H
   by_cases c15 : x18_3 = true
   ·subst c15
    have H1 : (some (0, 0, (⟨#[]⟩ : ByteArray), t559)) = some (r1, r2, r3, r4) := by rw [if_pos rfl] at H; exact H
    clear H
    have H := H1
    clear H1
    simp only [Option.some.injEq, Prod.mk.injEq] at H
    obtain ⟨rfl, rfl, rfl, rfl⟩ := H
    have hnb16 := NB557_555.out
    have hnc16 := NB555_557.out
    have hnb17 := NB557_556.out
    have hnc17 := NB556_557.out
    have hcz18_0 : wc.cell? ⟨gb557, 0, none⟩ = some (.int .u8 0) := (blk_cell BK557.out 0).trans rfl
    have hcz18_1 : wc.cell? ⟨gb557, 1, none⟩ = some (.int .i64 0) := (blk_cell BK557.out 1).trans rfl
    have hcz18_2 : wc.cell? ⟨gb557, 2, none⟩ = some (.string (⟨#[]⟩ : ByteArray)) := (blk_cell BK557.out 2).trans rfl
    have hfz18_0 := blk_frozen BK557.out 0
    have hfz18_1 := blk_frozen BK557.out 1
    have hfz18_2 := blk_frozen BK557.out 2
    go_wp2
    refine bodyPost_ret (results_ct rfl _ _ gb557 35 #[.int .u8 0, .int .i64 0, .string (⟨#[]⟩ : ByteArray)] (0, 0) _ rfl (by (with_reducible repeat (first | refine blk_drewN ?_ _ | refine blk_drew ?_ | refine blk_alloc ?_ _)); refine blk_put (cs := #[.int .u8 0, .int .i64 0, .string (⟨#[]⟩ : ByteArray)]) ?_ 2 _ rfl; (with_reducible repeat (first | refine blk_drewN ?_ _ | refine blk_drew ?_ | refine blk_alloc ?_ _)); refine blk_put (cs := #[.int .u8 0, .int .i64 0, .string (⟨#[]⟩ : ByteArray)]) ?_ 1 _ rfl; (with_reducible repeat (first | refine blk_drewN ?_ _ | refine blk_drew ?_ | refine blk_alloc ?_ _)); refine blk_put (cs := #[.int .u8 0, .int .i64 0, .string (⟨#[]⟩ : ByteArray)]) ?_ 0 _ rfl; (with_reducible repeat (first | refine blk_drewN ?_ _ | refine blk_drew ?_ | refine blk_alloc ?_ _)); exact BK557.out) Try.underlying35 rfl (by kernel_rfl)) rfl ?_
    exact ⟨by first | rfl | (simp [errW_none, errW_some] <;> rfl) | (simp [*, errW_none, errW_some] <;> rfl), by repeat (first | (with_reducible first | exact HB.out | apply below_alloc | apply pw_below_drewN | apply below_drew1 | refine below_set ?_ GE555.out | refine below_set ?_ GE556.out | refine below_set ?_ GE557.out) | exact HB.out)⟩
   ·replace c15 := Bool.eq_false_iff.mpr c15
    subst c15
    have H1 : (if a1_1 = (-1) then ((cell_number.f 0).bind fun bt560 => (some (bt560.1, bt560.2.1, bt560.2.2, 0))) else (if a1_1 = 0 then (none) else ((cell_number.f (Int.tmod a0_1 a1_1)).bind fun bt563 => (some (bt563.1, bt563.2.1, bt563.2.2, 0))))) = some (r1, r2, r3, r4) := by rw [if_neg (show ¬ (false = true) by decide)] at H; exact H
    clear H
    have H := H1
    clear H1
    by_cases c19 : a1_1 = (-1)
    ·rw [if_pos c19] at H
     have c19b0 : (a1_1 == (-1)) = true := beq_iff_eq.mpr c19
     have c19b1 : (a1_1 != (-1)) = false := bne_eq_false_iff_eq.mpr c19
     clear c19
     replace H := Option.bind_eq_some_iff.mp H
     obtain ⟨⟨t560, t561, t562⟩, A200, H⟩ := H
     replace H : (some (t560, t561, t562, 0)) = some (r1, r2, r3, r4) := H
     have A20 := Aside0.mk A200
     clear A200
     simp only [Option.some.injEq, Prod.mk.injEq] at H
     obtain ⟨rfl, rfl, rfl, rfl⟩ := H
     have hnb21 := NB556_555.out
     have hnc21 := NB555_556.out
     have hnb22 := NB556_557.out
     have hnc22 := NB557_556.out
     have hcz23_0 : wc.cell? ⟨gb556, 0, none⟩ = some (.int .u8 a1_0) := (blk_cell BK556.out 0).trans rfl
     have hcz23_1 : wc.cell? ⟨gb556, 1, none⟩ = some (.int .i64 a1_1) := (blk_cell BK556.out 1).trans rfl
     have hcz23_2 : wc.cell? ⟨gb556, 2, none⟩ = some (.string a1_2) := (blk_cell BK556.out 2).trans rfl
     have hfz23_0 := blk_frozen BK556.out 0
     have hfz23_1 := blk_frozen BK556.out 1
     have hfz23_2 := blk_frozen BK556.out 2
     go_wp2_with (first | ((with_reducible refine gate_callee (f := 74) rfl ?_); refine goesL_ (some 24) rfl rfl Try.func74 (by kernel_rfl) rfl #[.int .i64 0] rfl (by (try simp only [List.map_toArray, List.map_cons, List.map_nil]); first | done | rfl | (simp only [List.length_drop, List.length_take]; rfl)) ?_; (with_reducible refine (cell_number.calls 0 t560 t561 t562 _ A20.out).mono ?_); rintro e w24 ⟨rfl, hb⟩; refine ⟨_, rfl, ?_⟩; have n0_ := Aside0.mk (blk_below (g := gb555) (o := .cells #[.int .u8 a0_0, .int .i64 a0_1, .string a0_2] 35 (0, 0)) (by (with_reducible repeat (first | refine blk_drewN ?_ _ | refine blk_drew ?_ | refine blk_alloc ?_ _)); exact BK555.out) hb); have n1_ := Aside0.mk (blk_below (g := gb556) (o := .cells #[.int .u8 a1_0, .int .i64 a1_1, .string a1_2] 35 (0, 0)) (by (with_reducible repeat (first | refine blk_drewN ?_ _ | refine blk_drew ?_ | refine blk_alloc ?_ _)); exact BK556.out) hb); have n2_ := Aside0.mk (blk_below (g := gb557) (o := .cells #[.int .u8 0, .int .i64 0, .string (⟨#[]⟩ : ByteArray)] 35 (0, 0)) (by (with_reducible repeat (first | refine blk_drewN ?_ _ | refine blk_drew ?_ | refine blk_alloc ?_ _)); exact BK557.out) hb); have n3_ := Aside0.mk (below_step (by repeat (first | (with_reducible first | exact HB.out | apply below_alloc | apply pw_below_drewN | apply below_drew1 | refine below_set ?_ GE555.out | refine below_set ?_ GE556.out | refine below_set ?_ GE557.out) | exact HB.out)) hb); clear BK555; clear BK556; clear BK557; clear HB; have BK555 := n0_; have BK556 := n1_; have BK557 := n2_; have HB := n3_; clear n0_ n1_ n2_ n3_; (try clear hb); (try clear hb2); (try clear hk); (try clear hi); have hnb25 := NB557_555.out; have hnc25 := NB555_557.out; have hcz26_0 : w24.cell? ⟨gb557, 0, none⟩ = some (.int .u8 0) := (blk_cell BK557.out 0).trans rfl; have hcz26_1 : w24.cell? ⟨gb557, 1, none⟩ = some (.int .i64 0) := (blk_cell BK557.out 1).trans rfl; have hcz26_2 : w24.cell? ⟨gb557, 2, none⟩ = some (.string (⟨#[]⟩ : ByteArray)) := (blk_cell BK557.out 2).trans rfl; have hfz26_0 := blk_frozen BK557.out 0; have hfz26_1 := blk_frozen BK557.out 1; have hfz26_2 := blk_frozen BK557.out 2))
     refine bodyPost_ret (results_ct rfl _ _ gb557 35 #[.int .u8 t560, .int .i64 t561, .string t562] (0, 0) _ rfl (by (with_reducible repeat (first | refine blk_drewN ?_ _ | refine blk_drew ?_ | refine blk_alloc ?_ _)); refine blk_put (cs := #[.int .u8 t560, .int .i64 t561, .string (⟨#[]⟩ : ByteArray)]) ?_ 2 _ rfl; (with_reducible repeat (first | refine blk_drewN ?_ _ | refine blk_drew ?_ | refine blk_alloc ?_ _)); refine blk_put (cs := #[.int .u8 t560, .int .i64 0, .string (⟨#[]⟩ : ByteArray)]) ?_ 1 _ rfl; (with_reducible repeat (first | refine blk_drewN ?_ _ | refine blk_drew ?_ | refine blk_alloc ?_ _)); refine blk_put (cs := #[.int .u8 0, .int .i64 0, .string (⟨#[]⟩ : ByteArray)]) ?_ 0 _ rfl; (with_reducible repeat (first | refine blk_drewN ?_ _ | refine blk_drew ?_ | refine blk_alloc ?_ _)); exact BK557.out) Try.underlying35 rfl (by kernel_rfl)) rfl ?_
     exact ⟨by first | rfl | (simp [errW_none, errW_some] <;> rfl) | (simp [*, errW_none, errW_some] <;> rfl), by repeat (first | (with_reducible first | exact HB.out | apply below_alloc | apply pw_below_drewN | apply below_drew1 | refine below_set ?_ GE555.out | refine below_set ?_ GE556.out | refine below_set ?_ GE557.out) | exact HB.out)⟩
    ·rw [if_neg c19] at H
     have c19b0 : (a1_1 == (-1)) = false := beq_eq_false_iff_ne.mpr c19
     have c19b1 : (a1_1 != (-1)) = true := bne_iff_ne.mpr c19
     by_cases c27 : a1_1 = 0
     ·rw [if_pos c27] at H
      exact absurd H (by simp)
     ·rw [if_neg c27] at H
      have c27b0 : (a1_1 == 0) = false := beq_eq_false_iff_ne.mpr c27
      have c27b1 : (a1_1 != 0) = true := bne_iff_ne.mpr c27
      replace H := Option.bind_eq_some_iff.mp H
      obtain ⟨⟨t563, t564, t565⟩, A280, H⟩ := H
      replace H : (some (t563, t564, t565, 0)) = some (r1, r2, r3, r4) := H
      have A28 := Aside0.mk A280
      clear A280
      simp only [Option.some.injEq, Prod.mk.injEq] at H
      obtain ⟨rfl, rfl, rfl, rfl⟩ := H
      have hnb29 := NB556_555.out
      have hnc29 := NB555_556.out
      have hnb30 := NB556_557.out
      have hnc30 := NB557_556.out
      have hcz31_0 : wc.cell? ⟨gb556, 0, none⟩ = some (.int .u8 a1_0) := (blk_cell BK556.out 0).trans rfl
      have hcz31_1 : wc.cell? ⟨gb556, 1, none⟩ = some (.int .i64 a1_1) := (blk_cell BK556.out 1).trans rfl
      have hcz31_2 : wc.cell? ⟨gb556, 2, none⟩ = some (.string a1_2) := (blk_cell BK556.out 2).trans rfl
      have hfz31_0 := blk_frozen BK556.out 0
      have hfz31_1 := blk_frozen BK556.out 1
      have hfz31_2 := blk_frozen BK556.out 2
      have hnb32 := NB555_557.out
      have hnc32 := NB557_555.out
      have hcz33_0 : wc.cell? ⟨gb555, 0, none⟩ = some (.int .u8 a0_0) := (blk_cell BK555.out 0).trans rfl
      have hcz33_1 : wc.cell? ⟨gb555, 1, none⟩ = some (.int .i64 a0_1) := (blk_cell BK555.out 1).trans rfl
      have hcz33_2 : wc.cell? ⟨gb555, 2, none⟩ = some (.string a0_2) := (blk_cell BK555.out 2).trans rfl
      have hfz33_0 := blk_frozen BK555.out 0
      have hfz33_1 := blk_frozen BK555.out 1
      have hfz33_2 := blk_frozen BK555.out 2
      go_wp2_with (first | ((with_reducible refine gate_callee (f := 74) rfl ?_); refine goesL_ (some 30) rfl rfl Try.func74 (by kernel_rfl) rfl #[.int .i64 (Int.tmod a0_1 a1_1)] rfl (by (try simp only [List.map_toArray, List.map_cons, List.map_nil]); first | done | rfl | (simp only [List.length_drop, List.length_take]; rfl)) ?_; (with_reducible refine (cell_number.calls (Int.tmod a0_1 a1_1) t563 t564 t565 _ A28.out).mono ?_); rintro e w34 ⟨rfl, hb⟩; refine ⟨_, rfl, ?_⟩; have n0_ := Aside0.mk (blk_below (g := gb555) (o := .cells #[.int .u8 a0_0, .int .i64 a0_1, .string a0_2] 35 (0, 0)) (by (with_reducible repeat (first | refine blk_drewN ?_ _ | refine blk_drew ?_ | refine blk_alloc ?_ _)); exact BK555.out) hb); have n1_ := Aside0.mk (blk_below (g := gb556) (o := .cells #[.int .u8 a1_0, .int .i64 a1_1, .string a1_2] 35 (0, 0)) (by (with_reducible repeat (first | refine blk_drewN ?_ _ | refine blk_drew ?_ | refine blk_alloc ?_ _)); exact BK556.out) hb); have n2_ := Aside0.mk (blk_below (g := gb557) (o := .cells #[.int .u8 0, .int .i64 0, .string (⟨#[]⟩ : ByteArray)] 35 (0, 0)) (by (with_reducible repeat (first | refine blk_drewN ?_ _ | refine blk_drew ?_ | refine blk_alloc ?_ _)); exact BK557.out) hb); have n3_ := Aside0.mk (below_step (by repeat (first | (with_reducible first | exact HB.out | apply below_alloc | apply pw_below_drewN | apply below_drew1 | refine below_set ?_ GE555.out | refine below_set ?_ GE556.out | refine below_set ?_ GE557.out) | exact HB.out)) hb); clear BK555; clear BK556; clear BK557; clear HB; have BK555 := n0_; have BK556 := n1_; have BK557 := n2_; have HB := n3_; clear n0_ n1_ n2_ n3_; (try clear hb); (try clear hb2); (try clear hk); (try clear hi); have hcz35_0 : w34.cell? ⟨gb557, 0, none⟩ = some (.int .u8 0) := (blk_cell BK557.out 0).trans rfl; have hcz35_1 : w34.cell? ⟨gb557, 1, none⟩ = some (.int .i64 0) := (blk_cell BK557.out 1).trans rfl; have hcz35_2 : w34.cell? ⟨gb557, 2, none⟩ = some (.string (⟨#[]⟩ : ByteArray)) := (blk_cell BK557.out 2).trans rfl; have hfz35_0 := blk_frozen BK557.out 0; have hfz35_1 := blk_frozen BK557.out 1; have hfz35_2 := blk_frozen BK557.out 2))
      refine bodyPost_ret (results_ct rfl _ _ gb557 35 #[.int .u8 t563, .int .i64 t564, .string t565] (0, 0) _ rfl (by (with_reducible repeat (first | refine blk_drewN ?_ _ | refine blk_drew ?_ | refine blk_alloc ?_ _)); refine blk_put (cs := #[.int .u8 t563, .int .i64 t564, .string (⟨#[]⟩ : ByteArray)]) ?_ 2 _ rfl; (with_reducible repeat (first | refine blk_drewN ?_ _ | refine blk_drew ?_ | refine blk_alloc ?_ _)); refine blk_put (cs := #[.int .u8 t563, .int .i64 0, .string (⟨#[]⟩ : ByteArray)]) ?_ 1 _ rfl; (with_reducible repeat (first | refine blk_drewN ?_ _ | refine blk_drew ?_ | refine blk_alloc ?_ _)); refine blk_put (cs := #[.int .u8 0, .int .i64 0, .string (⟨#[]⟩ : ByteArray)]) ?_ 0 _ rfl; (with_reducible repeat (first | refine blk_drewN ?_ _ | refine blk_drew ?_ | refine blk_alloc ?_ _)); exact BK557.out) Try.underlying35 rfl (by kernel_rfl)) rfl ?_
      exact ⟨by first | rfl | (simp [errW_none, errW_some] <;> rfl) | (simp [*, errW_none, errW_some] <;> rfl), by repeat (first | (with_reducible first | exact HB.out | apply below_alloc | apply pw_below_drewN | apply below_drew1 | refine below_set ?_ GE555.out | refine below_set ?_ GE556.out | refine below_set ?_ GE557.out) | exact HB.out)⟩

end Go.Proofs.Ytefpnnljflcmbaa.PCe
