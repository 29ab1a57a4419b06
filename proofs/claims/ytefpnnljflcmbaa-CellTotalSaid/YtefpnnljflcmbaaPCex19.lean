-- Written by a program of this session (wip/tool), which goes by the kit's print.
import Derived.Test.YtefpnnljflcmbaaPCex0
import Derived.Test.YtefpnnljflcmbaaPCex1
import Derived.Test.YtefpnnljflcmbaaPCex2
import Derived.Test.YtefpnnljflcmbaaPCex5
import Derived.Test.YtefpnnljflcmbaaPCex6
import Derived.Test.YtefpnnljflcmbaaPCex14
namespace Go.Proofs.Ytefpnnljflcmbaa.PCe
open Go.RowKit Go.Proofs.YtefpnnljflcmbaaW.PrintWords Go.Proofs.YtefpnnljflcmbaaW.PrintLast Go.Proofs.YtefpnnljflcmbaaW.PrintMore
attribute [local go_sem] max2_int min2_int max_two min_two max_three min_three max_four min_four   -- for this text's walks alone
set_option linter.unusedVariables false
set_option linter.unusedSimpArgs false

attribute [local go_sem high] eqA35
/-! ### hindsightlaw02_CellTotal: function 6 -/
theorem bN6 : type_of% @blk_drewN := @blk_drewN
theorem bD6 : type_of% @blk_drew := @blk_drew
theorem bA6 : type_of% @blk_alloc := @blk_alloc
theorem bB6 : type_of% @blk_below := @blk_below
theorem bS6 : type_of% @below_set := @below_set
theorem aM6 : type_of% @Aside0.mk := @Aside0.mk
mutual
def hindsightlaw02_CellTotal.j0 : Nat → Bool → Int → Int → ByteArray → Int → Int → ByteArray → Int → Int → ByteArray → Option (Bool)
 | 0, _, _, _, _, _, _, _, _, _, _ => none
 | k + 1, x35, x265000, x265001, x265002, x266000, x266001, x266002, x267000, x267001, x267002 => if x35 = true then ((hindsightlaw02_alive.f k).bind fun t272 => (some t272)) else ((cell_Order.f k x265000 x265001 x265002 x266000 x266001 x266002).bind fun t273 => ((cell_Order.f k x266000 x266001 x266002 x267000 x267001 x267002).bind fun t274 => ((cell_Order.f k x265000 x265001 x265002 x267000 x267001 x267002).bind fun t275 => ((cell_Compare.f k x265000 x265001 x265002 x266000 x266001 x266002).bind fun bt276 => ((cell_Order.f k x266000 x266001 x266002 x265000 x265001 x265002).bind fun t279 => (if t273 = (wrap64 (-t279)) then (if ((t273 == 0) != (x265000 == x266000 && (x265001 == x266001 && (x265002.toList == x266002.toList)))) = true then (hindsightlaw02_CellTotal.j1 k t273 bt276.1 bt276.2.1 bt276.2.2 true x265000 x265001 x265002 x266000 x266001 x266002) else (if t273 < 0 then (if t274 < 0 then (if t275 ≥ 0 then (hindsightlaw02_CellTotal.j1 k t273 bt276.1 bt276.2.1 bt276.2.2 true x265000 x265001 x265002 x266000 x266001 x266002) else (if t273 ≤ 0 then (if t274 ≤ 0 then (hindsightlaw02_CellTotal.j1 k t273 bt276.1 bt276.2.1 bt276.2.2 (decide (t275 > 0)) x265000 x265001 x265002 x266000 x266001 x266002) else (hindsightlaw02_CellTotal.j1 k t273 bt276.1 bt276.2.1 bt276.2.2 false x265000 x265001 x265002 x266000 x266001 x266002)) else (hindsightlaw02_CellTotal.j1 k t273 bt276.1 bt276.2.1 bt276.2.2 false x265000 x265001 x265002 x266000 x266001 x266002))) else (if t273 ≤ 0 then (if t274 ≤ 0 then (hindsightlaw02_CellTotal.j1 k t273 bt276.1 bt276.2.1 bt276.2.2 (decide (t275 > 0)) x265000 x265001 x265002 x266000 x266001 x266002) else (hindsightlaw02_CellTotal.j1 k t273 bt276.1 bt276.2.1 bt276.2.2 false x265000 x265001 x265002 x266000 x266001 x266002)) else (hindsightlaw02_CellTotal.j1 k t273 bt276.1 bt276.2.1 bt276.2.2 false x265000 x265001 x265002 x266000 x266001 x266002))) else (if t273 ≤ 0 then (if t274 ≤ 0 then (hindsightlaw02_CellTotal.j1 k t273 bt276.1 bt276.2.1 bt276.2.2 (decide (t275 > 0)) x265000 x265001 x265002 x266000 x266001 x266002) else (hindsightlaw02_CellTotal.j1 k t273 bt276.1 bt276.2.1 bt276.2.2 false x265000 x265001 x265002 x266000 x266001 x266002)) else (hindsightlaw02_CellTotal.j1 k t273 bt276.1 bt276.2.1 bt276.2.2 false x265000 x265001 x265002 x266000 x266001 x266002)))) else (hindsightlaw02_CellTotal.j1 k t273 bt276.1 bt276.2.1 bt276.2.2 true x265000 x265001 x265002 x266000 x266001 x266002)))))))
def hindsightlaw02_CellTotal.j1 : Nat → Int → Int → Bool → Int → Bool → Int → Int → ByteArray → Int → Int → ByteArray → Option (Bool)
 | 0, _, _, _, _, _, _, _, _, _, _, _ => none
 | k + 1, x7, x10, x11, x12, x90, x265000, x265001, x265002, x266000, x266001, x266002 => if x90 = true then (none) else ((hindsightlaw02_alive.f k).bind fun t280 => (if t280 = true then (if x11 = true then (if x12 = 0 then (if x10 = x7 then (some (x265000 == x266000)) else (none)) else (none)) else (some true)) else (none)))
end
def hindsightlaw02_CellTotal.f (k : Nat) (a0_0 : Int) (a0_1 : Int) (a0_2 : ByteArray) (a1_0 : Int) (a1_1 : Int) (a1_2 : ByteArray) (a2_0 : Int) (a2_1 : Int) (a2_2 : ByteArray) : Option (Bool) := (hindsightlaw02_great.f a0_0 a0_1 a0_2 a1_0 a1_1 a1_2).bind fun t267 => (if t267 = true then (hindsightlaw02_CellTotal.j0 k true a0_0 a0_1 a0_2 a1_0 a1_1 a1_2 a2_0 a2_1 a2_2) else ((hindsightlaw02_great.f a2_0 a2_1 a2_2 a2_0 a2_1 a2_2).bind fun t268 => (if t268 = true then (hindsightlaw02_CellTotal.j0 k true a0_0 a0_1 a0_2 a1_0 a1_1 a1_2 a2_0 a2_1 a2_2) else ((cell_Right.f a0_0 a0_1 a0_2).bind fun t269 => (if t269 = true then ((cell_Right.f a1_0 a1_1 a1_2).bind fun t270 => (if t270 = true then ((cell_Right.f a2_0 a2_1 a2_2).bind fun t271 => (hindsightlaw02_CellTotal.j0 k (!t271) a0_0 a0_1 a0_2 a1_0 a1_1 a1_2 a2_0 a2_1 a2_2)) else (hindsightlaw02_CellTotal.j0 k true a0_0 a0_1 a0_2 a1_0 a1_1 a1_2 a2_0 a2_1 a2_2))) else (hindsightlaw02_CellTotal.j0 k true a0_0 a0_1 a0_2 a1_0 a1_1 a1_2 a2_0 a2_1 a2_2))))))
theorem hindsightlaw02_CellTotal.mono_l : ∀ k, (∀ y0 y1 y2 y3 y4 y5 y6 y7 y8 y9, LeO (hindsightlaw02_CellTotal.j0 k y0 y1 y2 y3 y4 y5 y6 y7 y8 y9) (hindsightlaw02_CellTotal.j0 (k + 1) y0 y1 y2 y3 y4 y5 y6 y7 y8 y9)) ∧ (∀ y0 y1 y2 y3 y4 y5 y6 y7 y8 y9 y10, LeO (hindsightlaw02_CellTotal.j1 k y0 y1 y2 y3 y4 y5 y6 y7 y8 y9 y10) (hindsightlaw02_CellTotal.j1 (k + 1) y0 y1 y2 y3 y4 y5 y6 y7 y8 y9 y10))
 | 0 => ⟨fun _ _ _ _ _ _ _ _ _ _ r h => by simp [hindsightlaw02_CellTotal.j0] at h, fun _ _ _ _ _ _ _ _ _ _ _ r h => by simp [hindsightlaw02_CellTotal.j1] at h⟩
 | k + 1 => by
  obtain ⟨ih0, ih1⟩ := hindsightlaw02_CellTotal.mono_l k
  refine ⟨?_, ?_⟩
  ·intro y0 y1 y2 y3 y4 y5 y6 y7 y8 y9
   unfold hindsightlaw02_CellTotal.j0
   repeat' first
   | (with_reducible exact ih0 _ _ _ _ _ _ _ _ _ _)
   | (with_reducible exact ih1 _ _ _ _ _ _ _ _ _ _ _)
   | (with_reducible exact cell_Compare.mono _ _ _ _ _ _ _)
   | (with_reducible exact cell_Order.mono _ _ _ _ _ _ _)
   | (with_reducible exact hindsightlaw02_alive.mono _)
   | (with_reducible exact LeO.refl _)
   | (with_reducible exact LeO.none _)
   | (with_reducible refine LeO.ite ?_ ?_)
   | (with_reducible refine LeO.bind ?_ (fun _ => ?_))
   | exact ih0 _ _ _ _ _ _ _ _ _ _
   | exact ih1 _ _ _ _ _ _ _ _ _ _ _
   | exact cell_Compare.mono _ _ _ _ _ _ _
   | exact cell_Order.mono _ _ _ _ _ _ _
   | exact hindsightlaw02_alive.mono _
   | exact LeO.none _
   | refine LeO.ite ?_ ?_
   | refine LeO.bind ?_ (fun _ => ?_)
  ·intro y0 y1 y2 y3 y4 y5 y6 y7 y8 y9 y10
   unfold hindsightlaw02_CellTotal.j1
   repeat' first
   | (with_reducible exact ih0 _ _ _ _ _ _ _ _ _ _)
   | (with_reducible exact ih1 _ _ _ _ _ _ _ _ _ _ _)
   | (with_reducible exact cell_Compare.mono _ _ _ _ _ _ _)
   | (with_reducible exact cell_Order.mono _ _ _ _ _ _ _)
   | (with_reducible exact hindsightlaw02_alive.mono _)
   | (with_reducible exact LeO.refl _)
   | (with_reducible exact LeO.none _)
   | (with_reducible refine LeO.ite ?_ ?_)
   | (with_reducible refine LeO.bind ?_ (fun _ => ?_))
   | exact ih0 _ _ _ _ _ _ _ _ _ _
   | exact ih1 _ _ _ _ _ _ _ _ _ _ _
   | exact cell_Compare.mono _ _ _ _ _ _ _
   | exact cell_Order.mono _ _ _ _ _ _ _
   | exact hindsightlaw02_alive.mono _
   | exact LeO.none _
   | refine LeO.ite ?_ ?_
   | refine LeO.bind ?_ (fun _ => ?_)
theorem hindsightlaw02_CellTotal.mono : ∀ a0 a1 a2 a3 a4 a5 a6 a7 a8 k, LeO (hindsightlaw02_CellTotal.f k a0 a1 a2 a3 a4 a5 a6 a7 a8) (hindsightlaw02_CellTotal.f (k + 1) a0 a1 a2 a3 a4 a5 a6 a7 a8) := by
 intro a0 a1 a2 a3 a4 a5 a6 a7 a8 k
 obtain ⟨ih0, ih1⟩ := hindsightlaw02_CellTotal.mono_l k
 unfold hindsightlaw02_CellTotal.f
 repeat' first
   | (with_reducible exact ih0 _ _ _ _ _ _ _ _ _ _)
   | (with_reducible exact ih1 _ _ _ _ _ _ _ _ _ _ _)
   | (with_reducible exact cell_Compare.mono _ _ _ _ _ _ _)
   | (with_reducible exact cell_Order.mono _ _ _ _ _ _ _)
   | (with_reducible exact hindsightlaw02_alive.mono _)
   | (with_reducible exact LeO.refl _)
   | (with_reducible exact LeO.none _)
   | (with_reducible refine LeO.ite ?_ ?_)
   | (with_reducible refine LeO.bind ?_ (fun _ => ?_))
   | exact ih0 _ _ _ _ _ _ _ _ _ _
   | exact ih1 _ _ _ _ _ _ _ _ _ _ _
   | exact cell_Compare.mono _ _ _ _ _ _ _
   | exact cell_Order.mono _ _ _ _ _ _ _
   | exact hindsightlaw02_alive.mono _
   | exact LeO.none _
   | refine LeO.ite ?_ ?_
   | refine LeO.bind ?_ (fun _ => ?_)
def hindsightlaw02_CellTotal.T3 : Bool × List (List Nat × List Nat) := (true, [([], []), ([], []), ([0, 1], [0, 1]), ([], []), ([], []), ([3, 4, 2], [3, 4]), ([], []), ([], []), ([6, 7, 5], [6, 7]), ([2, 8, 0, 1, 2], [2]), ([5, 9, 0, 1, 2, 3, 4, 5, 9], [5]), ([8, 10, 0, 1, 2, 3, 4, 5, 6, 7, 8, 9, 10], [8])])
def hindsightlaw02_CellTotal.B3 : List Nat := [0, 0, 3, 0, 0, 31, 0, 0, 255, 511, 1023, 2047]
theorem hindsightlaw02_CellTotal.tab3 : rtab .any (opsOf Try.f6 3) = hindsightlaw02_CellTotal.T3 := by kernel_rfl
theorem hindsightlaw02_CellTotal.bits3 : waitsOk hindsightlaw02_CellTotal.T3.2 hindsightlaw02_CellTotal.B3 = true := by kernel_rfl
set_option maxHeartbeats 8000000 in
set_option maxRecDepth 100000 in
theorem hindsightlaw02_CellTotal.calls (k : Nat) (a0_0 : Int) (a0_1 : Int) (a0_2 : ByteArray) (a1_0 : Int) (a1_1 : Int) (a1_2 : ByteArray) (a2_0 : Int) (a2_1 : Int) (a2_2 : ByteArray) (r : Bool) (w : World) (h : hindsightlaw02_CellTotal.f k a0_0 a0_1 a0_2 a1_0 a1_1 a1_2 a2_0 a2_1 a2_2 = some r) :
  Calls Try.prog 6 #[.agg #[.int .u8 a0_0, .int .i64 a0_1, .string a0_2], .agg #[.int .u8 a1_0, .int .i64 a1_1, .string a1_2], .agg #[.int .u8 a2_0, .int .i64 a2_1, .string a2_2]] w fun e w' => e = .returned (.bool r) ∧ Below w.heap.size w w' := by
 have hu35 := Try.underlying35
 have HB := aM6 (Below.refl w.heap.size w)
 have H : ((hindsightlaw02_great.f a0_0 a0_1 a0_2 a1_0 a1_1 a1_2).bind fun t267 => (if t267 = true then (hindsightlaw02_CellTotal.j0 k true a0_0 a0_1 a0_2 a1_0 a1_1 a1_2 a2_0 a2_1 a2_2) else ((hindsightlaw02_great.f a2_0 a2_1 a2_2 a2_0 a2_1 a2_2).bind fun t268 => (if t268 = true then (hindsightlaw02_CellTotal.j0 k true a0_0 a0_1 a0_2 a1_0 a1_1 a1_2 a2_0 a2_1 a2_2) else ((cell_Right.f a0_0 a0_1 a0_2).bind fun t269 => (if t269 = true then ((cell_Right.f a1_0 a1_1 a1_2).bind fun t270 => (if t270 = true then ((cell_Right.f a2_0 a2_1 a2_2).bind fun t271 => (hindsightlaw02_CellTotal.j0 k (!t271) a0_0 a0_1 a0_2 a1_0 a1_1 a1_2 a2_0 a2_1 a2_2)) else (hindsightlaw02_CellTotal.j0 k true a0_0 a0_1 a0_2 a1_0 a1_1 a1_2 a2_0 a2_1 a2_2))) else (hindsightlaw02_CellTotal.j0 k true a0_0 a0_1 a0_2 a1_0 a1_1 a1_2 a2_0 a2_1 a2_2))))))) = some r := h
 clear h
 have HC4 := aM6 H
 clear H
 go_enter Try.func6, Try.ntmps6
 go_upto_region 1 with (first | ((with_reducible refine gate_dst (N := 3) rfl ?_); refine box_event ?hg (N := 3) ?hd (cs := #[.int .u8 a0_0, .int .i64 a0_1, .string a0_2]) (t := 35) ?hr ?_; (case hd => rfl); (case hg => rfl); (case hr => first | (go_simp; done) | (go_simp; rfl)); intro gb264 hg w5 hbox hb; have n0_ := aM6 (below_step (by repeat (first | (with_reducible first | exact HB.out | apply below_alloc | apply pw_below_drewN | apply below_drew1) | exact HB.out)) hb); have n1_ := aM6 (hbox); have n2_ := aM6 ((by rw [hg]; exact (below_size (by repeat (first | (with_reducible first | exact HB.out | apply below_alloc | apply pw_below_drewN | apply below_drew1) | exact HB.out))) : w.heap.size ≤ gb264)); have n3_ := aM6 ((by rw [hg]; exact (below_size (by repeat (first | (with_reducible first | exact HB.out | apply below_alloc | apply pw_below_drewN | apply below_drew1) | exact HB.out))) : w.heap.size ≤ gb264)); clear HB; have HB := n0_; have BK264 := n1_; have GW264 := n2_; have GE264 := n3_; clear n0_ n1_ n2_ n3_; clear hb hbox hg) | ((with_reducible refine gate_dst (N := 4) rfl ?_); refine box_event ?hg (N := 4) ?hd (cs := #[.int .u8 a1_0, .int .i64 a1_1, .string a1_2]) (t := 35) ?hr ?_; (case hd => rfl); (case hg => rfl); (case hr => first | (go_simp; done) | (go_simp; rfl)); intro gb265 hg w6 hbox hb; have n0_ := aM6 (bB6 (g := gb264) (o := .cells #[.int .u8 a0_0, .int .i64 a0_1, .string a0_2] 35 (0, 0)) (by (with_reducible repeat (first | refine bN6 ?_ _ | refine bD6 ?_ | refine bA6 ?_ _)); exact BK264.out) hb); have n1_ := aM6 (below_step (by repeat (first | (with_reducible first | exact HB.out | apply below_alloc | apply pw_below_drewN | apply below_drew1 | refine bS6 ?_ GE264.out) | exact HB.out)) hb); have n2_ := aM6 (hbox); have n3_ := aM6 ((by rw [hg]; exact (below_size (by repeat (first | (with_reducible first | exact HB.out | apply below_alloc | apply pw_below_drewN | apply below_drew1 | refine bS6 ?_ GE264.out) | exact HB.out))) : w.heap.size ≤ gb265)); have n4_ := aM6 ((by rw [hg]; exact (below_size (by repeat (first | (with_reducible first | exact HB.out | apply below_alloc | apply pw_below_drewN | apply below_drew1 | refine bS6 ?_ GE264.out) | exact HB.out))) : w.heap.size ≤ gb265)); have n5_ := aM6 ((by rw [hg]; exact Nat.ne_of_lt (blk_lt (g := gb264) (o := .cells #[.int .u8 a0_0, .int .i64 a0_1, .string a0_2] 35 (0, 0)) (by (with_reducible repeat (first | refine bN6 ?_ _ | refine bD6 ?_ | refine bA6 ?_ _)); exact BK264.out)) : gb264 ≠ gb265)); have n6_ := aM6 ((by rw [hg]; exact Nat.ne_of_gt (blk_lt (g := gb264) (o := .cells #[.int .u8 a0_0, .int .i64 a0_1, .string a0_2] 35 (0, 0)) (by (with_reducible repeat (first | refine bN6 ?_ _ | refine bD6 ?_ | refine bA6 ?_ _)); exact BK264.out)) : gb265 ≠ gb264)); clear BK264; clear HB; have BK264 := n0_; have HB := n1_; have BK265 := n2_; have GW265 := n3_; have GE265 := n4_; have NB264_265 := n5_; have NB265_264 := n6_; clear n0_ n1_ n2_ n3_ n4_ n5_ n6_; clear hb hbox hg) | ((with_reducible refine gate_dst (N := 5) rfl ?_); refine box_event ?hg (N := 5) ?hd (cs := #[.int .u8 a2_0, .int .i64 a2_1, .string a2_2]) (t := 35) ?hr ?_; (case hd => rfl); (case hg => rfl); (case hr => first | (go_simp; done) | (go_simp; rfl)); intro gb266 hg w7 hbox hb; have n0_ := aM6 (bB6 (g := gb264) (o := .cells #[.int .u8 a0_0, .int .i64 a0_1, .string a0_2] 35 (0, 0)) (by (with_reducible repeat (first | refine bN6 ?_ _ | refine bD6 ?_ | refine bA6 ?_ _)); exact BK264.out) hb); have n1_ := aM6 (bB6 (g := gb265) (o := .cells #[.int .u8 a1_0, .int .i64 a1_1, .string a1_2] 35 (0, 0)) (by (with_reducible repeat (first | refine bN6 ?_ _ | refine bD6 ?_ | refine bA6 ?_ _)); exact BK265.out) hb); have n2_ := aM6 (below_step (by repeat (first | (with_reducible first | exact HB.out | apply below_alloc | apply pw_below_drewN | apply below_drew1 | refine bS6 ?_ GE264.out | refine bS6 ?_ GE265.out) | exact HB.out)) hb); have n3_ := aM6 (hbox); have n4_ := aM6 ((by rw [hg]; exact (below_size (by repeat (first | (with_reducible first | exact HB.out | apply below_alloc | apply pw_below_drewN | apply below_drew1 | refine bS6 ?_ GE264.out | refine bS6 ?_ GE265.out) | exact HB.out))) : w.heap.size ≤ gb266)); have n5_ := aM6 ((by rw [hg]; exact (below_size (by repeat (first | (with_reducible first | exact HB.out | apply below_alloc | apply pw_below_drewN | apply below_drew1 | refine bS6 ?_ GE264.out | refine bS6 ?_ GE265.out) | exact HB.out))) : w.heap.size ≤ gb266)); have n6_ := aM6 ((by rw [hg]; exact Nat.ne_of_lt (blk_lt (g := gb264) (o := .cells #[.int .u8 a0_0, .int .i64 a0_1, .string a0_2] 35 (0, 0)) (by (with_reducible repeat (first | refine bN6 ?_ _ | refine bD6 ?_ | refine bA6 ?_ _)); exact BK264.out)) : gb264 ≠ gb266)); have n7_ := aM6 ((by rw [hg]; exact Nat.ne_of_gt (blk_lt (g := gb264) (o := .cells #[.int .u8 a0_0, .int .i64 a0_1, .string a0_2] 35 (0, 0)) (by (with_reducible repeat (first | refine bN6 ?_ _ | refine bD6 ?_ | refine bA6 ?_ _)); exact BK264.out)) : gb266 ≠ gb264)); have n8_ := aM6 ((by rw [hg]; exact Nat.ne_of_lt (blk_lt (g := gb265) (o := .cells #[.int .u8 a1_0, .int .i64 a1_1, .string a1_2] 35 (0, 0)) (by (with_reducible repeat (first | refine bN6 ?_ _ | refine bD6 ?_ | refine bA6 ?_ _)); exact BK265.out)) : gb265 ≠ gb266)); have n9_ := aM6 ((by rw [hg]; exact Nat.ne_of_gt (blk_lt (g := gb265) (o := .cells #[.int .u8 a1_0, .int .i64 a1_1, .string a1_2] 35 (0, 0)) (by (with_reducible repeat (first | refine bN6 ?_ _ | refine bD6 ?_ | refine bA6 ?_ _)); exact BK265.out)) : gb266 ≠ gb265)); clear BK264; clear BK265; clear HB; have BK264 := n0_; have BK265 := n1_; have HB := n2_; have BK266 := n3_; have GW266 := n4_; have GE266 := n5_; have NB264_266 := n6_; have NB266_264 := n7_; have NB265_266 := n8_; have NB266_265 := n9_; clear n0_ n1_ n2_ n3_ n4_ n5_ n6_ n7_ n8_ n9_; clear hb hbox hg))
 (try simp only [Act.put, List.setIfInBounds_toArray, List.set_cons_zero, List.set_cons_succ])
 go_cut [35] (fun v35 wc => ∃ (kq : Nat) (x35_3 : Bool), v35 = .bool x35_3 ∧ Aside0 (hindsightlaw02_CellTotal.j0 kq x35_3 a0_0 a0_1 a0_2 a1_0 a1_1 a1_2 a2_0 a2_1 a2_2 = some r) ∧ Aside0 (kq ≤ k) ∧ Aside0 (wc.heap[gb264]? = some (.cells #[.int .u8 a0_0, .int .i64 a0_1, .string a0_2] 35 (0, 0))) ∧ Aside0 (wc.heap[gb265]? = some (.cells #[.int .u8 a1_0, .int .i64 a1_1, .string a1_2] 35 (0, 0))) ∧ Aside0 (wc.heap[gb266]? = some (.cells #[.int .u8 a2_0, .int .i64 a2_1, .string a2_2] 35 (0, 0))) ∧ Aside0 (Below w.heap.size w wc))
 case first =>
  have H := HC4.out
  clear HC4
  replace H := Option.bind_eq_some_iff.mp H
  obtain ⟨t267, A80, H⟩ := H
  replace H : (if t267 = true then (hindsightlaw02_CellTotal.j0 k true a0_0 a0_1 a0_2 a1_0 a1_1 a1_2 a2_0 a2_1 a2_2) else ((hindsightlaw02_great.f a2_0 a2_1 a2_2 a2_0 a2_1 a2_2).bind fun t268 => (if t268 = true then (hindsightlaw02_CellTotal.j0 k true a0_0 a0_1 a0_2 a1_0 a1_1 a1_2 a2_0 a2_1 a2_2) else ((cell_Right.f a0_0 a0_1 a0_2).bind fun t269 => (if t269 = true then ((cell_Right.f a1_0 a1_1 a1_2).bind fun t270 => (if t270 = true then ((cell_Right.f a2_0 a2_1 a2_2).bind fun t271 => (hindsightlaw02_CellTotal.j0 k (!t271) a0_0 a0_1 a0_2 a1_0 a1_1 a1_2 a2_0 a2_1 a2_2)) else (hindsightlaw02_CellTotal.j0 k true a0_0 a0_1 a0_2 a1_0 a1_1 a1_2 a2_0 a2_1 a2_2))) else (hindsightlaw02_CellTotal.j0 k true a0_0 a0_1 a0_2 a1_0 a1_1 a1_2 a2_0 a2_1 a2_2)))))) = some r := H
  have A8 := aM6 A80
  clear A80
  by_cases c9 : t267 = true
  ·subst c9
   have H1 : (hindsightlaw02_CellTotal.j0 k true a0_0 a0_1 a0_2 a1_0 a1_1 a1_2 a2_0 a2_1 a2_2) = some r := by rw [if_pos rfl] at H; exact H
   clear H
   have H := H1
   clear H1
   have H' := aM6 H
   clear H
   have hnb10 := NB264_265.out
   have hnc10 := NB265_264.out
   have hnb11 := NB264_266.out
   have hnc11 := NB266_264.out
   have hcz12_0 : w7.cell? ⟨gb264, 0, none⟩ = some (.int .u8 a0_0) := (blk_cell BK264.out 0).trans rfl
   have hcz12_1 : w7.cell? ⟨gb264, 1, none⟩ = some (.int .i64 a0_1) := (blk_cell BK264.out 1).trans rfl
   have hcz12_2 : w7.cell? ⟨gb264, 2, none⟩ = some (.string a0_2) := (blk_cell BK264.out 2).trans rfl
   have hfz12_0 := blk_frozen BK264.out 0
   have hfz12_1 := blk_frozen BK264.out 1
   have hfz12_2 := blk_frozen BK264.out 2
   have hnb13 := NB265_266.out
   have hnc13 := NB266_265.out
   have hcz14_0 : w7.cell? ⟨gb265, 0, none⟩ = some (.int .u8 a1_0) := (blk_cell BK265.out 0).trans rfl
   have hcz14_1 : w7.cell? ⟨gb265, 1, none⟩ = some (.int .i64 a1_1) := (blk_cell BK265.out 1).trans rfl
   have hcz14_2 : w7.cell? ⟨gb265, 2, none⟩ = some (.string a1_2) := (blk_cell BK265.out 2).trans rfl
   have hfz14_0 := blk_frozen BK265.out 0
   have hfz14_1 := blk_frozen BK265.out 1
   have hfz14_2 := blk_frozen BK265.out 2
   go_wp2_with (first | ((with_reducible refine gate_callee (f := 23) rfl ?_); refine goesL_ (some 15) rfl rfl Try.func23 (by kernel_rfl) rfl #[.agg #[.int .u8 a0_0, .int .i64 a0_1, .string a0_2], .agg #[.int .u8 a1_0, .int .i64 a1_1, .string a1_2]] rfl (by (try simp only [List.map_toArray, List.map_cons, List.map_nil]); first | done | rfl | (simp only [List.length_drop, List.length_take]; rfl)) ?_; (with_reducible refine (hindsightlaw02_great.calls a0_0 a0_1 a0_2 a1_0 a1_1 a1_2 true _ A8.out).mono ?_); rintro e w15 ⟨rfl, hb⟩; refine ⟨_, rfl, ?_⟩; have n0_ := aM6 (bB6 (g := gb264) (o := .cells #[.int .u8 a0_0, .int .i64 a0_1, .string a0_2] 35 (0, 0)) (by (with_reducible repeat (first | refine bN6 ?_ _ | refine bD6 ?_ | refine bA6 ?_ _)); exact BK264.out) hb); have n1_ := aM6 (bB6 (g := gb265) (o := .cells #[.int .u8 a1_0, .int .i64 a1_1, .string a1_2] 35 (0, 0)) (by (with_reducible repeat (first | refine bN6 ?_ _ | refine bD6 ?_ | refine bA6 ?_ _)); exact BK265.out) hb); have n2_ := aM6 (bB6 (g := gb266) (o := .cells #[.int .u8 a2_0, .int .i64 a2_1, .string a2_2] 35 (0, 0)) (by (with_reducible repeat (first | refine bN6 ?_ _ | refine bD6 ?_ | refine bA6 ?_ _)); exact BK266.out) hb); have n3_ := aM6 (below_step (by repeat (first | (with_reducible first | exact HB.out | apply below_alloc | apply pw_below_drewN | apply below_drew1 | refine bS6 ?_ GE264.out | refine bS6 ?_ GE265.out | refine bS6 ?_ GE266.out) | exact HB.out)) hb); clear BK264; clear BK265; clear BK266; clear HB; have BK264 := n0_; have BK265 := n1_; have BK266 := n2_; have HB := n3_; clear n0_ n1_ n2_ n3_; (try clear hb); (try clear hb2); (try clear hk); (try clear hi)))
   go_meet
   case rel => exact ⟨_, (true), (by first | rfl | (simp; done) | (simp [*]; done)), H', ⟨by first | omega | exact Nat.le_refl _⟩, ⟨by (with_reducible repeat (first | refine bN6 ?_ _ | refine bD6 ?_ | refine bA6 ?_ _)); exact BK264.out⟩, ⟨by (with_reducible repeat (first | refine bN6 ?_ _ | refine bD6 ?_ | refine bA6 ?_ _)); exact BK265.out⟩, ⟨by (with_reducible repeat (first | refine bN6 ?_ _ | refine bD6 ?_ | refine bA6 ?_ _)); exact BK266.out⟩, ⟨by repeat (first | (with_reducible first | exact HB.out | apply below_alloc | apply pw_below_drewN | apply below_drew1 | refine bS6 ?_ GE264.out | refine bS6 ?_ GE265.out | refine bS6 ?_ GE266.out) | exact HB.out)⟩⟩
  ·replace c9 := Bool.eq_false_iff.mpr c9
   subst c9
   have H1 : ((hindsightlaw02_great.f a2_0 a2_1 a2_2 a2_0 a2_1 a2_2).bind fun t268 => (if t268 = true then (hindsightlaw02_CellTotal.j0 k true a0_0 a0_1 a0_2 a1_0 a1_1 a1_2 a2_0 a2_1 a2_2) else ((cell_Right.f a0_0 a0_1 a0_2).bind fun t269 => (if t269 = true then ((cell_Right.f a1_0 a1_1 a1_2).bind fun t270 => (if t270 = true then ((cell_Right.f a2_0 a2_1 a2_2).bind fun t271 => (hindsightlaw02_CellTotal.j0 k (!t271) a0_0 a0_1 a0_2 a1_0 a1_1 a1_2 a2_0 a2_1 a2_2)) else (hindsightlaw02_CellTotal.j0 k true a0_0 a0_1 a0_2 a1_0 a1_1 a1_2 a2_0 a2_1 a2_2))) else (hindsightlaw02_CellTotal.j0 k true a0_0 a0_1 a0_2 a1_0 a1_1 a1_2 a2_0 a2_1 a2_2))))) = some r := by rw [if_neg (show ¬ (false = true) by decide)] at H; exact H
   clear H
   have H := H1
   clear H1
   replace H := Option.bind_eq_some_iff.mp H
   obtain ⟨t268, A160, H⟩ := H
   replace H : (if t268 = true then (hindsightlaw02_CellTotal.j0 k true a0_0 a0_1 a0_2 a1_0 a1_1 a1_2 a2_0 a2_1 a2_2) else ((cell_Right.f a0_0 a0_1 a0_2).bind fun t269 => (if t269 = true then ((cell_Right.f a1_0 a1_1 a1_2).bind fun t270 => (if t270 = true then ((cell_Right.f a2_0 a2_1 a2_2).bind fun t271 => (hindsightlaw02_CellTotal.j0 k (!t271) a0_0 a0_1 a0_2 a1_0 a1_1 a1_2 a2_0 a2_1 a2_2)) else (hindsightlaw02_CellTotal.j0 k true a0_0 a0_1 a0_2 a1_0 a1_1 a1_2 a2_0 a2_1 a2_2))) else (hindsightlaw02_CellTotal.j0 k true a0_0 a0_1 a0_2 a1_0 a1_1 a1_2 a2_0 a2_1 a2_2)))) = some r := H
   have A16 := aM6 A160
   clear A160
   by_cases c17 : t268 = true
   ·subst c17
    have H1 : (hindsightlaw02_CellTotal.j0 k true a0_0 a0_1 a0_2 a1_0 a1_1 a1_2 a2_0 a2_1 a2_2) = some r := by rw [if_pos rfl] at H; exact H
    clear H
    have H := H1
    clear H1
    have H' := aM6 H
    clear H
    have hnb18 := NB264_265.out
    have hnc18 := NB265_264.out
    have hnb19 := NB264_266.out
    have hnc19 := NB266_264.out
    have hcz20_0 : w7.cell? ⟨gb264, 0, none⟩ = some (.int .u8 a0_0) := (blk_cell BK264.out 0).trans rfl
    have hcz20_1 : w7.cell? ⟨gb264, 1, none⟩ = some (.int .i64 a0_1) := (blk_cell BK264.out 1).trans rfl
    have hcz20_2 : w7.cell? ⟨gb264, 2, none⟩ = some (.string a0_2) := (blk_cell BK264.out 2).trans rfl
    have hfz20_0 := blk_frozen BK264.out 0
    have hfz20_1 := blk_frozen BK264.out 1
    have hfz20_2 := blk_frozen BK264.out 2
    have hnb21 := NB265_266.out
    have hnc21 := NB266_265.out
    have hcz22_0 : w7.cell? ⟨gb265, 0, none⟩ = some (.int .u8 a1_0) := (blk_cell BK265.out 0).trans rfl
    have hcz22_1 : w7.cell? ⟨gb265, 1, none⟩ = some (.int .i64 a1_1) := (blk_cell BK265.out 1).trans rfl
    have hcz22_2 : w7.cell? ⟨gb265, 2, none⟩ = some (.string a1_2) := (blk_cell BK265.out 2).trans rfl
    have hfz22_0 := blk_frozen BK265.out 0
    have hfz22_1 := blk_frozen BK265.out 1
    have hfz22_2 := blk_frozen BK265.out 2
    go_wp2_with (first | ((with_reducible refine gate_callee (f := 23) rfl ?_); refine goesL_ (some 15) rfl rfl Try.func23 (by kernel_rfl) rfl #[.agg #[.int .u8 a0_0, .int .i64 a0_1, .string a0_2], .agg #[.int .u8 a1_0, .int .i64 a1_1, .string a1_2]] rfl (by (try simp only [List.map_toArray, List.map_cons, List.map_nil]); first | done | rfl | (simp only [List.length_drop, List.length_take]; rfl)) ?_; (with_reducible refine (hindsightlaw02_great.calls a0_0 a0_1 a0_2 a1_0 a1_1 a1_2 false _ A8.out).mono ?_); rintro e w23 ⟨rfl, hb⟩; refine ⟨_, rfl, ?_⟩; have n0_ := aM6 (bB6 (g := gb264) (o := .cells #[.int .u8 a0_0, .int .i64 a0_1, .string a0_2] 35 (0, 0)) (by (with_reducible repeat (first | refine bN6 ?_ _ | refine bD6 ?_ | refine bA6 ?_ _)); exact BK264.out) hb); have n1_ := aM6 (bB6 (g := gb265) (o := .cells #[.int .u8 a1_0, .int .i64 a1_1, .string a1_2] 35 (0, 0)) (by (with_reducible repeat (first | refine bN6 ?_ _ | refine bD6 ?_ | refine bA6 ?_ _)); exact BK265.out) hb); have n2_ := aM6 (bB6 (g := gb266) (o := .cells #[.int .u8 a2_0, .int .i64 a2_1, .string a2_2] 35 (0, 0)) (by (with_reducible repeat (first | refine bN6 ?_ _ | refine bD6 ?_ | refine bA6 ?_ _)); exact BK266.out) hb); have n3_ := aM6 (below_step (by repeat (first | (with_reducible first | exact HB.out | apply below_alloc | apply pw_below_drewN | apply below_drew1 | refine bS6 ?_ GE264.out | refine bS6 ?_ GE265.out | refine bS6 ?_ GE266.out) | exact HB.out)) hb); clear BK264; clear BK265; clear BK266; clear HB; have BK264 := n0_; have BK265 := n1_; have BK266 := n2_; have HB := n3_; clear n0_ n1_ n2_ n3_; (try clear hb); (try clear hb2); (try clear hk); (try clear hi); have hcz24_0 : w23.cell? ⟨gb266, 0, none⟩ = some (.int .u8 a2_0) := (blk_cell BK266.out 0).trans rfl; have hcz24_1 : w23.cell? ⟨gb266, 1, none⟩ = some (.int .i64 a2_1) := (blk_cell BK266.out 1).trans rfl; have hcz24_2 : w23.cell? ⟨gb266, 2, none⟩ = some (.string a2_2) := (blk_cell BK266.out 2).trans rfl; have hfz24_0 := blk_frozen BK266.out 0; have hfz24_1 := blk_frozen BK266.out 1; have hfz24_2 := blk_frozen BK266.out 2) | (go_at_call 23; (with_reducible refine (hindsightlaw02_great.calls a2_0 a2_1 a2_2 a2_0 a2_1 a2_2 true _ A16.out).mono ?_); rintro e w25 ⟨rfl, hb⟩; have n0_ := aM6 (bB6 (g := gb264) (o := .cells #[.int .u8 a0_0, .int .i64 a0_1, .string a0_2] 35 (0, 0)) (by (with_reducible repeat (first | refine bN6 ?_ _ | refine bD6 ?_ | refine bA6 ?_ _)); exact BK264.out) hb); have n1_ := aM6 (bB6 (g := gb265) (o := .cells #[.int .u8 a1_0, .int .i64 a1_1, .string a1_2] 35 (0, 0)) (by (with_reducible repeat (first | refine bN6 ?_ _ | refine bD6 ?_ | refine bA6 ?_ _)); exact BK265.out) hb); have n2_ := aM6 (bB6 (g := gb266) (o := .cells #[.int .u8 a2_0, .int .i64 a2_1, .string a2_2] 35 (0, 0)) (by (with_reducible repeat (first | refine bN6 ?_ _ | refine bD6 ?_ | refine bA6 ?_ _)); exact BK266.out) hb); have n3_ := aM6 (below_step (by repeat (first | (with_reducible first | exact HB.out | apply below_alloc | apply pw_below_drewN | apply below_drew1 | refine bS6 ?_ GE264.out | refine bS6 ?_ GE265.out | refine bS6 ?_ GE266.out) | exact HB.out)) hb); clear BK264; clear BK265; clear BK266; clear HB; have BK264 := n0_; have BK265 := n1_; have BK266 := n2_; have HB := n3_; clear n0_ n1_ n2_ n3_; (try clear hb); (try clear hb2); (try clear hk); (try clear hi)))
    go_meet
    case rel => exact ⟨_, (true), (by first | rfl | (simp; done) | (simp [*]; done)), H', ⟨by first | omega | exact Nat.le_refl _⟩, ⟨by (with_reducible repeat (first | refine bN6 ?_ _ | refine bD6 ?_ | refine bA6 ?_ _)); exact BK264.out⟩, ⟨by (with_reducible repeat (first | refine bN6 ?_ _ | refine bD6 ?_ | refine bA6 ?_ _)); exact BK265.out⟩, ⟨by (with_reducible repeat (first | refine bN6 ?_ _ | refine bD6 ?_ | refine bA6 ?_ _)); exact BK266.out⟩, ⟨by repeat (first | (with_reducible first | exact HB.out | apply below_alloc | apply pw_below_drewN | apply below_drew1 | refine bS6 ?_ GE264.out | refine bS6 ?_ GE265.out | refine bS6 ?_ GE266.out) | exact HB.out)⟩⟩
   ·replace c17 := Bool.eq_false_iff.mpr c17
    subst c17
    have H1 : ((cell_Right.f a0_0 a0_1 a0_2).bind fun t269 => (if t269 = true then ((cell_Right.f a1_0 a1_1 a1_2).bind fun t270 => (if t270 = true then ((cell_Right.f a2_0 a2_1 a2_2).bind fun t271 => (hindsightlaw02_CellTotal.j0 k (!t271) a0_0 a0_1 a0_2 a1_0 a1_1 a1_2 a2_0 a2_1 a2_2)) else (hindsightlaw02_CellTotal.j0 k true a0_0 a0_1 a0_2 a1_0 a1_1 a1_2 a2_0 a2_1 a2_2))) else (hindsightlaw02_CellTotal.j0 k true a0_0 a0_1 a0_2 a1_0 a1_1 a1_2 a2_0 a2_1 a2_2))) = some r := by rw [if_neg (show ¬ (false = true) by decide)] at H; exact H
    clear H
    have H := H1
    clear H1
    replace H := Option.bind_eq_some_iff.mp H
    obtain ⟨t269, A260, H⟩ := H
    replace H : (if t269 = true then ((cell_Right.f a1_0 a1_1 a1_2).bind fun t270 => (if t270 = true then ((cell_Right.f a2_0 a2_1 a2_2).bind fun t271 => (hindsightlaw02_CellTotal.j0 k (!t271) a0_0 a0_1 a0_2 a1_0 a1_1 a1_2 a2_0 a2_1 a2_2)) else (hindsightlaw02_CellTotal.j0 k true a0_0 a0_1 a0_2 a1_0 a1_1 a1_2 a2_0 a2_1 a2_2))) else (hindsightlaw02_CellTotal.j0 k true a0_0 a0_1 a0_2 a1_0 a1_1 a1_2 a2_0 a2_1 a2_2)) = some r := H
    have A26 := aM6 A260
    clear A260
    by_cases c27 : t269 = true
    ·subst c27
     have H1 : ((cell_Right.f a1_0 a1_1 a1_2).bind fun t270 => (if t270 = true then ((cell_Right.f a2_0 a2_1 a2_2).bind fun t271 => (hindsightlaw02_CellTotal.j0 k (!t271) a0_0 a0_1 a0_2 a1_0 a1_1 a1_2 a2_0 a2_1 a2_2)) else (hindsightlaw02_CellTotal.j0 k true a0_0 a0_1 a0_2 a1_0 a1_1 a1_2 a2_0 a2_1 a2_2))) = some r := by rw [if_pos rfl] at H; exact H
     clear H
     have H := H1
     clear H1
     replace H := Option.bind_eq_some_iff.mp H
     obtain ⟨t270, A280, H⟩ := H
     replace H : (if t270 = true then ((cell_Right.f a2_0 a2_1 a2_2).bind fun t271 => (hindsightlaw02_CellTotal.j0 k (!t271) a0_0 a0_1 a0_2 a1_0 a1_1 a1_2 a2_0 a2_1 a2_2)) else (hindsightlaw02_CellTotal.j0 k true a0_0 a0_1 a0_2 a1_0 a1_1 a1_2 a2_0 a2_1 a2_2)) = some r := H
     have A28 := aM6 A280
     clear A280
     by_cases c29 : t270 = true
     ·subst c29
      have H1 : ((cell_Right.f a2_0 a2_1 a2_2).bind fun t271 => (hindsightlaw02_CellTotal.j0 k (!t271) a0_0 a0_1 a0_2 a1_0 a1_1 a1_2 a2_0 a2_1 a2_2)) = some r := by rw [if_pos rfl] at H; exact H
      clear H
      have H := H1
      clear H1
      replace H := Option.bind_eq_some_iff.mp H
      obtain ⟨t271, A300, H⟩ := H
      replace H : (hindsightlaw02_CellTotal.j0 k (!t271) a0_0 a0_1 a0_2 a1_0 a1_1 a1_2 a2_0 a2_1 a2_2) = some r := H
      have A30 := aM6 A300
      clear A300
      have H' := aM6 H
      clear H
      have hnb31 := NB264_265.out
      have hnc31 := NB265_264.out
      have hnb32 := NB264_266.out
      have hnc32 := NB266_264.out
      have hcz33_0 : w7.cell? ⟨gb264, 0, none⟩ = some (.int .u8 a0_0) := (blk_cell BK264.out 0).trans rfl
      have hcz33_1 : w7.cell? ⟨gb264, 1, none⟩ = some (.int .i64 a0_1) := (blk_cell BK264.out 1).trans rfl
      have hcz33_2 : w7.cell? ⟨gb264, 2, none⟩ = some (.string a0_2) := (blk_cell BK264.out 2).trans rfl
      have hfz33_0 := blk_frozen BK264.out 0
      have hfz33_1 := blk_frozen BK264.out 1
      have hfz33_2 := blk_frozen BK264.out 2
      have hnb34 := NB265_266.out
      have hnc34 := NB266_265.out
      have hcz35_0 : w7.cell? ⟨gb265, 0, none⟩ = some (.int .u8 a1_0) := (blk_cell BK265.out 0).trans rfl
      have hcz35_1 : w7.cell? ⟨gb265, 1, none⟩ = some (.int .i64 a1_1) := (blk_cell BK265.out 1).trans rfl
      have hcz35_2 : w7.cell? ⟨gb265, 2, none⟩ = some (.string a1_2) := (blk_cell BK265.out 2).trans rfl
      have hfz35_0 := blk_frozen BK265.out 0
      have hfz35_1 := blk_frozen BK265.out 1
      have hfz35_2 := blk_frozen BK265.out 2
      go_wp2_with (first | ((with_reducible refine gate_callee (f := 23) rfl ?_); refine goesL_ (some 15) rfl rfl Try.func23 (by kernel_rfl) rfl #[.agg #[.int .u8 a0_0, .int .i64 a0_1, .string a0_2], .agg #[.int .u8 a1_0, .int .i64 a1_1, .string a1_2]] rfl (by (try simp only [List.map_toArray, List.map_cons, List.map_nil]); first | done | rfl | (simp only [List.length_drop, List.length_take]; rfl)) ?_; (with_reducible refine (hindsightlaw02_great.calls a0_0 a0_1 a0_2 a1_0 a1_1 a1_2 false _ A8.out).mono ?_); rintro e w36 ⟨rfl, hb⟩; refine ⟨_, rfl, ?_⟩; have n0_ := aM6 (bB6 (g := gb264) (o := .cells #[.int .u8 a0_0, .int .i64 a0_1, .string a0_2] 35 (0, 0)) (by (with_reducible repeat (first | refine bN6 ?_ _ | refine bD6 ?_ | refine bA6 ?_ _)); exact BK264.out) hb); have n1_ := aM6 (bB6 (g := gb265) (o := .cells #[.int .u8 a1_0, .int .i64 a1_1, .string a1_2] 35 (0, 0)) (by (with_reducible repeat (first | refine bN6 ?_ _ | refine bD6 ?_ | refine bA6 ?_ _)); exact BK265.out) hb); have n2_ := aM6 (bB6 (g := gb266) (o := .cells #[.int .u8 a2_0, .int .i64 a2_1, .string a2_2] 35 (0, 0)) (by (with_reducible repeat (first | refine bN6 ?_ _ | refine bD6 ?_ | refine bA6 ?_ _)); exact BK266.out) hb); have n3_ := aM6 (below_step (by repeat (first | (with_reducible first | exact HB.out | apply below_alloc | apply pw_below_drewN | apply below_drew1 | refine bS6 ?_ GE264.out | refine bS6 ?_ GE265.out | refine bS6 ?_ GE266.out) | exact HB.out)) hb); clear BK264; clear BK265; clear BK266; clear HB; have BK264 := n0_; have BK265 := n1_; have BK266 := n2_; have HB := n3_; clear n0_ n1_ n2_ n3_; (try clear hb); (try clear hb2); (try clear hk); (try clear hi); have hcz37_0 : w36.cell? ⟨gb266, 0, none⟩ = some (.int .u8 a2_0) := (blk_cell BK266.out 0).trans rfl; have hcz37_1 : w36.cell? ⟨gb266, 1, none⟩ = some (.int .i64 a2_1) := (blk_cell BK266.out 1).trans rfl; have hcz37_2 : w36.cell? ⟨gb266, 2, none⟩ = some (.string a2_2) := (blk_cell BK266.out 2).trans rfl; have hfz37_0 := blk_frozen BK266.out 0; have hfz37_1 := blk_frozen BK266.out 1; have hfz37_2 := blk_frozen BK266.out 2) | (go_at_call 23; (with_reducible refine (hindsightlaw02_great.calls a2_0 a2_1 a2_2 a2_0 a2_1 a2_2 false _ A16.out).mono ?_); rintro e w38 ⟨rfl, hb⟩; have n0_ := aM6 (bB6 (g := gb264) (o := .cells #[.int .u8 a0_0, .int .i64 a0_1, .string a0_2] 35 (0, 0)) (by (with_reducible repeat (first | refine bN6 ?_ _ | refine bD6 ?_ | refine bA6 ?_ _)); exact BK264.out) hb); have n1_ := aM6 (bB6 (g := gb265) (o := .cells #[.int .u8 a1_0, .int .i64 a1_1, .string a1_2] 35 (0, 0)) (by (with_reducible repeat (first | refine bN6 ?_ _ | refine bD6 ?_ | refine bA6 ?_ _)); exact BK265.out) hb); have n2_ := aM6 (bB6 (g := gb266) (o := .cells #[.int .u8 a2_0, .int .i64 a2_1, .string a2_2] 35 (0, 0)) (by (with_reducible repeat (first | refine bN6 ?_ _ | refine bD6 ?_ | refine bA6 ?_ _)); exact BK266.out) hb); have n3_ := aM6 (below_step (by repeat (first | (with_reducible first | exact HB.out | apply below_alloc | apply pw_below_drewN | apply below_drew1 | refine bS6 ?_ GE264.out | refine bS6 ?_ GE265.out | refine bS6 ?_ GE266.out) | exact HB.out)) hb); clear BK264; clear BK265; clear BK266; clear HB; have BK264 := n0_; have BK265 := n1_; have BK266 := n2_; have HB := n3_; clear n0_ n1_ n2_ n3_; (try clear hb); (try clear hb2); (try clear hk); (try clear hi); have hcz39_0 : w38.cell? ⟨gb264, 0, none⟩ = some (.int .u8 a0_0) := (blk_cell BK264.out 0).trans rfl; have hcz39_1 : w38.cell? ⟨gb264, 1, none⟩ = some (.int .i64 a0_1) := (blk_cell BK264.out 1).trans rfl; have hcz39_2 : w38.cell? ⟨gb264, 2, none⟩ = some (.string a0_2) := (blk_cell BK264.out 2).trans rfl; have hfz39_0 := blk_frozen BK264.out 0; have hfz39_1 := blk_frozen BK264.out 1; have hfz39_2 := blk_frozen BK264.out 2) | (go_at_call 27; (with_reducible refine (cell_Right.calls a0_0 a0_1 a0_2 true _ A26.out).mono ?_); rintro e w40 ⟨rfl, hb⟩; have n0_ := aM6 (bB6 (g := gb264) (o := .cells #[.int .u8 a0_0, .int .i64 a0_1, .string a0_2] 35 (0, 0)) (by (with_reducible repeat (first | refine bN6 ?_ _ | refine bD6 ?_ | refine bA6 ?_ _)); exact BK264.out) hb); have n1_ := aM6 (bB6 (g := gb265) (o := .cells #[.int .u8 a1_0, .int .i64 a1_1, .string a1_2] 35 (0, 0)) (by (with_reducible repeat (first | refine bN6 ?_ _ | refine bD6 ?_ | refine bA6 ?_ _)); exact BK265.out) hb); have n2_ := aM6 (bB6 (g := gb266) (o := .cells #[.int .u8 a2_0, .int .i64 a2_1, .string a2_2] 35 (0, 0)) (by (with_reducible repeat (first | refine bN6 ?_ _ | refine bD6 ?_ | refine bA6 ?_ _)); exact BK266.out) hb); have n3_ := aM6 (below_step (by repeat (first | (with_reducible first | exact HB.out | apply below_alloc | apply pw_below_drewN | apply below_drew1 | refine bS6 ?_ GE264.out | refine bS6 ?_ GE265.out | refine bS6 ?_ GE266.out) | exact HB.out)) hb); clear BK264; clear BK265; clear BK266; clear HB; have BK264 := n0_; have BK265 := n1_; have BK266 := n2_; have HB := n3_; clear n0_ n1_ n2_ n3_; (try clear hb); (try clear hb2); (try clear hk); (try clear hi); have hcz41_0 : w40.cell? ⟨gb265, 0, none⟩ = some (.int .u8 a1_0) := (blk_cell BK265.out 0).trans rfl; have hcz41_1 : w40.cell? ⟨gb265, 1, none⟩ = some (.int .i64 a1_1) := (blk_cell BK265.out 1).trans rfl; have hcz41_2 : w40.cell? ⟨gb265, 2, none⟩ = some (.string a1_2) := (blk_cell BK265.out 2).trans rfl; have hfz41_0 := blk_frozen BK265.out 0; have hfz41_1 := blk_frozen BK265.out 1; have hfz41_2 := blk_frozen BK265.out 2) | (go_at_call 27; (with_reducible refine (cell_Right.calls a1_0 a1_1 a1_2 true _ A28.out).mono ?_); rintro e w42 ⟨rfl, hb⟩; have n0_ := aM6 (bB6 (g := gb264) (o := .cells #[.int .u8 a0_0, .int .i64 a0_1, .string a0_2] 35 (0, 0)) (by (with_reducible repeat (first | refine bN6 ?_ _ | refine bD6 ?_ | refine bA6 ?_ _)); exact BK264.out) hb); have n1_ := aM6 (bB6 (g := gb265) (o := .cells #[.int .u8 a1_0, .int .i64 a1_1, .string a1_2] 35 (0, 0)) (by (with_reducible repeat (first | refine bN6 ?_ _ | refine bD6 ?_ | refine bA6 ?_ _)); exact BK265.out) hb); have n2_ := aM6 (bB6 (g := gb266) (o := .cells #[.int .u8 a2_0, .int .i64 a2_1, .string a2_2] 35 (0, 0)) (by (with_reducible repeat (first | refine bN6 ?_ _ | refine bD6 ?_ | refine bA6 ?_ _)); exact BK266.out) hb); have n3_ := aM6 (below_step (by repeat (first | (with_reducible first | exact HB.out | apply below_alloc | apply pw_below_drewN | apply below_drew1 | refine bS6 ?_ GE264.out | refine bS6 ?_ GE265.out | refine bS6 ?_ GE266.out) | exact HB.out)) hb); clear BK264; clear BK265; clear BK266; clear HB; have BK264 := n0_; have BK265 := n1_; have BK266 := n2_; have HB := n3_; clear n0_ n1_ n2_ n3_; (try clear hb); (try clear hb2); (try clear hk); (try clear hi); have hcz43_0 : w42.cell? ⟨gb266, 0, none⟩ = some (.int .u8 a2_0) := (blk_cell BK266.out 0).trans rfl; have hcz43_1 : w42.cell? ⟨gb266, 1, none⟩ = some (.int .i64 a2_1) := (blk_cell BK266.out 1).trans rfl; have hcz43_2 : w42.cell? ⟨gb266, 2, none⟩ = some (.string a2_2) := (blk_cell BK266.out 2).trans rfl; have hfz43_0 := blk_frozen BK266.out 0; have hfz43_1 := blk_frozen BK266.out 1; have hfz43_2 := blk_frozen BK266.out 2) | (go_at_call 27; (with_reducible refine (cell_Right.calls a2_0 a2_1 a2_2 t271 _ A30.out).mono ?_); rintro e w44 ⟨rfl, hb⟩; have n0_ := aM6 (bB6 (g := gb264) (o := .cells #[.int .u8 a0_0, .int .i64 a0_1, .string a0_2] 35 (0, 0)) (by (with_reducible repeat (first | refine bN6 ?_ _ | refine bD6 ?_ | refine bA6 ?_ _)); exact BK264.out) hb); have n1_ := aM6 (bB6 (g := gb265) (o := .cells #[.int .u8 a1_0, .int .i64 a1_1, .string a1_2] 35 (0, 0)) (by (with_reducible repeat (first | refine bN6 ?_ _ | refine bD6 ?_ | refine bA6 ?_ _)); exact BK265.out) hb); have n2_ := aM6 (bB6 (g := gb266) (o := .cells #[.int .u8 a2_0, .int .i64 a2_1, .string a2_2] 35 (0, 0)) (by (with_reducible repeat (first | refine bN6 ?_ _ | refine bD6 ?_ | refine bA6 ?_ _)); exact BK266.out) hb); have n3_ := aM6 (below_step (by repeat (first | (with_reducible first | exact HB.out | apply below_alloc | apply pw_below_drewN | apply below_drew1 | refine bS6 ?_ GE264.out | refine bS6 ?_ GE265.out | refine bS6 ?_ GE266.out) | exact HB.out)) hb); clear BK264; clear BK265; clear BK266; clear HB; have BK264 := n0_; have BK265 := n1_; have BK266 := n2_; have HB := n3_; clear n0_ n1_ n2_ n3_; (try clear hb); (try clear hb2); (try clear hk); (try clear hi)))
      go_meet
      case rel => exact ⟨_, (!t271), (by first | rfl | (simp; done) | (simp [*]; done)), H', ⟨by first | omega | exact Nat.le_refl _⟩, ⟨by (with_reducible repeat (first | refine bN6 ?_ _ | refine bD6 ?_ | refine bA6 ?_ _)); exact BK264.out⟩, ⟨by (with_reducible repeat (first | refine bN6 ?_ _ | refine bD6 ?_ | refine bA6 ?_ _)); exact BK265.out⟩, ⟨by (with_reducible repeat (first | refine bN6 ?_ _ | refine bD6 ?_ | refine bA6 ?_ _)); exact BK266.out⟩, ⟨by repeat (first | (with_reducible first | exact HB.out | apply below_alloc | apply pw_below_drewN | apply below_drew1 | refine bS6 ?_ GE264.out | refine bS6 ?_ GE265.out | refine bS6 ?_ GE266.out) | exact HB.out)⟩⟩
     ·replace c29 := Bool.eq_false_iff.mpr c29
      subst c29
      have H1 : (hindsightlaw02_CellTotal.j0 k true a0_0 a0_1 a0_2 a1_0 a1_1 a1_2 a2_0 a2_1 a2_2) = some r := by rw [if_neg (show ¬ (false = true) by decide)] at H; exact H
      clear H
      have H := H1
      clear H1
      have H' := aM6 H
      clear H
      have hnb45 := NB264_265.out
      have hnc45 := NB265_264.out
      have hnb46 := NB264_266.out
      have hnc46 := NB266_264.out
      have hcz47_0 : w7.cell? ⟨gb264, 0, none⟩ = some (.int .u8 a0_0) := (blk_cell BK264.out 0).trans rfl
      have hcz47_1 : w7.cell? ⟨gb264, 1, none⟩ = some (.int .i64 a0_1) := (blk_cell BK264.out 1).trans rfl
      have hcz47_2 : w7.cell? ⟨gb264, 2, none⟩ = some (.string a0_2) := (blk_cell BK264.out 2).trans rfl
      have hfz47_0 := blk_frozen BK264.out 0
      have hfz47_1 := blk_frozen BK264.out 1
      have hfz47_2 := blk_frozen BK264.out 2
      have hnb48 := NB265_266.out
      have hnc48 := NB266_265.out
      have hcz49_0 : w7.cell? ⟨gb265, 0, none⟩ = some (.int .u8 a1_0) := (blk_cell BK265.out 0).trans rfl
      have hcz49_1 : w7.cell? ⟨gb265, 1, none⟩ = some (.int .i64 a1_1) := (blk_cell BK265.out 1).trans rfl
      have hcz49_2 : w7.cell? ⟨gb265, 2, none⟩ = some (.string a1_2) := (blk_cell BK265.out 2).trans rfl
      have hfz49_0 := blk_frozen BK265.out 0
      have hfz49_1 := blk_frozen BK265.out 1
      have hfz49_2 := blk_frozen BK265.out 2
      go_wp2_with (first | ((with_reducible refine gate_callee (f := 23) rfl ?_); refine goesL_ (some 15) rfl rfl Try.func23 (by kernel_rfl) rfl #[.agg #[.int .u8 a0_0, .int .i64 a0_1, .string a0_2], .agg #[.int .u8 a1_0, .int .i64 a1_1, .string a1_2]] rfl (by (try simp only [List.map_toArray, List.map_cons, List.map_nil]); first | done | rfl | (simp only [List.length_drop, List.length_take]; rfl)) ?_; (with_reducible refine (hindsightlaw02_great.calls a0_0 a0_1 a0_2 a1_0 a1_1 a1_2 false _ A8.out).mono ?_); rintro e w50 ⟨rfl, hb⟩; refine ⟨_, rfl, ?_⟩; have n0_ := aM6 (bB6 (g := gb264) (o := .cells #[.int .u8 a0_0, .int .i64 a0_1, .string a0_2] 35 (0, 0)) (by (with_reducible repeat (first | refine bN6 ?_ _ | refine bD6 ?_ | refine bA6 ?_ _)); exact BK264.out) hb); have n1_ := aM6 (bB6 (g := gb265) (o := .cells #[.int .u8 a1_0, .int .i64 a1_1, .string a1_2] 35 (0, 0)) (by (with_reducible repeat (first | refine bN6 ?_ _ | refine bD6 ?_ | refine bA6 ?_ _)); exact BK265.out) hb); have n2_ := aM6 (bB6 (g := gb266) (o := .cells #[.int .u8 a2_0, .int .i64 a2_1, .string a2_2] 35 (0, 0)) (by (with_reducible repeat (first | refine bN6 ?_ _ | refine bD6 ?_ | refine bA6 ?_ _)); exact BK266.out) hb); have n3_ := aM6 (below_step (by repeat (first | (with_reducible first | exact HB.out | apply below_alloc | apply pw_below_drewN | apply below_drew1 | refine bS6 ?_ GE264.out | refine bS6 ?_ GE265.out | refine bS6 ?_ GE266.out) | exact HB.out)) hb); clear BK264; clear BK265; clear BK266; clear HB; have BK264 := n0_; have BK265 := n1_; have BK266 := n2_; have HB := n3_; clear n0_ n1_ n2_ n3_; (try clear hb); (try clear hb2); (try clear hk); (try clear hi); have hcz51_0 : w50.cell? ⟨gb266, 0, none⟩ = some (.int .u8 a2_0) := (blk_cell BK266.out 0).trans rfl; have hcz51_1 : w50.cell? ⟨gb266, 1, none⟩ = some (.int .i64 a2_1) := (blk_cell BK266.out 1).trans rfl; have hcz51_2 : w50.cell? ⟨gb266, 2, none⟩ = some (.string a2_2) := (blk_cell BK266.out 2).trans rfl; have hfz51_0 := blk_frozen BK266.out 0; have hfz51_1 := blk_frozen BK266.out 1; have hfz51_2 := blk_frozen BK266.out 2) | (go_at_call 23; (with_reducible refine (hindsightlaw02_great.calls a2_0 a2_1 a2_2 a2_0 a2_1 a2_2 false _ A16.out).mono ?_); rintro e w52 ⟨rfl, hb⟩; have n0_ := aM6 (bB6 (g := gb264) (o := .cells #[.int .u8 a0_0, .int .i64 a0_1, .string a0_2] 35 (0, 0)) (by (with_reducible repeat (first | refine bN6 ?_ _ | refine bD6 ?_ | refine bA6 ?_ _)); exact BK264.out) hb); have n1_ := aM6 (bB6 (g := gb265) (o := .cells #[.int .u8 a1_0, .int .i64 a1_1, .string a1_2] 35 (0, 0)) (by (with_reducible repeat (first | refine bN6 ?_ _ | refine bD6 ?_ | refine bA6 ?_ _)); exact BK265.out) hb); have n2_ := aM6 (bB6 (g := gb266) (o := .cells #[.int .u8 a2_0, .int .i64 a2_1, .string a2_2] 35 (0, 0)) (by (with_reducible repeat (first | refine bN6 ?_ _ | refine bD6 ?_ | refine bA6 ?_ _)); exact BK266.out) hb); have n3_ := aM6 (below_step (by repeat (first | (with_reducible first | exact HB.out | apply below_alloc | apply pw_below_drewN | apply below_drew1 | refine bS6 ?_ GE264.out | refine bS6 ?_ GE265.out | refine bS6 ?_ GE266.out) | exact HB.out)) hb); clear BK264; clear BK265; clear BK266; clear HB; have BK264 := n0_; have BK265 := n1_; have BK266 := n2_; have HB := n3_; clear n0_ n1_ n2_ n3_; (try clear hb); (try clear hb2); (try clear hk); (try clear hi); have hcz53_0 : w52.cell? ⟨gb264, 0, none⟩ = some (.int .u8 a0_0) := (blk_cell BK264.out 0).trans rfl; have hcz53_1 : w52.cell? ⟨gb264, 1, none⟩ = some (.int .i64 a0_1) := (blk_cell BK264.out 1).trans rfl; have hcz53_2 : w52.cell? ⟨gb264, 2, none⟩ = some (.string a0_2) := (blk_cell BK264.out 2).trans rfl; have hfz53_0 := blk_frozen BK264.out 0; have hfz53_1 := blk_frozen BK264.out 1; have hfz53_2 := blk_frozen BK264.out 2) | (go_at_call 27; (with_reducible refine (cell_Right.calls a0_0 a0_1 a0_2 true _ A26.out).mono ?_); rintro e w54 ⟨rfl, hb⟩; have n0_ := aM6 (bB6 (g := gb264) (o := .cells #[.int .u8 a0_0, .int .i64 a0_1, .string a0_2] 35 (0, 0)) (by (with_reducible repeat (first | refine bN6 ?_ _ | refine bD6 ?_ | refine bA6 ?_ _)); exact BK264.out) hb); have n1_ := aM6 (bB6 (g := gb265) (o := .cells #[.int .u8 a1_0, .int .i64 a1_1, .string a1_2] 35 (0, 0)) (by (with_reducible repeat (first | refine bN6 ?_ _ | refine bD6 ?_ | refine bA6 ?_ _)); exact BK265.out) hb); have n2_ := aM6 (bB6 (g := gb266) (o := .cells #[.int .u8 a2_0, .int .i64 a2_1, .string a2_2] 35 (0, 0)) (by (with_reducible repeat (first | refine bN6 ?_ _ | refine bD6 ?_ | refine bA6 ?_ _)); exact BK266.out) hb); have n3_ := aM6 (below_step (by repeat (first | (with_reducible first | exact HB.out | apply below_alloc | apply pw_below_drewN | apply below_drew1 | refine bS6 ?_ GE264.out | refine bS6 ?_ GE265.out | refine bS6 ?_ GE266.out) | exact HB.out)) hb); clear BK264; clear BK265; clear BK266; clear HB; have BK264 := n0_; have BK265 := n1_; have BK266 := n2_; have HB := n3_; clear n0_ n1_ n2_ n3_; (try clear hb); (try clear hb2); (try clear hk); (try clear hi); have hcz55_0 : w54.cell? ⟨gb265, 0, none⟩ = some (.int .u8 a1_0) := (blk_cell BK265.out 0).trans rfl; have hcz55_1 : w54.cell? ⟨gb265, 1, none⟩ = some (.int .i64 a1_1) := (blk_cell BK265.out 1).trans rfl; have hcz55_2 : w54.cell? ⟨gb265, 2, none⟩ = some (.string a1_2) := (blk_cell BK265.out 2).trans rfl; have hfz55_0 := blk_frozen BK265.out 0; have hfz55_1 := blk_frozen BK265.out 1; have hfz55_2 := blk_frozen BK265.out 2) | (go_at_call 27; (with_reducible refine (cell_Right.calls a1_0 a1_1 a1_2 false _ A28.out).mono ?_); rintro e w56 ⟨rfl, hb⟩; have n0_ := aM6 (bB6 (g := gb264) (o := .cells #[.int .u8 a0_0, .int .i64 a0_1, .string a0_2] 35 (0, 0)) (by (with_reducible repeat (first | refine bN6 ?_ _ | refine bD6 ?_ | refine bA6 ?_ _)); exact BK264.out) hb); have n1_ := aM6 (bB6 (g := gb265) (o := .cells #[.int .u8 a1_0, .int .i64 a1_1, .string a1_2] 35 (0, 0)) (by (with_reducible repeat (first | refine bN6 ?_ _ | refine bD6 ?_ | refine bA6 ?_ _)); exact BK265.out) hb); have n2_ := aM6 (bB6 (g := gb266) (o := .cells #[.int .u8 a2_0, .int .i64 a2_1, .string a2_2] 35 (0, 0)) (by (with_reducible repeat (first | refine bN6 ?_ _ | refine bD6 ?_ | refine bA6 ?_ _)); exact BK266.out) hb); have n3_ := aM6 (below_step (by repeat (first | (with_reducible first | exact HB.out | apply below_alloc | apply pw_below_drewN | apply below_drew1 | refine bS6 ?_ GE264.out | refine bS6 ?_ GE265.out | refine bS6 ?_ GE266.out) | exact HB.out)) hb); clear BK264; clear BK265; clear BK266; clear HB; have BK264 := n0_; have BK265 := n1_; have BK266 := n2_; have HB := n3_; clear n0_ n1_ n2_ n3_; (try clear hb); (try clear hb2); (try clear hk); (try clear hi)))
      go_meet
      case rel => exact ⟨_, (true), (by first | rfl | (simp; done) | (simp [*]; done)), H', ⟨by first | omega | exact Nat.le_refl _⟩, ⟨by (with_reducible repeat (first | refine bN6 ?_ _ | refine bD6 ?_ | refine bA6 ?_ _)); exact BK264.out⟩, ⟨by (with_reducible repeat (first | refine bN6 ?_ _ | refine bD6 ?_ | refine bA6 ?_ _)); exact BK265.out⟩, ⟨by (with_reducible repeat (first | refine bN6 ?_ _ | refine bD6 ?_ | refine bA6 ?_ _)); exact BK266.out⟩, ⟨by repeat (first | (with_reducible first | exact HB.out | apply below_alloc | apply pw_below_drewN | apply below_drew1 | refine bS6 ?_ GE264.out | refine bS6 ?_ GE265.out | refine bS6 ?_ GE266.out) | exact HB.out)⟩⟩
    ·replace c27 := Bool.eq_false_iff.mpr c27
     subst c27
     have H1 : (hindsightlaw02_CellTotal.j0 k true a0_0 a0_1 a0_2 a1_0 a1_1 a1_2 a2_0 a2_1 a2_2) = some r := by rw [if_neg (show ¬ (false = true) by decide)] at H; exact H
     clear H
     have H := H1
     clear H1
     have H' := aM6 H
     clear H
     have hnb57 := NB264_265.out
     have hnc57 := NB265_264.out
     have hnb58 := NB264_266.out
     have hnc58 := NB266_264.out
     have hcz59_0 : w7.cell? ⟨gb264, 0, none⟩ = some (.int .u8 a0_0) := (blk_cell BK264.out 0).trans rfl
     have hcz59_1 : w7.cell? ⟨gb264, 1, none⟩ = some (.int .i64 a0_1) := (blk_cell BK264.out 1).trans rfl
     have hcz59_2 : w7.cell? ⟨gb264, 2, none⟩ = some (.string a0_2) := (blk_cell BK264.out 2).trans rfl
     have hfz59_0 := blk_frozen BK264.out 0
     have hfz59_1 := blk_frozen BK264.out 1
     have hfz59_2 := blk_frozen BK264.out 2
     have hnb60 := NB265_266.out
     have hnc60 := NB266_265.out
     have hcz61_0 : w7.cell? ⟨gb265, 0, none⟩ = some (.int .u8 a1_0) := (blk_cell BK265.out 0).trans rfl
     have hcz61_1 : w7.cell? ⟨gb265, 1, none⟩ = some (.int .i64 a1_1) := (blk_cell BK265.out 1).trans rfl
     have hcz61_2 : w7.cell? ⟨gb265, 2, none⟩ = some (.string a1_2) := (blk_cell BK265.out 2).trans rfl
     have hfz61_0 := blk_frozen BK265.out 0
     have hfz61_1 := blk_frozen BK265.out 1
     have hfz61_2 := blk_frozen BK265.out 2
     go_wp2_with (first | ((with_reducible refine gate_callee (f := 23) rfl ?_); refine goesL_ (some 15) rfl rfl Try.func23 (by kernel_rfl) rfl #[.agg #[.int .u8 a0_0, .int .i64 a0_1, .string a0_2], .agg #[.int .u8 a1_0, .int .i64 a1_1, .string a1_2]] rfl (by (try simp only [List.map_toArray, List.map_cons, List.map_nil]); first | done | rfl | (simp only [List.length_drop, List.length_take]; rfl)) ?_; (with_reducible refine (hindsightlaw02_great.calls a0_0 a0_1 a0_2 a1_0 a1_1 a1_2 false _ A8.out).mono ?_); rintro e w62 ⟨rfl, hb⟩; refine ⟨_, rfl, ?_⟩; have n0_ := aM6 (bB6 (g := gb264) (o := .cells #[.int .u8 a0_0, .int .i64 a0_1, .string a0_2] 35 (0, 0)) (by (with_reducible repeat (first | refine bN6 ?_ _ | refine bD6 ?_ | refine bA6 ?_ _)); exact BK264.out) hb); have n1_ := aM6 (bB6 (g := gb265) (o := .cells #[.int .u8 a1_0, .int .i64 a1_1, .string a1_2] 35 (0, 0)) (by (with_reducible repeat (first | refine bN6 ?_ _ | refine bD6 ?_ | refine bA6 ?_ _)); exact BK265.out) hb); have n2_ := aM6 (bB6 (g := gb266) (o := .cells #[.int .u8 a2_0, .int .i64 a2_1, .string a2_2] 35 (0, 0)) (by (with_reducible repeat (first | refine bN6 ?_ _ | refine bD6 ?_ | refine bA6 ?_ _)); exact BK266.out) hb); have n3_ := aM6 (below_step (by repeat (first | (with_reducible first | exact HB.out | apply below_alloc | apply pw_below_drewN | apply below_drew1 | refine bS6 ?_ GE264.out | refine bS6 ?_ GE265.out | refine bS6 ?_ GE266.out) | exact HB.out)) hb); clear BK264; clear BK265; clear BK266; clear HB; have BK264 := n0_; have BK265 := n1_; have BK266 := n2_; have HB := n3_; clear n0_ n1_ n2_ n3_; (try clear hb); (try clear hb2); (try clear hk); (try clear hi); have hcz63_0 : w62.cell? ⟨gb266, 0, none⟩ = some (.int .u8 a2_0) := (blk_cell BK266.out 0).trans rfl; have hcz63_1 : w62.cell? ⟨gb266, 1, none⟩ = some (.int .i64 a2_1) := (blk_cell BK266.out 1).trans rfl; have hcz63_2 : w62.cell? ⟨gb266, 2, none⟩ = some (.string a2_2) := (blk_cell BK266.out 2).trans rfl; have hfz63_0 := blk_frozen BK266.out 0; have hfz63_1 := blk_frozen BK266.out 1; have hfz63_2 := blk_frozen BK266.out 2) | (go_at_call 23; (with_reducible refine (hindsightlaw02_great.calls a2_0 a2_1 a2_2 a2_0 a2_1 a2_2 false _ A16.out).mono ?_); rintro e w64 ⟨rfl, hb⟩; have n0_ := aM6 (bB6 (g := gb264) (o := .cells #[.int .u8 a0_0, .int .i64 a0_1, .string a0_2] 35 (0, 0)) (by (with_reducible repeat (first | refine bN6 ?_ _ | refine bD6 ?_ | refine bA6 ?_ _)); exact BK264.out) hb); have n1_ := aM6 (bB6 (g := gb265) (o := .cells #[.int .u8 a1_0, .int .i64 a1_1, .string a1_2] 35 (0, 0)) (by (with_reducible repeat (first | refine bN6 ?_ _ | refine bD6 ?_ | refine bA6 ?_ _)); exact BK265.out) hb); have n2_ := aM6 (bB6 (g := gb266) (o := .cells #[.int .u8 a2_0, .int .i64 a2_1, .string a2_2] 35 (0, 0)) (by (with_reducible repeat (first | refine bN6 ?_ _ | refine bD6 ?_ | refine bA6 ?_ _)); exact BK266.out) hb); have n3_ := aM6 (below_step (by repeat (first | (with_reducible first | exact HB.out | apply below_alloc | apply pw_below_drewN | apply below_drew1 | refine bS6 ?_ GE264.out | refine bS6 ?_ GE265.out | refine bS6 ?_ GE266.out) | exact HB.out)) hb); clear BK264; clear BK265; clear BK266; clear HB; have BK264 := n0_; have BK265 := n1_; have BK266 := n2_; have HB := n3_; clear n0_ n1_ n2_ n3_; (try clear hb); (try clear hb2); (try clear hk); (try clear hi); have hcz65_0 : w64.cell? ⟨gb264, 0, none⟩ = some (.int .u8 a0_0) := (blk_cell BK264.out 0).trans rfl; have hcz65_1 : w64.cell? ⟨gb264, 1, none⟩ = some (.int .i64 a0_1) := (blk_cell BK264.out 1).trans rfl; have hcz65_2 : w64.cell? ⟨gb264, 2, none⟩ = some (.string a0_2) := (blk_cell BK264.out 2).trans rfl; have hfz65_0 := blk_frozen BK264.out 0; have hfz65_1 := blk_frozen BK264.out 1; have hfz65_2 := blk_frozen BK264.out 2) | (go_at_call 27; (with_reducible refine (cell_Right.calls a0_0 a0_1 a0_2 false _ A26.out).mono ?_); rintro e w66 ⟨rfl, hb⟩; have n0_ := aM6 (bB6 (g := gb264) (o := .cells #[.int .u8 a0_0, .int .i64 a0_1, .string a0_2] 35 (0, 0)) (by (with_reducible repeat (first | refine bN6 ?_ _ | refine bD6 ?_ | refine bA6 ?_ _)); exact BK264.out) hb); have n1_ := aM6 (bB6 (g := gb265) (o := .cells #[.int .u8 a1_0, .int .i64 a1_1, .string a1_2] 35 (0, 0)) (by (with_reducible repeat (first | refine bN6 ?_ _ | refine bD6 ?_ | refine bA6 ?_ _)); exact BK265.out) hb); have n2_ := aM6 (bB6 (g := gb266) (o := .cells #[.int .u8 a2_0, .int .i64 a2_1, .string a2_2] 35 (0, 0)) (by (with_reducible repeat (first | refine bN6 ?_ _ | refine bD6 ?_ | refine bA6 ?_ _)); exact BK266.out) hb); have n3_ := aM6 (below_step (by repeat (first | (with_reducible first | exact HB.out | apply below_alloc | apply pw_below_drewN | apply below_drew1 | refine bS6 ?_ GE264.out | refine bS6 ?_ GE265.out | refine bS6 ?_ GE266.out) | exact HB.out)) hb); clear BK264; clear BK265; clear BK266; clear HB; have BK264 := n0_; have BK265 := n1_; have BK266 := n2_; have HB := n3_; clear n0_ n1_ n2_ n3_; (try clear hb); (try clear hb2); (try clear hk); (try clear hi)))
     go_meet
     case rel => exact ⟨_, (true), (by first | rfl | (simp; done) | (simp [*]; done)), H', ⟨by first | omega | exact Nat.le_refl _⟩, ⟨by (with_reducible repeat (first | refine bN6 ?_ _ | refine bD6 ?_ | refine bA6 ?_ _)); exact BK264.out⟩, ⟨by (with_reducible repeat (first | refine bN6 ?_ _ | refine bD6 ?_ | refine bA6 ?_ _)); exact BK265.out⟩, ⟨by (with_reducible repeat (first | refine bN6 ?_ _ | refine bD6 ?_ | refine bA6 ?_ _)); exact BK266.out⟩, ⟨by repeat (first | (with_reducible first | exact HB.out | apply below_alloc | apply pw_below_drewN | apply below_drew1 | refine bS6 ?_ GE264.out | refine bS6 ?_ GE265.out | refine bS6 ?_ GE266.out) | exact HB.out)⟩⟩
 case rest =>
  clear HC4
  try clear c1
  try clear c2
  try clear p2
  try clear c3
  try clear c4
  try clear c5
  try clear c6
  try clear c9
  try clear c10
  try clear c11
  try clear c13
  try clear c17
  try clear c18
  try clear c19
  try clear c21
  try clear c23
  try clear c27
  try clear c29
  try clear c31
  try clear c32
  try clear c34
  try clear c45
  try clear c46
  try clear c48
  try clear c57
  try clear c58
  try clear c60
  try clear hcz12_0
  try clear hcz12_1
  try clear hcz12_2
  try clear hcz14_0
  try clear hcz14_1
  try clear hcz14_2
  try clear hcz20_0
  try clear hcz20_1
  try clear hcz20_2
  try clear hcz22_0
  try clear hcz22_1
  try clear hcz22_2
  try clear hcz24_0
  try clear hcz24_1
  try clear hcz24_2
  try clear hcz33_0
  try clear hcz33_1
  try clear hcz33_2
  try clear hcz35_0
  try clear hcz35_1
  try clear hcz35_2
  try clear hcz37_0
  try clear hcz37_1
  try clear hcz37_2
  try clear hcz39_0
  try clear hcz39_1
  try clear hcz39_2
  try clear hcz41_0
  try clear hcz41_1
  try clear hcz41_2
  try clear hcz43_0
  try clear hcz43_1
  try clear hcz43_2
  try clear hcz47_0
  try clear hcz47_1
  try clear hcz47_2
  try clear hcz49_0
  try clear hcz49_1
  try clear hcz49_2
  try clear hcz51_0
  try clear hcz51_1
  try clear hcz51_2
  try clear hcz53_0
  try clear hcz53_1
  try clear hcz53_2
  try clear hcz55_0
  try clear hcz55_1
  try clear hcz55_2
  try clear hcz59_0
  try clear hcz59_1
  try clear hcz59_2
  try clear hcz61_0
  try clear hcz61_1
  try clear hcz61_2
  try clear hcz63_0
  try clear hcz63_1
  try clear hcz63_2
  try clear hcz65_0
  try clear hcz65_1
  try clear hcz65_2
  try clear hfz12_0
  try clear hfz12_1
  try clear hfz12_2
  try clear hfz14_0
  try clear hfz14_1
  try clear hfz14_2
  try clear hfz20_0
  try clear hfz20_1
  try clear hfz20_2
  try clear hfz22_0
  try clear hfz22_1
  try clear hfz22_2
  try clear hfz24_0
  try clear hfz24_1
  try clear hfz24_2
  try clear hfz33_0
  try clear hfz33_1
  try clear hfz33_2
  try clear hfz35_0
  try clear hfz35_1
  try clear hfz35_2
  try clear hfz37_0
  try clear hfz37_1
  try clear hfz37_2
  try clear hfz39_0
  try clear hfz39_1
  try clear hfz39_2
  try clear hfz41_0
  try clear hfz41_1
  try clear hfz41_2
  try clear hfz43_0
  try clear hfz43_1
  try clear hfz43_2
  try clear hfz47_0
  try clear hfz47_1
  try clear hfz47_2
  try clear hfz49_0
  try clear hfz49_1
  try clear hfz49_2
  try clear hfz51_0
  try clear hfz51_1
  try clear hfz51_2
  try clear hfz53_0
  try clear hfz53_1
  try clear hfz53_2
  try clear hfz55_0
  try clear hfz55_1
  try clear hfz55_2
  try clear hfz59_0
  try clear hfz59_1
  try clear hfz59_2
  try clear hfz61_0
  try clear hfz61_1
  try clear hfz61_2
  try clear hfz63_0
  try clear hfz63_1
  try clear hfz63_2
  try clear hfz65_0
  try clear hfz65_1
  try clear hfz65_2
  obtain ⟨kq, x35_3, rfl, HA, HJ3, BK264, BK265, BK266, HB⟩ := hcut
  cases kq with
  | zero => exact absurd HA.out (by simp [hindsightlaw02_CellTotal.j0])
  | succ kj3 =>
   have H := HA.out
   clear HA
   simp only [hindsightlaw02_CellTotal.j0] at H
   by_cases c67 : x35_3 = true
   ·subst c67
    have H1 : ((hindsightlaw02_alive.f kj3).bind fun t272 => (some t272)) = some r := by rw [if_pos rfl] at H; exact H
    clear H
    have H := H1
    clear H1
    replace H := Option.bind_eq_some_iff.mp H
    obtain ⟨t272, A680, H⟩ := H
    replace H : (some t272) = some r := H
    have A68 := aM6 A680
    clear A680
    obtain rfl := Option.some.inj H
    go_wp2_with (first | ((with_reducible refine gate_callee (f := 24) rfl ?_); refine goesL_ (some 36) rfl rfl Try.func24 (by kernel_rfl) rfl #[] rfl (by (try simp only [List.map_toArray, List.map_cons, List.map_nil]); first | done | rfl | (simp only [List.length_drop, List.length_take]; rfl)) ?_; (with_reducible refine (hindsightlaw02_alive.calls kj3  t272 _ A68.out).mono ?_); rintro e w69 ⟨rfl, hb⟩; refine ⟨_, rfl, ?_⟩; have n0_ := aM6 (bB6 (g := gb264) (o := .cells #[.int .u8 a0_0, .int .i64 a0_1, .string a0_2] 35 (0, 0)) (by (with_reducible repeat (first | refine bN6 ?_ _ | refine bD6 ?_ | refine bA6 ?_ _)); exact BK264.out) hb); have n1_ := aM6 (bB6 (g := gb265) (o := .cells #[.int .u8 a1_0, .int .i64 a1_1, .string a1_2] 35 (0, 0)) (by (with_reducible repeat (first | refine bN6 ?_ _ | refine bD6 ?_ | refine bA6 ?_ _)); exact BK265.out) hb); have n2_ := aM6 (bB6 (g := gb266) (o := .cells #[.int .u8 a2_0, .int .i64 a2_1, .string a2_2] 35 (0, 0)) (by (with_reducible repeat (first | refine bN6 ?_ _ | refine bD6 ?_ | refine bA6 ?_ _)); exact BK266.out) hb); have n3_ := aM6 (below_step (by repeat (first | (with_reducible first | exact HB.out | apply below_alloc | apply pw_below_drewN | apply below_drew1 | refine bS6 ?_ GE264.out | refine bS6 ?_ GE265.out | refine bS6 ?_ GE266.out) | exact HB.out)) hb); clear BK264; clear BK265; clear BK266; clear HB; have BK264 := n0_; have BK265 := n1_; have BK266 := n2_; have HB := n3_; clear n0_ n1_ n2_ n3_; (try clear hb); (try clear hb2); (try clear hk); (try clear hi)))
    go_ret
    exact ⟨by first | rfl | (simp [errW_none, errW_some] <;> rfl) | (simp [*, errW_none, errW_some] <;> rfl), by repeat (first | (with_reducible first | exact HB.out | apply below_alloc | apply pw_below_drewN | apply below_drew1 | refine bS6 ?_ GE264.out | refine bS6 ?_ GE265.out | refine bS6 ?_ GE266.out) | exact HB.out)⟩
   ·replace c67 := Bool.eq_false_iff.mpr c67
    subst c67
    have H1 : ((cell_Order.f kj3 a0_0 a0_1 a0_2 a1_0 a1_1 a1_2).bind fun t273 => ((cell_Order.f kj3 a1_0 a1_1 a1_2 a2_0 a2_1 a2_2).bind fun t274 => ((cell_Order.f kj3 a0_0 a0_1 a0_2 a2_0 a2_1 a2_2).bind fun t275 => ((cell_Compare.f kj3 a0_0 a0_1 a0_2 a1_0 a1_1 a1_2).bind fun bt276 => ((cell_Order.f kj3 a1_0 a1_1 a1_2 a0_0 a0_1 a0_2).bind fun t279 => (if t273 = (wrap64 (-t279)) then (if ((t273 == 0) != (a0_0 == a1_0 && (a0_1 == a1_1 && (a0_2.toList == a1_2.toList)))) = true then (hindsightlaw02_CellTotal.j1 kj3 t273 bt276.1 bt276.2.1 bt276.2.2 true a0_0 a0_1 a0_2 a1_0 a1_1 a1_2) else (if t273 < 0 then (if t274 < 0 then (if t275 ≥ 0 then (hindsightlaw02_CellTotal.j1 kj3 t273 bt276.1 bt276.2.1 bt276.2.2 true a0_0 a0_1 a0_2 a1_0 a1_1 a1_2) else (if t273 ≤ 0 then (if t274 ≤ 0 then (hindsightlaw02_CellTotal.j1 kj3 t273 bt276.1 bt276.2.1 bt276.2.2 (decide (t275 > 0)) a0_0 a0_1 a0_2 a1_0 a1_1 a1_2) else (hindsightlaw02_CellTotal.j1 kj3 t273 bt276.1 bt276.2.1 bt276.2.2 false a0_0 a0_1 a0_2 a1_0 a1_1 a1_2)) else (hindsightlaw02_CellTotal.j1 kj3 t273 bt276.1 bt276.2.1 bt276.2.2 false a0_0 a0_1 a0_2 a1_0 a1_1 a1_2))) else (if t273 ≤ 0 then (if t274 ≤ 0 then (hindsightlaw02_CellTotal.j1 kj3 t273 bt276.1 bt276.2.1 bt276.2.2 (decide (t275 > 0)) a0_0 a0_1 a0_2 a1_0 a1_1 a1_2) else (hindsightlaw02_CellTotal.j1 kj3 t273 bt276.1 bt276.2.1 bt276.2.2 false a0_0 a0_1 a0_2 a1_0 a1_1 a1_2)) else (hindsightlaw02_CellTotal.j1 kj3 t273 bt276.1 bt276.2.1 bt276.2.2 false a0_0 a0_1 a0_2 a1_0 a1_1 a1_2))) else (if t273 ≤ 0 then (if t274 ≤ 0 then (hindsightlaw02_CellTotal.j1 kj3 t273 bt276.1 bt276.2.1 bt276.2.2 (decide (t275 > 0)) a0_0 a0_1 a0_2 a1_0 a1_1 a1_2) else (hindsightlaw02_CellTotal.j1 kj3 t273 bt276.1 bt276.2.1 bt276.2.2 false a0_0 a0_1 a0_2 a1_0 a1_1 a1_2)) else (hindsightlaw02_CellTotal.j1 kj3 t273 bt276.1 bt276.2.1 bt276.2.2 false a0_0 a0_1 a0_2 a1_0 a1_1 a1_2)))) else (hindsightlaw02_CellTotal.j1 kj3 t273 bt276.1 bt276.2.1 bt276.2.2 true a0_0 a0_1 a0_2 a1_0 a1_1 a1_2))))))) = some r := by rw [if_neg (show ¬ (false = true) by decide)] at H; exact H
    clear H
    have H := H1
    clear H1
    replace H := Option.bind_eq_some_iff.mp H
    obtain ⟨t273, A700, H⟩ := H
    replace H : ((cell_Order.f kj3 a1_0 a1_1 a1_2 a2_0 a2_1 a2_2).bind fun t274 => ((cell_Order.f kj3 a0_0 a0_1 a0_2 a2_0 a2_1 a2_2).bind fun t275 => ((cell_Compare.f kj3 a0_0 a0_1 a0_2 a1_0 a1_1 a1_2).bind fun bt276 => ((cell_Order.f kj3 a1_0 a1_1 a1_2 a0_0 a0_1 a0_2).bind fun t279 => (if t273 = (wrap64 (-t279)) then (if ((t273 == 0) != (a0_0 == a1_0 && (a0_1 == a1_1 && (a0_2.toList == a1_2.toList)))) = true then (hindsightlaw02_CellTotal.j1 kj3 t273 bt276.1 bt276.2.1 bt276.2.2 true a0_0 a0_1 a0_2 a1_0 a1_1 a1_2) else (if t273 < 0 then (if t274 < 0 then (if t275 ≥ 0 then (hindsightlaw02_CellTotal.j1 kj3 t273 bt276.1 bt276.2.1 bt276.2.2 true a0_0 a0_1 a0_2 a1_0 a1_1 a1_2) else (if t273 ≤ 0 then (if t274 ≤ 0 then (hindsightlaw02_CellTotal.j1 kj3 t273 bt276.1 bt276.2.1 bt276.2.2 (decide (t275 > 0)) a0_0 a0_1 a0_2 a1_0 a1_1 a1_2) else (hindsightlaw02_CellTotal.j1 kj3 t273 bt276.1 bt276.2.1 bt276.2.2 false a0_0 a0_1 a0_2 a1_0 a1_1 a1_2)) else (hindsightlaw02_CellTotal.j1 kj3 t273 bt276.1 bt276.2.1 bt276.2.2 false a0_0 a0_1 a0_2 a1_0 a1_1 a1_2))) else (if t273 ≤ 0 then (if t274 ≤ 0 then (hindsightlaw02_CellTotal.j1 kj3 t273 bt276.1 bt276.2.1 bt276.2.2 (decide (t275 > 0)) a0_0 a0_1 a0_2 a1_0 a1_1 a1_2) else (hindsightlaw02_CellTotal.j1 kj3 t273 bt276.1 bt276.2.1 bt276.2.2 false a0_0 a0_1 a0_2 a1_0 a1_1 a1_2)) else (hindsightlaw02_CellTotal.j1 kj3 t273 bt276.1 bt276.2.1 bt276.2.2 false a0_0 a0_1 a0_2 a1_0 a1_1 a1_2))) else (if t273 ≤ 0 then (if t274 ≤ 0 then (hindsightlaw02_CellTotal.j1 kj3 t273 bt276.1 bt276.2.1 bt276.2.2 (decide (t275 > 0)) a0_0 a0_1 a0_2 a1_0 a1_1 a1_2) else (hindsightlaw02_CellTotal.j1 kj3 t273 bt276.1 bt276.2.1 bt276.2.2 false a0_0 a0_1 a0_2 a1_0 a1_1 a1_2)) else (hindsightlaw02_CellTotal.j1 kj3 t273 bt276.1 bt276.2.1 bt276.2.2 false a0_0 a0_1 a0_2 a1_0 a1_1 a1_2)))) else (hindsightlaw02_CellTotal.j1 kj3 t273 bt276.1 bt276.2.1 bt276.2.2 true a0_0 a0_1 a0_2 a1_0 a1_1 a1_2)))))) = some r := H
    have A70 := aM6 A700
    clear A700
    replace H := Option.bind_eq_some_iff.mp H
    obtain ⟨t274, A710, H⟩ := H
    replace H : ((cell_Order.f kj3 a0_0 a0_1 a0_2 a2_0 a2_1 a2_2).bind fun t275 => ((cell_Compare.f kj3 a0_0 a0_1 a0_2 a1_0 a1_1 a1_2).bind fun bt276 => ((cell_Order.f kj3 a1_0 a1_1 a1_2 a0_0 a0_1 a0_2).bind fun t279 => (if t273 = (wrap64 (-t279)) then (if ((t273 == 0) != (a0_0 == a1_0 && (a0_1 == a1_1 && (a0_2.toList == a1_2.toList)))) = true then (hindsightlaw02_CellTotal.j1 kj3 t273 bt276.1 bt276.2.1 bt276.2.2 true a0_0 a0_1 a0_2 a1_0 a1_1 a1_2) else (if t273 < 0 then (if t274 < 0 then (if t275 ≥ 0 then (hindsightlaw02_CellTotal.j1 kj3 t273 bt276.1 bt276.2.1 bt276.2.2 true a0_0 a0_1 a0_2 a1_0 a1_1 a1_2) else (if t273 ≤ 0 then (if t274 ≤ 0 then (hindsightlaw02_CellTotal.j1 kj3 t273 bt276.1 bt276.2.1 bt276.2.2 (decide (t275 > 0)) a0_0 a0_1 a0_2 a1_0 a1_1 a1_2) else (hindsightlaw02_CellTotal.j1 kj3 t273 bt276.1 bt276.2.1 bt276.2.2 false a0_0 a0_1 a0_2 a1_0 a1_1 a1_2)) else (hindsightlaw02_CellTotal.j1 kj3 t273 bt276.1 bt276.2.1 bt276.2.2 false a0_0 a0_1 a0_2 a1_0 a1_1 a1_2))) else (if t273 ≤ 0 then (if t274 ≤ 0 then (hindsightlaw02_CellTotal.j1 kj3 t273 bt276.1 bt276.2.1 bt276.2.2 (decide (t275 > 0)) a0_0 a0_1 a0_2 a1_0 a1_1 a1_2) else (hindsightlaw02_CellTotal.j1 kj3 t273 bt276.1 bt276.2.1 bt276.2.2 false a0_0 a0_1 a0_2 a1_0 a1_1 a1_2)) else (hindsightlaw02_CellTotal.j1 kj3 t273 bt276.1 bt276.2.1 bt276.2.2 false a0_0 a0_1 a0_2 a1_0 a1_1 a1_2))) else (if t273 ≤ 0 then (if t274 ≤ 0 then (hindsightlaw02_CellTotal.j1 kj3 t273 bt276.1 bt276.2.1 bt276.2.2 (decide (t275 > 0)) a0_0 a0_1 a0_2 a1_0 a1_1 a1_2) else (hindsightlaw02_CellTotal.j1 kj3 t273 bt276.1 bt276.2.1 bt276.2.2 false a0_0 a0_1 a0_2 a1_0 a1_1 a1_2)) else (hindsightlaw02_CellTotal.j1 kj3 t273 bt276.1 bt276.2.1 bt276.2.2 false a0_0 a0_1 a0_2 a1_0 a1_1 a1_2)))) else (hindsightlaw02_CellTotal.j1 kj3 t273 bt276.1 bt276.2.1 bt276.2.2 true a0_0 a0_1 a0_2 a1_0 a1_1 a1_2))))) = some r := H
    have A71 := aM6 A710
    clear A710
    replace H := Option.bind_eq_some_iff.mp H
    obtain ⟨t275, A720, H⟩ := H
    replace H : ((cell_Compare.f kj3 a0_0 a0_1 a0_2 a1_0 a1_1 a1_2).bind fun bt276 => ((cell_Order.f kj3 a1_0 a1_1 a1_2 a0_0 a0_1 a0_2).bind fun t279 => (if t273 = (wrap64 (-t279)) then (if ((t273 == 0) != (a0_0 == a1_0 && (a0_1 == a1_1 && (a0_2.toList == a1_2.toList)))) = true then (hindsightlaw02_CellTotal.j1 kj3 t273 bt276.1 bt276.2.1 bt276.2.2 true a0_0 a0_1 a0_2 a1_0 a1_1 a1_2) else (if t273 < 0 then (if t274 < 0 then (if t275 ≥ 0 then (hindsightlaw02_CellTotal.j1 kj3 t273 bt276.1 bt276.2.1 bt276.2.2 true a0_0 a0_1 a0_2 a1_0 a1_1 a1_2) else (if t273 ≤ 0 then (if t274 ≤ 0 then (hindsightlaw02_CellTotal.j1 kj3 t273 bt276.1 bt276.2.1 bt276.2.2 (decide (t275 > 0)) a0_0 a0_1 a0_2 a1_0 a1_1 a1_2) else (hindsightlaw02_CellTotal.j1 kj3 t273 bt276.1 bt276.2.1 bt276.2.2 false a0_0 a0_1 a0_2 a1_0 a1_1 a1_2)) else (hindsightlaw02_CellTotal.j1 kj3 t273 bt276.1 bt276.2.1 bt276.2.2 false a0_0 a0_1 a0_2 a1_0 a1_1 a1_2))) else (if t273 ≤ 0 then (if t274 ≤ 0 then (hindsightlaw02_CellTotal.j1 kj3 t273 bt276.1 bt276.2.1 bt276.2.2 (decide (t275 > 0)) a0_0 a0_1 a0_2 a1_0 a1_1 a1_2) else (hindsightlaw02_CellTotal.j1 kj3 t273 bt276.1 bt276.2.1 bt276.2.2 false a0_0 a0_1 a0_2 a1_0 a1_1 a1_2)) else (hindsightlaw02_CellTotal.j1 kj3 t273 bt276.1 bt276.2.1 bt276.2.2 false a0_0 a0_1 a0_2 a1_0 a1_1 a1_2))) else (if t273 ≤ 0 then (if t274 ≤ 0 then (hindsightlaw02_CellTotal.j1 kj3 t273 bt276.1 bt276.2.1 bt276.2.2 (decide (t275 > 0)) a0_0 a0_1 a0_2 a1_0 a1_1 a1_2) else (hindsightlaw02_CellTotal.j1 kj3 t273 bt276.1 bt276.2.1 bt276.2.2 false a0_0 a0_1 a0_2 a1_0 a1_1 a1_2)) else (hindsightlaw02_CellTotal.j1 kj3 t273 bt276.1 bt276.2.1 bt276.2.2 false a0_0 a0_1 a0_2 a1_0 a1_1 a1_2)))) else (hindsightlaw02_CellTotal.j1 kj3 t273 bt276.1 bt276.2.1 bt276.2.2 true a0_0 a0_1 a0_2 a1_0 a1_1 a1_2)))) = some r := H
    have A72 := aM6 A720
    clear A720
    replace H := Option.bind_eq_some_iff.mp H
    obtain ⟨⟨t276, t277, t278⟩, A730, H⟩ := H
    replace H : ((cell_Order.f kj3 a1_0 a1_1 a1_2 a0_0 a0_1 a0_2).bind fun t279 => (if t273 = (wrap64 (-t279)) then (if ((t273 == 0) != (a0_0 == a1_0 && (a0_1 == a1_1 && (a0_2.toList == a1_2.toList)))) = true then (hindsightlaw02_CellTotal.j1 kj3 t273 t276 t277 t278 true a0_0 a0_1 a0_2 a1_0 a1_1 a1_2) else (if t273 < 0 then (if t274 < 0 then (if t275 ≥ 0 then (hindsightlaw02_CellTotal.j1 kj3 t273 t276 t277 t278 true a0_0 a0_1 a0_2 a1_0 a1_1 a1_2) else (if t273 ≤ 0 then (if t274 ≤ 0 then (hindsightlaw02_CellTotal.j1 kj3 t273 t276 t277 t278 (decide (t275 > 0)) a0_0 a0_1 a0_2 a1_0 a1_1 a1_2) else (hindsightlaw02_CellTotal.j1 kj3 t273 t276 t277 t278 false a0_0 a0_1 a0_2 a1_0 a1_1 a1_2)) else (hindsightlaw02_CellTotal.j1 kj3 t273 t276 t277 t278 false a0_0 a0_1 a0_2 a1_0 a1_1 a1_2))) else (if t273 ≤ 0 then (if t274 ≤ 0 then (hindsightlaw02_CellTotal.j1 kj3 t273 t276 t277 t278 (decide (t275 > 0)) a0_0 a0_1 a0_2 a1_0 a1_1 a1_2) else (hindsightlaw02_CellTotal.j1 kj3 t273 t276 t277 t278 false a0_0 a0_1 a0_2 a1_0 a1_1 a1_2)) else (hindsightlaw02_CellTotal.j1 kj3 t273 t276 t277 t278 false a0_0 a0_1 a0_2 a1_0 a1_1 a1_2))) else (if t273 ≤ 0 then (if t274 ≤ 0 then (hindsightlaw02_CellTotal.j1 kj3 t273 t276 t277 t278 (decide (t275 > 0)) a0_0 a0_1 a0_2 a1_0 a1_1 a1_2) else (hindsightlaw02_CellTotal.j1 kj3 t273 t276 t277 t278 false a0_0 a0_1 a0_2 a1_0 a1_1 a1_2)) else (hindsightlaw02_CellTotal.j1 kj3 t273 t276 t277 t278 false a0_0 a0_1 a0_2 a1_0 a1_1 a1_2)))) else (hindsightlaw02_CellTotal.j1 kj3 t273 t276 t277 t278 true a0_0 a0_1 a0_2 a1_0 a1_1 a1_2))) = some r := H
    have A73 := aM6 A730
    clear A730
    have HC74 := aM6 H
    clear H
    try go_wp2
    have n0_ := aM6 (bD6 BK264.out)
    have n1_ := aM6 (bD6 BK265.out)
    have n2_ := aM6 (bD6 BK266.out)
    have n3_ := aM6 (below_drew1 HB.out)
    clear BK264
    clear BK265
    clear BK266
    clear HB
    have BK264 := n0_
    have BK265 := n1_
    have BK266 := n2_
    have HB := n3_
    clear n0_ n1_ n2_ n3_
    refine start_ (n := 12) (S := fun w' => w'.cell? ⟨gb264, 0, none⟩ = some (.int .u8 a0_0) ∧ w'.cell? ⟨gb264, 1, none⟩ = some (.int .i64 a0_1) ∧ w'.cell? ⟨gb264, 2, none⟩ = some (.string a0_2) ∧ w'.cell? ⟨gb265, 0, none⟩ = some (.int .u8 a1_0) ∧ w'.cell? ⟨gb265, 1, none⟩ = some (.int .i64 a1_1) ∧ w'.cell? ⟨gb265, 2, none⟩ = some (.string a1_2) ∧ w'.cell? ⟨gb266, 0, none⟩ = some (.int .u8 a2_0) ∧ w'.cell? ⟨gb266, 1, none⟩ = some (.int .i64 a2_1) ∧ w'.cell? ⟨gb266, 2, none⟩ = some (.string a2_2)) (ds := []) #[false,false,false,false,false,false,false,false,false,false,false,false] (by kernel_rfl) rfl rfl ⟨(blk_cell BK264.out 0).trans rfl, (blk_cell BK264.out 1).trans rfl, (blk_cell BK264.out 2).trans rfl, (blk_cell BK265.out 0).trans rfl, (blk_cell BK265.out 1).trans rfl, (blk_cell BK265.out 2).trans rfl, (blk_cell BK266.out 0).trans rfl, (blk_cell BK266.out 1).trans rfl, (blk_cell BK266.out 2).trans rfl⟩ (fun hHeld => ?_); refine with_tabW hindsightlaw02_CellTotal.tab3 hindsightlaw02_CellTotal.bits3 (fun HT_ HW_ => ?_)
    generalize wc.drew = w75 at BK264 BK265 BK266 HB hHeld ⊢
    refine take_ (i := 0) (N := some 37) (v := ?_) (a' := ?_) #[true,false,false,false,false,false,false,false,false,false,false,false] rfl rfl (take_ofW HT_.out HW_.out (by kernel_rfl)) (fun _ _ _ h => h) (Or.inl ⟨by rfl, ?_⟩) hHeld ?_ ?_
    rotate_left
    ·rintro w' ⟨s0, s1, s2, s3, s4, s5, s6, s7, s8⟩
     go_simp
     with_reducible rfl
    rotate_left
    ·simp only [Act.put, List.setIfInBounds_toArray, List.set_cons_zero, List.set_cons_succ, i64_w, i32_w]
     rfl
    refine take_ (i := 1) (N := some 38) (v := ?_) (a' := ?_) #[true,true,false,false,false,false,false,false,false,false,false,false] rfl rfl (take_ofW HT_.out HW_.out (by kernel_rfl)) (fun _ _ _ h => h) (Or.inl ⟨by rfl, ?_⟩) hHeld ?_ ?_
    rotate_left
    ·rintro w' ⟨s0, s1, s2, s3, s4, s5, s6, s7, s8⟩
     go_simp
     with_reducible rfl
    rotate_left
    ·simp only [Act.put, List.setIfInBounds_toArray, List.set_cons_zero, List.set_cons_succ, i64_w, i32_w]
     rfl
    refine take_ (i := 3) (N := some 40) (v := ?_) (a' := ?_) #[true,true,false,true,false,false,false,false,false,false,false,false] rfl rfl (take_ofW HT_.out HW_.out (by kernel_rfl)) (fun _ _ _ h => h) (Or.inl ⟨by rfl, ?_⟩) hHeld ?_ ?_
    rotate_left
    ·rintro w' ⟨s0, s1, s2, s3, s4, s5, s6, s7, s8⟩
     go_simp
     with_reducible rfl
    rotate_left
    ·simp only [Act.put, List.setIfInBounds_toArray, List.set_cons_zero, List.set_cons_succ, i64_w, i32_w]
     rfl
    refine take_ (i := 4) (N := some 41) (v := ?_) (a' := ?_) #[true,true,false,true,true,false,false,false,false,false,false,false] rfl rfl (take_ofW HT_.out HW_.out (by kernel_rfl)) (fun _ _ _ h => h) (Or.inl ⟨by rfl, ?_⟩) hHeld ?_ ?_
    rotate_left
    ·rintro w' ⟨s0, s1, s2, s3, s4, s5, s6, s7, s8⟩
     go_simp
     with_reducible rfl
    rotate_left
    ·simp only [Act.put, List.setIfInBounds_toArray, List.set_cons_zero, List.set_cons_succ, i64_w, i32_w]
     rfl
    refine take_ (i := 6) (N := some 43) (v := ?_) (a' := ?_) #[true,true,false,true,true,false,true,false,false,false,false,false] rfl rfl (take_ofW HT_.out HW_.out (by kernel_rfl)) (fun _ _ _ h => h) (Or.inl ⟨by rfl, ?_⟩) hHeld ?_ ?_
    rotate_left
    ·rintro w' ⟨s0, s1, s2, s3, s4, s5, s6, s7, s8⟩
     go_simp
     with_reducible rfl
    rotate_left
    ·simp only [Act.put, List.setIfInBounds_toArray, List.set_cons_zero, List.set_cons_succ, i64_w, i32_w]
     rfl
    refine take_ (i := 7) (N := some 44) (v := ?_) (a' := ?_) #[true,true,false,true,true,false,true,true,false,false,false,false] rfl rfl (take_ofW HT_.out HW_.out (by kernel_rfl)) (fun _ _ _ h => h) (Or.inl ⟨by rfl, ?_⟩) hHeld ?_ ?_
    rotate_left
    ·rintro w' ⟨s0, s1, s2, s3, s4, s5, s6, s7, s8⟩
     go_simp
     with_reducible rfl
    rotate_left
    ·simp only [Act.put, List.setIfInBounds_toArray, List.set_cons_zero, List.set_cons_succ, i64_w, i32_w]
     rfl
    refine one_ (i := 2) (N := some 39) #[true,true,true,true,true,false,true,true,false,false,false,false] rfl rfl (one_of HT_.out (by kernel_rfl)) (by decide) (fun K hK => ?_)
    refine goes_ Try.func29 (by kernel_rfl) rfl #[.agg #[.int .u8 a0_0, .int .i64 a0_1, .string a0_2], .agg #[.int .u8 a1_0, .int .i64 a1_1, .string a1_2]] (by rfl) rfl rfl (by (try simp only [List.map_toArray, List.map_cons, List.map_nil]); first | done | rfl | (simp only [List.length_drop, List.length_take]; rfl)) ?_
    with_reducible refine (cell_Order.calls kj3 a0_0 a0_1 a0_2 a1_0 a1_1 a1_2 t273 _ A70.out).mono ?_
    rintro e w76 ⟨rfl, hb⟩
    refine ⟨_, rfl, ?_⟩
    have n0_ := aM6 (bB6 (g := gb264) (o := .cells #[.int .u8 a0_0, .int .i64 a0_1, .string a0_2] 35 (0, 0)) (by (with_reducible repeat (first | refine bN6 ?_ _ | refine bD6 ?_ | refine bA6 ?_ _)); exact BK264.out) hb)
    have n1_ := aM6 (bB6 (g := gb265) (o := .cells #[.int .u8 a1_0, .int .i64 a1_1, .string a1_2] 35 (0, 0)) (by (with_reducible repeat (first | refine bN6 ?_ _ | refine bD6 ?_ | refine bA6 ?_ _)); exact BK265.out) hb)
    have n2_ := aM6 (bB6 (g := gb266) (o := .cells #[.int .u8 a2_0, .int .i64 a2_1, .string a2_2] 35 (0, 0)) (by (with_reducible repeat (first | refine bN6 ?_ _ | refine bD6 ?_ | refine bA6 ?_ _)); exact BK266.out) hb)
    have n3_ := aM6 (below_step (by repeat (first | (with_reducible first | exact HB.out | apply below_alloc | apply pw_below_drewN | apply below_drew1 | refine bS6 ?_ GE264.out | refine bS6 ?_ GE265.out | refine bS6 ?_ GE266.out) | exact HB.out)) hb)
    clear BK264
    clear BK265
    clear BK266
    clear HB
    have BK264 := n0_
    have BK265 := n1_
    have BK266 := n2_
    have HB := n3_
    clear n0_ n1_ n2_ n3_
    (try clear hb)
    (try clear hb2)
    (try clear hk)
    (try clear hi)
    refine hK.out _ _ ⟨(blk_cell BK264.out 0).trans rfl, (blk_cell BK264.out 1).trans rfl, (blk_cell BK264.out 2).trans rfl, (blk_cell BK265.out 0).trans rfl, (blk_cell BK265.out 1).trans rfl, (blk_cell BK265.out 2).trans rfl, (blk_cell BK266.out 0).trans rfl, (blk_cell BK266.out 1).trans rfl, (blk_cell BK266.out 2).trans rfl⟩ (fun hHeld => ?_)
    clear hK K
    refine norm_ (a' := ?_) ?_ ?_
    rotate_left
    ·show Act.put _ (some 39) _ = _
     simp only [Act.put, List.setIfInBounds_toArray, List.set_cons_zero, List.set_cons_succ, i64_w, i32_w]
     rfl
    refine one_ (i := 5) (N := some 42) #[true,true,true,true,true,true,true,true,false,false,false,false] rfl rfl (one_of HT_.out (by kernel_rfl)) (by decide) (fun K hK => ?_)
    refine goes_ Try.func29 (by kernel_rfl) rfl #[.agg #[.int .u8 a1_0, .int .i64 a1_1, .string a1_2], .agg #[.int .u8 a2_0, .int .i64 a2_1, .string a2_2]] (by rfl) rfl rfl (by (try simp only [List.map_toArray, List.map_cons, List.map_nil]); first | done | rfl | (simp only [List.length_drop, List.length_take]; rfl)) ?_
    with_reducible refine (cell_Order.calls kj3 a1_0 a1_1 a1_2 a2_0 a2_1 a2_2 t274 _ A71.out).mono ?_
    rintro e w77 ⟨rfl, hb⟩
    refine ⟨_, rfl, ?_⟩
    have n0_ := aM6 (bB6 (g := gb264) (o := .cells #[.int .u8 a0_0, .int .i64 a0_1, .string a0_2] 35 (0, 0)) (by (with_reducible repeat (first | refine bN6 ?_ _ | refine bD6 ?_ | refine bA6 ?_ _)); exact BK264.out) hb)
    have n1_ := aM6 (bB6 (g := gb265) (o := .cells #[.int .u8 a1_0, .int .i64 a1_1, .string a1_2] 35 (0, 0)) (by (with_reducible repeat (first | refine bN6 ?_ _ | refine bD6 ?_ | refine bA6 ?_ _)); exact BK265.out) hb)
    have n2_ := aM6 (bB6 (g := gb266) (o := .cells #[.int .u8 a2_0, .int .i64 a2_1, .string a2_2] 35 (0, 0)) (by (with_reducible repeat (first | refine bN6 ?_ _ | refine bD6 ?_ | refine bA6 ?_ _)); exact BK266.out) hb)
    have n3_ := aM6 (below_step (by repeat (first | (with_reducible first | exact HB.out | apply below_alloc | apply pw_below_drewN | apply below_drew1 | refine bS6 ?_ GE264.out | refine bS6 ?_ GE265.out | refine bS6 ?_ GE266.out) | exact HB.out)) hb)
    clear BK264
    clear BK265
    clear BK266
    clear HB
    have BK264 := n0_
    have BK265 := n1_
    have BK266 := n2_
    have HB := n3_
    clear n0_ n1_ n2_ n3_
    (try clear hb)
    (try clear hb2)
    (try clear hk)
    (try clear hi)
    refine hK.out _ _ ⟨(blk_cell BK264.out 0).trans rfl, (blk_cell BK264.out 1).trans rfl, (blk_cell BK264.out 2).trans rfl, (blk_cell BK265.out 0).trans rfl, (blk_cell BK265.out 1).trans rfl, (blk_cell BK265.out 2).trans rfl, (blk_cell BK266.out 0).trans rfl, (blk_cell BK266.out 1).trans rfl, (blk_cell BK266.out 2).trans rfl⟩ (fun hHeld => ?_)
    clear hK K
    refine norm_ (a' := ?_) ?_ ?_
    rotate_left
    ·show Act.put _ (some 42) _ = _
     simp only [Act.put, List.setIfInBounds_toArray, List.set_cons_zero, List.set_cons_succ, i64_w, i32_w]
     rfl
    refine one_ (i := 8) (N := some 45) #[true,true,true,true,true,true,true,true,true,false,false,false] rfl rfl (one_of HT_.out (by kernel_rfl)) (by decide) (fun K hK => ?_)
    refine goes_ Try.func29 (by kernel_rfl) rfl #[.agg #[.int .u8 a0_0, .int .i64 a0_1, .string a0_2], .agg #[.int .u8 a2_0, .int .i64 a2_1, .string a2_2]] (by rfl) rfl rfl (by (try simp only [List.map_toArray, List.map_cons, List.map_nil]); first | done | rfl | (simp only [List.length_drop, List.length_take]; rfl)) ?_
    with_reducible refine (cell_Order.calls kj3 a0_0 a0_1 a0_2 a2_0 a2_1 a2_2 t275 _ A72.out).mono ?_
    rintro e w78 ⟨rfl, hb⟩
    refine ⟨_, rfl, ?_⟩
    have n0_ := aM6 (bB6 (g := gb264) (o := .cells #[.int .u8 a0_0, .int .i64 a0_1, .string a0_2] 35 (0, 0)) (by (with_reducible repeat (first | refine bN6 ?_ _ | refine bD6 ?_ | refine bA6 ?_ _)); exact BK264.out) hb)
    have n1_ := aM6 (bB6 (g := gb265) (o := .cells #[.int .u8 a1_0, .int .i64 a1_1, .string a1_2] 35 (0, 0)) (by (with_reducible repeat (first | refine bN6 ?_ _ | refine bD6 ?_ | refine bA6 ?_ _)); exact BK265.out) hb)
    have n2_ := aM6 (bB6 (g := gb266) (o := .cells #[.int .u8 a2_0, .int .i64 a2_1, .string a2_2] 35 (0, 0)) (by (with_reducible repeat (first | refine bN6 ?_ _ | refine bD6 ?_ | refine bA6 ?_ _)); exact BK266.out) hb)
    have n3_ := aM6 (below_step (by repeat (first | (with_reducible first | exact HB.out | apply below_alloc | apply pw_below_drewN | apply below_drew1 | refine bS6 ?_ GE264.out | refine bS6 ?_ GE265.out | refine bS6 ?_ GE266.out) | exact HB.out)) hb)
    clear BK264
    clear BK265
    clear BK266
    clear HB
    have BK264 := n0_
    have BK265 := n1_
    have BK266 := n2_
    have HB := n3_
    clear n0_ n1_ n2_ n3_
    (try clear hb)
    (try clear hb2)
    (try clear hk)
    (try clear hi)
    refine hK.out _ _ ⟨(blk_cell BK264.out 0).trans rfl, (blk_cell BK264.out 1).trans rfl, (blk_cell BK264.out 2).trans rfl, (blk_cell BK265.out 0).trans rfl, (blk_cell BK265.out 1).trans rfl, (blk_cell BK265.out 2).trans rfl, (blk_cell BK266.out 0).trans rfl, (blk_cell BK266.out 1).trans rfl, (blk_cell BK266.out 2).trans rfl⟩ (fun hHeld => ?_)
    clear hK K
    refine norm_ (a' := ?_) ?_ ?_
    rotate_left
    ·show Act.put _ (some 45) _ = _
     simp only [Act.put, List.setIfInBounds_toArray, List.set_cons_zero, List.set_cons_succ, i64_w, i32_w]
     rfl
    refine pure_ (i := 9) (N := some 7) (v := ?_) (a' := ?_) #[true,true,true,true,true,true,true,true,true,true,false,false] rfl rfl (any_of HT_.out (by kernel_rfl)) (fun _ _ _ h => h) (Or.inl ⟨by rfl, ?_⟩) ?_ ?_
    rotate_left
    ·intro w'
     go_simp
     with_reducible rfl
    rotate_left
    ·simp only [Act.put, List.setIfInBounds_toArray, List.set_cons_zero, List.set_cons_succ, i64_w, i32_w]
     rfl
    refine pure_ (i := 10) (N := some 8) (v := ?_) (a' := ?_) #[true,true,true,true,true,true,true,true,true,true,true,false] rfl rfl (any_of HT_.out (by kernel_rfl)) (fun _ _ _ h => h) (Or.inl ⟨by rfl, ?_⟩) ?_ ?_
    rotate_left
    ·intro w'
     go_simp
     with_reducible rfl
    rotate_left
    ·simp only [Act.put, List.setIfInBounds_toArray, List.set_cons_zero, List.set_cons_succ, i64_w, i32_w]
     rfl
    refine pure_ (i := 11) (N := some 9) (v := ?_) (a' := ?_) #[true,true,true,true,true,true,true,true,true,true,true,true] rfl rfl (any_of HT_.out (by kernel_rfl)) (fun _ _ _ h => h) (Or.inl ⟨by rfl, ?_⟩) ?_ ?_
    rotate_left
    ·intro w'
     go_simp
     with_reducible rfl
    rotate_left
    ·simp only [Act.put, List.setIfInBounds_toArray, List.set_cons_zero, List.set_cons_succ, i64_w, i32_w]
     rfl
    refine done_ (done_of HT_.out (by kernel_rfl)) ?_
    have hnb79 := NB264_265.out
    have hnc79 := NB265_264.out
    have hnb80 := NB264_266.out
    have hnc80 := NB266_264.out
    have hcz81_0 : w78.cell? ⟨gb264, 0, none⟩ = some (.int .u8 a0_0) := (blk_cell BK264.out 0).trans rfl
    have hcz81_1 : w78.cell? ⟨gb264, 1, none⟩ = some (.int .i64 a0_1) := (blk_cell BK264.out 1).trans rfl
    have hcz81_2 : w78.cell? ⟨gb264, 2, none⟩ = some (.string a0_2) := (blk_cell BK264.out 2).trans rfl
    have hfz81_0 := blk_frozen BK264.out 0
    have hfz81_1 := blk_frozen BK264.out 1
    have hfz81_2 := blk_frozen BK264.out 2
    have hnb82 := NB265_266.out
    have hnc82 := NB266_265.out
    have hcz83_0 : w78.cell? ⟨gb265, 0, none⟩ = some (.int .u8 a1_0) := (blk_cell BK265.out 0).trans rfl
    have hcz83_1 : w78.cell? ⟨gb265, 1, none⟩ = some (.int .i64 a1_1) := (blk_cell BK265.out 1).trans rfl
    have hcz83_2 : w78.cell? ⟨gb265, 2, none⟩ = some (.string a1_2) := (blk_cell BK265.out 2).trans rfl
    have hfz83_0 := blk_frozen BK265.out 0
    have hfz83_1 := blk_frozen BK265.out 1
    have hfz83_2 := blk_frozen BK265.out 2
    go_upto_region 5 with (first | ((with_reducible refine gate_callee (f := 25) rfl ?_); refine goesL_ (some 49) rfl rfl Try.func25 (by kernel_rfl) rfl #[.agg #[.int .u8 a0_0, .int .i64 a0_1, .string a0_2], .agg #[.int .u8 a1_0, .int .i64 a1_1, .string a1_2]] rfl (by (try simp only [List.map_toArray, List.map_cons, List.map_nil]); first | done | rfl | (simp only [List.length_drop, List.length_take]; rfl)) ?_; (with_reducible refine (cell_Compare.calls kj3 a0_0 a0_1 a0_2 a1_0 a1_1 a1_2 t276 t277 t278 _ A73.out).mono ?_); rintro e w84 ⟨rfl, hb⟩; refine ⟨_, rfl, ?_⟩; have n0_ := aM6 (bB6 (g := gb264) (o := .cells #[.int .u8 a0_0, .int .i64 a0_1, .string a0_2] 35 (0, 0)) (by (with_reducible repeat (first | refine bN6 ?_ _ | refine bD6 ?_ | refine bA6 ?_ _)); exact BK264.out) hb); have n1_ := aM6 (bB6 (g := gb265) (o := .cells #[.int .u8 a1_0, .int .i64 a1_1, .string a1_2] 35 (0, 0)) (by (with_reducible repeat (first | refine bN6 ?_ _ | refine bD6 ?_ | refine bA6 ?_ _)); exact BK265.out) hb); have n2_ := aM6 (bB6 (g := gb266) (o := .cells #[.int .u8 a2_0, .int .i64 a2_1, .string a2_2] 35 (0, 0)) (by (with_reducible repeat (first | refine bN6 ?_ _ | refine bD6 ?_ | refine bA6 ?_ _)); exact BK266.out) hb); have n3_ := aM6 (below_step (by repeat (first | (with_reducible first | exact HB.out | apply below_alloc | apply pw_below_drewN | apply below_drew1 | refine bS6 ?_ GE264.out | refine bS6 ?_ GE265.out | refine bS6 ?_ GE266.out) | exact HB.out)) hb); clear BK264; clear BK265; clear BK266; clear HB; have BK264 := n0_; have BK265 := n1_; have BK266 := n2_; have HB := n3_; clear n0_ n1_ n2_ n3_; (try clear hb); (try clear hb2); (try clear hk); (try clear hi)))
    (try simp only [Act.put, List.setIfInBounds_toArray, List.set_cons_zero, List.set_cons_succ])
    go_cut [90] (fun v90 wc => ∃ (kq : Nat) (x90_73 : Bool), v90 = .bool x90_73 ∧ Aside0 (hindsightlaw02_CellTotal.j1 kq t273 t276 t277 t278 x90_73 a0_0 a0_1 a0_2 a1_0 a1_1 a1_2 = some r) ∧ Aside0 (kq ≤ kj3) ∧ Aside0 (wc.heap[gb264]? = some (.cells #[.int .u8 a0_0, .int .i64 a0_1, .string a0_2] 35 (0, 0))) ∧ Aside0 (wc.heap[gb265]? = some (.cells #[.int .u8 a1_0, .int .i64 a1_1, .string a1_2] 35 (0, 0))) ∧ Aside0 (wc.heap[gb266]? = some (.cells #[.int .u8 a2_0, .int .i64 a2_1, .string a2_2] 35 (0, 0))) ∧ Aside0 (Below w.heap.size w wc))
    case first =>
     have H := HC74.out
     clear HC74
     replace H := Option.bind_eq_some_iff.mp H
     obtain ⟨t279, A850, H⟩ := H
     replace H : (if t273 = (wrap64 (-t279)) then (if ((t273 == 0) != (a0_0 == a1_0 && (a0_1 == a1_1 && (a0_2.toList == a1_2.toList)))) = true then (hindsightlaw02_CellTotal.j1 kj3 t273 t276 t277 t278 true a0_0 a0_1 a0_2 a1_0 a1_1 a1_2) else (if t273 < 0 then (if t274 < 0 then (if t275 ≥ 0 then (hindsightlaw02_CellTotal.j1 kj3 t273 t276 t277 t278 true a0_0 a0_1 a0_2 a1_0 a1_1 a1_2) else (if t273 ≤ 0 then (if t274 ≤ 0 then (hindsightlaw02_CellTotal.j1 kj3 t273 t276 t277 t278 (decide (t275 > 0)) a0_0 a0_1 a0_2 a1_0 a1_1 a1_2) else (hindsightlaw02_CellTotal.j1 kj3 t273 t276 t277 t278 false a0_0 a0_1 a0_2 a1_0 a1_1 a1_2)) else (hindsightlaw02_CellTotal.j1 kj3 t273 t276 t277 t278 false a0_0 a0_1 a0_2 a1_0 a1_1 a1_2))) else (if t273 ≤ 0 then (if t274 ≤ 0 then (hindsightlaw02_CellTotal.j1 kj3 t273 t276 t277 t278 (decide (t275 > 0)) a0_0 a0_1 a0_2 a1_0 a1_1 a1_2) else (hindsightlaw02_CellTotal.j1 kj3 t273 t276 t277 t278 false a0_0 a0_1 a0_2 a1_0 a1_1 a1_2)) else (hindsightlaw02_CellTotal.j1 kj3 t273 t276 t277 t278 false a0_0 a0_1 a0_2 a1_0 a1_1 a1_2))) else (if t273 ≤ 0 then (if t274 ≤ 0 then (hindsightlaw02_CellTotal.j1 kj3 t273 t276 t277 t278 (decide (t275 > 0)) a0_0 a0_1 a0_2 a1_0 a1_1 a1_2) else (hindsightlaw02_CellTotal.j1 kj3 t273 t276 t277 t278 false a0_0 a0_1 a0_2 a1_0 a1_1 a1_2)) else (hindsightlaw02_CellTotal.j1 kj3 t273 t276 t277 t278 false a0_0 a0_1 a0_2 a1_0 a1_1 a1_2)))) else (hindsightlaw02_CellTotal.j1 kj3 t273 t276 t277 t278 true a0_0 a0_1 a0_2 a1_0 a1_1 a1_2)) = some r := H
     have A85 := aM6 A850
     clear A850
     by_cases c86 : t273 = (wrap64 (-t279))
     ·rw [if_pos c86] at H
      have c86b0 : (t273 == (wrap64 (-t279))) = true := beq_iff_eq.mpr c86
      have c86b1 : (t273 != (wrap64 (-t279))) = false := bne_eq_false_iff_eq.mpr c86
      clear c86
      (first | rw [c86b0] | (simp only [i64_w, i32_w]; rw [c86b0]) | skip)
      by_cases c87 : ((t273 == 0) != (a0_0 == a1_0 && (a0_1 == a1_1 && (a0_2.toList == a1_2.toList)))) = true
      ·rw [if_pos c87] at H
       have c87b0 : ((t273 == 0) != (a0_0 == a1_0 && (a0_1 == a1_1 && (a0_2.toList == a1_2.toList)))) = true := c87
       (try (have c87b1 : decide ((t273 == 0) = (a0_0 == a1_0 && (a0_1 == a1_1 && (a0_2.toList == a1_2.toList)))) = false := by simpa using c87))
       (try (have c87b2 : ((t273 == 0) == (a0_0 == a1_0 && (a0_1 == a1_1 && (a0_2.toList == a1_2.toList)))) = false := by simpa using c87))
       (try (have c87b3 : (!((t273 == 0) == (a0_0 == a1_0 && (a0_1 == a1_1 && (a0_2.toList == a1_2.toList))))) = true := by first | exact c87 | simpa using c87))
       (try (have c87b4 : ¬ ((t273 == 0) = (a0_0 == a1_0 && (a0_1 == a1_1 && (a0_2.toList == a1_2.toList)))) := by simpa using c87))
       clear c87
       have H' := aM6 H
       clear H
       have hnb88 := NB265_264.out
       have hnc88 := NB264_265.out
       have hnb89 := NB265_266.out
       have hnc89 := NB266_265.out
       have hcz90_0 : w84.cell? ⟨gb265, 0, none⟩ = some (.int .u8 a1_0) := (blk_cell BK265.out 0).trans rfl
       have hcz90_1 : w84.cell? ⟨gb265, 1, none⟩ = some (.int .i64 a1_1) := (blk_cell BK265.out 1).trans rfl
       have hcz90_2 : w84.cell? ⟨gb265, 2, none⟩ = some (.string a1_2) := (blk_cell BK265.out 2).trans rfl
       have hfz90_0 := blk_frozen BK265.out 0
       have hfz90_1 := blk_frozen BK265.out 1
       have hfz90_2 := blk_frozen BK265.out 2
       have hnb91 := NB264_266.out
       have hnc91 := NB266_264.out
       have hcz92_0 : w84.cell? ⟨gb264, 0, none⟩ = some (.int .u8 a0_0) := (blk_cell BK264.out 0).trans rfl
       have hcz92_1 : w84.cell? ⟨gb264, 1, none⟩ = some (.int .i64 a0_1) := (blk_cell BK264.out 1).trans rfl
       have hcz92_2 : w84.cell? ⟨gb264, 2, none⟩ = some (.string a0_2) := (blk_cell BK264.out 2).trans rfl
       have hfz92_0 := blk_frozen BK264.out 0
       have hfz92_1 := blk_frozen BK264.out 1
       have hfz92_2 := blk_frozen BK264.out 2
       go_wp2_with (first | ((with_reducible refine gate_callee (f := 29) rfl ?_); refine goesL_ (some 56) rfl rfl Try.func29 (by kernel_rfl) rfl #[.agg #[.int .u8 a1_0, .int .i64 a1_1, .string a1_2], .agg #[.int .u8 a0_0, .int .i64 a0_1, .string a0_2]] rfl (by (try simp only [List.map_toArray, List.map_cons, List.map_nil]); first | done | rfl | (simp only [List.length_drop, List.length_take]; rfl)) ?_; (with_reducible refine (cell_Order.calls kj3 a1_0 a1_1 a1_2 a0_0 a0_1 a0_2 t279 _ A85.out).mono ?_); rintro e w93 ⟨rfl, hb⟩; refine ⟨_, rfl, ?_⟩; have n0_ := aM6 (bB6 (g := gb264) (o := .cells #[.int .u8 a0_0, .int .i64 a0_1, .string a0_2] 35 (0, 0)) (by (with_reducible repeat (first | refine bN6 ?_ _ | refine bD6 ?_ | refine bA6 ?_ _)); exact BK264.out) hb); have n1_ := aM6 (bB6 (g := gb265) (o := .cells #[.int .u8 a1_0, .int .i64 a1_1, .string a1_2] 35 (0, 0)) (by (with_reducible repeat (first | refine bN6 ?_ _ | refine bD6 ?_ | refine bA6 ?_ _)); exact BK265.out) hb); have n2_ := aM6 (bB6 (g := gb266) (o := .cells #[.int .u8 a2_0, .int .i64 a2_1, .string a2_2] 35 (0, 0)) (by (with_reducible repeat (first | refine bN6 ?_ _ | refine bD6 ?_ | refine bA6 ?_ _)); exact BK266.out) hb); have n3_ := aM6 (below_step (by repeat (first | (with_reducible first | exact HB.out | apply below_alloc | apply pw_below_drewN | apply below_drew1 | refine bS6 ?_ GE264.out | refine bS6 ?_ GE265.out | refine bS6 ?_ GE266.out) | exact HB.out)) hb); clear BK264; clear BK265; clear BK266; clear HB; have BK264 := n0_; have BK265 := n1_; have BK266 := n2_; have HB := n3_; clear n0_ n1_ n2_ n3_; (try clear hb); (try clear hb2); (try clear hk); (try clear hi); have hcz94_0 : w93.cell? ⟨gb264, 0, none⟩ = some (.int .u8 a0_0) := (blk_cell BK264.out 0).trans rfl; have hcz94_1 : w93.cell? ⟨gb264, 1, none⟩ = some (.int .i64 a0_1) := (blk_cell BK264.out 1).trans rfl; have hcz94_2 : w93.cell? ⟨gb264, 2, none⟩ = some (.string a0_2) := (blk_cell BK264.out 2).trans rfl; have hfz94_0 := blk_frozen BK264.out 0; have hfz94_1 := blk_frozen BK264.out 1; have hfz94_2 := blk_frozen BK264.out 2; have hcz95_0 : w93.cell? ⟨gb265, 0, none⟩ = some (.int .u8 a1_0) := (blk_cell BK265.out 0).trans rfl; have hcz95_1 : w93.cell? ⟨gb265, 1, none⟩ = some (.int .i64 a1_1) := (blk_cell BK265.out 1).trans rfl; have hcz95_2 : w93.cell? ⟨gb265, 2, none⟩ = some (.string a1_2) := (blk_cell BK265.out 2).trans rfl; have hfz95_0 := blk_frozen BK265.out 0; have hfz95_1 := blk_frozen BK265.out 1; have hfz95_2 := blk_frozen BK265.out 2))
       (try (all_goals (try (exact absurd (c87b3.symm.trans (show (!((t273 == 0) == (a0_0 == a1_0 && (a0_1 == a1_1 && (a0_2.toList == a1_2.toList))))) = false by assumption)) (by decide)))))
       go_meet
       case rel => exact ⟨_, (true), (by first | rfl | (simp; done) | (simp [*]; done)), H', ⟨by have := HJ3.out; first | omega | exact Nat.le_refl _⟩, ⟨by (with_reducible repeat (first | refine bN6 ?_ _ | refine bD6 ?_ | refine bA6 ?_ _)); exact BK264.out⟩, ⟨by (with_reducible repeat (first | refine bN6 ?_ _ | refine bD6 ?_ | refine bA6 ?_ _)); exact BK265.out⟩, ⟨by (with_reducible repeat (first | refine bN6 ?_ _ | refine bD6 ?_ | refine bA6 ?_ _)); exact BK266.out⟩, ⟨by repeat (first | (with_reducible first | exact HB.out | apply below_alloc | apply pw_below_drewN | apply below_drew1 | refine bS6 ?_ GE264.out | refine bS6 ?_ GE265.out | refine bS6 ?_ GE266.out) | exact HB.out)⟩⟩
      ·rw [if_neg c87] at H
       have c87b0 : ((t273 == 0) != (a0_0 == a1_0 && (a0_1 == a1_1 && (a0_2.toList == a1_2.toList)))) = false := by simpa using c87
       (try (have c87b1 : decide ((t273 == 0) = (a0_0 == a1_0 && (a0_1 == a1_1 && (a0_2.toList == a1_2.toList)))) = true := by simpa using c87))
       (try (have c87b2 : ((t273 == 0) == (a0_0 == a1_0 && (a0_1 == a1_1 && (a0_2.toList == a1_2.toList)))) = true := by simpa using c87))
       (try (have c87b3 : (!((t273 == 0) == (a0_0 == a1_0 && (a0_1 == a1_1 && (a0_2.toList == a1_2.toList))))) = false := by first | exact c87 | simpa using c87))
       clear c87
       by_cases c96 : t273 < 0
       ·rw [if_pos c96] at H
        have c96b0 : decide (t273 < 0) = true := decide_eq_true c96
        clear c96
        by_cases c97 : t274 < 0
        ·rw [if_pos c97] at H
         have c97b0 : decide (t274 < 0) = true := decide_eq_true c97
         clear c97
         by_cases c98 : t275 ≥ 0
         ·rw [if_pos c98] at H
          have c98b0 : decide (0 ≤ t275) = true := decide_eq_true c98
          clear c98
          have H' := aM6 H
          clear H
          have hnb99 := NB265_264.out
          have hnc99 := NB264_265.out
          have hnb100 := NB265_266.out
          have hnc100 := NB266_265.out
          have hcz101_0 : w84.cell? ⟨gb265, 0, none⟩ = some (.int .u8 a1_0) := (blk_cell BK265.out 0).trans rfl
          have hcz101_1 : w84.cell? ⟨gb265, 1, none⟩ = some (.int .i64 a1_1) := (blk_cell BK265.out 1).trans rfl
          have hcz101_2 : w84.cell? ⟨gb265, 2, none⟩ = some (.string a1_2) := (blk_cell BK265.out 2).trans rfl
          have hfz101_0 := blk_frozen BK265.out 0
          have hfz101_1 := blk_frozen BK265.out 1
          have hfz101_2 := blk_frozen BK265.out 2
          have hnb102 := NB264_266.out
          have hnc102 := NB266_264.out
          have hcz103_0 : w84.cell? ⟨gb264, 0, none⟩ = some (.int .u8 a0_0) := (blk_cell BK264.out 0).trans rfl
          have hcz103_1 : w84.cell? ⟨gb264, 1, none⟩ = some (.int .i64 a0_1) := (blk_cell BK264.out 1).trans rfl
          have hcz103_2 : w84.cell? ⟨gb264, 2, none⟩ = some (.string a0_2) := (blk_cell BK264.out 2).trans rfl
          have hfz103_0 := blk_frozen BK264.out 0
          have hfz103_1 := blk_frozen BK264.out 1
          have hfz103_2 := blk_frozen BK264.out 2
          go_wp2_with (first | ((with_reducible refine gate_callee (f := 29) rfl ?_); refine goesL_ (some 56) rfl rfl Try.func29 (by kernel_rfl) rfl #[.agg #[.int .u8 a1_0, .int .i64 a1_1, .string a1_2], .agg #[.int .u8 a0_0, .int .i64 a0_1, .string a0_2]] rfl (by (try simp only [List.map_toArray, List.map_cons, List.map_nil]); first | done | rfl | (simp only [List.length_drop, List.length_take]; rfl)) ?_; (with_reducible refine (cell_Order.calls kj3 a1_0 a1_1 a1_2 a0_0 a0_1 a0_2 t279 _ A85.out).mono ?_); rintro e w104 ⟨rfl, hb⟩; refine ⟨_, rfl, ?_⟩; have n0_ := aM6 (bB6 (g := gb264) (o := .cells #[.int .u8 a0_0, .int .i64 a0_1, .string a0_2] 35 (0, 0)) (by (with_reducible repeat (first | refine bN6 ?_ _ | refine bD6 ?_ | refine bA6 ?_ _)); exact BK264.out) hb); have n1_ := aM6 (bB6 (g := gb265) (o := .cells #[.int .u8 a1_0, .int .i64 a1_1, .string a1_2] 35 (0, 0)) (by (with_reducible repeat (first | refine bN6 ?_ _ | refine bD6 ?_ | refine bA6 ?_ _)); exact BK265.out) hb); have n2_ := aM6 (bB6 (g := gb266) (o := .cells #[.int .u8 a2_0, .int .i64 a2_1, .string a2_2] 35 (0, 0)) (by (with_reducible repeat (first | refine bN6 ?_ _ | refine bD6 ?_ | refine bA6 ?_ _)); exact BK266.out) hb); have n3_ := aM6 (below_step (by repeat (first | (with_reducible first | exact HB.out | apply below_alloc | apply pw_below_drewN | apply below_drew1 | refine bS6 ?_ GE264.out | refine bS6 ?_ GE265.out | refine bS6 ?_ GE266.out) | exact HB.out)) hb); clear BK264; clear BK265; clear BK266; clear HB; have BK264 := n0_; have BK265 := n1_; have BK266 := n2_; have HB := n3_; clear n0_ n1_ n2_ n3_; (try clear hb); (try clear hb2); (try clear hk); (try clear hi); have hcz105_0 : w104.cell? ⟨gb264, 0, none⟩ = some (.int .u8 a0_0) := (blk_cell BK264.out 0).trans rfl; have hcz105_1 : w104.cell? ⟨gb264, 1, none⟩ = some (.int .i64 a0_1) := (blk_cell BK264.out 1).trans rfl; have hcz105_2 : w104.cell? ⟨gb264, 2, none⟩ = some (.string a0_2) := (blk_cell BK264.out 2).trans rfl; have hfz105_0 := blk_frozen BK264.out 0; have hfz105_1 := blk_frozen BK264.out 1; have hfz105_2 := blk_frozen BK264.out 2; have hcz106_0 : w104.cell? ⟨gb265, 0, none⟩ = some (.int .u8 a1_0) := (blk_cell BK265.out 0).trans rfl; have hcz106_1 : w104.cell? ⟨gb265, 1, none⟩ = some (.int .i64 a1_1) := (blk_cell BK265.out 1).trans rfl; have hcz106_2 : w104.cell? ⟨gb265, 2, none⟩ = some (.string a1_2) := (blk_cell BK265.out 2).trans rfl; have hfz106_0 := blk_frozen BK265.out 0; have hfz106_1 := blk_frozen BK265.out 1; have hfz106_2 := blk_frozen BK265.out 2))
          (try (all_goals (try (exact absurd (c87b3.symm.trans (show (!((t273 == 0) == (a0_0 == a1_0 && (a0_1 == a1_1 && (a0_2.toList == a1_2.toList))))) = true by assumption)) (by decide)))))
          go_meet
          case rel => exact ⟨_, (true), (by first | rfl | (simp; done) | (simp [*]; done)), H', ⟨by have := HJ3.out; first | omega | exact Nat.le_refl _⟩, ⟨by (with_reducible repeat (first | refine bN6 ?_ _ | refine bD6 ?_ | refine bA6 ?_ _)); exact BK264.out⟩, ⟨by (with_reducible repeat (first | refine bN6 ?_ _ | refine bD6 ?_ | refine bA6 ?_ _)); exact BK265.out⟩, ⟨by (with_reducible repeat (first | refine bN6 ?_ _ | refine bD6 ?_ | refine bA6 ?_ _)); exact BK266.out⟩, ⟨by repeat (first | (with_reducible first | exact HB.out | apply below_alloc | apply pw_below_drewN | apply below_drew1 | refine bS6 ?_ GE264.out | refine bS6 ?_ GE265.out | refine bS6 ?_ GE266.out) | exact HB.out)⟩⟩
         ·rw [if_neg c98] at H
          have c98b0 : decide (0 ≤ t275) = false := decide_eq_false c98
          clear c98
          by_cases c107 : t273 ≤ 0
          ·rw [if_pos c107] at H
           have c107b0 : decide (t273 ≤ 0) = true := decide_eq_true c107
           clear c107
           by_cases c108 : t274 ≤ 0
           ·rw [if_pos c108] at H
            have c108b0 : decide (t274 ≤ 0) = true := decide_eq_true c108
            clear c108
            have H' := aM6 H
            clear H
            have hnb109 := NB265_264.out
            have hnc109 := NB264_265.out
            have hnb110 := NB265_266.out
            have hnc110 := NB266_265.out
            have hcz111_0 : w84.cell? ⟨gb265, 0, none⟩ = some (.int .u8 a1_0) := (blk_cell BK265.out 0).trans rfl
            have hcz111_1 : w84.cell? ⟨gb265, 1, none⟩ = some (.int .i64 a1_1) := (blk_cell BK265.out 1).trans rfl
            have hcz111_2 : w84.cell? ⟨gb265, 2, none⟩ = some (.string a1_2) := (blk_cell BK265.out 2).trans rfl
            have hfz111_0 := blk_frozen BK265.out 0
            have hfz111_1 := blk_frozen BK265.out 1
            have hfz111_2 := blk_frozen BK265.out 2
            have hnb112 := NB264_266.out
            have hnc112 := NB266_264.out
            have hcz113_0 : w84.cell? ⟨gb264, 0, none⟩ = some (.int .u8 a0_0) := (blk_cell BK264.out 0).trans rfl
            have hcz113_1 : w84.cell? ⟨gb264, 1, none⟩ = some (.int .i64 a0_1) := (blk_cell BK264.out 1).trans rfl
            have hcz113_2 : w84.cell? ⟨gb264, 2, none⟩ = some (.string a0_2) := (blk_cell BK264.out 2).trans rfl
            have hfz113_0 := blk_frozen BK264.out 0
            have hfz113_1 := blk_frozen BK264.out 1
            have hfz113_2 := blk_frozen BK264.out 2
            go_wp2_with (first | ((with_reducible refine gate_callee (f := 29) rfl ?_); refine goesL_ (some 56) rfl rfl Try.func29 (by kernel_rfl) rfl #[.agg #[.int .u8 a1_0, .int .i64 a1_1, .string a1_2], .agg #[.int .u8 a0_0, .int .i64 a0_1, .string a0_2]] rfl (by (try simp only [List.map_toArray, List.map_cons, List.map_nil]); first | done | rfl | (simp only [List.length_drop, List.length_take]; rfl)) ?_; (with_reducible refine (cell_Order.calls kj3 a1_0 a1_1 a1_2 a0_0 a0_1 a0_2 t279 _ A85.out).mono ?_); rintro e w114 ⟨rfl, hb⟩; refine ⟨_, rfl, ?_⟩; have n0_ := aM6 (bB6 (g := gb264) (o := .cells #[.int .u8 a0_0, .int .i64 a0_1, .string a0_2] 35 (0, 0)) (by (with_reducible repeat (first | refine bN6 ?_ _ | refine bD6 ?_ | refine bA6 ?_ _)); exact BK264.out) hb); have n1_ := aM6 (bB6 (g := gb265) (o := .cells #[.int .u8 a1_0, .int .i64 a1_1, .string a1_2] 35 (0, 0)) (by (with_reducible repeat (first | refine bN6 ?_ _ | refine bD6 ?_ | refine bA6 ?_ _)); exact BK265.out) hb); have n2_ := aM6 (bB6 (g := gb266) (o := .cells #[.int .u8 a2_0, .int .i64 a2_1, .string a2_2] 35 (0, 0)) (by (with_reducible repeat (first | refine bN6 ?_ _ | refine bD6 ?_ | refine bA6 ?_ _)); exact BK266.out) hb); have n3_ := aM6 (below_step (by repeat (first | (with_reducible first | exact HB.out | apply below_alloc | apply pw_below_drewN | apply below_drew1 | refine bS6 ?_ GE264.out | refine bS6 ?_ GE265.out | refine bS6 ?_ GE266.out) | exact HB.out)) hb); clear BK264; clear BK265; clear BK266; clear HB; have BK264 := n0_; have BK265 := n1_; have BK266 := n2_; have HB := n3_; clear n0_ n1_ n2_ n3_; (try clear hb); (try clear hb2); (try clear hk); (try clear hi); have hcz115_0 : w114.cell? ⟨gb264, 0, none⟩ = some (.int .u8 a0_0) := (blk_cell BK264.out 0).trans rfl; have hcz115_1 : w114.cell? ⟨gb264, 1, none⟩ = some (.int .i64 a0_1) := (blk_cell BK264.out 1).trans rfl; have hcz115_2 : w114.cell? ⟨gb264, 2, none⟩ = some (.string a0_2) := (blk_cell BK264.out 2).trans rfl; have hfz115_0 := blk_frozen BK264.out 0; have hfz115_1 := blk_frozen BK264.out 1; have hfz115_2 := blk_frozen BK264.out 2; have hcz116_0 : w114.cell? ⟨gb265, 0, none⟩ = some (.int .u8 a1_0) := (blk_cell BK265.out 0).trans rfl; have hcz116_1 : w114.cell? ⟨gb265, 1, none⟩ = some (.int .i64 a1_1) := (blk_cell BK265.out 1).trans rfl; have hcz116_2 : w114.cell? ⟨gb265, 2, none⟩ = some (.string a1_2) := (blk_cell BK265.out 2).trans rfl; have hfz116_0 := blk_frozen BK265.out 0; have hfz116_1 := blk_frozen BK265.out 1; have hfz116_2 := blk_frozen BK265.out 2))
            (try (all_goals (try (exact absurd (c87b3.symm.trans (show (!((t273 == 0) == (a0_0 == a1_0 && (a0_1 == a1_1 && (a0_2.toList == a1_2.toList))))) = true by assumption)) (by decide)))))
            go_meet
            case rel => exact ⟨_, (decide (t275 > 0)), (by first | rfl | (simp; done) | (simp [*]; done)), H', ⟨by have := HJ3.out; first | omega | exact Nat.le_refl _⟩, ⟨by (with_reducible repeat (first | refine bN6 ?_ _ | refine bD6 ?_ | refine bA6 ?_ _)); exact BK264.out⟩, ⟨by (with_reducible repeat (first | refine bN6 ?_ _ | refine bD6 ?_ | refine bA6 ?_ _)); exact BK265.out⟩, ⟨by (with_reducible repeat (first | refine bN6 ?_ _ | refine bD6 ?_ | refine bA6 ?_ _)); exact BK266.out⟩, ⟨by repeat (first | (with_reducible first | exact HB.out | apply below_alloc | apply pw_below_drewN | apply below_drew1 | refine bS6 ?_ GE264.out | refine bS6 ?_ GE265.out | refine bS6 ?_ GE266.out) | exact HB.out)⟩⟩
           ·rw [if_neg c108] at H
            have c108b0 : decide (t274 ≤ 0) = false := decide_eq_false c108
            clear c108
            have H' := aM6 H
            clear H
            have hnb117 := NB265_264.out
            have hnc117 := NB264_265.out
            have hnb118 := NB265_266.out
            have hnc118 := NB266_265.out
            have hcz119_0 : w84.cell? ⟨gb265, 0, none⟩ = some (.int .u8 a1_0) := (blk_cell BK265.out 0).trans rfl
            have hcz119_1 : w84.cell? ⟨gb265, 1, none⟩ = some (.int .i64 a1_1) := (blk_cell BK265.out 1).trans rfl
            have hcz119_2 : w84.cell? ⟨gb265, 2, none⟩ = some (.string a1_2) := (blk_cell BK265.out 2).trans rfl
            have hfz119_0 := blk_frozen BK265.out 0
            have hfz119_1 := blk_frozen BK265.out 1
            have hfz119_2 := blk_frozen BK265.out 2
            have hnb120 := NB264_266.out
            have hnc120 := NB266_264.out
            have hcz121_0 : w84.cell? ⟨gb264, 0, none⟩ = some (.int .u8 a0_0) := (blk_cell BK264.out 0).trans rfl
            have hcz121_1 : w84.cell? ⟨gb264, 1, none⟩ = some (.int .i64 a0_1) := (blk_cell BK264.out 1).trans rfl
            have hcz121_2 : w84.cell? ⟨gb264, 2, none⟩ = some (.string a0_2) := (blk_cell BK264.out 2).trans rfl
            have hfz121_0 := blk_frozen BK264.out 0
            have hfz121_1 := blk_frozen BK264.out 1
            have hfz121_2 := blk_frozen BK264.out 2
            go_wp2_with (first | ((with_reducible refine gate_callee (f := 29) rfl ?_); refine goesL_ (some 56) rfl rfl Try.func29 (by kernel_rfl) rfl #[.agg #[.int .u8 a1_0, .int .i64 a1_1, .string a1_2], .agg #[.int .u8 a0_0, .int .i64 a0_1, .string a0_2]] rfl (by (try simp only [List.map_toArray, List.map_cons, List.map_nil]); first | done | rfl | (simp only [List.length_drop, List.length_take]; rfl)) ?_; (with_reducible refine (cell_Order.calls kj3 a1_0 a1_1 a1_2 a0_0 a0_1 a0_2 t279 _ A85.out).mono ?_); rintro e w122 ⟨rfl, hb⟩; refine ⟨_, rfl, ?_⟩; have n0_ := aM6 (bB6 (g := gb264) (o := .cells #[.int .u8 a0_0, .int .i64 a0_1, .string a0_2] 35 (0, 0)) (by (with_reducible repeat (first | refine bN6 ?_ _ | refine bD6 ?_ | refine bA6 ?_ _)); exact BK264.out) hb); have n1_ := aM6 (bB6 (g := gb265) (o := .cells #[.int .u8 a1_0, .int .i64 a1_1, .string a1_2] 35 (0, 0)) (by (with_reducible repeat (first | refine bN6 ?_ _ | refine bD6 ?_ | refine bA6 ?_ _)); exact BK265.out) hb); have n2_ := aM6 (bB6 (g := gb266) (o := .cells #[.int .u8 a2_0, .int .i64 a2_1, .string a2_2] 35 (0, 0)) (by (with_reducible repeat (first | refine bN6 ?_ _ | refine bD6 ?_ | refine bA6 ?_ _)); exact BK266.out) hb); have n3_ := aM6 (below_step (by repeat (first | (with_reducible first | exact HB.out | apply below_alloc | apply pw_below_drewN | apply below_drew1 | refine bS6 ?_ GE264.out | refine bS6 ?_ GE265.out | refine bS6 ?_ GE266.out) | exact HB.out)) hb); clear BK264; clear BK265; clear BK266; clear HB; have BK264 := n0_; have BK265 := n1_; have BK266 := n2_; have HB := n3_; clear n0_ n1_ n2_ n3_; (try clear hb); (try clear hb2); (try clear hk); (try clear hi); have hcz123_0 : w122.cell? ⟨gb264, 0, none⟩ = some (.int .u8 a0_0) := (blk_cell BK264.out 0).trans rfl; have hcz123_1 : w122.cell? ⟨gb264, 1, none⟩ = some (.int .i64 a0_1) := (blk_cell BK264.out 1).trans rfl; have hcz123_2 : w122.cell? ⟨gb264, 2, none⟩ = some (.string a0_2) := (blk_cell BK264.out 2).trans rfl; have hfz123_0 := blk_frozen BK264.out 0; have hfz123_1 := blk_frozen BK264.out 1; have hfz123_2 := blk_frozen BK264.out 2; have hcz124_0 : w122.cell? ⟨gb265, 0, none⟩ = some (.int .u8 a1_0) := (blk_cell BK265.out 0).trans rfl; have hcz124_1 : w122.cell? ⟨gb265, 1, none⟩ = some (.int .i64 a1_1) := (blk_cell BK265.out 1).trans rfl; have hcz124_2 : w122.cell? ⟨gb265, 2, none⟩ = some (.string a1_2) := (blk_cell BK265.out 2).trans rfl; have hfz124_0 := blk_frozen BK265.out 0; have hfz124_1 := blk_frozen BK265.out 1; have hfz124_2 := blk_frozen BK265.out 2))
            (try (all_goals (try (exact absurd (c87b3.symm.trans (show (!((t273 == 0) == (a0_0 == a1_0 && (a0_1 == a1_1 && (a0_2.toList == a1_2.toList))))) = true by assumption)) (by decide)))))
            go_meet
            case rel => exact ⟨_, (false), (by first | rfl | (simp; done) | (simp [*]; done)), H', ⟨by have := HJ3.out; first | omega | exact Nat.le_refl _⟩, ⟨by (with_reducible repeat (first | refine bN6 ?_ _ | refine bD6 ?_ | refine bA6 ?_ _)); exact BK264.out⟩, ⟨by (with_reducible repeat (first | refine bN6 ?_ _ | refine bD6 ?_ | refine bA6 ?_ _)); exact BK265.out⟩, ⟨by (with_reducible repeat (first | refine bN6 ?_ _ | refine bD6 ?_ | refine bA6 ?_ _)); exact BK266.out⟩, ⟨by repeat (first | (with_reducible first | exact HB.out | apply below_alloc | apply pw_below_drewN | apply below_drew1 | refine bS6 ?_ GE264.out | refine bS6 ?_ GE265.out | refine bS6 ?_ GE266.out) | exact HB.out)⟩⟩
          ·rw [if_neg c107] at H
           have c107b0 : decide (t273 ≤ 0) = false := decide_eq_false c107
           clear c107
           have H' := aM6 H
           clear H
           have hnb125 := NB265_264.out
           have hnc125 := NB264_265.out
           have hnb126 := NB265_266.out
           have hnc126 := NB266_265.out
           have hcz127_0 : w84.cell? ⟨gb265, 0, none⟩ = some (.int .u8 a1_0) := (blk_cell BK265.out 0).trans rfl
           have hcz127_1 : w84.cell? ⟨gb265, 1, none⟩ = some (.int .i64 a1_1) := (blk_cell BK265.out 1).trans rfl
           have hcz127_2 : w84.cell? ⟨gb265, 2, none⟩ = some (.string a1_2) := (blk_cell BK265.out 2).trans rfl
           have hfz127_0 := blk_frozen BK265.out 0
           have hfz127_1 := blk_frozen BK265.out 1
           have hfz127_2 := blk_frozen BK265.out 2
           have hnb128 := NB264_266.out
           have hnc128 := NB266_264.out
           have hcz129_0 : w84.cell? ⟨gb264, 0, none⟩ = some (.int .u8 a0_0) := (blk_cell BK264.out 0).trans rfl
           have hcz129_1 : w84.cell? ⟨gb264, 1, none⟩ = some (.int .i64 a0_1) := (blk_cell BK264.out 1).trans rfl
           have hcz129_2 : w84.cell? ⟨gb264, 2, none⟩ = some (.string a0_2) := (blk_cell BK264.out 2).trans rfl
           have hfz129_0 := blk_frozen BK264.out 0
           have hfz129_1 := blk_frozen BK264.out 1
           have hfz129_2 := blk_frozen BK264.out 2
           go_wp2_with (first | ((with_reducible refine gate_callee (f := 29) rfl ?_); refine goesL_ (some 56) rfl rfl Try.func29 (by kernel_rfl) rfl #[.agg #[.int .u8 a1_0, .int .i64 a1_1, .string a1_2], .agg #[.int .u8 a0_0, .int .i64 a0_1, .string a0_2]] rfl (by (try simp only [List.map_toArray, List.map_cons, List.map_nil]); first | done | rfl | (simp only [List.length_drop, List.length_take]; rfl)) ?_; (with_reducible refine (cell_Order.calls kj3 a1_0 a1_1 a1_2 a0_0 a0_1 a0_2 t279 _ A85.out).mono ?_); rintro e w130 ⟨rfl, hb⟩; refine ⟨_, rfl, ?_⟩; have n0_ := aM6 (bB6 (g := gb264) (o := .cells #[.int .u8 a0_0, .int .i64 a0_1, .string a0_2] 35 (0, 0)) (by (with_reducible repeat (first | refine bN6 ?_ _ | refine bD6 ?_ | refine bA6 ?_ _)); exact BK264.out) hb); have n1_ := aM6 (bB6 (g := gb265) (o := .cells #[.int .u8 a1_0, .int .i64 a1_1, .string a1_2] 35 (0, 0)) (by (with_reducible repeat (first | refine bN6 ?_ _ | refine bD6 ?_ | refine bA6 ?_ _)); exact BK265.out) hb); have n2_ := aM6 (bB6 (g := gb266) (o := .cells #[.int .u8 a2_0, .int .i64 a2_1, .string a2_2] 35 (0, 0)) (by (with_reducible repeat (first | refine bN6 ?_ _ | refine bD6 ?_ | refine bA6 ?_ _)); exact BK266.out) hb); have n3_ := aM6 (below_step (by repeat (first | (with_reducible first | exact HB.out | apply below_alloc | apply pw_below_drewN | apply below_drew1 | refine bS6 ?_ GE264.out | refine bS6 ?_ GE265.out | refine bS6 ?_ GE266.out) | exact HB.out)) hb); clear BK264; clear BK265; clear BK266; clear HB; have BK264 := n0_; have BK265 := n1_; have BK266 := n2_; have HB := n3_; clear n0_ n1_ n2_ n3_; (try clear hb); (try clear hb2); (try clear hk); (try clear hi); have hcz131_0 : w130.cell? ⟨gb264, 0, none⟩ = some (.int .u8 a0_0) := (blk_cell BK264.out 0).trans rfl; have hcz131_1 : w130.cell? ⟨gb264, 1, none⟩ = some (.int .i64 a0_1) := (blk_cell BK264.out 1).trans rfl; have hcz131_2 : w130.cell? ⟨gb264, 2, none⟩ = some (.string a0_2) := (blk_cell BK264.out 2).trans rfl; have hfz131_0 := blk_frozen BK264.out 0; have hfz131_1 := blk_frozen BK264.out 1; have hfz131_2 := blk_frozen BK264.out 2; have hcz132_0 : w130.cell? ⟨gb265, 0, none⟩ = some (.int .u8 a1_0) := (blk_cell BK265.out 0).trans rfl; have hcz132_1 : w130.cell? ⟨gb265, 1, none⟩ = some (.int .i64 a1_1) := (blk_cell BK265.out 1).trans rfl; have hcz132_2 : w130.cell? ⟨gb265, 2, none⟩ = some (.string a1_2) := (blk_cell BK265.out 2).trans rfl; have hfz132_0 := blk_frozen BK265.out 0; have hfz132_1 := blk_frozen BK265.out 1; have hfz132_2 := blk_frozen BK265.out 2))
           (try (all_goals (try (exact absurd (c87b3.symm.trans (show (!((t273 == 0) == (a0_0 == a1_0 && (a0_1 == a1_1 && (a0_2.toList == a1_2.toList))))) = true by assumption)) (by decide)))))
           go_meet
           case rel => exact ⟨_, (false), (by first | rfl | (simp; done) | (simp [*]; done)), H', ⟨by have := HJ3.out; first | omega | exact Nat.le_refl _⟩, ⟨by (with_reducible repeat (first | refine bN6 ?_ _ | refine bD6 ?_ | refine bA6 ?_ _)); exact BK264.out⟩, ⟨by (with_reducible repeat (first | refine bN6 ?_ _ | refine bD6 ?_ | refine bA6 ?_ _)); exact BK265.out⟩, ⟨by (with_reducible repeat (first | refine bN6 ?_ _ | refine bD6 ?_ | refine bA6 ?_ _)); exact BK266.out⟩, ⟨by repeat (first | (with_reducible first | exact HB.out | apply below_alloc | apply pw_below_drewN | apply below_drew1 | refine bS6 ?_ GE264.out | refine bS6 ?_ GE265.out | refine bS6 ?_ GE266.out) | exact HB.out)⟩⟩
        ·rw [if_neg c97] at H
         have c97b0 : decide (t274 < 0) = false := decide_eq_false c97
         clear c97
         by_cases c133 : t273 ≤ 0
         ·rw [if_pos c133] at H
          have c133b0 : decide (t273 ≤ 0) = true := decide_eq_true c133
          clear c133
          by_cases c134 : t274 ≤ 0
          ·rw [if_pos c134] at H
           have c134b0 : decide (t274 ≤ 0) = true := decide_eq_true c134
           clear c134
           have H' := aM6 H
           clear H
           have hnb135 := NB265_264.out
           have hnc135 := NB264_265.out
           have hnb136 := NB265_266.out
           have hnc136 := NB266_265.out
           have hcz137_0 : w84.cell? ⟨gb265, 0, none⟩ = some (.int .u8 a1_0) := (blk_cell BK265.out 0).trans rfl
           have hcz137_1 : w84.cell? ⟨gb265, 1, none⟩ = some (.int .i64 a1_1) := (blk_cell BK265.out 1).trans rfl
           have hcz137_2 : w84.cell? ⟨gb265, 2, none⟩ = some (.string a1_2) := (blk_cell BK265.out 2).trans rfl
           have hfz137_0 := blk_frozen BK265.out 0
           have hfz137_1 := blk_frozen BK265.out 1
           have hfz137_2 := blk_frozen BK265.out 2
           have hnb138 := NB264_266.out
           have hnc138 := NB266_264.out
           have hcz139_0 : w84.cell? ⟨gb264, 0, none⟩ = some (.int .u8 a0_0) := (blk_cell BK264.out 0).trans rfl
           have hcz139_1 : w84.cell? ⟨gb264, 1, none⟩ = some (.int .i64 a0_1) := (blk_cell BK264.out 1).trans rfl
           have hcz139_2 : w84.cell? ⟨gb264, 2, none⟩ = some (.string a0_2) := (blk_cell BK264.out 2).trans rfl
           have hfz139_0 := blk_frozen BK264.out 0
           have hfz139_1 := blk_frozen BK264.out 1
           have hfz139_2 := blk_frozen BK264.out 2
           go_wp2_with (first | ((with_reducible refine gate_callee (f := 29) rfl ?_); refine goesL_ (some 56) rfl rfl Try.func29 (by kernel_rfl) rfl #[.agg #[.int .u8 a1_0, .int .i64 a1_1, .string a1_2], .agg #[.int .u8 a0_0, .int .i64 a0_1, .string a0_2]] rfl (by (try simp only [List.map_toArray, List.map_cons, List.map_nil]); first | done | rfl | (simp only [List.length_drop, List.length_take]; rfl)) ?_; (with_reducible refine (cell_Order.calls kj3 a1_0 a1_1 a1_2 a0_0 a0_1 a0_2 t279 _ A85.out).mono ?_); rintro e w140 ⟨rfl, hb⟩; refine ⟨_, rfl, ?_⟩; have n0_ := aM6 (bB6 (g := gb264) (o := .cells #[.int .u8 a0_0, .int .i64 a0_1, .string a0_2] 35 (0, 0)) (by (with_reducible repeat (first | refine bN6 ?_ _ | refine bD6 ?_ | refine bA6 ?_ _)); exact BK264.out) hb); have n1_ := aM6 (bB6 (g := gb265) (o := .cells #[.int .u8 a1_0, .int .i64 a1_1, .string a1_2] 35 (0, 0)) (by (with_reducible repeat (first | refine bN6 ?_ _ | refine bD6 ?_ | refine bA6 ?_ _)); exact BK265.out) hb); have n2_ := aM6 (bB6 (g := gb266) (o := .cells #[.int .u8 a2_0, .int .i64 a2_1, .string a2_2] 35 (0, 0)) (by (with_reducible repeat (first | refine bN6 ?_ _ | refine bD6 ?_ | refine bA6 ?_ _)); exact BK266.out) hb); have n3_ := aM6 (below_step (by repeat (first | (with_reducible first | exact HB.out | apply below_alloc | apply pw_below_drewN | apply below_drew1 | refine bS6 ?_ GE264.out | refine bS6 ?_ GE265.out | refine bS6 ?_ GE266.out) | exact HB.out)) hb); clear BK264; clear BK265; clear BK266; clear HB; have BK264 := n0_; have BK265 := n1_; have BK266 := n2_; have HB := n3_; clear n0_ n1_ n2_ n3_; (try clear hb); (try clear hb2); (try clear hk); (try clear hi); have hcz141_0 : w140.cell? ⟨gb264, 0, none⟩ = some (.int .u8 a0_0) := (blk_cell BK264.out 0).trans rfl; have hcz141_1 : w140.cell? ⟨gb264, 1, none⟩ = some (.int .i64 a0_1) := (blk_cell BK264.out 1).trans rfl; have hcz141_2 : w140.cell? ⟨gb264, 2, none⟩ = some (.string a0_2) := (blk_cell BK264.out 2).trans rfl; have hfz141_0 := blk_frozen BK264.out 0; have hfz141_1 := blk_frozen BK264.out 1; have hfz141_2 := blk_frozen BK264.out 2; have hcz142_0 : w140.cell? ⟨gb265, 0, none⟩ = some (.int .u8 a1_0) := (blk_cell BK265.out 0).trans rfl; have hcz142_1 : w140.cell? ⟨gb265, 1, none⟩ = some (.int .i64 a1_1) := (blk_cell BK265.out 1).trans rfl; have hcz142_2 : w140.cell? ⟨gb265, 2, none⟩ = some (.string a1_2) := (blk_cell BK265.out 2).trans rfl; have hfz142_0 := blk_frozen BK265.out 0; have hfz142_1 := blk_frozen BK265.out 1; have hfz142_2 := blk_frozen BK265.out 2))
           (try (all_goals (try (exact absurd (c87b3.symm.trans (show (!((t273 == 0) == (a0_0 == a1_0 && (a0_1 == a1_1 && (a0_2.toList == a1_2.toList))))) = true by assumption)) (by decide)))))
           go_meet
           case rel => exact ⟨_, (decide (t275 > 0)), (by first | rfl | (simp; done) | (simp [*]; done)), H', ⟨by have := HJ3.out; first | omega | exact Nat.le_refl _⟩, ⟨by (with_reducible repeat (first | refine bN6 ?_ _ | refine bD6 ?_ | refine bA6 ?_ _)); exact BK264.out⟩, ⟨by (with_reducible repeat (first | refine bN6 ?_ _ | refine bD6 ?_ | refine bA6 ?_ _)); exact BK265.out⟩, ⟨by (with_reducible repeat (first | refine bN6 ?_ _ | refine bD6 ?_ | refine bA6 ?_ _)); exact BK266.out⟩, ⟨by repeat (first | (with_reducible first | exact HB.out | apply below_alloc | apply pw_below_drewN | apply below_drew1 | refine bS6 ?_ GE264.out | refine bS6 ?_ GE265.out | refine bS6 ?_ GE266.out) | exact HB.out)⟩⟩
          ·rw [if_neg c134] at H
           have c134b0 : decide (t274 ≤ 0) = false := decide_eq_false c134
           clear c134
           have H' := aM6 H
           clear H
           have hnb143 := NB265_264.out
           have hnc143 := NB264_265.out
           have hnb144 := NB265_266.out
           have hnc144 := NB266_265.out
           have hcz145_0 : w84.cell? ⟨gb265, 0, none⟩ = some (.int .u8 a1_0) := (blk_cell BK265.out 0).trans rfl
           have hcz145_1 : w84.cell? ⟨gb265, 1, none⟩ = some (.int .i64 a1_1) := (blk_cell BK265.out 1).trans rfl
           have hcz145_2 : w84.cell? ⟨gb265, 2, none⟩ = some (.string a1_2) := (blk_cell BK265.out 2).trans rfl
           have hfz145_0 := blk_frozen BK265.out 0
           have hfz145_1 := blk_frozen BK265.out 1
           have hfz145_2 := blk_frozen BK265.out 2
           have hnb146 := NB264_266.out
           have hnc146 := NB266_264.out
           have hcz147_0 : w84.cell? ⟨gb264, 0, none⟩ = some (.int .u8 a0_0) := (blk_cell BK264.out 0).trans rfl
           have hcz147_1 : w84.cell? ⟨gb264, 1, none⟩ = some (.int .i64 a0_1) := (blk_cell BK264.out 1).trans rfl
           have hcz147_2 : w84.cell? ⟨gb264, 2, none⟩ = some (.string a0_2) := (blk_cell BK264.out 2).trans rfl
           have hfz147_0 := blk_frozen BK264.out 0
           have hfz147_1 := blk_frozen BK264.out 1
           have hfz147_2 := blk_frozen BK264.out 2
           go_wp2_with (first | ((with_reducible refine gate_callee (f := 29) rfl ?_); refine goesL_ (some 56) rfl rfl Try.func29 (by kernel_rfl) rfl #[.agg #[.int .u8 a1_0, .int .i64 a1_1, .string a1_2], .agg #[.int .u8 a0_0, .int .i64 a0_1, .string a0_2]] rfl (by (try simp only [List.map_toArray, List.map_cons, List.map_nil]); first | done | rfl | (simp only [List.length_drop, List.length_take]; rfl)) ?_; (with_reducible refine (cell_Order.calls kj3 a1_0 a1_1 a1_2 a0_0 a0_1 a0_2 t279 _ A85.out).mono ?_); rintro e w148 ⟨rfl, hb⟩; refine ⟨_, rfl, ?_⟩; have n0_ := aM6 (bB6 (g := gb264) (o := .cells #[.int .u8 a0_0, .int .i64 a0_1, .string a0_2] 35 (0, 0)) (by (with_reducible repeat (first | refine bN6 ?_ _ | refine bD6 ?_ | refine bA6 ?_ _)); exact BK264.out) hb); have n1_ := aM6 (bB6 (g := gb265) (o := .cells #[.int .u8 a1_0, .int .i64 a1_1, .string a1_2] 35 (0, 0)) (by (with_reducible repeat (first | refine bN6 ?_ _ | refine bD6 ?_ | refine bA6 ?_ _)); exact BK265.out) hb); have n2_ := aM6 (bB6 (g := gb266) (o := .cells #[.int .u8 a2_0, .int .i64 a2_1, .string a2_2] 35 (0, 0)) (by (with_reducible repeat (first | refine bN6 ?_ _ | refine bD6 ?_ | refine bA6 ?_ _)); exact BK266.out) hb); have n3_ := aM6 (below_step (by repeat (first | (with_reducible first | exact HB.out | apply below_alloc | apply pw_below_drewN | apply below_drew1 | refine bS6 ?_ GE264.out | refine bS6 ?_ GE265.out | refine bS6 ?_ GE266.out) | exact HB.out)) hb); clear BK264; clear BK265; clear BK266; clear HB; have BK264 := n0_; have BK265 := n1_; have BK266 := n2_; have HB := n3_; clear n0_ n1_ n2_ n3_; (try clear hb); (try clear hb2); (try clear hk); (try clear hi); have hcz149_0 : w148.cell? ⟨gb264, 0, none⟩ = some (.int .u8 a0_0) := (blk_cell BK264.out 0).trans rfl; have hcz149_1 : w148.cell? ⟨gb264, 1, none⟩ = some (.int .i64 a0_1) := (blk_cell BK264.out 1).trans rfl; have hcz149_2 : w148.cell? ⟨gb264, 2, none⟩ = some (.string a0_2) := (blk_cell BK264.out 2).trans rfl; have hfz149_0 := blk_frozen BK264.out 0; have hfz149_1 := blk_frozen BK264.out 1; have hfz149_2 := blk_frozen BK264.out 2; have hcz150_0 : w148.cell? ⟨gb265, 0, none⟩ = some (.int .u8 a1_0) := (blk_cell BK265.out 0).trans rfl; have hcz150_1 : w148.cell? ⟨gb265, 1, none⟩ = some (.int .i64 a1_1) := (blk_cell BK265.out 1).trans rfl; have hcz150_2 : w148.cell? ⟨gb265, 2, none⟩ = some (.string a1_2) := (blk_cell BK265.out 2).trans rfl; have hfz150_0 := blk_frozen BK265.out 0; have hfz150_1 := blk_frozen BK265.out 1; have hfz150_2 := blk_frozen BK265.out 2))
           (try (all_goals (try (exact absurd (c87b3.symm.trans (show (!((t273 == 0) == (a0_0 == a1_0 && (a0_1 == a1_1 && (a0_2.toList == a1_2.toList))))) = true by assumption)) (by decide)))))
           go_meet
           case rel => exact ⟨_, (false), (by first | rfl | (simp; done) | (simp [*]; done)), H', ⟨by have := HJ3.out; first | omega | exact Nat.le_refl _⟩, ⟨by (with_reducible repeat (first | refine bN6 ?_ _ | refine bD6 ?_ | refine bA6 ?_ _)); exact BK264.out⟩, ⟨by (with_reducible repeat (first | refine bN6 ?_ _ | refine bD6 ?_ | refine bA6 ?_ _)); exact BK265.out⟩, ⟨by (with_reducible repeat (first | refine bN6 ?_ _ | refine bD6 ?_ | refine bA6 ?_ _)); exact BK266.out⟩, ⟨by repeat (first | (with_reducible first | exact HB.out | apply below_alloc | apply pw_below_drewN | apply below_drew1 | refine bS6 ?_ GE264.out | refine bS6 ?_ GE265.out | refine bS6 ?_ GE266.out) | exact HB.out)⟩⟩
         ·rw [if_neg c133] at H
          have c133b0 : decide (t273 ≤ 0) = false := decide_eq_false c133
          clear c133
          have H' := aM6 H
          clear H
          have hnb151 := NB265_264.out
          have hnc151 := NB264_265.out
          have hnb152 := NB265_266.out
          have hnc152 := NB266_265.out
          have hcz153_0 : w84.cell? ⟨gb265, 0, none⟩ = some (.int .u8 a1_0) := (blk_cell BK265.out 0).trans rfl
          have hcz153_1 : w84.cell? ⟨gb265, 1, none⟩ = some (.int .i64 a1_1) := (blk_cell BK265.out 1).trans rfl
          have hcz153_2 : w84.cell? ⟨gb265, 2, none⟩ = some (.string a1_2) := (blk_cell BK265.out 2).trans rfl
          have hfz153_0 := blk_frozen BK265.out 0
          have hfz153_1 := blk_frozen BK265.out 1
          have hfz153_2 := blk_frozen BK265.out 2
          have hnb154 := NB264_266.out
          have hnc154 := NB266_264.out
          have hcz155_0 : w84.cell? ⟨gb264, 0, none⟩ = some (.int .u8 a0_0) := (blk_cell BK264.out 0).trans rfl
          have hcz155_1 : w84.cell? ⟨gb264, 1, none⟩ = some (.int .i64 a0_1) := (blk_cell BK264.out 1).trans rfl
          have hcz155_2 : w84.cell? ⟨gb264, 2, none⟩ = some (.string a0_2) := (blk_cell BK264.out 2).trans rfl
          have hfz155_0 := blk_frozen BK264.out 0
          have hfz155_1 := blk_frozen BK264.out 1
          have hfz155_2 := blk_frozen BK264.out 2
          go_wp2_with (first | ((with_reducible refine gate_callee (f := 29) rfl ?_); refine goesL_ (some 56) rfl rfl Try.func29 (by kernel_rfl) rfl #[.agg #[.int .u8 a1_0, .int .i64 a1_1, .string a1_2], .agg #[.int .u8 a0_0, .int .i64 a0_1, .string a0_2]] rfl (by (try simp only [List.map_toArray, List.map_cons, List.map_nil]); first | done | rfl | (simp only [List.length_drop, List.length_take]; rfl)) ?_; (with_reducible refine (cell_Order.calls kj3 a1_0 a1_1 a1_2 a0_0 a0_1 a0_2 t279 _ A85.out).mono ?_); rintro e w156 ⟨rfl, hb⟩; refine ⟨_, rfl, ?_⟩; have n0_ := aM6 (bB6 (g := gb264) (o := .cells #[.int .u8 a0_0, .int .i64 a0_1, .string a0_2] 35 (0, 0)) (by (with_reducible repeat (first | refine bN6 ?_ _ | refine bD6 ?_ | refine bA6 ?_ _)); exact BK264.out) hb); have n1_ := aM6 (bB6 (g := gb265) (o := .cells #[.int .u8 a1_0, .int .i64 a1_1, .string a1_2] 35 (0, 0)) (by (with_reducible repeat (first | refine bN6 ?_ _ | refine bD6 ?_ | refine bA6 ?_ _)); exact BK265.out) hb); have n2_ := aM6 (bB6 (g := gb266) (o := .cells #[.int .u8 a2_0, .int .i64 a2_1, .string a2_2] 35 (0, 0)) (by (with_reducible repeat (first | refine bN6 ?_ _ | refine bD6 ?_ | refine bA6 ?_ _)); exact BK266.out) hb); have n3_ := aM6 (below_step (by repeat (first | (with_reducible first | exact HB.out | apply below_alloc | apply pw_below_drewN | apply below_drew1 | refine bS6 ?_ GE264.out | refine bS6 ?_ GE265.out | refine bS6 ?_ GE266.out) | exact HB.out)) hb); clear BK264; clear BK265; clear BK266; clear HB; have BK264 := n0_; have BK265 := n1_; have BK266 := n2_; have HB := n3_; clear n0_ n1_ n2_ n3_; (try clear hb); (try clear hb2); (try clear hk); (try clear hi); have hcz157_0 : w156.cell? ⟨gb264, 0, none⟩ = some (.int .u8 a0_0) := (blk_cell BK264.out 0).trans rfl; have hcz157_1 : w156.cell? ⟨gb264, 1, none⟩ = some (.int .i64 a0_1) := (blk_cell BK264.out 1).trans rfl; have hcz157_2 : w156.cell? ⟨gb264, 2, none⟩ = some (.string a0_2) := (blk_cell BK264.out 2).trans rfl; have hfz157_0 := blk_frozen BK264.out 0; have hfz157_1 := blk_frozen BK264.out 1; have hfz157_2 := blk_frozen BK264.out 2; have hcz158_0 : w156.cell? ⟨gb265, 0, none⟩ = some (.int .u8 a1_0) := (blk_cell BK265.out 0).trans rfl; have hcz158_1 : w156.cell? ⟨gb265, 1, none⟩ = some (.int .i64 a1_1) := (blk_cell BK265.out 1).trans rfl; have hcz158_2 : w156.cell? ⟨gb265, 2, none⟩ = some (.string a1_2) := (blk_cell BK265.out 2).trans rfl; have hfz158_0 := blk_frozen BK265.out 0; have hfz158_1 := blk_frozen BK265.out 1; have hfz158_2 := blk_frozen BK265.out 2))
          (try (all_goals (try (exact absurd (c87b3.symm.trans (show (!((t273 == 0) == (a0_0 == a1_0 && (a0_1 == a1_1 && (a0_2.toList == a1_2.toList))))) = true by assumption)) (by decide)))))
          go_meet
          case rel => exact ⟨_, (false), (by first | rfl | (simp; done) | (simp [*]; done)), H', ⟨by have := HJ3.out; first | omega | exact Nat.le_refl _⟩, ⟨by (with_reducible repeat (first | refine bN6 ?_ _ | refine bD6 ?_ | refine bA6 ?_ _)); exact BK264.out⟩, ⟨by (with_reducible repeat (first | refine bN6 ?_ _ | refine bD6 ?_ | refine bA6 ?_ _)); exact BK265.out⟩, ⟨by (with_reducible repeat (first | refine bN6 ?_ _ | refine bD6 ?_ | refine bA6 ?_ _)); exact BK266.out⟩, ⟨by repeat (first | (with_reducible first | exact HB.out | apply below_alloc | apply pw_below_drewN | apply below_drew1 | refine bS6 ?_ GE264.out | refine bS6 ?_ GE265.out | refine bS6 ?_ GE266.out) | exact HB.out)⟩⟩
       ·rw [if_neg c96] at H
        have c96b0 : decide (t273 < 0) = false := decide_eq_false c96
        clear c96
        by_cases c159 : t273 ≤ 0
        ·rw [if_pos c159] at H
         have c159b0 : decide (t273 ≤ 0) = true := decide_eq_true c159
         clear c159
         by_cases c160 : t274 ≤ 0
         ·rw [if_pos c160] at H
          have c160b0 : decide (t274 ≤ 0) = true := decide_eq_true c160
          clear c160
          have H' := aM6 H
          clear H
          have hnb161 := NB265_264.out
          have hnc161 := NB264_265.out
          have hnb162 := NB265_266.out
          have hnc162 := NB266_265.out
          have hcz163_0 : w84.cell? ⟨gb265, 0, none⟩ = some (.int .u8 a1_0) := (blk_cell BK265.out 0).trans rfl
          have hcz163_1 : w84.cell? ⟨gb265, 1, none⟩ = some (.int .i64 a1_1) := (blk_cell BK265.out 1).trans rfl
          have hcz163_2 : w84.cell? ⟨gb265, 2, none⟩ = some (.string a1_2) := (blk_cell BK265.out 2).trans rfl
          have hfz163_0 := blk_frozen BK265.out 0
          have hfz163_1 := blk_frozen BK265.out 1
          have hfz163_2 := blk_frozen BK265.out 2
          have hnb164 := NB264_266.out
          have hnc164 := NB266_264.out
          have hcz165_0 : w84.cell? ⟨gb264, 0, none⟩ = some (.int .u8 a0_0) := (blk_cell BK264.out 0).trans rfl
          have hcz165_1 : w84.cell? ⟨gb264, 1, none⟩ = some (.int .i64 a0_1) := (blk_cell BK264.out 1).trans rfl
          have hcz165_2 : w84.cell? ⟨gb264, 2, none⟩ = some (.string a0_2) := (blk_cell BK264.out 2).trans rfl
          have hfz165_0 := blk_frozen BK264.out 0
          have hfz165_1 := blk_frozen BK264.out 1
          have hfz165_2 := blk_frozen BK264.out 2
          go_wp2_with (first | ((with_reducible refine gate_callee (f := 29) rfl ?_); refine goesL_ (some 56) rfl rfl Try.func29 (by kernel_rfl) rfl #[.agg #[.int .u8 a1_0, .int .i64 a1_1, .string a1_2], .agg #[.int .u8 a0_0, .int .i64 a0_1, .string a0_2]] rfl (by (try simp only [List.map_toArray, List.map_cons, List.map_nil]); first | done | rfl | (simp only [List.length_drop, List.length_take]; rfl)) ?_; (with_reducible refine (cell_Order.calls kj3 a1_0 a1_1 a1_2 a0_0 a0_1 a0_2 t279 _ A85.out).mono ?_); rintro e w166 ⟨rfl, hb⟩; refine ⟨_, rfl, ?_⟩; have n0_ := aM6 (bB6 (g := gb264) (o := .cells #[.int .u8 a0_0, .int .i64 a0_1, .string a0_2] 35 (0, 0)) (by (with_reducible repeat (first | refine bN6 ?_ _ | refine bD6 ?_ | refine bA6 ?_ _)); exact BK264.out) hb); have n1_ := aM6 (bB6 (g := gb265) (o := .cells #[.int .u8 a1_0, .int .i64 a1_1, .string a1_2] 35 (0, 0)) (by (with_reducible repeat (first | refine bN6 ?_ _ | refine bD6 ?_ | refine bA6 ?_ _)); exact BK265.out) hb); have n2_ := aM6 (bB6 (g := gb266) (o := .cells #[.int .u8 a2_0, .int .i64 a2_1, .string a2_2] 35 (0, 0)) (by (with_reducible repeat (first | refine bN6 ?_ _ | refine bD6 ?_ | refine bA6 ?_ _)); exact BK266.out) hb); have n3_ := aM6 (below_step (by repeat (first | (with_reducible first | exact HB.out | apply below_alloc | apply pw_below_drewN | apply below_drew1 | refine bS6 ?_ GE264.out | refine bS6 ?_ GE265.out | refine bS6 ?_ GE266.out) | exact HB.out)) hb); clear BK264; clear BK265; clear BK266; clear HB; have BK264 := n0_; have BK265 := n1_; have BK266 := n2_; have HB := n3_; clear n0_ n1_ n2_ n3_; (try clear hb); (try clear hb2); (try clear hk); (try clear hi); have hcz167_0 : w166.cell? ⟨gb264, 0, none⟩ = some (.int .u8 a0_0) := (blk_cell BK264.out 0).trans rfl; have hcz167_1 : w166.cell? ⟨gb264, 1, none⟩ = some (.int .i64 a0_1) := (blk_cell BK264.out 1).trans rfl; have hcz167_2 : w166.cell? ⟨gb264, 2, none⟩ = some (.string a0_2) := (blk_cell BK264.out 2).trans rfl; have hfz167_0 := blk_frozen BK264.out 0; have hfz167_1 := blk_frozen BK264.out 1; have hfz167_2 := blk_frozen BK264.out 2; have hcz168_0 : w166.cell? ⟨gb265, 0, none⟩ = some (.int .u8 a1_0) := (blk_cell BK265.out 0).trans rfl; have hcz168_1 : w166.cell? ⟨gb265, 1, none⟩ = some (.int .i64 a1_1) := (blk_cell BK265.out 1).trans rfl; have hcz168_2 : w166.cell? ⟨gb265, 2, none⟩ = some (.string a1_2) := (blk_cell BK265.out 2).trans rfl; have hfz168_0 := blk_frozen BK265.out 0; have hfz168_1 := blk_frozen BK265.out 1; have hfz168_2 := blk_frozen BK265.out 2))
          (try (all_goals (try (exact absurd (c87b3.symm.trans (show (!((t273 == 0) == (a0_0 == a1_0 && (a0_1 == a1_1 && (a0_2.toList == a1_2.toList))))) = true by assumption)) (by decide)))))
          go_meet
          case rel => exact ⟨_, (decide (t275 > 0)), (by first | rfl | (simp; done) | (simp [*]; done)), H', ⟨by have := HJ3.out; first | omega | exact Nat.le_refl _⟩, ⟨by (with_reducible repeat (first | refine bN6 ?_ _ | refine bD6 ?_ | refine bA6 ?_ _)); exact BK264.out⟩, ⟨by (with_reducible repeat (first | refine bN6 ?_ _ | refine bD6 ?_ | refine bA6 ?_ _)); exact BK265.out⟩, ⟨by (with_reducible repeat (first | refine bN6 ?_ _ | refine bD6 ?_ | refine bA6 ?_ _)); exact BK266.out⟩, ⟨by repeat (first | (with_reducible first | exact HB.out | apply below_alloc | apply pw_below_drewN | apply below_drew1 | refine bS6 ?_ GE264.out | refine bS6 ?_ GE265.out | refine bS6 ?_ GE266.out) | exact HB.out)⟩⟩
         ·rw [if_neg c160] at H
          have c160b0 : decide (t274 ≤ 0) = false := decide_eq_false c160
          clear c160
          have H' := aM6 H
          clear H
          have hnb169 := NB265_264.out
          have hnc169 := NB264_265.out
          have hnb170 := NB265_266.out
          have hnc170 := NB266_265.out
          have hcz171_0 : w84.cell? ⟨gb265, 0, none⟩ = some (.int .u8 a1_0) := (blk_cell BK265.out 0).trans rfl
          have hcz171_1 : w84.cell? ⟨gb265, 1, none⟩ = some (.int .i64 a1_1) := (blk_cell BK265.out 1).trans rfl
          have hcz171_2 : w84.cell? ⟨gb265, 2, none⟩ = some (.string a1_2) := (blk_cell BK265.out 2).trans rfl
          have hfz171_0 := blk_frozen BK265.out 0
          have hfz171_1 := blk_frozen BK265.out 1
          have hfz171_2 := blk_frozen BK265.out 2
          have hnb172 := NB264_266.out
          have hnc172 := NB266_264.out
          have hcz173_0 : w84.cell? ⟨gb264, 0, none⟩ = some (.int .u8 a0_0) := (blk_cell BK264.out 0).trans rfl
          have hcz173_1 : w84.cell? ⟨gb264, 1, none⟩ = some (.int .i64 a0_1) := (blk_cell BK264.out 1).trans rfl
          have hcz173_2 : w84.cell? ⟨gb264, 2, none⟩ = some (.string a0_2) := (blk_cell BK264.out 2).trans rfl
          have hfz173_0 := blk_frozen BK264.out 0
          have hfz173_1 := blk_frozen BK264.out 1
          have hfz173_2 := blk_frozen BK264.out 2
          go_wp2_with (first | ((with_reducible refine gate_callee (f := 29) rfl ?_); refine goesL_ (some 56) rfl rfl Try.func29 (by kernel_rfl) rfl #[.agg #[.int .u8 a1_0, .int .i64 a1_1, .string a1_2], .agg #[.int .u8 a0_0, .int .i64 a0_1, .string a0_2]] rfl (by (try simp only [List.map_toArray, List.map_cons, List.map_nil]); first | done | rfl | (simp only [List.length_drop, List.length_take]; rfl)) ?_; (with_reducible refine (cell_Order.calls kj3 a1_0 a1_1 a1_2 a0_0 a0_1 a0_2 t279 _ A85.out).mono ?_); rintro e w174 ⟨rfl, hb⟩; refine ⟨_, rfl, ?_⟩; have n0_ := aM6 (bB6 (g := gb264) (o := .cells #[.int .u8 a0_0, .int .i64 a0_1, .string a0_2] 35 (0, 0)) (by (with_reducible repeat (first | refine bN6 ?_ _ | refine bD6 ?_ | refine bA6 ?_ _)); exact BK264.out) hb); have n1_ := aM6 (bB6 (g := gb265) (o := .cells #[.int .u8 a1_0, .int .i64 a1_1, .string a1_2] 35 (0, 0)) (by (with_reducible repeat (first | refine bN6 ?_ _ | refine bD6 ?_ | refine bA6 ?_ _)); exact BK265.out) hb); have n2_ := aM6 (bB6 (g := gb266) (o := .cells #[.int .u8 a2_0, .int .i64 a2_1, .string a2_2] 35 (0, 0)) (by (with_reducible repeat (first | refine bN6 ?_ _ | refine bD6 ?_ | refine bA6 ?_ _)); exact BK266.out) hb); have n3_ := aM6 (below_step (by repeat (first | (with_reducible first | exact HB.out | apply below_alloc | apply pw_below_drewN | apply below_drew1 | refine bS6 ?_ GE264.out | refine bS6 ?_ GE265.out | refine bS6 ?_ GE266.out) | exact HB.out)) hb); clear BK264; clear BK265; clear BK266; clear HB; have BK264 := n0_; have BK265 := n1_; have BK266 := n2_; have HB := n3_; clear n0_ n1_ n2_ n3_; (try clear hb); (try clear hb2); (try clear hk); (try clear hi); have hcz175_0 : w174.cell? ⟨gb264, 0, none⟩ = some (.int .u8 a0_0) := (blk_cell BK264.out 0).trans rfl; have hcz175_1 : w174.cell? ⟨gb264, 1, none⟩ = some (.int .i64 a0_1) := (blk_cell BK264.out 1).trans rfl; have hcz175_2 : w174.cell? ⟨gb264, 2, none⟩ = some (.string a0_2) := (blk_cell BK264.out 2).trans rfl; have hfz175_0 := blk_frozen BK264.out 0; have hfz175_1 := blk_frozen BK264.out 1; have hfz175_2 := blk_frozen BK264.out 2; have hcz176_0 : w174.cell? ⟨gb265, 0, none⟩ = some (.int .u8 a1_0) := (blk_cell BK265.out 0).trans rfl; have hcz176_1 : w174.cell? ⟨gb265, 1, none⟩ = some (.int .i64 a1_1) := (blk_cell BK265.out 1).trans rfl; have hcz176_2 : w174.cell? ⟨gb265, 2, none⟩ = some (.string a1_2) := (blk_cell BK265.out 2).trans rfl; have hfz176_0 := blk_frozen BK265.out 0; have hfz176_1 := blk_frozen BK265.out 1; have hfz176_2 := blk_frozen BK265.out 2))
          (try (all_goals (try (exact absurd (c87b3.symm.trans (show (!((t273 == 0) == (a0_0 == a1_0 && (a0_1 == a1_1 && (a0_2.toList == a1_2.toList))))) = true by assumption)) (by decide)))))
          go_meet
          case rel => exact ⟨_, (false), (by first | rfl | (simp; done) | (simp [*]; done)), H', ⟨by have := HJ3.out; first | omega | exact Nat.le_refl _⟩, ⟨by (with_reducible repeat (first | refine bN6 ?_ _ | refine bD6 ?_ | refine bA6 ?_ _)); exact BK264.out⟩, ⟨by (with_reducible repeat (first | refine bN6 ?_ _ | refine bD6 ?_ | refine bA6 ?_ _)); exact BK265.out⟩, ⟨by (with_reducible repeat (first | refine bN6 ?_ _ | refine bD6 ?_ | refine bA6 ?_ _)); exact BK266.out⟩, ⟨by repeat (first | (with_reducible first | exact HB.out | apply below_alloc | apply pw_below_drewN | apply below_drew1 | refine bS6 ?_ GE264.out | refine bS6 ?_ GE265.out | refine bS6 ?_ GE266.out) | exact HB.out)⟩⟩
        ·rw [if_neg c159] at H
         have c159b0 : decide (t273 ≤ 0) = false := decide_eq_false c159
         clear c159
         have H' := aM6 H
         clear H
         have hnb177 := NB265_264.out
         have hnc177 := NB264_265.out
         have hnb178 := NB265_266.out
         have hnc178 := NB266_265.out
         have hcz179_0 : w84.cell? ⟨gb265, 0, none⟩ = some (.int .u8 a1_0) := (blk_cell BK265.out 0).trans rfl
         have hcz179_1 : w84.cell? ⟨gb265, 1, none⟩ = some (.int .i64 a1_1) := (blk_cell BK265.out 1).trans rfl
         have hcz179_2 : w84.cell? ⟨gb265, 2, none⟩ = some (.string a1_2) := (blk_cell BK265.out 2).trans rfl
         have hfz179_0 := blk_frozen BK265.out 0
         have hfz179_1 := blk_frozen BK265.out 1
         have hfz179_2 := blk_frozen BK265.out 2
         have hnb180 := NB264_266.out
         have hnc180 := NB266_264.out
         have hcz181_0 : w84.cell? ⟨gb264, 0, none⟩ = some (.int .u8 a0_0) := (blk_cell BK264.out 0).trans rfl
         have hcz181_1 : w84.cell? ⟨gb264, 1, none⟩ = some (.int .i64 a0_1) := (blk_cell BK264.out 1).trans rfl
         have hcz181_2 : w84.cell? ⟨gb264, 2, none⟩ = some (.string a0_2) := (blk_cell BK264.out 2).trans rfl
         have hfz181_0 := blk_frozen BK264.out 0
         have hfz181_1 := blk_frozen BK264.out 1
         have hfz181_2 := blk_frozen BK264.out 2
         go_wp2_with (first | ((with_reducible refine gate_callee (f := 29) rfl ?_); refine goesL_ (some 56) rfl rfl Try.func29 (by kernel_rfl) rfl #[.agg #[.int .u8 a1_0, .int .i64 a1_1, .string a1_2], .agg #[.int .u8 a0_0, .int .i64 a0_1, .string a0_2]] rfl (by (try simp only [List.map_toArray, List.map_cons, List.map_nil]); first | done | rfl | (simp only [List.length_drop, List.length_take]; rfl)) ?_; (with_reducible refine (cell_Order.calls kj3 a1_0 a1_1 a1_2 a0_0 a0_1 a0_2 t279 _ A85.out).mono ?_); rintro e w182 ⟨rfl, hb⟩; refine ⟨_, rfl, ?_⟩; have n0_ := aM6 (bB6 (g := gb264) (o := .cells #[.int .u8 a0_0, .int .i64 a0_1, .string a0_2] 35 (0, 0)) (by (with_reducible repeat (first | refine bN6 ?_ _ | refine bD6 ?_ | refine bA6 ?_ _)); exact BK264.out) hb); have n1_ := aM6 (bB6 (g := gb265) (o := .cells #[.int .u8 a1_0, .int .i64 a1_1, .string a1_2] 35 (0, 0)) (by (with_reducible repeat (first | refine bN6 ?_ _ | refine bD6 ?_ | refine bA6 ?_ _)); exact BK265.out) hb); have n2_ := aM6 (bB6 (g := gb266) (o := .cells #[.int .u8 a2_0, .int .i64 a2_1, .string a2_2] 35 (0, 0)) (by (with_reducible repeat (first | refine bN6 ?_ _ | refine bD6 ?_ | refine bA6 ?_ _)); exact BK266.out) hb); have n3_ := aM6 (below_step (by repeat (first | (with_reducible first | exact HB.out | apply below_alloc | apply pw_below_drewN | apply below_drew1 | refine bS6 ?_ GE264.out | refine bS6 ?_ GE265.out | refine bS6 ?_ GE266.out) | exact HB.out)) hb); clear BK264; clear BK265; clear BK266; clear HB; have BK264 := n0_; have BK265 := n1_; have BK266 := n2_; have HB := n3_; clear n0_ n1_ n2_ n3_; (try clear hb); (try clear hb2); (try clear hk); (try clear hi); have hcz183_0 : w182.cell? ⟨gb264, 0, none⟩ = some (.int .u8 a0_0) := (blk_cell BK264.out 0).trans rfl; have hcz183_1 : w182.cell? ⟨gb264, 1, none⟩ = some (.int .i64 a0_1) := (blk_cell BK264.out 1).trans rfl; have hcz183_2 : w182.cell? ⟨gb264, 2, none⟩ = some (.string a0_2) := (blk_cell BK264.out 2).trans rfl; have hfz183_0 := blk_frozen BK264.out 0; have hfz183_1 := blk_frozen BK264.out 1; have hfz183_2 := blk_frozen BK264.out 2; have hcz184_0 : w182.cell? ⟨gb265, 0, none⟩ = some (.int .u8 a1_0) := (blk_cell BK265.out 0).trans rfl; have hcz184_1 : w182.cell? ⟨gb265, 1, none⟩ = some (.int .i64 a1_1) := (blk_cell BK265.out 1).trans rfl; have hcz184_2 : w182.cell? ⟨gb265, 2, none⟩ = some (.string a1_2) := (blk_cell BK265.out 2).trans rfl; have hfz184_0 := blk_frozen BK265.out 0; have hfz184_1 := blk_frozen BK265.out 1; have hfz184_2 := blk_frozen BK265.out 2))
         (try (all_goals (try (exact absurd (c87b3.symm.trans (show (!((t273 == 0) == (a0_0 == a1_0 && (a0_1 == a1_1 && (a0_2.toList == a1_2.toList))))) = true by assumption)) (by decide)))))
         go_meet
         case rel => exact ⟨_, (false), (by first | rfl | (simp; done) | (simp [*]; done)), H', ⟨by have := HJ3.out; first | omega | exact Nat.le_refl _⟩, ⟨by (with_reducible repeat (first | refine bN6 ?_ _ | refine bD6 ?_ | refine bA6 ?_ _)); exact BK264.out⟩, ⟨by (with_reducible repeat (first | refine bN6 ?_ _ | refine bD6 ?_ | refine bA6 ?_ _)); exact BK265.out⟩, ⟨by (with_reducible repeat (first | refine bN6 ?_ _ | refine bD6 ?_ | refine bA6 ?_ _)); exact BK266.out⟩, ⟨by repeat (first | (with_reducible first | exact HB.out | apply below_alloc | apply pw_below_drewN | apply below_drew1 | refine bS6 ?_ GE264.out | refine bS6 ?_ GE265.out | refine bS6 ?_ GE266.out) | exact HB.out)⟩⟩
     ·rw [if_neg c86] at H
      have c86b0 : (t273 == (wrap64 (-t279))) = false := beq_eq_false_iff_ne.mpr c86
      have c86b1 : (t273 != (wrap64 (-t279))) = true := bne_iff_ne.mpr c86
      (first | rw [c86b0] | (simp only [i64_w, i32_w]; rw [c86b0]) | skip)
      have H' := aM6 H
      clear H
      have hnb185 := NB265_264.out
      have hnc185 := NB264_265.out
      have hnb186 := NB265_266.out
      have hnc186 := NB266_265.out
      have hcz187_0 : w84.cell? ⟨gb265, 0, none⟩ = some (.int .u8 a1_0) := (blk_cell BK265.out 0).trans rfl
      have hcz187_1 : w84.cell? ⟨gb265, 1, none⟩ = some (.int .i64 a1_1) := (blk_cell BK265.out 1).trans rfl
      have hcz187_2 : w84.cell? ⟨gb265, 2, none⟩ = some (.string a1_2) := (blk_cell BK265.out 2).trans rfl
      have hfz187_0 := blk_frozen BK265.out 0
      have hfz187_1 := blk_frozen BK265.out 1
      have hfz187_2 := blk_frozen BK265.out 2
      have hnb188 := NB264_266.out
      have hnc188 := NB266_264.out
      have hcz189_0 : w84.cell? ⟨gb264, 0, none⟩ = some (.int .u8 a0_0) := (blk_cell BK264.out 0).trans rfl
      have hcz189_1 : w84.cell? ⟨gb264, 1, none⟩ = some (.int .i64 a0_1) := (blk_cell BK264.out 1).trans rfl
      have hcz189_2 : w84.cell? ⟨gb264, 2, none⟩ = some (.string a0_2) := (blk_cell BK264.out 2).trans rfl
      have hfz189_0 := blk_frozen BK264.out 0
      have hfz189_1 := blk_frozen BK264.out 1
      have hfz189_2 := blk_frozen BK264.out 2
      go_wp2_with (first | ((with_reducible refine gate_callee (f := 29) rfl ?_); refine goesL_ (some 56) rfl rfl Try.func29 (by kernel_rfl) rfl #[.agg #[.int .u8 a1_0, .int .i64 a1_1, .string a1_2], .agg #[.int .u8 a0_0, .int .i64 a0_1, .string a0_2]] rfl (by (try simp only [List.map_toArray, List.map_cons, List.map_nil]); first | done | rfl | (simp only [List.length_drop, List.length_take]; rfl)) ?_; (with_reducible refine (cell_Order.calls kj3 a1_0 a1_1 a1_2 a0_0 a0_1 a0_2 t279 _ A85.out).mono ?_); rintro e w190 ⟨rfl, hb⟩; refine ⟨_, rfl, ?_⟩; have n0_ := aM6 (bB6 (g := gb264) (o := .cells #[.int .u8 a0_0, .int .i64 a0_1, .string a0_2] 35 (0, 0)) (by (with_reducible repeat (first | refine bN6 ?_ _ | refine bD6 ?_ | refine bA6 ?_ _)); exact BK264.out) hb); have n1_ := aM6 (bB6 (g := gb265) (o := .cells #[.int .u8 a1_0, .int .i64 a1_1, .string a1_2] 35 (0, 0)) (by (with_reducible repeat (first | refine bN6 ?_ _ | refine bD6 ?_ | refine bA6 ?_ _)); exact BK265.out) hb); have n2_ := aM6 (bB6 (g := gb266) (o := .cells #[.int .u8 a2_0, .int .i64 a2_1, .string a2_2] 35 (0, 0)) (by (with_reducible repeat (first | refine bN6 ?_ _ | refine bD6 ?_ | refine bA6 ?_ _)); exact BK266.out) hb); have n3_ := aM6 (below_step (by repeat (first | (with_reducible first | exact HB.out | apply below_alloc | apply pw_below_drewN | apply below_drew1 | refine bS6 ?_ GE264.out | refine bS6 ?_ GE265.out | refine bS6 ?_ GE266.out) | exact HB.out)) hb); clear BK264; clear BK265; clear BK266; clear HB; have BK264 := n0_; have BK265 := n1_; have BK266 := n2_; have HB := n3_; clear n0_ n1_ n2_ n3_; (try clear hb); (try clear hb2); (try clear hk); (try clear hi)))
      go_meet
      case rel => exact ⟨_, (true), (by first | rfl | (simp; done) | (simp [*]; done)), H', ⟨by have := HJ3.out; first | omega | exact Nat.le_refl _⟩, ⟨by (with_reducible repeat (first | refine bN6 ?_ _ | refine bD6 ?_ | refine bA6 ?_ _)); exact BK264.out⟩, ⟨by (with_reducible repeat (first | refine bN6 ?_ _ | refine bD6 ?_ | refine bA6 ?_ _)); exact BK265.out⟩, ⟨by (with_reducible repeat (first | refine bN6 ?_ _ | refine bD6 ?_ | refine bA6 ?_ _)); exact BK266.out⟩, ⟨by repeat (first | (with_reducible first | exact HB.out | apply below_alloc | apply pw_below_drewN | apply below_drew1 | refine bS6 ?_ GE264.out | refine bS6 ?_ GE265.out | refine bS6 ?_ GE266.out) | exact HB.out)⟩⟩
    case rest =>
     clear HC74
     try clear c1
     try clear c2
     try clear p2
     try clear p6
     try clear c7
     try clear c8
     try clear c9
     try clear c10
     try clear c11
     try clear c12
     try clear c13
     try clear c14
     try clear c15
     try clear c16
     try clear c17
     try clear c18
     try clear c25
     try clear c29
     try clear p64
     try clear c79
     try clear c80
     try clear c82
     try clear c86
     try clear c86b0
     try clear c86b1
     try clear c87
     try clear c87b0
     try clear c87b1
     try clear c87b2
     try clear c88
     try clear c89
     try clear c91
     try clear c96
     try clear c96b0
     try clear c97
     try clear c97b0
     try clear c98
     try clear c98b0
     try clear c99
     try clear c100
     try clear c102
     try clear c107
     try clear c107b0
     try clear c108
     try clear c108b0
     try clear c109
     try clear c110
     try clear c112
     try clear c117
     try clear c118
     try clear c120
     try clear c125
     try clear c126
     try clear c128
     try clear c133
     try clear c133b0
     try clear c134
     try clear c134b0
     try clear c135
     try clear c136
     try clear c138
     try clear c143
     try clear c144
     try clear c146
     try clear c151
     try clear c152
     try clear c154
     try clear c159
     try clear c159b0
     try clear c160
     try clear c160b0
     try clear c161
     try clear c162
     try clear c164
     try clear c169
     try clear c170
     try clear c172
     try clear c177
     try clear c178
     try clear c180
     try clear c185
     try clear c186
     try clear c188
     try clear hcz101_0
     try clear hcz101_1
     try clear hcz101_2
     try clear hcz103_0
     try clear hcz103_1
     try clear hcz103_2
     try clear hcz105_0
     try clear hcz105_1
     try clear hcz105_2
     try clear hcz106_0
     try clear hcz106_1
     try clear hcz106_2
     try clear hcz111_0
     try clear hcz111_1
     try clear hcz111_2
     try clear hcz113_0
     try clear hcz113_1
     try clear hcz113_2
     try clear hcz115_0
     try clear hcz115_1
     try clear hcz115_2
     try clear hcz116_0
     try clear hcz116_1
     try clear hcz116_2
     try clear hcz119_0
     try clear hcz119_1
     try clear hcz119_2
     try clear hcz121_0
     try clear hcz121_1
     try clear hcz121_2
     try clear hcz123_0
     try clear hcz123_1
     try clear hcz123_2
     try clear hcz124_0
     try clear hcz124_1
     try clear hcz124_2
     try clear hcz127_0
     try clear hcz127_1
     try clear hcz127_2
     try clear hcz129_0
     try clear hcz129_1
     try clear hcz129_2
     try clear hcz131_0
     try clear hcz131_1
     try clear hcz131_2
     try clear hcz132_0
     try clear hcz132_1
     try clear hcz132_2
     try clear hcz137_0
     try clear hcz137_1
     try clear hcz137_2
     try clear hcz139_0
     try clear hcz139_1
     try clear hcz139_2
     try clear hcz141_0
     try clear hcz141_1
     try clear hcz141_2
     try clear hcz142_0
     try clear hcz142_1
     try clear hcz142_2
     try clear hcz145_0
     try clear hcz145_1
     try clear hcz145_2
     try clear hcz147_0
     try clear hcz147_1
     try clear hcz147_2
     try clear hcz149_0
     try clear hcz149_1
     try clear hcz149_2
     try clear hcz150_0
     try clear hcz150_1
     try clear hcz150_2
     try clear hcz153_0
     try clear hcz153_1
     try clear hcz153_2
     try clear hcz155_0
     try clear hcz155_1
     try clear hcz155_2
     try clear hcz157_0
     try clear hcz157_1
     try clear hcz157_2
     try clear hcz158_0
     try clear hcz158_1
     try clear hcz158_2
     try clear hcz163_0
     try clear hcz163_1
     try clear hcz163_2
     try clear hcz165_0
     try clear hcz165_1
     try clear hcz165_2
     try clear hcz167_0
     try clear hcz167_1
     try clear hcz167_2
     try clear hcz168_0
     try clear hcz168_1
     try clear hcz168_2
     try clear hcz171_0
     try clear hcz171_1
     try clear hcz171_2
     try clear hcz173_0
     try clear hcz173_1
     try clear hcz173_2
     try clear hcz175_0
     try clear hcz175_1
     try clear hcz175_2
     try clear hcz176_0
     try clear hcz176_1
     try clear hcz176_2
     try clear hcz179_0
     try clear hcz179_1
     try clear hcz179_2
     try clear hcz181_0
     try clear hcz181_1
     try clear hcz181_2
     try clear hcz183_0
     try clear hcz183_1
     try clear hcz183_2
     try clear hcz184_0
     try clear hcz184_1
     try clear hcz184_2
     try clear hcz187_0
     try clear hcz187_1
     try clear hcz187_2
     try clear hcz189_0
     try clear hcz189_1
     try clear hcz189_2
     try clear hcz81_0
     try clear hcz81_1
     try clear hcz81_2
     try clear hcz83_0
     try clear hcz83_1
     try clear hcz83_2
     try clear hcz90_0
     try clear hcz90_1
     try clear hcz90_2
     try clear hcz92_0
     try clear hcz92_1
     try clear hcz92_2
     try clear hcz94_0
     try clear hcz94_1
     try clear hcz94_2
     try clear hcz95_0
     try clear hcz95_1
     try clear hcz95_2
     try clear hfz101_0
     try clear hfz101_1
     try clear hfz101_2
     try clear hfz103_0
     try clear hfz103_1
     try clear hfz103_2
     try clear hfz105_0
     try clear hfz105_1
     try clear hfz105_2
     try clear hfz106_0
     try clear hfz106_1
     try clear hfz106_2
     try clear hfz111_0
     try clear hfz111_1
     try clear hfz111_2
     try clear hfz113_0
     try clear hfz113_1
     try clear hfz113_2
     try clear hfz115_0
     try clear hfz115_1
     try clear hfz115_2
     try clear hfz116_0
     try clear hfz116_1
     try clear hfz116_2
     try clear hfz119_0
     try clear hfz119_1
     try clear hfz119_2
     try clear hfz121_0
     try clear hfz121_1
     try clear hfz121_2
     try clear hfz123_0
     try clear hfz123_1
     try clear hfz123_2
     try clear hfz124_0
     try clear hfz124_1
     try clear hfz124_2
     try clear hfz127_0
     try clear hfz127_1
     try clear hfz127_2
     try clear hfz129_0
     try clear hfz129_1
     try clear hfz129_2
     try clear hfz131_0
     try clear hfz131_1
     try clear hfz131_2
     try clear hfz132_0
     try clear hfz132_1
     try clear hfz132_2
     try clear hfz137_0
     try clear hfz137_1
     try clear hfz137_2
     try clear hfz139_0
     try clear hfz139_1
     try clear hfz139_2
     try clear hfz141_0
     try clear hfz141_1
     try clear hfz141_2
     try clear hfz142_0
     try clear hfz142_1
     try clear hfz142_2
     try clear hfz145_0
     try clear hfz145_1
     try clear hfz145_2
     try clear hfz147_0
     try clear hfz147_1
     try clear hfz147_2
     try clear hfz149_0
     try clear hfz149_1
     try clear hfz149_2
     try clear hfz150_0
     try clear hfz150_1
     try clear hfz150_2
     try clear hfz153_0
     try clear hfz153_1
     try clear hfz153_2
     try clear hfz155_0
     try clear hfz155_1
     try clear hfz155_2
     try clear hfz157_0
     try clear hfz157_1
     try clear hfz157_2
     try clear hfz158_0
     try clear hfz158_1
     try clear hfz158_2
     try clear hfz163_0
     try clear hfz163_1
     try clear hfz163_2
     try clear hfz165_0
     try clear hfz165_1
     try clear hfz165_2
     try clear hfz167_0
     try clear hfz167_1
     try clear hfz167_2
     try clear hfz168_0
     try clear hfz168_1
     try clear hfz168_2
     try clear hfz171_0
     try clear hfz171_1
     try clear hfz171_2
     try clear hfz173_0
     try clear hfz173_1
     try clear hfz173_2
     try clear hfz175_0
     try clear hfz175_1
     try clear hfz175_2
     try clear hfz176_0
     try clear hfz176_1
     try clear hfz176_2
     try clear hfz179_0
     try clear hfz179_1
     try clear hfz179_2
     try clear hfz181_0
     try clear hfz181_1
     try clear hfz181_2
     try clear hfz183_0
     try clear hfz183_1
     try clear hfz183_2
     try clear hfz184_0
     try clear hfz184_1
     try clear hfz184_2
     try clear hfz187_0
     try clear hfz187_1
     try clear hfz187_2
     try clear hfz189_0
     try clear hfz189_1
     try clear hfz189_2
     try clear hfz81_0
     try clear hfz81_1
     try clear hfz81_2
     try clear hfz83_0
     try clear hfz83_1
     try clear hfz83_2
     try clear hfz90_0
     try clear hfz90_1
     try clear hfz90_2
     try clear hfz92_0
     try clear hfz92_1
     try clear hfz92_2
     try clear hfz94_0
     try clear hfz94_1
     try clear hfz94_2
     try clear hfz95_0
     try clear hfz95_1
     try clear hfz95_2
     obtain ⟨kq, x90_73, rfl, HA, HJ73, BK264, BK265, BK266, HB⟩ := hcut
     cases kq with
     | zero => exact absurd HA.out (by simp [hindsightlaw02_CellTotal.j1])
     | succ kj73 =>
      have H := HA.out
      clear HA
      simp only [hindsightlaw02_CellTotal.j1] at H
      by_cases c191 : x90_73 = true
      ·subst c191
       have H1 : (none) = some r := by rw [if_pos rfl] at H; exact H
       clear H
       have H := H1
       clear H1
       exact absurd H (by simp)
      ·replace c191 := Bool.eq_false_iff.mpr c191
       subst c191
       have H1 : ((hindsightlaw02_alive.f kj73).bind fun t280 => (if t280 = true then (if t277 = true then (if t278 = 0 then (if t276 = t273 then (some (a0_0 == a1_0)) else (none)) else (none)) else (some true)) else (none))) = some r := by rw [if_neg (show ¬ (false = true) by decide)] at H; exact H
       clear H
       have H := H1
       clear H1
       replace H := Option.bind_eq_some_iff.mp H
       obtain ⟨t280, A1920, H⟩ := H
       replace H : (if t280 = true then (if t277 = true then (if t278 = 0 then (if t276 = t273 then (some (a0_0 == a1_0)) else (none)) else (none)) else (some true)) else (none)) = some r := H
       have A192 := aM6 A1920
       clear A1920
       by_cases c193 : t280 = true
       ·subst c193
        have H1 : (if t277 = true then (if t278 = 0 then (if t276 = t273 then (some (a0_0 == a1_0)) else (none)) else (none)) else (some true)) = some r := by rw [if_pos rfl] at H; exact H
        clear H
        have H := H1
        clear H1
        by_cases c194 : t277 = true
        ·subst c194
         have H1 : (if t278 = 0 then (if t276 = t273 then (some (a0_0 == a1_0)) else (none)) else (none)) = some r := by rw [if_pos rfl] at H; exact H
         clear H
         have H := H1
         clear H1
         by_cases c195 : t278 = 0
         ·rw [if_pos c195] at H
          have c195b0 : (t278 == 0) = true := beq_iff_eq.mpr c195
          have c195b1 : (t278 != 0) = false := bne_eq_false_iff_eq.mpr c195
          clear c195
          by_cases c196 : t276 = t273
          ·rw [if_pos c196] at H
           have c196b0 : (t276 == t273) = true := beq_iff_eq.mpr c196
           have c196b1 : (t276 != t273) = false := bne_eq_false_iff_eq.mpr c196
           clear c196
           obtain rfl := Option.some.inj H
           go_wp2_with (first | ((with_reducible refine gate_callee (f := 24) rfl ?_); refine goesL_ (some 91) rfl rfl Try.func24 (by kernel_rfl) rfl #[] rfl (by (try simp only [List.map_toArray, List.map_cons, List.map_nil]); first | done | rfl | (simp only [List.length_drop, List.length_take]; rfl)) ?_; (with_reducible refine (hindsightlaw02_alive.calls kj73  true _ A192.out).mono ?_); rintro e w197 ⟨rfl, hb⟩; refine ⟨_, rfl, ?_⟩; have n0_ := aM6 (bB6 (g := gb264) (o := .cells #[.int .u8 a0_0, .int .i64 a0_1, .string a0_2] 35 (0, 0)) (by (with_reducible repeat (first | refine bN6 ?_ _ | refine bD6 ?_ | refine bA6 ?_ _)); exact BK264.out) hb); have n1_ := aM6 (bB6 (g := gb265) (o := .cells #[.int .u8 a1_0, .int .i64 a1_1, .string a1_2] 35 (0, 0)) (by (with_reducible repeat (first | refine bN6 ?_ _ | refine bD6 ?_ | refine bA6 ?_ _)); exact BK265.out) hb); have n2_ := aM6 (bB6 (g := gb266) (o := .cells #[.int .u8 a2_0, .int .i64 a2_1, .string a2_2] 35 (0, 0)) (by (with_reducible repeat (first | refine bN6 ?_ _ | refine bD6 ?_ | refine bA6 ?_ _)); exact BK266.out) hb); have n3_ := aM6 (below_step (by repeat (first | (with_reducible first | exact HB.out | apply below_alloc | apply pw_below_drewN | apply below_drew1 | refine bS6 ?_ GE264.out | refine bS6 ?_ GE265.out | refine bS6 ?_ GE266.out) | exact HB.out)) hb); clear BK264; clear BK265; clear BK266; clear HB; have BK264 := n0_; have BK265 := n1_; have BK266 := n2_; have HB := n3_; clear n0_ n1_ n2_ n3_; (try clear hb); (try clear hb2); (try clear hk); (try clear hi); have hnb198 := NB264_265.out; have hnc198 := NB265_264.out; have hnb199 := NB264_266.out; have hnc199 := NB266_264.out; have hcz200_0 : w197.cell? ⟨gb264, 0, none⟩ = some (.int .u8 a0_0) := (blk_cell BK264.out 0).trans rfl; have hcz200_1 : w197.cell? ⟨gb264, 1, none⟩ = some (.int .i64 a0_1) := (blk_cell BK264.out 1).trans rfl; have hcz200_2 : w197.cell? ⟨gb264, 2, none⟩ = some (.string a0_2) := (blk_cell BK264.out 2).trans rfl; have hfz200_0 := blk_frozen BK264.out 0; have hfz200_1 := blk_frozen BK264.out 1; have hfz200_2 := blk_frozen BK264.out 2; have hnb201 := NB265_266.out; have hnc201 := NB266_265.out; have hcz202_0 : w197.cell? ⟨gb265, 0, none⟩ = some (.int .u8 a1_0) := (blk_cell BK265.out 0).trans rfl; have hcz202_1 : w197.cell? ⟨gb265, 1, none⟩ = some (.int .i64 a1_1) := (blk_cell BK265.out 1).trans rfl; have hcz202_2 : w197.cell? ⟨gb265, 2, none⟩ = some (.string a1_2) := (blk_cell BK265.out 2).trans rfl; have hfz202_0 := blk_frozen BK265.out 0; have hfz202_1 := blk_frozen BK265.out 1; have hfz202_2 := blk_frozen BK265.out 2))
           go_ret
           exact ⟨by first | rfl | (simp [errW_none, errW_some] <;> rfl) | (simp [*, errW_none, errW_some] <;> rfl), by repeat (first | (with_reducible first | exact HB.out | apply below_alloc | apply pw_below_drewN | apply below_drew1 | refine bS6 ?_ GE264.out | refine bS6 ?_ GE265.out | refine bS6 ?_ GE266.out) | exact HB.out)⟩
          ·rw [if_neg c196] at H
           exact absurd H (by simp)
         ·rw [if_neg c195] at H
          exact absurd H (by simp)
        ·replace c194 := Bool.eq_false_iff.mpr c194
         subst c194
         have H1 : (some true) = some r := by rw [if_neg (show ¬ (false = true) by decide)] at H; exact H
         clear H
         have H := H1
         clear H1
         obtain rfl := Option.some.inj H
         go_wp2_with (first | ((with_reducible refine gate_callee (f := 24) rfl ?_); refine goesL_ (some 91) rfl rfl Try.func24 (by kernel_rfl) rfl #[] rfl (by (try simp only [List.map_toArray, List.map_cons, List.map_nil]); first | done | rfl | (simp only [List.length_drop, List.length_take]; rfl)) ?_; (with_reducible refine (hindsightlaw02_alive.calls kj73  true _ A192.out).mono ?_); rintro e w203 ⟨rfl, hb⟩; refine ⟨_, rfl, ?_⟩; have n0_ := aM6 (bB6 (g := gb264) (o := .cells #[.int .u8 a0_0, .int .i64 a0_1, .string a0_2] 35 (0, 0)) (by (with_reducible repeat (first | refine bN6 ?_ _ | refine bD6 ?_ | refine bA6 ?_ _)); exact BK264.out) hb); have n1_ := aM6 (bB6 (g := gb265) (o := .cells #[.int .u8 a1_0, .int .i64 a1_1, .string a1_2] 35 (0, 0)) (by (with_reducible repeat (first | refine bN6 ?_ _ | refine bD6 ?_ | refine bA6 ?_ _)); exact BK265.out) hb); have n2_ := aM6 (bB6 (g := gb266) (o := .cells #[.int .u8 a2_0, .int .i64 a2_1, .string a2_2] 35 (0, 0)) (by (with_reducible repeat (first | refine bN6 ?_ _ | refine bD6 ?_ | refine bA6 ?_ _)); exact BK266.out) hb); have n3_ := aM6 (below_step (by repeat (first | (with_reducible first | exact HB.out | apply below_alloc | apply pw_below_drewN | apply below_drew1 | refine bS6 ?_ GE264.out | refine bS6 ?_ GE265.out | refine bS6 ?_ GE266.out) | exact HB.out)) hb); clear BK264; clear BK265; clear BK266; clear HB; have BK264 := n0_; have BK265 := n1_; have BK266 := n2_; have HB := n3_; clear n0_ n1_ n2_ n3_; (try clear hb); (try clear hb2); (try clear hk); (try clear hi)))
         go_ret
         exact ⟨by first | rfl | (simp [errW_none, errW_some] <;> rfl) | (simp [*, errW_none, errW_some] <;> rfl), by repeat (first | (with_reducible first | exact HB.out | apply below_alloc | apply pw_below_drewN | apply below_drew1 | refine bS6 ?_ GE264.out | refine bS6 ?_ GE265.out | refine bS6 ?_ GE266.out) | exact HB.out)⟩
       ·replace c193 := Bool.eq_false_iff.mpr c193
        subst c193
        have H1 : (none) = some r := by rw [if_neg (show ¬ (false = true) by decide)] at H; exact H
        clear H
        have H := H1
        clear H1
        exact absurd H (by simp)

/-- THE ONE PURE STATEMENT of hindsightlaw02_CellTotal: yours. -/
def hindsightlaw02_CellTotal.Pure : Prop := ∀ (a0_0 : Int) (a0_1 : Int) (a0_2 : ByteArray) (a1_0 : Int) (a1_1 : Int) (a1_2 : ByteArray) (a2_0 : Int) (a2_1 : Int) (a2_2 : ByteArray), ((Lit.int .u8 a0_0).wf = true) → ((Lit.int .i64 a0_1).wf = true) → (a0_2.size ≤ 140737488351232) → ((Lit.int .u8 a1_0).wf = true) → ((Lit.int .i64 a1_1).wf = true) → (a1_2.size ≤ 140737488351232) → ((Lit.int .u8 a2_0).wf = true) → ((Lit.int .i64 a2_1).wf = true) → (a2_2.size ≤ 140737488351232) → ∃ k, hindsightlaw02_CellTotal.f k a0_0 a0_1 a0_2 a1_0 a1_1 a1_2 a2_0 a2_1 a2_2 = some true
theorem hindsightlaw02_CellTotal.walk (P : hindsightlaw02_CellTotal.Pure) (a0_0 : Int) (a0_1 : Int) (a0_2 : ByteArray) (a1_0 : Int) (a1_1 : Int) (a1_2 : ByteArray) (a2_0 : Int) (a2_1 : Int) (a2_2 : ByteArray) (w : World) (hg0_0 : (Lit.int .u8 a0_0).wf = true) (hg0_1 : (Lit.int .i64 a0_1).wf = true) (hg0_2 : a0_2.size ≤ 140737488351232) (hg1_0 : (Lit.int .u8 a1_0).wf = true) (hg1_1 : (Lit.int .i64 a1_1).wf = true) (hg1_2 : a1_2.size ≤ 140737488351232) (hg2_0 : (Lit.int .u8 a2_0).wf = true) (hg2_1 : (Lit.int .i64 a2_1).wf = true) (hg2_2 : a2_2.size ≤ 140737488351232) :
  Calls Try.prog 6 #[.agg #[.int .u8 a0_0, .int .i64 a0_1, .string a0_2], .agg #[.int .u8 a1_0, .int .i64 a1_1, .string a1_2], .agg #[.int .u8 a2_0, .int .i64 a2_1, .string a2_2]] w fun e w' => e = .returned (.bool true) ∧ Below w.heap.size w w' := by
 obtain ⟨k, h⟩ := P a0_0 a0_1 a0_2 a1_0 a1_1 a1_2 a2_0 a2_1 a2_2 hg0_0 hg0_1 hg0_2 hg1_0 hg1_1 hg1_2 hg2_0 hg2_1 hg2_2
 refine (hindsightlaw02_CellTotal.calls k a0_0 a0_1 a0_2 a1_0 a1_1 a1_2 a2_0 a2_1 a2_2 true w h).mono ?_
 rintro e w' ⟨rfl, hd⟩
 exact ⟨rfl, hd⟩

end Go.Proofs.Ytefpnnljflcmbaa.PCe
