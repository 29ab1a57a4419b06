-- Written by a program of this session (wip/tool), which goes by the kit's print.
import Derived.Test.YtefpnnljflcmbaaPCex0
import Derived.Test.YtefpnnljflcmbaaPCex7
import Derived.Test.YtefpnnljflcmbaaPCex8
namespace Go.Proofs.Ytefpnnljflcmbaa.PCe
open Go.RowKit Go.Proofs.YtefpnnljflcmbaaW.PrintWords Go.Proofs.YtefpnnljflcmbaaW.PrintLast Go.Proofs.YtefpnnljflcmbaaW.PrintMore
attribute [local go_sem] max2_int min2_int max_two min_two max_three min_three max_four min_four   -- for this text's walks alone
set_option linter.unusedVariables false
set_option linter.unusedSimpArgs false

/-! ### cell_Or: function 35 -/
theorem bN35 : type_of% @blk_drewN := @blk_drewN
theorem bD35 : type_of% @blk_drew := @blk_drew
theorem bA35 : type_of% @blk_alloc := @blk_alloc
theorem bS35 : type_of% @below_set := @below_set
theorem aM35 : type_of% @Aside0.mk := @Aside0.mk
def cell_Or.j0 : Nat → Bool → Bool → Bool → Option (Int × Int × ByteArray × Int)
 | 0, _, _, _ => none
 | k + 1, x7, x9, x25 => if x25 = true then ((cell_Bool.f true).bind fun bt297 => (some (bt297.1, bt297.2.1, bt297.2.2, 0))) else (if x7 = true then (if x9 = true then ((cell_Bool.f false).bind fun bt300 => (some (bt300.1, bt300.2.1, bt300.2.2, 0))) else (some (0, 0, (⟨#[]⟩ : ByteArray), 0))) else (some (0, 0, (⟨#[]⟩ : ByteArray), 0)))
def cell_Or.f (k : Nat) (a0_0 : Int) (a0_1 : Int) (a0_2 : ByteArray) (a1_0 : Int) (a1_1 : Int) (a1_2 : ByteArray) : Option (Int × Int × ByteArray × Int) := (cell_two.f k a0_0 a0_1 a0_2 a1_0 a1_1 a1_2).bind fun bt292 => (if bt292.2.2.2.2 = 0 then (if bt292.1 = true then (cell_Or.j0 k bt292.2.1 bt292.2.2.2.1 true) else (cell_Or.j0 k bt292.2.1 bt292.2.2.2.1 bt292.2.2.1)) else (some (0, 0, (⟨#[]⟩ : ByteArray), bt292.2.2.2.2)))
theorem cell_Or.mono_l : ∀ k, (∀ y0 y1 y2, LeO (cell_Or.j0 k y0 y1 y2) (cell_Or.j0 (k + 1) y0 y1 y2))
 | 0 => fun _ _ _ r h => by simp [cell_Or.j0] at h
 | k + 1 => by
  have ih0 := cell_Or.mono_l k
  ·intro y0 y1 y2
   unfold cell_Or.j0
   repeat' first
   | (with_reducible exact ih0 _ _ _)
   | (with_reducible exact cell_two.mono _ _ _ _ _ _ _)
   | (with_reducible exact LeO.refl _)
   | (with_reducible exact LeO.none _)
   | (with_reducible refine LeO.ite ?_ ?_)
   | (with_reducible refine LeO.bind ?_ (fun _ => ?_))
   | exact ih0 _ _ _
   | exact cell_two.mono _ _ _ _ _ _ _
   | exact LeO.none _
   | refine LeO.ite ?_ ?_
   | refine LeO.bind ?_ (fun _ => ?_)
theorem cell_Or.mono : ∀ a0 a1 a2 a3 a4 a5 k, LeO (cell_Or.f k a0 a1 a2 a3 a4 a5) (cell_Or.f (k + 1) a0 a1 a2 a3 a4 a5) := by
 intro a0 a1 a2 a3 a4 a5 k
 have ih0 := cell_Or.mono_l k
 unfold cell_Or.f
 repeat' first
   | (with_reducible exact ih0 _ _ _)
   | (with_reducible exact cell_two.mono _ _ _ _ _ _ _)
   | (with_reducible exact LeO.refl _)
   | (with_reducible exact LeO.none _)
   | (with_reducible refine LeO.ite ?_ ?_)
   | (with_reducible refine LeO.bind ?_ (fun _ => ?_))
   | exact ih0 _ _ _
   | exact cell_two.mono _ _ _ _ _ _ _
   | exact LeO.none _
   | refine LeO.ite ?_ ?_
   | refine LeO.bind ?_ (fun _ => ?_)
set_option maxHeartbeats 8000000 in
set_option maxRecDepth 100000 in
theorem cell_Or.calls (k : Nat) (a0_0 : Int) (a0_1 : Int) (a0_2 : ByteArray) (a1_0 : Int) (a1_1 : Int) (a1_2 : ByteArray) (r1 : Int) (r2 : Int) (r3 : ByteArray) (r4 : Int) (w : World) (h : cell_Or.f k a0_0 a0_1 a0_2 a1_0 a1_1 a1_2 = some (r1, r2, r3, r4)) :
  Calls Try.prog 35 #[.agg #[.int .u8 a0_0, .int .i64 a0_1, .string a0_2], .agg #[.int .u8 a1_0, .int .i64 a1_1, .string a1_2]] w fun e w' => e = .returned (.tuple #[.agg #[.int .u8 r1, .int .i64 r2, .string r3], .int .i64 r4]) ∧ Below w.heap.size w w' := by
 have hu35 := Try.underlying35
 have HB := aM35 (Below.refl w.heap.size w)
 have H : ((cell_two.f k a0_0 a0_1 a0_2 a1_0 a1_1 a1_2).bind fun bt292 => (if bt292.2.2.2.2 = 0 then (if bt292.1 = true then (cell_Or.j0 k bt292.2.1 bt292.2.2.2.1 true) else (cell_Or.j0 k bt292.2.1 bt292.2.2.2.1 bt292.2.2.1)) else (some (0, 0, (⟨#[]⟩ : ByteArray), bt292.2.2.2.2)))) = some (r1, r2, r3, r4) := h
 clear h
 replace H := Option.bind_eq_some_iff.mp H
 obtain ⟨⟨t292, t293, t294, t295, t296⟩, A30, H⟩ := H
 replace H : (if t296 = 0 then (if t292 = true then (cell_Or.j0 k t293 t295 true) else (cell_Or.j0 k t293 t295 t294)) else (some (0, 0, (⟨#[]⟩ : ByteArray), t296))) = some (r1, r2, r3, r4) := H
 have A3 := aM35 A30
 clear A30
 by_cases c4 : t296 = 0
 ·rw [if_pos c4] at H
  have c4b0 : (t296 == 0) = true := beq_iff_eq.mpr c4
  have c4b1 : (t296 != 0) = false := bne_eq_false_iff_eq.mpr c4
  clear c4
  have HC5 := aM35 H
  clear H
  go_enter Try.func35, Try.ntmps35
  go_upto_region 4 with (first | ((with_reducible refine gate_dst (N := 2) rfl ?_); refine box_event ?hg (N := 2) ?hd (cs := #[.int .u8 a0_0, .int .i64 a0_1, .string a0_2]) (t := 35) ?hr ?_; (case hd => rfl); (case hg => rfl); (case hr => first | (go_simp; done) | (go_simp; rfl)); intro gb289 hg w6 hbox hb; have n0_ := aM35 (below_step (by repeat (first | (with_reducible first | exact HB.out | apply below_alloc | apply pw_below_drewN | apply below_drew1) | exact HB.out)) hb); have n1_ := aM35 (hbox); have n2_ := aM35 ((by rw [hg]; exact (below_size (by repeat (first | (with_reducible first | exact HB.out | apply below_alloc | apply pw_below_drewN | apply below_drew1) | exact HB.out))) : w.heap.size ≤ gb289)); have n3_ := aM35 ((by rw [hg]; exact (below_size (by repeat (first | (with_reducible first | exact HB.out | apply below_alloc | apply pw_below_drewN | apply below_drew1) | exact HB.out))) : w.heap.size ≤ gb289)); clear HB; have HB := n0_; have BK289 := n1_; have GW289 := n2_; have GE289 := n3_; clear n0_ n1_ n2_ n3_; clear hb hbox hg) | ((with_reducible refine gate_dst (N := 3) rfl ?_); refine box_event ?hg (N := 3) ?hd (cs := #[.int .u8 a1_0, .int .i64 a1_1, .string a1_2]) (t := 35) ?hr ?_; (case hd => rfl); (case hg => rfl); (case hr => first | (go_simp; done) | (go_simp; rfl)); intro gb290 hg w7 hbox hb; have n0_ := aM35 (blk_below (g := gb289) (o := .cells #[.int .u8 a0_0, .int .i64 a0_1, .string a0_2] 35 (0, 0)) (by (with_reducible repeat (first | refine bN35 ?_ _ | refine bD35 ?_ | refine bA35 ?_ _)); exact BK289.out) hb); have n1_ := aM35 (below_step (by repeat (first | (with_reducible first | exact HB.out | apply below_alloc | apply pw_below_drewN | apply below_drew1 | refine bS35 ?_ GE289.out) | exact HB.out)) hb); have n2_ := aM35 (hbox); have n3_ := aM35 ((by rw [hg]; exact (below_size (by repeat (first | (with_reducible first | exact HB.out | apply below_alloc | apply pw_below_drewN | apply below_drew1 | refine bS35 ?_ GE289.out) | exact HB.out))) : w.heap.size ≤ gb290)); have n4_ := aM35 ((by rw [hg]; exact (below_size (by repeat (first | (with_reducible first | exact HB.out | apply below_alloc | apply pw_below_drewN | apply below_drew1 | refine bS35 ?_ GE289.out) | exact HB.out))) : w.heap.size ≤ gb290)); have n5_ := aM35 ((by rw [hg]; exact Nat.ne_of_lt (blk_lt (g := gb289) (o := .cells #[.int .u8 a0_0, .int .i64 a0_1, .string a0_2] 35 (0, 0)) (by (with_reducible repeat (first | refine bN35 ?_ _ | refine bD35 ?_ | refine bA35 ?_ _)); exact BK289.out)) : gb289 ≠ gb290)); have n6_ := aM35 ((by rw [hg]; exact Nat.ne_of_gt (blk_lt (g := gb289) (o := .cells #[.int .u8 a0_0, .int .i64 a0_1, .string a0_2] 35 (0, 0)) (by (with_reducible repeat (first | refine bN35 ?_ _ | refine bD35 ?_ | refine bA35 ?_ _)); exact BK289.out)) : gb290 ≠ gb289)); clear BK289; clear HB; have BK289 := n0_; have HB := n1_; have BK290 := n2_; have GW290 := n3_; have GE290 := n4_; have NB289_290 := n5_; have NB290_289 := n6_; clear n0_ n1_ n2_ n3_ n4_ n5_ n6_; clear hb hbox hg) | ((with_reducible refine gate_dst (N := 4) rfl ?_); refine box_event ?hg (N := 4) ?hd (cs := #[.int .u8 0, .int .i64 0, .string (⟨#[]⟩ : ByteArray)]) (t := 35) ?hr ?_; (case hd => rfl); (case hg => rfl); (case hr => first | (go_simp; done) | (go_simp; rfl)); intro gb291 hg w8 hbox hb; have n0_ := aM35 (blk_below (g := gb289) (o := .cells #[.int .u8 a0_0, .int .i64 a0_1, .string a0_2] 35 (0, 0)) (by (with_reducible repeat (first | refine bN35 ?_ _ | refine bD35 ?_ | refine bA35 ?_ _)); exact BK289.out) hb); have n1_ := aM35 (blk_below (g := gb290) (o := .cells #[.int .u8 a1_0, .int .i64 a1_1, .string a1_2] 35 (0, 0)) (by (with_reducible repeat (first | refine bN35 ?_ _ | refine bD35 ?_ | refine bA35 ?_ _)); exact BK290.out) hb); have n2_ := aM35 (below_step (by repeat (first | (with_reducible first | exact HB.out | apply below_alloc | apply pw_below_drewN | apply below_drew1 | refine bS35 ?_ GE289.out | refine bS35 ?_ GE290.out) | exact HB.out)) hb); have n3_ := aM35 (hbox); have n4_ := aM35 ((by rw [hg]; exact (below_size (by repeat (first | (with_reducible first | exact HB.out | apply below_alloc | apply pw_below_drewN | apply below_drew1 | refine bS35 ?_ GE289.out | refine bS35 ?_ GE290.out) | exact HB.out))) : w.heap.size ≤ gb291)); have n5_ := aM35 ((by rw [hg]; exact (below_size (by repeat (first | (with_reducible first | exact HB.out | apply below_alloc | apply pw_below_drewN | apply below_drew1 | refine bS35 ?_ GE289.out | refine bS35 ?_ GE290.out) | exact HB.out))) : w.heap.size ≤ gb291)); have n6_ := aM35 ((by rw [hg]; exact Nat.ne_of_lt (blk_lt (g := gb289) (o := .cells #[.int .u8 a0_0, .int .i64 a0_1, .string a0_2] 35 (0, 0)) (by (with_reducible repeat (first | refine bN35 ?_ _ | refine bD35 ?_ | refine bA35 ?_ _)); exact BK289.out)) : gb289 ≠ gb291)); have n7_ := aM35 ((by rw [hg]; exact Nat.ne_of_gt (blk_lt (g := gb289) (o := .cells #[.int .u8 a0_0, .int .i64 a0_1, .string a0_2] 35 (0, 0)) (by (with_reducible repeat (first | refine bN35 ?_ _ | refine bD35 ?_ | refine bA35 ?_ _)); exact BK289.out)) : gb291 ≠ gb289)); have n8_ := aM35 ((by rw [hg]; exact Nat.ne_of_lt (blk_lt (g := gb290) (o := .cells #[.int .u8 a1_0, .int .i64 a1_1, .string a1_2] 35 (0, 0)) (by (with_reducible repeat (first | refine bN35 ?_ _ | refine bD35 ?_ | refine bA35 ?_ _)); exact BK290.out)) : gb290 ≠ gb291)); have n9_ := aM35 ((by rw [hg]; exact Nat.ne_of_gt (blk_lt (g := gb290) (o := .cells #[.int .u8 a1_0, .int .i64 a1_1, .string a1_2] 35 (0, 0)) (by (with_reducible repeat (first | refine bN35 ?_ _ | refine bD35 ?_ | refine bA35 ?_ _)); exact BK290.out)) : gb291 ≠ gb290)); clear BK289; clear BK290; clear HB; have BK289 := n0_; have BK290 := n1_; have HB := n2_; have BK291 := n3_; have GW291 := n4_; have GE291 := n5_; have NB289_291 := n6_; have NB291_289 := n7_; have NB290_291 := n8_; have NB291_290 := n9_; clear n0_ n1_ n2_ n3_ n4_ n5_ n6_ n7_ n8_ n9_; clear hb hbox hg; have hnb9 := NB289_290.out; have hnc9 := NB290_289.out; have hnb10 := NB289_291.out; have hnc10 := NB291_289.out; have hcz11_0 : w8.cell? ⟨gb289, 0, none⟩ = some (.int .u8 a0_0) := (blk_cell BK289.out 0).trans rfl; have hcz11_1 : w8.cell? ⟨gb289, 1, none⟩ = some (.int .i64 a0_1) := (blk_cell BK289.out 1).trans rfl; have hcz11_2 : w8.cell? ⟨gb289, 2, none⟩ = some (.string a0_2) := (blk_cell BK289.out 2).trans rfl; have hfz11_0 := blk_frozen BK289.out 0; have hfz11_1 := blk_frozen BK289.out 1; have hfz11_2 := blk_frozen BK289.out 2; have hnb12 := NB290_291.out; have hnc12 := NB291_290.out; have hcz13_0 : w8.cell? ⟨gb290, 0, none⟩ = some (.int .u8 a1_0) := (blk_cell BK290.out 0).trans rfl; have hcz13_1 : w8.cell? ⟨gb290, 1, none⟩ = some (.int .i64 a1_1) := (blk_cell BK290.out 1).trans rfl; have hcz13_2 : w8.cell? ⟨gb290, 2, none⟩ = some (.string a1_2) := (blk_cell BK290.out 2).trans rfl; have hfz13_0 := blk_frozen BK290.out 0; have hfz13_1 := blk_frozen BK290.out 1; have hfz13_2 := blk_frozen BK290.out 2) | ((with_reducible refine gate_callee (f := 75) rfl ?_); refine goesL_ (some 14) rfl rfl Try.func75 (by kernel_rfl) rfl #[.agg #[.int .u8 a0_0, .int .i64 a0_1, .string a0_2], .agg #[.int .u8 a1_0, .int .i64 a1_1, .string a1_2]] rfl (by (try simp only [List.map_toArray, List.map_cons, List.map_nil]); first | done | rfl | (simp only [List.length_drop, List.length_take]; rfl)) ?_; (with_reducible refine (cell_two.calls k a0_0 a0_1 a0_2 a1_0 a1_1 a1_2 t292 t293 t294 t295 t296 _ A3.out).mono ?_); rintro e w14 ⟨rfl, hb⟩; refine ⟨_, rfl, ?_⟩; have n0_ := aM35 (blk_below (g := gb289) (o := .cells #[.int .u8 a0_0, .int .i64 a0_1, .string a0_2] 35 (0, 0)) (by (with_reducible repeat (first | refine bN35 ?_ _ | refine bD35 ?_ | refine bA35 ?_ _)); exact BK289.out) hb); have n1_ := aM35 (blk_below (g := gb290) (o := .cells #[.int .u8 a1_0, .int .i64 a1_1, .string a1_2] 35 (0, 0)) (by (with_reducible repeat (first | refine bN35 ?_ _ | refine bD35 ?_ | refine bA35 ?_ _)); exact BK290.out) hb); have n2_ := aM35 (blk_below (g := gb291) (o := .cells #[.int .u8 0, .int .i64 0, .string (⟨#[]⟩ : ByteArray)] 35 (0, 0)) (by (with_reducible repeat (first | refine bN35 ?_ _ | refine bD35 ?_ | refine bA35 ?_ _)); exact BK291.out) hb); have n3_ := aM35 (below_step (by repeat (first | (with_reducible first | exact HB.out | apply below_alloc | apply pw_below_drewN | apply below_drew1 | refine bS35 ?_ GE289.out | refine bS35 ?_ GE290.out | refine bS35 ?_ GE291.out) | exact HB.out)) hb); clear BK289; clear BK290; clear BK291; clear HB; have BK289 := n0_; have BK290 := n1_; have BK291 := n2_; have HB := n3_; clear n0_ n1_ n2_ n3_; (try clear hb); (try clear hb2); (try clear hk); (try clear hi)))
  (try simp only [Act.put, List.setIfInBounds_toArray, List.set_cons_zero, List.set_cons_succ])
  go_cut [25] (fun v25 wc => ∃ (kq : Nat) (x25_4 : Bool), v25 = .bool x25_4 ∧ Aside0 (cell_Or.j0 kq t293 t295 x25_4 = some (r1, r2, r3, r4)) ∧ Aside0 (kq ≤ k) ∧ Aside0 (wc.heap[gb289]? = some (.cells #[.int .u8 a0_0, .int .i64 a0_1, .string a0_2] 35 (0, 0))) ∧ Aside0 (wc.heap[gb290]? = some (.cells #[.int .u8 a1_0, .int .i64 a1_1, .string a1_2] 35 (0, 0))) ∧ Aside0 (wc.heap[gb291]? = some (.cells #[.int .u8 0, .int .i64 0, .string (⟨#[]⟩ : ByteArray)] 35 (0, 0))) ∧ Aside0 (Below w.heap.size w wc))
  case first =>
   have H := HC5.out
   clear HC5
   by_cases c15 : t292 = true
   ·subst c15
    have H1 : (cell_Or.j0 k t293 t295 true) = some (r1, r2, r3, r4) := by rw [if_pos rfl] at H; exact H
    clear H
    have H := H1
    clear H1
    have H' := aM35 H
    clear H
    go_wp2
    go_meet
    case rel => exact ⟨_, (true), (by first | rfl | (simp; done) | (simp [*]; done)), H', ⟨by first | omega | exact Nat.le_refl _⟩, ⟨by (with_reducible repeat (first | refine bN35 ?_ _ | refine bD35 ?_ | refine bA35 ?_ _)); exact BK289.out⟩, ⟨by (with_reducible repeat (first | refine bN35 ?_ _ | refine bD35 ?_ | refine bA35 ?_ _)); exact BK290.out⟩, ⟨by (with_reducible repeat (first | refine bN35 ?_ _ | refine bD35 ?_ | refine bA35 ?_ _)); exact BK291.out⟩, ⟨by repeat (first | (with_reducible first | exact HB.out | apply below_alloc | apply pw_below_drewN | apply below_drew1 | refine bS35 ?_ GE289.out | refine bS35 ?_ GE290.out | refine bS35 ?_ GE291.out) | exact HB.out)⟩⟩
   ·replace c15 := Bool.eq_false_iff.mpr c15
    subst c15
    have H1 : (cell_Or.j0 k t293 t295 t294) = some (r1, r2, r3, r4) := by rw [if_neg (show ¬ (false = true) by decide)] at H; exact H
    clear H
    have H := H1
    clear H1
    have H' := aM35 H
    clear H
    go_wp2
    go_meet
    case rel => exact ⟨_, (t294), (by first | rfl | (simp; done) | (simp [*]; done)), H', ⟨by first | omega | exact Nat.le_refl _⟩, ⟨by (with_reducible repeat (first | refine bN35 ?_ _ | refine bD35 ?_ | refine bA35 ?_ _)); exact BK289.out⟩, ⟨by (with_reducible repeat (first | refine bN35 ?_ _ | refine bD35 ?_ | refine bA35 ?_ _)); exact BK290.out⟩, ⟨by (with_reducible repeat (first | refine bN35 ?_ _ | refine bD35 ?_ | refine bA35 ?_ _)); exact BK291.out⟩, ⟨by repeat (first | (with_reducible first | exact HB.out | apply below_alloc | apply pw_below_drewN | apply below_drew1 | refine bS35 ?_ GE289.out | refine bS35 ?_ GE290.out | refine bS35 ?_ GE291.out) | exact HB.out)⟩⟩
  case rest =>
   clear HC5
   try clear c1
   try clear p2
   try clear c3
   try clear c4
   try clear c4b0
   try clear c4b1
   try clear c7
   try clear c9
   try clear c10
   try clear c12
   try clear c15
   try clear hcz11_0
   try clear hcz11_1
   try clear hcz11_2
   try clear hcz13_0
   try clear hcz13_1
   try clear hcz13_2
   try clear hfz11_0
   try clear hfz11_1
   try clear hfz11_2
   try clear hfz13_0
   try clear hfz13_1
   try clear hfz13_2
   obtain ⟨kq, x25_4, rfl, HA, HJ4, BK289, BK290, BK291, HB⟩ := hcut
   cases kq with
   | zero => exact absurd HA.out (by simp [cell_Or.j0])
   | succ kj4 =>
    have H := HA.out
    clear HA
    simp only [cell_Or.j0] at H
    by_cases c16 : x25_4 = true
    ·subst c16
     have H1 : ((cell_Bool.f true).bind fun bt297 => (some (bt297.1, bt297.2.1, bt297.2.2, 0))) = some (r1, r2, r3, r4) := by rw [if_pos rfl] at H; exact H
     clear H
     have H := H1
     clear H1
     replace H := Option.bind_eq_some_iff.mp H
     obtain ⟨⟨t297, t298, t299⟩, A170, H⟩ := H
     replace H : (some (t297, t298, t299, 0)) = some (r1, r2, r3, r4) := H
     have A17 := aM35 A170
     clear A170
     simp only [Option.some.injEq, Prod.mk.injEq] at H
     obtain ⟨rfl, rfl, rfl, rfl⟩ := H
     go_wp2_with (first | ((with_reducible refine gate_callee (f := 31) rfl ?_); refine goesL_ (some 30) rfl rfl Try.func31 (by kernel_rfl) rfl #[.bool true] rfl (by (try simp only [List.map_toArray, List.map_cons, List.map_nil]); first | done | rfl | (simp only [List.length_drop, List.length_take]; rfl)) ?_; (with_reducible refine (cell_Bool.calls true t297 t298 t299 _ A17.out).mono ?_); rintro e w18 ⟨rfl, hb⟩; refine ⟨_, rfl, ?_⟩; have n0_ := aM35 (blk_below (g := gb289) (o := .cells #[.int .u8 a0_0, .int .i64 a0_1, .string a0_2] 35 (0, 0)) (by (with_reducible repeat (first | refine bN35 ?_ _ | refine bD35 ?_ | refine bA35 ?_ _)); exact BK289.out) hb); have n1_ := aM35 (blk_below (g := gb290) (o := .cells #[.int .u8 a1_0, .int .i64 a1_1, .string a1_2] 35 (0, 0)) (by (with_reducible repeat (first | refine bN35 ?_ _ | refine bD35 ?_ | refine bA35 ?_ _)); exact BK290.out) hb); have n2_ := aM35 (blk_below (g := gb291) (o := .cells #[.int .u8 0, .int .i64 0, .string (⟨#[]⟩ : ByteArray)] 35 (0, 0)) (by (with_reducible repeat (first | refine bN35 ?_ _ | refine bD35 ?_ | refine bA35 ?_ _)); exact BK291.out) hb); have n3_ := aM35 (below_step (by repeat (first | (with_reducible first | exact HB.out | apply below_alloc | apply pw_below_drewN | apply below_drew1 | refine bS35 ?_ GE289.out | refine bS35 ?_ GE290.out | refine bS35 ?_ GE291.out) | exact HB.out)) hb); clear BK289; clear BK290; clear BK291; clear HB; have BK289 := n0_; have BK290 := n1_; have BK291 := n2_; have HB := n3_; clear n0_ n1_ n2_ n3_; (try clear hb); (try clear hb2); (try clear hk); (try clear hi); have hnb19 := NB291_289.out; have hnc19 := NB289_291.out; have hnb20 := NB291_290.out; have hnc20 := NB290_291.out; have hcz21_0 : w18.cell? ⟨gb291, 0, none⟩ = some (.int .u8 0) := (blk_cell BK291.out 0).trans rfl; have hcz21_1 : w18.cell? ⟨gb291, 1, none⟩ = some (.int .i64 0) := (blk_cell BK291.out 1).trans rfl; have hcz21_2 : w18.cell? ⟨gb291, 2, none⟩ = some (.string (⟨#[]⟩ : ByteArray)) := (blk_cell BK291.out 2).trans rfl; have hfz21_0 := blk_frozen BK291.out 0; have hfz21_1 := blk_frozen BK291.out 1; have hfz21_2 := blk_frozen BK291.out 2))
     refine bodyPost_ret (results_ct rfl _ _ gb291 35 #[.int .u8 t297, .int .i64 t298, .string t299] (0, 0) _ rfl (by (with_reducible repeat (first | refine bN35 ?_ _ | refine bD35 ?_ | refine bA35 ?_ _)); refine blk_put (cs := #[.int .u8 t297, .int .i64 t298, .string (⟨#[]⟩ : ByteArray)]) ?_ 2 _ rfl; (with_reducible repeat (first | refine bN35 ?_ _ | refine bD35 ?_ | refine bA35 ?_ _)); refine blk_put (cs := #[.int .u8 t297, .int .i64 0, .string (⟨#[]⟩ : ByteArray)]) ?_ 1 _ rfl; (with_reducible repeat (first | refine bN35 ?_ _ | refine bD35 ?_ | refine bA35 ?_ _)); refine blk_put (cs := #[.int .u8 0, .int .i64 0, .string (⟨#[]⟩ : ByteArray)]) ?_ 0 _ rfl; (with_reducible repeat (first | refine bN35 ?_ _ | refine bD35 ?_ | refine bA35 ?_ _)); exact BK291.out) Try.underlying35 rfl (by kernel_rfl)) rfl ?_
     exact ⟨by first | rfl | (simp [errW_none, errW_some] <;> rfl) | (simp [*, errW_none, errW_some] <;> rfl), by repeat (first | (with_reducible first | exact HB.out | apply below_alloc | apply pw_below_drewN | apply below_drew1 | refine bS35 ?_ GE289.out | refine bS35 ?_ GE290.out | refine bS35 ?_ GE291.out) | exact HB.out)⟩
    ·replace c16 := Bool.eq_false_iff.mpr c16
     subst c16
     have H1 : (if t293 = true then (if t295 = true then ((cell_Bool.f false).bind fun bt300 => (some (bt300.1, bt300.2.1, bt300.2.2, 0))) else (some (0, 0, (⟨#[]⟩ : ByteArray), 0))) else (some (0, 0, (⟨#[]⟩ : ByteArray), 0))) = some (r1, r2, r3, r4) := by rw [if_neg (show ¬ (false = true) by decide)] at H; exact H
     clear H
     have H := H1
     clear H1
     by_cases c22 : t293 = true
     ·subst c22
      have H1 : (if t295 = true then ((cell_Bool.f false).bind fun bt300 => (some (bt300.1, bt300.2.1, bt300.2.2, 0))) else (some (0, 0, (⟨#[]⟩ : ByteArray), 0))) = some (r1, r2, r3, r4) := by rw [if_pos rfl] at H; exact H
      clear H
      have H := H1
      clear H1
      by_cases c23 : t295 = true
      ·subst c23
       have H1 : ((cell_Bool.f false).bind fun bt300 => (some (bt300.1, bt300.2.1, bt300.2.2, 0))) = some (r1, r2, r3, r4) := by rw [if_pos rfl] at H; exact H
       clear H
       have H := H1
       clear H1
       replace H := Option.bind_eq_some_iff.mp H
       obtain ⟨⟨t300, t301, t302⟩, A240, H⟩ := H
       replace H : (some (t300, t301, t302, 0)) = some (r1, r2, r3, r4) := H
       have A24 := aM35 A240
       clear A240
       simp only [Option.some.injEq, Prod.mk.injEq] at H
       obtain ⟨rfl, rfl, rfl, rfl⟩ := H
       go_wp2_with (first | ((with_reducible refine gate_callee (f := 31) rfl ?_); refine goesL_ (some 39) rfl rfl Try.func31 (by kernel_rfl) rfl #[.bool false] rfl (by (try simp only [List.map_toArray, List.map_cons, List.map_nil]); first | done | rfl | (simp only [List.length_drop, List.length_take]; rfl)) ?_; (with_reducible refine (cell_Bool.calls false t300 t301 t302 _ A24.out).mono ?_); rintro e w25 ⟨rfl, hb⟩; refine ⟨_, rfl, ?_⟩; have n0_ := aM35 (blk_below (g := gb289) (o := .cells #[.int .u8 a0_0, .int .i64 a0_1, .string a0_2] 35 (0, 0)) (by (with_reducible repeat (first | refine bN35 ?_ _ | refine bD35 ?_ | refine bA35 ?_ _)); exact BK289.out) hb); have n1_ := aM35 (blk_below (g := gb290) (o := .cells #[.int .u8 a1_0, .int .i64 a1_1, .string a1_2] 35 (0, 0)) (by (with_reducible repeat (first | refine bN35 ?_ _ | refine bD35 ?_ | refine bA35 ?_ _)); exact BK290.out) hb); have n2_ := aM35 (blk_below (g := gb291) (o := .cells #[.int .u8 0, .int .i64 0, .string (⟨#[]⟩ : ByteArray)] 35 (0, 0)) (by (with_reducible repeat (first | refine bN35 ?_ _ | refine bD35 ?_ | refine bA35 ?_ _)); exact BK291.out) hb); have n3_ := aM35 (below_step (by repeat (first | (with_reducible first | exact HB.out | apply below_alloc | apply pw_below_drewN | apply below_drew1 | refine bS35 ?_ GE289.out | refine bS35 ?_ GE290.out | refine bS35 ?_ GE291.out) | exact HB.out)) hb); clear BK289; clear BK290; clear BK291; clear HB; have BK289 := n0_; have BK290 := n1_; have BK291 := n2_; have HB := n3_; clear n0_ n1_ n2_ n3_; (try clear hb); (try clear hb2); (try clear hk); (try clear hi); have hnb26 := NB291_289.out; have hnc26 := NB289_291.out; have hnb27 := NB291_290.out; have hnc27 := NB290_291.out; have hcz28_0 : w25.cell? ⟨gb291, 0, none⟩ = some (.int .u8 0) := (blk_cell BK291.out 0).trans rfl; have hcz28_1 : w25.cell? ⟨gb291, 1, none⟩ = some (.int .i64 0) := (blk_cell BK291.out 1).trans rfl; have hcz28_2 : w25.cell? ⟨gb291, 2, none⟩ = some (.string (⟨#[]⟩ : ByteArray)) := (blk_cell BK291.out 2).trans rfl; have hfz28_0 := blk_frozen BK291.out 0; have hfz28_1 := blk_frozen BK291.out 1; have hfz28_2 := blk_frozen BK291.out 2))
       refine bodyPost_ret (results_ct rfl _ _ gb291 35 #[.int .u8 t300, .int .i64 t301, .string t302] (0, 0) _ rfl (by (with_reducible repeat (first | refine bN35 ?_ _ | refine bD35 ?_ | refine bA35 ?_ _)); refine blk_put (cs := #[.int .u8 t300, .int .i64 t301, .string (⟨#[]⟩ : ByteArray)]) ?_ 2 _ rfl; (with_reducible repeat (first | refine bN35 ?_ _ | refine bD35 ?_ | refine bA35 ?_ _)); refine blk_put (cs := #[.int .u8 t300, .int .i64 0, .string (⟨#[]⟩ : ByteArray)]) ?_ 1 _ rfl; (with_reducible repeat (first | refine bN35 ?_ _ | refine bD35 ?_ | refine bA35 ?_ _)); refine blk_put (cs := #[.int .u8 0, .int .i64 0, .string (⟨#[]⟩ : ByteArray)]) ?_ 0 _ rfl; (with_reducible repeat (first | refine bN35 ?_ _ | refine bD35 ?_ | refine bA35 ?_ _)); exact BK291.out) Try.underlying35 rfl (by kernel_rfl)) rfl ?_
       exact ⟨by first | rfl | (simp [errW_none, errW_some] <;> rfl) | (simp [*, errW_none, errW_some] <;> rfl), by repeat (first | (with_reducible first | exact HB.out | apply below_alloc | apply pw_below_drewN | apply below_drew1 | refine bS35 ?_ GE289.out | refine bS35 ?_ GE290.out | refine bS35 ?_ GE291.out) | exact HB.out)⟩
      ·replace c23 := Bool.eq_false_iff.mpr c23
       subst c23
       have H1 : (some (0, 0, (⟨#[]⟩ : ByteArray), 0)) = some (r1, r2, r3, r4) := by rw [if_neg (show ¬ (false = true) by decide)] at H; exact H
       clear H
       have H := H1
       clear H1
       simp only [Option.some.injEq, Prod.mk.injEq] at H
       obtain ⟨rfl, rfl, rfl, rfl⟩ := H
       have hnb29 := NB291_289.out
       have hnc29 := NB289_291.out
       have hnb30 := NB291_290.out
       have hnc30 := NB290_291.out
       have hcz31_0 : wc.cell? ⟨gb291, 0, none⟩ = some (.int .u8 0) := (blk_cell BK291.out 0).trans rfl
       have hcz31_1 : wc.cell? ⟨gb291, 1, none⟩ = some (.int .i64 0) := (blk_cell BK291.out 1).trans rfl
       have hcz31_2 : wc.cell? ⟨gb291, 2, none⟩ = some (.string (⟨#[]⟩ : ByteArray)) := (blk_cell BK291.out 2).trans rfl
       have hfz31_0 := blk_frozen BK291.out 0
       have hfz31_1 := blk_frozen BK291.out 1
       have hfz31_2 := blk_frozen BK291.out 2
       go_wp2
       refine bodyPost_ret (results_ct rfl _ _ gb291 35 #[.int .u8 0, .int .i64 0, .string (⟨#[]⟩ : ByteArray)] (0, 0) _ rfl (by (with_reducible repeat (first | refine bN35 ?_ _ | refine bD35 ?_ | refine bA35 ?_ _)); refine blk_put (cs := #[.int .u8 0, .int .i64 0, .string (⟨#[]⟩ : ByteArray)]) ?_ 2 _ rfl; (with_reducible repeat (first | refine bN35 ?_ _ | refine bD35 ?_ | refine bA35 ?_ _)); refine blk_put (cs := #[.int .u8 0, .int .i64 0, .string (⟨#[]⟩ : ByteArray)]) ?_ 1 _ rfl; (with_reducible repeat (first | refine bN35 ?_ _ | refine bD35 ?_ | refine bA35 ?_ _)); refine blk_put (cs := #[.int .u8 0, .int .i64 0, .string (⟨#[]⟩ : ByteArray)]) ?_ 0 _ rfl; (with_reducible repeat (first | refine bN35 ?_ _ | refine bD35 ?_ | refine bA35 ?_ _)); exact BK291.out) Try.underlying35 rfl (by kernel_rfl)) rfl ?_
       exact ⟨by first | rfl | (simp [errW_none, errW_some] <;> rfl) | (simp [*, errW_none, errW_some] <;> rfl), by repeat (first | (with_reducible first | exact HB.out | apply below_alloc | apply pw_below_drewN | apply below_drew1 | refine bS35 ?_ GE289.out | refine bS35 ?_ GE290.out | refine bS35 ?_ GE291.out) | exact HB.out)⟩
     ·replace c22 := Bool.eq_false_iff.mpr c22
      subst c22
      have H1 : (some (0, 0, (⟨#[]⟩ : ByteArray), 0)) = some (r1, r2, r3, r4) := by rw [if_neg (show ¬ (false = true) by decide)] at H; exact H
      clear H
      have H := H1
      clear H1
      simp only [Option.some.injEq, Prod.mk.injEq] at H
      obtain ⟨rfl, rfl, rfl, rfl⟩ := H
      have hnb32 := NB291_289.out
      have hnc32 := NB289_291.out
      have hnb33 := NB291_290.out
      have hnc33 := NB290_291.out
      have hcz34_0 : wc.cell? ⟨gb291, 0, none⟩ = some (.int .u8 0) := (blk_cell BK291.out 0).trans rfl
      have hcz34_1 : wc.cell? ⟨gb291, 1, none⟩ = some (.int .i64 0) := (blk_cell BK291.out 1).trans rfl
      have hcz34_2 : wc.cell? ⟨gb291, 2, none⟩ = some (.string (⟨#[]⟩ : ByteArray)) := (blk_cell BK291.out 2).trans rfl
      have hfz34_0 := blk_frozen BK291.out 0
      have hfz34_1 := blk_frozen BK291.out 1
      have hfz34_2 := blk_frozen BK291.out 2
      go_wp2
      refine bodyPost_ret (results_ct rfl _ _ gb291 35 #[.int .u8 0, .int .i64 0, .string (⟨#[]⟩ : ByteArray)] (0, 0) _ rfl (by (with_reducible repeat (first | refine bN35 ?_ _ | refine bD35 ?_ | refine bA35 ?_ _)); refine blk_put (cs := #[.int .u8 0, .int .i64 0, .string (⟨#[]⟩ : ByteArray)]) ?_ 2 _ rfl; (with_reducible repeat (first | refine bN35 ?_ _ | refine bD35 ?_ | refine bA35 ?_ _)); refine blk_put (cs := #[.int .u8 0, .int .i64 0, .string (⟨#[]⟩ : ByteArray)]) ?_ 1 _ rfl; (with_reducible repeat (first | refine bN35 ?_ _ | refine bD35 ?_ | refine bA35 ?_ _)); refine blk_put (cs := #[.int .u8 0, .int .i64 0, .string (⟨#[]⟩ : ByteArray)]) ?_ 0 _ rfl; (with_reducible repeat (first | refine bN35 ?_ _ | refine bD35 ?_ | refine bA35 ?_ _)); exact BK291.out) Try.underlying35 rfl (by kernel_rfl)) rfl ?_
      exact ⟨by first | rfl | (simp [errW_none, errW_some] <;> rfl) | (simp [*, errW_none, errW_some] <;> rfl), by repeat (first | (with_reducible first | exact HB.out | apply below_alloc | apply pw_below_drewN | apply below_drew1 | refine bS35 ?_ GE289.out | refine bS35 ?_ GE290.out | refine bS35 ?_ GE291.out) | exact HB.out)⟩
 ·rw [if_neg c4] at H
  have c4b0 : (t296 == 0) = false := beq_eq_false_iff_ne.mpr c4
  have c4b1 : (t296 != 0) = true := bne_iff_ne.mpr c4
  simp only [Option.some.injEq, Prod.mk.injEq] at H
  obtain ⟨rfl, rfl, rfl, rfl⟩ := H
  go_enter Try.func35, Try.ntmps35
  go_wp2_with (first | ((with_reducible refine gate_dst (N := 2) rfl ?_); refine box_event ?hg (N := 2) ?hd (cs := #[.int .u8 a0_0, .int .i64 a0_1, .string a0_2]) (t := 35) ?hr ?_; (case hd => rfl); (case hg => rfl); (case hr => first | (go_simp; done) | (go_simp; rfl)); intro gb289 hg w35 hbox hb; have n0_ := aM35 (below_step (by repeat (first | (with_reducible first | exact HB.out | apply below_alloc | apply pw_below_drewN | apply below_drew1) | exact HB.out)) hb); have n1_ := aM35 (hbox); have n2_ := aM35 ((by rw [hg]; exact (below_size (by repeat (first | (with_reducible first | exact HB.out | apply below_alloc | apply pw_below_drewN | apply below_drew1) | exact HB.out))) : w.heap.size ≤ gb289)); have n3_ := aM35 ((by rw [hg]; exact (below_size (by repeat (first | (with_reducible first | exact HB.out | apply below_alloc | apply pw_below_drewN | apply below_drew1) | exact HB.out))) : w.heap.size ≤ gb289)); clear HB; have HB := n0_; have BK289 := n1_; have GW289 := n2_; have GE289 := n3_; clear n0_ n1_ n2_ n3_; clear hb hbox hg) | ((with_reducible refine gate_dst (N := 3) rfl ?_); refine box_event ?hg (N := 3) ?hd (cs := #[.int .u8 a1_0, .int .i64 a1_1, .string a1_2]) (t := 35) ?hr ?_; (case hd => rfl); (case hg => rfl); (case hr => first | (go_simp; done) | (go_simp; rfl)); intro gb290 hg w36 hbox hb; have n0_ := aM35 (blk_below (g := gb289) (o := .cells #[.int .u8 a0_0, .int .i64 a0_1, .string a0_2] 35 (0, 0)) (by (with_reducible repeat (first | refine bN35 ?_ _ | refine bD35 ?_ | refine bA35 ?_ _)); exact BK289.out) hb); have n1_ := aM35 (below_step (by repeat (first | (with_reducible first | exact HB.out | apply below_alloc | apply pw_below_drewN | apply below_drew1 | refine bS35 ?_ GE289.out) | exact HB.out)) hb); have n2_ := aM35 (hbox); have n3_ := aM35 ((by rw [hg]; exact (below_size (by repeat (first | (with_reducible first | exact HB.out | apply below_alloc | apply pw_below_drewN | apply below_drew1 | refine bS35 ?_ GE289.out) | exact HB.out))) : w.heap.size ≤ gb290)); have n4_ := aM35 ((by rw [hg]; exact (below_size (by repeat (first | (with_reducible first | exact HB.out | apply below_alloc | apply pw_below_drewN | apply below_drew1 | refine bS35 ?_ GE289.out) | exact HB.out))) : w.heap.size ≤ gb290)); have n5_ := aM35 ((by rw [hg]; exact Nat.ne_of_lt (blk_lt (g := gb289) (o := .cells #[.int .u8 a0_0, .int .i64 a0_1, .string a0_2] 35 (0, 0)) (by (with_reducible repeat (first | refine bN35 ?_ _ | refine bD35 ?_ | refine bA35 ?_ _)); exact BK289.out)) : gb289 ≠ gb290)); have n6_ := aM35 ((by rw [hg]; exact Nat.ne_of_gt (blk_lt (g := gb289) (o := .cells #[.int .u8 a0_0, .int .i64 a0_1, .string a0_2] 35 (0, 0)) (by (with_reducible repeat (first | refine bN35 ?_ _ | refine bD35 ?_ | refine bA35 ?_ _)); exact BK289.out)) : gb290 ≠ gb289)); clear BK289; clear HB; have BK289 := n0_; have HB := n1_; have BK290 := n2_; have GW290 := n3_; have GE290 := n4_; have NB289_290 := n5_; have NB290_289 := n6_; clear n0_ n1_ n2_ n3_ n4_ n5_ n6_; clear hb hbox hg) | ((with_reducible refine gate_dst (N := 4) rfl ?_); refine box_event ?hg (N := 4) ?hd (cs := #[.int .u8 0, .int .i64 0, .string (⟨#[]⟩ : ByteArray)]) (t := 35) ?hr ?_; (case hd => rfl); (case hg => rfl); (case hr => first | (go_simp; done) | (go_simp; rfl)); intro gb291 hg w37 hbox hb; have n0_ := aM35 (blk_below (g := gb289) (o := .cells #[.int .u8 a0_0, .int .i64 a0_1, .string a0_2] 35 (0, 0)) (by (with_reducible repeat (first | refine bN35 ?_ _ | refine bD35 ?_ | refine bA35 ?_ _)); exact BK289.out) hb); have n1_ := aM35 (blk_below (g := gb290) (o := .cells #[.int .u8 a1_0, .int .i64 a1_1, .string a1_2] 35 (0, 0)) (by (with_reducible repeat (first | refine bN35 ?_ _ | refine bD35 ?_ | refine bA35 ?_ _)); exact BK290.out) hb); have n2_ := aM35 (below_step (by repeat (first | (with_reducible first | exact HB.out | apply below_alloc | apply pw_below_drewN | apply below_drew1 | refine bS35 ?_ GE289.out | refine bS35 ?_ GE290.out) | exact HB.out)) hb); have n3_ := aM35 (hbox); have n4_ := aM35 ((by rw [hg]; exact (below_size (by repeat (first | (with_reducible first | exact HB.out | apply below_alloc | apply pw_below_drewN | apply below_drew1 | refine bS35 ?_ GE289.out | refine bS35 ?_ GE290.out) | exact HB.out))) : w.heap.size ≤ gb291)); have n5_ := aM35 ((by rw [hg]; exact (below_size (by repeat (first | (with_reducible first | exact HB.out | apply below_alloc | apply pw_below_drewN | apply below_drew1 | refine bS35 ?_ GE289.out | refine bS35 ?_ GE290.out) | exact HB.out))) : w.heap.size ≤ gb291)); have n6_ := aM35 ((by rw [hg]; exact Nat.ne_of_lt (blk_lt (g := gb289) (o := .cells #[.int .u8 a0_0, .int .i64 a0_1, .string a0_2] 35 (0, 0)) (by (with_reducible repeat (first | refine bN35 ?_ _ | refine bD35 ?_ | refine bA35 ?_ _)); exact BK289.out)) : gb289 ≠ gb291)); have n7_ := aM35 ((by rw [hg]; exact Nat.ne_of_gt (blk_lt (g := gb289) (o := .cells #[.int .u8 a0_0, .int .i64 a0_1, .string a0_2] 35 (0, 0)) (by (with_reducible repeat (first | refine bN35 ?_ _ | refine bD35 ?_ | refine bA35 ?_ _)); exact BK289.out)) : gb291 ≠ gb289)); have n8_ := aM35 ((by rw [hg]; exact Nat.ne_of_lt (blk_lt (g := gb290) (o := .cells #[.int .u8 a1_0, .int .i64 a1_1, .string a1_2] 35 (0, 0)) (by (with_reducible repeat (first | refine bN35 ?_ _ | refine bD35 ?_ | refine bA35 ?_ _)); exact BK290.out)) : gb290 ≠ gb291)); have n9_ := aM35 ((by rw [hg]; exact Nat.ne_of_gt (blk_lt (g := gb290) (o := .cells #[.int .u8 a1_0, .int .i64 a1_1, .string a1_2] 35 (0, 0)) (by (with_reducible repeat (first | refine bN35 ?_ _ | refine bD35 ?_ | refine bA35 ?_ _)); exact BK290.out)) : gb291 ≠ gb290)); clear BK289; clear BK290; clear HB; have BK289 := n0_; have BK290 := n1_; have HB := n2_; have BK291 := n3_; have GW291 := n4_; have GE291 := n5_; have NB289_291 := n6_; have NB291_289 := n7_; have NB290_291 := n8_; have NB291_290 := n9_; clear n0_ n1_ n2_ n3_ n4_ n5_ n6_ n7_ n8_ n9_; clear hb hbox hg; have hnb38 := NB289_290.out; have hnc38 := NB290_289.out; have hnb39 := NB289_291.out; have hnc39 := NB291_289.out; have hcz40_0 : w37.cell? ⟨gb289, 0, none⟩ = some (.int .u8 a0_0) := (blk_cell BK289.out 0).trans rfl; have hcz40_1 : w37.cell? ⟨gb289, 1, none⟩ = some (.int .i64 a0_1) := (blk_cell BK289.out 1).trans rfl; have hcz40_2 : w37.cell? ⟨gb289, 2, none⟩ = some (.string a0_2) := (blk_cell BK289.out 2).trans rfl; have hfz40_0 := blk_frozen BK289.out 0; have hfz40_1 := blk_frozen BK289.out 1; have hfz40_2 := blk_frozen BK289.out 2; have hnb41 := NB290_291.out; have hnc41 := NB291_290.out; have hcz42_0 : w37.cell? ⟨gb290, 0, none⟩ = some (.int .u8 a1_0) := (blk_cell BK290.out 0).trans rfl; have hcz42_1 : w37.cell? ⟨gb290, 1, none⟩ = some (.int .i64 a1_1) := (blk_cell BK290.out 1).trans rfl; have hcz42_2 : w37.cell? ⟨gb290, 2, none⟩ = some (.string a1_2) := (blk_cell BK290.out 2).trans rfl; have hfz42_0 := blk_frozen BK290.out 0; have hfz42_1 := blk_frozen BK290.out 1; have hfz42_2 := blk_frozen BK290.out 2) | ((with_reducible refine gate_callee (f := 75) rfl ?_); refine goesL_ (some 14) rfl rfl Try.func75 (by kernel_rfl) rfl #[.agg #[.int .u8 a0_0, .int .i64 a0_1, .string a0_2], .agg #[.int .u8 a1_0, .int .i64 a1_1, .string a1_2]] rfl (by (try simp only [List.map_toArray, List.map_cons, List.map_nil]); first | done | rfl | (simp only [List.length_drop, List.length_take]; rfl)) ?_; (with_reducible refine (cell_two.calls k a0_0 a0_1 a0_2 a1_0 a1_1 a1_2 t292 t293 t294 t295 t296 _ A3.out).mono ?_); rintro e w43 ⟨rfl, hb⟩; refine ⟨_, rfl, ?_⟩; have n0_ := aM35 (blk_below (g := gb289) (o := .cells #[.int .u8 a0_0, .int .i64 a0_1, .string a0_2] 35 (0, 0)) (by (with_reducible repeat (first | refine bN35 ?_ _ | refine bD35 ?_ | refine bA35 ?_ _)); exact BK289.out) hb); have n1_ := aM35 (blk_below (g := gb290) (o := .cells #[.int .u8 a1_0, .int .i64 a1_1, .string a1_2] 35 (0, 0)) (by (with_reducible repeat (first | refine bN35 ?_ _ | refine bD35 ?_ | refine bA35 ?_ _)); exact BK290.out) hb); have n2_ := aM35 (blk_below (g := gb291) (o := .cells #[.int .u8 0, .int .i64 0, .string (⟨#[]⟩ : ByteArray)] 35 (0, 0)) (by (with_reducible repeat (first | refine bN35 ?_ _ | refine bD35 ?_ | refine bA35 ?_ _)); exact BK291.out) hb); have n3_ := aM35 (below_step (by repeat (first | (with_reducible first | exact HB.out | apply below_alloc | apply pw_below_drewN | apply below_drew1 | refine bS35 ?_ GE289.out | refine bS35 ?_ GE290.out | refine bS35 ?_ GE291.out) | exact HB.out)) hb); clear BK289; clear BK290; clear BK291; clear HB; have BK289 := n0_; have BK290 := n1_; have BK291 := n2_; have HB := n3_; clear n0_ n1_ n2_ n3_; (try clear hb); (try clear hb2); (try clear hk); (try clear hi); have hcz44_0 : w43.cell? ⟨gb291, 0, none⟩ = some (.int .u8 0) := (blk_cell BK291.out 0).trans rfl; have hcz44_1 : w43.cell? ⟨gb291, 1, none⟩ = some (.int .i64 0) := (blk_cell BK291.out 1).trans rfl; have hcz44_2 : w43.cell? ⟨gb291, 2, none⟩ = some (.string (⟨#[]⟩ : ByteArray)) := (blk_cell BK291.out 2).trans rfl; have hfz44_0 := blk_frozen BK291.out 0; have hfz44_1 := blk_frozen BK291.out 1; have hfz44_2 := blk_frozen BK291.out 2))
  refine bodyPost_ret (results_ct rfl _ _ gb291 35 #[.int .u8 0, .int .i64 0, .string (⟨#[]⟩ : ByteArray)] (0, 0) _ rfl (by (with_reducible repeat (first | refine bN35 ?_ _ | refine bD35 ?_ | refine bA35 ?_ _)); refine blk_put (cs := #[.int .u8 0, .int .i64 0, .string (⟨#[]⟩ : ByteArray)]) ?_ 2 _ rfl; (with_reducible repeat (first | refine bN35 ?_ _ | refine bD35 ?_ | refine bA35 ?_ _)); refine blk_put (cs := #[.int .u8 0, .int .i64 0, .string (⟨#[]⟩ : ByteArray)]) ?_ 1 _ rfl; (with_reducible repeat (first | refine bN35 ?_ _ | refine bD35 ?_ | refine bA35 ?_ _)); refine blk_put (cs := #[.int .u8 0, .int .i64 0, .string (⟨#[]⟩ : ByteArray)]) ?_ 0 _ rfl; (with_reducible repeat (first | refine bN35 ?_ _ | refine bD35 ?_ | refine bA35 ?_ _)); exact BK291.out) Try.underlying35 rfl (by kernel_rfl)) rfl ?_
  exact ⟨by first | rfl | (simp [errW_none, errW_some] <;> rfl) | (simp [*, errW_none, errW_some] <;> rfl), by repeat (first | (with_reducible first | exact HB.out | apply below_alloc | apply pw_below_drewN | apply below_drew1 | refine bS35 ?_ GE289.out | refine bS35 ?_ GE290.out | refine bS35 ?_ GE291.out) | exact HB.out)⟩

end Go.Proofs.Ytefpnnljflcmbaa.PCe
