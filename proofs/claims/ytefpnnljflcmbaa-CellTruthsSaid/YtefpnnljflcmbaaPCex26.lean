-- Written by a program of this session (wip/tool), which goes by the kit's print.
import Derived.Test.YtefpnnljflcmbaaPCex0
import Derived.Test.YtefpnnljflcmbaaPCex15
import Derived.Test.YtefpnnljflcmbaaPCex25
namespace Go.Proofs.Ytefpnnljflcmbaa.PCe
open Go.RowKit Go.Proofs.YtefpnnljflcmbaaW.PrintWords Go.Proofs.YtefpnnljflcmbaaW.PrintLast Go.Proofs.YtefpnnljflcmbaaW.PrintMore
attribute [local go_sem] max2_int min2_int max_two min_two max_three min_three max_four min_four   -- for this text's walks alone
set_option linter.unusedVariables false
set_option linter.unusedSimpArgs false

/-! ### hindsightref02_And: function 38 -/
theorem bN38 : type_of% @blk_drewN := @blk_drewN
theorem bD38 : type_of% @blk_drew := @blk_drew
theorem bA38 : type_of% @blk_alloc := @blk_alloc
theorem bS38 : type_of% @below_set := @below_set
theorem aM38 : type_of% @Aside0.mk := @Aside0.mk
def hindsightref02_And.j0 : Nat → Bool → Int → Int → ByteArray → Int → Int → ByteArray → Option (Int × Int × ByteArray × Int)
 | 0, _, _, _, _, _, _, _ => none
 | k + 1, x18, x366000, x366001, x366002, x367000, x367001, x367002 => if x18 = true then (some (0, 0, (⟨#[]⟩ : ByteArray), 3)) else ((hindsightref02_Truth.f x366000 x366001 x366002).bind fun bt370 => ((hindsightref02_Truth.f x367000 x367001 x367002).bind fun bt372 => (if bt370.2 = 0 then (if bt372.2 = 0 then ((some (([0, 0, 0, 0, 1, 2, 0, 2, 2] : List Int) : List Int)).bind fun y374 => (if 0 ≤ (wrap64 ((wrap64 (3 * bt370.1)) + bt372.1)) then (if (wrap64 ((wrap64 (3 * bt370.1)) + bt372.1)) < (y374.length : Int) then ((hindsightref02_Of.f (rd y374 (wrap64 ((wrap64 (3 * bt370.1)) + bt372.1)))).bind fun bt378 => (some (bt378.1, bt378.2.1, bt378.2.2, 0))) else (none)) else (none))) else (some (0, 0, (⟨#[]⟩ : ByteArray), 20))) else (some (0, 0, (⟨#[]⟩ : ByteArray), 20)))))
def hindsightref02_And.f (k : Nat) (a0_0 : Int) (a0_1 : Int) (a0_2 : ByteArray) (a1_0 : Int) (a1_1 : Int) (a1_2 : ByteArray) : Option (Int × Int × ByteArray × Int) := (hindsightref02_Right.f a0_0 a0_1 a0_2).bind fun t368 => (if t368 = true then ((hindsightref02_Right.f a1_0 a1_1 a1_2).bind fun t369 => (hindsightref02_And.j0 k (!t369) a0_0 a0_1 a0_2 a1_0 a1_1 a1_2)) else (hindsightref02_And.j0 k true a0_0 a0_1 a0_2 a1_0 a1_1 a1_2))
theorem hindsightref02_And.mono_l : ∀ k, (∀ y0 y1 y2 y3 y4 y5 y6, LeO (hindsightref02_And.j0 k y0 y1 y2 y3 y4 y5 y6) (hindsightref02_And.j0 (k + 1) y0 y1 y2 y3 y4 y5 y6))
 | 0 => fun _ _ _ _ _ _ _ r h => by simp [hindsightref02_And.j0] at h
 | k + 1 => by
  have ih0 := hindsightref02_And.mono_l k
  ·intro y0 y1 y2 y3 y4 y5 y6
   unfold hindsightref02_And.j0
   repeat' first
   | (with_reducible exact ih0 _ _ _ _ _ _ _)
   | (with_reducible exact LeO.refl _)
   | (with_reducible exact LeO.none _)
   | (with_reducible refine LeO.ite ?_ ?_)
   | (with_reducible refine LeO.bind ?_ (fun _ => ?_))
   | exact ih0 _ _ _ _ _ _ _
   | exact LeO.none _
   | refine LeO.ite ?_ ?_
   | refine LeO.bind ?_ (fun _ => ?_)
theorem hindsightref02_And.mono : ∀ a0 a1 a2 a3 a4 a5 k, LeO (hindsightref02_And.f k a0 a1 a2 a3 a4 a5) (hindsightref02_And.f (k + 1) a0 a1 a2 a3 a4 a5) := by
 intro a0 a1 a2 a3 a4 a5 k
 have ih0 := hindsightref02_And.mono_l k
 unfold hindsightref02_And.f
 repeat' first
   | (with_reducible exact ih0 _ _ _ _ _ _ _)
   | (with_reducible exact LeO.refl _)
   | (with_reducible exact LeO.none _)
   | (with_reducible refine LeO.ite ?_ ?_)
   | (with_reducible refine LeO.bind ?_ (fun _ => ?_))
   | exact ih0 _ _ _ _ _ _ _
   | exact LeO.none _
   | refine LeO.ite ?_ ?_
   | refine LeO.bind ?_ (fun _ => ?_)
set_option maxHeartbeats 8000000 in
set_option maxRecDepth 100000 in
theorem hindsightref02_And.calls (k : Nat) (a0_0 : Int) (a0_1 : Int) (a0_2 : ByteArray) (a1_0 : Int) (a1_1 : Int) (a1_2 : ByteArray) (r1 : Int) (r2 : Int) (r3 : ByteArray) (r4 : Int) (w : World) (h : hindsightref02_And.f k a0_0 a0_1 a0_2 a1_0 a1_1 a1_2 = some (r1, r2, r3, r4)) :
  Calls Try.prog 38 #[.agg #[.int .u8 a0_0, .int .i64 a0_1, .string a0_2], .agg #[.int .u8 a1_0, .int .i64 a1_1, .string a1_2]] w fun e w' => e = .returned (.tuple #[.agg #[.int .u8 r1, .int .i64 r2, .string r3], .int .i64 r4]) ∧ Below w.heap.size w w' := by
 have hu35 := Try.underlying35
 have HB := aM38 (Below.refl w.heap.size w)
 have H : ((hindsightref02_Right.f a0_0 a0_1 a0_2).bind fun t368 => (if t368 = true then ((hindsightref02_Right.f a1_0 a1_1 a1_2).bind fun t369 => (hindsightref02_And.j0 k (!t369) a0_0 a0_1 a0_2 a1_0 a1_1 a1_2)) else (hindsightref02_And.j0 k true a0_0 a0_1 a0_2 a1_0 a1_1 a1_2))) = some (r1, r2, r3, r4) := h
 clear h
 have HC3 := aM38 H
 clear H
 go_enter Try.func38, Try.ntmps38
 go_upto_region 1 with (first | ((with_reducible refine gate_dst (N := 2) rfl ?_); refine box_event ?hg (N := 2) ?hd (cs := #[.int .u8 a0_0, .int .i64 a0_1, .string a0_2]) (t := 35) ?hr ?_; (case hd => rfl); (case hg => rfl); (case hr => first | (go_simp; done) | (go_simp; rfl)); intro gb365 hg w4 hbox hb; have n0_ := aM38 (below_step (by repeat (first | (with_reducible first | exact HB.out | apply below_alloc | apply pw_below_drewN | apply below_drew1) | exact HB.out)) hb); have n1_ := aM38 (hbox); have n2_ := aM38 ((by rw [hg]; exact (below_size (by repeat (first | (with_reducible first | exact HB.out | apply below_alloc | apply pw_below_drewN | apply below_drew1) | exact HB.out))) : w.heap.size ≤ gb365)); have n3_ := aM38 ((by rw [hg]; exact (below_size (by repeat (first | (with_reducible first | exact HB.out | apply below_alloc | apply pw_below_drewN | apply below_drew1) | exact HB.out))) : w.heap.size ≤ gb365)); clear HB; have HB := n0_; have BK365 := n1_; have GW365 := n2_; have GE365 := n3_; clear n0_ n1_ n2_ n3_; clear hb hbox hg) | ((with_reducible refine gate_dst (N := 3) rfl ?_); refine box_event ?hg (N := 3) ?hd (cs := #[.int .u8 a1_0, .int .i64 a1_1, .string a1_2]) (t := 35) ?hr ?_; (case hd => rfl); (case hg => rfl); (case hr => first | (go_simp; done) | (go_simp; rfl)); intro gb366 hg w5 hbox hb; have n0_ := aM38 (blk_below (g := gb365) (o := .cells #[.int .u8 a0_0, .int .i64 a0_1, .string a0_2] 35 (0, 0)) (by (with_reducible repeat (first | refine bN38 ?_ _ | refine bD38 ?_ | refine bA38 ?_ _)); exact BK365.out) hb); have n1_ := aM38 (below_step (by repeat (first | (with_reducible first | exact HB.out | apply below_alloc | apply pw_below_drewN | apply below_drew1 | refine bS38 ?_ GE365.out) | exact HB.out)) hb); have n2_ := aM38 (hbox); have n3_ := aM38 ((by rw [hg]; exact (below_size (by repeat (first | (with_reducible first | exact HB.out | apply below_alloc | apply pw_below_drewN | apply below_drew1 | refine bS38 ?_ GE365.out) | exact HB.out))) : w.heap.size ≤ gb366)); have n4_ := aM38 ((by rw [hg]; exact (below_size (by repeat (first | (with_reducible first | exact HB.out | apply below_alloc | apply pw_below_drewN | apply below_drew1 | refine bS38 ?_ GE365.out) | exact HB.out))) : w.heap.size ≤ gb366)); have n5_ := aM38 ((by rw [hg]; exact Nat.ne_of_lt (blk_lt (g := gb365) (o := .cells #[.int .u8 a0_0, .int .i64 a0_1, .string a0_2] 35 (0, 0)) (by (with_reducible repeat (first | refine bN38 ?_ _ | refine bD38 ?_ | refine bA38 ?_ _)); exact BK365.out)) : gb365 ≠ gb366)); have n6_ := aM38 ((by rw [hg]; exact Nat.ne_of_gt (blk_lt (g := gb365) (o := .cells #[.int .u8 a0_0, .int .i64 a0_1, .string a0_2] 35 (0, 0)) (by (with_reducible repeat (first | refine bN38 ?_ _ | refine bD38 ?_ | refine bA38 ?_ _)); exact BK365.out)) : gb366 ≠ gb365)); clear BK365; clear HB; have BK365 := n0_; have HB := n1_; have BK366 := n2_; have GW366 := n3_; have GE366 := n4_; have NB365_366 := n5_; have NB366_365 := n6_; clear n0_ n1_ n2_ n3_ n4_ n5_ n6_; clear hb hbox hg) | ((with_reducible refine gate_dst (N := 4) rfl ?_); refine box_event ?hg (N := 4) ?hd (cs := #[.int .u8 0, .int .i64 0, .string (⟨#[]⟩ : ByteArray)]) (t := 35) ?hr ?_; (case hd => rfl); (case hg => rfl); (case hr => first | (go_simp; done) | (go_simp; rfl)); intro gb367 hg w6 hbox hb; have n0_ := aM38 (blk_below (g := gb365) (o := .cells #[.int .u8 a0_0, .int .i64 a0_1, .string a0_2] 35 (0, 0)) (by (with_reducible repeat (first | refine bN38 ?_ _ | refine bD38 ?_ | refine bA38 ?_ _)); exact BK365.out) hb); have n1_ := aM38 (blk_below (g := gb366) (o := .cells #[.int .u8 a1_0, .int .i64 a1_1, .string a1_2] 35 (0, 0)) (by (with_reducible repeat (first | refine bN38 ?_ _ | refine bD38 ?_ | refine bA38 ?_ _)); exact BK366.out) hb); have n2_ := aM38 (below_step (by repeat (first | (with_reducible first | exact HB.out | apply below_alloc | apply pw_below_drewN | apply below_drew1 | refine bS38 ?_ GE365.out | refine bS38 ?_ GE366.out) | exact HB.out)) hb); have n3_ := aM38 (hbox); have n4_ := aM38 ((by rw [hg]; exact (below_size (by repeat (first | (with_reducible first | exact HB.out | apply below_alloc | apply pw_below_drewN | apply below_drew1 | refine bS38 ?_ GE365.out | refine bS38 ?_ GE366.out) | exact HB.out))) : w.heap.size ≤ gb367)); have n5_ := aM38 ((by rw [hg]; exact (below_size (by repeat (first | (with_reducible first | exact HB.out | apply below_alloc | apply pw_below_drewN | apply below_drew1 | refine bS38 ?_ GE365.out | refine bS38 ?_ GE366.out) | exact HB.out))) : w.heap.size ≤ gb367)); have n6_ := aM38 ((by rw [hg]; exact Nat.ne_of_lt (blk_lt (g := gb365) (o := .cells #[.int .u8 a0_0, .int .i64 a0_1, .string a0_2] 35 (0, 0)) (by (with_reducible repeat (first | refine bN38 ?_ _ | refine bD38 ?_ | refine bA38 ?_ _)); exact BK365.out)) : gb365 ≠ gb367)); have n7_ := aM38 ((by rw [hg]; exact Nat.ne_of_gt (blk_lt (g := gb365) (o := .cells #[.int .u8 a0_0, .int .i64 a0_1, .string a0_2] 35 (0, 0)) (by (with_reducible repeat (first | refine bN38 ?_ _ | refine bD38 ?_ | refine bA38 ?_ _)); exact BK365.out)) : gb367 ≠ gb365)); have n8_ := aM38 ((by rw [hg]; exact Nat.ne_of_lt (blk_lt (g := gb366) (o := .cells #[.int .u8 a1_0, .int .i64 a1_1, .string a1_2] 35 (0, 0)) (by (with_reducible repeat (first | refine bN38 ?_ _ | refine bD38 ?_ | refine bA38 ?_ _)); exact BK366.out)) : gb366 ≠ gb367)); have n9_ := aM38 ((by rw [hg]; exact Nat.ne_of_gt (blk_lt (g := gb366) (o := .cells #[.int .u8 a1_0, .int .i64 a1_1, .string a1_2] 35 (0, 0)) (by (with_reducible repeat (first | refine bN38 ?_ _ | refine bD38 ?_ | refine bA38 ?_ _)); exact BK366.out)) : gb367 ≠ gb366)); clear BK365; clear BK366; clear HB; have BK365 := n0_; have BK366 := n1_; have HB := n2_; have BK367 := n3_; have GW367 := n4_; have GE367 := n5_; have NB365_367 := n6_; have NB367_365 := n7_; have NB366_367 := n8_; have NB367_366 := n9_; clear n0_ n1_ n2_ n3_ n4_ n5_ n6_ n7_ n8_ n9_; clear hb hbox hg))
 (try simp only [Act.put, List.setIfInBounds_toArray, List.set_cons_zero, List.set_cons_succ])
 go_cut [18] (fun v18 wc => ∃ (kq : Nat) (x18_2 : Bool), v18 = .bool x18_2 ∧ Aside0 (hindsightref02_And.j0 kq x18_2 a0_0 a0_1 a0_2 a1_0 a1_1 a1_2 = some (r1, r2, r3, r4)) ∧ Aside0 (kq ≤ k) ∧ Aside0 (wc.heap[gb365]? = some (.cells #[.int .u8 a0_0, .int .i64 a0_1, .string a0_2] 35 (0, 0))) ∧ Aside0 (wc.heap[gb366]? = some (.cells #[.int .u8 a1_0, .int .i64 a1_1, .string a1_2] 35 (0, 0))) ∧ Aside0 (wc.heap[gb367]? = some (.cells #[.int .u8 0, .int .i64 0, .string (⟨#[]⟩ : ByteArray)] 35 (0, 0))) ∧ Aside0 (Below w.heap.size w wc))
 case first =>
  have H := HC3.out
  clear HC3
  replace H := Option.bind_eq_some_iff.mp H
  obtain ⟨t368, A70, H⟩ := H
  replace H : (if t368 = true then ((hindsightref02_Right.f a1_0 a1_1 a1_2).bind fun t369 => (hindsightref02_And.j0 k (!t369) a0_0 a0_1 a0_2 a1_0 a1_1 a1_2)) else (hindsightref02_And.j0 k true a0_0 a0_1 a0_2 a1_0 a1_1 a1_2)) = some (r1, r2, r3, r4) := H
  have A7 := aM38 A70
  clear A70
  by_cases c8 : t368 = true
  ·subst c8
   have H1 : ((hindsightref02_Right.f a1_0 a1_1 a1_2).bind fun t369 => (hindsightref02_And.j0 k (!t369) a0_0 a0_1 a0_2 a1_0 a1_1 a1_2)) = some (r1, r2, r3, r4) := by rw [if_pos rfl] at H; exact H
   clear H
   have H := H1
   clear H1
   replace H := Option.bind_eq_some_iff.mp H
   obtain ⟨t369, A90, H⟩ := H
   replace H : (hindsightref02_And.j0 k (!t369) a0_0 a0_1 a0_2 a1_0 a1_1 a1_2) = some (r1, r2, r3, r4) := H
   have A9 := aM38 A90
   clear A90
   have H' := aM38 H
   clear H
   have hnb10 := NB365_366.out
   have hnc10 := NB366_365.out
   have hnb11 := NB365_367.out
   have hnc11 := NB367_365.out
   have hcz12_0 : w6.cell? ⟨gb365, 0, none⟩ = some (.int .u8 a0_0) := (blk_cell BK365.out 0).trans rfl
   have hcz12_1 : w6.cell? ⟨gb365, 1, none⟩ = some (.int .i64 a0_1) := (blk_cell BK365.out 1).trans rfl
   have hcz12_2 : w6.cell? ⟨gb365, 2, none⟩ = some (.string a0_2) := (blk_cell BK365.out 2).trans rfl
   have hfz12_0 := blk_frozen BK365.out 0
   have hfz12_1 := blk_frozen BK365.out 1
   have hfz12_2 := blk_frozen BK365.out 2
   go_wp2_with (first | ((with_reducible refine gate_callee (f := 28) rfl ?_); refine goesL_ (some 12) rfl rfl Try.func28 (by kernel_rfl) rfl #[.agg #[.int .u8 a0_0, .int .i64 a0_1, .string a0_2]] rfl (by (try simp only [List.map_toArray, List.map_cons, List.map_nil]); first | done | rfl | (simp only [List.length_drop, List.length_take]; rfl)) ?_; (with_reducible refine (hindsightref02_Right.calls a0_0 a0_1 a0_2 true _ A7.out).mono ?_); rintro e w13 ⟨rfl, hb⟩; refine ⟨_, rfl, ?_⟩; have n0_ := aM38 (blk_below (g := gb365) (o := .cells #[.int .u8 a0_0, .int .i64 a0_1, .string a0_2] 35 (0, 0)) (by (with_reducible repeat (first | refine bN38 ?_ _ | refine bD38 ?_ | refine bA38 ?_ _)); exact BK365.out) hb); have n1_ := aM38 (blk_below (g := gb366) (o := .cells #[.int .u8 a1_0, .int .i64 a1_1, .string a1_2] 35 (0, 0)) (by (with_reducible repeat (first | refine bN38 ?_ _ | refine bD38 ?_ | refine bA38 ?_ _)); exact BK366.out) hb); have n2_ := aM38 (blk_below (g := gb367) (o := .cells #[.int .u8 0, .int .i64 0, .string (⟨#[]⟩ : ByteArray)] 35 (0, 0)) (by (with_reducible repeat (first | refine bN38 ?_ _ | refine bD38 ?_ | refine bA38 ?_ _)); exact BK367.out) hb); have n3_ := aM38 (below_step (by repeat (first | (with_reducible first | exact HB.out | apply below_alloc | apply pw_below_drewN | apply below_drew1 | refine bS38 ?_ GE365.out | refine bS38 ?_ GE366.out | refine bS38 ?_ GE367.out) | exact HB.out)) hb); clear BK365; clear BK366; clear BK367; clear HB; have BK365 := n0_; have BK366 := n1_; have BK367 := n2_; have HB := n3_; clear n0_ n1_ n2_ n3_; (try clear hb); (try clear hb2); (try clear hk); (try clear hi); have hnb14 := NB366_367.out; have hnc14 := NB367_366.out; have hcz15_0 : w13.cell? ⟨gb366, 0, none⟩ = some (.int .u8 a1_0) := (blk_cell BK366.out 0).trans rfl; have hcz15_1 : w13.cell? ⟨gb366, 1, none⟩ = some (.int .i64 a1_1) := (blk_cell BK366.out 1).trans rfl; have hcz15_2 : w13.cell? ⟨gb366, 2, none⟩ = some (.string a1_2) := (blk_cell BK366.out 2).trans rfl; have hfz15_0 := blk_frozen BK366.out 0; have hfz15_1 := blk_frozen BK366.out 1; have hfz15_2 := blk_frozen BK366.out 2) | (go_at_call 28; (with_reducible refine (hindsightref02_Right.calls a1_0 a1_1 a1_2 t369 _ A9.out).mono ?_); rintro e w16 ⟨rfl, hb⟩; have n0_ := aM38 (blk_below (g := gb365) (o := .cells #[.int .u8 a0_0, .int .i64 a0_1, .string a0_2] 35 (0, 0)) (by (with_reducible repeat (first | refine bN38 ?_ _ | refine bD38 ?_ | refine bA38 ?_ _)); exact BK365.out) hb); have n1_ := aM38 (blk_below (g := gb366) (o := .cells #[.int .u8 a1_0, .int .i64 a1_1, .string a1_2] 35 (0, 0)) (by (with_reducible repeat (first | refine bN38 ?_ _ | refine bD38 ?_ | refine bA38 ?_ _)); exact BK366.out) hb); have n2_ := aM38 (blk_below (g := gb367) (o := .cells #[.int .u8 0, .int .i64 0, .string (⟨#[]⟩ : ByteArray)] 35 (0, 0)) (by (with_reducible repeat (first | refine bN38 ?_ _ | refine bD38 ?_ | refine bA38 ?_ _)); exact BK367.out) hb); have n3_ := aM38 (below_step (by repeat (first | (with_reducible first | exact HB.out | apply below_alloc | apply pw_below_drewN | apply below_drew1 | refine bS38 ?_ GE365.out | refine bS38 ?_ GE366.out | refine bS38 ?_ GE367.out) | exact HB.out)) hb); clear BK365; clear BK366; clear BK367; clear HB; have BK365 := n0_; have BK366 := n1_; have BK367 := n2_; have HB := n3_; clear n0_ n1_ n2_ n3_; (try clear hb); (try clear hb2); (try clear hk); (try clear hi)))
   go_meet
   case rel => exact ⟨_, (!t369), (by first | rfl | (simp; done) | (simp [*]; done)), H', ⟨by first | omega | exact Nat.le_refl _⟩, ⟨by (with_reducible repeat (first | refine bN38 ?_ _ | refine bD38 ?_ | refine bA38 ?_ _)); exact BK365.out⟩, ⟨by (with_reducible repeat (first | refine bN38 ?_ _ | refine bD38 ?_ | refine bA38 ?_ _)); exact BK366.out⟩, ⟨by (with_reducible repeat (first | refine bN38 ?_ _ | refine bD38 ?_ | refine bA38 ?_ _)); exact BK367.out⟩, ⟨by repeat (first | (with_reducible first | exact HB.out | apply below_alloc | apply pw_below_drewN | apply below_drew1 | refine bS38 ?_ GE365.out | refine bS38 ?_ GE366.out | refine bS38 ?_ GE367.out) | exact HB.out)⟩⟩
  ·replace c8 := Bool.eq_false_iff.mpr c8
   subst c8
   have H1 : (hindsightref02_And.j0 k true a0_0 a0_1 a0_2 a1_0 a1_1 a1_2) = some (r1, r2, r3, r4) := by rw [if_neg (show ¬ (false = true) by decide)] at H; exact H
   clear H
   have H := H1
   clear H1
   have H' := aM38 H
   clear H
   have hnb17 := NB365_366.out
   have hnc17 := NB366_365.out
   have hnb18 := NB365_367.out
   have hnc18 := NB367_365.out
   have hcz19_0 : w6.cell? ⟨gb365, 0, none⟩ = some (.int .u8 a0_0) := (blk_cell BK365.out 0).trans rfl
   have hcz19_1 : w6.cell? ⟨gb365, 1, none⟩ = some (.int .i64 a0_1) := (blk_cell BK365.out 1).trans rfl
   have hcz19_2 : w6.cell? ⟨gb365, 2, none⟩ = some (.string a0_2) := (blk_cell BK365.out 2).trans rfl
   have hfz19_0 := blk_frozen BK365.out 0
   have hfz19_1 := blk_frozen BK365.out 1
   have hfz19_2 := blk_frozen BK365.out 2
   go_wp2_with (first | ((with_reducible refine gate_callee (f := 28) rfl ?_); refine goesL_ (some 12) rfl rfl Try.func28 (by kernel_rfl) rfl #[.agg #[.int .u8 a0_0, .int .i64 a0_1, .string a0_2]] rfl (by (try simp only [List.map_toArray, List.map_cons, List.map_nil]); first | done | rfl | (simp only [List.length_drop, List.length_take]; rfl)) ?_; (with_reducible refine (hindsightref02_Right.calls a0_0 a0_1 a0_2 false _ A7.out).mono ?_); rintro e w20 ⟨rfl, hb⟩; refine ⟨_, rfl, ?_⟩; have n0_ := aM38 (blk_below (g := gb365) (o := .cells #[.int .u8 a0_0, .int .i64 a0_1, .string a0_2] 35 (0, 0)) (by (with_reducible repeat (first | refine bN38 ?_ _ | refine bD38 ?_ | refine bA38 ?_ _)); exact BK365.out) hb); have n1_ := aM38 (blk_below (g := gb366) (o := .cells #[.int .u8 a1_0, .int .i64 a1_1, .string a1_2] 35 (0, 0)) (by (with_reducible repeat (first | refine bN38 ?_ _ | refine bD38 ?_ | refine bA38 ?_ _)); exact BK366.out) hb); have n2_ := aM38 (blk_below (g := gb367) (o := .cells #[.int .u8 0, .int .i64 0, .string (⟨#[]⟩ : ByteArray)] 35 (0, 0)) (by (with_reducible repeat (first | refine bN38 ?_ _ | refine bD38 ?_ | refine bA38 ?_ _)); exact BK367.out) hb); have n3_ := aM38 (below_step (by repeat (first | (with_reducible first | exact HB.out | apply below_alloc | apply pw_below_drewN | apply below_drew1 | refine bS38 ?_ GE365.out | refine bS38 ?_ GE366.out | refine bS38 ?_ GE367.out) | exact HB.out)) hb); clear BK365; clear BK366; clear BK367; clear HB; have BK365 := n0_; have BK366 := n1_; have BK367 := n2_; have HB := n3_; clear n0_ n1_ n2_ n3_; (try clear hb); (try clear hb2); (try clear hk); (try clear hi)))
   go_meet
   case rel => exact ⟨_, (true), (by first | rfl | (simp; done) | (simp [*]; done)), H', ⟨by first | omega | exact Nat.le_refl _⟩, ⟨by (with_reducible repeat (first | refine bN38 ?_ _ | refine bD38 ?_ | refine bA38 ?_ _)); exact BK365.out⟩, ⟨by (with_reducible repeat (first | refine bN38 ?_ _ | refine bD38 ?_ | refine bA38 ?_ _)); exact BK366.out⟩, ⟨by (with_reducible repeat (first | refine bN38 ?_ _ | refine bD38 ?_ | refine bA38 ?_ _)); exact BK367.out⟩, ⟨by repeat (first | (with_reducible first | exact HB.out | apply below_alloc | apply pw_below_drewN | apply below_drew1 | refine bS38 ?_ GE365.out | refine bS38 ?_ GE366.out | refine bS38 ?_ GE367.out) | exact HB.out)⟩⟩
 case rest =>
  clear HC3
  try clear c1
  try clear c2
  try clear p2
  try clear c3
  try clear c8
  try clear c10
  try clear c11
  try clear c14
  try clear c17
  try clear c18
  try clear hcz12_0
  try clear hcz12_1
  try clear hcz12_2
  try clear hcz15_0
  try clear hcz15_1
  try clear hcz15_2
  try clear hcz19_0
  try clear hcz19_1
  try clear hcz19_2
  try clear hfz12_0
  try clear hfz12_1
  try clear hfz12_2
  try clear hfz15_0
  try clear hfz15_1
  try clear hfz15_2
  try clear hfz19_0
  try clear hfz19_1
  try clear hfz19_2
  obtain ⟨kq, x18_2, rfl, HA, HJ2, BK365, BK366, BK367, HB⟩ := hcut
  cases kq with
  | zero => exact absurd HA.out (by simp [hindsightref02_And.j0])
  | succ kj2 =>
   have H := HA.out
   clear HA
   simp only [hindsightref02_And.j0] at H
   by_cases c21 : x18_2 = true
   ·subst c21
    have H1 : (some (0, 0, (⟨#[]⟩ : ByteArray), 3)) = some (r1, r2, r3, r4) := by rw [if_pos rfl] at H; exact H
    clear H
    have H := H1
    clear H1
    simp only [Option.some.injEq, Prod.mk.injEq] at H
    obtain ⟨rfl, rfl, rfl, rfl⟩ := H
    have hnb22 := NB367_365.out
    have hnc22 := NB365_367.out
    have hnb23 := NB367_366.out
    have hnc23 := NB366_367.out
    have hcz24_0 : wc.cell? ⟨gb367, 0, none⟩ = some (.int .u8 0) := (blk_cell BK367.out 0).trans rfl
    have hcz24_1 : wc.cell? ⟨gb367, 1, none⟩ = some (.int .i64 0) := (blk_cell BK367.out 1).trans rfl
    have hcz24_2 : wc.cell? ⟨gb367, 2, none⟩ = some (.string (⟨#[]⟩ : ByteArray)) := (blk_cell BK367.out 2).trans rfl
    have hfz24_0 := blk_frozen BK367.out 0
    have hfz24_1 := blk_frozen BK367.out 1
    have hfz24_2 := blk_frozen BK367.out 2
    go_wp2
    refine bodyPost_ret (results_ct rfl _ _ gb367 35 #[.int .u8 0, .int .i64 0, .string (⟨#[]⟩ : ByteArray)] (0, 0) _ rfl (by (with_reducible repeat (first | refine bN38 ?_ _ | refine bD38 ?_ | refine bA38 ?_ _)); refine blk_put (cs := #[.int .u8 0, .int .i64 0, .string (⟨#[]⟩ : ByteArray)]) ?_ 2 _ rfl; (with_reducible repeat (first | refine bN38 ?_ _ | refine bD38 ?_ | refine bA38 ?_ _)); refine blk_put (cs := #[.int .u8 0, .int .i64 0, .string (⟨#[]⟩ : ByteArray)]) ?_ 1 _ rfl; (with_reducible repeat (first | refine bN38 ?_ _ | refine bD38 ?_ | refine bA38 ?_ _)); refine blk_put (cs := #[.int .u8 0, .int .i64 0, .string (⟨#[]⟩ : ByteArray)]) ?_ 0 _ rfl; (with_reducible repeat (first | refine bN38 ?_ _ | refine bD38 ?_ | refine bA38 ?_ _)); exact BK367.out) Try.underlying35 rfl (by kernel_rfl)) rfl ?_
    exact ⟨by first | rfl | (simp [errW_none, errW_some] <;> rfl) | (simp [*, errW_none, errW_some] <;> rfl), by repeat (first | (with_reducible first | exact HB.out | apply below_alloc | apply pw_below_drewN | apply below_drew1 | refine bS38 ?_ GE365.out | refine bS38 ?_ GE366.out | refine bS38 ?_ GE367.out) | exact HB.out)⟩
   ·replace c21 := Bool.eq_false_iff.mpr c21
    subst c21
    have H1 : ((hindsightref02_Truth.f a0_0 a0_1 a0_2).bind fun bt370 => ((hindsightref02_Truth.f a1_0 a1_1 a1_2).bind fun bt372 => (if bt370.2 = 0 then (if bt372.2 = 0 then ((some (([0, 0, 0, 0, 1, 2, 0, 2, 2] : List Int) : List Int)).bind fun y374 => (if 0 ≤ (wrap64 ((wrap64 (3 * bt370.1)) + bt372.1)) then (if (wrap64 ((wrap64 (3 * bt370.1)) + bt372.1)) < (y374.length : Int) then ((hindsightref02_Of.f (rd y374 (wrap64 ((wrap64 (3 * bt370.1)) + bt372.1)))).bind fun bt378 => (some (bt378.1, bt378.2.1, bt378.2.2, 0))) else (none)) else (none))) else (some (0, 0, (⟨#[]⟩ : ByteArray), 20))) else (some (0, 0, (⟨#[]⟩ : ByteArray), 20))))) = some (r1, r2, r3, r4) := by rw [if_neg (show ¬ (false = true) by decide)] at H; exact H
    clear H
    have H := H1
    clear H1
    replace H := Option.bind_eq_some_iff.mp H
    obtain ⟨⟨t370, t371⟩, A250, H⟩ := H
    replace H : ((hindsightref02_Truth.f a1_0 a1_1 a1_2).bind fun bt372 => (if t371 = 0 then (if bt372.2 = 0 then ((some (([0, 0, 0, 0, 1, 2, 0, 2, 2] : List Int) : List Int)).bind fun y374 => (if 0 ≤ (wrap64 ((wrap64 (3 * t370)) + bt372.1)) then (if (wrap64 ((wrap64 (3 * t370)) + bt372.1)) < (y374.length : Int) then ((hindsightref02_Of.f (rd y374 (wrap64 ((wrap64 (3 * t370)) + bt372.1)))).bind fun bt378 => (some (bt378.1, bt378.2.1, bt378.2.2, 0))) else (none)) else (none))) else (some (0, 0, (⟨#[]⟩ : ByteArray), 20))) else (some (0, 0, (⟨#[]⟩ : ByteArray), 20)))) = some (r1, r2, r3, r4) := H
    have A25 := aM38 A250
    clear A250
    replace H := Option.bind_eq_some_iff.mp H
    obtain ⟨⟨t372, t373⟩, A260, H⟩ := H
    replace H : (if t371 = 0 then (if t373 = 0 then ((some (([0, 0, 0, 0, 1, 2, 0, 2, 2] : List Int) : List Int)).bind fun y374 => (if 0 ≤ (wrap64 ((wrap64 (3 * t370)) + t372)) then (if (wrap64 ((wrap64 (3 * t370)) + t372)) < (y374.length : Int) then ((hindsightref02_Of.f (rd y374 (wrap64 ((wrap64 (3 * t370)) + t372)))).bind fun bt378 => (some (bt378.1, bt378.2.1, bt378.2.2, 0))) else (none)) else (none))) else (some (0, 0, (⟨#[]⟩ : ByteArray), 20))) else (some (0, 0, (⟨#[]⟩ : ByteArray), 20))) = some (r1, r2, r3, r4) := H
    have A26 := aM38 A260
    clear A260
    by_cases c27 : t371 = 0
    ·rw [if_pos c27] at H
     have c27b0 : (t371 == 0) = true := beq_iff_eq.mpr c27
     have c27b1 : (t371 != 0) = false := bne_eq_false_iff_eq.mpr c27
     clear c27
     by_cases c28 : t373 = 0
     ·rw [if_pos c28] at H
      have c28b0 : (t373 == 0) = true := beq_iff_eq.mpr c28
      have c28b1 : (t373 != 0) = false := bne_eq_false_iff_eq.mpr c28
      clear c28
      obtain ⟨y374, hy374⟩ : ∃ y_ : List Int, y_ = (([0, 0, 0, 0, 1, 2, 0, 2, 2] : List Int)) := ⟨_, rfl⟩
      replace H : (if 0 ≤ (wrap64 ((wrap64 (3 * t370)) + t372)) then (if (wrap64 ((wrap64 (3 * t370)) + t372)) < (y374.length : Int) then ((hindsightref02_Of.f (rd y374 (wrap64 ((wrap64 (3 * t370)) + t372)))).bind fun bt378 => (some (bt378.1, bt378.2.1, bt378.2.2, 0))) else (none)) else (none)) = some (r1, r2, r3, r4) := by first | (rw [hy374]; with_reducible exact H) | (have H2_ := (Option.bind_some _ _).symm.trans H; rw [hy374]; with_reducible exact H2_) | (have H2_ := (Option.bind_some _ _).symm.trans H; with_reducible exact H2_) | with_reducible exact H | (rw [hy374]; exact H) | exact H
      have Ny374 := aM38 hy374
      clear hy374
      obtain ⟨ji29, hji29⟩ : ∃ j_ : Int, (wrap64 ((wrap64 (3 * t370)) + t372)) = j_ := ⟨_, rfl⟩
      replace H : (if 0 ≤ (ji29) then (if (ji29) < (y374.length : Int) then ((hindsightref02_Of.f (rd y374 (ji29))).bind fun bt378 => (some (bt378.1, bt378.2.1, bt378.2.2, 0))) else (none)) else (none)) = some (r1, r2, r3, r4) := by first | (rw [hji29] at H; exact H) | (simp only [hji29] at H ⊢; exact H)
      (try rw [hji29] at A25)
      (try rw [hji29] at A26)
      have hji29w : (IntKind.i64.wrap ((wrap64 (3 * t370)) + t372)) = ji29 := (i64_w _).trans hji29
      by_cases c30 : 0 ≤ (ji29)
      ·rw [if_pos c30] at H
       have c30b0 : decide (0 ≤ (ji29)) = true := decide_eq_true c30
       clear c30
       by_cases c31 : (ji29) < (y374.length : Int)
       ·rw [if_pos c31] at H
        have c31b0 : decide ((ji29) < (y374.length : Int)) = true := decide_eq_true c31
        clear c31
        replace H := Option.bind_eq_some_iff.mp H
        obtain ⟨⟨t378, t379, t380⟩, A320, H⟩ := H
        replace H : (some (t378, t379, t380, 0)) = some (r1, r2, r3, r4) := H
        have A32 := aM38 A320
        clear A320
        simp only [Option.some.injEq, Prod.mk.injEq] at H
        obtain ⟨rfl, rfl, rfl, rfl⟩ := H
        have hnb33 := NB365_366.out
        have hnc33 := NB366_365.out
        have hnb34 := NB365_367.out
        have hnc34 := NB367_365.out
        have hcz35_0 : wc.cell? ⟨gb365, 0, none⟩ = some (.int .u8 a0_0) := (blk_cell BK365.out 0).trans rfl
        have hcz35_1 : wc.cell? ⟨gb365, 1, none⟩ = some (.int .i64 a0_1) := (blk_cell BK365.out 1).trans rfl
        have hcz35_2 : wc.cell? ⟨gb365, 2, none⟩ = some (.string a0_2) := (blk_cell BK365.out 2).trans rfl
        have hfz35_0 := blk_frozen BK365.out 0
        have hfz35_1 := blk_frozen BK365.out 1
        have hfz35_2 := blk_frozen BK365.out 2
        go_wp2_with (first | ((with_reducible refine gate_callee (f := 42) rfl ?_); refine goesL_ (some 22) rfl rfl Try.func42 (by kernel_rfl) rfl #[.agg #[.int .u8 a0_0, .int .i64 a0_1, .string a0_2]] rfl (by (try simp only [List.map_toArray, List.map_cons, List.map_nil]); first | done | rfl | (simp only [List.length_drop, List.length_take]; rfl)) ?_; (with_reducible refine (hindsightref02_Truth.calls a0_0 a0_1 a0_2 t370 t371 _ A25.out).mono ?_); rintro e w36 ⟨rfl, hb⟩; refine ⟨_, rfl, ?_⟩; have n0_ := aM38 (blk_below (g := gb365) (o := .cells #[.int .u8 a0_0, .int .i64 a0_1, .string a0_2] 35 (0, 0)) (by (with_reducible repeat (first | refine bN38 ?_ _ | refine bD38 ?_ | refine bA38 ?_ _)); exact BK365.out) hb); have n1_ := aM38 (blk_below (g := gb366) (o := .cells #[.int .u8 a1_0, .int .i64 a1_1, .string a1_2] 35 (0, 0)) (by (with_reducible repeat (first | refine bN38 ?_ _ | refine bD38 ?_ | refine bA38 ?_ _)); exact BK366.out) hb); have n2_ := aM38 (blk_below (g := gb367) (o := .cells #[.int .u8 0, .int .i64 0, .string (⟨#[]⟩ : ByteArray)] 35 (0, 0)) (by (with_reducible repeat (first | refine bN38 ?_ _ | refine bD38 ?_ | refine bA38 ?_ _)); exact BK367.out) hb); have n3_ := aM38 (below_step (by repeat (first | (with_reducible first | exact HB.out | apply below_alloc | apply pw_below_drewN | apply below_drew1 | refine bS38 ?_ GE365.out | refine bS38 ?_ GE366.out | refine bS38 ?_ GE367.out) | exact HB.out)) hb); clear BK365; clear BK366; clear BK367; clear HB; have BK365 := n0_; have BK366 := n1_; have BK367 := n2_; have HB := n3_; clear n0_ n1_ n2_ n3_; (try clear hb); (try clear hb2); (try clear hk); (try clear hi); have hnb37 := NB366_367.out; have hnc37 := NB367_366.out; have hcz38_0 : w36.cell? ⟨gb366, 0, none⟩ = some (.int .u8 a1_0) := (blk_cell BK366.out 0).trans rfl; have hcz38_1 : w36.cell? ⟨gb366, 1, none⟩ = some (.int .i64 a1_1) := (blk_cell BK366.out 1).trans rfl; have hcz38_2 : w36.cell? ⟨gb366, 2, none⟩ = some (.string a1_2) := (blk_cell BK366.out 2).trans rfl; have hfz38_0 := blk_frozen BK366.out 0; have hfz38_1 := blk_frozen BK366.out 1; have hfz38_2 := blk_frozen BK366.out 2) | ((with_reducible refine gate_callee (f := 42) rfl ?_); refine goesL_ (some 27) rfl rfl Try.func42 (by kernel_rfl) rfl #[.agg #[.int .u8 a1_0, .int .i64 a1_1, .string a1_2]] rfl (by (try simp only [List.map_toArray, List.map_cons, List.map_nil]); first | done | rfl | (simp only [List.length_drop, List.length_take]; rfl)) ?_; (with_reducible refine (hindsightref02_Truth.calls a1_0 a1_1 a1_2 t372 t373 _ A26.out).mono ?_); rintro e w39 ⟨rfl, hb⟩; refine ⟨_, rfl, ?_⟩; have n0_ := aM38 (blk_below (g := gb365) (o := .cells #[.int .u8 a0_0, .int .i64 a0_1, .string a0_2] 35 (0, 0)) (by (with_reducible repeat (first | refine bN38 ?_ _ | refine bD38 ?_ | refine bA38 ?_ _)); exact BK365.out) hb); have n1_ := aM38 (blk_below (g := gb366) (o := .cells #[.int .u8 a1_0, .int .i64 a1_1, .string a1_2] 35 (0, 0)) (by (with_reducible repeat (first | refine bN38 ?_ _ | refine bD38 ?_ | refine bA38 ?_ _)); exact BK366.out) hb); have n2_ := aM38 (blk_below (g := gb367) (o := .cells #[.int .u8 0, .int .i64 0, .string (⟨#[]⟩ : ByteArray)] 35 (0, 0)) (by (with_reducible repeat (first | refine bN38 ?_ _ | refine bD38 ?_ | refine bA38 ?_ _)); exact BK367.out) hb); have n3_ := aM38 (below_step (by repeat (first | (with_reducible first | exact HB.out | apply below_alloc | apply pw_below_drewN | apply below_drew1 | refine bS38 ?_ GE365.out | refine bS38 ?_ GE366.out | refine bS38 ?_ GE367.out) | exact HB.out)) hb); clear BK365; clear BK366; clear BK367; clear HB; have BK365 := n0_; have BK366 := n1_; have BK367 := n2_; have HB := n3_; clear n0_ n1_ n2_ n3_; (try clear hb); (try clear hb2); (try clear hk); (try clear hi)) | ((with_reducible refine gate_dst (N := 37) rfl ?_); refine Kd.R_lit (Kd.int .i64) _ 3 ?hg (N := 37) ?hd (xs := ([0, 0, 0, 0, 1, 2, 0, 2, 2] : List Int)) (inner := [.int .i64 0, .int .i64 0, .int .i64 0, .int .i64 0, .int .i64 1, .int .i64 2, .int .i64 0, .int .i64 2, .int .i64 2]) (ok := fun _ => True) (okp := fun _ => True) ?hr ?hp (fun _ hk => hk) trivial (Below.refl _ _) (Nat.le_refl _) (by simp) ?_; (case hd => rfl); (case hg => rfl); (case hr => first | (go_simp; done) | (go_simp; rfl)); (case hp => exact (Reps.one (show Kd.M (Kd.int .i64) _ _ _ 0 [.int .i64 0] from rfl) (Reps.one (show Kd.M (Kd.int .i64) _ _ _ 0 [.int .i64 0] from rfl) (Reps.one (show Kd.M (Kd.int .i64) _ _ _ 0 [.int .i64 0] from rfl) (Reps.one (show Kd.M (Kd.int .i64) _ _ _ 0 [.int .i64 0] from rfl) (Reps.one (show Kd.M (Kd.int .i64) _ _ _ 1 [.int .i64 1] from rfl) (Reps.one (show Kd.M (Kd.int .i64) _ _ _ 2 [.int .i64 2] from rfl) (Reps.one (show Kd.M (Kd.int .i64) _ _ _ 0 [.int .i64 0] from rfl) (Reps.one (show Kd.M (Kd.int .i64) _ _ _ 2 [.int .i64 2] from rfl) (Reps.one (show Kd.M (Kd.int .i64) _ _ _ 2 [.int .i64 2] from rfl) (Reps.none _ _))))))))))); intro v375 w40 ho41 hb hg_ hnew_; clear hg_ hnew_; (first | rw [← Ny374.out] at ho41 | (simp only [Int.reduceToNat] at ho41; rw [← Ny374.out] at ho41)); have n0_ := aM38 (Kd.R_lower ho41 (below_size (by repeat (first | (with_reducible first | exact HB.out | apply below_alloc | apply pw_below_drewN | apply below_drew1 | refine bS38 ?_ GE365.out | refine bS38 ?_ GE366.out | refine bS38 ?_ GE367.out) | exact HB.out)))); have n1_ := aM38 (blk_below (g := gb365) (o := .cells #[.int .u8 a0_0, .int .i64 a0_1, .string a0_2] 35 (0, 0)) (by (with_reducible repeat (first | refine bN38 ?_ _ | refine bD38 ?_ | refine bA38 ?_ _)); exact BK365.out) hb); have n2_ := aM38 (blk_below (g := gb366) (o := .cells #[.int .u8 a1_0, .int .i64 a1_1, .string a1_2] 35 (0, 0)) (by (with_reducible repeat (first | refine bN38 ?_ _ | refine bD38 ?_ | refine bA38 ?_ _)); exact BK366.out) hb); have n3_ := aM38 (blk_below (g := gb367) (o := .cells #[.int .u8 0, .int .i64 0, .string (⟨#[]⟩ : ByteArray)] 35 (0, 0)) (by (with_reducible repeat (first | refine bN38 ?_ _ | refine bD38 ?_ | refine bA38 ?_ _)); exact BK367.out) hb); have n4_ := aM38 (below_step (by repeat (first | (with_reducible first | exact HB.out | apply below_alloc | apply pw_below_drewN | apply below_drew1 | refine bS38 ?_ GE365.out | refine bS38 ?_ GE366.out | refine bS38 ?_ GE367.out) | exact HB.out)) hb); clear BK365; clear BK366; clear BK367; clear HB; have HO376 := n0_; have BK365 := n1_; have BK366 := n2_; have BK367 := n3_; have HB := n4_; clear n0_ n1_ n2_ n3_ n4_; clear hb ho41; obtain ⟨Ao42, co42, eo42⟩ := Kd.R_slice HO376.out; subst eo42; have p377 : 0 ≤ ((ji29) : Int) := of_decide_eq_true (by first | (with_reducible assumption) | assumption); have q377 : (ji29) < (y374.length : Int) := of_decide_eq_true (by first | (with_reducible assumption) | assumption); obtain ⟨ad377, e377, hx377_0⟩ := Kd.at_int (Kd.R_reads' HO376.out).2.2 (ji29) p377 q377; cases e377; replace p377 := eq_true p377; replace q377 := eq_true q377) | ((with_reducible refine gate_callee (f := 76) rfl ?_); refine goesL_ (some 45) rfl rfl Try.func76 (by kernel_rfl) rfl #[.int .i64 (rd y374 (ji29))] rfl (by (try simp only [List.map_toArray, List.map_cons, List.map_nil]); first | done | (simp only [hji29]; rfl) | rfl | (simp only [List.length_drop, List.length_take]; rfl)) ?_; (with_reducible refine (hindsightref02_Of.calls (rd y374 (ji29)) t378 t379 t380 _ A32.out).mono ?_); rintro e w43 ⟨rfl, hb⟩; refine ⟨_, rfl, ?_⟩; have n0_ := aM38 (Kd.R_below (by (with_reducible repeat (first | apply Kd.R_alloc | apply Kd.R_drewN | apply Kd.R_drew)); exact HO376.out) hb); have n1_ := aM38 (blk_below (g := gb365) (o := .cells #[.int .u8 a0_0, .int .i64 a0_1, .string a0_2] 35 (0, 0)) (by (with_reducible repeat (first | refine bN38 ?_ _ | refine bD38 ?_ | refine bA38 ?_ _)); exact BK365.out) hb); have n2_ := aM38 (blk_below (g := gb366) (o := .cells #[.int .u8 a1_0, .int .i64 a1_1, .string a1_2] 35 (0, 0)) (by (with_reducible repeat (first | refine bN38 ?_ _ | refine bD38 ?_ | refine bA38 ?_ _)); exact BK366.out) hb); have n3_ := aM38 (blk_below (g := gb367) (o := .cells #[.int .u8 0, .int .i64 0, .string (⟨#[]⟩ : ByteArray)] 35 (0, 0)) (by (with_reducible repeat (first | refine bN38 ?_ _ | refine bD38 ?_ | refine bA38 ?_ _)); exact BK367.out) hb); have n4_ := aM38 (below_step (by repeat (first | (with_reducible first | exact HB.out | apply below_alloc | apply pw_below_drewN | apply below_drew1 | refine bS38 ?_ GE365.out | refine bS38 ?_ GE366.out | refine bS38 ?_ GE367.out) | exact HB.out)) hb); clear HO376; clear BK365; clear BK366; clear BK367; clear HB; have HO376 := n0_; have BK365 := n1_; have BK366 := n2_; have BK367 := n3_; have HB := n4_; clear n0_ n1_ n2_ n3_ n4_; (try clear hb); (try clear hb2); (try clear hk); (try clear hi); have hcz44_0 : w43.cell? ⟨gb367, 0, none⟩ = some (.int .u8 0) := (blk_cell BK367.out 0).trans rfl; have hcz44_1 : w43.cell? ⟨gb367, 1, none⟩ = some (.int .i64 0) := (blk_cell BK367.out 1).trans rfl; have hcz44_2 : w43.cell? ⟨gb367, 2, none⟩ = some (.string (⟨#[]⟩ : ByteArray)) := (blk_cell BK367.out 2).trans rfl; have hfz44_0 := blk_frozen BK367.out 0; have hfz44_1 := blk_frozen BK367.out 1; have hfz44_2 := blk_frozen BK367.out 2))
        refine bodyPost_ret (results_ct rfl _ _ gb367 35 #[.int .u8 t378, .int .i64 t379, .string t380] (0, 0) _ rfl (by (with_reducible repeat (first | refine bN38 ?_ _ | refine bD38 ?_ | refine bA38 ?_ _)); refine blk_put (cs := #[.int .u8 t378, .int .i64 t379, .string (⟨#[]⟩ : ByteArray)]) ?_ 2 _ rfl; (with_reducible repeat (first | refine bN38 ?_ _ | refine bD38 ?_ | refine bA38 ?_ _)); refine blk_put (cs := #[.int .u8 t378, .int .i64 0, .string (⟨#[]⟩ : ByteArray)]) ?_ 1 _ rfl; (with_reducible repeat (first | refine bN38 ?_ _ | refine bD38 ?_ | refine bA38 ?_ _)); refine blk_put (cs := #[.int .u8 0, .int .i64 0, .string (⟨#[]⟩ : ByteArray)]) ?_ 0 _ rfl; (with_reducible repeat (first | refine bN38 ?_ _ | refine bD38 ?_ | refine bA38 ?_ _)); exact BK367.out) Try.underlying35 rfl (by kernel_rfl)) rfl ?_
        exact ⟨by first | rfl | (simp [errW_none, errW_some] <;> rfl) | (simp only [← hji29]; first | rfl | (simp [errW_none, errW_some] <;> rfl)) | (simp [*, errW_none, errW_some] <;> rfl), by repeat (first | (with_reducible first | exact HB.out | apply below_alloc | apply pw_below_drewN | apply below_drew1 | refine bS38 ?_ GE365.out | refine bS38 ?_ GE366.out | refine bS38 ?_ GE367.out) | exact HB.out)⟩
       ·rw [if_neg c31] at H
        exact absurd H (by simp)
      ·rw [if_neg c30] at H
       exact absurd H (by simp)
     ·rw [if_neg c28] at H
      have c28b0 : (t373 == 0) = false := beq_eq_false_iff_ne.mpr c28
      have c28b1 : (t373 != 0) = true := bne_iff_ne.mpr c28
      simp only [Option.some.injEq, Prod.mk.injEq] at H
      obtain ⟨rfl, rfl, rfl, rfl⟩ := H
      have hnb45 := NB365_366.out
      have hnc45 := NB366_365.out
      have hnb46 := NB365_367.out
      have hnc46 := NB367_365.out
      have hcz47_0 : wc.cell? ⟨gb365, 0, none⟩ = some (.int .u8 a0_0) := (blk_cell BK365.out 0).trans rfl
      have hcz47_1 : wc.cell? ⟨gb365, 1, none⟩ = some (.int .i64 a0_1) := (blk_cell BK365.out 1).trans rfl
      have hcz47_2 : wc.cell? ⟨gb365, 2, none⟩ = some (.string a0_2) := (blk_cell BK365.out 2).trans rfl
      have hfz47_0 := blk_frozen BK365.out 0
      have hfz47_1 := blk_frozen BK365.out 1
      have hfz47_2 := blk_frozen BK365.out 2
      go_wp2_with (first | ((with_reducible refine gate_callee (f := 42) rfl ?_); refine goesL_ (some 22) rfl rfl Try.func42 (by kernel_rfl) rfl #[.agg #[.int .u8 a0_0, .int .i64 a0_1, .string a0_2]] rfl (by (try simp only [List.map_toArray, List.map_cons, List.map_nil]); first | done | rfl | (simp only [List.length_drop, List.length_take]; rfl)) ?_; (with_reducible refine (hindsightref02_Truth.calls a0_0 a0_1 a0_2 t370 t371 _ A25.out).mono ?_); rintro e w48 ⟨rfl, hb⟩; refine ⟨_, rfl, ?_⟩; have n0_ := aM38 (blk_below (g := gb365) (o := .cells #[.int .u8 a0_0, .int .i64 a0_1, .string a0_2] 35 (0, 0)) (by (with_reducible repeat (first | refine bN38 ?_ _ | refine bD38 ?_ | refine bA38 ?_ _)); exact BK365.out) hb); have n1_ := aM38 (blk_below (g := gb366) (o := .cells #[.int .u8 a1_0, .int .i64 a1_1, .string a1_2] 35 (0, 0)) (by (with_reducible repeat (first | refine bN38 ?_ _ | refine bD38 ?_ | refine bA38 ?_ _)); exact BK366.out) hb); have n2_ := aM38 (blk_below (g := gb367) (o := .cells #[.int .u8 0, .int .i64 0, .string (⟨#[]⟩ : ByteArray)] 35 (0, 0)) (by (with_reducible repeat (first | refine bN38 ?_ _ | refine bD38 ?_ | refine bA38 ?_ _)); exact BK367.out) hb); have n3_ := aM38 (below_step (by repeat (first | (with_reducible first | exact HB.out | apply below_alloc | apply pw_below_drewN | apply below_drew1 | refine bS38 ?_ GE365.out | refine bS38 ?_ GE366.out | refine bS38 ?_ GE367.out) | exact HB.out)) hb); clear BK365; clear BK366; clear BK367; clear HB; have BK365 := n0_; have BK366 := n1_; have BK367 := n2_; have HB := n3_; clear n0_ n1_ n2_ n3_; (try clear hb); (try clear hb2); (try clear hk); (try clear hi); have hnb49 := NB366_367.out; have hnc49 := NB367_366.out; have hcz50_0 : w48.cell? ⟨gb366, 0, none⟩ = some (.int .u8 a1_0) := (blk_cell BK366.out 0).trans rfl; have hcz50_1 : w48.cell? ⟨gb366, 1, none⟩ = some (.int .i64 a1_1) := (blk_cell BK366.out 1).trans rfl; have hcz50_2 : w48.cell? ⟨gb366, 2, none⟩ = some (.string a1_2) := (blk_cell BK366.out 2).trans rfl; have hfz50_0 := blk_frozen BK366.out 0; have hfz50_1 := blk_frozen BK366.out 1; have hfz50_2 := blk_frozen BK366.out 2) | ((with_reducible refine gate_callee (f := 42) rfl ?_); refine goesL_ (some 27) rfl rfl Try.func42 (by kernel_rfl) rfl #[.agg #[.int .u8 a1_0, .int .i64 a1_1, .string a1_2]] rfl (by (try simp only [List.map_toArray, List.map_cons, List.map_nil]); first | done | rfl | (simp only [List.length_drop, List.length_take]; rfl)) ?_; (with_reducible refine (hindsightref02_Truth.calls a1_0 a1_1 a1_2 t372 t373 _ A26.out).mono ?_); rintro e w51 ⟨rfl, hb⟩; refine ⟨_, rfl, ?_⟩; have n0_ := aM38 (blk_below (g := gb365) (o := .cells #[.int .u8 a0_0, .int .i64 a0_1, .string a0_2] 35 (0, 0)) (by (with_reducible repeat (first | refine bN38 ?_ _ | refine bD38 ?_ | refine bA38 ?_ _)); exact BK365.out) hb); have n1_ := aM38 (blk_below (g := gb366) (o := .cells #[.int .u8 a1_0, .int .i64 a1_1, .string a1_2] 35 (0, 0)) (by (with_reducible repeat (first | refine bN38 ?_ _ | refine bD38 ?_ | refine bA38 ?_ _)); exact BK366.out) hb); have n2_ := aM38 (blk_below (g := gb367) (o := .cells #[.int .u8 0, .int .i64 0, .string (⟨#[]⟩ : ByteArray)] 35 (0, 0)) (by (with_reducible repeat (first | refine bN38 ?_ _ | refine bD38 ?_ | refine bA38 ?_ _)); exact BK367.out) hb); have n3_ := aM38 (below_step (by repeat (first | (with_reducible first | exact HB.out | apply below_alloc | apply pw_below_drewN | apply below_drew1 | refine bS38 ?_ GE365.out | refine bS38 ?_ GE366.out | refine bS38 ?_ GE367.out) | exact HB.out)) hb); clear BK365; clear BK366; clear BK367; clear HB; have BK365 := n0_; have BK366 := n1_; have BK367 := n2_; have HB := n3_; clear n0_ n1_ n2_ n3_; (try clear hb); (try clear hb2); (try clear hk); (try clear hi); have hcz52_0 : w51.cell? ⟨gb367, 0, none⟩ = some (.int .u8 0) := (blk_cell BK367.out 0).trans rfl; have hcz52_1 : w51.cell? ⟨gb367, 1, none⟩ = some (.int .i64 0) := (blk_cell BK367.out 1).trans rfl; have hcz52_2 : w51.cell? ⟨gb367, 2, none⟩ = some (.string (⟨#[]⟩ : ByteArray)) := (blk_cell BK367.out 2).trans rfl; have hfz52_0 := blk_frozen BK367.out 0; have hfz52_1 := blk_frozen BK367.out 1; have hfz52_2 := blk_frozen BK367.out 2))
      refine bodyPost_ret (results_ct rfl _ _ gb367 35 #[.int .u8 0, .int .i64 0, .string (⟨#[]⟩ : ByteArray)] (0, 0) _ rfl (by (with_reducible repeat (first | refine bN38 ?_ _ | refine bD38 ?_ | refine bA38 ?_ _)); refine blk_put (cs := #[.int .u8 0, .int .i64 0, .string (⟨#[]⟩ : ByteArray)]) ?_ 2 _ rfl; (with_reducible repeat (first | refine bN38 ?_ _ | refine bD38 ?_ | refine bA38 ?_ _)); refine blk_put (cs := #[.int .u8 0, .int .i64 0, .string (⟨#[]⟩ : ByteArray)]) ?_ 1 _ rfl; (with_reducible repeat (first | refine bN38 ?_ _ | refine bD38 ?_ | refine bA38 ?_ _)); refine blk_put (cs := #[.int .u8 0, .int .i64 0, .string (⟨#[]⟩ : ByteArray)]) ?_ 0 _ rfl; (with_reducible repeat (first | refine bN38 ?_ _ | refine bD38 ?_ | refine bA38 ?_ _)); exact BK367.out) Try.underlying35 rfl (by kernel_rfl)) rfl ?_
      exact ⟨by first | rfl | (simp [errW_none, errW_some] <;> rfl) | (simp [*, errW_none, errW_some] <;> rfl), by repeat (first | (with_reducible first | exact HB.out | apply below_alloc | apply pw_below_drewN | apply below_drew1 | refine bS38 ?_ GE365.out | refine bS38 ?_ GE366.out | refine bS38 ?_ GE367.out) | exact HB.out)⟩
    ·rw [if_neg c27] at H
     have c27b0 : (t371 == 0) = false := beq_eq_false_iff_ne.mpr c27
     have c27b1 : (t371 != 0) = true := bne_iff_ne.mpr c27
     simp only [Option.some.injEq, Prod.mk.injEq] at H
     obtain ⟨rfl, rfl, rfl, rfl⟩ := H
     have hnb53 := NB365_366.out
     have hnc53 := NB366_365.out
     have hnb54 := NB365_367.out
     have hnc54 := NB367_365.out
     have hcz55_0 : wc.cell? ⟨gb365, 0, none⟩ = some (.int .u8 a0_0) := (blk_cell BK365.out 0).trans rfl
     have hcz55_1 : wc.cell? ⟨gb365, 1, none⟩ = some (.int .i64 a0_1) := (blk_cell BK365.out 1).trans rfl
     have hcz55_2 : wc.cell? ⟨gb365, 2, none⟩ = some (.string a0_2) := (blk_cell BK365.out 2).trans rfl
     have hfz55_0 := blk_frozen BK365.out 0
     have hfz55_1 := blk_frozen BK365.out 1
     have hfz55_2 := blk_frozen BK365.out 2
     go_wp2_with (first | ((with_reducible refine gate_callee (f := 42) rfl ?_); refine goesL_ (some 22) rfl rfl Try.func42 (by kernel_rfl) rfl #[.agg #[.int .u8 a0_0, .int .i64 a0_1, .string a0_2]] rfl (by (try simp only [List.map_toArray, List.map_cons, List.map_nil]); first | done | rfl | (simp only [List.length_drop, List.length_take]; rfl)) ?_; (with_reducible refine (hindsightref02_Truth.calls a0_0 a0_1 a0_2 t370 t371 _ A25.out).mono ?_); rintro e w56 ⟨rfl, hb⟩; refine ⟨_, rfl, ?_⟩; have n0_ := aM38 (blk_below (g := gb365) (o := .cells #[.int .u8 a0_0, .int .i64 a0_1, .string a0_2] 35 (0, 0)) (by (with_reducible repeat (first | refine bN38 ?_ _ | refine bD38 ?_ | refine bA38 ?_ _)); exact BK365.out) hb); have n1_ := aM38 (blk_below (g := gb366) (o := .cells #[.int .u8 a1_0, .int .i64 a1_1, .string a1_2] 35 (0, 0)) (by (with_reducible repeat (first | refine bN38 ?_ _ | refine bD38 ?_ | refine bA38 ?_ _)); exact BK366.out) hb); have n2_ := aM38 (blk_below (g := gb367) (o := .cells #[.int .u8 0, .int .i64 0, .string (⟨#[]⟩ : ByteArray)] 35 (0, 0)) (by (with_reducible repeat (first | refine bN38 ?_ _ | refine bD38 ?_ | refine bA38 ?_ _)); exact BK367.out) hb); have n3_ := aM38 (below_step (by repeat (first | (with_reducible first | exact HB.out | apply below_alloc | apply pw_below_drewN | apply below_drew1 | refine bS38 ?_ GE365.out | refine bS38 ?_ GE366.out | refine bS38 ?_ GE367.out) | exact HB.out)) hb); clear BK365; clear BK366; clear BK367; clear HB; have BK365 := n0_; have BK366 := n1_; have BK367 := n2_; have HB := n3_; clear n0_ n1_ n2_ n3_; (try clear hb); (try clear hb2); (try clear hk); (try clear hi); have hnb57 := NB366_367.out; have hnc57 := NB367_366.out; have hcz58_0 : w56.cell? ⟨gb366, 0, none⟩ = some (.int .u8 a1_0) := (blk_cell BK366.out 0).trans rfl; have hcz58_1 : w56.cell? ⟨gb366, 1, none⟩ = some (.int .i64 a1_1) := (blk_cell BK366.out 1).trans rfl; have hcz58_2 : w56.cell? ⟨gb366, 2, none⟩ = some (.string a1_2) := (blk_cell BK366.out 2).trans rfl; have hfz58_0 := blk_frozen BK366.out 0; have hfz58_1 := blk_frozen BK366.out 1; have hfz58_2 := blk_frozen BK366.out 2) | ((with_reducible refine gate_callee (f := 42) rfl ?_); refine goesL_ (some 27) rfl rfl Try.func42 (by kernel_rfl) rfl #[.agg #[.int .u8 a1_0, .int .i64 a1_1, .string a1_2]] rfl (by (try simp only [List.map_toArray, List.map_cons, List.map_nil]); first | done | rfl | (simp only [List.length_drop, List.length_take]; rfl)) ?_; (with_reducible refine (hindsightref02_Truth.calls a1_0 a1_1 a1_2 t372 t373 _ A26.out).mono ?_); rintro e w59 ⟨rfl, hb⟩; refine ⟨_, rfl, ?_⟩; have n0_ := aM38 (blk_below (g := gb365) (o := .cells #[.int .u8 a0_0, .int .i64 a0_1, .string a0_2] 35 (0, 0)) (by (with_reducible repeat (first | refine bN38 ?_ _ | refine bD38 ?_ | refine bA38 ?_ _)); exact BK365.out) hb); have n1_ := aM38 (blk_below (g := gb366) (o := .cells #[.int .u8 a1_0, .int .i64 a1_1, .string a1_2] 35 (0, 0)) (by (with_reducible repeat (first | refine bN38 ?_ _ | refine bD38 ?_ | refine bA38 ?_ _)); exact BK366.out) hb); have n2_ := aM38 (blk_below (g := gb367) (o := .cells #[.int .u8 0, .int .i64 0, .string (⟨#[]⟩ : ByteArray)] 35 (0, 0)) (by (with_reducible repeat (first | refine bN38 ?_ _ | refine bD38 ?_ | refine bA38 ?_ _)); exact BK367.out) hb); have n3_ := aM38 (below_step (by repeat (first | (with_reducible first | exact HB.out | apply below_alloc | apply pw_below_drewN | apply below_drew1 | refine bS38 ?_ GE365.out | refine bS38 ?_ GE366.out | refine bS38 ?_ GE367.out) | exact HB.out)) hb); clear BK365; clear BK366; clear BK367; clear HB; have BK365 := n0_; have BK366 := n1_; have BK367 := n2_; have HB := n3_; clear n0_ n1_ n2_ n3_; (try clear hb); (try clear hb2); (try clear hk); (try clear hi); have hcz60_0 : w59.cell? ⟨gb367, 0, none⟩ = some (.int .u8 0) := (blk_cell BK367.out 0).trans rfl; have hcz60_1 : w59.cell? ⟨gb367, 1, none⟩ = some (.int .i64 0) := (blk_cell BK367.out 1).trans rfl; have hcz60_2 : w59.cell? ⟨gb367, 2, none⟩ = some (.string (⟨#[]⟩ : ByteArray)) := (blk_cell BK367.out 2).trans rfl; have hfz60_0 := blk_frozen BK367.out 0; have hfz60_1 := blk_frozen BK367.out 1; have hfz60_2 := blk_frozen BK367.out 2))
     refine bodyPost_ret (results_ct rfl _ _ gb367 35 #[.int .u8 0, .int .i64 0, .string (⟨#[]⟩ : ByteArray)] (0, 0) _ rfl (by (with_reducible repeat (first | refine bN38 ?_ _ | refine bD38 ?_ | refine bA38 ?_ _)); refine blk_put (cs := #[.int .u8 0, .int .i64 0, .string (⟨#[]⟩ : ByteArray)]) ?_ 2 _ rfl; (with_reducible repeat (first | refine bN38 ?_ _ | refine bD38 ?_ | refine bA38 ?_ _)); refine blk_put (cs := #[.int .u8 0, .int .i64 0, .string (⟨#[]⟩ : ByteArray)]) ?_ 1 _ rfl; (with_reducible repeat (first | refine bN38 ?_ _ | refine bD38 ?_ | refine bA38 ?_ _)); refine blk_put (cs := #[.int .u8 0, .int .i64 0, .string (⟨#[]⟩ : ByteArray)]) ?_ 0 _ rfl; (with_reducible repeat (first | refine bN38 ?_ _ | refine bD38 ?_ | refine bA38 ?_ _)); exact BK367.out) Try.underlying35 rfl (by kernel_rfl)) rfl ?_
     exact ⟨by first | rfl | (simp [errW_none, errW_some] <;> rfl) | (simp [*, errW_none, errW_some] <;> rfl), by repeat (first | (with_reducible first | exact HB.out | apply below_alloc | apply pw_below_drewN | apply below_drew1 | refine bS38 ?_ GE365.out | refine bS38 ?_ GE366.out | refine bS38 ?_ GE367.out) | exact HB.out)⟩

end Go.Proofs.Ytefpnnljflcmbaa.PCe
