-- Written by a program of this session (wip/tool), which goes by the kit's print.
import Derived.Test.YtefpnnljflcmbaaPCex0
import Derived.Test.YtefpnnljflcmbaaPCex7
import Derived.Test.YtefpnnljflcmbaaPCex30
namespace Go.Proofs.Ytefpnnljflcmbaa.PCe
open Go.RowKit Go.Proofs.YtefpnnljflcmbaaW.PrintWords Go.Proofs.YtefpnnljflcmbaaW.PrintLast Go.Proofs.YtefpnnljflcmbaaW.PrintMore
attribute [local go_sem] max2_int min2_int max_two min_two max_three min_three max_four min_four   -- for this text's walks alone
set_option linter.unusedVariables false
set_option linter.unusedSimpArgs false

/-! ### hindsightref02_Mul: function 54 -/
theorem bN54 : type_of% @blk_drewN := @blk_drewN
theorem bD54 : type_of% @blk_drew := @blk_drew
theorem bA54 : type_of% @blk_alloc := @blk_alloc
theorem bS54 : type_of% @below_set := @below_set
theorem aM54 : type_of% @Aside0.mk := @Aside0.mk
mutual
def hindsightref02_Mul.j0 : Nat → Int → Bool → Int → Int → ByteArray → Int → Int → ByteArray → Option (Int × Int × ByteArray × Int)
 | 0, _, _, _, _, _, _, _, _ => none
 | k + 1, x7, x21, x499000, x499001, x499002, x500000, x500001, x500002 => if x21 = true then (some (0, 0, (⟨#[]⟩ : ByteArray), x7)) else (if x499001 = 0 then (hindsightref02_Mul.j1 k x7 x499001 x500001 true) else (hindsightref02_Mul.j1 k x7 x499001 x500001 (x500001 == 0)))
def hindsightref02_Mul.j1 : Nat → Int → Int → Int → Bool → Option (Int × Int × ByteArray × Int)
 | 0, _, _, _, _ => none
 | k + 1, x7, x8, x9, x33 => if x33 = true then ((hindsightref02_Number.f 0).bind fun bt503 => (some (bt503.1, bt503.2.1, bt503.2.2, x7))) else (if x8 = (-1) then (if x9 = (-9223372036854775808) then (hindsightref02_Mul.j2 k x7 x8 x9 true) else (if x9 = (-1) then (hindsightref02_Mul.j2 k x7 x8 x9 (x8 == (-9223372036854775808))) else (hindsightref02_Mul.j2 k x7 x8 x9 false))) else (if x9 = (-1) then (hindsightref02_Mul.j2 k x7 x8 x9 (x8 == (-9223372036854775808))) else (hindsightref02_Mul.j2 k x7 x8 x9 false)))
def hindsightref02_Mul.j2 : Nat → Int → Int → Int → Bool → Option (Int × Int × ByteArray × Int)
 | 0, _, _, _, _ => none
 | k + 1, x7, x8, x9, x49 => if x49 = true then (some (0, 0, (⟨#[]⟩ : ByteArray), 21)) else (if x9 = 0 then (none) else (if (wrap64 (Int.tdiv (wrap64 (x8 * x9)) x9)) = x8 then (if ((decide ((wrap64 (x8 * x9)) < 0)) != ((decide (x8 < 0)) != (decide (x9 < 0)))) = true then (some (0, 0, (⟨#[]⟩ : ByteArray), 21)) else ((hindsightref02_Number.f (wrap64 (x8 * x9))).bind fun bt506 => (some (bt506.1, bt506.2.1, bt506.2.2, x7)))) else (some (0, 0, (⟨#[]⟩ : ByteArray), 21))))
end
def hindsightref02_Mul.f (k : Nat) (a0_0 : Int) (a0_1 : Int) (a0_2 : ByteArray) (a1_0 : Int) (a1_1 : Int) (a1_2 : ByteArray) : Option (Int × Int × ByteArray × Int) := (hindsightref02_asked.f k a0_0 a0_1 a0_2 a1_0 a1_1 a1_2).bind fun bt501 => (if bt501.2 = 0 then (hindsightref02_Mul.j0 k bt501.2 bt501.1 a0_0 a0_1 a0_2 a1_0 a1_1 a1_2) else (hindsightref02_Mul.j0 k bt501.2 true a0_0 a0_1 a0_2 a1_0 a1_1 a1_2))
theorem hindsightref02_Mul.mono_l : ∀ k, (∀ y0 y1 y2 y3 y4 y5 y6 y7, LeO (hindsightref02_Mul.j0 k y0 y1 y2 y3 y4 y5 y6 y7) (hindsightref02_Mul.j0 (k + 1) y0 y1 y2 y3 y4 y5 y6 y7)) ∧ (∀ y0 y1 y2 y3, LeO (hindsightref02_Mul.j1 k y0 y1 y2 y3) (hindsightref02_Mul.j1 (k + 1) y0 y1 y2 y3)) ∧ (∀ y0 y1 y2 y3, LeO (hindsightref02_Mul.j2 k y0 y1 y2 y3) (hindsightref02_Mul.j2 (k + 1) y0 y1 y2 y3))
 | 0 => ⟨fun _ _ _ _ _ _ _ _ r h => by simp [hindsightref02_Mul.j0] at h, fun _ _ _ _ r h => by simp [hindsightref02_Mul.j1] at h, fun _ _ _ _ r h => by simp [hindsightref02_Mul.j2] at h⟩
 | k + 1 => by
  obtain ⟨ih0, ih1, ih2⟩ := hindsightref02_Mul.mono_l k
  refine ⟨?_, ?_, ?_⟩
  ·intro y0 y1 y2 y3 y4 y5 y6 y7
   unfold hindsightref02_Mul.j0
   repeat' first
   | (with_reducible exact ih0 _ _ _ _ _ _ _ _)
   | (with_reducible exact ih1 _ _ _ _)
   | (with_reducible exact ih2 _ _ _ _)
   | (with_reducible exact hindsightref02_asked.mono _ _ _ _ _ _ _)
   | (with_reducible exact LeO.refl _)
   | (with_reducible exact LeO.none _)
   | (with_reducible refine LeO.ite ?_ ?_)
   | (with_reducible refine LeO.bind ?_ (fun _ => ?_))
   | exact ih0 _ _ _ _ _ _ _ _
   | exact ih1 _ _ _ _
   | exact ih2 _ _ _ _
   | exact hindsightref02_asked.mono _ _ _ _ _ _ _
   | exact LeO.none _
   | refine LeO.ite ?_ ?_
   | refine LeO.bind ?_ (fun _ => ?_)
  ·intro y0 y1 y2 y3
   unfold hindsightref02_Mul.j1
   repeat' first
   | (with_reducible exact ih0 _ _ _ _ _ _ _ _)
   | (with_reducible exact ih1 _ _ _ _)
   | (with_reducible exact ih2 _ _ _ _)
   | (with_reducible exact hindsightref02_asked.mono _ _ _ _ _ _ _)
   | (with_reducible exact LeO.refl _)
   | (with_reducible exact LeO.none _)
   | (with_reducible refine LeO.ite ?_ ?_)
   | (with_reducible refine LeO.bind ?_ (fun _ => ?_))
   | exact ih0 _ _ _ _ _ _ _ _
   | exact ih1 _ _ _ _
   | exact ih2 _ _ _ _
   | exact hindsightref02_asked.mono _ _ _ _ _ _ _
   | exact LeO.none _
   | refine LeO.ite ?_ ?_
   | refine LeO.bind ?_ (fun _ => ?_)
  ·intro y0 y1 y2 y3
   unfold hindsightref02_Mul.j2
   repeat' first
   | (with_reducible exact ih0 _ _ _ _ _ _ _ _)
   | (with_reducible exact ih1 _ _ _ _)
   | (with_reducible exact ih2 _ _ _ _)
   | (with_reducible exact hindsightref02_asked.mono _ _ _ _ _ _ _)
   | (with_reducible exact LeO.refl _)
   | (with_reducible exact LeO.none _)
   | (with_reducible refine LeO.ite ?_ ?_)
   | (with_reducible refine LeO.bind ?_ (fun _ => ?_))
   | exact ih0 _ _ _ _ _ _ _ _
   | exact ih1 _ _ _ _
   | exact ih2 _ _ _ _
   | exact hindsightref02_asked.mono _ _ _ _ _ _ _
   | exact LeO.none _
   | refine LeO.ite ?_ ?_
   | refine LeO.bind ?_ (fun _ => ?_)
theorem hindsightref02_Mul.mono : ∀ a0 a1 a2 a3 a4 a5 k, LeO (hindsightref02_Mul.f k a0 a1 a2 a3 a4 a5) (hindsightref02_Mul.f (k + 1) a0 a1 a2 a3 a4 a5) := by
 intro a0 a1 a2 a3 a4 a5 k
 obtain ⟨ih0, ih1, ih2⟩ := hindsightref02_Mul.mono_l k
 unfold hindsightref02_Mul.f
 repeat' first
   | (with_reducible exact ih0 _ _ _ _ _ _ _ _)
   | (with_reducible exact ih1 _ _ _ _)
   | (with_reducible exact ih2 _ _ _ _)
   | (with_reducible exact hindsightref02_asked.mono _ _ _ _ _ _ _)
   | (with_reducible exact LeO.refl _)
   | (with_reducible exact LeO.none _)
   | (with_reducible refine LeO.ite ?_ ?_)
   | (with_reducible refine LeO.bind ?_ (fun _ => ?_))
   | exact ih0 _ _ _ _ _ _ _ _
   | exact ih1 _ _ _ _
   | exact ih2 _ _ _ _
   | exact hindsightref02_asked.mono _ _ _ _ _ _ _
   | exact LeO.none _
   | refine LeO.ite ?_ ?_
   | refine LeO.bind ?_ (fun _ => ?_)
set_option maxHeartbeats 8000000 in
set_option maxRecDepth 100000 in
theorem hindsightref02_Mul.calls (k : Nat) (a0_0 : Int) (a0_1 : Int) (a0_2 : ByteArray) (a1_0 : Int) (a1_1 : Int) (a1_2 : ByteArray) (r1 : Int) (r2 : Int) (r3 : ByteArray) (r4 : Int) (w : World) (h : hindsightref02_Mul.f k a0_0 a0_1 a0_2 a1_0 a1_1 a1_2 = some (r1, r2, r3, r4)) :
  Calls Try.prog 54 #[.agg #[.int .u8 a0_0, .int .i64 a0_1, .string a0_2], .agg #[.int .u8 a1_0, .int .i64 a1_1, .string a1_2]] w fun e w' => e = .returned (.tuple #[.agg #[.int .u8 r1, .int .i64 r2, .string r3], .int .i64 r4]) ∧ Below w.heap.size w w' := by
 have hu35 := Try.underlying35
 have HB := aM54 (Below.refl w.heap.size w)
 have H : ((hindsightref02_asked.f k a0_0 a0_1 a0_2 a1_0 a1_1 a1_2).bind fun bt501 => (if bt501.2 = 0 then (hindsightref02_Mul.j0 k bt501.2 bt501.1 a0_0 a0_1 a0_2 a1_0 a1_1 a1_2) else (hindsightref02_Mul.j0 k bt501.2 true a0_0 a0_1 a0_2 a1_0 a1_1 a1_2))) = some (r1, r2, r3, r4) := h
 clear h
 replace H := Option.bind_eq_some_iff.mp H
 obtain ⟨⟨t501, t502⟩, A30, H⟩ := H
 replace H : (if t502 = 0 then (hindsightref02_Mul.j0 k t502 t501 a0_0 a0_1 a0_2 a1_0 a1_1 a1_2) else (hindsightref02_Mul.j0 k t502 true a0_0 a0_1 a0_2 a1_0 a1_1 a1_2)) = some (r1, r2, r3, r4) := H
 have A3 := aM54 A30
 clear A30
 have HC4 := aM54 H
 clear H
 go_enter Try.func54, Try.ntmps54
 go_upto_region 2 with (first | ((with_reducible refine gate_dst (N := 2) rfl ?_); refine box_event ?hg (N := 2) ?hd (cs := #[.int .u8 a0_0, .int .i64 a0_1, .string a0_2]) (t := 35) ?hr ?_; (case hd => rfl); (case hg => rfl); (case hr => first | (go_simp; done) | (go_simp; rfl)); intro gb498 hg w5 hbox hb; have n0_ := aM54 (below_step (by repeat (first | (with_reducible first | exact HB.out | apply below_alloc | apply pw_below_drewN | apply below_drew1) | exact HB.out)) hb); have n1_ := aM54 (hbox); have n2_ := aM54 ((by rw [hg]; exact (below_size (by repeat (first | (with_reducible first | exact HB.out | apply below_alloc | apply pw_below_drewN | apply below_drew1) | exact HB.out))) : w.heap.size ≤ gb498)); have n3_ := aM54 ((by rw [hg]; exact (below_size (by repeat (first | (with_reducible first | exact HB.out | apply below_alloc | apply pw_below_drewN | apply below_drew1) | exact HB.out))) : w.heap.size ≤ gb498)); clear HB; have HB := n0_; have BK498 := n1_; have GW498 := n2_; have GE498 := n3_; clear n0_ n1_ n2_ n3_; clear hb hbox hg) | ((with_reducible refine gate_dst (N := 3) rfl ?_); refine box_event ?hg (N := 3) ?hd (cs := #[.int .u8 a1_0, .int .i64 a1_1, .string a1_2]) (t := 35) ?hr ?_; (case hd => rfl); (case hg => rfl); (case hr => first | (go_simp; done) | (go_simp; rfl)); intro gb499 hg w6 hbox hb; have n0_ := aM54 (blk_below (g := gb498) (o := .cells #[.int .u8 a0_0, .int .i64 a0_1, .string a0_2] 35 (0, 0)) (by (with_reducible repeat (first | refine bN54 ?_ _ | refine bD54 ?_ | refine bA54 ?_ _)); exact BK498.out) hb); have n1_ := aM54 (below_step (by repeat (first | (with_reducible first | exact HB.out | apply below_alloc | apply pw_below_drewN | apply below_drew1 | refine bS54 ?_ GE498.out) | exact HB.out)) hb); have n2_ := aM54 (hbox); have n3_ := aM54 ((by rw [hg]; exact (below_size (by repeat (first | (with_reducible first | exact HB.out | apply below_alloc | apply pw_below_drewN | apply below_drew1 | refine bS54 ?_ GE498.out) | exact HB.out))) : w.heap.size ≤ gb499)); have n4_ := aM54 ((by rw [hg]; exact (below_size (by repeat (first | (with_reducible first | exact HB.out | apply below_alloc | apply pw_below_drewN | apply below_drew1 | refine bS54 ?_ GE498.out) | exact HB.out))) : w.heap.size ≤ gb499)); have n5_ := aM54 ((by rw [hg]; exact Nat.ne_of_lt (blk_lt (g := gb498) (o := .cells #[.int .u8 a0_0, .int .i64 a0_1, .string a0_2] 35 (0, 0)) (by (with_reducible repeat (first | refine bN54 ?_ _ | refine bD54 ?_ | refine bA54 ?_ _)); exact BK498.out)) : gb498 ≠ gb499)); have n6_ := aM54 ((by rw [hg]; exact Nat.ne_of_gt (blk_lt (g := gb498) (o := .cells #[.int .u8 a0_0, .int .i64 a0_1, .string a0_2] 35 (0, 0)) (by (with_reducible repeat (first | refine bN54 ?_ _ | refine bD54 ?_ | refine bA54 ?_ _)); exact BK498.out)) : gb499 ≠ gb498)); clear BK498; clear HB; have BK498 := n0_; have HB := n1_; have BK499 := n2_; have GW499 := n3_; have GE499 := n4_; have NB498_499 := n5_; have NB499_498 := n6_; clear n0_ n1_ n2_ n3_ n4_ n5_ n6_; clear hb hbox hg) | ((with_reducible refine gate_dst (N := 4) rfl ?_); refine box_event ?hg (N := 4) ?hd (cs := #[.int .u8 0, .int .i64 0, .string (⟨#[]⟩ : ByteArray)]) (t := 35) ?hr ?_; (case hd => rfl); (case hg => rfl); (case hr => first | (go_simp; done) | (go_simp; rfl)); intro gb500 hg w7 hbox hb; have n0_ := aM54 (blk_below (g := gb498) (o := .cells #[.int .u8 a0_0, .int .i64 a0_1, .string a0_2] 35 (0, 0)) (by (with_reducible repeat (first | refine bN54 ?_ _ | refine bD54 ?_ | refine bA54 ?_ _)); exact BK498.out) hb); have n1_ := aM54 (blk_below (g := gb499) (o := .cells #[.int .u8 a1_0, .int .i64 a1_1, .string a1_2] 35 (0, 0)) (by (with_reducible repeat (first | refine bN54 ?_ _ | refine bD54 ?_ | refine bA54 ?_ _)); exact BK499.out) hb); have n2_ := aM54 (below_step (by repeat (first | (with_reducible first | exact HB.out | apply below_alloc | apply pw_below_drewN | apply below_drew1 | refine bS54 ?_ GE498.out | refine bS54 ?_ GE499.out) | exact HB.out)) hb); have n3_ := aM54 (hbox); have n4_ := aM54 ((by rw [hg]; exact (below_size (by repeat (first | (with_reducible first | exact HB.out | apply below_alloc | apply pw_below_drewN | apply below_drew1 | refine bS54 ?_ GE498.out | refine bS54 ?_ GE499.out) | exact HB.out))) : w.heap.size ≤ gb500)); have n5_ := aM54 ((by rw [hg]; exact (below_size (by repeat (first | (with_reducible first | exact HB.out | apply below_alloc | apply pw_below_drewN | apply below_drew1 | refine bS54 ?_ GE498.out | refine bS54 ?_ GE499.out) | exact HB.out))) : w.heap.size ≤ gb500)); have n6_ := aM54 ((by rw [hg]; exact Nat.ne_of_lt (blk_lt (g := gb498) (o := .cells #[.int .u8 a0_0, .int .i64 a0_1, .string a0_2] 35 (0, 0)) (by (with_reducible repeat (first | refine bN54 ?_ _ | refine bD54 ?_ | refine bA54 ?_ _)); exact BK498.out)) : gb498 ≠ gb500)); have n7_ := aM54 ((by rw [hg]; exact Nat.ne_of_gt (blk_lt (g := gb498) (o := .cells #[.int .u8 a0_0, .int .i64 a0_1, .string a0_2] 35 (0, 0)) (by (with_reducible repeat (first | refine bN54 ?_ _ | refine bD54 ?_ | refine bA54 ?_ _)); exact BK498.out)) : gb500 ≠ gb498)); have n8_ := aM54 ((by rw [hg]; exact Nat.ne_of_lt (blk_lt (g := gb499) (o := .cells #[.int .u8 a1_0, .int .i64 a1_1, .string a1_2] 35 (0, 0)) (by (with_reducible repeat (first | refine bN54 ?_ _ | refine bD54 ?_ | refine bA54 ?_ _)); exact BK499.out)) : gb499 ≠ gb500)); have n9_ := aM54 ((by rw [hg]; exact Nat.ne_of_gt (blk_lt (g := gb499) (o := .cells #[.int .u8 a1_0, .int .i64 a1_1, .string a1_2] 35 (0, 0)) (by (with_reducible repeat (first | refine bN54 ?_ _ | refine bD54 ?_ | refine bA54 ?_ _)); exact BK499.out)) : gb500 ≠ gb499)); clear BK498; clear BK499; clear HB; have BK498 := n0_; have BK499 := n1_; have HB := n2_; have BK500 := n3_; have GW500 := n4_; have GE500 := n5_; have NB498_500 := n6_; have NB500_498 := n7_; have NB499_500 := n8_; have NB500_499 := n9_; clear n0_ n1_ n2_ n3_ n4_ n5_ n6_ n7_ n8_ n9_; clear hb hbox hg; have hnb8 := NB498_499.out; have hnc8 := NB499_498.out; have hnb9 := NB498_500.out; have hnc9 := NB500_498.out; have hcz10_0 : w7.cell? ⟨gb498, 0, none⟩ = some (.int .u8 a0_0) := (blk_cell BK498.out 0).trans rfl; have hcz10_1 : w7.cell? ⟨gb498, 1, none⟩ = some (.int .i64 a0_1) := (blk_cell BK498.out 1).trans rfl; have hcz10_2 : w7.cell? ⟨gb498, 2, none⟩ = some (.string a0_2) := (blk_cell BK498.out 2).trans rfl; have hfz10_0 := blk_frozen BK498.out 0; have hfz10_1 := blk_frozen BK498.out 1; have hfz10_2 := blk_frozen BK498.out 2; have hnb11 := NB499_500.out; have hnc11 := NB500_499.out; have hcz12_0 : w7.cell? ⟨gb499, 0, none⟩ = some (.int .u8 a1_0) := (blk_cell BK499.out 0).trans rfl; have hcz12_1 : w7.cell? ⟨gb499, 1, none⟩ = some (.int .i64 a1_1) := (blk_cell BK499.out 1).trans rfl; have hcz12_2 : w7.cell? ⟨gb499, 2, none⟩ = some (.string a1_2) := (blk_cell BK499.out 2).trans rfl; have hfz12_0 := blk_frozen BK499.out 0; have hfz12_1 := blk_frozen BK499.out 1; have hfz12_2 := blk_frozen BK499.out 2) | (go_at_call 79; (with_reducible refine (hindsightref02_asked.calls k a0_0 a0_1 a0_2 a1_0 a1_1 a1_2 t501 t502 _ A3.out).mono ?_); rintro e w13 ⟨rfl, hb⟩; have n0_ := aM54 (blk_below (g := gb498) (o := .cells #[.int .u8 a0_0, .int .i64 a0_1, .string a0_2] 35 (0, 0)) (by (with_reducible repeat (first | refine bN54 ?_ _ | refine bD54 ?_ | refine bA54 ?_ _)); exact BK498.out) hb); have n1_ := aM54 (blk_below (g := gb499) (o := .cells #[.int .u8 a1_0, .int .i64 a1_1, .string a1_2] 35 (0, 0)) (by (with_reducible repeat (first | refine bN54 ?_ _ | refine bD54 ?_ | refine bA54 ?_ _)); exact BK499.out) hb); have n2_ := aM54 (blk_below (g := gb500) (o := .cells #[.int .u8 0, .int .i64 0, .string (⟨#[]⟩ : ByteArray)] 35 (0, 0)) (by (with_reducible repeat (first | refine bN54 ?_ _ | refine bD54 ?_ | refine bA54 ?_ _)); exact BK500.out) hb); have n3_ := aM54 (below_step (by repeat (first | (with_reducible first | exact HB.out | apply below_alloc | apply pw_below_drewN | apply below_drew1 | refine bS54 ?_ GE498.out | refine bS54 ?_ GE499.out | refine bS54 ?_ GE500.out) | exact HB.out)) hb); clear BK498; clear BK499; clear BK500; clear HB; have BK498 := n0_; have BK499 := n1_; have BK500 := n2_; have HB := n3_; clear n0_ n1_ n2_ n3_; (try clear hb); (try clear hb2); (try clear hk); (try clear hi)))
 repeat (go_quiet (first | ((with_reducible refine gate_dst (N := 2) rfl ?_); refine box_event ?hg (N := 2) ?hd (cs := #[.int .u8 a0_0, .int .i64 a0_1, .string a0_2]) (t := 35) ?hr ?_; (case hd => rfl); (case hg => rfl); (case hr => first | (go_simp; done) | (go_simp; rfl)); intro gb498 hg w5 hbox hb; have n0_ := aM54 (below_step (by repeat (first | (with_reducible first | exact HB.out | apply below_alloc | apply pw_below_drewN | apply below_drew1) | exact HB.out)) hb); have n1_ := aM54 (hbox); have n2_ := aM54 ((by rw [hg]; exact (below_size (by repeat (first | (with_reducible first | exact HB.out | apply below_alloc | apply pw_below_drewN | apply below_drew1) | exact HB.out))) : w.heap.size ≤ gb498)); have n3_ := aM54 ((by rw [hg]; exact (below_size (by repeat (first | (with_reducible first | exact HB.out | apply below_alloc | apply pw_below_drewN | apply below_drew1) | exact HB.out))) : w.heap.size ≤ gb498)); clear HB; have HB := n0_; have BK498 := n1_; have GW498 := n2_; have GE498 := n3_; clear n0_ n1_ n2_ n3_; clear hb hbox hg) | ((with_reducible refine gate_dst (N := 3) rfl ?_); refine box_event ?hg (N := 3) ?hd (cs := #[.int .u8 a1_0, .int .i64 a1_1, .string a1_2]) (t := 35) ?hr ?_; (case hd => rfl); (case hg => rfl); (case hr => first | (go_simp; done) | (go_simp; rfl)); intro gb499 hg w6 hbox hb; have n0_ := aM54 (blk_below (g := gb498) (o := .cells #[.int .u8 a0_0, .int .i64 a0_1, .string a0_2] 35 (0, 0)) (by (with_reducible repeat (first | refine bN54 ?_ _ | refine bD54 ?_ | refine bA54 ?_ _)); exact BK498.out) hb); have n1_ := aM54 (below_step (by repeat (first | (with_reducible first | exact HB.out | apply below_alloc | apply pw_below_drewN | apply below_drew1 | refine bS54 ?_ GE498.out) | exact HB.out)) hb); have n2_ := aM54 (hbox); have n3_ := aM54 ((by rw [hg]; exact (below_size (by repeat (first | (with_reducible first | exact HB.out | apply below_alloc | apply pw_below_drewN | apply below_drew1 | refine bS54 ?_ GE498.out) | exact HB.out))) : w.heap.size ≤ gb499)); have n4_ := aM54 ((by rw [hg]; exact (below_size (by repeat (first | (with_reducible first | exact HB.out | apply below_alloc | apply pw_below_drewN | apply below_drew1 | refine bS54 ?_ GE498.out) | exact HB.out))) : w.heap.size ≤ gb499)); have n5_ := aM54 ((by rw [hg]; exact Nat.ne_of_lt (blk_lt (g := gb498) (o := .cells #[.int .u8 a0_0, .int .i64 a0_1, .string a0_2] 35 (0, 0)) (by (with_reducible repeat (first | refine bN54 ?_ _ | refine bD54 ?_ | refine bA54 ?_ _)); exact BK498.out)) : gb498 ≠ gb499)); have n6_ := aM54 ((by rw [hg]; exact Nat.ne_of_gt (blk_lt (g := gb498) (o := .cells #[.int .u8 a0_0, .int .i64 a0_1, .string a0_2] 35 (0, 0)) (by (with_reducible repeat (first | refine bN54 ?_ _ | refine bD54 ?_ | refine bA54 ?_ _)); exact BK498.out)) : gb499 ≠ gb498)); clear BK498; clear HB; have BK498 := n0_; have HB := n1_; have BK499 := n2_; have GW499 := n3_; have GE499 := n4_; have NB498_499 := n5_; have NB499_498 := n6_; clear n0_ n1_ n2_ n3_ n4_ n5_ n6_; clear hb hbox hg) | ((with_reducible refine gate_dst (N := 4) rfl ?_); refine box_event ?hg (N := 4) ?hd (cs := #[.int .u8 0, .int .i64 0, .string (⟨#[]⟩ : ByteArray)]) (t := 35) ?hr ?_; (case hd => rfl); (case hg => rfl); (case hr => first | (go_simp; done) | (go_simp; rfl)); intro gb500 hg w7 hbox hb; have n0_ := aM54 (blk_below (g := gb498) (o := .cells #[.int .u8 a0_0, .int .i64 a0_1, .string a0_2] 35 (0, 0)) (by (with_reducible repeat (first | refine bN54 ?_ _ | refine bD54 ?_ | refine bA54 ?_ _)); exact BK498.out) hb); have n1_ := aM54 (blk_below (g := gb499) (o := .cells #[.int .u8 a1_0, .int .i64 a1_1, .string a1_2] 35 (0, 0)) (by (with_reducible repeat (first | refine bN54 ?_ _ | refine bD54 ?_ | refine bA54 ?_ _)); exact BK499.out) hb); have n2_ := aM54 (below_step (by repeat (first | (with_reducible first | exact HB.out | apply below_alloc | apply pw_below_drewN | apply below_drew1 | refine bS54 ?_ GE498.out | refine bS54 ?_ GE499.out) | exact HB.out)) hb); have n3_ := aM54 (hbox); have n4_ := aM54 ((by rw [hg]; exact (below_size (by repeat (first | (with_reducible first | exact HB.out | apply below_alloc | apply pw_below_drewN | apply below_drew1 | refine bS54 ?_ GE498.out | refine bS54 ?_ GE499.out) | exact HB.out))) : w.heap.size ≤ gb500)); have n5_ := aM54 ((by rw [hg]; exact (below_size (by repeat (first | (with_reducible first | exact HB.out | apply below_alloc | apply pw_below_drewN | apply below_drew1 | refine bS54 ?_ GE498.out | refine bS54 ?_ GE499.out) | exact HB.out))) : w.heap.size ≤ gb500)); have n6_ := aM54 ((by rw [hg]; exact Nat.ne_of_lt (blk_lt (g := gb498) (o := .cells #[.int .u8 a0_0, .int .i64 a0_1, .string a0_2] 35 (0, 0)) (by (with_reducible repeat (first | refine bN54 ?_ _ | refine bD54 ?_ | refine bA54 ?_ _)); exact BK498.out)) : gb498 ≠ gb500)); have n7_ := aM54 ((by rw [hg]; exact Nat.ne_of_gt (blk_lt (g := gb498) (o := .cells #[.int .u8 a0_0, .int .i64 a0_1, .string a0_2] 35 (0, 0)) (by (with_reducible repeat (first | refine bN54 ?_ _ | refine bD54 ?_ | refine bA54 ?_ _)); exact BK498.out)) : gb500 ≠ gb498)); have n8_ := aM54 ((by rw [hg]; exact Nat.ne_of_lt (blk_lt (g := gb499) (o := .cells #[.int .u8 a1_0, .int .i64 a1_1, .string a1_2] 35 (0, 0)) (by (with_reducible repeat (first | refine bN54 ?_ _ | refine bD54 ?_ | refine bA54 ?_ _)); exact BK499.out)) : gb499 ≠ gb500)); have n9_ := aM54 ((by rw [hg]; exact Nat.ne_of_gt (blk_lt (g := gb499) (o := .cells #[.int .u8 a1_0, .int .i64 a1_1, .string a1_2] 35 (0, 0)) (by (with_reducible repeat (first | refine bN54 ?_ _ | refine bD54 ?_ | refine bA54 ?_ _)); exact BK499.out)) : gb500 ≠ gb499)); clear BK498; clear BK499; clear HB; have BK498 := n0_; have BK499 := n1_; have HB := n2_; have BK500 := n3_; have GW500 := n4_; have GE500 := n5_; have NB498_500 := n6_; have NB500_498 := n7_; have NB499_500 := n8_; have NB500_499 := n9_; clear n0_ n1_ n2_ n3_ n4_ n5_ n6_ n7_ n8_ n9_; clear hb hbox hg; have hnb8 := NB498_499.out; have hnc8 := NB499_498.out; have hnb9 := NB498_500.out; have hnc9 := NB500_498.out; have hcz10_0 : w7.cell? ⟨gb498, 0, none⟩ = some (.int .u8 a0_0) := (blk_cell BK498.out 0).trans rfl; have hcz10_1 : w7.cell? ⟨gb498, 1, none⟩ = some (.int .i64 a0_1) := (blk_cell BK498.out 1).trans rfl; have hcz10_2 : w7.cell? ⟨gb498, 2, none⟩ = some (.string a0_2) := (blk_cell BK498.out 2).trans rfl; have hfz10_0 := blk_frozen BK498.out 0; have hfz10_1 := blk_frozen BK498.out 1; have hfz10_2 := blk_frozen BK498.out 2; have hnb11 := NB499_500.out; have hnc11 := NB500_499.out; have hcz12_0 : w7.cell? ⟨gb499, 0, none⟩ = some (.int .u8 a1_0) := (blk_cell BK499.out 0).trans rfl; have hcz12_1 : w7.cell? ⟨gb499, 1, none⟩ = some (.int .i64 a1_1) := (blk_cell BK499.out 1).trans rfl; have hcz12_2 : w7.cell? ⟨gb499, 2, none⟩ = some (.string a1_2) := (blk_cell BK499.out 2).trans rfl; have hfz12_0 := blk_frozen BK499.out 0; have hfz12_1 := blk_frozen BK499.out 1; have hfz12_2 := blk_frozen BK499.out 2) | (go_at_call 79; (with_reducible refine (hindsightref02_asked.calls k a0_0 a0_1 a0_2 a1_0 a1_1 a1_2 t501 t502 _ A3.out).mono ?_); rintro e w13 ⟨rfl, hb⟩; have n0_ := aM54 (blk_below (g := gb498) (o := .cells #[.int .u8 a0_0, .int .i64 a0_1, .string a0_2] 35 (0, 0)) (by (with_reducible repeat (first | refine bN54 ?_ _ | refine bD54 ?_ | refine bA54 ?_ _)); exact BK498.out) hb); have n1_ := aM54 (blk_below (g := gb499) (o := .cells #[.int .u8 a1_0, .int .i64 a1_1, .string a1_2] 35 (0, 0)) (by (with_reducible repeat (first | refine bN54 ?_ _ | refine bD54 ?_ | refine bA54 ?_ _)); exact BK499.out) hb); have n2_ := aM54 (blk_below (g := gb500) (o := .cells #[.int .u8 0, .int .i64 0, .string (⟨#[]⟩ : ByteArray)] 35 (0, 0)) (by (with_reducible repeat (first | refine bN54 ?_ _ | refine bD54 ?_ | refine bA54 ?_ _)); exact BK500.out) hb); have n3_ := aM54 (below_step (by repeat (first | (with_reducible first | exact HB.out | apply below_alloc | apply pw_below_drewN | apply below_drew1 | refine bS54 ?_ GE498.out | refine bS54 ?_ GE499.out | refine bS54 ?_ GE500.out) | exact HB.out)) hb); clear BK498; clear BK499; clear BK500; clear HB; have BK498 := n0_; have BK499 := n1_; have BK500 := n2_; have HB := n3_; clear n0_ n1_ n2_ n3_; (try clear hb); (try clear hb2); (try clear hk); (try clear hi))); go_upto_region 2 with (first | ((with_reducible refine gate_dst (N := 2) rfl ?_); refine box_event ?hg (N := 2) ?hd (cs := #[.int .u8 a0_0, .int .i64 a0_1, .string a0_2]) (t := 35) ?hr ?_; (case hd => rfl); (case hg => rfl); (case hr => first | (go_simp; done) | (go_simp; rfl)); intro gb498 hg w5 hbox hb; have n0_ := aM54 (below_step (by repeat (first | (with_reducible first | exact HB.out | apply below_alloc | apply pw_below_drewN | apply below_drew1) | exact HB.out)) hb); have n1_ := aM54 (hbox); have n2_ := aM54 ((by rw [hg]; exact (below_size (by repeat (first | (with_reducible first | exact HB.out | apply below_alloc | apply pw_below_drewN | apply below_drew1) | exact HB.out))) : w.heap.size ≤ gb498)); have n3_ := aM54 ((by rw [hg]; exact (below_size (by repeat (first | (with_reducible first | exact HB.out | apply below_alloc | apply pw_below_drewN | apply below_drew1) | exact HB.out))) : w.heap.size ≤ gb498)); clear HB; have HB := n0_; have BK498 := n1_; have GW498 := n2_; have GE498 := n3_; clear n0_ n1_ n2_ n3_; clear hb hbox hg) | ((with_reducible refine gate_dst (N := 3) rfl ?_); refine box_event ?hg (N := 3) ?hd (cs := #[.int .u8 a1_0, .int .i64 a1_1, .string a1_2]) (t := 35) ?hr ?_; (case hd => rfl); (case hg => rfl); (case hr => first | (go_simp; done) | (go_simp; rfl)); intro gb499 hg w6 hbox hb; have n0_ := aM54 (blk_below (g := gb498) (o := .cells #[.int .u8 a0_0, .int .i64 a0_1, .string a0_2] 35 (0, 0)) (by (with_reducible repeat (first | refine bN54 ?_ _ | refine bD54 ?_ | refine bA54 ?_ _)); exact BK498.out) hb); have n1_ := aM54 (below_step (by repeat (first | (with_reducible first | exact HB.out | apply below_alloc | apply pw_below_drewN | apply below_drew1 | refine bS54 ?_ GE498.out) | exact HB.out)) hb); have n2_ := aM54 (hbox); have n3_ := aM54 ((by rw [hg]; exact (below_size (by repeat (first | (with_reducible first | exact HB.out | apply below_alloc | apply pw_below_drewN | apply below_drew1 | refine bS54 ?_ GE498.out) | exact HB.out))) : w.heap.size ≤ gb499)); have n4_ := aM54 ((by rw [hg]; exact (below_size (by repeat (first | (with_reducible first | exact HB.out | apply below_alloc | apply pw_below_drewN | apply below_drew1 | refine bS54 ?_ GE498.out) | exact HB.out))) : w.heap.size ≤ gb499)); have n5_ := aM54 ((by rw [hg]; exact Nat.ne_of_lt (blk_lt (g := gb498) (o := .cells #[.int .u8 a0_0, .int .i64 a0_1, .string a0_2] 35 (0, 0)) (by (with_reducible repeat (first | refine bN54 ?_ _ | refine bD54 ?_ | refine bA54 ?_ _)); exact BK498.out)) : gb498 ≠ gb499)); have n6_ := aM54 ((by rw [hg]; exact Nat.ne_of_gt (blk_lt (g := gb498) (o := .cells #[.int .u8 a0_0, .int .i64 a0_1, .string a0_2] 35 (0, 0)) (by (with_reducible repeat (first | refine bN54 ?_ _ | refine bD54 ?_ | refine bA54 ?_ _)); exact BK498.out)) : gb499 ≠ gb498)); clear BK498; clear HB; have BK498 := n0_; have HB := n1_; have BK499 := n2_; have GW499 := n3_; have GE499 := n4_; have NB498_499 := n5_; have NB499_498 := n6_; clear n0_ n1_ n2_ n3_ n4_ n5_ n6_; clear hb hbox hg) | ((with_reducible refine gate_dst (N := 4) rfl ?_); refine box_event ?hg (N := 4) ?hd (cs := #[.int .u8 0, .int .i64 0, .string (⟨#[]⟩ : ByteArray)]) (t := 35) ?hr ?_; (case hd => rfl); (case hg => rfl); (case hr => first | (go_simp; done) | (go_simp; rfl)); intro gb500 hg w7 hbox hb; have n0_ := aM54 (blk_below (g := gb498) (o := .cells #[.int .u8 a0_0, .int .i64 a0_1, .string a0_2] 35 (0, 0)) (by (with_reducible repeat (first | refine bN54 ?_ _ | refine bD54 ?_ | refine bA54 ?_ _)); exact BK498.out) hb); have n1_ := aM54 (blk_below (g := gb499) (o := .cells #[.int .u8 a1_0, .int .i64 a1_1, .string a1_2] 35 (0, 0)) (by (with_reducible repeat (first | refine bN54 ?_ _ | refine bD54 ?_ | refine bA54 ?_ _)); exact BK499.out) hb); have n2_ := aM54 (below_step (by repeat (first | (with_reducible first | exact HB.out | apply below_alloc | apply pw_below_drewN | apply below_drew1 | refine bS54 ?_ GE498.out | refine bS54 ?_ GE499.out) | exact HB.out)) hb); have n3_ := aM54 (hbox); have n4_ := aM54 ((by rw [hg]; exact (below_size (by repeat (first | (with_reducible first | exact HB.out | apply below_alloc | apply pw_below_drewN | apply below_drew1 | refine bS54 ?_ GE498.out | refine bS54 ?_ GE499.out) | exact HB.out))) : w.heap.size ≤ gb500)); have n5_ := aM54 ((by rw [hg]; exact (below_size (by repeat (first | (with_reducible first | exact HB.out | apply below_alloc | apply pw_below_drewN | apply below_drew1 | refine bS54 ?_ GE498.out | refine bS54 ?_ GE499.out) | exact HB.out))) : w.heap.size ≤ gb500)); have n6_ := aM54 ((by rw [hg]; exact Nat.ne_of_lt (blk_lt (g := gb498) (o := .cells #[.int .u8 a0_0, .int .i64 a0_1, .string a0_2] 35 (0, 0)) (by (with_reducible repeat (first | refine bN54 ?_ _ | refine bD54 ?_ | refine bA54 ?_ _)); exact BK498.out)) : gb498 ≠ gb500)); have n7_ := aM54 ((by rw [hg]; exact Nat.ne_of_gt (blk_lt (g := gb498) (o := .cells #[.int .u8 a0_0, .int .i64 a0_1, .string a0_2] 35 (0, 0)) (by (with_reducible repeat (first | refine bN54 ?_ _ | refine bD54 ?_ | refine bA54 ?_ _)); exact BK498.out)) : gb500 ≠ gb498)); have n8_ := aM54 ((by rw [hg]; exact Nat.ne_of_lt (blk_lt (g := gb499) (o := .cells #[.int .u8 a1_0, .int .i64 a1_1, .string a1_2] 35 (0, 0)) (by (with_reducible repeat (first | refine bN54 ?_ _ | refine bD54 ?_ | refine bA54 ?_ _)); exact BK499.out)) : gb499 ≠ gb500)); have n9_ := aM54 ((by rw [hg]; exact Nat.ne_of_gt (blk_lt (g := gb499) (o := .cells #[.int .u8 a1_0, .int .i64 a1_1, .string a1_2] 35 (0, 0)) (by (with_reducible repeat (first | refine bN54 ?_ _ | refine bD54 ?_ | refine bA54 ?_ _)); exact BK499.out)) : gb500 ≠ gb499)); clear BK498; clear BK499; clear HB; have BK498 := n0_; have BK499 := n1_; have HB := n2_; have BK500 := n3_; have GW500 := n4_; have GE500 := n5_; have NB498_500 := n6_; have NB500_498 := n7_; have NB499_500 := n8_; have NB500_499 := n9_; clear n0_ n1_ n2_ n3_ n4_ n5_ n6_ n7_ n8_ n9_; clear hb hbox hg; have hnb8 := NB498_499.out; have hnc8 := NB499_498.out; have hnb9 := NB498_500.out; have hnc9 := NB500_498.out; have hcz10_0 : w7.cell? ⟨gb498, 0, none⟩ = some (.int .u8 a0_0) := (blk_cell BK498.out 0).trans rfl; have hcz10_1 : w7.cell? ⟨gb498, 1, none⟩ = some (.int .i64 a0_1) := (blk_cell BK498.out 1).trans rfl; have hcz10_2 : w7.cell? ⟨gb498, 2, none⟩ = some (.string a0_2) := (blk_cell BK498.out 2).trans rfl; have hfz10_0 := blk_frozen BK498.out 0; have hfz10_1 := blk_frozen BK498.out 1; have hfz10_2 := blk_frozen BK498.out 2; have hnb11 := NB499_500.out; have hnc11 := NB500_499.out; have hcz12_0 : w7.cell? ⟨gb499, 0, none⟩ = some (.int .u8 a1_0) := (blk_cell BK499.out 0).trans rfl; have hcz12_1 : w7.cell? ⟨gb499, 1, none⟩ = some (.int .i64 a1_1) := (blk_cell BK499.out 1).trans rfl; have hcz12_2 : w7.cell? ⟨gb499, 2, none⟩ = some (.string a1_2) := (blk_cell BK499.out 2).trans rfl; have hfz12_0 := blk_frozen BK499.out 0; have hfz12_1 := blk_frozen BK499.out 1; have hfz12_2 := blk_frozen BK499.out 2) | (go_at_call 79; (with_reducible refine (hindsightref02_asked.calls k a0_0 a0_1 a0_2 a1_0 a1_1 a1_2 t501 t502 _ A3.out).mono ?_); rintro e w13 ⟨rfl, hb⟩; have n0_ := aM54 (blk_below (g := gb498) (o := .cells #[.int .u8 a0_0, .int .i64 a0_1, .string a0_2] 35 (0, 0)) (by (with_reducible repeat (first | refine bN54 ?_ _ | refine bD54 ?_ | refine bA54 ?_ _)); exact BK498.out) hb); have n1_ := aM54 (blk_below (g := gb499) (o := .cells #[.int .u8 a1_0, .int .i64 a1_1, .string a1_2] 35 (0, 0)) (by (with_reducible repeat (first | refine bN54 ?_ _ | refine bD54 ?_ | refine bA54 ?_ _)); exact BK499.out) hb); have n2_ := aM54 (blk_below (g := gb500) (o := .cells #[.int .u8 0, .int .i64 0, .string (⟨#[]⟩ : ByteArray)] 35 (0, 0)) (by (with_reducible repeat (first | refine bN54 ?_ _ | refine bD54 ?_ | refine bA54 ?_ _)); exact BK500.out) hb); have n3_ := aM54 (below_step (by repeat (first | (with_reducible first | exact HB.out | apply below_alloc | apply pw_below_drewN | apply below_drew1 | refine bS54 ?_ GE498.out | refine bS54 ?_ GE499.out | refine bS54 ?_ GE500.out) | exact HB.out)) hb); clear BK498; clear BK499; clear BK500; clear HB; have BK498 := n0_; have BK499 := n1_; have BK500 := n2_; have HB := n3_; clear n0_ n1_ n2_ n3_; (try clear hb); (try clear hb2); (try clear hk); (try clear hi))))
 (try simp only [Act.put, List.setIfInBounds_toArray, List.set_cons_zero, List.set_cons_succ])
 go_cut [21] (fun v21 wc => ∃ (kq : Nat) (x21_3 : Bool), v21 = .bool x21_3 ∧ Aside0 (hindsightref02_Mul.j0 kq t502 x21_3 a0_0 a0_1 a0_2 a1_0 a1_1 a1_2 = some (r1, r2, r3, r4)) ∧ Aside0 (kq ≤ k) ∧ Aside0 (wc.heap[gb498]? = some (.cells #[.int .u8 a0_0, .int .i64 a0_1, .string a0_2] 35 (0, 0))) ∧ Aside0 (wc.heap[gb499]? = some (.cells #[.int .u8 a1_0, .int .i64 a1_1, .string a1_2] 35 (0, 0))) ∧ Aside0 (wc.heap[gb500]? = some (.cells #[.int .u8 0, .int .i64 0, .string (⟨#[]⟩ : ByteArray)] 35 (0, 0))) ∧ Aside0 (Below w.heap.size w wc))
 case first =>
  have H := HC4.out
  clear HC4
  by_cases c14 : t502 = 0
  ·rw [if_pos c14] at H
   have c14b0 : (t502 == 0) = true := beq_iff_eq.mpr c14
   have c14b1 : (t502 != 0) = false := bne_eq_false_iff_eq.mpr c14
   clear c14
   (first | rw [c14b0] | (simp only [i64_w, i32_w]; rw [c14b0]) | skip)
   have H' := aM54 H
   clear H
   go_wp2
   repeat (go_quiet (fail); try go_wp2)
   go_meet
   case rel => exact ⟨_, (t501), (by first | rfl | (simp; done) | (simp [*]; done)), H', ⟨by first | omega | exact Nat.le_refl _⟩, ⟨by (with_reducible repeat (first | refine bN54 ?_ _ | refine bD54 ?_ | refine bA54 ?_ _)); exact BK498.out⟩, ⟨by (with_reducible repeat (first | refine bN54 ?_ _ | refine bD54 ?_ | refine bA54 ?_ _)); exact BK499.out⟩, ⟨by (with_reducible repeat (first | refine bN54 ?_ _ | refine bD54 ?_ | refine bA54 ?_ _)); exact BK500.out⟩, ⟨by repeat (first | (with_reducible first | exact HB.out | apply below_alloc | apply pw_below_drewN | apply below_drew1 | refine bS54 ?_ GE498.out | refine bS54 ?_ GE499.out | refine bS54 ?_ GE500.out) | exact HB.out)⟩⟩
  ·rw [if_neg c14] at H
   have c14b0 : (t502 == 0) = false := beq_eq_false_iff_ne.mpr c14
   have c14b1 : (t502 != 0) = true := bne_iff_ne.mpr c14
   (first | rw [c14b0] | (simp only [i64_w, i32_w]; rw [c14b0]) | skip)
   have H' := aM54 H
   clear H
   go_wp2
   repeat (go_quiet (fail); try go_wp2)
   go_meet
   case rel => exact ⟨_, (true), (by first | rfl | (simp; done) | (simp [*]; done)), H', ⟨by first | omega | exact Nat.le_refl _⟩, ⟨by (with_reducible repeat (first | refine bN54 ?_ _ | refine bD54 ?_ | refine bA54 ?_ _)); exact BK498.out⟩, ⟨by (with_reducible repeat (first | refine bN54 ?_ _ | refine bD54 ?_ | refine bA54 ?_ _)); exact BK499.out⟩, ⟨by (with_reducible repeat (first | refine bN54 ?_ _ | refine bD54 ?_ | refine bA54 ?_ _)); exact BK500.out⟩, ⟨by repeat (first | (with_reducible first | exact HB.out | apply below_alloc | apply pw_below_drewN | apply below_drew1 | refine bS54 ?_ GE498.out | refine bS54 ?_ GE499.out | refine bS54 ?_ GE500.out) | exact HB.out)⟩⟩
 case rest =>
  clear HC4
  try clear c1
  try clear p2
  try clear c5
  try clear c8
  try clear c9
  try clear c11
  try clear c14
  try clear c14b0
  try clear c14b1
  try clear hcz10_0
  try clear hcz10_1
  try clear hcz10_2
  try clear hcz12_0
  try clear hcz12_1
  try clear hcz12_2
  try clear hfz10_0
  try clear hfz10_1
  try clear hfz10_2
  try clear hfz12_0
  try clear hfz12_1
  try clear hfz12_2
  obtain ⟨kq, x21_3, rfl, HA, HJ3, BK498, BK499, BK500, HB⟩ := hcut
  cases kq with
  | zero => exact absurd HA.out (by simp [hindsightref02_Mul.j0])
  | succ kj3 =>
   have H := HA.out
   clear HA
   simp only [hindsightref02_Mul.j0] at H
   by_cases c15 : x21_3 = true
   ·subst c15
    have H1 : (some (0, 0, (⟨#[]⟩ : ByteArray), t502)) = some (r1, r2, r3, r4) := by rw [if_pos rfl] at H; exact H
    clear H
    have H := H1
    clear H1
    simp only [Option.some.injEq, Prod.mk.injEq] at H
    obtain ⟨rfl, rfl, rfl, rfl⟩ := H
    have hnb16 := NB500_498.out
    have hnc16 := NB498_500.out
    have hnb17 := NB500_499.out
    have hnc17 := NB499_500.out
    have hcz18_0 : wc.cell? ⟨gb500, 0, none⟩ = some (.int .u8 0) := (blk_cell BK500.out 0).trans rfl
    have hcz18_1 : wc.cell? ⟨gb500, 1, none⟩ = some (.int .i64 0) := (blk_cell BK500.out 1).trans rfl
    have hcz18_2 : wc.cell? ⟨gb500, 2, none⟩ = some (.string (⟨#[]⟩ : ByteArray)) := (blk_cell BK500.out 2).trans rfl
    have hfz18_0 := blk_frozen BK500.out 0
    have hfz18_1 := blk_frozen BK500.out 1
    have hfz18_2 := blk_frozen BK500.out 2
    go_wp2
    repeat (go_quiet (fail); try go_wp2)
    refine bodyPost_ret (results_ct rfl _ _ gb500 35 #[.int .u8 0, .int .i64 0, .string (⟨#[]⟩ : ByteArray)] (0, 0) _ rfl (by (with_reducible repeat (first | refine bN54 ?_ _ | refine bD54 ?_ | refine bA54 ?_ _)); refine blk_put (cs := #[.int .u8 0, .int .i64 0, .string (⟨#[]⟩ : ByteArray)]) ?_ 2 _ rfl; (with_reducible repeat (first | refine bN54 ?_ _ | refine bD54 ?_ | refine bA54 ?_ _)); refine blk_put (cs := #[.int .u8 0, .int .i64 0, .string (⟨#[]⟩ : ByteArray)]) ?_ 1 _ rfl; (with_reducible repeat (first | refine bN54 ?_ _ | refine bD54 ?_ | refine bA54 ?_ _)); refine blk_put (cs := #[.int .u8 0, .int .i64 0, .string (⟨#[]⟩ : ByteArray)]) ?_ 0 _ rfl; (with_reducible repeat (first | refine bN54 ?_ _ | refine bD54 ?_ | refine bA54 ?_ _)); exact BK500.out) Try.underlying35 rfl (by kernel_rfl)) rfl ?_
    exact ⟨by first | rfl | (simp [errW_none, errW_some] <;> rfl) | (simp [*, errW_none, errW_some] <;> rfl), by repeat (first | (with_reducible first | exact HB.out | apply below_alloc | apply pw_below_drewN | apply below_drew1 | refine bS54 ?_ GE498.out | refine bS54 ?_ GE499.out | refine bS54 ?_ GE500.out) | exact HB.out)⟩
   ·replace c15 := Bool.eq_false_iff.mpr c15
    subst c15
    have H1 : (if a0_1 = 0 then (hindsightref02_Mul.j1 kj3 t502 a0_1 a1_1 true) else (hindsightref02_Mul.j1 kj3 t502 a0_1 a1_1 (a1_1 == 0))) = some (r1, r2, r3, r4) := by rw [if_neg (show ¬ (false = true) by decide)] at H; exact H
    clear H
    have H := H1
    clear H1
    have HC19 := aM54 H
    clear H
    have hnb20 := NB498_499.out
    have hnc20 := NB499_498.out
    have hnb21 := NB498_500.out
    have hnc21 := NB500_498.out
    have hcz22_0 : wc.cell? ⟨gb498, 0, none⟩ = some (.int .u8 a0_0) := (blk_cell BK498.out 0).trans rfl
    have hcz22_1 : wc.cell? ⟨gb498, 1, none⟩ = some (.int .i64 a0_1) := (blk_cell BK498.out 1).trans rfl
    have hcz22_2 : wc.cell? ⟨gb498, 2, none⟩ = some (.string a0_2) := (blk_cell BK498.out 2).trans rfl
    have hfz22_0 := blk_frozen BK498.out 0
    have hfz22_1 := blk_frozen BK498.out 1
    have hfz22_2 := blk_frozen BK498.out 2
    have hnb23 := NB499_500.out
    have hnc23 := NB500_499.out
    have hcz24_0 : wc.cell? ⟨gb499, 0, none⟩ = some (.int .u8 a1_0) := (blk_cell BK499.out 0).trans rfl
    have hcz24_1 : wc.cell? ⟨gb499, 1, none⟩ = some (.int .i64 a1_1) := (blk_cell BK499.out 1).trans rfl
    have hcz24_2 : wc.cell? ⟨gb499, 2, none⟩ = some (.string a1_2) := (blk_cell BK499.out 2).trans rfl
    have hfz24_0 := blk_frozen BK499.out 0
    have hfz24_1 := blk_frozen BK499.out 1
    have hfz24_2 := blk_frozen BK499.out 2
    go_upto_region 5 with (fail)
    repeat (go_quiet (fail); go_upto_region 5 with (fail))
    go_cut [33] (fun v33 wc => ∃ (kq : Nat) (x33_18 : Bool), v33 = .bool x33_18 ∧ Aside0 (hindsightref02_Mul.j1 kq t502 a0_1 a1_1 x33_18 = some (r1, r2, r3, r4)) ∧ Aside0 (kq ≤ kj3) ∧ Aside0 (wc.heap[gb498]? = some (.cells #[.int .u8 a0_0, .int .i64 a0_1, .string a0_2] 35 (0, 0))) ∧ Aside0 (wc.heap[gb499]? = some (.cells #[.int .u8 a1_0, .int .i64 a1_1, .string a1_2] 35 (0, 0))) ∧ Aside0 (wc.heap[gb500]? = some (.cells #[.int .u8 0, .int .i64 0, .string (⟨#[]⟩ : ByteArray)] 35 (0, 0))) ∧ Aside0 (Below w.heap.size w wc))
    case first =>
     have H := HC19.out
     clear HC19
     by_cases c25 : a0_1 = 0
     ·rw [if_pos c25] at H
      have c25b0 : (a0_1 == 0) = true := beq_iff_eq.mpr c25
      have c25b1 : (a0_1 != 0) = false := bne_eq_false_iff_eq.mpr c25
      clear c25
      (first | rw [c25b0] | (simp only [i64_w, i32_w]; rw [c25b0]) | skip)
      have H' := aM54 H
      clear H
      go_wp2
      repeat (go_quiet (fail); try go_wp2)
      go_meet
      case rel => exact ⟨_, (true), (by first | rfl | (simp; done) | (simp [*]; done)), H', ⟨by have := HJ3.out; first | omega | exact Nat.le_refl _⟩, ⟨by (with_reducible repeat (first | refine bN54 ?_ _ | refine bD54 ?_ | refine bA54 ?_ _)); exact BK498.out⟩, ⟨by (with_reducible repeat (first | refine bN54 ?_ _ | refine bD54 ?_ | refine bA54 ?_ _)); exact BK499.out⟩, ⟨by (with_reducible repeat (first | refine bN54 ?_ _ | refine bD54 ?_ | refine bA54 ?_ _)); exact BK500.out⟩, ⟨by repeat (first | (with_reducible first | exact HB.out | apply below_alloc | apply pw_below_drewN | apply below_drew1 | refine bS54 ?_ GE498.out | refine bS54 ?_ GE499.out | refine bS54 ?_ GE500.out) | exact HB.out)⟩⟩
     ·rw [if_neg c25] at H
      have c25b0 : (a0_1 == 0) = false := beq_eq_false_iff_ne.mpr c25
      have c25b1 : (a0_1 != 0) = true := bne_iff_ne.mpr c25
      (first | rw [c25b0] | (simp only [i64_w, i32_w]; rw [c25b0]) | skip)
      have H' := aM54 H
      clear H
      go_wp2
      repeat (go_quiet (fail); try go_wp2)
      go_meet
      case rel => exact ⟨_, ((a1_1 == 0)), (by first | rfl | (simp; done) | (simp [*]; done)), H', ⟨by have := HJ3.out; first | omega | exact Nat.le_refl _⟩, ⟨by (with_reducible repeat (first | refine bN54 ?_ _ | refine bD54 ?_ | refine bA54 ?_ _)); exact BK498.out⟩, ⟨by (with_reducible repeat (first | refine bN54 ?_ _ | refine bD54 ?_ | refine bA54 ?_ _)); exact BK499.out⟩, ⟨by (with_reducible repeat (first | refine bN54 ?_ _ | refine bD54 ?_ | refine bA54 ?_ _)); exact BK500.out⟩, ⟨by repeat (first | (with_reducible first | exact HB.out | apply below_alloc | apply pw_below_drewN | apply below_drew1 | refine bS54 ?_ GE498.out | refine bS54 ?_ GE499.out | refine bS54 ?_ GE500.out) | exact HB.out)⟩⟩
    case rest =>
     clear HC19
     try clear c1
     try clear c2
     try clear p2
     try clear c5
     try clear c8
     try clear c9
     try clear c11
     try clear c14
     try clear c14b0
     try clear c14b1
     try clear c15
     try clear c16
     try clear c17
     try clear c20
     try clear c21
     try clear c23
     try clear c25
     try clear c25b0
     try clear c25b1
     try clear hcz10_0
     try clear hcz10_1
     try clear hcz10_2
     try clear hcz12_0
     try clear hcz12_1
     try clear hcz12_2
     try clear hcz18_0
     try clear hcz18_1
     try clear hcz18_2
     try clear hcz22_0
     try clear hcz22_1
     try clear hcz22_2
     try clear hcz24_0
     try clear hcz24_1
     try clear hcz24_2
     try clear hfz10_0
     try clear hfz10_1
     try clear hfz10_2
     try clear hfz12_0
     try clear hfz12_1
     try clear hfz12_2
     try clear hfz18_0
     try clear hfz18_1
     try clear hfz18_2
     try clear hfz22_0
     try clear hfz22_1
     try clear hfz22_2
     try clear hfz24_0
     try clear hfz24_1
     try clear hfz24_2
     try clear p2
     obtain ⟨kq, x33_18, rfl, HA, HJ18, BK498, BK499, BK500, HB⟩ := hcut
     cases kq with
     | zero => exact absurd HA.out (by simp [hindsightref02_Mul.j1])
     | succ kj18 =>
      have H := HA.out
      clear HA
      simp only [hindsightref02_Mul.j1] at H
      by_cases c26 : x33_18 = true
      ·subst c26
       have H1 : ((hindsightref02_Number.f 0).bind fun bt503 => (some (bt503.1, bt503.2.1, bt503.2.2, t502))) = some (r1, r2, r3, r4) := by rw [if_pos rfl] at H; exact H
       clear H
       have H := H1
       clear H1
       replace H := Option.bind_eq_some_iff.mp H
       obtain ⟨⟨t503, t504, t505⟩, A270, H⟩ := H
       replace H : (some (t503, t504, t505, t502)) = some (r1, r2, r3, r4) := H
       have A27 := aM54 A270
       clear A270
       simp only [Option.some.injEq, Prod.mk.injEq] at H
       obtain ⟨rfl, rfl, rfl, rfl⟩ := H
       go_wp2_with (first | (go_at_call 32; (with_reducible refine (hindsightref02_Number.calls 0 t503 t504 t505 _ A27.out).mono ?_); rintro e w28 ⟨rfl, hb⟩; have n0_ := aM54 (blk_below (g := gb498) (o := .cells #[.int .u8 a0_0, .int .i64 a0_1, .string a0_2] 35 (0, 0)) (by (with_reducible repeat (first | refine bN54 ?_ _ | refine bD54 ?_ | refine bA54 ?_ _)); exact BK498.out) hb); have n1_ := aM54 (blk_below (g := gb499) (o := .cells #[.int .u8 a1_0, .int .i64 a1_1, .string a1_2] 35 (0, 0)) (by (with_reducible repeat (first | refine bN54 ?_ _ | refine bD54 ?_ | refine bA54 ?_ _)); exact BK499.out) hb); have n2_ := aM54 (blk_below (g := gb500) (o := .cells #[.int .u8 0, .int .i64 0, .string (⟨#[]⟩ : ByteArray)] 35 (0, 0)) (by (with_reducible repeat (first | refine bN54 ?_ _ | refine bD54 ?_ | refine bA54 ?_ _)); exact BK500.out) hb); have n3_ := aM54 (below_step (by repeat (first | (with_reducible first | exact HB.out | apply below_alloc | apply pw_below_drewN | apply below_drew1 | refine bS54 ?_ GE498.out | refine bS54 ?_ GE499.out | refine bS54 ?_ GE500.out) | exact HB.out)) hb); clear BK498; clear BK499; clear BK500; clear HB; have BK498 := n0_; have BK499 := n1_; have BK500 := n2_; have HB := n3_; clear n0_ n1_ n2_ n3_; (try clear hb); (try clear hb2); (try clear hk); (try clear hi); have hnb29 := NB500_498.out; have hnc29 := NB498_500.out; have hnb30 := NB500_499.out; have hnc30 := NB499_500.out; have hcz31_0 : w28.cell? ⟨gb500, 0, none⟩ = some (.int .u8 0) := (blk_cell BK500.out 0).trans rfl; have hcz31_1 : w28.cell? ⟨gb500, 1, none⟩ = some (.int .i64 0) := (blk_cell BK500.out 1).trans rfl; have hcz31_2 : w28.cell? ⟨gb500, 2, none⟩ = some (.string (⟨#[]⟩ : ByteArray)) := (blk_cell BK500.out 2).trans rfl; have hfz31_0 := blk_frozen BK500.out 0; have hfz31_1 := blk_frozen BK500.out 1; have hfz31_2 := blk_frozen BK500.out 2))
       repeat (go_quiet (first | (go_at_call 32; (with_reducible refine (hindsightref02_Number.calls 0 t503 t504 t505 _ A27.out).mono ?_); rintro e w28 ⟨rfl, hb⟩; have n0_ := aM54 (blk_below (g := gb498) (o := .cells #[.int .u8 a0_0, .int .i64 a0_1, .string a0_2] 35 (0, 0)) (by (with_reducible repeat (first | refine bN54 ?_ _ | refine bD54 ?_ | refine bA54 ?_ _)); exact BK498.out) hb); have n1_ := aM54 (blk_below (g := gb499) (o := .cells #[.int .u8 a1_0, .int .i64 a1_1, .string a1_2] 35 (0, 0)) (by (with_reducible repeat (first | refine bN54 ?_ _ | refine bD54 ?_ | refine bA54 ?_ _)); exact BK499.out) hb); have n2_ := aM54 (blk_below (g := gb500) (o := .cells #[.int .u8 0, .int .i64 0, .string (⟨#[]⟩ : ByteArray)] 35 (0, 0)) (by (with_reducible repeat (first | refine bN54 ?_ _ | refine bD54 ?_ | refine bA54 ?_ _)); exact BK500.out) hb); have n3_ := aM54 (below_step (by repeat (first | (with_reducible first | exact HB.out | apply below_alloc | apply pw_below_drewN | apply below_drew1 | refine bS54 ?_ GE498.out | refine bS54 ?_ GE499.out | refine bS54 ?_ GE500.out) | exact HB.out)) hb); clear BK498; clear BK499; clear BK500; clear HB; have BK498 := n0_; have BK499 := n1_; have BK500 := n2_; have HB := n3_; clear n0_ n1_ n2_ n3_; (try clear hb); (try clear hb2); (try clear hk); (try clear hi); have hnb29 := NB500_498.out; have hnc29 := NB498_500.out; have hnb30 := NB500_499.out; have hnc30 := NB499_500.out; have hcz31_0 : w28.cell? ⟨gb500, 0, none⟩ = some (.int .u8 0) := (blk_cell BK500.out 0).trans rfl; have hcz31_1 : w28.cell? ⟨gb500, 1, none⟩ = some (.int .i64 0) := (blk_cell BK500.out 1).trans rfl; have hcz31_2 : w28.cell? ⟨gb500, 2, none⟩ = some (.string (⟨#[]⟩ : ByteArray)) := (blk_cell BK500.out 2).trans rfl; have hfz31_0 := blk_frozen BK500.out 0; have hfz31_1 := blk_frozen BK500.out 1; have hfz31_2 := blk_frozen BK500.out 2)); try go_wp2_with (first | (go_at_call 32; (with_reducible refine (hindsightref02_Number.calls 0 t503 t504 t505 _ A27.out).mono ?_); rintro e w28 ⟨rfl, hb⟩; have n0_ := aM54 (blk_below (g := gb498) (o := .cells #[.int .u8 a0_0, .int .i64 a0_1, .string a0_2] 35 (0, 0)) (by (with_reducible repeat (first | refine bN54 ?_ _ | refine bD54 ?_ | refine bA54 ?_ _)); exact BK498.out) hb); have n1_ := aM54 (blk_below (g := gb499) (o := .cells #[.int .u8 a1_0, .int .i64 a1_1, .string a1_2] 35 (0, 0)) (by (with_reducible repeat (first | refine bN54 ?_ _ | refine bD54 ?_ | refine bA54 ?_ _)); exact BK499.out) hb); have n2_ := aM54 (blk_below (g := gb500) (o := .cells #[.int .u8 0, .int .i64 0, .string (⟨#[]⟩ : ByteArray)] 35 (0, 0)) (by (with_reducible repeat (first | refine bN54 ?_ _ | refine bD54 ?_ | refine bA54 ?_ _)); exact BK500.out) hb); have n3_ := aM54 (below_step (by repeat (first | (with_reducible first | exact HB.out | apply below_alloc | apply pw_below_drewN | apply below_drew1 | refine bS54 ?_ GE498.out | refine bS54 ?_ GE499.out | refine bS54 ?_ GE500.out) | exact HB.out)) hb); clear BK498; clear BK499; clear BK500; clear HB; have BK498 := n0_; have BK499 := n1_; have BK500 := n2_; have HB := n3_; clear n0_ n1_ n2_ n3_; (try clear hb); (try clear hb2); (try clear hk); (try clear hi); have hnb29 := NB500_498.out; have hnc29 := NB498_500.out; have hnb30 := NB500_499.out; have hnc30 := NB499_500.out; have hcz31_0 : w28.cell? ⟨gb500, 0, none⟩ = some (.int .u8 0) := (blk_cell BK500.out 0).trans rfl; have hcz31_1 : w28.cell? ⟨gb500, 1, none⟩ = some (.int .i64 0) := (blk_cell BK500.out 1).trans rfl; have hcz31_2 : w28.cell? ⟨gb500, 2, none⟩ = some (.string (⟨#[]⟩ : ByteArray)) := (blk_cell BK500.out 2).trans rfl; have hfz31_0 := blk_frozen BK500.out 0; have hfz31_1 := blk_frozen BK500.out 1; have hfz31_2 := blk_frozen BK500.out 2)))
       refine bodyPost_ret (results_ct rfl _ _ gb500 35 #[.int .u8 t503, .int .i64 t504, .string t505] (0, 0) _ rfl (by (with_reducible repeat (first | refine bN54 ?_ _ | refine bD54 ?_ | refine bA54 ?_ _)); refine blk_put (cs := #[.int .u8 t503, .int .i64 t504, .string (⟨#[]⟩ : ByteArray)]) ?_ 2 _ rfl; (with_reducible repeat (first | refine bN54 ?_ _ | refine bD54 ?_ | refine bA54 ?_ _)); refine blk_put (cs := #[.int .u8 t503, .int .i64 0, .string (⟨#[]⟩ : ByteArray)]) ?_ 1 _ rfl; (with_reducible repeat (first | refine bN54 ?_ _ | refine bD54 ?_ | refine bA54 ?_ _)); refine blk_put (cs := #[.int .u8 0, .int .i64 0, .string (⟨#[]⟩ : ByteArray)]) ?_ 0 _ rfl; (with_reducible repeat (first | refine bN54 ?_ _ | refine bD54 ?_ | refine bA54 ?_ _)); exact BK500.out) Try.underlying35 rfl (by kernel_rfl)) rfl ?_
       exact ⟨by first | rfl | (simp [errW_none, errW_some] <;> rfl) | (simp [*, errW_none, errW_some] <;> rfl), by repeat (first | (with_reducible first | exact HB.out | apply below_alloc | apply pw_below_drewN | apply below_drew1 | refine bS54 ?_ GE498.out | refine bS54 ?_ GE499.out | refine bS54 ?_ GE500.out) | exact HB.out)⟩
      ·replace c26 := Bool.eq_false_iff.mpr c26
       subst c26
       have H1 : (if a0_1 = (-1) then (if a1_1 = (-9223372036854775808) then (hindsightref02_Mul.j2 kj18 t502 a0_1 a1_1 true) else (if a1_1 = (-1) then (hindsightref02_Mul.j2 kj18 t502 a0_1 a1_1 (a0_1 == (-9223372036854775808))) else (hindsightref02_Mul.j2 kj18 t502 a0_1 a1_1 false))) else (if a1_1 = (-1) then (hindsightref02_Mul.j2 kj18 t502 a0_1 a1_1 (a0_1 == (-9223372036854775808))) else (hindsightref02_Mul.j2 kj18 t502 a0_1 a1_1 false))) = some (r1, r2, r3, r4) := by rw [if_neg (show ¬ (false = true) by decide)] at H; exact H
       clear H
       have H := H1
       clear H1
       have HC32 := aM54 H
       clear H
       go_upto_region 7 with (fail)
       repeat (go_quiet (fail); go_upto_region 7 with (fail))
       go_cut [49] (fun v49 wc => ∃ (kq : Nat) (x49_31 : Bool), v49 = .bool x49_31 ∧ Aside0 (hindsightref02_Mul.j2 kq t502 a0_1 a1_1 x49_31 = some (r1, r2, r3, r4)) ∧ Aside0 (kq ≤ kj18) ∧ Aside0 (wc.heap[gb498]? = some (.cells #[.int .u8 a0_0, .int .i64 a0_1, .string a0_2] 35 (0, 0))) ∧ Aside0 (wc.heap[gb499]? = some (.cells #[.int .u8 a1_0, .int .i64 a1_1, .string a1_2] 35 (0, 0))) ∧ Aside0 (wc.heap[gb500]? = some (.cells #[.int .u8 0, .int .i64 0, .string (⟨#[]⟩ : ByteArray)] 35 (0, 0))) ∧ Aside0 (Below w.heap.size w wc))
       case first =>
        have H := HC32.out
        clear HC32
        by_cases c33 : a0_1 = (-1)
        ·rw [if_pos c33] at H
         have c33b0 : (a0_1 == (-1)) = true := beq_iff_eq.mpr c33
         have c33b1 : (a0_1 != (-1)) = false := bne_eq_false_iff_eq.mpr c33
         clear c33
         (first | rw [c33b0] | (simp only [i64_w, i32_w]; rw [c33b0]) | skip)
         by_cases c34 : a1_1 = (-9223372036854775808)
         ·rw [if_pos c34] at H
          have c34b0 : (a1_1 == (-9223372036854775808)) = true := beq_iff_eq.mpr c34
          have c34b1 : (a1_1 != (-9223372036854775808)) = false := bne_eq_false_iff_eq.mpr c34
          clear c34
          have H' := aM54 H
          clear H
          go_wp2
          repeat (go_quiet (fail); try go_wp2)
          go_meet
          case rel => exact ⟨_, (true), (by first | rfl | (simp; done) | (simp [*]; done)), H', ⟨by have := HJ3.out; have := HJ18.out; first | omega | exact Nat.le_refl _⟩, ⟨by (with_reducible repeat (first | refine bN54 ?_ _ | refine bD54 ?_ | refine bA54 ?_ _)); exact BK498.out⟩, ⟨by (with_reducible repeat (first | refine bN54 ?_ _ | refine bD54 ?_ | refine bA54 ?_ _)); exact BK499.out⟩, ⟨by (with_reducible repeat (first | refine bN54 ?_ _ | refine bD54 ?_ | refine bA54 ?_ _)); exact BK500.out⟩, ⟨by repeat (first | (with_reducible first | exact HB.out | apply below_alloc | apply pw_below_drewN | apply below_drew1 | refine bS54 ?_ GE498.out | refine bS54 ?_ GE499.out | refine bS54 ?_ GE500.out) | exact HB.out)⟩⟩
         ·rw [if_neg c34] at H
          have c34b0 : (a1_1 == (-9223372036854775808)) = false := beq_eq_false_iff_ne.mpr c34
          have c34b1 : (a1_1 != (-9223372036854775808)) = true := bne_iff_ne.mpr c34
          by_cases c35 : a1_1 = (-1)
          ·rw [if_pos c35] at H
           have c35b0 : (a1_1 == (-1)) = true := beq_iff_eq.mpr c35
           have c35b1 : (a1_1 != (-1)) = false := bne_eq_false_iff_eq.mpr c35
           clear c35
           have H' := aM54 H
           clear H
           go_wp2
           repeat (go_quiet (fail); try go_wp2)
           go_meet
           case rel => exact ⟨_, ((a0_1 == (-9223372036854775808))), (by first | rfl | (simp; done) | (simp [*]; done)), H', ⟨by have := HJ3.out; have := HJ18.out; first | omega | exact Nat.le_refl _⟩, ⟨by (with_reducible repeat (first | refine bN54 ?_ _ | refine bD54 ?_ | refine bA54 ?_ _)); exact BK498.out⟩, ⟨by (with_reducible repeat (first | refine bN54 ?_ _ | refine bD54 ?_ | refine bA54 ?_ _)); exact BK499.out⟩, ⟨by (with_reducible repeat (first | refine bN54 ?_ _ | refine bD54 ?_ | refine bA54 ?_ _)); exact BK500.out⟩, ⟨by repeat (first | (with_reducible first | exact HB.out | apply below_alloc | apply pw_below_drewN | apply below_drew1 | refine bS54 ?_ GE498.out | refine bS54 ?_ GE499.out | refine bS54 ?_ GE500.out) | exact HB.out)⟩⟩
          ·rw [if_neg c35] at H
           have c35b0 : (a1_1 == (-1)) = false := beq_eq_false_iff_ne.mpr c35
           have c35b1 : (a1_1 != (-1)) = true := bne_iff_ne.mpr c35
           have H' := aM54 H
           clear H
           go_wp2
           repeat (go_quiet (fail); try go_wp2)
           go_meet
           case rel => exact ⟨_, (false), (by first | rfl | (simp; done) | (simp [*]; done)), H', ⟨by have := HJ3.out; have := HJ18.out; first | omega | exact Nat.le_refl _⟩, ⟨by (with_reducible repeat (first | refine bN54 ?_ _ | refine bD54 ?_ | refine bA54 ?_ _)); exact BK498.out⟩, ⟨by (with_reducible repeat (first | refine bN54 ?_ _ | refine bD54 ?_ | refine bA54 ?_ _)); exact BK499.out⟩, ⟨by (with_reducible repeat (first | refine bN54 ?_ _ | refine bD54 ?_ | refine bA54 ?_ _)); exact BK500.out⟩, ⟨by repeat (first | (with_reducible first | exact HB.out | apply below_alloc | apply pw_below_drewN | apply below_drew1 | refine bS54 ?_ GE498.out | refine bS54 ?_ GE499.out | refine bS54 ?_ GE500.out) | exact HB.out)⟩⟩
        ·rw [if_neg c33] at H
         have c33b0 : (a0_1 == (-1)) = false := beq_eq_false_iff_ne.mpr c33
         have c33b1 : (a0_1 != (-1)) = true := bne_iff_ne.mpr c33
         (first | rw [c33b0] | (simp only [i64_w, i32_w]; rw [c33b0]) | skip)
         by_cases c36 : a1_1 = (-1)
         ·rw [if_pos c36] at H
          have c36b0 : (a1_1 == (-1)) = true := beq_iff_eq.mpr c36
          have c36b1 : (a1_1 != (-1)) = false := bne_eq_false_iff_eq.mpr c36
          clear c36
          have H' := aM54 H
          clear H
          go_wp2
          repeat (go_quiet (fail); try go_wp2)
          go_meet
          case rel => exact ⟨_, ((a0_1 == (-9223372036854775808))), (by first | rfl | (simp; done) | (simp [*]; done)), H', ⟨by have := HJ3.out; have := HJ18.out; first | omega | exact Nat.le_refl _⟩, ⟨by (with_reducible repeat (first | refine bN54 ?_ _ | refine bD54 ?_ | refine bA54 ?_ _)); exact BK498.out⟩, ⟨by (with_reducible repeat (first | refine bN54 ?_ _ | refine bD54 ?_ | refine bA54 ?_ _)); exact BK499.out⟩, ⟨by (with_reducible repeat (first | refine bN54 ?_ _ | refine bD54 ?_ | refine bA54 ?_ _)); exact BK500.out⟩, ⟨by repeat (first | (with_reducible first | exact HB.out | apply below_alloc | apply pw_below_drewN | apply below_drew1 | refine bS54 ?_ GE498.out | refine bS54 ?_ GE499.out | refine bS54 ?_ GE500.out) | exact HB.out)⟩⟩
         ·rw [if_neg c36] at H
          have c36b0 : (a1_1 == (-1)) = false := beq_eq_false_iff_ne.mpr c36
          have c36b1 : (a1_1 != (-1)) = true := bne_iff_ne.mpr c36
          have H' := aM54 H
          clear H
          go_wp2
          repeat (go_quiet (fail); try go_wp2)
          go_meet
          case rel => exact ⟨_, (false), (by first | rfl | (simp; done) | (simp [*]; done)), H', ⟨by have := HJ3.out; have := HJ18.out; first | omega | exact Nat.le_refl _⟩, ⟨by (with_reducible repeat (first | refine bN54 ?_ _ | refine bD54 ?_ | refine bA54 ?_ _)); exact BK498.out⟩, ⟨by (with_reducible repeat (first | refine bN54 ?_ _ | refine bD54 ?_ | refine bA54 ?_ _)); exact BK499.out⟩, ⟨by (with_reducible repeat (first | refine bN54 ?_ _ | refine bD54 ?_ | refine bA54 ?_ _)); exact BK500.out⟩, ⟨by repeat (first | (with_reducible first | exact HB.out | apply below_alloc | apply pw_below_drewN | apply below_drew1 | refine bS54 ?_ GE498.out | refine bS54 ?_ GE499.out | refine bS54 ?_ GE500.out) | exact HB.out)⟩⟩
       case rest =>
        clear HC32
        try clear c1
        try clear c2
        try clear p2
        try clear c3
        try clear c5
        try clear c8
        try clear c9
        try clear c11
        try clear c14
        try clear c14b0
        try clear c14b1
        try clear c15
        try clear c16
        try clear c17
        try clear c20
        try clear c21
        try clear c23
        try clear c25
        try clear c25b0
        try clear c25b1
        try clear c26
        try clear c29
        try clear c30
        try clear c33
        try clear c33b0
        try clear c33b1
        try clear c34
        try clear c34b0
        try clear c34b1
        try clear c35
        try clear c35b0
        try clear c35b1
        try clear c36
        try clear c36b0
        try clear c36b1
        try clear hcz10_0
        try clear hcz10_1
        try clear hcz10_2
        try clear hcz12_0
        try clear hcz12_1
        try clear hcz12_2
        try clear hcz18_0
        try clear hcz18_1
        try clear hcz18_2
        try clear hcz22_0
        try clear hcz22_1
        try clear hcz22_2
        try clear hcz24_0
        try clear hcz24_1
        try clear hcz24_2
        try clear hcz31_0
        try clear hcz31_1
        try clear hcz31_2
        try clear hfz10_0
        try clear hfz10_1
        try clear hfz10_2
        try clear hfz12_0
        try clear hfz12_1
        try clear hfz12_2
        try clear hfz18_0
        try clear hfz18_1
        try clear hfz18_2
        try clear hfz22_0
        try clear hfz22_1
        try clear hfz22_2
        try clear hfz24_0
        try clear hfz24_1
        try clear hfz24_2
        try clear hfz31_0
        try clear hfz31_1
        try clear hfz31_2
        try clear p2
        obtain ⟨kq, x49_31, rfl, HA, HJ31, BK498, BK499, BK500, HB⟩ := hcut
        cases kq with
        | zero => exact absurd HA.out (by simp [hindsightref02_Mul.j2])
        | succ kj31 =>
         have H := HA.out
         clear HA
         simp only [hindsightref02_Mul.j2] at H
         by_cases c37 : x49_31 = true
         ·subst c37
          have H1 : (some (0, 0, (⟨#[]⟩ : ByteArray), 21)) = some (r1, r2, r3, r4) := by rw [if_pos rfl] at H; exact H
          clear H
          have H := H1
          clear H1
          simp only [Option.some.injEq, Prod.mk.injEq] at H
          obtain ⟨rfl, rfl, rfl, rfl⟩ := H
          have hnb38 := NB500_498.out
          have hnc38 := NB498_500.out
          have hnb39 := NB500_499.out
          have hnc39 := NB499_500.out
          have hcz40_0 : wc.cell? ⟨gb500, 0, none⟩ = some (.int .u8 0) := (blk_cell BK500.out 0).trans rfl
          have hcz40_1 : wc.cell? ⟨gb500, 1, none⟩ = some (.int .i64 0) := (blk_cell BK500.out 1).trans rfl
          have hcz40_2 : wc.cell? ⟨gb500, 2, none⟩ = some (.string (⟨#[]⟩ : ByteArray)) := (blk_cell BK500.out 2).trans rfl
          have hfz40_0 := blk_frozen BK500.out 0
          have hfz40_1 := blk_frozen BK500.out 1
          have hfz40_2 := blk_frozen BK500.out 2
          go_wp2
          repeat (go_quiet (fail); try go_wp2)
          refine bodyPost_ret (results_ct rfl _ _ gb500 35 #[.int .u8 0, .int .i64 0, .string (⟨#[]⟩ : ByteArray)] (0, 0) _ rfl (by (with_reducible repeat (first | refine bN54 ?_ _ | refine bD54 ?_ | refine bA54 ?_ _)); refine blk_put (cs := #[.int .u8 0, .int .i64 0, .string (⟨#[]⟩ : ByteArray)]) ?_ 2 _ rfl; (with_reducible repeat (first | refine bN54 ?_ _ | refine bD54 ?_ | refine bA54 ?_ _)); refine blk_put (cs := #[.int .u8 0, .int .i64 0, .string (⟨#[]⟩ : ByteArray)]) ?_ 1 _ rfl; (with_reducible repeat (first | refine bN54 ?_ _ | refine bD54 ?_ | refine bA54 ?_ _)); refine blk_put (cs := #[.int .u8 0, .int .i64 0, .string (⟨#[]⟩ : ByteArray)]) ?_ 0 _ rfl; (with_reducible repeat (first | refine bN54 ?_ _ | refine bD54 ?_ | refine bA54 ?_ _)); exact BK500.out) Try.underlying35 rfl (by kernel_rfl)) rfl ?_
          exact ⟨by first | rfl | (simp [errW_none, errW_some] <;> rfl) | (simp [*, errW_none, errW_some] <;> rfl), by repeat (first | (with_reducible first | exact HB.out | apply below_alloc | apply pw_below_drewN | apply below_drew1 | refine bS54 ?_ GE498.out | refine bS54 ?_ GE499.out | refine bS54 ?_ GE500.out) | exact HB.out)⟩
         ·replace c37 := Bool.eq_false_iff.mpr c37
          subst c37
          have H1 : (if a1_1 = 0 then (none) else (if (wrap64 (Int.tdiv (wrap64 (a0_1 * a1_1)) a1_1)) = a0_1 then (if ((decide ((wrap64 (a0_1 * a1_1)) < 0)) != ((decide (a0_1 < 0)) != (decide (a1_1 < 0)))) = true then (some (0, 0, (⟨#[]⟩ : ByteArray), 21)) else ((hindsightref02_Number.f (wrap64 (a0_1 * a1_1))).bind fun bt506 => (some (bt506.1, bt506.2.1, bt506.2.2, t502)))) else (some (0, 0, (⟨#[]⟩ : ByteArray), 21)))) = some (r1, r2, r3, r4) := by rw [if_neg (show ¬ (false = true) by decide)] at H; exact H
          clear H
          have H := H1
          clear H1
          by_cases c41 : a1_1 = 0
          ·rw [if_pos c41] at H
           exact absurd H (by simp)
          ·rw [if_neg c41] at H
           have c41b0 : (a1_1 == 0) = false := beq_eq_false_iff_ne.mpr c41
           have c41b1 : (a1_1 != 0) = true := bne_iff_ne.mpr c41
           by_cases c42 : (wrap64 (Int.tdiv (wrap64 (a0_1 * a1_1)) a1_1)) = a0_1
           ·rw [if_pos c42] at H
            have c42b0 : ((wrap64 (Int.tdiv (wrap64 (a0_1 * a1_1)) a1_1)) == a0_1) = true := beq_iff_eq.mpr c42
            have c42b1 : ((wrap64 (Int.tdiv (wrap64 (a0_1 * a1_1)) a1_1)) != a0_1) = false := bne_eq_false_iff_eq.mpr c42
            clear c42
            by_cases c43 : ((decide ((wrap64 (a0_1 * a1_1)) < 0)) != ((decide (a0_1 < 0)) != (decide (a1_1 < 0)))) = true
            ·rw [if_pos c43] at H
             have c43b0 : ((decide ((wrap64 (a0_1 * a1_1)) < 0)) != ((decide (a0_1 < 0)) != (decide (a1_1 < 0)))) = true := c43
             (try (have c43b1 : decide ((decide ((wrap64 (a0_1 * a1_1)) < 0)) = ((decide (a0_1 < 0)) != (decide (a1_1 < 0)))) = false := by simpa using c43))
             (try (have c43b2 : ((decide ((wrap64 (a0_1 * a1_1)) < 0)) == ((decide (a0_1 < 0)) != (decide (a1_1 < 0)))) = false := by simpa using c43))
             (try (have c43b3 : (!((decide ((wrap64 (a0_1 * a1_1)) < 0)) == ((decide (a0_1 < 0)) != (decide (a1_1 < 0))))) = true := by first | exact c43 | simpa using c43))
             (try (have c43b4 : ¬ ((decide ((wrap64 (a0_1 * a1_1)) < 0)) = ((decide (a0_1 < 0)) != (decide (a1_1 < 0)))) := by simpa using c43))
             clear c43
             simp only [Option.some.injEq, Prod.mk.injEq] at H
             obtain ⟨rfl, rfl, rfl, rfl⟩ := H
             have hnb44 := NB500_498.out
             have hnc44 := NB498_500.out
             have hnb45 := NB500_499.out
             have hnc45 := NB499_500.out
             have hcz46_0 : wc.cell? ⟨gb500, 0, none⟩ = some (.int .u8 0) := (blk_cell BK500.out 0).trans rfl
             have hcz46_1 : wc.cell? ⟨gb500, 1, none⟩ = some (.int .i64 0) := (blk_cell BK500.out 1).trans rfl
             have hcz46_2 : wc.cell? ⟨gb500, 2, none⟩ = some (.string (⟨#[]⟩ : ByteArray)) := (blk_cell BK500.out 2).trans rfl
             have hfz46_0 := blk_frozen BK500.out 0
             have hfz46_1 := blk_frozen BK500.out 1
             have hfz46_2 := blk_frozen BK500.out 2
             go_wp2
             repeat (go_quiet (fail); try go_wp2)
             (try (all_goals (try (exact absurd (c43b3.symm.trans (show (!((decide ((wrap64 (a0_1 * a1_1)) < 0)) == ((decide (a0_1 < 0)) != (decide (a1_1 < 0))))) = false by assumption)) (by decide)))))
             refine bodyPost_ret (results_ct rfl _ _ gb500 35 #[.int .u8 0, .int .i64 0, .string (⟨#[]⟩ : ByteArray)] (0, 0) _ rfl (by (with_reducible repeat (first | refine bN54 ?_ _ | refine bD54 ?_ | refine bA54 ?_ _)); refine blk_put (cs := #[.int .u8 0, .int .i64 0, .string (⟨#[]⟩ : ByteArray)]) ?_ 2 _ rfl; (with_reducible repeat (first | refine bN54 ?_ _ | refine bD54 ?_ | refine bA54 ?_ _)); refine blk_put (cs := #[.int .u8 0, .int .i64 0, .string (⟨#[]⟩ : ByteArray)]) ?_ 1 _ rfl; (with_reducible repeat (first | refine bN54 ?_ _ | refine bD54 ?_ | refine bA54 ?_ _)); refine blk_put (cs := #[.int .u8 0, .int .i64 0, .string (⟨#[]⟩ : ByteArray)]) ?_ 0 _ rfl; (with_reducible repeat (first | refine bN54 ?_ _ | refine bD54 ?_ | refine bA54 ?_ _)); exact BK500.out) Try.underlying35 rfl (by kernel_rfl)) rfl ?_
             exact ⟨by first | rfl | (simp [errW_none, errW_some] <;> rfl) | (simp [*, errW_none, errW_some] <;> rfl), by repeat (first | (with_reducible first | exact HB.out | apply below_alloc | apply pw_below_drewN | apply below_drew1 | refine bS54 ?_ GE498.out | refine bS54 ?_ GE499.out | refine bS54 ?_ GE500.out) | exact HB.out)⟩
            ·rw [if_neg c43] at H
             have c43b0 : ((decide ((wrap64 (a0_1 * a1_1)) < 0)) != ((decide (a0_1 < 0)) != (decide (a1_1 < 0)))) = false := by simpa using c43
             (try (have c43b1 : decide ((decide ((wrap64 (a0_1 * a1_1)) < 0)) = ((decide (a0_1 < 0)) != (decide (a1_1 < 0)))) = true := by simpa using c43))
             (try (have c43b2 : ((decide ((wrap64 (a0_1 * a1_1)) < 0)) == ((decide (a0_1 < 0)) != (decide (a1_1 < 0)))) = true := by simpa using c43))
             (try (have c43b3 : (!((decide ((wrap64 (a0_1 * a1_1)) < 0)) == ((decide (a0_1 < 0)) != (decide (a1_1 < 0))))) = false := by first | exact c43 | simpa using c43))
             clear c43
             replace H := Option.bind_eq_some_iff.mp H
             obtain ⟨⟨t506, t507, t508⟩, A470, H⟩ := H
             replace H : (some (t506, t507, t508, t502)) = some (r1, r2, r3, r4) := H
             have A47 := aM54 A470
             clear A470
             simp only [Option.some.injEq, Prod.mk.injEq] at H
             obtain ⟨rfl, rfl, rfl, rfl⟩ := H
             go_wp2_with (first | (go_at_call 32; (with_reducible refine (hindsightref02_Number.calls (wrap64 (a0_1 * a1_1)) t506 t507 t508 _ A47.out).mono ?_); rintro e w48 ⟨rfl, hb⟩; have n0_ := aM54 (blk_below (g := gb498) (o := .cells #[.int .u8 a0_0, .int .i64 a0_1, .string a0_2] 35 (0, 0)) (by (with_reducible repeat (first | refine bN54 ?_ _ | refine bD54 ?_ | refine bA54 ?_ _)); exact BK498.out) hb); have n1_ := aM54 (blk_below (g := gb499) (o := .cells #[.int .u8 a1_0, .int .i64 a1_1, .string a1_2] 35 (0, 0)) (by (with_reducible repeat (first | refine bN54 ?_ _ | refine bD54 ?_ | refine bA54 ?_ _)); exact BK499.out) hb); have n2_ := aM54 (blk_below (g := gb500) (o := .cells #[.int .u8 0, .int .i64 0, .string (⟨#[]⟩ : ByteArray)] 35 (0, 0)) (by (with_reducible repeat (first | refine bN54 ?_ _ | refine bD54 ?_ | refine bA54 ?_ _)); exact BK500.out) hb); have n3_ := aM54 (below_step (by repeat (first | (with_reducible first | exact HB.out | apply below_alloc | apply pw_below_drewN | apply below_drew1 | refine bS54 ?_ GE498.out | refine bS54 ?_ GE499.out | refine bS54 ?_ GE500.out) | exact HB.out)) hb); clear BK498; clear BK499; clear BK500; clear HB; have BK498 := n0_; have BK499 := n1_; have BK500 := n2_; have HB := n3_; clear n0_ n1_ n2_ n3_; (try clear hb); (try clear hb2); (try clear hk); (try clear hi); have hnb49 := NB500_498.out; have hnc49 := NB498_500.out; have hnb50 := NB500_499.out; have hnc50 := NB499_500.out; have hcz51_0 : w48.cell? ⟨gb500, 0, none⟩ = some (.int .u8 0) := (blk_cell BK500.out 0).trans rfl; have hcz51_1 : w48.cell? ⟨gb500, 1, none⟩ = some (.int .i64 0) := (blk_cell BK500.out 1).trans rfl; have hcz51_2 : w48.cell? ⟨gb500, 2, none⟩ = some (.string (⟨#[]⟩ : ByteArray)) := (blk_cell BK500.out 2).trans rfl; have hfz51_0 := blk_frozen BK500.out 0; have hfz51_1 := blk_frozen BK500.out 1; have hfz51_2 := blk_frozen BK500.out 2))
             repeat (go_quiet (first | (go_at_call 32; (with_reducible refine (hindsightref02_Number.calls (wrap64 (a0_1 * a1_1)) t506 t507 t508 _ A47.out).mono ?_); rintro e w48 ⟨rfl, hb⟩; have n0_ := aM54 (blk_below (g := gb498) (o := .cells #[.int .u8 a0_0, .int .i64 a0_1, .string a0_2] 35 (0, 0)) (by (with_reducible repeat (first | refine bN54 ?_ _ | refine bD54 ?_ | refine bA54 ?_ _)); exact BK498.out) hb); have n1_ := aM54 (blk_below (g := gb499) (o := .cells #[.int .u8 a1_0, .int .i64 a1_1, .string a1_2] 35 (0, 0)) (by (with_reducible repeat (first | refine bN54 ?_ _ | refine bD54 ?_ | refine bA54 ?_ _)); exact BK499.out) hb); have n2_ := aM54 (blk_below (g := gb500) (o := .cells #[.int .u8 0, .int .i64 0, .string (⟨#[]⟩ : ByteArray)] 35 (0, 0)) (by (with_reducible repeat (first | refine bN54 ?_ _ | refine bD54 ?_ | refine bA54 ?_ _)); exact BK500.out) hb); have n3_ := aM54 (below_step (by repeat (first | (with_reducible first | exact HB.out | apply below_alloc | apply pw_below_drewN | apply below_drew1 | refine bS54 ?_ GE498.out | refine bS54 ?_ GE499.out | refine bS54 ?_ GE500.out) | exact HB.out)) hb); clear BK498; clear BK499; clear BK500; clear HB; have BK498 := n0_; have BK499 := n1_; have BK500 := n2_; have HB := n3_; clear n0_ n1_ n2_ n3_; (try clear hb); (try clear hb2); (try clear hk); (try clear hi); have hnb49 := NB500_498.out; have hnc49 := NB498_500.out; have hnb50 := NB500_499.out; have hnc50 := NB499_500.out; have hcz51_0 : w48.cell? ⟨gb500, 0, none⟩ = some (.int .u8 0) := (blk_cell BK500.out 0).trans rfl; have hcz51_1 : w48.cell? ⟨gb500, 1, none⟩ = some (.int .i64 0) := (blk_cell BK500.out 1).trans rfl; have hcz51_2 : w48.cell? ⟨gb500, 2, none⟩ = some (.string (⟨#[]⟩ : ByteArray)) := (blk_cell BK500.out 2).trans rfl; have hfz51_0 := blk_frozen BK500.out 0; have hfz51_1 := blk_frozen BK500.out 1; have hfz51_2 := blk_frozen BK500.out 2)); try go_wp2_with (first | (go_at_call 32; (with_reducible refine (hindsightref02_Number.calls (wrap64 (a0_1 * a1_1)) t506 t507 t508 _ A47.out).mono ?_); rintro e w48 ⟨rfl, hb⟩; have n0_ := aM54 (blk_below (g := gb498) (o := .cells #[.int .u8 a0_0, .int .i64 a0_1, .string a0_2] 35 (0, 0)) (by (with_reducible repeat (first | refine bN54 ?_ _ | refine bD54 ?_ | refine bA54 ?_ _)); exact BK498.out) hb); have n1_ := aM54 (blk_below (g := gb499) (o := .cells #[.int .u8 a1_0, .int .i64 a1_1, .string a1_2] 35 (0, 0)) (by (with_reducible repeat (first | refine bN54 ?_ _ | refine bD54 ?_ | refine bA54 ?_ _)); exact BK499.out) hb); have n2_ := aM54 (blk_below (g := gb500) (o := .cells #[.int .u8 0, .int .i64 0, .string (⟨#[]⟩ : ByteArray)] 35 (0, 0)) (by (with_reducible repeat (first | refine bN54 ?_ _ | refine bD54 ?_ | refine bA54 ?_ _)); exact BK500.out) hb); have n3_ := aM54 (below_step (by repeat (first | (with_reducible first | exact HB.out | apply below_alloc | apply pw_below_drewN | apply below_drew1 | refine bS54 ?_ GE498.out | refine bS54 ?_ GE499.out | refine bS54 ?_ GE500.out) | exact HB.out)) hb); clear BK498; clear BK499; clear BK500; clear HB; have BK498 := n0_; have BK499 := n1_; have BK500 := n2_; have HB := n3_; clear n0_ n1_ n2_ n3_; (try clear hb); (try clear hb2); (try clear hk); (try clear hi); have hnb49 := NB500_498.out; have hnc49 := NB498_500.out; have hnb50 := NB500_499.out; have hnc50 := NB499_500.out; have hcz51_0 : w48.cell? ⟨gb500, 0, none⟩ = some (.int .u8 0) := (blk_cell BK500.out 0).trans rfl; have hcz51_1 : w48.cell? ⟨gb500, 1, none⟩ = some (.int .i64 0) := (blk_cell BK500.out 1).trans rfl; have hcz51_2 : w48.cell? ⟨gb500, 2, none⟩ = some (.string (⟨#[]⟩ : ByteArray)) := (blk_cell BK500.out 2).trans rfl; have hfz51_0 := blk_frozen BK500.out 0; have hfz51_1 := blk_frozen BK500.out 1; have hfz51_2 := blk_frozen BK500.out 2)))
             (try (all_goals (try (exact absurd (c43b3.symm.trans (show (!((decide ((wrap64 (a0_1 * a1_1)) < 0)) == ((decide (a0_1 < 0)) != (decide (a1_1 < 0))))) = true by assumption)) (by decide)))))
             refine bodyPost_ret (results_ct rfl _ _ gb500 35 #[.int .u8 t506, .int .i64 t507, .string t508] (0, 0) _ rfl (by (with_reducible repeat (first | refine bN54 ?_ _ | refine bD54 ?_ | refine bA54 ?_ _)); refine blk_put (cs := #[.int .u8 t506, .int .i64 t507, .string (⟨#[]⟩ : ByteArray)]) ?_ 2 _ rfl; (with_reducible repeat (first | refine bN54 ?_ _ | refine bD54 ?_ | refine bA54 ?_ _)); refine blk_put (cs := #[.int .u8 t506, .int .i64 0, .string (⟨#[]⟩ : ByteArray)]) ?_ 1 _ rfl; (with_reducible repeat (first | refine bN54 ?_ _ | refine bD54 ?_ | refine bA54 ?_ _)); refine blk_put (cs := #[.int .u8 0, .int .i64 0, .string (⟨#[]⟩ : ByteArray)]) ?_ 0 _ rfl; (with_reducible repeat (first | refine bN54 ?_ _ | refine bD54 ?_ | refine bA54 ?_ _)); exact BK500.out) Try.underlying35 rfl (by kernel_rfl)) rfl ?_
             exact ⟨by first | rfl | (simp [errW_none, errW_some] <;> rfl) | (simp [*, errW_none, errW_some] <;> rfl), by repeat (first | (with_reducible first | exact HB.out | apply below_alloc | apply pw_below_drewN | apply below_drew1 | refine bS54 ?_ GE498.out | refine bS54 ?_ GE499.out | refine bS54 ?_ GE500.out) | exact HB.out)⟩
           ·rw [if_neg c42] at H
            have c42b0 : ((wrap64 (Int.tdiv (wrap64 (a0_1 * a1_1)) a1_1)) == a0_1) = false := beq_eq_false_iff_ne.mpr c42
            have c42b1 : ((wrap64 (Int.tdiv (wrap64 (a0_1 * a1_1)) a1_1)) != a0_1) = true := bne_iff_ne.mpr c42
            simp only [Option.some.injEq, Prod.mk.injEq] at H
            obtain ⟨rfl, rfl, rfl, rfl⟩ := H
            have hnb52 := NB500_498.out
            have hnc52 := NB498_500.out
            have hnb53 := NB500_499.out
            have hnc53 := NB499_500.out
            have hcz54_0 : wc.cell? ⟨gb500, 0, none⟩ = some (.int .u8 0) := (blk_cell BK500.out 0).trans rfl
            have hcz54_1 : wc.cell? ⟨gb500, 1, none⟩ = some (.int .i64 0) := (blk_cell BK500.out 1).trans rfl
            have hcz54_2 : wc.cell? ⟨gb500, 2, none⟩ = some (.string (⟨#[]⟩ : ByteArray)) := (blk_cell BK500.out 2).trans rfl
            have hfz54_0 := blk_frozen BK500.out 0
            have hfz54_1 := blk_frozen BK500.out 1
            have hfz54_2 := blk_frozen BK500.out 2
            go_wp2
            repeat (go_quiet (fail); try go_wp2)
            refine bodyPost_ret (results_ct rfl _ _ gb500 35 #[.int .u8 0, .int .i64 0, .string (⟨#[]⟩ : ByteArray)] (0, 0) _ rfl (by (with_reducible repeat (first | refine bN54 ?_ _ | refine bD54 ?_ | refine bA54 ?_ _)); refine blk_put (cs := #[.int .u8 0, .int .i64 0, .string (⟨#[]⟩ : ByteArray)]) ?_ 2 _ rfl; (with_reducible repeat (first | refine bN54 ?_ _ | refine bD54 ?_ | refine bA54 ?_ _)); refine blk_put (cs := #[.int .u8 0, .int .i64 0, .string (⟨#[]⟩ : ByteArray)]) ?_ 1 _ rfl; (with_reducible repeat (first | refine bN54 ?_ _ | refine bD54 ?_ | refine bA54 ?_ _)); refine blk_put (cs := #[.int .u8 0, .int .i64 0, .string (⟨#[]⟩ : ByteArray)]) ?_ 0 _ rfl; (with_reducible repeat (first | refine bN54 ?_ _ | refine bD54 ?_ | refine bA54 ?_ _)); exact BK500.out) Try.underlying35 rfl (by kernel_rfl)) rfl ?_
            exact ⟨by first | rfl | (simp [errW_none, errW_some] <;> rfl) | (simp [*, errW_none, errW_some] <;> rfl), by repeat (first | (with_reducible first | exact HB.out | apply below_alloc | apply pw_below_drewN | apply below_drew1 | refine bS54 ?_ GE498.out | refine bS54 ?_ GE499.out | refine bS54 ?_ GE500.out) | exact HB.out)⟩

end Go.Proofs.Ytefpnnljflcmbaa.PCe
