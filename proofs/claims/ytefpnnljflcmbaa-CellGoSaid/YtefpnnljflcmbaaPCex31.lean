-- Written by a program of this session (wip/tool), which goes by the kit's print.
import Derived.Test.YtefpnnljflcmbaaPCex0
import Derived.Test.YtefpnnljflcmbaaPCex7
import Derived.Test.YtefpnnljflcmbaaPCex30
namespace Go.Proofs.Ytefpnnljflcmbaa.PCe
open Go.RowKit Go.Proofs.YtefpnnljflcmbaaW.PrintWords Go.Proofs.YtefpnnljflcmbaaW.PrintLast Go.Proofs.YtefpnnljflcmbaaW.PrintMore
attribute [local go_sem] max2_int min2_int max_two min_two max_three min_three max_four min_four   -- for this text's walks alone
set_option linter.unusedVariables false
set_option linter.unusedSimpArgs false

/-! ### hindsightref02_Add: function 50 -/
theorem bN50 : type_of% @blk_drewN := @blk_drewN
theorem bD50 : type_of% @blk_drew := @blk_drew
theorem bA50 : type_of% @blk_alloc := @blk_alloc
theorem bS50 : type_of% @below_set := @below_set
theorem aM50 : type_of% @Aside0.mk := @Aside0.mk
def hindsightref02_Add.j0 : Nat → Int → Bool → Int → Int → ByteArray → Int → Int → ByteArray → Option (Int × Int × ByteArray × Int)
 | 0, _, _, _, _, _, _, _, _ => none
 | k + 1, x7, x18, x457000, x457001, x457002, x458000, x458001, x458002 => if x18 = true then (some (0, 0, (⟨#[]⟩ : ByteArray), x7)) else (if x458001 > 0 then (if x457001 > (wrap64 (9223372036854775807 - x458001)) then (some (0, 0, (⟨#[]⟩ : ByteArray), 21)) else (if x458001 < 0 then (if x457001 < (wrap64 ((-9223372036854775808) - x458001)) then (some (0, 0, (⟨#[]⟩ : ByteArray), 21)) else ((hindsightref02_Number.f (wrap64 (x457001 + x458001))).bind fun bt461 => (some (bt461.1, bt461.2.1, bt461.2.2, x7)))) else ((hindsightref02_Number.f (wrap64 (x457001 + x458001))).bind fun bt464 => (some (bt464.1, bt464.2.1, bt464.2.2, x7))))) else (if x458001 < 0 then (if x457001 < (wrap64 ((-9223372036854775808) - x458001)) then (some (0, 0, (⟨#[]⟩ : ByteArray), 21)) else ((hindsightref02_Number.f (wrap64 (x457001 + x458001))).bind fun bt467 => (some (bt467.1, bt467.2.1, bt467.2.2, x7)))) else ((hindsightref02_Number.f (wrap64 (x457001 + x458001))).bind fun bt470 => (some (bt470.1, bt470.2.1, bt470.2.2, x7)))))
def hindsightref02_Add.f (k : Nat) (a0_0 : Int) (a0_1 : Int) (a0_2 : ByteArray) (a1_0 : Int) (a1_1 : Int) (a1_2 : ByteArray) : Option (Int × Int × ByteArray × Int) := (hindsightref02_asked.f k a0_0 a0_1 a0_2 a1_0 a1_1 a1_2).bind fun bt459 => (if bt459.2 = 0 then (hindsightref02_Add.j0 k bt459.2 bt459.1 a0_0 a0_1 a0_2 a1_0 a1_1 a1_2) else (hindsightref02_Add.j0 k bt459.2 true a0_0 a0_1 a0_2 a1_0 a1_1 a1_2))
theorem hindsightref02_Add.mono_l : ∀ k, (∀ y0 y1 y2 y3 y4 y5 y6 y7, LeO (hindsightref02_Add.j0 k y0 y1 y2 y3 y4 y5 y6 y7) (hindsightref02_Add.j0 (k + 1) y0 y1 y2 y3 y4 y5 y6 y7))
 | 0 => fun _ _ _ _ _ _ _ _ r h => by simp [hindsightref02_Add.j0] at h
 | k + 1 => by
  have ih0 := hindsightref02_Add.mono_l k
  ·intro y0 y1 y2 y3 y4 y5 y6 y7
   unfold hindsightref02_Add.j0
   repeat' first
   | (with_reducible exact ih0 _ _ _ _ _ _ _ _)
   | (with_reducible exact hindsightref02_asked.mono _ _ _ _ _ _ _)
   | (with_reducible exact LeO.refl _)
   | (with_reducible exact LeO.none _)
   | (with_reducible refine LeO.ite ?_ ?_)
   | (with_reducible refine LeO.bind ?_ (fun _ => ?_))
   | exact ih0 _ _ _ _ _ _ _ _
   | exact hindsightref02_asked.mono _ _ _ _ _ _ _
   | exact LeO.none _
   | refine LeO.ite ?_ ?_
   | refine LeO.bind ?_ (fun _ => ?_)
theorem hindsightref02_Add.mono : ∀ a0 a1 a2 a3 a4 a5 k, LeO (hindsightref02_Add.f k a0 a1 a2 a3 a4 a5) (hindsightref02_Add.f (k + 1) a0 a1 a2 a3 a4 a5) := by
 intro a0 a1 a2 a3 a4 a5 k
 have ih0 := hindsightref02_Add.mono_l k
 unfold hindsightref02_Add.f
 repeat' first
   | (with_reducible exact ih0 _ _ _ _ _ _ _ _)
   | (with_reducible exact hindsightref02_asked.mono _ _ _ _ _ _ _)
   | (with_reducible exact LeO.refl _)
   | (with_reducible exact LeO.none _)
   | (with_reducible refine LeO.ite ?_ ?_)
   | (with_reducible refine LeO.bind ?_ (fun _ => ?_))
   | exact ih0 _ _ _ _ _ _ _ _
   | exact hindsightref02_asked.mono _ _ _ _ _ _ _
   | exact LeO.none _
   | refine LeO.ite ?_ ?_
   | refine LeO.bind ?_ (fun _ => ?_)
set_option maxHeartbeats 8000000 in
set_option maxRecDepth 100000 in
theorem hindsightref02_Add.calls (k : Nat) (a0_0 : Int) (a0_1 : Int) (a0_2 : ByteArray) (a1_0 : Int) (a1_1 : Int) (a1_2 : ByteArray) (r1 : Int) (r2 : Int) (r3 : ByteArray) (r4 : Int) (w : World) (h : hindsightref02_Add.f k a0_0 a0_1 a0_2 a1_0 a1_1 a1_2 = some (r1, r2, r3, r4)) :
  Calls Try.prog 50 #[.agg #[.int .u8 a0_0, .int .i64 a0_1, .string a0_2], .agg #[.int .u8 a1_0, .int .i64 a1_1, .string a1_2]] w fun e w' => e = .returned (.tuple #[.agg #[.int .u8 r1, .int .i64 r2, .string r3], .int .i64 r4]) ∧ Below w.heap.size w w' := by
 have hu35 := Try.underlying35
 have HB := aM50 (Below.refl w.heap.size w)
 have H : ((hindsightref02_asked.f k a0_0 a0_1 a0_2 a1_0 a1_1 a1_2).bind fun bt459 => (if bt459.2 = 0 then (hindsightref02_Add.j0 k bt459.2 bt459.1 a0_0 a0_1 a0_2 a1_0 a1_1 a1_2) else (hindsightref02_Add.j0 k bt459.2 true a0_0 a0_1 a0_2 a1_0 a1_1 a1_2))) = some (r1, r2, r3, r4) := h
 clear h
 replace H := Option.bind_eq_some_iff.mp H
 obtain ⟨⟨t459, t460⟩, A30, H⟩ := H
 replace H : (if t460 = 0 then (hindsightref02_Add.j0 k t460 t459 a0_0 a0_1 a0_2 a1_0 a1_1 a1_2) else (hindsightref02_Add.j0 k t460 true a0_0 a0_1 a0_2 a1_0 a1_1 a1_2)) = some (r1, r2, r3, r4) := H
 have A3 := aM50 A30
 clear A30
 have HC4 := aM50 H
 clear H
 go_enter Try.func50, Try.ntmps50
 go_upto_region 2 with (first | ((with_reducible refine gate_dst (N := 2) rfl ?_); refine box_event ?hg (N := 2) ?hd (cs := #[.int .u8 a0_0, .int .i64 a0_1, .string a0_2]) (t := 35) ?hr ?_; (case hd => rfl); (case hg => rfl); (case hr => first | (go_simp; done) | (go_simp; rfl)); intro gb456 hg w5 hbox hb; have n0_ := aM50 (below_step (by repeat (first | (with_reducible first | exact HB.out | apply below_alloc | apply pw_below_drewN | apply below_drew1) | exact HB.out)) hb); have n1_ := aM50 (hbox); have n2_ := aM50 ((by rw [hg]; exact (below_size (by repeat (first | (with_reducible first | exact HB.out | apply below_alloc | apply pw_below_drewN | apply below_drew1) | exact HB.out))) : w.heap.size ≤ gb456)); have n3_ := aM50 ((by rw [hg]; exact (below_size (by repeat (first | (with_reducible first | exact HB.out | apply below_alloc | apply pw_below_drewN | apply below_drew1) | exact HB.out))) : w.heap.size ≤ gb456)); clear HB; have HB := n0_; have BK456 := n1_; have GW456 := n2_; have GE456 := n3_; clear n0_ n1_ n2_ n3_; clear hb hbox hg) | ((with_reducible refine gate_dst (N := 3) rfl ?_); refine box_event ?hg (N := 3) ?hd (cs := #[.int .u8 a1_0, .int .i64 a1_1, .string a1_2]) (t := 35) ?hr ?_; (case hd => rfl); (case hg => rfl); (case hr => first | (go_simp; done) | (go_simp; rfl)); intro gb457 hg w6 hbox hb; have n0_ := aM50 (blk_below (g := gb456) (o := .cells #[.int .u8 a0_0, .int .i64 a0_1, .string a0_2] 35 (0, 0)) (by (with_reducible repeat (first | refine bN50 ?_ _ | refine bD50 ?_ | refine bA50 ?_ _)); exact BK456.out) hb); have n1_ := aM50 (below_step (by repeat (first | (with_reducible first | exact HB.out | apply below_alloc | apply pw_below_drewN | apply below_drew1 | refine bS50 ?_ GE456.out) | exact HB.out)) hb); have n2_ := aM50 (hbox); have n3_ := aM50 ((by rw [hg]; exact (below_size (by repeat (first | (with_reducible first | exact HB.out | apply below_alloc | apply pw_below_drewN | apply below_drew1 | refine bS50 ?_ GE456.out) | exact HB.out))) : w.heap.size ≤ gb457)); have n4_ := aM50 ((by rw [hg]; exact (below_size (by repeat (first | (with_reducible first | exact HB.out | apply below_alloc | apply pw_below_drewN | apply below_drew1 | refine bS50 ?_ GE456.out) | exact HB.out))) : w.heap.size ≤ gb457)); have n5_ := aM50 ((by rw [hg]; exact Nat.ne_of_lt (blk_lt (g := gb456) (o := .cells #[.int .u8 a0_0, .int .i64 a0_1, .string a0_2] 35 (0, 0)) (by (with_reducible repeat (first | refine bN50 ?_ _ | refine bD50 ?_ | refine bA50 ?_ _)); exact BK456.out)) : gb456 ≠ gb457)); have n6_ := aM50 ((by rw [hg]; exact Nat.ne_of_gt (blk_lt (g := gb456) (o := .cells #[.int .u8 a0_0, .int .i64 a0_1, .string a0_2] 35 (0, 0)) (by (with_reducible repeat (first | refine bN50 ?_ _ | refine bD50 ?_ | refine bA50 ?_ _)); exact BK456.out)) : gb457 ≠ gb456)); clear BK456; clear HB; have BK456 := n0_; have HB := n1_; have BK457 := n2_; have GW457 := n3_; have GE457 := n4_; have NB456_457 := n5_; have NB457_456 := n6_; clear n0_ n1_ n2_ n3_ n4_ n5_ n6_; clear hb hbox hg) | ((with_reducible refine gate_dst (N := 4) rfl ?_); refine box_event ?hg (N := 4) ?hd (cs := #[.int .u8 0, .int .i64 0, .string (⟨#[]⟩ : ByteArray)]) (t := 35) ?hr ?_; (case hd => rfl); (case hg => rfl); (case hr => first | (go_simp; done) | (go_simp; rfl)); intro gb458 hg w7 hbox hb; have n0_ := aM50 (blk_below (g := gb456) (o := .cells #[.int .u8 a0_0, .int .i64 a0_1, .string a0_2] 35 (0, 0)) (by (with_reducible repeat (first | refine bN50 ?_ _ | refine bD50 ?_ | refine bA50 ?_ _)); exact BK456.out) hb); have n1_ := aM50 (blk_below (g := gb457) (o := .cells #[.int .u8 a1_0, .int .i64 a1_1, .string a1_2] 35 (0, 0)) (by (with_reducible repeat (first | refine bN50 ?_ _ | refine bD50 ?_ | refine bA50 ?_ _)); exact BK457.out) hb); have n2_ := aM50 (below_step (by repeat (first | (with_reducible first | exact HB.out | apply below_alloc | apply pw_below_drewN | apply below_drew1 | refine bS50 ?_ GE456.out | refine bS50 ?_ GE457.out) | exact HB.out)) hb); have n3_ := aM50 (hbox); have n4_ := aM50 ((by rw [hg]; exact (below_size (by repeat (first | (with_reducible first | exact HB.out | apply below_alloc | apply pw_below_drewN | apply below_drew1 | refine bS50 ?_ GE456.out | refine bS50 ?_ GE457.out) | exact HB.out))) : w.heap.size ≤ gb458)); have n5_ := aM50 ((by rw [hg]; exact (below_size (by repeat (first | (with_reducible first | exact HB.out | apply below_alloc | apply pw_below_drewN | apply below_drew1 | refine bS50 ?_ GE456.out | refine bS50 ?_ GE457.out) | exact HB.out))) : w.heap.size ≤ gb458)); have n6_ := aM50 ((by rw [hg]; exact Nat.ne_of_lt (blk_lt (g := gb456) (o := .cells #[.int .u8 a0_0, .int .i64 a0_1, .string a0_2] 35 (0, 0)) (by (with_reducible repeat (first | refine bN50 ?_ _ | refine bD50 ?_ | refine bA50 ?_ _)); exact BK456.out)) : gb456 ≠ gb458)); have n7_ := aM50 ((by rw [hg]; exact Nat.ne_of_gt (blk_lt (g := gb456) (o := .cells #[.int .u8 a0_0, .int .i64 a0_1, .string a0_2] 35 (0, 0)) (by (with_reducible repeat (first | refine bN50 ?_ _ | refine bD50 ?_ | refine bA50 ?_ _)); exact BK456.out)) : gb458 ≠ gb456)); have n8_ := aM50 ((by rw [hg]; exact Nat.ne_of_lt (blk_lt (g := gb457) (o := .cells #[.int .u8 a1_0, .int .i64 a1_1, .string a1_2] 35 (0, 0)) (by (with_reducible repeat (first | refine bN50 ?_ _ | refine bD50 ?_ | refine bA50 ?_ _)); exact BK457.out)) : gb457 ≠ gb458)); have n9_ := aM50 ((by rw [hg]; exact Nat.ne_of_gt (blk_lt (g := gb457) (o := .cells #[.int .u8 a1_0, .int .i64 a1_1, .string a1_2] 35 (0, 0)) (by (with_reducible repeat (first | refine bN50 ?_ _ | refine bD50 ?_ | refine bA50 ?_ _)); exact BK457.out)) : gb458 ≠ gb457)); clear BK456; clear BK457; clear HB; have BK456 := n0_; have BK457 := n1_; have HB := n2_; have BK458 := n3_; have GW458 := n4_; have GE458 := n5_; have NB456_458 := n6_; have NB458_456 := n7_; have NB457_458 := n8_; have NB458_457 := n9_; clear n0_ n1_ n2_ n3_ n4_ n5_ n6_ n7_ n8_ n9_; clear hb hbox hg; have hnb8 := NB456_457.out; have hnc8 := NB457_456.out; have hnb9 := NB456_458.out; have hnc9 := NB458_456.out; have hcz10_0 : w7.cell? ⟨gb456, 0, none⟩ = some (.int .u8 a0_0) := (blk_cell BK456.out 0).trans rfl; have hcz10_1 : w7.cell? ⟨gb456, 1, none⟩ = some (.int .i64 a0_1) := (blk_cell BK456.out 1).trans rfl; have hcz10_2 : w7.cell? ⟨gb456, 2, none⟩ = some (.string a0_2) := (blk_cell BK456.out 2).trans rfl; have hfz10_0 := blk_frozen BK456.out 0; have hfz10_1 := blk_frozen BK456.out 1; have hfz10_2 := blk_frozen BK456.out 2; have hnb11 := NB457_458.out; have hnc11 := NB458_457.out; have hcz12_0 : w7.cell? ⟨gb457, 0, none⟩ = some (.int .u8 a1_0) := (blk_cell BK457.out 0).trans rfl; have hcz12_1 : w7.cell? ⟨gb457, 1, none⟩ = some (.int .i64 a1_1) := (blk_cell BK457.out 1).trans rfl; have hcz12_2 : w7.cell? ⟨gb457, 2, none⟩ = some (.string a1_2) := (blk_cell BK457.out 2).trans rfl; have hfz12_0 := blk_frozen BK457.out 0; have hfz12_1 := blk_frozen BK457.out 1; have hfz12_2 := blk_frozen BK457.out 2) | ((with_reducible refine gate_callee (f := 79) rfl ?_); refine goesL_ (some 11) rfl rfl Try.func79 (by kernel_rfl) rfl #[.agg #[.int .u8 a0_0, .int .i64 a0_1, .string a0_2], .agg #[.int .u8 a1_0, .int .i64 a1_1, .string a1_2]] rfl (by (try simp only [List.map_toArray, List.map_cons, List.map_nil]); first | done | rfl | (simp only [List.length_drop, List.length_take]; rfl)) ?_; (with_reducible refine (hindsightref02_asked.calls k a0_0 a0_1 a0_2 a1_0 a1_1 a1_2 t459 t460 _ A3.out).mono ?_); rintro e w13 ⟨rfl, hb⟩; refine ⟨_, rfl, ?_⟩; have n0_ := aM50 (blk_below (g := gb456) (o := .cells #[.int .u8 a0_0, .int .i64 a0_1, .string a0_2] 35 (0, 0)) (by (with_reducible repeat (first | refine bN50 ?_ _ | refine bD50 ?_ | refine bA50 ?_ _)); exact BK456.out) hb); have n1_ := aM50 (blk_below (g := gb457) (o := .cells #[.int .u8 a1_0, .int .i64 a1_1, .string a1_2] 35 (0, 0)) (by (with_reducible repeat (first | refine bN50 ?_ _ | refine bD50 ?_ | refine bA50 ?_ _)); exact BK457.out) hb); have n2_ := aM50 (blk_below (g := gb458) (o := .cells #[.int .u8 0, .int .i64 0, .string (⟨#[]⟩ : ByteArray)] 35 (0, 0)) (by (with_reducible repeat (first | refine bN50 ?_ _ | refine bD50 ?_ | refine bA50 ?_ _)); exact BK458.out) hb); have n3_ := aM50 (below_step (by repeat (first | (with_reducible first | exact HB.out | apply below_alloc | apply pw_below_drewN | apply below_drew1 | refine bS50 ?_ GE456.out | refine bS50 ?_ GE457.out | refine bS50 ?_ GE458.out) | exact HB.out)) hb); clear BK456; clear BK457; clear BK458; clear HB; have BK456 := n0_; have BK457 := n1_; have BK458 := n2_; have HB := n3_; clear n0_ n1_ n2_ n3_; (try clear hb); (try clear hb2); (try clear hk); (try clear hi)))
 (try simp only [Act.put, List.setIfInBounds_toArray, List.set_cons_zero, List.set_cons_succ])
 go_cut [18] (fun v18 wc => ∃ (kq : Nat) (x18_3 : Bool), v18 = .bool x18_3 ∧ Aside0 (hindsightref02_Add.j0 kq t460 x18_3 a0_0 a0_1 a0_2 a1_0 a1_1 a1_2 = some (r1, r2, r3, r4)) ∧ Aside0 (kq ≤ k) ∧ Aside0 (wc.heap[gb456]? = some (.cells #[.int .u8 a0_0, .int .i64 a0_1, .string a0_2] 35 (0, 0))) ∧ Aside0 (wc.heap[gb457]? = some (.cells #[.int .u8 a1_0, .int .i64 a1_1, .string a1_2] 35 (0, 0))) ∧ Aside0 (wc.heap[gb458]? = some (.cells #[.int .u8 0, .int .i64 0, .string (⟨#[]⟩ : ByteArray)] 35 (0, 0))) ∧ Aside0 (Below w.heap.size w wc))
 case first =>
  have H := HC4.out
  clear HC4
  by_cases c14 : t460 = 0
  ·rw [if_pos c14] at H
   have c14b0 : (t460 == 0) = true := beq_iff_eq.mpr c14
   have c14b1 : (t460 != 0) = false := bne_eq_false_iff_eq.mpr c14
   clear c14
   (first | rw [c14b0] | (simp only [i64_w, i32_w]; rw [c14b0]) | skip)
   have H' := aM50 H
   clear H
   go_wp2
   go_meet
   case rel => exact ⟨_, (t459), (by first | rfl | (simp; done) | (simp [*]; done)), H', ⟨by first | omega | exact Nat.le_refl _⟩, ⟨by (with_reducible repeat (first | refine bN50 ?_ _ | refine bD50 ?_ | refine bA50 ?_ _)); exact BK456.out⟩, ⟨by (with_reducible repeat (first | refine bN50 ?_ _ | refine bD50 ?_ | refine bA50 ?_ _)); exact BK457.out⟩, ⟨by (with_reducible repeat (first | refine bN50 ?_ _ | refine bD50 ?_ | refine bA50 ?_ _)); exact BK458.out⟩, ⟨by repeat (first | (with_reducible first | exact HB.out | apply below_alloc | apply pw_below_drewN | apply below_drew1 | refine bS50 ?_ GE456.out | refine bS50 ?_ GE457.out | refine bS50 ?_ GE458.out) | exact HB.out)⟩⟩
  ·rw [if_neg c14] at H
   have c14b0 : (t460 == 0) = false := beq_eq_false_iff_ne.mpr c14
   have c14b1 : (t460 != 0) = true := bne_iff_ne.mpr c14
   (first | rw [c14b0] | (simp only [i64_w, i32_w]; rw [c14b0]) | skip)
   have H' := aM50 H
   clear H
   go_wp2
   go_meet
   case rel => exact ⟨_, (true), (by first | rfl | (simp; done) | (simp [*]; done)), H', ⟨by first | omega | exact Nat.le_refl _⟩, ⟨by (with_reducible repeat (first | refine bN50 ?_ _ | refine bD50 ?_ | refine bA50 ?_ _)); exact BK456.out⟩, ⟨by (with_reducible repeat (first | refine bN50 ?_ _ | refine bD50 ?_ | refine bA50 ?_ _)); exact BK457.out⟩, ⟨by (with_reducible repeat (first | refine bN50 ?_ _ | refine bD50 ?_ | refine bA50 ?_ _)); exact BK458.out⟩, ⟨by repeat (first | (with_reducible first | exact HB.out | apply below_alloc | apply pw_below_drewN | apply below_drew1 | refine bS50 ?_ GE456.out | refine bS50 ?_ GE457.out | refine bS50 ?_ GE458.out) | exact HB.out)⟩⟩
 case rest =>
  clear HC4
  try clear c1
  try clear p2
  try clear c5
  try clear c7
  try clear c8
  try clear c9
  try clear c11
  try clear c14
  try clear c14b0
  try clear c14b1
  try clear hcz10_0
  try clear hcz10_1
  try clear hcz10_2
  try clear hcz12_0
  try clear hcz12_1
  try clear hcz12_2
  try clear hfz10_0
  try clear hfz10_1
  try clear hfz10_2
  try clear hfz12_0
  try clear hfz12_1
  try clear hfz12_2
  obtain ⟨kq, x18_3, rfl, HA, HJ3, BK456, BK457, BK458, HB⟩ := hcut
  cases kq with
  | zero => exact absurd HA.out (by simp [hindsightref02_Add.j0])
  | succ kj3 =>
   have H := HA.out
   clear HA
   simp only [hindsightref02_Add.j0] at H
   by_cases c15 : x18_3 = true
   ·subst c15
    have H1 : (some (0, 0, (⟨#[]⟩ : ByteArray), t460)) = some (r1, r2, r3, r4) := by rw [if_pos rfl] at H; exact H
    clear H
    have H := H1
    clear H1
    simp only [Option.some.injEq, Prod.mk.injEq] at H
    obtain ⟨rfl, rfl, rfl, rfl⟩ := H
    have hnb16 := NB458_456.out
    have hnc16 := NB456_458.out
    have hnb17 := NB458_457.out
    have hnc17 := NB457_458.out
    have hcz18_0 : wc.cell? ⟨gb458, 0, none⟩ = some (.int .u8 0) := (blk_cell BK458.out 0).trans rfl
    have hcz18_1 : wc.cell? ⟨gb458, 1, none⟩ = some (.int .i64 0) := (blk_cell BK458.out 1).trans rfl
    have hcz18_2 : wc.cell? ⟨gb458, 2, none⟩ = some (.string (⟨#[]⟩ : ByteArray)) := (blk_cell BK458.out 2).trans rfl
    have hfz18_0 := blk_frozen BK458.out 0
    have hfz18_1 := blk_frozen BK458.out 1
    have hfz18_2 := blk_frozen BK458.out 2
    go_wp2
    refine bodyPost_ret (results_ct rfl _ _ gb458 35 #[.int .u8 0, .int .i64 0, .string (⟨#[]⟩ : ByteArray)] (0, 0) _ rfl (by (with_reducible repeat (first | refine bN50 ?_ _ | refine bD50 ?_ | refine bA50 ?_ _)); refine blk_put (cs := #[.int .u8 0, .int .i64 0, .string (⟨#[]⟩ : ByteArray)]) ?_ 2 _ rfl; (with_reducible repeat (first | refine bN50 ?_ _ | refine bD50 ?_ | refine bA50 ?_ _)); refine blk_put (cs := #[.int .u8 0, .int .i64 0, .string (⟨#[]⟩ : ByteArray)]) ?_ 1 _ rfl; (with_reducible repeat (first | refine bN50 ?_ _ | refine bD50 ?_ | refine bA50 ?_ _)); refine blk_put (cs := #[.int .u8 0, .int .i64 0, .string (⟨#[]⟩ : ByteArray)]) ?_ 0 _ rfl; (with_reducible repeat (first | refine bN50 ?_ _ | refine bD50 ?_ | refine bA50 ?_ _)); exact BK458.out) Try.underlying35 rfl (by kernel_rfl)) rfl ?_
    exact ⟨by first | rfl | (simp [errW_none, errW_some] <;> rfl) | (simp [*, errW_none, errW_some] <;> rfl), by repeat (first | (with_reducible first | exact HB.out | apply below_alloc | apply pw_below_drewN | apply below_drew1 | refine bS50 ?_ GE456.out | refine bS50 ?_ GE457.out | refine bS50 ?_ GE458.out) | exact HB.out)⟩
   ·replace c15 := Bool.eq_false_iff.mpr c15
    subst c15
    have H1 : (if a1_1 > 0 then (if a0_1 > (wrap64 (9223372036854775807 - a1_1)) then (some (0, 0, (⟨#[]⟩ : ByteArray), 21)) else (if a1_1 < 0 then (if a0_1 < (wrap64 ((-9223372036854775808) - a1_1)) then (some (0, 0, (⟨#[]⟩ : ByteArray), 21)) else ((hindsightref02_Number.f (wrap64 (a0_1 + a1_1))).bind fun bt461 => (some (bt461.1, bt461.2.1, bt461.2.2, t460)))) else ((hindsightref02_Number.f (wrap64 (a0_1 + a1_1))).bind fun bt464 => (some (bt464.1, bt464.2.1, bt464.2.2, t460))))) else (if a1_1 < 0 then (if a0_1 < (wrap64 ((-9223372036854775808) - a1_1)) then (some (0, 0, (⟨#[]⟩ : ByteArray), 21)) else ((hindsightref02_Number.f (wrap64 (a0_1 + a1_1))).bind fun bt467 => (some (bt467.1, bt467.2.1, bt467.2.2, t460)))) else ((hindsightref02_Number.f (wrap64 (a0_1 + a1_1))).bind fun bt470 => (some (bt470.1, bt470.2.1, bt470.2.2, t460))))) = some (r1, r2, r3, r4) := by rw [if_neg (show ¬ (false = true) by decide)] at H; exact H
    clear H
    have H := H1
    clear H1
    by_cases c19 : a1_1 > 0
    ·rw [if_pos c19] at H
     have c19b0 : decide (0 < a1_1) = true := decide_eq_true c19
     clear c19
     by_cases c20 : a0_1 > (wrap64 (9223372036854775807 - a1_1))
     ·rw [if_pos c20] at H
      have c20b0 : decide ((wrap64 (9223372036854775807 - a1_1)) < a0_1) = true := decide_eq_true c20
      clear c20
      simp only [Option.some.injEq, Prod.mk.injEq] at H
      obtain ⟨rfl, rfl, rfl, rfl⟩ := H
      have hnb21 := NB457_456.out
      have hnc21 := NB456_457.out
      have hnb22 := NB457_458.out
      have hnc22 := NB458_457.out
      have hcz23_0 : wc.cell? ⟨gb457, 0, none⟩ = some (.int .u8 a1_0) := (blk_cell BK457.out 0).trans rfl
      have hcz23_1 : wc.cell? ⟨gb457, 1, none⟩ = some (.int .i64 a1_1) := (blk_cell BK457.out 1).trans rfl
      have hcz23_2 : wc.cell? ⟨gb457, 2, none⟩ = some (.string a1_2) := (blk_cell BK457.out 2).trans rfl
      have hfz23_0 := blk_frozen BK457.out 0
      have hfz23_1 := blk_frozen BK457.out 1
      have hfz23_2 := blk_frozen BK457.out 2
      have hnb24 := NB456_458.out
      have hnc24 := NB458_456.out
      have hcz25_0 : wc.cell? ⟨gb456, 0, none⟩ = some (.int .u8 a0_0) := (blk_cell BK456.out 0).trans rfl
      have hcz25_1 : wc.cell? ⟨gb456, 1, none⟩ = some (.int .i64 a0_1) := (blk_cell BK456.out 1).trans rfl
      have hcz25_2 : wc.cell? ⟨gb456, 2, none⟩ = some (.string a0_2) := (blk_cell BK456.out 2).trans rfl
      have hfz25_0 := blk_frozen BK456.out 0
      have hfz25_1 := blk_frozen BK456.out 1
      have hfz25_2 := blk_frozen BK456.out 2
      have hcz26_0 : wc.cell? ⟨gb458, 0, none⟩ = some (.int .u8 0) := (blk_cell BK458.out 0).trans rfl
      have hcz26_1 : wc.cell? ⟨gb458, 1, none⟩ = some (.int .i64 0) := (blk_cell BK458.out 1).trans rfl
      have hcz26_2 : wc.cell? ⟨gb458, 2, none⟩ = some (.string (⟨#[]⟩ : ByteArray)) := (blk_cell BK458.out 2).trans rfl
      have hfz26_0 := blk_frozen BK458.out 0
      have hfz26_1 := blk_frozen BK458.out 1
      have hfz26_2 := blk_frozen BK458.out 2
      go_wp2
      refine bodyPost_ret (results_ct rfl _ _ gb458 35 #[.int .u8 0, .int .i64 0, .string (⟨#[]⟩ : ByteArray)] (0, 0) _ rfl (by (with_reducible repeat (first | refine bN50 ?_ _ | refine bD50 ?_ | refine bA50 ?_ _)); refine blk_put (cs := #[.int .u8 0, .int .i64 0, .string (⟨#[]⟩ : ByteArray)]) ?_ 2 _ rfl; (with_reducible repeat (first | refine bN50 ?_ _ | refine bD50 ?_ | refine bA50 ?_ _)); refine blk_put (cs := #[.int .u8 0, .int .i64 0, .string (⟨#[]⟩ : ByteArray)]) ?_ 1 _ rfl; (with_reducible repeat (first | refine bN50 ?_ _ | refine bD50 ?_ | refine bA50 ?_ _)); refine blk_put (cs := #[.int .u8 0, .int .i64 0, .string (⟨#[]⟩ : ByteArray)]) ?_ 0 _ rfl; (with_reducible repeat (first | refine bN50 ?_ _ | refine bD50 ?_ | refine bA50 ?_ _)); exact BK458.out) Try.underlying35 rfl (by kernel_rfl)) rfl ?_
      exact ⟨by first | rfl | (simp [errW_none, errW_some] <;> rfl) | (simp [*, errW_none, errW_some] <;> rfl), by repeat (first | (with_reducible first | exact HB.out | apply below_alloc | apply pw_below_drewN | apply below_drew1 | refine bS50 ?_ GE456.out | refine bS50 ?_ GE457.out | refine bS50 ?_ GE458.out) | exact HB.out)⟩
     ·rw [if_neg c20] at H
      have c20b0 : decide ((wrap64 (9223372036854775807 - a1_1)) < a0_1) = false := decide_eq_false c20
      clear c20
      by_cases c27 : a1_1 < 0
      ·rw [if_pos c27] at H
       have c27b0 : decide (a1_1 < 0) = true := decide_eq_true c27
       clear c27
       by_cases c28 : a0_1 < (wrap64 ((-9223372036854775808) - a1_1))
       ·rw [if_pos c28] at H
        have c28b0 : decide (a0_1 < (wrap64 ((-9223372036854775808) - a1_1))) = true := decide_eq_true c28
        clear c28
        simp only [Option.some.injEq, Prod.mk.injEq] at H
        obtain ⟨rfl, rfl, rfl, rfl⟩ := H
        have hnb29 := NB457_456.out
        have hnc29 := NB456_457.out
        have hnb30 := NB457_458.out
        have hnc30 := NB458_457.out
        have hcz31_0 : wc.cell? ⟨gb457, 0, none⟩ = some (.int .u8 a1_0) := (blk_cell BK457.out 0).trans rfl
        have hcz31_1 : wc.cell? ⟨gb457, 1, none⟩ = some (.int .i64 a1_1) := (blk_cell BK457.out 1).trans rfl
        have hcz31_2 : wc.cell? ⟨gb457, 2, none⟩ = some (.string a1_2) := (blk_cell BK457.out 2).trans rfl
        have hfz31_0 := blk_frozen BK457.out 0
        have hfz31_1 := blk_frozen BK457.out 1
        have hfz31_2 := blk_frozen BK457.out 2
        have hnb32 := NB456_458.out
        have hnc32 := NB458_456.out
        have hcz33_0 : wc.cell? ⟨gb456, 0, none⟩ = some (.int .u8 a0_0) := (blk_cell BK456.out 0).trans rfl
        have hcz33_1 : wc.cell? ⟨gb456, 1, none⟩ = some (.int .i64 a0_1) := (blk_cell BK456.out 1).trans rfl
        have hcz33_2 : wc.cell? ⟨gb456, 2, none⟩ = some (.string a0_2) := (blk_cell BK456.out 2).trans rfl
        have hfz33_0 := blk_frozen BK456.out 0
        have hfz33_1 := blk_frozen BK456.out 1
        have hfz33_2 := blk_frozen BK456.out 2
        have hcz34_0 : wc.cell? ⟨gb458, 0, none⟩ = some (.int .u8 0) := (blk_cell BK458.out 0).trans rfl
        have hcz34_1 : wc.cell? ⟨gb458, 1, none⟩ = some (.int .i64 0) := (blk_cell BK458.out 1).trans rfl
        have hcz34_2 : wc.cell? ⟨gb458, 2, none⟩ = some (.string (⟨#[]⟩ : ByteArray)) := (blk_cell BK458.out 2).trans rfl
        have hfz34_0 := blk_frozen BK458.out 0
        have hfz34_1 := blk_frozen BK458.out 1
        have hfz34_2 := blk_frozen BK458.out 2
        go_wp2
        refine bodyPost_ret (results_ct rfl _ _ gb458 35 #[.int .u8 0, .int .i64 0, .string (⟨#[]⟩ : ByteArray)] (0, 0) _ rfl (by (with_reducible repeat (first | refine bN50 ?_ _ | refine bD50 ?_ | refine bA50 ?_ _)); refine blk_put (cs := #[.int .u8 0, .int .i64 0, .string (⟨#[]⟩ : ByteArray)]) ?_ 2 _ rfl; (with_reducible repeat (first | refine bN50 ?_ _ | refine bD50 ?_ | refine bA50 ?_ _)); refine blk_put (cs := #[.int .u8 0, .int .i64 0, .string (⟨#[]⟩ : ByteArray)]) ?_ 1 _ rfl; (with_reducible repeat (first | refine bN50 ?_ _ | refine bD50 ?_ | refine bA50 ?_ _)); refine blk_put (cs := #[.int .u8 0, .int .i64 0, .string (⟨#[]⟩ : ByteArray)]) ?_ 0 _ rfl; (with_reducible repeat (first | refine bN50 ?_ _ | refine bD50 ?_ | refine bA50 ?_ _)); exact BK458.out) Try.underlying35 rfl (by kernel_rfl)) rfl ?_
        exact ⟨by first | rfl | (simp [errW_none, errW_some] <;> rfl) | (simp [*, errW_none, errW_some] <;> rfl), by repeat (first | (with_reducible first | exact HB.out | apply below_alloc | apply pw_below_drewN | apply below_drew1 | refine bS50 ?_ GE456.out | refine bS50 ?_ GE457.out | refine bS50 ?_ GE458.out) | exact HB.out)⟩
       ·rw [if_neg c28] at H
        have c28b0 : decide (a0_1 < (wrap64 ((-9223372036854775808) - a1_1))) = false := decide_eq_false c28
        clear c28
        replace H := Option.bind_eq_some_iff.mp H
        obtain ⟨⟨t461, t462, t463⟩, A350, H⟩ := H
        replace H : (some (t461, t462, t463, t460)) = some (r1, r2, r3, r4) := H
        have A35 := aM50 A350
        clear A350
        simp only [Option.some.injEq, Prod.mk.injEq] at H
        obtain ⟨rfl, rfl, rfl, rfl⟩ := H
        have hnb36 := NB457_456.out
        have hnc36 := NB456_457.out
        have hnb37 := NB457_458.out
        have hnc37 := NB458_457.out
        have hcz38_0 : wc.cell? ⟨gb457, 0, none⟩ = some (.int .u8 a1_0) := (blk_cell BK457.out 0).trans rfl
        have hcz38_1 : wc.cell? ⟨gb457, 1, none⟩ = some (.int .i64 a1_1) := (blk_cell BK457.out 1).trans rfl
        have hcz38_2 : wc.cell? ⟨gb457, 2, none⟩ = some (.string a1_2) := (blk_cell BK457.out 2).trans rfl
        have hfz38_0 := blk_frozen BK457.out 0
        have hfz38_1 := blk_frozen BK457.out 1
        have hfz38_2 := blk_frozen BK457.out 2
        have hnb39 := NB456_458.out
        have hnc39 := NB458_456.out
        have hcz40_0 : wc.cell? ⟨gb456, 0, none⟩ = some (.int .u8 a0_0) := (blk_cell BK456.out 0).trans rfl
        have hcz40_1 : wc.cell? ⟨gb456, 1, none⟩ = some (.int .i64 a0_1) := (blk_cell BK456.out 1).trans rfl
        have hcz40_2 : wc.cell? ⟨gb456, 2, none⟩ = some (.string a0_2) := (blk_cell BK456.out 2).trans rfl
        have hfz40_0 := blk_frozen BK456.out 0
        have hfz40_1 := blk_frozen BK456.out 1
        have hfz40_2 := blk_frozen BK456.out 2
        go_wp2_with (first | ((with_reducible refine gate_callee (f := 32) rfl ?_); refine goesL_ (some 51) rfl rfl Try.func32 (by kernel_rfl) rfl #[.int .i64 (wrap64 (a0_1 + a1_1))] rfl (by (try simp only [List.map_toArray, List.map_cons, List.map_nil]); first | done | rfl | (simp only [List.length_drop, List.length_take]; rfl)) ?_; (with_reducible refine (hindsightref02_Number.calls (wrap64 (a0_1 + a1_1)) t461 t462 t463 _ A35.out).mono ?_); rintro e w41 ⟨rfl, hb⟩; refine ⟨_, rfl, ?_⟩; have n0_ := aM50 (blk_below (g := gb456) (o := .cells #[.int .u8 a0_0, .int .i64 a0_1, .string a0_2] 35 (0, 0)) (by (with_reducible repeat (first | refine bN50 ?_ _ | refine bD50 ?_ | refine bA50 ?_ _)); exact BK456.out) hb); have n1_ := aM50 (blk_below (g := gb457) (o := .cells #[.int .u8 a1_0, .int .i64 a1_1, .string a1_2] 35 (0, 0)) (by (with_reducible repeat (first | refine bN50 ?_ _ | refine bD50 ?_ | refine bA50 ?_ _)); exact BK457.out) hb); have n2_ := aM50 (blk_below (g := gb458) (o := .cells #[.int .u8 0, .int .i64 0, .string (⟨#[]⟩ : ByteArray)] 35 (0, 0)) (by (with_reducible repeat (first | refine bN50 ?_ _ | refine bD50 ?_ | refine bA50 ?_ _)); exact BK458.out) hb); have n3_ := aM50 (below_step (by repeat (first | (with_reducible first | exact HB.out | apply below_alloc | apply pw_below_drewN | apply below_drew1 | refine bS50 ?_ GE456.out | refine bS50 ?_ GE457.out | refine bS50 ?_ GE458.out) | exact HB.out)) hb); clear BK456; clear BK457; clear BK458; clear HB; have BK456 := n0_; have BK457 := n1_; have BK458 := n2_; have HB := n3_; clear n0_ n1_ n2_ n3_; (try clear hb); (try clear hb2); (try clear hk); (try clear hi); have hcz42_0 : w41.cell? ⟨gb458, 0, none⟩ = some (.int .u8 0) := (blk_cell BK458.out 0).trans rfl; have hcz42_1 : w41.cell? ⟨gb458, 1, none⟩ = some (.int .i64 0) := (blk_cell BK458.out 1).trans rfl; have hcz42_2 : w41.cell? ⟨gb458, 2, none⟩ = some (.string (⟨#[]⟩ : ByteArray)) := (blk_cell BK458.out 2).trans rfl; have hfz42_0 := blk_frozen BK458.out 0; have hfz42_1 := blk_frozen BK458.out 1; have hfz42_2 := blk_frozen BK458.out 2))
        refine bodyPost_ret (results_ct rfl _ _ gb458 35 #[.int .u8 t461, .int .i64 t462, .string t463] (0, 0) _ rfl (by (with_reducible repeat (first | refine bN50 ?_ _ | refine bD50 ?_ | refine bA50 ?_ _)); refine blk_put (cs := #[.int .u8 t461, .int .i64 t462, .string (⟨#[]⟩ : ByteArray)]) ?_ 2 _ rfl; (with_reducible repeat (first | refine bN50 ?_ _ | refine bD50 ?_ | refine bA50 ?_ _)); refine blk_put (cs := #[.int .u8 t461, .int .i64 0, .string (⟨#[]⟩ : ByteArray)]) ?_ 1 _ rfl; (with_reducible repeat (first | refine bN50 ?_ _ | refine bD50 ?_ | refine bA50 ?_ _)); refine blk_put (cs := #[.int .u8 0, .int .i64 0, .string (⟨#[]⟩ : ByteArray)]) ?_ 0 _ rfl; (with_reducible repeat (first | refine bN50 ?_ _ | refine bD50 ?_ | refine bA50 ?_ _)); exact BK458.out) Try.underlying35 rfl (by kernel_rfl)) rfl ?_
        exact ⟨by first | rfl | (simp [errW_none, errW_some] <;> rfl) | (simp [*, errW_none, errW_some] <;> rfl), by repeat (first | (with_reducible first | exact HB.out | apply below_alloc | apply pw_below_drewN | apply below_drew1 | refine bS50 ?_ GE456.out | refine bS50 ?_ GE457.out | refine bS50 ?_ GE458.out) | exact HB.out)⟩
      ·rw [if_neg c27] at H
       have c27b0 : decide (a1_1 < 0) = false := decide_eq_false c27
       clear c27
       replace H := Option.bind_eq_some_iff.mp H
       obtain ⟨⟨t464, t465, t466⟩, A430, H⟩ := H
       replace H : (some (t464, t465, t466, t460)) = some (r1, r2, r3, r4) := H
       have A43 := aM50 A430
       clear A430
       simp only [Option.some.injEq, Prod.mk.injEq] at H
       obtain ⟨rfl, rfl, rfl, rfl⟩ := H
       have hnb44 := NB457_456.out
       have hnc44 := NB456_457.out
       have hnb45 := NB457_458.out
       have hnc45 := NB458_457.out
       have hcz46_0 : wc.cell? ⟨gb457, 0, none⟩ = some (.int .u8 a1_0) := (blk_cell BK457.out 0).trans rfl
       have hcz46_1 : wc.cell? ⟨gb457, 1, none⟩ = some (.int .i64 a1_1) := (blk_cell BK457.out 1).trans rfl
       have hcz46_2 : wc.cell? ⟨gb457, 2, none⟩ = some (.string a1_2) := (blk_cell BK457.out 2).trans rfl
       have hfz46_0 := blk_frozen BK457.out 0
       have hfz46_1 := blk_frozen BK457.out 1
       have hfz46_2 := blk_frozen BK457.out 2
       have hnb47 := NB456_458.out
       have hnc47 := NB458_456.out
       have hcz48_0 : wc.cell? ⟨gb456, 0, none⟩ = some (.int .u8 a0_0) := (blk_cell BK456.out 0).trans rfl
       have hcz48_1 : wc.cell? ⟨gb456, 1, none⟩ = some (.int .i64 a0_1) := (blk_cell BK456.out 1).trans rfl
       have hcz48_2 : wc.cell? ⟨gb456, 2, none⟩ = some (.string a0_2) := (blk_cell BK456.out 2).trans rfl
       have hfz48_0 := blk_frozen BK456.out 0
       have hfz48_1 := blk_frozen BK456.out 1
       have hfz48_2 := blk_frozen BK456.out 2
       go_wp2_with (first | ((with_reducible refine gate_callee (f := 32) rfl ?_); refine goesL_ (some 51) rfl rfl Try.func32 (by kernel_rfl) rfl #[.int .i64 (wrap64 (a0_1 + a1_1))] rfl (by (try simp only [List.map_toArray, List.map_cons, List.map_nil]); first | done | rfl | (simp only [List.length_drop, List.length_take]; rfl)) ?_; (with_reducible refine (hindsightref02_Number.calls (wrap64 (a0_1 + a1_1)) t464 t465 t466 _ A43.out).mono ?_); rintro e w49 ⟨rfl, hb⟩; refine ⟨_, rfl, ?_⟩; have n0_ := aM50 (blk_below (g := gb456) (o := .cells #[.int .u8 a0_0, .int .i64 a0_1, .string a0_2] 35 (0, 0)) (by (with_reducible repeat (first | refine bN50 ?_ _ | refine bD50 ?_ | refine bA50 ?_ _)); exact BK456.out) hb); have n1_ := aM50 (blk_below (g := gb457) (o := .cells #[.int .u8 a1_0, .int .i64 a1_1, .string a1_2] 35 (0, 0)) (by (with_reducible repeat (first | refine bN50 ?_ _ | refine bD50 ?_ | refine bA50 ?_ _)); exact BK457.out) hb); have n2_ := aM50 (blk_below (g := gb458) (o := .cells #[.int .u8 0, .int .i64 0, .string (⟨#[]⟩ : ByteArray)] 35 (0, 0)) (by (with_reducible repeat (first | refine bN50 ?_ _ | refine bD50 ?_ | refine bA50 ?_ _)); exact BK458.out) hb); have n3_ := aM50 (below_step (by repeat (first | (with_reducible first | exact HB.out | apply below_alloc | apply pw_below_drewN | apply below_drew1 | refine bS50 ?_ GE456.out | refine bS50 ?_ GE457.out | refine bS50 ?_ GE458.out) | exact HB.out)) hb); clear BK456; clear BK457; clear BK458; clear HB; have BK456 := n0_; have BK457 := n1_; have BK458 := n2_; have HB := n3_; clear n0_ n1_ n2_ n3_; (try clear hb); (try clear hb2); (try clear hk); (try clear hi); have hcz50_0 : w49.cell? ⟨gb458, 0, none⟩ = some (.int .u8 0) := (blk_cell BK458.out 0).trans rfl; have hcz50_1 : w49.cell? ⟨gb458, 1, none⟩ = some (.int .i64 0) := (blk_cell BK458.out 1).trans rfl; have hcz50_2 : w49.cell? ⟨gb458, 2, none⟩ = some (.string (⟨#[]⟩ : ByteArray)) := (blk_cell BK458.out 2).trans rfl; have hfz50_0 := blk_frozen BK458.out 0; have hfz50_1 := blk_frozen BK458.out 1; have hfz50_2 := blk_frozen BK458.out 2))
       refine bodyPost_ret (results_ct rfl _ _ gb458 35 #[.int .u8 t464, .int .i64 t465, .string t466] (0, 0) _ rfl (by (with_reducible repeat (first | refine bN50 ?_ _ | refine bD50 ?_ | refine bA50 ?_ _)); refine blk_put (cs := #[.int .u8 t464, .int .i64 t465, .string (⟨#[]⟩ : ByteArray)]) ?_ 2 _ rfl; (with_reducible repeat (first | refine bN50 ?_ _ | refine bD50 ?_ | refine bA50 ?_ _)); refine blk_put (cs := #[.int .u8 t464, .int .i64 0, .string (⟨#[]⟩ : ByteArray)]) ?_ 1 _ rfl; (with_reducible repeat (first | refine bN50 ?_ _ | refine bD50 ?_ | refine bA50 ?_ _)); refine blk_put (cs := #[.int .u8 0, .int .i64 0, .string (⟨#[]⟩ : ByteArray)]) ?_ 0 _ rfl; (with_reducible repeat (first | refine bN50 ?_ _ | refine bD50 ?_ | refine bA50 ?_ _)); exact BK458.out) Try.underlying35 rfl (by kernel_rfl)) rfl ?_
       exact ⟨by first | rfl | (simp [errW_none, errW_some] <;> rfl) | (simp [*, errW_none, errW_some] <;> rfl), by repeat (first | (with_reducible first | exact HB.out | apply below_alloc | apply pw_below_drewN | apply below_drew1 | refine bS50 ?_ GE456.out | refine bS50 ?_ GE457.out | refine bS50 ?_ GE458.out) | exact HB.out)⟩
    ·rw [if_neg c19] at H
     have c19b0 : decide (0 < a1_1) = false := decide_eq_false c19
     clear c19
     by_cases c51 : a1_1 < 0
     ·rw [if_pos c51] at H
      have c51b0 : decide (a1_1 < 0) = true := decide_eq_true c51
      clear c51
      by_cases c52 : a0_1 < (wrap64 ((-9223372036854775808) - a1_1))
      ·rw [if_pos c52] at H
       have c52b0 : decide (a0_1 < (wrap64 ((-9223372036854775808) - a1_1))) = true := decide_eq_true c52
       clear c52
       simp only [Option.some.injEq, Prod.mk.injEq] at H
       obtain ⟨rfl, rfl, rfl, rfl⟩ := H
       have hnb53 := NB457_456.out
       have hnc53 := NB456_457.out
       have hnb54 := NB457_458.out
       have hnc54 := NB458_457.out
       have hcz55_0 : wc.cell? ⟨gb457, 0, none⟩ = some (.int .u8 a1_0) := (blk_cell BK457.out 0).trans rfl
       have hcz55_1 : wc.cell? ⟨gb457, 1, none⟩ = some (.int .i64 a1_1) := (blk_cell BK457.out 1).trans rfl
       have hcz55_2 : wc.cell? ⟨gb457, 2, none⟩ = some (.string a1_2) := (blk_cell BK457.out 2).trans rfl
       have hfz55_0 := blk_frozen BK457.out 0
       have hfz55_1 := blk_frozen BK457.out 1
       have hfz55_2 := blk_frozen BK457.out 2
       have hnb56 := NB456_458.out
       have hnc56 := NB458_456.out
       have hcz57_0 : wc.cell? ⟨gb456, 0, none⟩ = some (.int .u8 a0_0) := (blk_cell BK456.out 0).trans rfl
       have hcz57_1 : wc.cell? ⟨gb456, 1, none⟩ = some (.int .i64 a0_1) := (blk_cell BK456.out 1).trans rfl
       have hcz57_2 : wc.cell? ⟨gb456, 2, none⟩ = some (.string a0_2) := (blk_cell BK456.out 2).trans rfl
       have hfz57_0 := blk_frozen BK456.out 0
       have hfz57_1 := blk_frozen BK456.out 1
       have hfz57_2 := blk_frozen BK456.out 2
       have hcz58_0 : wc.cell? ⟨gb458, 0, none⟩ = some (.int .u8 0) := (blk_cell BK458.out 0).trans rfl
       have hcz58_1 : wc.cell? ⟨gb458, 1, none⟩ = some (.int .i64 0) := (blk_cell BK458.out 1).trans rfl
       have hcz58_2 : wc.cell? ⟨gb458, 2, none⟩ = some (.string (⟨#[]⟩ : ByteArray)) := (blk_cell BK458.out 2).trans rfl
       have hfz58_0 := blk_frozen BK458.out 0
       have hfz58_1 := blk_frozen BK458.out 1
       have hfz58_2 := blk_frozen BK458.out 2
       go_wp2
       refine bodyPost_ret (results_ct rfl _ _ gb458 35 #[.int .u8 0, .int .i64 0, .string (⟨#[]⟩ : ByteArray)] (0, 0) _ rfl (by (with_reducible repeat (first | refine bN50 ?_ _ | refine bD50 ?_ | refine bA50 ?_ _)); refine blk_put (cs := #[.int .u8 0, .int .i64 0, .string (⟨#[]⟩ : ByteArray)]) ?_ 2 _ rfl; (with_reducible repeat (first | refine bN50 ?_ _ | refine bD50 ?_ | refine bA50 ?_ _)); refine blk_put (cs := #[.int .u8 0, .int .i64 0, .string (⟨#[]⟩ : ByteArray)]) ?_ 1 _ rfl; (with_reducible repeat (first | refine bN50 ?_ _ | refine bD50 ?_ | refine bA50 ?_ _)); refine blk_put (cs := #[.int .u8 0, .int .i64 0, .string (⟨#[]⟩ : ByteArray)]) ?_ 0 _ rfl; (with_reducible repeat (first | refine bN50 ?_ _ | refine bD50 ?_ | refine bA50 ?_ _)); exact BK458.out) Try.underlying35 rfl (by kernel_rfl)) rfl ?_
       exact ⟨by first | rfl | (simp [errW_none, errW_some] <;> rfl) | (simp [*, errW_none, errW_some] <;> rfl), by repeat (first | (with_reducible first | exact HB.out | apply below_alloc | apply pw_below_drewN | apply below_drew1 | refine bS50 ?_ GE456.out | refine bS50 ?_ GE457.out | refine bS50 ?_ GE458.out) | exact HB.out)⟩
      ·rw [if_neg c52] at H
       have c52b0 : decide (a0_1 < (wrap64 ((-9223372036854775808) - a1_1))) = false := decide_eq_false c52
       clear c52
       replace H := Option.bind_eq_some_iff.mp H
       obtain ⟨⟨t467, t468, t469⟩, A590, H⟩ := H
       replace H : (some (t467, t468, t469, t460)) = some (r1, r2, r3, r4) := H
       have A59 := aM50 A590
       clear A590
       simp only [Option.some.injEq, Prod.mk.injEq] at H
       obtain ⟨rfl, rfl, rfl, rfl⟩ := H
       have hnb60 := NB457_456.out
       have hnc60 := NB456_457.out
       have hnb61 := NB457_458.out
       have hnc61 := NB458_457.out
       have hcz62_0 : wc.cell? ⟨gb457, 0, none⟩ = some (.int .u8 a1_0) := (blk_cell BK457.out 0).trans rfl
       have hcz62_1 : wc.cell? ⟨gb457, 1, none⟩ = some (.int .i64 a1_1) := (blk_cell BK457.out 1).trans rfl
       have hcz62_2 : wc.cell? ⟨gb457, 2, none⟩ = some (.string a1_2) := (blk_cell BK457.out 2).trans rfl
       have hfz62_0 := blk_frozen BK457.out 0
       have hfz62_1 := blk_frozen BK457.out 1
       have hfz62_2 := blk_frozen BK457.out 2
       have hnb63 := NB456_458.out
       have hnc63 := NB458_456.out
       have hcz64_0 : wc.cell? ⟨gb456, 0, none⟩ = some (.int .u8 a0_0) := (blk_cell BK456.out 0).trans rfl
       have hcz64_1 : wc.cell? ⟨gb456, 1, none⟩ = some (.int .i64 a0_1) := (blk_cell BK456.out 1).trans rfl
       have hcz64_2 : wc.cell? ⟨gb456, 2, none⟩ = some (.string a0_2) := (blk_cell BK456.out 2).trans rfl
       have hfz64_0 := blk_frozen BK456.out 0
       have hfz64_1 := blk_frozen BK456.out 1
       have hfz64_2 := blk_frozen BK456.out 2
       go_wp2_with (first | ((with_reducible refine gate_callee (f := 32) rfl ?_); refine goesL_ (some 51) rfl rfl Try.func32 (by kernel_rfl) rfl #[.int .i64 (wrap64 (a0_1 + a1_1))] rfl (by (try simp only [List.map_toArray, List.map_cons, List.map_nil]); first | done | rfl | (simp only [List.length_drop, List.length_take]; rfl)) ?_; (with_reducible refine (hindsightref02_Number.calls (wrap64 (a0_1 + a1_1)) t467 t468 t469 _ A59.out).mono ?_); rintro e w65 ⟨rfl, hb⟩; refine ⟨_, rfl, ?_⟩; have n0_ := aM50 (blk_below (g := gb456) (o := .cells #[.int .u8 a0_0, .int .i64 a0_1, .string a0_2] 35 (0, 0)) (by (with_reducible repeat (first | refine bN50 ?_ _ | refine bD50 ?_ | refine bA50 ?_ _)); exact BK456.out) hb); have n1_ := aM50 (blk_below (g := gb457) (o := .cells #[.int .u8 a1_0, .int .i64 a1_1, .string a1_2] 35 (0, 0)) (by (with_reducible repeat (first | refine bN50 ?_ _ | refine bD50 ?_ | refine bA50 ?_ _)); exact BK457.out) hb); have n2_ := aM50 (blk_below (g := gb458) (o := .cells #[.int .u8 0, .int .i64 0, .string (⟨#[]⟩ : ByteArray)] 35 (0, 0)) (by (with_reducible repeat (first | refine bN50 ?_ _ | refine bD50 ?_ | refine bA50 ?_ _)); exact BK458.out) hb); have n3_ := aM50 (below_step (by repeat (first | (with_reducible first | exact HB.out | apply below_alloc | apply pw_below_drewN | apply below_drew1 | refine bS50 ?_ GE456.out | refine bS50 ?_ GE457.out | refine bS50 ?_ GE458.out) | exact HB.out)) hb); clear BK456; clear BK457; clear BK458; clear HB; have BK456 := n0_; have BK457 := n1_; have BK458 := n2_; have HB := n3_; clear n0_ n1_ n2_ n3_; (try clear hb); (try clear hb2); (try clear hk); (try clear hi); have hcz66_0 : w65.cell? ⟨gb458, 0, none⟩ = some (.int .u8 0) := (blk_cell BK458.out 0).trans rfl; have hcz66_1 : w65.cell? ⟨gb458, 1, none⟩ = some (.int .i64 0) := (blk_cell BK458.out 1).trans rfl; have hcz66_2 : w65.cell? ⟨gb458, 2, none⟩ = some (.string (⟨#[]⟩ : ByteArray)) := (blk_cell BK458.out 2).trans rfl; have hfz66_0 := blk_frozen BK458.out 0; have hfz66_1 := blk_frozen BK458.out 1; have hfz66_2 := blk_frozen BK458.out 2))
       refine bodyPost_ret (results_ct rfl _ _ gb458 35 #[.int .u8 t467, .int .i64 t468, .string t469] (0, 0) _ rfl (by (with_reducible repeat (first | refine bN50 ?_ _ | refine bD50 ?_ | refine bA50 ?_ _)); refine blk_put (cs := #[.int .u8 t467, .int .i64 t468, .string (⟨#[]⟩ : ByteArray)]) ?_ 2 _ rfl; (with_reducible repeat (first | refine bN50 ?_ _ | refine bD50 ?_ | refine bA50 ?_ _)); refine blk_put (cs := #[.int .u8 t467, .int .i64 0, .string (⟨#[]⟩ : ByteArray)]) ?_ 1 _ rfl; (with_reducible repeat (first | refine bN50 ?_ _ | refine bD50 ?_ | refine bA50 ?_ _)); refine blk_put (cs := #[.int .u8 0, .int .i64 0, .string (⟨#[]⟩ : ByteArray)]) ?_ 0 _ rfl; (with_reducible repeat (first | refine bN50 ?_ _ | refine bD50 ?_ | refine bA50 ?_ _)); exact BK458.out) Try.underlying35 rfl (by kernel_rfl)) rfl ?_
       exact ⟨by first | rfl | (simp [errW_none, errW_some] <;> rfl) | (simp [*, errW_none, errW_some] <;> rfl), by repeat (first | (with_reducible first | exact HB.out | apply below_alloc | apply pw_below_drewN | apply below_drew1 | refine bS50 ?_ GE456.out | refine bS50 ?_ GE457.out | refine bS50 ?_ GE458.out) | exact HB.out)⟩
     ·rw [if_neg c51] at H
      have c51b0 : decide (a1_1 < 0) = false := decide_eq_false c51
      clear c51
      replace H := Option.bind_eq_some_iff.mp H
      obtain ⟨⟨t470, t471, t472⟩, A670, H⟩ := H
      replace H : (some (t470, t471, t472, t460)) = some (r1, r2, r3, r4) := H
      have A67 := aM50 A670
      clear A670
      simp only [Option.some.injEq, Prod.mk.injEq] at H
      obtain ⟨rfl, rfl, rfl, rfl⟩ := H
      have hnb68 := NB457_456.out
      have hnc68 := NB456_457.out
      have hnb69 := NB457_458.out
      have hnc69 := NB458_457.out
      have hcz70_0 : wc.cell? ⟨gb457, 0, none⟩ = some (.int .u8 a1_0) := (blk_cell BK457.out 0).trans rfl
      have hcz70_1 : wc.cell? ⟨gb457, 1, none⟩ = some (.int .i64 a1_1) := (blk_cell BK457.out 1).trans rfl
      have hcz70_2 : wc.cell? ⟨gb457, 2, none⟩ = some (.string a1_2) := (blk_cell BK457.out 2).trans rfl
      have hfz70_0 := blk_frozen BK457.out 0
      have hfz70_1 := blk_frozen BK457.out 1
      have hfz70_2 := blk_frozen BK457.out 2
      have hnb71 := NB456_458.out
      have hnc71 := NB458_456.out
      have hcz72_0 : wc.cell? ⟨gb456, 0, none⟩ = some (.int .u8 a0_0) := (blk_cell BK456.out 0).trans rfl
      have hcz72_1 : wc.cell? ⟨gb456, 1, none⟩ = some (.int .i64 a0_1) := (blk_cell BK456.out 1).trans rfl
      have hcz72_2 : wc.cell? ⟨gb456, 2, none⟩ = some (.string a0_2) := (blk_cell BK456.out 2).trans rfl
      have hfz72_0 := blk_frozen BK456.out 0
      have hfz72_1 := blk_frozen BK456.out 1
      have hfz72_2 := blk_frozen BK456.out 2
      go_wp2_with (first | ((with_reducible refine gate_callee (f := 32) rfl ?_); refine goesL_ (some 51) rfl rfl Try.func32 (by kernel_rfl) rfl #[.int .i64 (wrap64 (a0_1 + a1_1))] rfl (by (try simp only [List.map_toArray, List.map_cons, List.map_nil]); first | done | rfl | (simp only [List.length_drop, List.length_take]; rfl)) ?_; (with_reducible refine (hindsightref02_Number.calls (wrap64 (a0_1 + a1_1)) t470 t471 t472 _ A67.out).mono ?_); rintro e w73 ⟨rfl, hb⟩; refine ⟨_, rfl, ?_⟩; have n0_ := aM50 (blk_below (g := gb456) (o := .cells #[.int .u8 a0_0, .int .i64 a0_1, .string a0_2] 35 (0, 0)) (by (with_reducible repeat (first | refine bN50 ?_ _ | refine bD50 ?_ | refine bA50 ?_ _)); exact BK456.out) hb); have n1_ := aM50 (blk_below (g := gb457) (o := .cells #[.int .u8 a1_0, .int .i64 a1_1, .string a1_2] 35 (0, 0)) (by (with_reducible repeat (first | refine bN50 ?_ _ | refine bD50 ?_ | refine bA50 ?_ _)); exact BK457.out) hb); have n2_ := aM50 (blk_below (g := gb458) (o := .cells #[.int .u8 0, .int .i64 0, .string (⟨#[]⟩ : ByteArray)] 35 (0, 0)) (by (with_reducible repeat (first | refine bN50 ?_ _ | refine bD50 ?_ | refine bA50 ?_ _)); exact BK458.out) hb); have n3_ := aM50 (below_step (by repeat (first | (with_reducible first | exact HB.out | apply below_alloc | apply pw_below_drewN | apply below_drew1 | refine bS50 ?_ GE456.out | refine bS50 ?_ GE457.out | refine bS50 ?_ GE458.out) | exact HB.out)) hb); clear BK456; clear BK457; clear BK458; clear HB; have BK456 := n0_; have BK457 := n1_; have BK458 := n2_; have HB := n3_; clear n0_ n1_ n2_ n3_; (try clear hb); (try clear hb2); (try clear hk); (try clear hi); have hcz74_0 : w73.cell? ⟨gb458, 0, none⟩ = some (.int .u8 0) := (blk_cell BK458.out 0).trans rfl; have hcz74_1 : w73.cell? ⟨gb458, 1, none⟩ = some (.int .i64 0) := (blk_cell BK458.out 1).trans rfl; have hcz74_2 : w73.cell? ⟨gb458, 2, none⟩ = some (.string (⟨#[]⟩ : ByteArray)) := (blk_cell BK458.out 2).trans rfl; have hfz74_0 := blk_frozen BK458.out 0; have hfz74_1 := blk_frozen BK458.out 1; have hfz74_2 := blk_frozen BK458.out 2))
      refine bodyPost_ret (results_ct rfl _ _ gb458 35 #[.int .u8 t470, .int .i64 t471, .string t472] (0, 0) _ rfl (by (with_reducible repeat (first | refine bN50 ?_ _ | refine bD50 ?_ | refine bA50 ?_ _)); refine blk_put (cs := #[.int .u8 t470, .int .i64 t471, .string (⟨#[]⟩ : ByteArray)]) ?_ 2 _ rfl; (with_reducible repeat (first | refine bN50 ?_ _ | refine bD50 ?_ | refine bA50 ?_ _)); refine blk_put (cs := #[.int .u8 t470, .int .i64 0, .string (⟨#[]⟩ : ByteArray)]) ?_ 1 _ rfl; (with_reducible repeat (first | refine bN50 ?_ _ | refine bD50 ?_ | refine bA50 ?_ _)); refine blk_put (cs := #[.int .u8 0, .int .i64 0, .string (⟨#[]⟩ : ByteArray)]) ?_ 0 _ rfl; (with_reducible repeat (first | refine bN50 ?_ _ | refine bD50 ?_ | refine bA50 ?_ _)); exact BK458.out) Try.underlying35 rfl (by kernel_rfl)) rfl ?_
      exact ⟨by first | rfl | (simp [errW_none, errW_some] <;> rfl) | (simp [*, errW_none, errW_some] <;> rfl), by repeat (first | (with_reducible first | exact HB.out | apply below_alloc | apply pw_below_drewN | apply below_drew1 | refine bS50 ?_ GE456.out | refine bS50 ?_ GE457.out | refine bS50 ?_ GE458.out) | exact HB.out)⟩

end Go.Proofs.Ytefpnnljflcmbaa.PCe
