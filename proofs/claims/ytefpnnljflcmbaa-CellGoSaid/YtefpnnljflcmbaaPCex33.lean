-- Written by a program of this session (wip/tool), which goes by the kit's print.
import Derived.Test.YtefpnnljflcmbaaPCex0
import Derived.Test.YtefpnnljflcmbaaPCex7
import Derived.Test.YtefpnnljflcmbaaPCex30
namespace Go.Proofs.Ytefpnnljflcmbaa.PCe
open Go.RowKit Go.Proofs.YtefpnnljflcmbaaW.PrintWords Go.Proofs.YtefpnnljflcmbaaW.PrintLast Go.Proofs.YtefpnnljflcmbaaW.PrintMore
attribute [local go_sem] max2_int min2_int max_two min_two max_three min_three max_four min_four   -- for this text's walks alone
set_option linter.unusedVariables false
set_option linter.unusedSimpArgs false

/-! ### hindsightref02_Sub: function 52 -/
theorem bN52 : type_of% @blk_drewN := @blk_drewN
theorem bD52 : type_of% @blk_drew := @blk_drew
theorem bA52 : type_of% @blk_alloc := @blk_alloc
theorem bS52 : type_of% @below_set := @below_set
theorem aM52 : type_of% @Aside0.mk := @Aside0.mk
def hindsightref02_Sub.j0 : Nat → Int → Bool → Int → Int → ByteArray → Int → Int → ByteArray → Option (Int × Int × ByteArray × Int)
 | 0, _, _, _, _, _, _, _, _ => none
 | k + 1, x7, x18, x482000, x482001, x482002, x483000, x483001, x483002 => if x18 = true then (some (0, 0, (⟨#[]⟩ : ByteArray), x7)) else (if x483001 < 0 then (if x482001 > (wrap64 (9223372036854775807 + x483001)) then (some (0, 0, (⟨#[]⟩ : ByteArray), 21)) else (if x483001 > 0 then (if x482001 < (wrap64 ((-9223372036854775808) + x483001)) then (some (0, 0, (⟨#[]⟩ : ByteArray), 21)) else ((hindsightref02_Number.f (wrap64 (x482001 - x483001))).bind fun bt486 => (some (bt486.1, bt486.2.1, bt486.2.2, x7)))) else ((hindsightref02_Number.f (wrap64 (x482001 - x483001))).bind fun bt489 => (some (bt489.1, bt489.2.1, bt489.2.2, x7))))) else (if x483001 > 0 then (if x482001 < (wrap64 ((-9223372036854775808) + x483001)) then (some (0, 0, (⟨#[]⟩ : ByteArray), 21)) else ((hindsightref02_Number.f (wrap64 (x482001 - x483001))).bind fun bt492 => (some (bt492.1, bt492.2.1, bt492.2.2, x7)))) else ((hindsightref02_Number.f (wrap64 (x482001 - x483001))).bind fun bt495 => (some (bt495.1, bt495.2.1, bt495.2.2, x7)))))
def hindsightref02_Sub.f (k : Nat) (a0_0 : Int) (a0_1 : Int) (a0_2 : ByteArray) (a1_0 : Int) (a1_1 : Int) (a1_2 : ByteArray) : Option (Int × Int × ByteArray × Int) := (hindsightref02_asked.f k a0_0 a0_1 a0_2 a1_0 a1_1 a1_2).bind fun bt484 => (if bt484.2 = 0 then (hindsightref02_Sub.j0 k bt484.2 bt484.1 a0_0 a0_1 a0_2 a1_0 a1_1 a1_2) else (hindsightref02_Sub.j0 k bt484.2 true a0_0 a0_1 a0_2 a1_0 a1_1 a1_2))
theorem hindsightref02_Sub.mono_l : ∀ k, (∀ y0 y1 y2 y3 y4 y5 y6 y7, LeO (hindsightref02_Sub.j0 k y0 y1 y2 y3 y4 y5 y6 y7) (hindsightref02_Sub.j0 (k + 1) y0 y1 y2 y3 y4 y5 y6 y7))
 | 0 => fun _ _ _ _ _ _ _ _ r h => by simp [hindsightref02_Sub.j0] at h
 | k + 1 => by
  have ih0 := hindsightref02_Sub.mono_l k
  ·intro y0 y1 y2 y3 y4 y5 y6 y7
   unfold hindsightref02_Sub.j0
   repeat' first
   | (with_reducible exact ih0 _ _ _ _ _ _ _ _)
   | (with_reducible exact hindsightref02_asked.mono _ _ _ _ _ _ _)
   | (with_reducible exact LeO.refl _)
   | (with_reducible exact LeO.none _)
   | (with_reducible refine LeO.ite ?_ ?_)
   | (with_reducible refine LeO.bind ?_ (fun _ => ?_))
   | exact ih0 _ _ _ _ _ _ _ _
   | exact hindsightref02_asked.mono _ _ _ _ _ _ _
   | exact LeO.none _
   | refine LeO.ite ?_ ?_
   | refine LeO.bind ?_ (fun _ => ?_)
theorem hindsightref02_Sub.mono : ∀ a0 a1 a2 a3 a4 a5 k, LeO (hindsightref02_Sub.f k a0 a1 a2 a3 a4 a5) (hindsightref02_Sub.f (k + 1) a0 a1 a2 a3 a4 a5) := by
 intro a0 a1 a2 a3 a4 a5 k
 have ih0 := hindsightref02_Sub.mono_l k
 unfold hindsightref02_Sub.f
 repeat' first
   | (with_reducible exact ih0 _ _ _ _ _ _ _ _)
   | (with_reducible exact hindsightref02_asked.mono _ _ _ _ _ _ _)
   | (with_reducible exact LeO.refl _)
   | (with_reducible exact LeO.none _)
   | (with_reducible refine LeO.ite ?_ ?_)
   | (with_reducible refine LeO.bind ?_ (fun _ => ?_))
   | exact ih0 _ _ _ _ _ _ _ _
   | exact hindsightref02_asked.mono _ _ _ _ _ _ _
   | exact LeO.none _
   | refine LeO.ite ?_ ?_
   | refine LeO.bind ?_ (fun _ => ?_)
set_option maxHeartbeats 8000000 in
set_option maxRecDepth 100000 in
theorem hindsightref02_Sub.calls (k : Nat) (a0_0 : Int) (a0_1 : Int) (a0_2 : ByteArray) (a1_0 : Int) (a1_1 : Int) (a1_2 : ByteArray) (r1 : Int) (r2 : Int) (r3 : ByteArray) (r4 : Int) (w : World) (h : hindsightref02_Sub.f k a0_0 a0_1 a0_2 a1_0 a1_1 a1_2 = some (r1, r2, r3, r4)) :
  Calls Try.prog 52 #[.agg #[.int .u8 a0_0, .int .i64 a0_1, .string a0_2], .agg #[.int .u8 a1_0, .int .i64 a1_1, .string a1_2]] w fun e w' => e = .returned (.tuple #[.agg #[.int .u8 r1, .int .i64 r2, .string r3], .int .i64 r4]) ∧ Below w.heap.size w w' := by
 have hu35 := Try.underlying35
 have HB := aM52 (Below.refl w.heap.size w)
 have H : ((hindsightref02_asked.f k a0_0 a0_1 a0_2 a1_0 a1_1 a1_2).bind fun bt484 => (if bt484.2 = 0 then (hindsightref02_Sub.j0 k bt484.2 bt484.1 a0_0 a0_1 a0_2 a1_0 a1_1 a1_2) else (hindsightref02_Sub.j0 k bt484.2 true a0_0 a0_1 a0_2 a1_0 a1_1 a1_2))) = some (r1, r2, r3, r4) := h
 clear h
 replace H := Option.bind_eq_some_iff.mp H
 obtain ⟨⟨t484, t485⟩, A30, H⟩ := H
 replace H : (if t485 = 0 then (hindsightref02_Sub.j0 k t485 t484 a0_0 a0_1 a0_2 a1_0 a1_1 a1_2) else (hindsightref02_Sub.j0 k t485 true a0_0 a0_1 a0_2 a1_0 a1_1 a1_2)) = some (r1, r2, r3, r4) := H
 have A3 := aM52 A30
 clear A30
 have HC4 := aM52 H
 clear H
 go_enter Try.func52, Try.ntmps52
 go_upto_region 2 with (first | ((with_reducible refine gate_dst (N := 2) rfl ?_); refine box_event ?hg (N := 2) ?hd (cs := #[.int .u8 a0_0, .int .i64 a0_1, .string a0_2]) (t := 35) ?hr ?_; (case hd => rfl); (case hg => rfl); (case hr => first | (go_simp; done) | (go_simp; rfl)); intro gb481 hg w5 hbox hb; have n0_ := aM52 (below_step (by repeat (first | (with_reducible first | exact HB.out | apply below_alloc | apply pw_below_drewN | apply below_drew1) | exact HB.out)) hb); have n1_ := aM52 (hbox); have n2_ := aM52 ((by rw [hg]; exact (below_size (by repeat (first | (with_reducible first | exact HB.out | apply below_alloc | apply pw_below_drewN | apply below_drew1) | exact HB.out))) : w.heap.size ≤ gb481)); have n3_ := aM52 ((by rw [hg]; exact (below_size (by repeat (first | (with_reducible first | exact HB.out | apply below_alloc | apply pw_below_drewN | apply below_drew1) | exact HB.out))) : w.heap.size ≤ gb481)); clear HB; have HB := n0_; have BK481 := n1_; have GW481 := n2_; have GE481 := n3_; clear n0_ n1_ n2_ n3_; clear hb hbox hg) | ((with_reducible refine gate_dst (N := 3) rfl ?_); refine box_event ?hg (N := 3) ?hd (cs := #[.int .u8 a1_0, .int .i64 a1_1, .string a1_2]) (t := 35) ?hr ?_; (case hd => rfl); (case hg => rfl); (case hr => first | (go_simp; done) | (go_simp; rfl)); intro gb482 hg w6 hbox hb; have n0_ := aM52 (blk_below (g := gb481) (o := .cells #[.int .u8 a0_0, .int .i64 a0_1, .string a0_2] 35 (0, 0)) (by (with_reducible repeat (first | refine bN52 ?_ _ | refine bD52 ?_ | refine bA52 ?_ _)); exact BK481.out) hb); have n1_ := aM52 (below_step (by repeat (first | (with_reducible first | exact HB.out | apply below_alloc | apply pw_below_drewN | apply below_drew1 | refine bS52 ?_ GE481.out) | exact HB.out)) hb); have n2_ := aM52 (hbox); have n3_ := aM52 ((by rw [hg]; exact (below_size (by repeat (first | (with_reducible first | exact HB.out | apply below_alloc | apply pw_below_drewN | apply below_drew1 | refine bS52 ?_ GE481.out) | exact HB.out))) : w.heap.size ≤ gb482)); have n4_ := aM52 ((by rw [hg]; exact (below_size (by repeat (first | (with_reducible first | exact HB.out | apply below_alloc | apply pw_below_drewN | apply below_drew1 | refine bS52 ?_ GE481.out) | exact HB.out))) : w.heap.size ≤ gb482)); have n5_ := aM52 ((by rw [hg]; exact Nat.ne_of_lt (blk_lt (g := gb481) (o := .cells #[.int .u8 a0_0, .int .i64 a0_1, .string a0_2] 35 (0, 0)) (by (with_reducible repeat (first | refine bN52 ?_ _ | refine bD52 ?_ | refine bA52 ?_ _)); exact BK481.out)) : gb481 ≠ gb482)); have n6_ := aM52 ((by rw [hg]; exact Nat.ne_of_gt (blk_lt (g := gb481) (o := .cells #[.int .u8 a0_0, .int .i64 a0_1, .string a0_2] 35 (0, 0)) (by (with_reducible repeat (first | refine bN52 ?_ _ | refine bD52 ?_ | refine bA52 ?_ _)); exact BK481.out)) : gb482 ≠ gb481)); clear BK481; clear HB; have BK481 := n0_; have HB := n1_; have BK482 := n2_; have GW482 := n3_; have GE482 := n4_; have NB481_482 := n5_; have NB482_481 := n6_; clear n0_ n1_ n2_ n3_ n4_ n5_ n6_; clear hb hbox hg) | ((with_reducible refine gate_dst (N := 4) rfl ?_); refine box_event ?hg (N := 4) ?hd (cs := #[.int .u8 0, .int .i64 0, .string (⟨#[]⟩ : ByteArray)]) (t := 35) ?hr ?_; (case hd => rfl); (case hg => rfl); (case hr => first | (go_simp; done) | (go_simp; rfl)); intro gb483 hg w7 hbox hb; have n0_ := aM52 (blk_below (g := gb481) (o := .cells #[.int .u8 a0_0, .int .i64 a0_1, .string a0_2] 35 (0, 0)) (by (with_reducible repeat (first | refine bN52 ?_ _ | refine bD52 ?_ | refine bA52 ?_ _)); exact BK481.out) hb); have n1_ := aM52 (blk_below (g := gb482) (o := .cells #[.int .u8 a1_0, .int .i64 a1_1, .string a1_2] 35 (0, 0)) (by (with_reducible repeat (first | refine bN52 ?_ _ | refine bD52 ?_ | refine bA52 ?_ _)); exact BK482.out) hb); have n2_ := aM52 (below_step (by repeat (first | (with_reducible first | exact HB.out | apply below_alloc | apply pw_below_drewN | apply below_drew1 | refine bS52 ?_ GE481.out | refine bS52 ?_ GE482.out) | exact HB.out)) hb); have n3_ := aM52 (hbox); have n4_ := aM52 ((by rw [hg]; exact (below_size (by repeat (first | (with_reducible first | exact HB.out | apply below_alloc | apply pw_below_drewN | apply below_drew1 | refine bS52 ?_ GE481.out | refine bS52 ?_ GE482.out) | exact HB.out))) : w.heap.size ≤ gb483)); have n5_ := aM52 ((by rw [hg]; exact (below_size (by repeat (first | (with_reducible first | exact HB.out | apply below_alloc | apply pw_below_drewN | apply below_drew1 | refine bS52 ?_ GE481.out | refine bS52 ?_ GE482.out) | exact HB.out))) : w.heap.size ≤ gb483)); have n6_ := aM52 ((by rw [hg]; exact Nat.ne_of_lt (blk_lt (g := gb481) (o := .cells #[.int .u8 a0_0, .int .i64 a0_1, .string a0_2] 35 (0, 0)) (by (with_reducible repeat (first | refine bN52 ?_ _ | refine bD52 ?_ | refine bA52 ?_ _)); exact BK481.out)) : gb481 ≠ gb483)); have n7_ := aM52 ((by rw [hg]; exact Nat.ne_of_gt (blk_lt (g := gb481) (o := .cells #[.int .u8 a0_0, .int .i64 a0_1, .string a0_2] 35 (0, 0)) (by (with_reducible repeat (first | refine bN52 ?_ _ | refine bD52 ?_ | refine bA52 ?_ _)); exact BK481.out)) : gb483 ≠ gb481)); have n8_ := aM52 ((by rw [hg]; exact Nat.ne_of_lt (blk_lt (g := gb482) (o := .cells #[.int .u8 a1_0, .int .i64 a1_1, .string a1_2] 35 (0, 0)) (by (with_reducible repeat (first | refine bN52 ?_ _ | refine bD52 ?_ | refine bA52 ?_ _)); exact BK482.out)) : gb482 ≠ gb483)); have n9_ := aM52 ((by rw [hg]; exact Nat.ne_of_gt (blk_lt (g := gb482) (o := .cells #[.int .u8 a1_0, .int .i64 a1_1, .string a1_2] 35 (0, 0)) (by (with_reducible repeat (first | refine bN52 ?_ _ | refine bD52 ?_ | refine bA52 ?_ _)); exact BK482.out)) : gb483 ≠ gb482)); clear BK481; clear BK482; clear HB; have BK481 := n0_; have BK482 := n1_; have HB := n2_; have BK483 := n3_; have GW483 := n4_; have GE483 := n5_; have NB481_483 := n6_; have NB483_481 := n7_; have NB482_483 := n8_; have NB483_482 := n9_; clear n0_ n1_ n2_ n3_ n4_ n5_ n6_ n7_ n8_ n9_; clear hb hbox hg; have hnb8 := NB481_482.out; have hnc8 := NB482_481.out; have hnb9 := NB481_483.out; have hnc9 := NB483_481.out; have hcz10_0 : w7.cell? ⟨gb481, 0, none⟩ = some (.int .u8 a0_0) := (blk_cell BK481.out 0).trans rfl; have hcz10_1 : w7.cell? ⟨gb481, 1, none⟩ = some (.int .i64 a0_1) := (blk_cell BK481.out 1).trans rfl; have hcz10_2 : w7.cell? ⟨gb481, 2, none⟩ = some (.string a0_2) := (blk_cell BK481.out 2).trans rfl; have hfz10_0 := blk_frozen BK481.out 0; have hfz10_1 := blk_frozen BK481.out 1; have hfz10_2 := blk_frozen BK481.out 2; have hnb11 := NB482_483.out; have hnc11 := NB483_482.out; have hcz12_0 : w7.cell? ⟨gb482, 0, none⟩ = some (.int .u8 a1_0) := (blk_cell BK482.out 0).trans rfl; have hcz12_1 : w7.cell? ⟨gb482, 1, none⟩ = some (.int .i64 a1_1) := (blk_cell BK482.out 1).trans rfl; have hcz12_2 : w7.cell? ⟨gb482, 2, none⟩ = some (.string a1_2) := (blk_cell BK482.out 2).trans rfl; have hfz12_0 := blk_frozen BK482.out 0; have hfz12_1 := blk_frozen BK482.out 1; have hfz12_2 := blk_frozen BK482.out 2) | ((with_reducible refine gate_callee (f := 79) rfl ?_); refine goesL_ (some 11) rfl rfl Try.func79 (by kernel_rfl) rfl #[.agg #[.int .u8 a0_0, .int .i64 a0_1, .string a0_2], .agg #[.int .u8 a1_0, .int .i64 a1_1, .string a1_2]] rfl (by (try simp only [List.map_toArray, List.map_cons, List.map_nil]); first | done | rfl | (simp only [List.length_drop, List.length_take]; rfl)) ?_; (with_reducible refine (hindsightref02_asked.calls k a0_0 a0_1 a0_2 a1_0 a1_1 a1_2 t484 t485 _ A3.out).mono ?_); rintro e w13 ⟨rfl, hb⟩; refine ⟨_, rfl, ?_⟩; have n0_ := aM52 (blk_below (g := gb481) (o := .cells #[.int .u8 a0_0, .int .i64 a0_1, .string a0_2] 35 (0, 0)) (by (with_reducible repeat (first | refine bN52 ?_ _ | refine bD52 ?_ | refine bA52 ?_ _)); exact BK481.out) hb); have n1_ := aM52 (blk_below (g := gb482) (o := .cells #[.int .u8 a1_0, .int .i64 a1_1, .string a1_2] 35 (0, 0)) (by (with_reducible repeat (first | refine bN52 ?_ _ | refine bD52 ?_ | refine bA52 ?_ _)); exact BK482.out) hb); have n2_ := aM52 (blk_below (g := gb483) (o := .cells #[.int .u8 0, .int .i64 0, .string (⟨#[]⟩ : ByteArray)] 35 (0, 0)) (by (with_reducible repeat (first | refine bN52 ?_ _ | refine bD52 ?_ | refine bA52 ?_ _)); exact BK483.out) hb); have n3_ := aM52 (below_step (by repeat (first | (with_reducible first | exact HB.out | apply below_alloc | apply pw_below_drewN | apply below_drew1 | refine bS52 ?_ GE481.out | refine bS52 ?_ GE482.out | refine bS52 ?_ GE483.out) | exact HB.out)) hb); clear BK481; clear BK482; clear BK483; clear HB; have BK481 := n0_; have BK482 := n1_; have BK483 := n2_; have HB := n3_; clear n0_ n1_ n2_ n3_; (try clear hb); (try clear hb2); (try clear hk); (try clear hi)))
 (try simp only [Act.put, List.setIfInBounds_toArray, List.set_cons_zero, List.set_cons_succ])
 go_cut [18] (fun v18 wc => ∃ (kq : Nat) (x18_3 : Bool), v18 = .bool x18_3 ∧ Aside0 (hindsightref02_Sub.j0 kq t485 x18_3 a0_0 a0_1 a0_2 a1_0 a1_1 a1_2 = some (r1, r2, r3, r4)) ∧ Aside0 (kq ≤ k) ∧ Aside0 (wc.heap[gb481]? = some (.cells #[.int .u8 a0_0, .int .i64 a0_1, .string a0_2] 35 (0, 0))) ∧ Aside0 (wc.heap[gb482]? = some (.cells #[.int .u8 a1_0, .int .i64 a1_1, .string a1_2] 35 (0, 0))) ∧ Aside0 (wc.heap[gb483]? = some (.cells #[.int .u8 0, .int .i64 0, .string (⟨#[]⟩ : ByteArray)] 35 (0, 0))) ∧ Aside0 (Below w.heap.size w wc))
 case first =>
  have H := HC4.out
  clear HC4
  by_cases c14 : t485 = 0
  ·rw [if_pos c14] at H
   have c14b0 : (t485 == 0) = true := beq_iff_eq.mpr c14
   have c14b1 : (t485 != 0) = false := bne_eq_false_iff_eq.mpr c14
   clear c14
   (first | rw [c14b0] | (simp only [i64_w, i32_w]; rw [c14b0]) | skip)
   have H' := aM52 H
   clear H
   go_wp2
   go_meet
   case rel => exact ⟨_, (t484), (by first | rfl | (simp; done) | (simp [*]; done)), H', ⟨by first | omega | exact Nat.le_refl _⟩, ⟨by (with_reducible repeat (first | refine bN52 ?_ _ | refine bD52 ?_ | refine bA52 ?_ _)); exact BK481.out⟩, ⟨by (with_reducible repeat (first | refine bN52 ?_ _ | refine bD52 ?_ | refine bA52 ?_ _)); exact BK482.out⟩, ⟨by (with_reducible repeat (first | refine bN52 ?_ _ | refine bD52 ?_ | refine bA52 ?_ _)); exact BK483.out⟩, ⟨by repeat (first | (with_reducible first | exact HB.out | apply below_alloc | apply pw_below_drewN | apply below_drew1 | refine bS52 ?_ GE481.out | refine bS52 ?_ GE482.out | refine bS52 ?_ GE483.out) | exact HB.out)⟩⟩
  ·rw [if_neg c14] at H
   have c14b0 : (t485 == 0) = false := beq_eq_false_iff_ne.mpr c14
   have c14b1 : (t485 != 0) = true := bne_iff_ne.mpr c14
   (first | rw [c14b0] | (simp only [i64_w, i32_w]; rw [c14b0]) | skip)
   have H' := aM52 H
   clear H
   go_wp2
   go_meet
   case rel => exact ⟨_, (true), (by first | rfl | (simp; done) | (simp [*]; done)), H', ⟨by first | omega | exact Nat.le_refl _⟩, ⟨by (with_reducible repeat (first | refine bN52 ?_ _ | refine bD52 ?_ | refine bA52 ?_ _)); exact BK481.out⟩, ⟨by (with_reducible repeat (first | refine bN52 ?_ _ | refine bD52 ?_ | refine bA52 ?_ _)); exact BK482.out⟩, ⟨by (with_reducible repeat (first | refine bN52 ?_ _ | refine bD52 ?_ | refine bA52 ?_ _)); exact BK483.out⟩, ⟨by repeat (first | (with_reducible first | exact HB.out | apply below_alloc | apply pw_below_drewN | apply below_drew1 | refine bS52 ?_ GE481.out | refine bS52 ?_ GE482.out | refine bS52 ?_ GE483.out) | exact HB.out)⟩⟩
 case rest =>
  clear HC4
  try clear c1
  try clear p2
  try clear c5
  try clear c7
  try clear c8
  try clear c9
  try clear c11
  try clear c14
  try clear c14b0
  try clear c14b1
  try clear hcz10_0
  try clear hcz10_1
  try clear hcz10_2
  try clear hcz12_0
  try clear hcz12_1
  try clear hcz12_2
  try clear hfz10_0
  try clear hfz10_1
  try clear hfz10_2
  try clear hfz12_0
  try clear hfz12_1
  try clear hfz12_2
  obtain ⟨kq, x18_3, rfl, HA, HJ3, BK481, BK482, BK483, HB⟩ := hcut
  cases kq with
  | zero => exact absurd HA.out (by simp [hindsightref02_Sub.j0])
  | succ kj3 =>
   have H := HA.out
   clear HA
   simp only [hindsightref02_Sub.j0] at H
   by_cases c15 : x18_3 = true
   ·subst c15
    have H1 : (some (0, 0, (⟨#[]⟩ : ByteArray), t485)) = some (r1, r2, r3, r4) := by rw [if_pos rfl] at H; exact H
    clear H
    have H := H1
    clear H1
    simp only [Option.some.injEq, Prod.mk.injEq] at H
    obtain ⟨rfl, rfl, rfl, rfl⟩ := H
    have hnb16 := NB483_481.out
    have hnc16 := NB481_483.out
    have hnb17 := NB483_482.out
    have hnc17 := NB482_483.out
    have hcz18_0 : wc.cell? ⟨gb483, 0, none⟩ = some (.int .u8 0) := (blk_cell BK483.out 0).trans rfl
    have hcz18_1 : wc.cell? ⟨gb483, 1, none⟩ = some (.int .i64 0) := (blk_cell BK483.out 1).trans rfl
    have hcz18_2 : wc.cell? ⟨gb483, 2, none⟩ = some (.string (⟨#[]⟩ : ByteArray)) := (blk_cell BK483.out 2).trans rfl
    have hfz18_0 := blk_frozen BK483.out 0
    have hfz18_1 := blk_frozen BK483.out 1
    have hfz18_2 := blk_frozen BK483.out 2
    go_wp2
    refine bodyPost_ret (results_ct rfl _ _ gb483 35 #[.int .u8 0, .int .i64 0, .string (⟨#[]⟩ : ByteArray)] (0, 0) _ rfl (by (with_reducible repeat (first | refine bN52 ?_ _ | refine bD52 ?_ | refine bA52 ?_ _)); refine blk_put (cs := #[.int .u8 0, .int .i64 0, .string (⟨#[]⟩ : ByteArray)]) ?_ 2 _ rfl; (with_reducible repeat (first | refine bN52 ?_ _ | refine bD52 ?_ | refine bA52 ?_ _)); refine blk_put (cs := #[.int .u8 0, .int .i64 0, .string (⟨#[]⟩ : ByteArray)]) ?_ 1 _ rfl; (with_reducible repeat (first | refine bN52 ?_ _ | refine bD52 ?_ | refine bA52 ?_ _)); refine blk_put (cs := #[.int .u8 0, .int .i64 0, .string (⟨#[]⟩ : ByteArray)]) ?_ 0 _ rfl; (with_reducible repeat (first | refine bN52 ?_ _ | refine bD52 ?_ | refine bA52 ?_ _)); exact BK483.out) Try.underlying35 rfl (by kernel_rfl)) rfl ?_
    exact ⟨by first | rfl | (simp [errW_none, errW_some] <;> rfl) | (simp [*, errW_none, errW_some] <;> rfl), by repeat (first | (with_reducible first | exact HB.out | apply below_alloc | apply pw_below_drewN | apply below_drew1 | refine bS52 ?_ GE481.out | refine bS52 ?_ GE482.out | refine bS52 ?_ GE483.out) | exact HB.out)⟩
   ·replace c15 := Bool.eq_false_iff.mpr c15
    subst c15
    have H1 : (if a1_1 < 0 then (if a0_1 > (wrap64 (9223372036854775807 + a1_1)) then (some (0, 0, (⟨#[]⟩ : ByteArray), 21)) else (if a1_1 > 0 then (if a0_1 < (wrap64 ((-9223372036854775808) + a1_1)) then (some (0, 0, (⟨#[]⟩ : ByteArray), 21)) else ((hindsightref02_Number.f (wrap64 (a0_1 - a1_1))).bind fun bt486 => (some (bt486.1, bt486.2.1, bt486.2.2, t485)))) else ((hindsightref02_Number.f (wrap64 (a0_1 - a1_1))).bind fun bt489 => (some (bt489.1, bt489.2.1, bt489.2.2, t485))))) else (if a1_1 > 0 then (if a0_1 < (wrap64 ((-9223372036854775808) + a1_1)) then (some (0, 0, (⟨#[]⟩ : ByteArray), 21)) else ((hindsightref02_Number.f (wrap64 (a0_1 - a1_1))).bind fun bt492 => (some (bt492.1, bt492.2.1, bt492.2.2, t485)))) else ((hindsightref02_Number.f (wrap64 (a0_1 - a1_1))).bind fun bt495 => (some (bt495.1, bt495.2.1, bt495.2.2, t485))))) = some (r1, r2, r3, r4) := by rw [if_neg (show ¬ (false = true) by decide)] at H; exact H
    clear H
    have H := H1
    clear H1
    by_cases c19 : a1_1 < 0
    ·rw [if_pos c19] at H
     have c19b0 : decide (a1_1 < 0) = true := decide_eq_true c19
     clear c19
     by_cases c20 : a0_1 > (wrap64 (9223372036854775807 + a1_1))
     ·rw [if_pos c20] at H
      have c20b0 : decide ((wrap64 (9223372036854775807 + a1_1)) < a0_1) = true := decide_eq_true c20
      clear c20
      simp only [Option.some.injEq, Prod.mk.injEq] at H
      obtain ⟨rfl, rfl, rfl, rfl⟩ := H
      have hnb21 := NB482_481.out
      have hnc21 := NB481_482.out
      have hnb22 := NB482_483.out
      have hnc22 := NB483_482.out
      have hcz23_0 : wc.cell? ⟨gb482, 0, none⟩ = some (.int .u8 a1_0) := (blk_cell BK482.out 0).trans rfl
      have hcz23_1 : wc.cell? ⟨gb482, 1, none⟩ = some (.int .i64 a1_1) := (blk_cell BK482.out 1).trans rfl
      have hcz23_2 : wc.cell? ⟨gb482, 2, none⟩ = some (.string a1_2) := (blk_cell BK482.out 2).trans rfl
      have hfz23_0 := blk_frozen BK482.out 0
      have hfz23_1 := blk_frozen BK482.out 1
      have hfz23_2 := blk_frozen BK482.out 2
      have hnb24 := NB481_483.out
      have hnc24 := NB483_481.out
      have hcz25_0 : wc.cell? ⟨gb481, 0, none⟩ = some (.int .u8 a0_0) := (blk_cell BK481.out 0).trans rfl
      have hcz25_1 : wc.cell? ⟨gb481, 1, none⟩ = some (.int .i64 a0_1) := (blk_cell BK481.out 1).trans rfl
      have hcz25_2 : wc.cell? ⟨gb481, 2, none⟩ = some (.string a0_2) := (blk_cell BK481.out 2).trans rfl
      have hfz25_0 := blk_frozen BK481.out 0
      have hfz25_1 := blk_frozen BK481.out 1
      have hfz25_2 := blk_frozen BK481.out 2
      have hcz26_0 : wc.cell? ⟨gb483, 0, none⟩ = some (.int .u8 0) := (blk_cell BK483.out 0).trans rfl
      have hcz26_1 : wc.cell? ⟨gb483, 1, none⟩ = some (.int .i64 0) := (blk_cell BK483.out 1).trans rfl
      have hcz26_2 : wc.cell? ⟨gb483, 2, none⟩ = some (.string (⟨#[]⟩ : ByteArray)) := (blk_cell BK483.out 2).trans rfl
      have hfz26_0 := blk_frozen BK483.out 0
      have hfz26_1 := blk_frozen BK483.out 1
      have hfz26_2 := blk_frozen BK483.out 2
      go_wp2
      refine bodyPost_ret (results_ct rfl _ _ gb483 35 #[.int .u8 0, .int .i64 0, .string (⟨#[]⟩ : ByteArray)] (0, 0) _ rfl (by (with_reducible repeat (first | refine bN52 ?_ _ | refine bD52 ?_ | refine bA52 ?_ _)); refine blk_put (cs := #[.int .u8 0, .int .i64 0, .string (⟨#[]⟩ : ByteArray)]) ?_ 2 _ rfl; (with_reducible repeat (first | refine bN52 ?_ _ | refine bD52 ?_ | refine bA52 ?_ _)); refine blk_put (cs := #[.int .u8 0, .int .i64 0, .string (⟨#[]⟩ : ByteArray)]) ?_ 1 _ rfl; (with_reducible repeat (first | refine bN52 ?_ _ | refine bD52 ?_ | refine bA52 ?_ _)); refine blk_put (cs := #[.int .u8 0, .int .i64 0, .string (⟨#[]⟩ : ByteArray)]) ?_ 0 _ rfl; (with_reducible repeat (first | refine bN52 ?_ _ | refine bD52 ?_ | refine bA52 ?_ _)); exact BK483.out) Try.underlying35 rfl (by kernel_rfl)) rfl ?_
      exact ⟨by first | rfl | (simp [errW_none, errW_some] <;> rfl) | (simp [*, errW_none, errW_some] <;> rfl), by repeat (first | (with_reducible first | exact HB.out | apply below_alloc | apply pw_below_drewN | apply below_drew1 | refine bS52 ?_ GE481.out | refine bS52 ?_ GE482.out | refine bS52 ?_ GE483.out) | exact HB.out)⟩
     ·rw [if_neg c20] at H
      have c20b0 : decide ((wrap64 (9223372036854775807 + a1_1)) < a0_1) = false := decide_eq_false c20
      clear c20
      by_cases c27 : a1_1 > 0
      ·rw [if_pos c27] at H
       have c27b0 : decide (0 < a1_1) = true := decide_eq_true c27
       clear c27
       by_cases c28 : a0_1 < (wrap64 ((-9223372036854775808) + a1_1))
       ·rw [if_pos c28] at H
        have c28b0 : decide (a0_1 < (wrap64 ((-9223372036854775808) + a1_1))) = true := decide_eq_true c28
        clear c28
        simp only [Option.some.injEq, Prod.mk.injEq] at H
        obtain ⟨rfl, rfl, rfl, rfl⟩ := H
        have hnb29 := NB482_481.out
        have hnc29 := NB481_482.out
        have hnb30 := NB482_483.out
        have hnc30 := NB483_482.out
        have hcz31_0 : wc.cell? ⟨gb482, 0, none⟩ = some (.int .u8 a1_0) := (blk_cell BK482.out 0).trans rfl
        have hcz31_1 : wc.cell? ⟨gb482, 1, none⟩ = some (.int .i64 a1_1) := (blk_cell BK482.out 1).trans rfl
        have hcz31_2 : wc.cell? ⟨gb482, 2, none⟩ = some (.string a1_2) := (blk_cell BK482.out 2).trans rfl
        have hfz31_0 := blk_frozen BK482.out 0
        have hfz31_1 := blk_frozen BK482.out 1
        have hfz31_2 := blk_frozen BK482.out 2
        have hnb32 := NB481_483.out
        have hnc32 := NB483_481.out
        have hcz33_0 : wc.cell? ⟨gb481, 0, none⟩ = some (.int .u8 a0_0) := (blk_cell BK481.out 0).trans rfl
        have hcz33_1 : wc.cell? ⟨gb481, 1, none⟩ = some (.int .i64 a0_1) := (blk_cell BK481.out 1).trans rfl
        have hcz33_2 : wc.cell? ⟨gb481, 2, none⟩ = some (.string a0_2) := (blk_cell BK481.out 2).trans rfl
        have hfz33_0 := blk_frozen BK481.out 0
        have hfz33_1 := blk_frozen BK481.out 1
        have hfz33_2 := blk_frozen BK481.out 2
        have hcz34_0 : wc.cell? ⟨gb483, 0, none⟩ = some (.int .u8 0) := (blk_cell BK483.out 0).trans rfl
        have hcz34_1 : wc.cell? ⟨gb483, 1, none⟩ = some (.int .i64 0) := (blk_cell BK483.out 1).trans rfl
        have hcz34_2 : wc.cell? ⟨gb483, 2, none⟩ = some (.string (⟨#[]⟩ : ByteArray)) := (blk_cell BK483.out 2).trans rfl
        have hfz34_0 := blk_frozen BK483.out 0
        have hfz34_1 := blk_frozen BK483.out 1
        have hfz34_2 := blk_frozen BK483.out 2
        go_wp2
        refine bodyPost_ret (results_ct rfl _ _ gb483 35 #[.int .u8 0, .int .i64 0, .string (⟨#[]⟩ : ByteArray)] (0, 0) _ rfl (by (with_reducible repeat (first | refine bN52 ?_ _ | refine bD52 ?_ | refine bA52 ?_ _)); refine blk_put (cs := #[.int .u8 0, .int .i64 0, .string (⟨#[]⟩ : ByteArray)]) ?_ 2 _ rfl; (with_reducible repeat (first | refine bN52 ?_ _ | refine bD52 ?_ | refine bA52 ?_ _)); refine blk_put (cs := #[.int .u8 0, .int .i64 0, .string (⟨#[]⟩ : ByteArray)]) ?_ 1 _ rfl; (with_reducible repeat (first | refine bN52 ?_ _ | refine bD52 ?_ | refine bA52 ?_ _)); refine blk_put (cs := #[.int .u8 0, .int .i64 0, .string (⟨#[]⟩ : ByteArray)]) ?_ 0 _ rfl; (with_reducible repeat (first | refine bN52 ?_ _ | refine bD52 ?_ | refine bA52 ?_ _)); exact BK483.out) Try.underlying35 rfl (by kernel_rfl)) rfl ?_
        exact ⟨by first | rfl | (simp [errW_none, errW_some] <;> rfl) | (simp [*, errW_none, errW_some] <;> rfl), by repeat (first | (with_reducible first | exact HB.out | apply below_alloc | apply pw_below_drewN | apply below_drew1 | refine bS52 ?_ GE481.out | refine bS52 ?_ GE482.out | refine bS52 ?_ GE483.out) | exact HB.out)⟩
       ·rw [if_neg c28] at H
        have c28b0 : decide (a0_1 < (wrap64 ((-9223372036854775808) + a1_1))) = false := decide_eq_false c28
        clear c28
        replace H := Option.bind_eq_some_iff.mp H
        obtain ⟨⟨t486, t487, t488⟩, A350, H⟩ := H
        replace H : (some (t486, t487, t488, t485)) = some (r1, r2, r3, r4) := H
        have A35 := aM52 A350
        clear A350
        simp only [Option.some.injEq, Prod.mk.injEq] at H
        obtain ⟨rfl, rfl, rfl, rfl⟩ := H
        have hnb36 := NB482_481.out
        have hnc36 := NB481_482.out
        have hnb37 := NB482_483.out
        have hnc37 := NB483_482.out
        have hcz38_0 : wc.cell? ⟨gb482, 0, none⟩ = some (.int .u8 a1_0) := (blk_cell BK482.out 0).trans rfl
        have hcz38_1 : wc.cell? ⟨gb482, 1, none⟩ = some (.int .i64 a1_1) := (blk_cell BK482.out 1).trans rfl
        have hcz38_2 : wc.cell? ⟨gb482, 2, none⟩ = some (.string a1_2) := (blk_cell BK482.out 2).trans rfl
        have hfz38_0 := blk_frozen BK482.out 0
        have hfz38_1 := blk_frozen BK482.out 1
        have hfz38_2 := blk_frozen BK482.out 2
        have hnb39 := NB481_483.out
        have hnc39 := NB483_481.out
        have hcz40_0 : wc.cell? ⟨gb481, 0, none⟩ = some (.int .u8 a0_0) := (blk_cell BK481.out 0).trans rfl
        have hcz40_1 : wc.cell? ⟨gb481, 1, none⟩ = some (.int .i64 a0_1) := (blk_cell BK481.out 1).trans rfl
        have hcz40_2 : wc.cell? ⟨gb481, 2, none⟩ = some (.string a0_2) := (blk_cell BK481.out 2).trans rfl
        have hfz40_0 := blk_frozen BK481.out 0
        have hfz40_1 := blk_frozen BK481.out 1
        have hfz40_2 := blk_frozen BK481.out 2
        go_wp2_with (first | ((with_reducible refine gate_callee (f := 32) rfl ?_); refine goesL_ (some 51) rfl rfl Try.func32 (by kernel_rfl) rfl #[.int .i64 (wrap64 (a0_1 - a1_1))] rfl (by (try simp only [List.map_toArray, List.map_cons, List.map_nil]); first | done | rfl | (simp only [List.length_drop, List.length_take]; rfl)) ?_; (with_reducible refine (hindsightref02_Number.calls (wrap64 (a0_1 - a1_1)) t486 t487 t488 _ A35.out).mono ?_); rintro e w41 ⟨rfl, hb⟩; refine ⟨_, rfl, ?_⟩; have n0_ := aM52 (blk_below (g := gb481) (o := .cells #[.int .u8 a0_0, .int .i64 a0_1, .string a0_2] 35 (0, 0)) (by (with_reducible repeat (first | refine bN52 ?_ _ | refine bD52 ?_ | refine bA52 ?_ _)); exact BK481.out) hb); have n1_ := aM52 (blk_below (g := gb482) (o := .cells #[.int .u8 a1_0, .int .i64 a1_1, .string a1_2] 35 (0, 0)) (by (with_reducible repeat (first | refine bN52 ?_ _ | refine bD52 ?_ | refine bA52 ?_ _)); exact BK482.out) hb); have n2_ := aM52 (blk_below (g := gb483) (o := .cells #[.int .u8 0, .int .i64 0, .string (⟨#[]⟩ : ByteArray)] 35 (0, 0)) (by (with_reducible repeat (first | refine bN52 ?_ _ | refine bD52 ?_ | refine bA52 ?_ _)); exact BK483.out) hb); have n3_ := aM52 (below_step (by repeat (first | (with_reducible first | exact HB.out | apply below_alloc | apply pw_below_drewN | apply below_drew1 | refine bS52 ?_ GE481.out | refine bS52 ?_ GE482.out | refine bS52 ?_ GE483.out) | exact HB.out)) hb); clear BK481; clear BK482; clear BK483; clear HB; have BK481 := n0_; have BK482 := n1_; have BK483 := n2_; have HB := n3_; clear n0_ n1_ n2_ n3_; (try clear hb); (try clear hb2); (try clear hk); (try clear hi); have hcz42_0 : w41.cell? ⟨gb483, 0, none⟩ = some (.int .u8 0) := (blk_cell BK483.out 0).trans rfl; have hcz42_1 : w41.cell? ⟨gb483, 1, none⟩ = some (.int .i64 0) := (blk_cell BK483.out 1).trans rfl; have hcz42_2 : w41.cell? ⟨gb483, 2, none⟩ = some (.string (⟨#[]⟩ : ByteArray)) := (blk_cell BK483.out 2).trans rfl; have hfz42_0 := blk_frozen BK483.out 0; have hfz42_1 := blk_frozen BK483.out 1; have hfz42_2 := blk_frozen BK483.out 2))
        refine bodyPost_ret (results_ct rfl _ _ gb483 35 #[.int .u8 t486, .int .i64 t487, .string t488] (0, 0) _ rfl (by (with_reducible repeat (first | refine bN52 ?_ _ | refine bD52 ?_ | refine bA52 ?_ _)); refine blk_put (cs := #[.int .u8 t486, .int .i64 t487, .string (⟨#[]⟩ : ByteArray)]) ?_ 2 _ rfl; (with_reducible repeat (first | refine bN52 ?_ _ | refine bD52 ?_ | refine bA52 ?_ _)); refine blk_put (cs := #[.int .u8 t486, .int .i64 0, .string (⟨#[]⟩ : ByteArray)]) ?_ 1 _ rfl; (with_reducible repeat (first | refine bN52 ?_ _ | refine bD52 ?_ | refine bA52 ?_ _)); refine blk_put (cs := #[.int .u8 0, .int .i64 0, .string (⟨#[]⟩ : ByteArray)]) ?_ 0 _ rfl; (with_reducible repeat (first | refine bN52 ?_ _ | refine bD52 ?_ | refine bA52 ?_ _)); exact BK483.out) Try.underlying35 rfl (by kernel_rfl)) rfl ?_
        exact ⟨by first | rfl | (simp [errW_none, errW_some] <;> rfl) | (simp [*, errW_none, errW_some] <;> rfl), by repeat (first | (with_reducible first | exact HB.out | apply below_alloc | apply pw_below_drewN | apply below_drew1 | refine bS52 ?_ GE481.out | refine bS52 ?_ GE482.out | refine bS52 ?_ GE483.out) | exact HB.out)⟩
      ·rw [if_neg c27] at H
       have c27b0 : decide (0 < a1_1) = false := decide_eq_false c27
       clear c27
       replace H := Option.bind_eq_some_iff.mp H
       obtain ⟨⟨t489, t490, t491⟩, A430, H⟩ := H
       replace H : (some (t489, t490, t491, t485)) = some (r1, r2, r3, r4) := H
       have A43 := aM52 A430
       clear A430
       simp only [Option.some.injEq, Prod.mk.injEq] at H
       obtain ⟨rfl, rfl, rfl, rfl⟩ := H
       have hnb44 := NB482_481.out
       have hnc44 := NB481_482.out
       have hnb45 := NB482_483.out
       have hnc45 := NB483_482.out
       have hcz46_0 : wc.cell? ⟨gb482, 0, none⟩ = some (.int .u8 a1_0) := (blk_cell BK482.out 0).trans rfl
       have hcz46_1 : wc.cell? ⟨gb482, 1, none⟩ = some (.int .i64 a1_1) := (blk_cell BK482.out 1).trans rfl
       have hcz46_2 : wc.cell? ⟨gb482, 2, none⟩ = some (.string a1_2) := (blk_cell BK482.out 2).trans rfl
       have hfz46_0 := blk_frozen BK482.out 0
       have hfz46_1 := blk_frozen BK482.out 1
       have hfz46_2 := blk_frozen BK482.out 2
       have hnb47 := NB481_483.out
       have hnc47 := NB483_481.out
       have hcz48_0 : wc.cell? ⟨gb481, 0, none⟩ = some (.int .u8 a0_0) := (blk_cell BK481.out 0).trans rfl
       have hcz48_1 : wc.cell? ⟨gb481, 1, none⟩ = some (.int .i64 a0_1) := (blk_cell BK481.out 1).trans rfl
       have hcz48_2 : wc.cell? ⟨gb481, 2, none⟩ = some (.string a0_2) := (blk_cell BK481.out 2).trans rfl
       have hfz48_0 := blk_frozen BK481.out 0
       have hfz48_1 := blk_frozen BK481.out 1
       have hfz48_2 := blk_frozen BK481.out 2
       go_wp2_with (first | ((with_reducible refine gate_callee (f := 32) rfl ?_); refine goesL_ (some 51) rfl rfl Try.func32 (by kernel_rfl) rfl #[.int .i64 (wrap64 (a0_1 - a1_1))] rfl (by (try simp only [List.map_toArray, List.map_cons, List.map_nil]); first | done | rfl | (simp only [List.length_drop, List.length_take]; rfl)) ?_; (with_reducible refine (hindsightref02_Number.calls (wrap64 (a0_1 - a1_1)) t489 t490 t491 _ A43.out).mono ?_); rintro e w49 ⟨rfl, hb⟩; refine ⟨_, rfl, ?_⟩; have n0_ := aM52 (blk_below (g := gb481) (o := .cells #[.int .u8 a0_0, .int .i64 a0_1, .string a0_2] 35 (0, 0)) (by (with_reducible repeat (first | refine bN52 ?_ _ | refine bD52 ?_ | refine bA52 ?_ _)); exact BK481.out) hb); have n1_ := aM52 (blk_below (g := gb482) (o := .cells #[.int .u8 a1_0, .int .i64 a1_1, .string a1_2] 35 (0, 0)) (by (with_reducible repeat (first | refine bN52 ?_ _ | refine bD52 ?_ | refine bA52 ?_ _)); exact BK482.out) hb); have n2_ := aM52 (blk_below (g := gb483) (o := .cells #[.int .u8 0, .int .i64 0, .string (⟨#[]⟩ : ByteArray)] 35 (0, 0)) (by (with_reducible repeat (first | refine bN52 ?_ _ | refine bD52 ?_ | refine bA52 ?_ _)); exact BK483.out) hb); have n3_ := aM52 (below_step (by repeat (first | (with_reducible first | exact HB.out | apply below_alloc | apply pw_below_drewN | apply below_drew1 | refine bS52 ?_ GE481.out | refine bS52 ?_ GE482.out | refine bS52 ?_ GE483.out) | exact HB.out)) hb); clear BK481; clear BK482; clear BK483; clear HB; have BK481 := n0_; have BK482 := n1_; have BK483 := n2_; have HB := n3_; clear n0_ n1_ n2_ n3_; (try clear hb); (try clear hb2); (try clear hk); (try clear hi); have hcz50_0 : w49.cell? ⟨gb483, 0, none⟩ = some (.int .u8 0) := (blk_cell BK483.out 0).trans rfl; have hcz50_1 : w49.cell? ⟨gb483, 1, none⟩ = some (.int .i64 0) := (blk_cell BK483.out 1).trans rfl; have hcz50_2 : w49.cell? ⟨gb483, 2, none⟩ = some (.string (⟨#[]⟩ : ByteArray)) := (blk_cell BK483.out 2).trans rfl; have hfz50_0 := blk_frozen BK483.out 0; have hfz50_1 := blk_frozen BK483.out 1; have hfz50_2 := blk_frozen BK483.out 2))
       refine bodyPost_ret (results_ct rfl _ _ gb483 35 #[.int .u8 t489, .int .i64 t490, .string t491] (0, 0) _ rfl (by (with_reducible repeat (first | refine bN52 ?_ _ | refine bD52 ?_ | refine bA52 ?_ _)); refine blk_put (cs := #[.int .u8 t489, .int .i64 t490, .string (⟨#[]⟩ : ByteArray)]) ?_ 2 _ rfl; (with_reducible repeat (first | refine bN52 ?_ _ | refine bD52 ?_ | refine bA52 ?_ _)); refine blk_put (cs := #[.int .u8 t489, .int .i64 0, .string (⟨#[]⟩ : ByteArray)]) ?_ 1 _ rfl; (with_reducible repeat (first | refine bN52 ?_ _ | refine bD52 ?_ | refine bA52 ?_ _)); refine blk_put (cs := #[.int .u8 0, .int .i64 0, .string (⟨#[]⟩ : ByteArray)]) ?_ 0 _ rfl; (with_reducible repeat (first | refine bN52 ?_ _ | refine bD52 ?_ | refine bA52 ?_ _)); exact BK483.out) Try.underlying35 rfl (by kernel_rfl)) rfl ?_
       exact ⟨by first | rfl | (simp [errW_none, errW_some] <;> rfl) | (simp [*, errW_none, errW_some] <;> rfl), by repeat (first | (with_reducible first | exact HB.out | apply below_alloc | apply pw_below_drewN | apply below_drew1 | refine bS52 ?_ GE481.out | refine bS52 ?_ GE482.out | refine bS52 ?_ GE483.out) | exact HB.out)⟩
    ·rw [if_neg c19] at H
     have c19b0 : decide (a1_1 < 0) = false := decide_eq_false c19
     clear c19
     by_cases c51 : a1_1 > 0
     ·rw [if_pos c51] at H
      have c51b0 : decide (0 < a1_1) = true := decide_eq_true c51
      clear c51
      by_cases c52 : a0_1 < (wrap64 ((-9223372036854775808) + a1_1))
      ·rw [if_pos c52] at H
       have c52b0 : decide (a0_1 < (wrap64 ((-9223372036854775808) + a1_1))) = true := decide_eq_true c52
       clear c52
       simp only [Option.some.injEq, Prod.mk.injEq] at H
       obtain ⟨rfl, rfl, rfl, rfl⟩ := H
       have hnb53 := NB482_481.out
       have hnc53 := NB481_482.out
       have hnb54 := NB482_483.out
       have hnc54 := NB483_482.out
       have hcz55_0 : wc.cell? ⟨gb482, 0, none⟩ = some (.int .u8 a1_0) := (blk_cell BK482.out 0).trans rfl
       have hcz55_1 : wc.cell? ⟨gb482, 1, none⟩ = some (.int .i64 a1_1) := (blk_cell BK482.out 1).trans rfl
       have hcz55_2 : wc.cell? ⟨gb482, 2, none⟩ = some (.string a1_2) := (blk_cell BK482.out 2).trans rfl
       have hfz55_0 := blk_frozen BK482.out 0
       have hfz55_1 := blk_frozen BK482.out 1
       have hfz55_2 := blk_frozen BK482.out 2
       have hnb56 := NB481_483.out
       have hnc56 := NB483_481.out
       have hcz57_0 : wc.cell? ⟨gb481, 0, none⟩ = some (.int .u8 a0_0) := (blk_cell BK481.out 0).trans rfl
       have hcz57_1 : wc.cell? ⟨gb481, 1, none⟩ = some (.int .i64 a0_1) := (blk_cell BK481.out 1).trans rfl
       have hcz57_2 : wc.cell? ⟨gb481, 2, none⟩ = some (.string a0_2) := (blk_cell BK481.out 2).trans rfl
       have hfz57_0 := blk_frozen BK481.out 0
       have hfz57_1 := blk_frozen BK481.out 1
       have hfz57_2 := blk_frozen BK481.out 2
       have hcz58_0 : wc.cell? ⟨gb483, 0, none⟩ = some (.int .u8 0) := (blk_cell BK483.out 0).trans rfl
       have hcz58_1 : wc.cell? ⟨gb483, 1, none⟩ = some (.int .i64 0) := (blk_cell BK483.out 1).trans rfl
       have hcz58_2 : wc.cell? ⟨gb483, 2, none⟩ = some (.string (⟨#[]⟩ : ByteArray)) := (blk_cell BK483.out 2).trans rfl
       have hfz58_0 := blk_frozen BK483.out 0
       have hfz58_1 := blk_frozen BK483.out 1
       have hfz58_2 := blk_frozen BK483.out 2
       go_wp2
       refine bodyPost_ret (results_ct rfl _ _ gb483 35 #[.int .u8 0, .int .i64 0, .string (⟨#[]⟩ : ByteArray)] (0, 0) _ rfl (by (with_reducible repeat (first | refine bN52 ?_ _ | refine bD52 ?_ | refine bA52 ?_ _)); refine blk_put (cs := #[.int .u8 0, .int .i64 0, .string (⟨#[]⟩ : ByteArray)]) ?_ 2 _ rfl; (with_reducible repeat (first | refine bN52 ?_ _ | refine bD52 ?_ | refine bA52 ?_ _)); refine blk_put (cs := #[.int .u8 0, .int .i64 0, .string (⟨#[]⟩ : ByteArray)]) ?_ 1 _ rfl; (with_reducible repeat (first | refine bN52 ?_ _ | refine bD52 ?_ | refine bA52 ?_ _)); refine blk_put (cs := #[.int .u8 0, .int .i64 0, .string (⟨#[]⟩ : ByteArray)]) ?_ 0 _ rfl; (with_reducible repeat (first | refine bN52 ?_ _ | refine bD52 ?_ | refine bA52 ?_ _)); exact BK483.out) Try.underlying35 rfl (by kernel_rfl)) rfl ?_
       exact ⟨by first | rfl | (simp [errW_none, errW_some] <;> rfl) | (simp [*, errW_none, errW_some] <;> rfl), by repeat (first | (with_reducible first | exact HB.out | apply below_alloc | apply pw_below_drewN | apply below_drew1 | refine bS52 ?_ GE481.out | refine bS52 ?_ GE482.out | refine bS52 ?_ GE483.out) | exact HB.out)⟩
      ·rw [if_neg c52] at H
       have c52b0 : decide (a0_1 < (wrap64 ((-9223372036854775808) + a1_1))) = false := decide_eq_false c52
       clear c52
       replace H := Option.bind_eq_some_iff.mp H
       obtain ⟨⟨t492, t493, t494⟩, A590, H⟩ := H
       replace H : (some (t492, t493, t494, t485)) = some (r1, r2, r3, r4) := H
       have A59 := aM52 A590
       clear A590
       simp only [Option.some.injEq, Prod.mk.injEq] at H
       obtain ⟨rfl, rfl, rfl, rfl⟩ := H
       have hnb60 := NB482_481.out
       have hnc60 := NB481_482.out
       have hnb61 := NB482_483.out
       have hnc61 := NB483_482.out
       have hcz62_0 : wc.cell? ⟨gb482, 0, none⟩ = some (.int .u8 a1_0) := (blk_cell BK482.out 0).trans rfl
       have hcz62_1 : wc.cell? ⟨gb482, 1, none⟩ = some (.int .i64 a1_1) := (blk_cell BK482.out 1).trans rfl
       have hcz62_2 : wc.cell? ⟨gb482, 2, none⟩ = some (.string a1_2) := (blk_cell BK482.out 2).trans rfl
       have hfz62_0 := blk_frozen BK482.out 0
       have hfz62_1 := blk_frozen BK482.out 1
       have hfz62_2 := blk_frozen BK482.out 2
       have hnb63 := NB481_483.out
       have hnc63 := NB483_481.out
       have hcz64_0 : wc.cell? ⟨gb481, 0, none⟩ = some (.int .u8 a0_0) := (blk_cell BK481.out 0).trans rfl
       have hcz64_1 : wc.cell? ⟨gb481, 1, none⟩ = some (.int .i64 a0_1) := (blk_cell BK481.out 1).trans rfl
       have hcz64_2 : wc.cell? ⟨gb481, 2, none⟩ = some (.string a0_2) := (blk_cell BK481.out 2).trans rfl
       have hfz64_0 := blk_frozen BK481.out 0
       have hfz64_1 := blk_frozen BK481.out 1
       have hfz64_2 := blk_frozen BK481.out 2
       go_wp2_with (first | ((with_reducible refine gate_callee (f := 32) rfl ?_); refine goesL_ (some 51) rfl rfl Try.func32 (by kernel_rfl) rfl #[.int .i64 (wrap64 (a0_1 - a1_1))] rfl (by (try simp only [List.map_toArray, List.map_cons, List.map_nil]); first | done | rfl | (simp only [List.length_drop, List.length_take]; rfl)) ?_; (with_reducible refine (hindsightref02_Number.calls (wrap64 (a0_1 - a1_1)) t492 t493 t494 _ A59.out).mono ?_); rintro e w65 ⟨rfl, hb⟩; refine ⟨_, rfl, ?_⟩; have n0_ := aM52 (blk_below (g := gb481) (o := .cells #[.int .u8 a0_0, .int .i64 a0_1, .string a0_2] 35 (0, 0)) (by (with_reducible repeat (first | refine bN52 ?_ _ | refine bD52 ?_ | refine bA52 ?_ _)); exact BK481.out) hb); have n1_ := aM52 (blk_below (g := gb482) (o := .cells #[.int .u8 a1_0, .int .i64 a1_1, .string a1_2] 35 (0, 0)) (by (with_reducible repeat (first | refine bN52 ?_ _ | refine bD52 ?_ | refine bA52 ?_ _)); exact BK482.out) hb); have n2_ := aM52 (blk_below (g := gb483) (o := .cells #[.int .u8 0, .int .i64 0, .string (⟨#[]⟩ : ByteArray)] 35 (0, 0)) (by (with_reducible repeat (first | refine bN52 ?_ _ | refine bD52 ?_ | refine bA52 ?_ _)); exact BK483.out) hb); have n3_ := aM52 (below_step (by repeat (first | (with_reducible first | exact HB.out | apply below_alloc | apply pw_below_drewN | apply below_drew1 | refine bS52 ?_ GE481.out | refine bS52 ?_ GE482.out | refine bS52 ?_ GE483.out) | exact HB.out)) hb); clear BK481; clear BK482; clear BK483; clear HB; have BK481 := n0_; have BK482 := n1_; have BK483 := n2_; have HB := n3_; clear n0_ n1_ n2_ n3_; (try clear hb); (try clear hb2); (try clear hk); (try clear hi); have hcz66_0 : w65.cell? ⟨gb483, 0, none⟩ = some (.int .u8 0) := (blk_cell BK483.out 0).trans rfl; have hcz66_1 : w65.cell? ⟨gb483, 1, none⟩ = some (.int .i64 0) := (blk_cell BK483.out 1).trans rfl; have hcz66_2 : w65.cell? ⟨gb483, 2, none⟩ = some (.string (⟨#[]⟩ : ByteArray)) := (blk_cell BK483.out 2).trans rfl; have hfz66_0 := blk_frozen BK483.out 0; have hfz66_1 := blk_frozen BK483.out 1; have hfz66_2 := blk_frozen BK483.out 2))
       refine bodyPost_ret (results_ct rfl _ _ gb483 35 #[.int .u8 t492, .int .i64 t493, .string t494] (0, 0) _ rfl (by (with_reducible repeat (first | refine bN52 ?_ _ | refine bD52 ?_ | refine bA52 ?_ _)); refine blk_put (cs := #[.int .u8 t492, .int .i64 t493, .string (⟨#[]⟩ : ByteArray)]) ?_ 2 _ rfl; (with_reducible repeat (first | refine bN52 ?_ _ | refine bD52 ?_ | refine bA52 ?_ _)); refine blk_put (cs := #[.int .u8 t492, .int .i64 0, .string (⟨#[]⟩ : ByteArray)]) ?_ 1 _ rfl; (with_reducible repeat (first | refine bN52 ?_ _ | refine bD52 ?_ | refine bA52 ?_ _)); refine blk_put (cs := #[.int .u8 0, .int .i64 0, .string (⟨#[]⟩ : ByteArray)]) ?_ 0 _ rfl; (with_reducible repeat (first | refine bN52 ?_ _ | refine bD52 ?_ | refine bA52 ?_ _)); exact BK483.out) Try.underlying35 rfl (by kernel_rfl)) rfl ?_
       exact ⟨by first | rfl | (simp [errW_none, errW_some] <;> rfl) | (simp [*, errW_none, errW_some] <;> rfl), by repeat (first | (with_reducible first | exact HB.out | apply below_alloc | apply pw_below_drewN | apply below_drew1 | refine bS52 ?_ GE481.out | refine bS52 ?_ GE482.out | refine bS52 ?_ GE483.out) | exact HB.out)⟩
     ·rw [if_neg c51] at H
      have c51b0 : decide (0 < a1_1) = false := decide_eq_false c51
      clear c51
      replace H := Option.bind_eq_some_iff.mp H
      obtain ⟨⟨t495, t496, t497⟩, A670, H⟩ := H
      replace H : (some (t495, t496, t497, t485)) = some (r1, r2, r3, r4) := H
      have A67 := aM52 A670
      clear A670
      simp only [Option.some.injEq, Prod.mk.injEq] at H
      obtain ⟨rfl, rfl, rfl, rfl⟩ := H
      have hnb68 := NB482_481.out
      have hnc68 := NB481_482.out
      have hnb69 := NB482_483.out
      have hnc69 := NB483_482.out
      have hcz70_0 : wc.cell? ⟨gb482, 0, none⟩ = some (.int .u8 a1_0) := (blk_cell BK482.out 0).trans rfl
      have hcz70_1 : wc.cell? ⟨gb482, 1, none⟩ = some (.int .i64 a1_1) := (blk_cell BK482.out 1).trans rfl
      have hcz70_2 : wc.cell? ⟨gb482, 2, none⟩ = some (.string a1_2) := (blk_cell BK482.out 2).trans rfl
      have hfz70_0 := blk_frozen BK482.out 0
      have hfz70_1 := blk_frozen BK482.out 1
      have hfz70_2 := blk_frozen BK482.out 2
      have hnb71 := NB481_483.out
      have hnc71 := NB483_481.out
      have hcz72_0 : wc.cell? ⟨gb481, 0, none⟩ = some (.int .u8 a0_0) := (blk_cell BK481.out 0).trans rfl
      have hcz72_1 : wc.cell? ⟨gb481, 1, none⟩ = some (.int .i64 a0_1) := (blk_cell BK481.out 1).trans rfl
      have hcz72_2 : wc.cell? ⟨gb481, 2, none⟩ = some (.string a0_2) := (blk_cell BK481.out 2).trans rfl
      have hfz72_0 := blk_frozen BK481.out 0
      have hfz72_1 := blk_frozen BK481.out 1
      have hfz72_2 := blk_frozen BK481.out 2
      go_wp2_with (first | ((with_reducible refine gate_callee (f := 32) rfl ?_); refine goesL_ (some 51) rfl rfl Try.func32 (by kernel_rfl) rfl #[.int .i64 (wrap64 (a0_1 - a1_1))] rfl (by (try simp only [List.map_toArray, List.map_cons, List.map_nil]); first | done | rfl | (simp only [List.length_drop, List.length_take]; rfl)) ?_; (with_reducible refine (hindsightref02_Number.calls (wrap64 (a0_1 - a1_1)) t495 t496 t497 _ A67.out).mono ?_); rintro e w73 ⟨rfl, hb⟩; refine ⟨_, rfl, ?_⟩; have n0_ := aM52 (blk_below (g := gb481) (o := .cells #[.int .u8 a0_0, .int .i64 a0_1, .string a0_2] 35 (0, 0)) (by (with_reducible repeat (first | refine bN52 ?_ _ | refine bD52 ?_ | refine bA52 ?_ _)); exact BK481.out) hb); have n1_ := aM52 (blk_below (g := gb482) (o := .cells #[.int .u8 a1_0, .int .i64 a1_1, .string a1_2] 35 (0, 0)) (by (with_reducible repeat (first | refine bN52 ?_ _ | refine bD52 ?_ | refine bA52 ?_ _)); exact BK482.out) hb); have n2_ := aM52 (blk_below (g := gb483) (o := .cells #[.int .u8 0, .int .i64 0, .string (⟨#[]⟩ : ByteArray)] 35 (0, 0)) (by (with_reducible repeat (first | refine bN52 ?_ _ | refine bD52 ?_ | refine bA52 ?_ _)); exact BK483.out) hb); have n3_ := aM52 (below_step (by repeat (first | (with_reducible first | exact HB.out | apply below_alloc | apply pw_below_drewN | apply below_drew1 | refine bS52 ?_ GE481.out | refine bS52 ?_ GE482.out | refine bS52 ?_ GE483.out) | exact HB.out)) hb); clear BK481; clear BK482; clear BK483; clear HB; have BK481 := n0_; have BK482 := n1_; have BK483 := n2_; have HB := n3_; clear n0_ n1_ n2_ n3_; (try clear hb); (try clear hb2); (try clear hk); (try clear hi); have hcz74_0 : w73.cell? ⟨gb483, 0, none⟩ = some (.int .u8 0) := (blk_cell BK483.out 0).trans rfl; have hcz74_1 : w73.cell? ⟨gb483, 1, none⟩ = some (.int .i64 0) := (blk_cell BK483.out 1).trans rfl; have hcz74_2 : w73.cell? ⟨gb483, 2, none⟩ = some (.string (⟨#[]⟩ : ByteArray)) := (blk_cell BK483.out 2).trans rfl; have hfz74_0 := blk_frozen BK483.out 0; have hfz74_1 := blk_frozen BK483.out 1; have hfz74_2 := blk_frozen BK483.out 2))
      refine bodyPost_ret (results_ct rfl _ _ gb483 35 #[.int .u8 t495, .int .i64 t496, .string t497] (0, 0) _ rfl (by (with_reducible repeat (first | refine bN52 ?_ _ | refine bD52 ?_ | refine bA52 ?_ _)); refine blk_put (cs := #[.int .u8 t495, .int .i64 t496, .string (⟨#[]⟩ : ByteArray)]) ?_ 2 _ rfl; (with_reducible repeat (first | refine bN52 ?_ _ | refine bD52 ?_ | refine bA52 ?_ _)); refine blk_put (cs := #[.int .u8 t495, .int .i64 0, .string (⟨#[]⟩ : ByteArray)]) ?_ 1 _ rfl; (with_reducible repeat (first | refine bN52 ?_ _ | refine bD52 ?_ | refine bA52 ?_ _)); refine blk_put (cs := #[.int .u8 0, .int .i64 0, .string (⟨#[]⟩ : ByteArray)]) ?_ 0 _ rfl; (with_reducible repeat (first | refine bN52 ?_ _ | refine bD52 ?_ | refine bA52 ?_ _)); exact BK483.out) Try.underlying35 rfl (by kernel_rfl)) rfl ?_
      exact ⟨by first | rfl | (simp [errW_none, errW_some] <;> rfl) | (simp [*, errW_none, errW_some] <;> rfl), by repeat (first | (with_reducible first | exact HB.out | apply below_alloc | apply pw_below_drewN | apply below_drew1 | refine bS52 ?_ GE481.out | refine bS52 ?_ GE482.out | refine bS52 ?_ GE483.out) | exact HB.out)⟩

end Go.Proofs.Ytefpnnljflcmbaa.PCe
