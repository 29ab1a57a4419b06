-- Written by a program of this session (wip/tool), which goes by the kit's print.
import Derived.Test.YtefpnnljflcmbaaPCex0
import Derived.Test.YtefpnnljflcmbaaPCex15
namespace Go.Proofs.Ytefpnnljflcmbaa.PCe
open Go.RowKit Go.Proofs.YtefpnnljflcmbaaW.PrintWords Go.Proofs.YtefpnnljflcmbaaW.PrintLast Go.Proofs.YtefpnnljflcmbaaW.PrintMore
attribute [local go_sem] max2_int min2_int max_two min_two max_three min_three max_four min_four   -- for this text's walks alone
set_option linter.unusedVariables false
set_option linter.unusedSimpArgs false

/-! ### hindsightref02_Join: function 37 -/
theorem bN37 : type_of% @blk_drewN := @blk_drewN
theorem bD37 : type_of% @blk_drew := @blk_drew
theorem bA37 : type_of% @blk_alloc := @blk_alloc
theorem bS37 : type_of% @below_set := @below_set
theorem aM37 : type_of% @Aside0.mk := @Aside0.mk
mutual
def hindsightref02_Join.j0 : Nat → Bool → Int → Int → ByteArray → Int → Int → ByteArray → Option (Int × Int × ByteArray × Int)
 | 0, _, _, _, _, _, _, _ => none
 | k + 1, x13, x355000, x355001, x355002, x356000, x356001, x356002 => if x13 = true then (some (0, 0, (⟨#[]⟩ : ByteArray), 3)) else (if x355000 = 0 then (hindsightref02_Join.j1 k true x355000 x355001 x355002 x356000 x356001 x356002) else (hindsightref02_Join.j1 k (x356000 == 0) x355000 x355001 x355002 x356000 x356001 x356002))
def hindsightref02_Join.j1 : Nat → Bool → Int → Int → ByteArray → Int → Int → ByteArray → Option (Int × Int × ByteArray × Int)
 | 0, _, _, _, _, _, _, _ => none
 | k + 1, x22, x355000, x355001, x355002, x356000, x356001, x356002 => if x22 = true then (some (0, 0, (⟨#[]⟩ : ByteArray), 0)) else (if x355000 = 1 then (some (0, 0, (⟨#[]⟩ : ByteArray), 20)) else (if x355000 = x356000 then (if x355002.size + x356002.size ≤ 9223372036854775807 then (some (x355000, 0, x355002 ++ x356002, 0)) else (none)) else (some (0, 0, (⟨#[]⟩ : ByteArray), 20))))
end
def hindsightref02_Join.f (k : Nat) (a0_0 : Int) (a0_1 : Int) (a0_2 : ByteArray) (a1_0 : Int) (a1_1 : Int) (a1_2 : ByteArray) : Option (Int × Int × ByteArray × Int) := (hindsightref02_Right.f a0_0 a0_1 a0_2).bind fun t357 => (if t357 = true then ((hindsightref02_Right.f a1_0 a1_1 a1_2).bind fun t358 => (hindsightref02_Join.j0 k (!t358) a0_0 a0_1 a0_2 a1_0 a1_1 a1_2)) else (hindsightref02_Join.j0 k true a0_0 a0_1 a0_2 a1_0 a1_1 a1_2))
theorem hindsightref02_Join.mono_l : ∀ k, (∀ y0 y1 y2 y3 y4 y5 y6, LeO (hindsightref02_Join.j0 k y0 y1 y2 y3 y4 y5 y6) (hindsightref02_Join.j0 (k + 1) y0 y1 y2 y3 y4 y5 y6)) ∧ (∀ y0 y1 y2 y3 y4 y5 y6, LeO (hindsightref02_Join.j1 k y0 y1 y2 y3 y4 y5 y6) (hindsightref02_Join.j1 (k + 1) y0 y1 y2 y3 y4 y5 y6))
 | 0 => ⟨fun _ _ _ _ _ _ _ r h => by simp [hindsightref02_Join.j0] at h, fun _ _ _ _ _ _ _ r h => by simp [hindsightref02_Join.j1] at h⟩
 | k + 1 => by
  obtain ⟨ih0, ih1⟩ := hindsightref02_Join.mono_l k
  refine ⟨?_, ?_⟩
  ·intro y0 y1 y2 y3 y4 y5 y6
   unfold hindsightref02_Join.j0
   repeat' first
   | (with_reducible exact ih0 _ _ _ _ _ _ _)
   | (with_reducible exact ih1 _ _ _ _ _ _ _)
   | (with_reducible exact LeO.refl _)
   | (with_reducible exact LeO.none _)
   | (with_reducible refine LeO.ite ?_ ?_)
   | (with_reducible refine LeO.bind ?_ (fun _ => ?_))
   | exact ih0 _ _ _ _ _ _ _
   | exact ih1 _ _ _ _ _ _ _
   | exact LeO.none _
   | refine LeO.ite ?_ ?_
   | refine LeO.bind ?_ (fun _ => ?_)
  ·intro y0 y1 y2 y3 y4 y5 y6
   unfold hindsightref02_Join.j1
   repeat' first
   | (with_reducible exact ih0 _ _ _ _ _ _ _)
   | (with_reducible exact ih1 _ _ _ _ _ _ _)
   | (with_reducible exact LeO.refl _)
   | (with_reducible exact LeO.none _)
   | (with_reducible refine LeO.ite ?_ ?_)
   | (with_reducible refine LeO.bind ?_ (fun _ => ?_))
   | exact ih0 _ _ _ _ _ _ _
   | exact ih1 _ _ _ _ _ _ _
   | exact LeO.none _
   | refine LeO.ite ?_ ?_
   | refine LeO.bind ?_ (fun _ => ?_)
theorem hindsightref02_Join.mono : ∀ a0 a1 a2 a3 a4 a5 k, LeO (hindsightref02_Join.f k a0 a1 a2 a3 a4 a5) (hindsightref02_Join.f (k + 1) a0 a1 a2 a3 a4 a5) := by
 intro a0 a1 a2 a3 a4 a5 k
 obtain ⟨ih0, ih1⟩ := hindsightref02_Join.mono_l k
 unfold hindsightref02_Join.f
 repeat' first
   | (with_reducible exact ih0 _ _ _ _ _ _ _)
   | (with_reducible exact ih1 _ _ _ _ _ _ _)
   | (with_reducible exact LeO.refl _)
   | (with_reducible exact LeO.none _)
   | (with_reducible refine LeO.ite ?_ ?_)
   | (with_reducible refine LeO.bind ?_ (fun _ => ?_))
   | exact ih0 _ _ _ _ _ _ _
   | exact ih1 _ _ _ _ _ _ _
   | exact LeO.none _
   | refine LeO.ite ?_ ?_
   | refine LeO.bind ?_ (fun _ => ?_)
set_option maxHeartbeats 8000000 in
set_option maxRecDepth 100000 in
theorem hindsightref02_Join.calls (k : Nat) (a0_0 : Int) (a0_1 : Int) (a0_2 : ByteArray) (a1_0 : Int) (a1_1 : Int) (a1_2 : ByteArray) (r1 : Int) (r2 : Int) (r3 : ByteArray) (r4 : Int) (w : World) (h : hindsightref02_Join.f k a0_0 a0_1 a0_2 a1_0 a1_1 a1_2 = some (r1, r2, r3, r4)) :
  Calls Try.prog 37 #[.agg #[.int .u8 a0_0, .int .i64 a0_1, .string a0_2], .agg #[.int .u8 a1_0, .int .i64 a1_1, .string a1_2]] w fun e w' => e = .returned (.tuple #[.agg #[.int .u8 r1, .int .i64 r2, .string r3], .int .i64 r4]) ∧ Below w.heap.size w w' := by
 have hu35 := Try.underlying35
 have HB := aM37 (Below.refl w.heap.size w)
 have H : ((hindsightref02_Right.f a0_0 a0_1 a0_2).bind fun t357 => (if t357 = true then ((hindsightref02_Right.f a1_0 a1_1 a1_2).bind fun t358 => (hindsightref02_Join.j0 k (!t358) a0_0 a0_1 a0_2 a1_0 a1_1 a1_2)) else (hindsightref02_Join.j0 k true a0_0 a0_1 a0_2 a1_0 a1_1 a1_2))) = some (r1, r2, r3, r4) := h
 clear h
 have HC3 := aM37 H
 clear H
 go_enter Try.func37, Try.ntmps37
 go_upto_region 1 with (first | ((with_reducible refine gate_dst (N := 2) rfl ?_); refine box_event ?hg (N := 2) ?hd (cs := #[.int .u8 a0_0, .int .i64 a0_1, .string a0_2]) (t := 35) ?hr ?_; (case hd => rfl); (case hg => rfl); (case hr => first | (go_simp; done) | (go_simp; rfl)); intro gb354 hg w4 hbox hb; have n0_ := aM37 (below_step (by repeat (first | (with_reducible first | exact HB.out | apply below_alloc | apply pw_below_drewN | apply below_drew1) | exact HB.out)) hb); have n1_ := aM37 (hbox); have n2_ := aM37 ((by rw [hg]; exact (below_size (by repeat (first | (with_reducible first | exact HB.out | apply below_alloc | apply pw_below_drewN | apply below_drew1) | exact HB.out))) : w.heap.size ≤ gb354)); have n3_ := aM37 ((by rw [hg]; exact (below_size (by repeat (first | (with_reducible first | exact HB.out | apply below_alloc | apply pw_below_drewN | apply below_drew1) | exact HB.out))) : w.heap.size ≤ gb354)); clear HB; have HB := n0_; have BK354 := n1_; have GW354 := n2_; have GE354 := n3_; clear n0_ n1_ n2_ n3_; clear hb hbox hg) | ((with_reducible refine gate_dst (N := 3) rfl ?_); refine box_event ?hg (N := 3) ?hd (cs := #[.int .u8 a1_0, .int .i64 a1_1, .string a1_2]) (t := 35) ?hr ?_; (case hd => rfl); (case hg => rfl); (case hr => first | (go_simp; done) | (go_simp; rfl)); intro gb355 hg w5 hbox hb; have n0_ := aM37 (blk_below (g := gb354) (o := .cells #[.int .u8 a0_0, .int .i64 a0_1, .string a0_2] 35 (0, 0)) (by (with_reducible repeat (first | refine bN37 ?_ _ | refine bD37 ?_ | refine bA37 ?_ _)); exact BK354.out) hb); have n1_ := aM37 (below_step (by repeat (first | (with_reducible first | exact HB.out | apply below_alloc | apply pw_below_drewN | apply below_drew1 | refine bS37 ?_ GE354.out) | exact HB.out)) hb); have n2_ := aM37 (hbox); have n3_ := aM37 ((by rw [hg]; exact (below_size (by repeat (first | (with_reducible first | exact HB.out | apply below_alloc | apply pw_below_drewN | apply below_drew1 | refine bS37 ?_ GE354.out) | exact HB.out))) : w.heap.size ≤ gb355)); have n4_ := aM37 ((by rw [hg]; exact (below_size (by repeat (first | (with_reducible first | exact HB.out | apply below_alloc | apply pw_below_drewN | apply below_drew1 | refine bS37 ?_ GE354.out) | exact HB.out))) : w.heap.size ≤ gb355)); have n5_ := aM37 ((by rw [hg]; exact Nat.ne_of_lt (blk_lt (g := gb354) (o := .cells #[.int .u8 a0_0, .int .i64 a0_1, .string a0_2] 35 (0, 0)) (by (with_reducible repeat (first | refine bN37 ?_ _ | refine bD37 ?_ | refine bA37 ?_ _)); exact BK354.out)) : gb354 ≠ gb355)); have n6_ := aM37 ((by rw [hg]; exact Nat.ne_of_gt (blk_lt (g := gb354) (o := .cells #[.int .u8 a0_0, .int .i64 a0_1, .string a0_2] 35 (0, 0)) (by (with_reducible repeat (first | refine bN37 ?_ _ | refine bD37 ?_ | refine bA37 ?_ _)); exact BK354.out)) : gb355 ≠ gb354)); clear BK354; clear HB; have BK354 := n0_; have HB := n1_; have BK355 := n2_; have GW355 := n3_; have GE355 := n4_; have NB354_355 := n5_; have NB355_354 := n6_; clear n0_ n1_ n2_ n3_ n4_ n5_ n6_; clear hb hbox hg) | ((with_reducible refine gate_dst (N := 4) rfl ?_); refine box_event ?hg (N := 4) ?hd (cs := #[.int .u8 0, .int .i64 0, .string (⟨#[]⟩ : ByteArray)]) (t := 35) ?hr ?_; (case hd => rfl); (case hg => rfl); (case hr => first | (go_simp; done) | (go_simp; rfl)); intro gb356 hg w6 hbox hb; have n0_ := aM37 (blk_below (g := gb354) (o := .cells #[.int .u8 a0_0, .int .i64 a0_1, .string a0_2] 35 (0, 0)) (by (with_reducible repeat (first | refine bN37 ?_ _ | refine bD37 ?_ | refine bA37 ?_ _)); exact BK354.out) hb); have n1_ := aM37 (blk_below (g := gb355) (o := .cells #[.int .u8 a1_0, .int .i64 a1_1, .string a1_2] 35 (0, 0)) (by (with_reducible repeat (first | refine bN37 ?_ _ | refine bD37 ?_ | refine bA37 ?_ _)); exact BK355.out) hb); have n2_ := aM37 (below_step (by repeat (first | (with_reducible first | exact HB.out | apply below_alloc | apply pw_below_drewN | apply below_drew1 | refine bS37 ?_ GE354.out | refine bS37 ?_ GE355.out) | exact HB.out)) hb); have n3_ := aM37 (hbox); have n4_ := aM37 ((by rw [hg]; exact (below_size (by repeat (first | (with_reducible first | exact HB.out | apply below_alloc | apply pw_below_drewN | apply below_drew1 | refine bS37 ?_ GE354.out | refine bS37 ?_ GE355.out) | exact HB.out))) : w.heap.size ≤ gb356)); have n5_ := aM37 ((by rw [hg]; exact (below_size (by repeat (first | (with_reducible first | exact HB.out | apply below_alloc | apply pw_below_drewN | apply below_drew1 | refine bS37 ?_ GE354.out | refine bS37 ?_ GE355.out) | exact HB.out))) : w.heap.size ≤ gb356)); have n6_ := aM37 ((by rw [hg]; exact Nat.ne_of_lt (blk_lt (g := gb354) (o := .cells #[.int .u8 a0_0, .int .i64 a0_1, .string a0_2] 35 (0, 0)) (by (with_reducible repeat (first | refine bN37 ?_ _ | refine bD37 ?_ | refine bA37 ?_ _)); exact BK354.out)) : gb354 ≠ gb356)); have n7_ := aM37 ((by rw [hg]; exact Nat.ne_of_gt (blk_lt (g := gb354) (o := .cells #[.int .u8 a0_0, .int .i64 a0_1, .string a0_2] 35 (0, 0)) (by (with_reducible repeat (first | refine bN37 ?_ _ | refine bD37 ?_ | refine bA37 ?_ _)); exact BK354.out)) : gb356 ≠ gb354)); have n8_ := aM37 ((by rw [hg]; exact Nat.ne_of_lt (blk_lt (g := gb355) (o := .cells #[.int .u8 a1_0, .int .i64 a1_1, .string a1_2] 35 (0, 0)) (by (with_reducible repeat (first | refine bN37 ?_ _ | refine bD37 ?_ | refine bA37 ?_ _)); exact BK355.out)) : gb355 ≠ gb356)); have n9_ := aM37 ((by rw [hg]; exact Nat.ne_of_gt (blk_lt (g := gb355) (o := .cells #[.int .u8 a1_0, .int .i64 a1_1, .string a1_2] 35 (0, 0)) (by (with_reducible repeat (first | refine bN37 ?_ _ | refine bD37 ?_ | refine bA37 ?_ _)); exact BK355.out)) : gb356 ≠ gb355)); clear BK354; clear BK355; clear HB; have BK354 := n0_; have BK355 := n1_; have HB := n2_; have BK356 := n3_; have GW356 := n4_; have GE356 := n5_; have NB354_356 := n6_; have NB356_354 := n7_; have NB355_356 := n8_; have NB356_355 := n9_; clear n0_ n1_ n2_ n3_ n4_ n5_ n6_ n7_ n8_ n9_; clear hb hbox hg))
 (try simp only [Act.put, List.setIfInBounds_toArray, List.set_cons_zero, List.set_cons_succ])
 go_cut [13] (fun v13 wc => ∃ (kq : Nat) (x13_2 : Bool), v13 = .bool x13_2 ∧ Aside0 (hindsightref02_Join.j0 kq x13_2 a0_0 a0_1 a0_2 a1_0 a1_1 a1_2 = some (r1, r2, r3, r4)) ∧ Aside0 (kq ≤ k) ∧ Aside0 (wc.heap[gb354]? = some (.cells #[.int .u8 a0_0, .int .i64 a0_1, .string a0_2] 35 (0, 0))) ∧ Aside0 (wc.heap[gb355]? = some (.cells #[.int .u8 a1_0, .int .i64 a1_1, .string a1_2] 35 (0, 0))) ∧ Aside0 (wc.heap[gb356]? = some (.cells #[.int .u8 0, .int .i64 0, .string (⟨#[]⟩ : ByteArray)] 35 (0, 0))) ∧ Aside0 (Below w.heap.size w wc))
 case first =>
  have H := HC3.out
  clear HC3
  replace H := Option.bind_eq_some_iff.mp H
  obtain ⟨t357, A70, H⟩ := H
  replace H : (if t357 = true then ((hindsightref02_Right.f a1_0 a1_1 a1_2).bind fun t358 => (hindsightref02_Join.j0 k (!t358) a0_0 a0_1 a0_2 a1_0 a1_1 a1_2)) else (hindsightref02_Join.j0 k true a0_0 a0_1 a0_2 a1_0 a1_1 a1_2)) = some (r1, r2, r3, r4) := H
  have A7 := aM37 A70
  clear A70
  by_cases c8 : t357 = true
  ·subst c8
   have H1 : ((hindsightref02_Right.f a1_0 a1_1 a1_2).bind fun t358 => (hindsightref02_Join.j0 k (!t358) a0_0 a0_1 a0_2 a1_0 a1_1 a1_2)) = some (r1, r2, r3, r4) := by rw [if_pos rfl] at H; exact H
   clear H
   have H := H1
   clear H1
   replace H := Option.bind_eq_some_iff.mp H
   obtain ⟨t358, A90, H⟩ := H
   replace H : (hindsightref02_Join.j0 k (!t358) a0_0 a0_1 a0_2 a1_0 a1_1 a1_2) = some (r1, r2, r3, r4) := H
   have A9 := aM37 A90
   clear A90
   have H' := aM37 H
   clear H
   have hnb10 := NB354_355.out
   have hnc10 := NB355_354.out
   have hnb11 := NB354_356.out
   have hnc11 := NB356_354.out
   have hcz12_0 : w6.cell? ⟨gb354, 0, none⟩ = some (.int .u8 a0_0) := (blk_cell BK354.out 0).trans rfl
   have hcz12_1 : w6.cell? ⟨gb354, 1, none⟩ = some (.int .i64 a0_1) := (blk_cell BK354.out 1).trans rfl
   have hcz12_2 : w6.cell? ⟨gb354, 2, none⟩ = some (.string a0_2) := (blk_cell BK354.out 2).trans rfl
   have hfz12_0 := blk_frozen BK354.out 0
   have hfz12_1 := blk_frozen BK354.out 1
   have hfz12_2 := blk_frozen BK354.out 2
   go_wp2_with (first | ((with_reducible refine gate_callee (f := 28) rfl ?_); refine goesL_ (some 7) rfl rfl Try.func28 (by kernel_rfl) rfl #[.agg #[.int .u8 a0_0, .int .i64 a0_1, .string a0_2]] rfl (by (try simp only [List.map_toArray, List.map_cons, List.map_nil]); first | done | rfl | (simp only [List.length_drop, List.length_take]; rfl)) ?_; (with_reducible refine (hindsightref02_Right.calls a0_0 a0_1 a0_2 true _ A7.out).mono ?_); rintro e w13 ⟨rfl, hb⟩; refine ⟨_, rfl, ?_⟩; have n0_ := aM37 (blk_below (g := gb354) (o := .cells #[.int .u8 a0_0, .int .i64 a0_1, .string a0_2] 35 (0, 0)) (by (with_reducible repeat (first | refine bN37 ?_ _ | refine bD37 ?_ | refine bA37 ?_ _)); exact BK354.out) hb); have n1_ := aM37 (blk_below (g := gb355) (o := .cells #[.int .u8 a1_0, .int .i64 a1_1, .string a1_2] 35 (0, 0)) (by (with_reducible repeat (first | refine bN37 ?_ _ | refine bD37 ?_ | refine bA37 ?_ _)); exact BK355.out) hb); have n2_ := aM37 (blk_below (g := gb356) (o := .cells #[.int .u8 0, .int .i64 0, .string (⟨#[]⟩ : ByteArray)] 35 (0, 0)) (by (with_reducible repeat (first | refine bN37 ?_ _ | refine bD37 ?_ | refine bA37 ?_ _)); exact BK356.out) hb); have n3_ := aM37 (below_step (by repeat (first | (with_reducible first | exact HB.out | apply below_alloc | apply pw_below_drewN | apply below_drew1 | refine bS37 ?_ GE354.out | refine bS37 ?_ GE355.out | refine bS37 ?_ GE356.out) | exact HB.out)) hb); clear BK354; clear BK355; clear BK356; clear HB; have BK354 := n0_; have BK355 := n1_; have BK356 := n2_; have HB := n3_; clear n0_ n1_ n2_ n3_; (try clear hb); (try clear hb2); (try clear hk); (try clear hi); have hnb14 := NB355_356.out; have hnc14 := NB356_355.out; have hcz15_0 : w13.cell? ⟨gb355, 0, none⟩ = some (.int .u8 a1_0) := (blk_cell BK355.out 0).trans rfl; have hcz15_1 : w13.cell? ⟨gb355, 1, none⟩ = some (.int .i64 a1_1) := (blk_cell BK355.out 1).trans rfl; have hcz15_2 : w13.cell? ⟨gb355, 2, none⟩ = some (.string a1_2) := (blk_cell BK355.out 2).trans rfl; have hfz15_0 := blk_frozen BK355.out 0; have hfz15_1 := blk_frozen BK355.out 1; have hfz15_2 := blk_frozen BK355.out 2) | (go_at_call 28; (with_reducible refine (hindsightref02_Right.calls a1_0 a1_1 a1_2 t358 _ A9.out).mono ?_); rintro e w16 ⟨rfl, hb⟩; have n0_ := aM37 (blk_below (g := gb354) (o := .cells #[.int .u8 a0_0, .int .i64 a0_1, .string a0_2] 35 (0, 0)) (by (with_reducible repeat (first | refine bN37 ?_ _ | refine bD37 ?_ | refine bA37 ?_ _)); exact BK354.out) hb); have n1_ := aM37 (blk_below (g := gb355) (o := .cells #[.int .u8 a1_0, .int .i64 a1_1, .string a1_2] 35 (0, 0)) (by (with_reducible repeat (first | refine bN37 ?_ _ | refine bD37 ?_ | refine bA37 ?_ _)); exact BK355.out) hb); have n2_ := aM37 (blk_below (g := gb356) (o := .cells #[.int .u8 0, .int .i64 0, .string (⟨#[]⟩ : ByteArray)] 35 (0, 0)) (by (with_reducible repeat (first | refine bN37 ?_ _ | refine bD37 ?_ | refine bA37 ?_ _)); exact BK356.out) hb); have n3_ := aM37 (below_step (by repeat (first | (with_reducible first | exact HB.out | apply below_alloc | apply pw_below_drewN | apply below_drew1 | refine bS37 ?_ GE354.out | refine bS37 ?_ GE355.out | refine bS37 ?_ GE356.out) | exact HB.out)) hb); clear BK354; clear BK355; clear BK356; clear HB; have BK354 := n0_; have BK355 := n1_; have BK356 := n2_; have HB := n3_; clear n0_ n1_ n2_ n3_; (try clear hb); (try clear hb2); (try clear hk); (try clear hi)))
   go_meet
   case rel => exact ⟨_, (!t358), (by first | rfl | (simp; done) | (simp [*]; done)), H', ⟨by first | omega | exact Nat.le_refl _⟩, ⟨by (with_reducible repeat (first | refine bN37 ?_ _ | refine bD37 ?_ | refine bA37 ?_ _)); exact BK354.out⟩, ⟨by (with_reducible repeat (first | refine bN37 ?_ _ | refine bD37 ?_ | refine bA37 ?_ _)); exact BK355.out⟩, ⟨by (with_reducible repeat (first | refine bN37 ?_ _ | refine bD37 ?_ | refine bA37 ?_ _)); exact BK356.out⟩, ⟨by repeat (first | (with_reducible first | exact HB.out | apply below_alloc | apply pw_below_drewN | apply below_drew1 | refine bS37 ?_ GE354.out | refine bS37 ?_ GE355.out | refine bS37 ?_ GE356.out) | exact HB.out)⟩⟩
  ·replace c8 := Bool.eq_false_iff.mpr c8
   subst c8
   have H1 : (hindsightref02_Join.j0 k true a0_0 a0_1 a0_2 a1_0 a1_1 a1_2) = some (r1, r2, r3, r4) := by rw [if_neg (show ¬ (false = true) by decide)] at H; exact H
   clear H
   have H := H1
   clear H1
   have H' := aM37 H
   clear H
   have hnb17 := NB354_355.out
   have hnc17 := NB355_354.out
   have hnb18 := NB354_356.out
   have hnc18 := NB356_354.out
   have hcz19_0 : w6.cell? ⟨gb354, 0, none⟩ = some (.int .u8 a0_0) := (blk_cell BK354.out 0).trans rfl
   have hcz19_1 : w6.cell? ⟨gb354, 1, none⟩ = some (.int .i64 a0_1) := (blk_cell BK354.out 1).trans rfl
   have hcz19_2 : w6.cell? ⟨gb354, 2, none⟩ = some (.string a0_2) := (blk_cell BK354.out 2).trans rfl
   have hfz19_0 := blk_frozen BK354.out 0
   have hfz19_1 := blk_frozen BK354.out 1
   have hfz19_2 := blk_frozen BK354.out 2
   go_wp2_with (first | ((with_reducible refine gate_callee (f := 28) rfl ?_); refine goesL_ (some 7) rfl rfl Try.func28 (by kernel_rfl) rfl #[.agg #[.int .u8 a0_0, .int .i64 a0_1, .string a0_2]] rfl (by (try simp only [List.map_toArray, List.map_cons, List.map_nil]); first | done | rfl | (simp only [List.length_drop, List.length_take]; rfl)) ?_; (with_reducible refine (hindsightref02_Right.calls a0_0 a0_1 a0_2 false _ A7.out).mono ?_); rintro e w20 ⟨rfl, hb⟩; refine ⟨_, rfl, ?_⟩; have n0_ := aM37 (blk_below (g := gb354) (o := .cells #[.int .u8 a0_0, .int .i64 a0_1, .string a0_2] 35 (0, 0)) (by (with_reducible repeat (first | refine bN37 ?_ _ | refine bD37 ?_ | refine bA37 ?_ _)); exact BK354.out) hb); have n1_ := aM37 (blk_below (g := gb355) (o := .cells #[.int .u8 a1_0, .int .i64 a1_1, .string a1_2] 35 (0, 0)) (by (with_reducible repeat (first | refine bN37 ?_ _ | refine bD37 ?_ | refine bA37 ?_ _)); exact BK355.out) hb); have n2_ := aM37 (blk_below (g := gb356) (o := .cells #[.int .u8 0, .int .i64 0, .string (⟨#[]⟩ : ByteArray)] 35 (0, 0)) (by (with_reducible repeat (first | refine bN37 ?_ _ | refine bD37 ?_ | refine bA37 ?_ _)); exact BK356.out) hb); have n3_ := aM37 (below_step (by repeat (first | (with_reducible first | exact HB.out | apply below_alloc | apply pw_below_drewN | apply below_drew1 | refine bS37 ?_ GE354.out | refine bS37 ?_ GE355.out | refine bS37 ?_ GE356.out) | exact HB.out)) hb); clear BK354; clear BK355; clear BK356; clear HB; have BK354 := n0_; have BK355 := n1_; have BK356 := n2_; have HB := n3_; clear n0_ n1_ n2_ n3_; (try clear hb); (try clear hb2); (try clear hk); (try clear hi)))
   go_meet
   case rel => exact ⟨_, (true), (by first | rfl | (simp; done) | (simp [*]; done)), H', ⟨by first | omega | exact Nat.le_refl _⟩, ⟨by (with_reducible repeat (first | refine bN37 ?_ _ | refine bD37 ?_ | refine bA37 ?_ _)); exact BK354.out⟩, ⟨by (with_reducible repeat (first | refine bN37 ?_ _ | refine bD37 ?_ | refine bA37 ?_ _)); exact BK355.out⟩, ⟨by (with_reducible repeat (first | refine bN37 ?_ _ | refine bD37 ?_ | refine bA37 ?_ _)); exact BK356.out⟩, ⟨by repeat (first | (with_reducible first | exact HB.out | apply below_alloc | apply pw_below_drewN | apply below_drew1 | refine bS37 ?_ GE354.out | refine bS37 ?_ GE355.out | refine bS37 ?_ GE356.out) | exact HB.out)⟩⟩
 case rest =>
  clear HC3
  try clear c1
  try clear c2
  try clear p2
  try clear c3
  try clear c8
  try clear c10
  try clear c11
  try clear c14
  try clear c17
  try clear c18
  try clear hcz12_0
  try clear hcz12_1
  try clear hcz12_2
  try clear hcz15_0
  try clear hcz15_1
  try clear hcz15_2
  try clear hcz19_0
  try clear hcz19_1
  try clear hcz19_2
  try clear hfz12_0
  try clear hfz12_1
  try clear hfz12_2
  try clear hfz15_0
  try clear hfz15_1
  try clear hfz15_2
  try clear hfz19_0
  try clear hfz19_1
  try clear hfz19_2
  obtain ⟨kq, x13_2, rfl, HA, HJ2, BK354, BK355, BK356, HB⟩ := hcut
  cases kq with
  | zero => exact absurd HA.out (by simp [hindsightref02_Join.j0])
  | succ kj2 =>
   have H := HA.out
   clear HA
   simp only [hindsightref02_Join.j0] at H
   by_cases c21 : x13_2 = true
   ·subst c21
    have H1 : (some (0, 0, (⟨#[]⟩ : ByteArray), 3)) = some (r1, r2, r3, r4) := by rw [if_pos rfl] at H; exact H
    clear H
    have H := H1
    clear H1
    simp only [Option.some.injEq, Prod.mk.injEq] at H
    obtain ⟨rfl, rfl, rfl, rfl⟩ := H
    have hnb22 := NB356_354.out
    have hnc22 := NB354_356.out
    have hnb23 := NB356_355.out
    have hnc23 := NB355_356.out
    have hcz24_0 : wc.cell? ⟨gb356, 0, none⟩ = some (.int .u8 0) := (blk_cell BK356.out 0).trans rfl
    have hcz24_1 : wc.cell? ⟨gb356, 1, none⟩ = some (.int .i64 0) := (blk_cell BK356.out 1).trans rfl
    have hcz24_2 : wc.cell? ⟨gb356, 2, none⟩ = some (.string (⟨#[]⟩ : ByteArray)) := (blk_cell BK356.out 2).trans rfl
    have hfz24_0 := blk_frozen BK356.out 0
    have hfz24_1 := blk_frozen BK356.out 1
    have hfz24_2 := blk_frozen BK356.out 2
    go_wp2
    refine bodyPost_ret (results_ct rfl _ _ gb356 35 #[.int .u8 0, .int .i64 0, .string (⟨#[]⟩ : ByteArray)] (0, 0) _ rfl (by (with_reducible repeat (first | refine bN37 ?_ _ | refine bD37 ?_ | refine bA37 ?_ _)); refine blk_put (cs := #[.int .u8 0, .int .i64 0, .string (⟨#[]⟩ : ByteArray)]) ?_ 2 _ rfl; (with_reducible repeat (first | refine bN37 ?_ _ | refine bD37 ?_ | refine bA37 ?_ _)); refine blk_put (cs := #[.int .u8 0, .int .i64 0, .string (⟨#[]⟩ : ByteArray)]) ?_ 1 _ rfl; (with_reducible repeat (first | refine bN37 ?_ _ | refine bD37 ?_ | refine bA37 ?_ _)); refine blk_put (cs := #[.int .u8 0, .int .i64 0, .string (⟨#[]⟩ : ByteArray)]) ?_ 0 _ rfl; (with_reducible repeat (first | refine bN37 ?_ _ | refine bD37 ?_ | refine bA37 ?_ _)); exact BK356.out) Try.underlying35 rfl (by kernel_rfl)) rfl ?_
    exact ⟨by first | rfl | (simp [errW_none, errW_some] <;> rfl) | (simp [*, errW_none, errW_some] <;> rfl), by repeat (first | (with_reducible first | exact HB.out | apply below_alloc | apply pw_below_drewN | apply below_drew1 | refine bS37 ?_ GE354.out | refine bS37 ?_ GE355.out | refine bS37 ?_ GE356.out) | exact HB.out)⟩
   ·replace c21 := Bool.eq_false_iff.mpr c21
    subst c21
    have H1 : (if a0_0 = 0 then (hindsightref02_Join.j1 kj2 true a0_0 a0_1 a0_2 a1_0 a1_1 a1_2) else (hindsightref02_Join.j1 kj2 (a1_0 == 0) a0_0 a0_1 a0_2 a1_0 a1_1 a1_2)) = some (r1, r2, r3, r4) := by rw [if_neg (show ¬ (false = true) by decide)] at H; exact H
    clear H
    have H := H1
    clear H1
    have HC25 := aM37 H
    clear H
    go_upto_region 3 with (fail)
    go_cut [22] (fun v22 wc => ∃ (kq : Nat) (x22_24 : Bool), v22 = .bool x22_24 ∧ Aside0 (hindsightref02_Join.j1 kq x22_24 a0_0 a0_1 a0_2 a1_0 a1_1 a1_2 = some (r1, r2, r3, r4)) ∧ Aside0 (kq ≤ kj2) ∧ Aside0 (wc.heap[gb354]? = some (.cells #[.int .u8 a0_0, .int .i64 a0_1, .string a0_2] 35 (0, 0))) ∧ Aside0 (wc.heap[gb355]? = some (.cells #[.int .u8 a1_0, .int .i64 a1_1, .string a1_2] 35 (0, 0))) ∧ Aside0 (wc.heap[gb356]? = some (.cells #[.int .u8 0, .int .i64 0, .string (⟨#[]⟩ : ByteArray)] 35 (0, 0))) ∧ Aside0 (Below w.heap.size w wc))
    case first =>
     have H := HC25.out
     clear HC25
     by_cases c26 : a0_0 = 0
     ·rw [if_pos c26] at H
      have c26b0 : (a0_0 == 0) = true := beq_iff_eq.mpr c26
      have c26b1 : (a0_0 != 0) = false := bne_eq_false_iff_eq.mpr c26
      clear c26
      (first | rw [c26b0] | (simp only [i64_w, i32_w]; rw [c26b0]) | skip)
      have H' := aM37 H
      clear H
      have hnb27 := NB354_355.out
      have hnc27 := NB355_354.out
      have hnb28 := NB354_356.out
      have hnc28 := NB356_354.out
      have hcz29_0 : wc.cell? ⟨gb354, 0, none⟩ = some (.int .u8 a0_0) := (blk_cell BK354.out 0).trans rfl
      have hcz29_1 : wc.cell? ⟨gb354, 1, none⟩ = some (.int .i64 a0_1) := (blk_cell BK354.out 1).trans rfl
      have hcz29_2 : wc.cell? ⟨gb354, 2, none⟩ = some (.string a0_2) := (blk_cell BK354.out 2).trans rfl
      have hfz29_0 := blk_frozen BK354.out 0
      have hfz29_1 := blk_frozen BK354.out 1
      have hfz29_2 := blk_frozen BK354.out 2
      go_wp2
      go_meet
      case rel => exact ⟨_, (true), (by first | rfl | (simp; done) | (simp [*]; done)), H', ⟨by have := HJ2.out; first | omega | exact Nat.le_refl _⟩, ⟨by (with_reducible repeat (first | refine bN37 ?_ _ | refine bD37 ?_ | refine bA37 ?_ _)); exact BK354.out⟩, ⟨by (with_reducible repeat (first | refine bN37 ?_ _ | refine bD37 ?_ | refine bA37 ?_ _)); exact BK355.out⟩, ⟨by (with_reducible repeat (first | refine bN37 ?_ _ | refine bD37 ?_ | refine bA37 ?_ _)); exact BK356.out⟩, ⟨by repeat (first | (with_reducible first | exact HB.out | apply below_alloc | apply pw_below_drewN | apply below_drew1 | refine bS37 ?_ GE354.out | refine bS37 ?_ GE355.out | refine bS37 ?_ GE356.out) | exact HB.out)⟩⟩
     ·rw [if_neg c26] at H
      have c26b0 : (a0_0 == 0) = false := beq_eq_false_iff_ne.mpr c26
      have c26b1 : (a0_0 != 0) = true := bne_iff_ne.mpr c26
      (first | rw [c26b0] | (simp only [i64_w, i32_w]; rw [c26b0]) | skip)
      have H' := aM37 H
      clear H
      have hnb30 := NB354_355.out
      have hnc30 := NB355_354.out
      have hnb31 := NB354_356.out
      have hnc31 := NB356_354.out
      have hcz32_0 : wc.cell? ⟨gb354, 0, none⟩ = some (.int .u8 a0_0) := (blk_cell BK354.out 0).trans rfl
      have hcz32_1 : wc.cell? ⟨gb354, 1, none⟩ = some (.int .i64 a0_1) := (blk_cell BK354.out 1).trans rfl
      have hcz32_2 : wc.cell? ⟨gb354, 2, none⟩ = some (.string a0_2) := (blk_cell BK354.out 2).trans rfl
      have hfz32_0 := blk_frozen BK354.out 0
      have hfz32_1 := blk_frozen BK354.out 1
      have hfz32_2 := blk_frozen BK354.out 2
      have hnb33 := NB355_356.out
      have hnc33 := NB356_355.out
      have hcz34_0 : wc.cell? ⟨gb355, 0, none⟩ = some (.int .u8 a1_0) := (blk_cell BK355.out 0).trans rfl
      have hcz34_1 : wc.cell? ⟨gb355, 1, none⟩ = some (.int .i64 a1_1) := (blk_cell BK355.out 1).trans rfl
      have hcz34_2 : wc.cell? ⟨gb355, 2, none⟩ = some (.string a1_2) := (blk_cell BK355.out 2).trans rfl
      have hfz34_0 := blk_frozen BK355.out 0
      have hfz34_1 := blk_frozen BK355.out 1
      have hfz34_2 := blk_frozen BK355.out 2
      go_wp2
      go_meet
      case rel => exact ⟨_, ((a1_0 == 0)), (by first | rfl | (simp; done) | (simp [*]; done)), H', ⟨by have := HJ2.out; first | omega | exact Nat.le_refl _⟩, ⟨by (with_reducible repeat (first | refine bN37 ?_ _ | refine bD37 ?_ | refine bA37 ?_ _)); exact BK354.out⟩, ⟨by (with_reducible repeat (first | refine bN37 ?_ _ | refine bD37 ?_ | refine bA37 ?_ _)); exact BK355.out⟩, ⟨by (with_reducible repeat (first | refine bN37 ?_ _ | refine bD37 ?_ | refine bA37 ?_ _)); exact BK356.out⟩, ⟨by repeat (first | (with_reducible first | exact HB.out | apply below_alloc | apply pw_below_drewN | apply below_drew1 | refine bS37 ?_ GE354.out | refine bS37 ?_ GE355.out | refine bS37 ?_ GE356.out) | exact HB.out)⟩⟩
    case rest =>
     clear HC25
     try clear c1
     try clear c2
     try clear p2
     try clear c3
     try clear c8
     try clear c10
     try clear c11
     try clear c14
     try clear c17
     try clear c18
     try clear c21
     try clear c22
     try clear c23
     try clear c26
     try clear c26b0
     try clear c26b1
     try clear c27
     try clear c28
     try clear c30
     try clear c31
     try clear c33
     try clear hcz12_0
     try clear hcz12_1
     try clear hcz12_2
     try clear hcz15_0
     try clear hcz15_1
     try clear hcz15_2
     try clear hcz19_0
     try clear hcz19_1
     try clear hcz19_2
     try clear hcz24_0
     try clear hcz24_1
     try clear hcz24_2
     try clear hcz29_0
     try clear hcz29_1
     try clear hcz29_2
     try clear hcz32_0
     try clear hcz32_1
     try clear hcz32_2
     try clear hcz34_0
     try clear hcz34_1
     try clear hcz34_2
     try clear hfz12_0
     try clear hfz12_1
     try clear hfz12_2
     try clear hfz15_0
     try clear hfz15_1
     try clear hfz15_2
     try clear hfz19_0
     try clear hfz19_1
     try clear hfz19_2
     try clear hfz24_0
     try clear hfz24_1
     try clear hfz24_2
     try clear hfz29_0
     try clear hfz29_1
     try clear hfz29_2
     try clear hfz32_0
     try clear hfz32_1
     try clear hfz32_2
     try clear hfz34_0
     try clear hfz34_1
     try clear hfz34_2
     try clear p2
     obtain ⟨kq, x22_24, rfl, HA, HJ24, BK354, BK355, BK356, HB⟩ := hcut
     cases kq with
     | zero => exact absurd HA.out (by simp [hindsightref02_Join.j1])
     | succ kj24 =>
      have H := HA.out
      clear HA
      simp only [hindsightref02_Join.j1] at H
      by_cases c35 : x22_24 = true
      ·subst c35
       have H1 : (some (0, 0, (⟨#[]⟩ : ByteArray), 0)) = some (r1, r2, r3, r4) := by rw [if_pos rfl] at H; exact H
       clear H
       have H := H1
       clear H1
       simp only [Option.some.injEq, Prod.mk.injEq] at H
       obtain ⟨rfl, rfl, rfl, rfl⟩ := H
       have hnb36 := NB356_354.out
       have hnc36 := NB354_356.out
       have hnb37 := NB356_355.out
       have hnc37 := NB355_356.out
       have hcz38_0 : wc.cell? ⟨gb356, 0, none⟩ = some (.int .u8 0) := (blk_cell BK356.out 0).trans rfl
       have hcz38_1 : wc.cell? ⟨gb356, 1, none⟩ = some (.int .i64 0) := (blk_cell BK356.out 1).trans rfl
       have hcz38_2 : wc.cell? ⟨gb356, 2, none⟩ = some (.string (⟨#[]⟩ : ByteArray)) := (blk_cell BK356.out 2).trans rfl
       have hfz38_0 := blk_frozen BK356.out 0
       have hfz38_1 := blk_frozen BK356.out 1
       have hfz38_2 := blk_frozen BK356.out 2
       go_wp2
       refine bodyPost_ret (results_ct rfl _ _ gb356 35 #[.int .u8 0, .int .i64 0, .string (⟨#[]⟩ : ByteArray)] (0, 0) _ rfl (by (with_reducible repeat (first | refine bN37 ?_ _ | refine bD37 ?_ | refine bA37 ?_ _)); refine blk_put (cs := #[.int .u8 0, .int .i64 0, .string (⟨#[]⟩ : ByteArray)]) ?_ 2 _ rfl; (with_reducible repeat (first | refine bN37 ?_ _ | refine bD37 ?_ | refine bA37 ?_ _)); refine blk_put (cs := #[.int .u8 0, .int .i64 0, .string (⟨#[]⟩ : ByteArray)]) ?_ 1 _ rfl; (with_reducible repeat (first | refine bN37 ?_ _ | refine bD37 ?_ | refine bA37 ?_ _)); refine blk_put (cs := #[.int .u8 0, .int .i64 0, .string (⟨#[]⟩ : ByteArray)]) ?_ 0 _ rfl; (with_reducible repeat (first | refine bN37 ?_ _ | refine bD37 ?_ | refine bA37 ?_ _)); exact BK356.out) Try.underlying35 rfl (by kernel_rfl)) rfl ?_
       exact ⟨by first | rfl | (simp [errW_none, errW_some] <;> rfl) | (simp [*, errW_none, errW_some] <;> rfl), by repeat (first | (with_reducible first | exact HB.out | apply below_alloc | apply pw_below_drewN | apply below_drew1 | refine bS37 ?_ GE354.out | refine bS37 ?_ GE355.out | refine bS37 ?_ GE356.out) | exact HB.out)⟩
      ·replace c35 := Bool.eq_false_iff.mpr c35
       subst c35
       have H1 : (if a0_0 = 1 then (some (0, 0, (⟨#[]⟩ : ByteArray), 20)) else (if a0_0 = a1_0 then (if a0_2.size + a1_2.size ≤ 9223372036854775807 then (some (a0_0, 0, a0_2 ++ a1_2, 0)) else (none)) else (some (0, 0, (⟨#[]⟩ : ByteArray), 20)))) = some (r1, r2, r3, r4) := by rw [if_neg (show ¬ (false = true) by decide)] at H; exact H
       clear H
       have H := H1
       clear H1
       by_cases c39 : a0_0 = 1
       ·rw [if_pos c39] at H
        have c39b0 : (a0_0 == 1) = true := beq_iff_eq.mpr c39
        have c39b1 : (a0_0 != 1) = false := bne_eq_false_iff_eq.mpr c39
        clear c39
        simp only [Option.some.injEq, Prod.mk.injEq] at H
        obtain ⟨rfl, rfl, rfl, rfl⟩ := H
        have hnb40 := NB354_355.out
        have hnc40 := NB355_354.out
        have hnb41 := NB354_356.out
        have hnc41 := NB356_354.out
        have hcz42_0 : wc.cell? ⟨gb354, 0, none⟩ = some (.int .u8 a0_0) := (blk_cell BK354.out 0).trans rfl
        have hcz42_1 : wc.cell? ⟨gb354, 1, none⟩ = some (.int .i64 a0_1) := (blk_cell BK354.out 1).trans rfl
        have hcz42_2 : wc.cell? ⟨gb354, 2, none⟩ = some (.string a0_2) := (blk_cell BK354.out 2).trans rfl
        have hfz42_0 := blk_frozen BK354.out 0
        have hfz42_1 := blk_frozen BK354.out 1
        have hfz42_2 := blk_frozen BK354.out 2
        have hnb43 := NB356_355.out
        have hnc43 := NB355_356.out
        have hcz44_0 : wc.cell? ⟨gb356, 0, none⟩ = some (.int .u8 0) := (blk_cell BK356.out 0).trans rfl
        have hcz44_1 : wc.cell? ⟨gb356, 1, none⟩ = some (.int .i64 0) := (blk_cell BK356.out 1).trans rfl
        have hcz44_2 : wc.cell? ⟨gb356, 2, none⟩ = some (.string (⟨#[]⟩ : ByteArray)) := (blk_cell BK356.out 2).trans rfl
        have hfz44_0 := blk_frozen BK356.out 0
        have hfz44_1 := blk_frozen BK356.out 1
        have hfz44_2 := blk_frozen BK356.out 2
        go_wp2
        refine bodyPost_ret (results_ct rfl _ _ gb356 35 #[.int .u8 0, .int .i64 0, .string (⟨#[]⟩ : ByteArray)] (0, 0) _ rfl (by (with_reducible repeat (first | refine bN37 ?_ _ | refine bD37 ?_ | refine bA37 ?_ _)); refine blk_put (cs := #[.int .u8 0, .int .i64 0, .string (⟨#[]⟩ : ByteArray)]) ?_ 2 _ rfl; (with_reducible repeat (first | refine bN37 ?_ _ | refine bD37 ?_ | refine bA37 ?_ _)); refine blk_put (cs := #[.int .u8 0, .int .i64 0, .string (⟨#[]⟩ : ByteArray)]) ?_ 1 _ rfl; (with_reducible repeat (first | refine bN37 ?_ _ | refine bD37 ?_ | refine bA37 ?_ _)); refine blk_put (cs := #[.int .u8 0, .int .i64 0, .string (⟨#[]⟩ : ByteArray)]) ?_ 0 _ rfl; (with_reducible repeat (first | refine bN37 ?_ _ | refine bD37 ?_ | refine bA37 ?_ _)); exact BK356.out) Try.underlying35 rfl (by kernel_rfl)) rfl ?_
        exact ⟨by first | rfl | (simp [errW_none, errW_some] <;> rfl) | (simp [*, errW_none, errW_some] <;> rfl), by repeat (first | (with_reducible first | exact HB.out | apply below_alloc | apply pw_below_drewN | apply below_drew1 | refine bS37 ?_ GE354.out | refine bS37 ?_ GE355.out | refine bS37 ?_ GE356.out) | exact HB.out)⟩
       ·rw [if_neg c39] at H
        have c39b0 : (a0_0 == 1) = false := beq_eq_false_iff_ne.mpr c39
        have c39b1 : (a0_0 != 1) = true := bne_iff_ne.mpr c39
        by_cases c45 : a0_0 = a1_0
        ·rw [if_pos c45] at H
         have c45b0 : (a0_0 == a1_0) = true := beq_iff_eq.mpr c45
         have c45b1 : (a0_0 != a1_0) = false := bne_eq_false_iff_eq.mpr c45
         clear c45
         by_cases c46 : a0_2.size + a1_2.size ≤ 9223372036854775807
         ·rw [if_pos c46] at H
          have c46b0 := eq_true c46
          have c46b1 : decide (a0_2.size + a1_2.size ≤ 9223372036854775807) = true := decide_eq_true c46
          try have c46b2 : (9223372036854775807 < a0_2.size + a1_2.size) = False := eq_false (Nat.not_lt.2 c46)
          simp only [Option.some.injEq, Prod.mk.injEq] at H
          obtain ⟨rfl, rfl, rfl, rfl⟩ := H
          have hnb47 := NB354_355.out
          have hnc47 := NB355_354.out
          have hnb48 := NB354_356.out
          have hnc48 := NB356_354.out
          have hcz49_0 : wc.cell? ⟨gb354, 0, none⟩ = some (.int .u8 a0_0) := (blk_cell BK354.out 0).trans rfl
          have hcz49_1 : wc.cell? ⟨gb354, 1, none⟩ = some (.int .i64 a0_1) := (blk_cell BK354.out 1).trans rfl
          have hcz49_2 : wc.cell? ⟨gb354, 2, none⟩ = some (.string a0_2) := (blk_cell BK354.out 2).trans rfl
          have hfz49_0 := blk_frozen BK354.out 0
          have hfz49_1 := blk_frozen BK354.out 1
          have hfz49_2 := blk_frozen BK354.out 2
          have hnb50 := NB355_356.out
          have hnc50 := NB356_355.out
          have hcz51_0 : wc.cell? ⟨gb355, 0, none⟩ = some (.int .u8 a1_0) := (blk_cell BK355.out 0).trans rfl
          have hcz51_1 : wc.cell? ⟨gb355, 1, none⟩ = some (.int .i64 a1_1) := (blk_cell BK355.out 1).trans rfl
          have hcz51_2 : wc.cell? ⟨gb355, 2, none⟩ = some (.string a1_2) := (blk_cell BK355.out 2).trans rfl
          have hfz51_0 := blk_frozen BK355.out 0
          have hfz51_1 := blk_frozen BK355.out 1
          have hfz51_2 := blk_frozen BK355.out 2
          have hcz52_0 : wc.cell? ⟨gb356, 0, none⟩ = some (.int .u8 0) := (blk_cell BK356.out 0).trans rfl
          have hcz52_1 : wc.cell? ⟨gb356, 1, none⟩ = some (.int .i64 0) := (blk_cell BK356.out 1).trans rfl
          have hcz52_2 : wc.cell? ⟨gb356, 2, none⟩ = some (.string (⟨#[]⟩ : ByteArray)) := (blk_cell BK356.out 2).trans rfl
          have hfz52_0 := blk_frozen BK356.out 0
          have hfz52_1 := blk_frozen BK356.out 1
          have hfz52_2 := blk_frozen BK356.out 2
          go_wp2
          refine bodyPost_ret (results_ct rfl _ _ gb356 35 #[.int .u8 a0_0, .int .i64 0, .string (a0_2 ++ a1_2)] (0, 0) _ rfl (by (with_reducible repeat (first | refine bN37 ?_ _ | refine bD37 ?_ | refine bA37 ?_ _)); refine blk_put (cs := #[.int .u8 a0_0, .int .i64 0, .string (⟨#[]⟩ : ByteArray)]) ?_ 2 _ rfl; (with_reducible repeat (first | refine bN37 ?_ _ | refine bD37 ?_ | refine bA37 ?_ _)); refine blk_put (cs := #[.int .u8 a0_0, .int .i64 0, .string (⟨#[]⟩ : ByteArray)]) ?_ 1 _ rfl; (with_reducible repeat (first | refine bN37 ?_ _ | refine bD37 ?_ | refine bA37 ?_ _)); refine blk_put (cs := #[.int .u8 0, .int .i64 0, .string (⟨#[]⟩ : ByteArray)]) ?_ 0 _ rfl; (with_reducible repeat (first | refine bN37 ?_ _ | refine bD37 ?_ | refine bA37 ?_ _)); exact BK356.out) Try.underlying35 rfl (by kernel_rfl)) rfl ?_
          exact ⟨by first | rfl | (simp [errW_none, errW_some] <;> rfl) | (simp [*, errW_none, errW_some] <;> rfl), by repeat (first | (with_reducible first | exact HB.out | apply below_alloc | apply pw_below_drewN | apply below_drew1 | refine bS37 ?_ GE354.out | refine bS37 ?_ GE355.out | refine bS37 ?_ GE356.out) | exact HB.out)⟩
         ·rw [if_neg c46] at H
          exact absurd H (by simp)
        ·rw [if_neg c45] at H
         have c45b0 : (a0_0 == a1_0) = false := beq_eq_false_iff_ne.mpr c45
         have c45b1 : (a0_0 != a1_0) = true := bne_iff_ne.mpr c45
         simp only [Option.some.injEq, Prod.mk.injEq] at H
         obtain ⟨rfl, rfl, rfl, rfl⟩ := H
         have hnb53 := NB354_355.out
         have hnc53 := NB355_354.out
         have hnb54 := NB354_356.out
         have hnc54 := NB356_354.out
         have hcz55_0 : wc.cell? ⟨gb354, 0, none⟩ = some (.int .u8 a0_0) := (blk_cell BK354.out 0).trans rfl
         have hcz55_1 : wc.cell? ⟨gb354, 1, none⟩ = some (.int .i64 a0_1) := (blk_cell BK354.out 1).trans rfl
         have hcz55_2 : wc.cell? ⟨gb354, 2, none⟩ = some (.string a0_2) := (blk_cell BK354.out 2).trans rfl
         have hfz55_0 := blk_frozen BK354.out 0
         have hfz55_1 := blk_frozen BK354.out 1
         have hfz55_2 := blk_frozen BK354.out 2
         have hnb56 := NB355_356.out
         have hnc56 := NB356_355.out
         have hcz57_0 : wc.cell? ⟨gb355, 0, none⟩ = some (.int .u8 a1_0) := (blk_cell BK355.out 0).trans rfl
         have hcz57_1 : wc.cell? ⟨gb355, 1, none⟩ = some (.int .i64 a1_1) := (blk_cell BK355.out 1).trans rfl
         have hcz57_2 : wc.cell? ⟨gb355, 2, none⟩ = some (.string a1_2) := (blk_cell BK355.out 2).trans rfl
         have hfz57_0 := blk_frozen BK355.out 0
         have hfz57_1 := blk_frozen BK355.out 1
         have hfz57_2 := blk_frozen BK355.out 2
         have hcz58_0 : wc.cell? ⟨gb356, 0, none⟩ = some (.int .u8 0) := (blk_cell BK356.out 0).trans rfl
         have hcz58_1 : wc.cell? ⟨gb356, 1, none⟩ = some (.int .i64 0) := (blk_cell BK356.out 1).trans rfl
         have hcz58_2 : wc.cell? ⟨gb356, 2, none⟩ = some (.string (⟨#[]⟩ : ByteArray)) := (blk_cell BK356.out 2).trans rfl
         have hfz58_0 := blk_frozen BK356.out 0
         have hfz58_1 := blk_frozen BK356.out 1
         have hfz58_2 := blk_frozen BK356.out 2
         go_wp2
         refine bodyPost_ret (results_ct rfl _ _ gb356 35 #[.int .u8 0, .int .i64 0, .string (⟨#[]⟩ : ByteArray)] (0, 0) _ rfl (by (with_reducible repeat (first | refine bN37 ?_ _ | refine bD37 ?_ | refine bA37 ?_ _)); refine blk_put (cs := #[.int .u8 0, .int .i64 0, .string (⟨#[]⟩ : ByteArray)]) ?_ 2 _ rfl; (with_reducible repeat (first | refine bN37 ?_ _ | refine bD37 ?_ | refine bA37 ?_ _)); refine blk_put (cs := #[.int .u8 0, .int .i64 0, .string (⟨#[]⟩ : ByteArray)]) ?_ 1 _ rfl; (with_reducible repeat (first | refine bN37 ?_ _ | refine bD37 ?_ | refine bA37 ?_ _)); refine blk_put (cs := #[.int .u8 0, .int .i64 0, .string (⟨#[]⟩ : ByteArray)]) ?_ 0 _ rfl; (with_reducible repeat (first | refine bN37 ?_ _ | refine bD37 ?_ | refine bA37 ?_ _)); exact BK356.out) Try.underlying35 rfl (by kernel_rfl)) rfl ?_
         exact ⟨by first | rfl | (simp [errW_none, errW_some] <;> rfl) | (simp [*, errW_none, errW_some] <;> rfl), by repeat (first | (with_reducible first | exact HB.out | apply below_alloc | apply pw_below_drewN | apply below_drew1 | refine bS37 ?_ GE354.out | refine bS37 ?_ GE355.out | refine bS37 ?_ GE356.out) | exact HB.out)⟩

end Go.Proofs.Ytefpnnljflcmbaa.PCe
