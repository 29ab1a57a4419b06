-- Written by a program of this session (wip/tool), which goes by the kit's print.
import Derived.Test.YtefpnnljflcmbaaPCex0
import Derived.Test.YtefpnnljflcmbaaPCex2
namespace Go.Proofs.Ytefpnnljflcmbaa.PCe
open Go.RowKit Go.Proofs.YtefpnnljflcmbaaW.PrintWords Go.Proofs.YtefpnnljflcmbaaW.PrintLast Go.Proofs.YtefpnnljflcmbaaW.PrintMore
attribute [local go_sem] max2_int min2_int max_two min_two max_three min_three max_four min_four   -- for this text's walks alone
set_option linter.unusedVariables false
set_option linter.unusedSimpArgs false

/-! ### cell_Join: function 36 -/
theorem bN36 : type_of% @blk_drewN := @blk_drewN
theorem bD36 : type_of% @blk_drew := @blk_drew
theorem bA36 : type_of% @blk_alloc := @blk_alloc
theorem bS36 : type_of% @below_set := @below_set
theorem aM36 : type_of% @Aside0.mk := @Aside0.mk
mutual
def cell_Join.j0 : Nat → Bool → Int → Int → ByteArray → Int → Int → ByteArray → Option (Int × Int × ByteArray × Int)
 | 0, _, _, _, _, _, _, _ => none
 | k + 1, x6, x350000, x350001, x350002, x351000, x351001, x351002 => if x6 = true then (some (0, 0, (⟨#[]⟩ : ByteArray), 3)) else (if x350000 = 0 then (cell_Join.j1 k true x350000 x350001 x350002 x351000 x351001 x351002) else (cell_Join.j1 k (x351000 == 0) x350000 x350001 x350002 x351000 x351001 x351002))
def cell_Join.j1 : Nat → Bool → Int → Int → ByteArray → Int → Int → ByteArray → Option (Int × Int × ByteArray × Int)
 | 0, _, _, _, _, _, _, _ => none
 | k + 1, x16, x350000, x350001, x350002, x351000, x351001, x351002 => if x16 = true then (some (0, 0, (⟨#[]⟩ : ByteArray), 0)) else (if x350000 = x351000 then (if x350000 = 1 then (some (0, 0, (⟨#[]⟩ : ByteArray), 20)) else (if x350002.size + x351002.size ≤ 9223372036854775807 then (some (x350000, 0, x350002 ++ x351002, 0)) else (none))) else (some (0, 0, (⟨#[]⟩ : ByteArray), 20)))
end
def cell_Join.f (k : Nat) (a0_0 : Int) (a0_1 : Int) (a0_2 : ByteArray) (a1_0 : Int) (a1_1 : Int) (a1_2 : ByteArray) : Option (Int × Int × ByteArray × Int) := (cell_Right.f a0_0 a0_1 a0_2).bind fun t352 => (if t352 = true then ((cell_Right.f a1_0 a1_1 a1_2).bind fun t353 => (cell_Join.j0 k (!t353) a0_0 a0_1 a0_2 a1_0 a1_1 a1_2)) else (cell_Join.j0 k true a0_0 a0_1 a0_2 a1_0 a1_1 a1_2))
theorem cell_Join.mono_l : ∀ k, (∀ y0 y1 y2 y3 y4 y5 y6, LeO (cell_Join.j0 k y0 y1 y2 y3 y4 y5 y6) (cell_Join.j0 (k + 1) y0 y1 y2 y3 y4 y5 y6)) ∧ (∀ y0 y1 y2 y3 y4 y5 y6, LeO (cell_Join.j1 k y0 y1 y2 y3 y4 y5 y6) (cell_Join.j1 (k + 1) y0 y1 y2 y3 y4 y5 y6))
 | 0 => ⟨fun _ _ _ _ _ _ _ r h => by simp [cell_Join.j0] at h, fun _ _ _ _ _ _ _ r h => by simp [cell_Join.j1] at h⟩
 | k + 1 => by
  obtain ⟨ih0, ih1⟩ := cell_Join.mono_l k
  refine ⟨?_, ?_⟩
  ·intro y0 y1 y2 y3 y4 y5 y6
   unfold cell_Join.j0
   repeat' first
   | (with_reducible exact ih0 _ _ _ _ _ _ _)
   | (with_reducible exact ih1 _ _ _ _ _ _ _)
   | (with_reducible exact LeO.refl _)
   | (with_reducible exact LeO.none _)
   | (with_reducible refine LeO.ite ?_ ?_)
   | (with_reducible refine LeO.bind ?_ (fun _ => ?_))
   | exact ih0 _ _ _ _ _ _ _
   | exact ih1 _ _ _ _ _ _ _
   | exact LeO.none _
   | refine LeO.ite ?_ ?_
   | refine LeO.bind ?_ (fun _ => ?_)
  ·intro y0 y1 y2 y3 y4 y5 y6
   unfold cell_Join.j1
   repeat' first
   | (with_reducible exact ih0 _ _ _ _ _ _ _)
   | (with_reducible exact ih1 _ _ _ _ _ _ _)
   | (with_reducible exact LeO.refl _)
   | (with_reducible exact LeO.none _)
   | (with_reducible refine LeO.ite ?_ ?_)
   | (with_reducible refine LeO.bind ?_ (fun _ => ?_))
   | exact ih0 _ _ _ _ _ _ _
   | exact ih1 _ _ _ _ _ _ _
   | exact LeO.none _
   | refine LeO.ite ?_ ?_
   | refine LeO.bind ?_ (fun _ => ?_)
theorem cell_Join.mono : ∀ a0 a1 a2 a3 a4 a5 k, LeO (cell_Join.f k a0 a1 a2 a3 a4 a5) (cell_Join.f (k + 1) a0 a1 a2 a3 a4 a5) := by
 intro a0 a1 a2 a3 a4 a5 k
 obtain ⟨ih0, ih1⟩ := cell_Join.mono_l k
 unfold cell_Join.f
 repeat' first
   | (with_reducible exact ih0 _ _ _ _ _ _ _)
   | (with_reducible exact ih1 _ _ _ _ _ _ _)
   | (with_reducible exact LeO.refl _)
   | (with_reducible exact LeO.none _)
   | (with_reducible refine LeO.ite ?_ ?_)
   | (with_reducible refine LeO.bind ?_ (fun _ => ?_))
   | exact ih0 _ _ _ _ _ _ _
   | exact ih1 _ _ _ _ _ _ _
   | exact LeO.none _
   | refine LeO.ite ?_ ?_
   | refine LeO.bind ?_ (fun _ => ?_)
set_option maxHeartbeats 8000000 in
set_option maxRecDepth 100000 in
theorem cell_Join.calls (k : Nat) (a0_0 : Int) (a0_1 : Int) (a0_2 : ByteArray) (a1_0 : Int) (a1_1 : Int) (a1_2 : ByteArray) (r1 : Int) (r2 : Int) (r3 : ByteArray) (r4 : Int) (w : World) (h : cell_Join.f k a0_0 a0_1 a0_2 a1_0 a1_1 a1_2 = some (r1, r2, r3, r4)) :
  Calls Try.prog 36 #[.agg #[.int .u8 a0_0, .int .i64 a0_1, .string a0_2], .agg #[.int .u8 a1_0, .int .i64 a1_1, .string a1_2]] w fun e w' => e = .returned (.tuple #[.agg #[.int .u8 r1, .int .i64 r2, .string r3], .int .i64 r4]) ∧ Below w.heap.size w w' := by
 have hu35 := Try.underlying35
 have HB := aM36 (Below.refl w.heap.size w)
 have H : ((cell_Right.f a0_0 a0_1 a0_2).bind fun t352 => (if t352 = true then ((cell_Right.f a1_0 a1_1 a1_2).bind fun t353 => (cell_Join.j0 k (!t353) a0_0 a0_1 a0_2 a1_0 a1_1 a1_2)) else (cell_Join.j0 k true a0_0 a0_1 a0_2 a1_0 a1_1 a1_2))) = some (r1, r2, r3, r4) := h
 clear h
 have HC3 := aM36 H
 clear H
 go_enter Try.func36, Try.ntmps36
 go_upto_region 1 with (first | ((with_reducible refine gate_dst (N := 2) rfl ?_); refine box_event ?hg (N := 2) ?hd (cs := #[.int .u8 a0_0, .int .i64 a0_1, .string a0_2]) (t := 35) ?hr ?_; (case hd => rfl); (case hg => rfl); (case hr => first | (go_simp; done) | (go_simp; rfl)); intro gb349 hg w4 hbox hb; have n0_ := aM36 (below_step (by repeat (first | (with_reducible first | exact HB.out | apply below_alloc | apply pw_below_drewN | apply below_drew1) | exact HB.out)) hb); have n1_ := aM36 (hbox); have n2_ := aM36 ((by rw [hg]; exact (below_size (by repeat (first | (with_reducible first | exact HB.out | apply below_alloc | apply pw_below_drewN | apply below_drew1) | exact HB.out))) : w.heap.size ≤ gb349)); have n3_ := aM36 ((by rw [hg]; exact (below_size (by repeat (first | (with_reducible first | exact HB.out | apply below_alloc | apply pw_below_drewN | apply below_drew1) | exact HB.out))) : w.heap.size ≤ gb349)); clear HB; have HB := n0_; have BK349 := n1_; have GW349 := n2_; have GE349 := n3_; clear n0_ n1_ n2_ n3_; clear hb hbox hg) | ((with_reducible refine gate_dst (N := 3) rfl ?_); refine box_event ?hg (N := 3) ?hd (cs := #[.int .u8 a1_0, .int .i64 a1_1, .string a1_2]) (t := 35) ?hr ?_; (case hd => rfl); (case hg => rfl); (case hr => first | (go_simp; done) | (go_simp; rfl)); intro gb350 hg w5 hbox hb; have n0_ := aM36 (blk_below (g := gb349) (o := .cells #[.int .u8 a0_0, .int .i64 a0_1, .string a0_2] 35 (0, 0)) (by (with_reducible repeat (first | refine bN36 ?_ _ | refine bD36 ?_ | refine bA36 ?_ _)); exact BK349.out) hb); have n1_ := aM36 (below_step (by repeat (first | (with_reducible first | exact HB.out | apply below_alloc | apply pw_below_drewN | apply below_drew1 | refine bS36 ?_ GE349.out) | exact HB.out)) hb); have n2_ := aM36 (hbox); have n3_ := aM36 ((by rw [hg]; exact (below_size (by repeat (first | (with_reducible first | exact HB.out | apply below_alloc | apply pw_below_drewN | apply below_drew1 | refine bS36 ?_ GE349.out) | exact HB.out))) : w.heap.size ≤ gb350)); have n4_ := aM36 ((by rw [hg]; exact (below_size (by repeat (first | (with_reducible first | exact HB.out | apply below_alloc | apply pw_below_drewN | apply below_drew1 | refine bS36 ?_ GE349.out) | exact HB.out))) : w.heap.size ≤ gb350)); have n5_ := aM36 ((by rw [hg]; exact Nat.ne_of_lt (blk_lt (g := gb349) (o := .cells #[.int .u8 a0_0, .int .i64 a0_1, .string a0_2] 35 (0, 0)) (by (with_reducible repeat (first | refine bN36 ?_ _ | refine bD36 ?_ | refine bA36 ?_ _)); exact BK349.out)) : gb349 ≠ gb350)); have n6_ := aM36 ((by rw [hg]; exact Nat.ne_of_gt (blk_lt (g := gb349) (o := .cells #[.int .u8 a0_0, .int .i64 a0_1, .string a0_2] 35 (0, 0)) (by (with_reducible repeat (first | refine bN36 ?_ _ | refine bD36 ?_ | refine bA36 ?_ _)); exact BK349.out)) : gb350 ≠ gb349)); clear BK349; clear HB; have BK349 := n0_; have HB := n1_; have BK350 := n2_; have GW350 := n3_; have GE350 := n4_; have NB349_350 := n5_; have NB350_349 := n6_; clear n0_ n1_ n2_ n3_ n4_ n5_ n6_; clear hb hbox hg) | ((with_reducible refine gate_dst (N := 4) rfl ?_); refine box_event ?hg (N := 4) ?hd (cs := #[.int .u8 0, .int .i64 0, .string (⟨#[]⟩ : ByteArray)]) (t := 35) ?hr ?_; (case hd => rfl); (case hg => rfl); (case hr => first | (go_simp; done) | (go_simp; rfl)); intro gb351 hg w6 hbox hb; have n0_ := aM36 (blk_below (g := gb349) (o := .cells #[.int .u8 a0_0, .int .i64 a0_1, .string a0_2] 35 (0, 0)) (by (with_reducible repeat (first | refine bN36 ?_ _ | refine bD36 ?_ | refine bA36 ?_ _)); exact BK349.out) hb); have n1_ := aM36 (blk_below (g := gb350) (o := .cells #[.int .u8 a1_0, .int .i64 a1_1, .string a1_2] 35 (0, 0)) (by (with_reducible repeat (first | refine bN36 ?_ _ | refine bD36 ?_ | refine bA36 ?_ _)); exact BK350.out) hb); have n2_ := aM36 (below_step (by repeat (first | (with_reducible first | exact HB.out | apply below_alloc | apply pw_below_drewN | apply below_drew1 | refine bS36 ?_ GE349.out | refine bS36 ?_ GE350.out) | exact HB.out)) hb); have n3_ := aM36 (hbox); have n4_ := aM36 ((by rw [hg]; exact (below_size (by repeat (first | (with_reducible first | exact HB.out | apply below_alloc | apply pw_below_drewN | apply below_drew1 | refine bS36 ?_ GE349.out | refine bS36 ?_ GE350.out) | exact HB.out))) : w.heap.size ≤ gb351)); have n5_ := aM36 ((by rw [hg]; exact (below_size (by repeat (first | (with_reducible first | exact HB.out | apply below_alloc | apply pw_below_drewN | apply below_drew1 | refine bS36 ?_ GE349.out | refine bS36 ?_ GE350.out) | exact HB.out))) : w.heap.size ≤ gb351)); have n6_ := aM36 ((by rw [hg]; exact Nat.ne_of_lt (blk_lt (g := gb349) (o := .cells #[.int .u8 a0_0, .int .i64 a0_1, .string a0_2] 35 (0, 0)) (by (with_reducible repeat (first | refine bN36 ?_ _ | refine bD36 ?_ | refine bA36 ?_ _)); exact BK349.out)) : gb349 ≠ gb351)); have n7_ := aM36 ((by rw [hg]; exact Nat.ne_of_gt (blk_lt (g := gb349) (o := .cells #[.int .u8 a0_0, .int .i64 a0_1, .string a0_2] 35 (0, 0)) (by (with_reducible repeat (first | refine bN36 ?_ _ | refine bD36 ?_ | refine bA36 ?_ _)); exact BK349.out)) : gb351 ≠ gb349)); have n8_ := aM36 ((by rw [hg]; exact Nat.ne_of_lt (blk_lt (g := gb350) (o := .cells #[.int .u8 a1_0, .int .i64 a1_1, .string a1_2] 35 (0, 0)) (by (with_reducible repeat (first | refine bN36 ?_ _ | refine bD36 ?_ | refine bA36 ?_ _)); exact BK350.out)) : gb350 ≠ gb351)); have n9_ := aM36 ((by rw [hg]; exact Nat.ne_of_gt (blk_lt (g := gb350) (o := .cells #[.int .u8 a1_0, .int .i64 a1_1, .string a1_2] 35 (0, 0)) (by (with_reducible repeat (first | refine bN36 ?_ _ | refine bD36 ?_ | refine bA36 ?_ _)); exact BK350.out)) : gb351 ≠ gb350)); clear BK349; clear BK350; clear HB; have BK349 := n0_; have BK350 := n1_; have HB := n2_; have BK351 := n3_; have GW351 := n4_; have GE351 := n5_; have NB349_351 := n6_; have NB351_349 := n7_; have NB350_351 := n8_; have NB351_350 := n9_; clear n0_ n1_ n2_ n3_ n4_ n5_ n6_ n7_ n8_ n9_; clear hb hbox hg))
 (try simp only [Act.put, List.setIfInBounds_toArray, List.set_cons_zero, List.set_cons_succ])
 go_cut [6] (fun v6 wc => ∃ (kq : Nat) (x6_2 : Bool), v6 = .bool x6_2 ∧ Aside0 (cell_Join.j0 kq x6_2 a0_0 a0_1 a0_2 a1_0 a1_1 a1_2 = some (r1, r2, r3, r4)) ∧ Aside0 (kq ≤ k) ∧ Aside0 (wc.heap[gb349]? = some (.cells #[.int .u8 a0_0, .int .i64 a0_1, .string a0_2] 35 (0, 0))) ∧ Aside0 (wc.heap[gb350]? = some (.cells #[.int .u8 a1_0, .int .i64 a1_1, .string a1_2] 35 (0, 0))) ∧ Aside0 (wc.heap[gb351]? = some (.cells #[.int .u8 0, .int .i64 0, .string (⟨#[]⟩ : ByteArray)] 35 (0, 0))) ∧ Aside0 (Below w.heap.size w wc))
 case first =>
  have H := HC3.out
  clear HC3
  replace H := Option.bind_eq_some_iff.mp H
  obtain ⟨t352, A70, H⟩ := H
  replace H : (if t352 = true then ((cell_Right.f a1_0 a1_1 a1_2).bind fun t353 => (cell_Join.j0 k (!t353) a0_0 a0_1 a0_2 a1_0 a1_1 a1_2)) else (cell_Join.j0 k true a0_0 a0_1 a0_2 a1_0 a1_1 a1_2)) = some (r1, r2, r3, r4) := H
  have A7 := aM36 A70
  clear A70
  by_cases c8 : t352 = true
  ·subst c8
   have H1 : ((cell_Right.f a1_0 a1_1 a1_2).bind fun t353 => (cell_Join.j0 k (!t353) a0_0 a0_1 a0_2 a1_0 a1_1 a1_2)) = some (r1, r2, r3, r4) := by rw [if_pos rfl] at H; exact H
   clear H
   have H := H1
   clear H1
   replace H := Option.bind_eq_some_iff.mp H
   obtain ⟨t353, A90, H⟩ := H
   replace H : (cell_Join.j0 k (!t353) a0_0 a0_1 a0_2 a1_0 a1_1 a1_2) = some (r1, r2, r3, r4) := H
   have A9 := aM36 A90
   clear A90
   have H' := aM36 H
   clear H
   have hnb10 := NB349_350.out
   have hnc10 := NB350_349.out
   have hnb11 := NB349_351.out
   have hnc11 := NB351_349.out
   have hcz12_0 : w6.cell? ⟨gb349, 0, none⟩ = some (.int .u8 a0_0) := (blk_cell BK349.out 0).trans rfl
   have hcz12_1 : w6.cell? ⟨gb349, 1, none⟩ = some (.int .i64 a0_1) := (blk_cell BK349.out 1).trans rfl
   have hcz12_2 : w6.cell? ⟨gb349, 2, none⟩ = some (.string a0_2) := (blk_cell BK349.out 2).trans rfl
   have hfz12_0 := blk_frozen BK349.out 0
   have hfz12_1 := blk_frozen BK349.out 1
   have hfz12_2 := blk_frozen BK349.out 2
   go_wp2_with (first | ((with_reducible refine gate_callee (f := 27) rfl ?_); refine goesL_ (some 8) rfl rfl Try.func27 (by kernel_rfl) rfl #[.agg #[.int .u8 a0_0, .int .i64 a0_1, .string a0_2]] rfl (by (try simp only [List.map_toArray, List.map_cons, List.map_nil]); first | done | rfl | (simp only [List.length_drop, List.length_take]; rfl)) ?_; (with_reducible refine (cell_Right.calls a0_0 a0_1 a0_2 true _ A7.out).mono ?_); rintro e w13 ⟨rfl, hb⟩; refine ⟨_, rfl, ?_⟩; have n0_ := aM36 (blk_below (g := gb349) (o := .cells #[.int .u8 a0_0, .int .i64 a0_1, .string a0_2] 35 (0, 0)) (by (with_reducible repeat (first | refine bN36 ?_ _ | refine bD36 ?_ | refine bA36 ?_ _)); exact BK349.out) hb); have n1_ := aM36 (blk_below (g := gb350) (o := .cells #[.int .u8 a1_0, .int .i64 a1_1, .string a1_2] 35 (0, 0)) (by (with_reducible repeat (first | refine bN36 ?_ _ | refine bD36 ?_ | refine bA36 ?_ _)); exact BK350.out) hb); have n2_ := aM36 (blk_below (g := gb351) (o := .cells #[.int .u8 0, .int .i64 0, .string (⟨#[]⟩ : ByteArray)] 35 (0, 0)) (by (with_reducible repeat (first | refine bN36 ?_ _ | refine bD36 ?_ | refine bA36 ?_ _)); exact BK351.out) hb); have n3_ := aM36 (below_step (by repeat (first | (with_reducible first | exact HB.out | apply below_alloc | apply pw_below_drewN | apply below_drew1 | refine bS36 ?_ GE349.out | refine bS36 ?_ GE350.out | refine bS36 ?_ GE351.out) | exact HB.out)) hb); clear BK349; clear BK350; clear BK351; clear HB; have BK349 := n0_; have BK350 := n1_; have BK351 := n2_; have HB := n3_; clear n0_ n1_ n2_ n3_; (try clear hb); (try clear hb2); (try clear hk); (try clear hi); have hnb14 := NB350_351.out; have hnc14 := NB351_350.out; have hcz15_0 : w13.cell? ⟨gb350, 0, none⟩ = some (.int .u8 a1_0) := (blk_cell BK350.out 0).trans rfl; have hcz15_1 : w13.cell? ⟨gb350, 1, none⟩ = some (.int .i64 a1_1) := (blk_cell BK350.out 1).trans rfl; have hcz15_2 : w13.cell? ⟨gb350, 2, none⟩ = some (.string a1_2) := (blk_cell BK350.out 2).trans rfl; have hfz15_0 := blk_frozen BK350.out 0; have hfz15_1 := blk_frozen BK350.out 1; have hfz15_2 := blk_frozen BK350.out 2) | (go_at_call 27; (with_reducible refine (cell_Right.calls a1_0 a1_1 a1_2 t353 _ A9.out).mono ?_); rintro e w16 ⟨rfl, hb⟩; have n0_ := aM36 (blk_below (g := gb349) (o := .cells #[.int .u8 a0_0, .int .i64 a0_1, .string a0_2] 35 (0, 0)) (by (with_reducible repeat (first | refine bN36 ?_ _ | refine bD36 ?_ | refine bA36 ?_ _)); exact BK349.out) hb); have n1_ := aM36 (blk_below (g := gb350) (o := .cells #[.int .u8 a1_0, .int .i64 a1_1, .string a1_2] 35 (0, 0)) (by (with_reducible repeat (first | refine bN36 ?_ _ | refine bD36 ?_ | refine bA36 ?_ _)); exact BK350.out) hb); have n2_ := aM36 (blk_below (g := gb351) (o := .cells #[.int .u8 0, .int .i64 0, .string (⟨#[]⟩ : ByteArray)] 35 (0, 0)) (by (with_reducible repeat (first | refine bN36 ?_ _ | refine bD36 ?_ | refine bA36 ?_ _)); exact BK351.out) hb); have n3_ := aM36 (below_step (by repeat (first | (with_reducible first | exact HB.out | apply below_alloc | apply pw_below_drewN | apply below_drew1 | refine bS36 ?_ GE349.out | refine bS36 ?_ GE350.out | refine bS36 ?_ GE351.out) | exact HB.out)) hb); clear BK349; clear BK350; clear BK351; clear HB; have BK349 := n0_; have BK350 := n1_; have BK351 := n2_; have HB := n3_; clear n0_ n1_ n2_ n3_; (try clear hb); (try clear hb2); (try clear hk); (try clear hi)))
   go_meet
   case rel => exact ⟨_, (!t353), (by first | rfl | (simp; done) | (simp [*]; done)), H', ⟨by first | omega | exact Nat.le_refl _⟩, ⟨by (with_reducible repeat (first | refine bN36 ?_ _ | refine bD36 ?_ | refine bA36 ?_ _)); exact BK349.out⟩, ⟨by (with_reducible repeat (first | refine bN36 ?_ _ | refine bD36 ?_ | refine bA36 ?_ _)); exact BK350.out⟩, ⟨by (with_reducible repeat (first | refine bN36 ?_ _ | refine bD36 ?_ | refine bA36 ?_ _)); exact BK351.out⟩, ⟨by repeat (first | (with_reducible first | exact HB.out | apply below_alloc | apply pw_below_drewN | apply below_drew1 | refine bS36 ?_ GE349.out | refine bS36 ?_ GE350.out | refine bS36 ?_ GE351.out) | exact HB.out)⟩⟩
  ·replace c8 := Bool.eq_false_iff.mpr c8
   subst c8
   have H1 : (cell_Join.j0 k true a0_0 a0_1 a0_2 a1_0 a1_1 a1_2) = some (r1, r2, r3, r4) := by rw [if_neg (show ¬ (false = true) by decide)] at H; exact H
   clear H
   have H := H1
   clear H1
   have H' := aM36 H
   clear H
   have hnb17 := NB349_350.out
   have hnc17 := NB350_349.out
   have hnb18 := NB349_351.out
   have hnc18 := NB351_349.out
   have hcz19_0 : w6.cell? ⟨gb349, 0, none⟩ = some (.int .u8 a0_0) := (blk_cell BK349.out 0).trans rfl
   have hcz19_1 : w6.cell? ⟨gb349, 1, none⟩ = some (.int .i64 a0_1) := (blk_cell BK349.out 1).trans rfl
   have hcz19_2 : w6.cell? ⟨gb349, 2, none⟩ = some (.string a0_2) := (blk_cell BK349.out 2).trans rfl
   have hfz19_0 := blk_frozen BK349.out 0
   have hfz19_1 := blk_frozen BK349.out 1
   have hfz19_2 := blk_frozen BK349.out 2
   go_wp2_with (first | ((with_reducible refine gate_callee (f := 27) rfl ?_); refine goesL_ (some 8) rfl rfl Try.func27 (by kernel_rfl) rfl #[.agg #[.int .u8 a0_0, .int .i64 a0_1, .string a0_2]] rfl (by (try simp only [List.map_toArray, List.map_cons, List.map_nil]); first | done | rfl | (simp only [List.length_drop, List.length_take]; rfl)) ?_; (with_reducible refine (cell_Right.calls a0_0 a0_1 a0_2 false _ A7.out).mono ?_); rintro e w20 ⟨rfl, hb⟩; refine ⟨_, rfl, ?_⟩; have n0_ := aM36 (blk_below (g := gb349) (o := .cells #[.int .u8 a0_0, .int .i64 a0_1, .string a0_2] 35 (0, 0)) (by (with_reducible repeat (first | refine bN36 ?_ _ | refine bD36 ?_ | refine bA36 ?_ _)); exact BK349.out) hb); have n1_ := aM36 (blk_below (g := gb350) (o := .cells #[.int .u8 a1_0, .int .i64 a1_1, .string a1_2] 35 (0, 0)) (by (with_reducible repeat (first | refine bN36 ?_ _ | refine bD36 ?_ | refine bA36 ?_ _)); exact BK350.out) hb); have n2_ := aM36 (blk_below (g := gb351) (o := .cells #[.int .u8 0, .int .i64 0, .string (⟨#[]⟩ : ByteArray)] 35 (0, 0)) (by (with_reducible repeat (first | refine bN36 ?_ _ | refine bD36 ?_ | refine bA36 ?_ _)); exact BK351.out) hb); have n3_ := aM36 (below_step (by repeat (first | (with_reducible first | exact HB.out | apply below_alloc | apply pw_below_drewN | apply below_drew1 | refine bS36 ?_ GE349.out | refine bS36 ?_ GE350.out | refine bS36 ?_ GE351.out) | exact HB.out)) hb); clear BK349; clear BK350; clear BK351; clear HB; have BK349 := n0_; have BK350 := n1_; have BK351 := n2_; have HB := n3_; clear n0_ n1_ n2_ n3_; (try clear hb); (try clear hb2); (try clear hk); (try clear hi)))
   go_meet
   case rel => exact ⟨_, (true), (by first | rfl | (simp; done) | (simp [*]; done)), H', ⟨by first | omega | exact Nat.le_refl _⟩, ⟨by (with_reducible repeat (first | refine bN36 ?_ _ | refine bD36 ?_ | refine bA36 ?_ _)); exact BK349.out⟩, ⟨by (with_reducible repeat (first | refine bN36 ?_ _ | refine bD36 ?_ | refine bA36 ?_ _)); exact BK350.out⟩, ⟨by (with_reducible repeat (first | refine bN36 ?_ _ | refine bD36 ?_ | refine bA36 ?_ _)); exact BK351.out⟩, ⟨by repeat (first | (with_reducible first | exact HB.out | apply below_alloc | apply pw_below_drewN | apply below_drew1 | refine bS36 ?_ GE349.out | refine bS36 ?_ GE350.out | refine bS36 ?_ GE351.out) | exact HB.out)⟩⟩
 case rest =>
  clear HC3
  try clear c1
  try clear c2
  try clear p2
  try clear c3
  try clear c8
  try clear c10
  try clear c11
  try clear c14
  try clear c17
  try clear c18
  try clear hcz12_0
  try clear hcz12_1
  try clear hcz12_2
  try clear hcz15_0
  try clear hcz15_1
  try clear hcz15_2
  try clear hcz19_0
  try clear hcz19_1
  try clear hcz19_2
  try clear hfz12_0
  try clear hfz12_1
  try clear hfz12_2
  try clear hfz15_0
  try clear hfz15_1
  try clear hfz15_2
  try clear hfz19_0
  try clear hfz19_1
  try clear hfz19_2
  obtain ⟨kq, x6_2, rfl, HA, HJ2, BK349, BK350, BK351, HB⟩ := hcut
  cases kq with
  | zero => exact absurd HA.out (by simp [cell_Join.j0])
  | succ kj2 =>
   have H := HA.out
   clear HA
   simp only [cell_Join.j0] at H
   by_cases c21 : x6_2 = true
   ·subst c21
    have H1 : (some (0, 0, (⟨#[]⟩ : ByteArray), 3)) = some (r1, r2, r3, r4) := by rw [if_pos rfl] at H; exact H
    clear H
    have H := H1
    clear H1
    simp only [Option.some.injEq, Prod.mk.injEq] at H
    obtain ⟨rfl, rfl, rfl, rfl⟩ := H
    have hnb22 := NB351_349.out
    have hnc22 := NB349_351.out
    have hnb23 := NB351_350.out
    have hnc23 := NB350_351.out
    have hcz24_0 : wc.cell? ⟨gb351, 0, none⟩ = some (.int .u8 0) := (blk_cell BK351.out 0).trans rfl
    have hcz24_1 : wc.cell? ⟨gb351, 1, none⟩ = some (.int .i64 0) := (blk_cell BK351.out 1).trans rfl
    have hcz24_2 : wc.cell? ⟨gb351, 2, none⟩ = some (.string (⟨#[]⟩ : ByteArray)) := (blk_cell BK351.out 2).trans rfl
    have hfz24_0 := blk_frozen BK351.out 0
    have hfz24_1 := blk_frozen BK351.out 1
    have hfz24_2 := blk_frozen BK351.out 2
    go_wp2
    refine bodyPost_ret (results_ct rfl _ _ gb351 35 #[.int .u8 0, .int .i64 0, .string (⟨#[]⟩ : ByteArray)] (0, 0) _ rfl (by (with_reducible repeat (first | refine bN36 ?_ _ | refine bD36 ?_ | refine bA36 ?_ _)); refine blk_put (cs := #[.int .u8 0, .int .i64 0, .string (⟨#[]⟩ : ByteArray)]) ?_ 2 _ rfl; (with_reducible repeat (first | refine bN36 ?_ _ | refine bD36 ?_ | refine bA36 ?_ _)); refine blk_put (cs := #[.int .u8 0, .int .i64 0, .string (⟨#[]⟩ : ByteArray)]) ?_ 1 _ rfl; (with_reducible repeat (first | refine bN36 ?_ _ | refine bD36 ?_ | refine bA36 ?_ _)); refine blk_put (cs := #[.int .u8 0, .int .i64 0, .string (⟨#[]⟩ : ByteArray)]) ?_ 0 _ rfl; (with_reducible repeat (first | refine bN36 ?_ _ | refine bD36 ?_ | refine bA36 ?_ _)); exact BK351.out) Try.underlying35 rfl (by kernel_rfl)) rfl ?_
    exact ⟨by first | rfl | (simp [errW_none, errW_some] <;> rfl) | (simp [*, errW_none, errW_some] <;> rfl), by repeat (first | (with_reducible first | exact HB.out | apply below_alloc | apply pw_below_drewN | apply below_drew1 | refine bS36 ?_ GE349.out | refine bS36 ?_ GE350.out | refine bS36 ?_ GE351.out) | exact HB.out)⟩
   ·replace c21 := Bool.eq_false_iff.mpr c21
    subst c21
    have H1 : (if a0_0 = 0 then (cell_Join.j1 kj2 true a0_0 a0_1 a0_2 a1_0 a1_1 a1_2) else (cell_Join.j1 kj2 (a1_0 == 0) a0_0 a0_1 a0_2 a1_0 a1_1 a1_2)) = some (r1, r2, r3, r4) := by rw [if_neg (show ¬ (false = true) by decide)] at H; exact H
    clear H
    have H := H1
    clear H1
    have HC25 := aM36 H
    clear H
    go_upto_region 3 with (fail)
    go_cut [16] (fun v16 wc => ∃ (kq : Nat) (x16_24 : Bool), v16 = .bool x16_24 ∧ Aside0 (cell_Join.j1 kq x16_24 a0_0 a0_1 a0_2 a1_0 a1_1 a1_2 = some (r1, r2, r3, r4)) ∧ Aside0 (kq ≤ kj2) ∧ Aside0 (wc.heap[gb349]? = some (.cells #[.int .u8 a0_0, .int .i64 a0_1, .string a0_2] 35 (0, 0))) ∧ Aside0 (wc.heap[gb350]? = some (.cells #[.int .u8 a1_0, .int .i64 a1_1, .string a1_2] 35 (0, 0))) ∧ Aside0 (wc.heap[gb351]? = some (.cells #[.int .u8 0, .int .i64 0, .string (⟨#[]⟩ : ByteArray)] 35 (0, 0))) ∧ Aside0 (Below w.heap.size w wc))
    case first =>
     have H := HC25.out
     clear HC25
     by_cases c26 : a0_0 = 0
     ·rw [if_pos c26] at H
      have c26b0 : (a0_0 == 0) = true := beq_iff_eq.mpr c26
      have c26b1 : (a0_0 != 0) = false := bne_eq_false_iff_eq.mpr c26
      clear c26
      (first | rw [c26b0] | (simp only [i64_w, i32_w]; rw [c26b0]) | skip)
      have H' := aM36 H
      clear H
      have hnb27 := NB349_350.out
      have hnc27 := NB350_349.out
      have hnb28 := NB349_351.out
      have hnc28 := NB351_349.out
      have hcz29_0 : wc.cell? ⟨gb349, 0, none⟩ = some (.int .u8 a0_0) := (blk_cell BK349.out 0).trans rfl
      have hcz29_1 : wc.cell? ⟨gb349, 1, none⟩ = some (.int .i64 a0_1) := (blk_cell BK349.out 1).trans rfl
      have hcz29_2 : wc.cell? ⟨gb349, 2, none⟩ = some (.string a0_2) := (blk_cell BK349.out 2).trans rfl
      have hfz29_0 := blk_frozen BK349.out 0
      have hfz29_1 := blk_frozen BK349.out 1
      have hfz29_2 := blk_frozen BK349.out 2
      go_wp2
      go_meet
      case rel => exact ⟨_, (true), (by first | rfl | (simp; done) | (simp [*]; done)), H', ⟨by have := HJ2.out; first | omega | exact Nat.le_refl _⟩, ⟨by (with_reducible repeat (first | refine bN36 ?_ _ | refine bD36 ?_ | refine bA36 ?_ _)); exact BK349.out⟩, ⟨by (with_reducible repeat (first | refine bN36 ?_ _ | refine bD36 ?_ | refine bA36 ?_ _)); exact BK350.out⟩, ⟨by (with_reducible repeat (first | refine bN36 ?_ _ | refine bD36 ?_ | refine bA36 ?_ _)); exact BK351.out⟩, ⟨by repeat (first | (with_reducible first | exact HB.out | apply below_alloc | apply pw_below_drewN | apply below_drew1 | refine bS36 ?_ GE349.out | refine bS36 ?_ GE350.out | refine bS36 ?_ GE351.out) | exact HB.out)⟩⟩
     ·rw [if_neg c26] at H
      have c26b0 : (a0_0 == 0) = false := beq_eq_false_iff_ne.mpr c26
      have c26b1 : (a0_0 != 0) = true := bne_iff_ne.mpr c26
      (first | rw [c26b0] | (simp only [i64_w, i32_w]; rw [c26b0]) | skip)
      have H' := aM36 H
      clear H
      have hnb30 := NB349_350.out
      have hnc30 := NB350_349.out
      have hnb31 := NB349_351.out
      have hnc31 := NB351_349.out
      have hcz32_0 : wc.cell? ⟨gb349, 0, none⟩ = some (.int .u8 a0_0) := (blk_cell BK349.out 0).trans rfl
      have hcz32_1 : wc.cell? ⟨gb349, 1, none⟩ = some (.int .i64 a0_1) := (blk_cell BK349.out 1).trans rfl
      have hcz32_2 : wc.cell? ⟨gb349, 2, none⟩ = some (.string a0_2) := (blk_cell BK349.out 2).trans rfl
      have hfz32_0 := blk_frozen BK349.out 0
      have hfz32_1 := blk_frozen BK349.out 1
      have hfz32_2 := blk_frozen BK349.out 2
      have hnb33 := NB350_351.out
      have hnc33 := NB351_350.out
      have hcz34_0 : wc.cell? ⟨gb350, 0, none⟩ = some (.int .u8 a1_0) := (blk_cell BK350.out 0).trans rfl
      have hcz34_1 : wc.cell? ⟨gb350, 1, none⟩ = some (.int .i64 a1_1) := (blk_cell BK350.out 1).trans rfl
      have hcz34_2 : wc.cell? ⟨gb350, 2, none⟩ = some (.string a1_2) := (blk_cell BK350.out 2).trans rfl
      have hfz34_0 := blk_frozen BK350.out 0
      have hfz34_1 := blk_frozen BK350.out 1
      have hfz34_2 := blk_frozen BK350.out 2
      go_wp2
      go_meet
      case rel => exact ⟨_, ((a1_0 == 0)), (by first | rfl | (simp; done) | (simp [*]; done)), H', ⟨by have := HJ2.out; first | omega | exact Nat.le_refl _⟩, ⟨by (with_reducible repeat (first | refine bN36 ?_ _ | refine bD36 ?_ | refine bA36 ?_ _)); exact BK349.out⟩, ⟨by (with_reducible repeat (first | refine bN36 ?_ _ | refine bD36 ?_ | refine bA36 ?_ _)); exact BK350.out⟩, ⟨by (with_reducible repeat (first | refine bN36 ?_ _ | refine bD36 ?_ | refine bA36 ?_ _)); exact BK351.out⟩, ⟨by repeat (first | (with_reducible first | exact HB.out | apply below_alloc | apply pw_below_drewN | apply below_drew1 | refine bS36 ?_ GE349.out | refine bS36 ?_ GE350.out | refine bS36 ?_ GE351.out) | exact HB.out)⟩⟩
    case rest =>
     clear HC25
     try clear c1
     try clear c2
     try clear p2
     try clear c3
     try clear c8
     try clear c10
     try clear c11
     try clear c14
     try clear c17
     try clear c18
     try clear c21
     try clear c22
     try clear c23
     try clear c26
     try clear c26b0
     try clear c26b1
     try clear c27
     try clear c28
     try clear c30
     try clear c31
     try clear c33
     try clear hcz12_0
     try clear hcz12_1
     try clear hcz12_2
     try clear hcz15_0
     try clear hcz15_1
     try clear hcz15_2
     try clear hcz19_0
     try clear hcz19_1
     try clear hcz19_2
     try clear hcz24_0
     try clear hcz24_1
     try clear hcz24_2
     try clear hcz29_0
     try clear hcz29_1
     try clear hcz29_2
     try clear hcz32_0
     try clear hcz32_1
     try clear hcz32_2
     try clear hcz34_0
     try clear hcz34_1
     try clear hcz34_2
     try clear hfz12_0
     try clear hfz12_1
     try clear hfz12_2
     try clear hfz15_0
     try clear hfz15_1
     try clear hfz15_2
     try clear hfz19_0
     try clear hfz19_1
     try clear hfz19_2
     try clear hfz24_0
     try clear hfz24_1
     try clear hfz24_2
     try clear hfz29_0
     try clear hfz29_1
     try clear hfz29_2
     try clear hfz32_0
     try clear hfz32_1
     try clear hfz32_2
     try clear hfz34_0
     try clear hfz34_1
     try clear hfz34_2
     try clear p2
     obtain ⟨kq, x16_24, rfl, HA, HJ24, BK349, BK350, BK351, HB⟩ := hcut
     cases kq with
     | zero => exact absurd HA.out (by simp [cell_Join.j1])
     | succ kj24 =>
      have H := HA.out
      clear HA
      simp only [cell_Join.j1] at H
      by_cases c35 : x16_24 = true
      ·subst c35
       have H1 : (some (0, 0, (⟨#[]⟩ : ByteArray), 0)) = some (r1, r2, r3, r4) := by rw [if_pos rfl] at H; exact H
       clear H
       have H := H1
       clear H1
       simp only [Option.some.injEq, Prod.mk.injEq] at H
       obtain ⟨rfl, rfl, rfl, rfl⟩ := H
       have hnb36 := NB351_349.out
       have hnc36 := NB349_351.out
       have hnb37 := NB351_350.out
       have hnc37 := NB350_351.out
       have hcz38_0 : wc.cell? ⟨gb351, 0, none⟩ = some (.int .u8 0) := (blk_cell BK351.out 0).trans rfl
       have hcz38_1 : wc.cell? ⟨gb351, 1, none⟩ = some (.int .i64 0) := (blk_cell BK351.out 1).trans rfl
       have hcz38_2 : wc.cell? ⟨gb351, 2, none⟩ = some (.string (⟨#[]⟩ : ByteArray)) := (blk_cell BK351.out 2).trans rfl
       have hfz38_0 := blk_frozen BK351.out 0
       have hfz38_1 := blk_frozen BK351.out 1
       have hfz38_2 := blk_frozen BK351.out 2
       go_wp2
       refine bodyPost_ret (results_ct rfl _ _ gb351 35 #[.int .u8 0, .int .i64 0, .string (⟨#[]⟩ : ByteArray)] (0, 0) _ rfl (by (with_reducible repeat (first | refine bN36 ?_ _ | refine bD36 ?_ | refine bA36 ?_ _)); refine blk_put (cs := #[.int .u8 0, .int .i64 0, .string (⟨#[]⟩ : ByteArray)]) ?_ 2 _ rfl; (with_reducible repeat (first | refine bN36 ?_ _ | refine bD36 ?_ | refine bA36 ?_ _)); refine blk_put (cs := #[.int .u8 0, .int .i64 0, .string (⟨#[]⟩ : ByteArray)]) ?_ 1 _ rfl; (with_reducible repeat (first | refine bN36 ?_ _ | refine bD36 ?_ | refine bA36 ?_ _)); refine blk_put (cs := #[.int .u8 0, .int .i64 0, .string (⟨#[]⟩ : ByteArray)]) ?_ 0 _ rfl; (with_reducible repeat (first | refine bN36 ?_ _ | refine bD36 ?_ | refine bA36 ?_ _)); exact BK351.out) Try.underlying35 rfl (by kernel_rfl)) rfl ?_
       exact ⟨by first | rfl | (simp [errW_none, errW_some] <;> rfl) | (simp [*, errW_none, errW_some] <;> rfl), by repeat (first | (with_reducible first | exact HB.out | apply below_alloc | apply pw_below_drewN | apply below_drew1 | refine bS36 ?_ GE349.out | refine bS36 ?_ GE350.out | refine bS36 ?_ GE351.out) | exact HB.out)⟩
      ·replace c35 := Bool.eq_false_iff.mpr c35
       subst c35
       have H1 : (if a0_0 = a1_0 then (if a0_0 = 1 then (some (0, 0, (⟨#[]⟩ : ByteArray), 20)) else (if a0_2.size + a1_2.size ≤ 9223372036854775807 then (some (a0_0, 0, a0_2 ++ a1_2, 0)) else (none))) else (some (0, 0, (⟨#[]⟩ : ByteArray), 20))) = some (r1, r2, r3, r4) := by rw [if_neg (show ¬ (false = true) by decide)] at H; exact H
       clear H
       have H := H1
       clear H1
       by_cases c39 : a0_0 = a1_0
       ·rw [if_pos c39] at H
        have c39b0 : (a0_0 == a1_0) = true := beq_iff_eq.mpr c39
        have c39b1 : (a0_0 != a1_0) = false := bne_eq_false_iff_eq.mpr c39
        clear c39
        by_cases c40 : a0_0 = 1
        ·rw [if_pos c40] at H
         have c40b0 : (a0_0 == 1) = true := beq_iff_eq.mpr c40
         have c40b1 : (a0_0 != 1) = false := bne_eq_false_iff_eq.mpr c40
         clear c40
         simp only [Option.some.injEq, Prod.mk.injEq] at H
         obtain ⟨rfl, rfl, rfl, rfl⟩ := H
         have hnb41 := NB349_350.out
         have hnc41 := NB350_349.out
         have hnb42 := NB349_351.out
         have hnc42 := NB351_349.out
         have hcz43_0 : wc.cell? ⟨gb349, 0, none⟩ = some (.int .u8 a0_0) := (blk_cell BK349.out 0).trans rfl
         have hcz43_1 : wc.cell? ⟨gb349, 1, none⟩ = some (.int .i64 a0_1) := (blk_cell BK349.out 1).trans rfl
         have hcz43_2 : wc.cell? ⟨gb349, 2, none⟩ = some (.string a0_2) := (blk_cell BK349.out 2).trans rfl
         have hfz43_0 := blk_frozen BK349.out 0
         have hfz43_1 := blk_frozen BK349.out 1
         have hfz43_2 := blk_frozen BK349.out 2
         have hnb44 := NB350_351.out
         have hnc44 := NB351_350.out
         have hcz45_0 : wc.cell? ⟨gb350, 0, none⟩ = some (.int .u8 a1_0) := (blk_cell BK350.out 0).trans rfl
         have hcz45_1 : wc.cell? ⟨gb350, 1, none⟩ = some (.int .i64 a1_1) := (blk_cell BK350.out 1).trans rfl
         have hcz45_2 : wc.cell? ⟨gb350, 2, none⟩ = some (.string a1_2) := (blk_cell BK350.out 2).trans rfl
         have hfz45_0 := blk_frozen BK350.out 0
         have hfz45_1 := blk_frozen BK350.out 1
         have hfz45_2 := blk_frozen BK350.out 2
         have hcz46_0 : wc.cell? ⟨gb351, 0, none⟩ = some (.int .u8 0) := (blk_cell BK351.out 0).trans rfl
         have hcz46_1 : wc.cell? ⟨gb351, 1, none⟩ = some (.int .i64 0) := (blk_cell BK351.out 1).trans rfl
         have hcz46_2 : wc.cell? ⟨gb351, 2, none⟩ = some (.string (⟨#[]⟩ : ByteArray)) := (blk_cell BK351.out 2).trans rfl
         have hfz46_0 := blk_frozen BK351.out 0
         have hfz46_1 := blk_frozen BK351.out 1
         have hfz46_2 := blk_frozen BK351.out 2
         go_wp2
         refine bodyPost_ret (results_ct rfl _ _ gb351 35 #[.int .u8 0, .int .i64 0, .string (⟨#[]⟩ : ByteArray)] (0, 0) _ rfl (by (with_reducible repeat (first | refine bN36 ?_ _ | refine bD36 ?_ | refine bA36 ?_ _)); refine blk_put (cs := #[.int .u8 0, .int .i64 0, .string (⟨#[]⟩ : ByteArray)]) ?_ 2 _ rfl; (with_reducible repeat (first | refine bN36 ?_ _ | refine bD36 ?_ | refine bA36 ?_ _)); refine blk_put (cs := #[.int .u8 0, .int .i64 0, .string (⟨#[]⟩ : ByteArray)]) ?_ 1 _ rfl; (with_reducible repeat (first | refine bN36 ?_ _ | refine bD36 ?_ | refine bA36 ?_ _)); refine blk_put (cs := #[.int .u8 0, .int .i64 0, .string (⟨#[]⟩ : ByteArray)]) ?_ 0 _ rfl; (with_reducible repeat (first | refine bN36 ?_ _ | refine bD36 ?_ | refine bA36 ?_ _)); exact BK351.out) Try.underlying35 rfl (by kernel_rfl)) rfl ?_
         exact ⟨by first | rfl | (simp [errW_none, errW_some] <;> rfl) | (simp [*, errW_none, errW_some] <;> rfl), by repeat (first | (with_reducible first | exact HB.out | apply below_alloc | apply pw_below_drewN | apply below_drew1 | refine bS36 ?_ GE349.out | refine bS36 ?_ GE350.out | refine bS36 ?_ GE351.out) | exact HB.out)⟩
        ·rw [if_neg c40] at H
         have c40b0 : (a0_0 == 1) = false := beq_eq_false_iff_ne.mpr c40
         have c40b1 : (a0_0 != 1) = true := bne_iff_ne.mpr c40
         by_cases c47 : a0_2.size + a1_2.size ≤ 9223372036854775807
         ·rw [if_pos c47] at H
          have c47b0 := eq_true c47
          have c47b1 : decide (a0_2.size + a1_2.size ≤ 9223372036854775807) = true := decide_eq_true c47
          try have c47b2 : (9223372036854775807 < a0_2.size + a1_2.size) = False := eq_false (Nat.not_lt.2 c47)
          simp only [Option.some.injEq, Prod.mk.injEq] at H
          obtain ⟨rfl, rfl, rfl, rfl⟩ := H
          have hnb48 := NB349_350.out
          have hnc48 := NB350_349.out
          have hnb49 := NB349_351.out
          have hnc49 := NB351_349.out
          have hcz50_0 : wc.cell? ⟨gb349, 0, none⟩ = some (.int .u8 a0_0) := (blk_cell BK349.out 0).trans rfl
          have hcz50_1 : wc.cell? ⟨gb349, 1, none⟩ = some (.int .i64 a0_1) := (blk_cell BK349.out 1).trans rfl
          have hcz50_2 : wc.cell? ⟨gb349, 2, none⟩ = some (.string a0_2) := (blk_cell BK349.out 2).trans rfl
          have hfz50_0 := blk_frozen BK349.out 0
          have hfz50_1 := blk_frozen BK349.out 1
          have hfz50_2 := blk_frozen BK349.out 2
          have hnb51 := NB350_351.out
          have hnc51 := NB351_350.out
          have hcz52_0 : wc.cell? ⟨gb350, 0, none⟩ = some (.int .u8 a1_0) := (blk_cell BK350.out 0).trans rfl
          have hcz52_1 : wc.cell? ⟨gb350, 1, none⟩ = some (.int .i64 a1_1) := (blk_cell BK350.out 1).trans rfl
          have hcz52_2 : wc.cell? ⟨gb350, 2, none⟩ = some (.string a1_2) := (blk_cell BK350.out 2).trans rfl
          have hfz52_0 := blk_frozen BK350.out 0
          have hfz52_1 := blk_frozen BK350.out 1
          have hfz52_2 := blk_frozen BK350.out 2
          have hcz53_0 : wc.cell? ⟨gb351, 0, none⟩ = some (.int .u8 0) := (blk_cell BK351.out 0).trans rfl
          have hcz53_1 : wc.cell? ⟨gb351, 1, none⟩ = some (.int .i64 0) := (blk_cell BK351.out 1).trans rfl
          have hcz53_2 : wc.cell? ⟨gb351, 2, none⟩ = some (.string (⟨#[]⟩ : ByteArray)) := (blk_cell BK351.out 2).trans rfl
          have hfz53_0 := blk_frozen BK351.out 0
          have hfz53_1 := blk_frozen BK351.out 1
          have hfz53_2 := blk_frozen BK351.out 2
          go_wp2
          refine bodyPost_ret (results_ct rfl _ _ gb351 35 #[.int .u8 a0_0, .int .i64 0, .string (a0_2 ++ a1_2)] (0, 0) _ rfl (by (with_reducible repeat (first | refine bN36 ?_ _ | refine bD36 ?_ | refine bA36 ?_ _)); refine blk_put (cs := #[.int .u8 a0_0, .int .i64 0, .string (⟨#[]⟩ : ByteArray)]) ?_ 2 _ rfl; (with_reducible repeat (first | refine bN36 ?_ _ | refine bD36 ?_ | refine bA36 ?_ _)); refine blk_put (cs := #[.int .u8 a0_0, .int .i64 0, .string (⟨#[]⟩ : ByteArray)]) ?_ 1 _ rfl; (with_reducible repeat (first | refine bN36 ?_ _ | refine bD36 ?_ | refine bA36 ?_ _)); refine blk_put (cs := #[.int .u8 0, .int .i64 0, .string (⟨#[]⟩ : ByteArray)]) ?_ 0 _ rfl; (with_reducible repeat (first | refine bN36 ?_ _ | refine bD36 ?_ | refine bA36 ?_ _)); exact BK351.out) Try.underlying35 rfl (by kernel_rfl)) rfl ?_
          exact ⟨by first | rfl | (simp [errW_none, errW_some] <;> rfl) | (simp [*, errW_none, errW_some] <;> rfl), by repeat (first | (with_reducible first | exact HB.out | apply below_alloc | apply pw_below_drewN | apply below_drew1 | refine bS36 ?_ GE349.out | refine bS36 ?_ GE350.out | refine bS36 ?_ GE351.out) | exact HB.out)⟩
         ·rw [if_neg c47] at H
          exact absurd H (by simp)
       ·rw [if_neg c39] at H
        have c39b0 : (a0_0 == a1_0) = false := beq_eq_false_iff_ne.mpr c39
        have c39b1 : (a0_0 != a1_0) = true := bne_iff_ne.mpr c39
        simp only [Option.some.injEq, Prod.mk.injEq] at H
        obtain ⟨rfl, rfl, rfl, rfl⟩ := H
        have hnb54 := NB349_350.out
        have hnc54 := NB350_349.out
        have hnb55 := NB349_351.out
        have hnc55 := NB351_349.out
        have hcz56_0 : wc.cell? ⟨gb349, 0, none⟩ = some (.int .u8 a0_0) := (blk_cell BK349.out 0).trans rfl
        have hcz56_1 : wc.cell? ⟨gb349, 1, none⟩ = some (.int .i64 a0_1) := (blk_cell BK349.out 1).trans rfl
        have hcz56_2 : wc.cell? ⟨gb349, 2, none⟩ = some (.string a0_2) := (blk_cell BK349.out 2).trans rfl
        have hfz56_0 := blk_frozen BK349.out 0
        have hfz56_1 := blk_frozen BK349.out 1
        have hfz56_2 := blk_frozen BK349.out 2
        have hnb57 := NB350_351.out
        have hnc57 := NB351_350.out
        have hcz58_0 : wc.cell? ⟨gb350, 0, none⟩ = some (.int .u8 a1_0) := (blk_cell BK350.out 0).trans rfl
        have hcz58_1 : wc.cell? ⟨gb350, 1, none⟩ = some (.int .i64 a1_1) := (blk_cell BK350.out 1).trans rfl
        have hcz58_2 : wc.cell? ⟨gb350, 2, none⟩ = some (.string a1_2) := (blk_cell BK350.out 2).trans rfl
        have hfz58_0 := blk_frozen BK350.out 0
        have hfz58_1 := blk_frozen BK350.out 1
        have hfz58_2 := blk_frozen BK350.out 2
        have hcz59_0 : wc.cell? ⟨gb351, 0, none⟩ = some (.int .u8 0) := (blk_cell BK351.out 0).trans rfl
        have hcz59_1 : wc.cell? ⟨gb351, 1, none⟩ = some (.int .i64 0) := (blk_cell BK351.out 1).trans rfl
        have hcz59_2 : wc.cell? ⟨gb351, 2, none⟩ = some (.string (⟨#[]⟩ : ByteArray)) := (blk_cell BK351.out 2).trans rfl
        have hfz59_0 := blk_frozen BK351.out 0
        have hfz59_1 := blk_frozen BK351.out 1
        have hfz59_2 := blk_frozen BK351.out 2
        go_wp2
        refine bodyPost_ret (results_ct rfl _ _ gb351 35 #[.int .u8 0, .int .i64 0, .string (⟨#[]⟩ : ByteArray)] (0, 0) _ rfl (by (with_reducible repeat (first | refine bN36 ?_ _ | refine bD36 ?_ | refine bA36 ?_ _)); refine blk_put (cs := #[.int .u8 0, .int .i64 0, .string (⟨#[]⟩ : ByteArray)]) ?_ 2 _ rfl; (with_reducible repeat (first | refine bN36 ?_ _ | refine bD36 ?_ | refine bA36 ?_ _)); refine blk_put (cs := #[.int .u8 0, .int .i64 0, .string (⟨#[]⟩ : ByteArray)]) ?_ 1 _ rfl; (with_reducible repeat (first | refine bN36 ?_ _ | refine bD36 ?_ | refine bA36 ?_ _)); refine blk_put (cs := #[.int .u8 0, .int .i64 0, .string (⟨#[]⟩ : ByteArray)]) ?_ 0 _ rfl; (with_reducible repeat (first | refine bN36 ?_ _ | refine bD36 ?_ | refine bA36 ?_ _)); exact BK351.out) Try.underlying35 rfl (by kernel_rfl)) rfl ?_
        exact ⟨by first | rfl | (simp [errW_none, errW_some] <;> rfl) | (simp [*, errW_none, errW_some] <;> rfl), by repeat (first | (with_reducible first | exact HB.out | apply below_alloc | apply pw_below_drewN | apply below_drew1 | refine bS36 ?_ GE349.out | refine bS36 ?_ GE350.out | refine bS36 ?_ GE351.out) | exact HB.out)⟩

end Go.Proofs.Ytefpnnljflcmbaa.PCe
