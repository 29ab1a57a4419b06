-- Written by a program of this session (wip/tool), which goes by the kit's print.
import Derived.Test.YtefpnnljflcmbaaPCex0
import Derived.Test.YtefpnnljflcmbaaPCex7
import Derived.Test.YtefpnnljflcmbaaPCex10
import Derived.Test.YtefpnnljflcmbaaPCex12
namespace Go.Proofs.Ytefpnnljflcmbaa.PCe
open Go.RowKit Go.Proofs.YtefpnnljflcmbaaW.PrintWords Go.Proofs.YtefpnnljflcmbaaW.PrintLast Go.Proofs.YtefpnnljflcmbaaW.PrintMore
attribute [local go_sem] max2_int min2_int max_two min_two max_three min_three max_four min_four   -- for this text's walks alone
set_option linter.unusedVariables false
set_option linter.unusedSimpArgs false

/-! ### cell_Mul: function 53 -/
theorem bN53 : type_of% @blk_drewN := @blk_drewN
theorem bD53 : type_of% @blk_drew := @blk_drew
theorem bA53 : type_of% @blk_alloc := @blk_alloc
theorem bS53 : type_of% @below_set := @below_set
theorem aM53 : type_of% @Aside0.mk := @Aside0.mk
mutual
def cell_Mul.j0 : Nat → Int → Bool → Int → Int → ByteArray → Int → Int → ByteArray → Option (Int × Int × ByteArray × Int)
 | 0, _, _, _, _, _, _, _, _ => none
 | k + 1, x7, x22, x168000, x168001, x168002, x169000, x169001, x169002 => if x22 = true then (some (0, 0, (⟨#[]⟩ : ByteArray), x7)) else ((cell_size.f x168001).bind fun t172 => ((cell_size.f x169001).bind fun t173 => ((bits_Mul64.f t172 t173).bind fun bt174 => (if ((decide (x168001 < 0)) != (decide (x169001 < 0))) = true then (cell_Mul.j1 k bt174.1 bt174.2 (9223372036854775807 + 1) ((decide (x168001 < 0)) != (decide (x169001 < 0)))) else (cell_Mul.j1 k bt174.1 bt174.2 9223372036854775807 ((decide (x168001 < 0)) != (decide (x169001 < 0))))))))
def cell_Mul.j1 : Nat → Int → Int → Int → Bool → Option (Int × Int × ByteArray × Int)
 | 0, _, _, _, _ => none
 | k + 1, x8, x9, x10, x11 => if x8 = 0 then (cell_Mul.j2 k x9 x11 (decide (x9 > x10))) else (cell_Mul.j2 k x9 x11 true)
def cell_Mul.j2 : Nat → Int → Bool → Bool → Option (Int × Int × ByteArray × Int)
 | 0, _, _, _ => none
 | k + 1, x9, x11, x51 => if x51 = true then (some (0, 0, (⟨#[]⟩ : ByteArray), 21)) else (if x11 = true then ((cell_number.f (wrap64 (IntKind.u64.wrap (-x9)))).bind fun bt176 => (some (bt176.1, bt176.2.1, bt176.2.2, 0))) else ((cell_number.f (wrap64 (x9))).bind fun bt179 => (some (bt179.1, bt179.2.1, bt179.2.2, 0))))
end
def cell_Mul.f (k : Nat) (a0_0 : Int) (a0_1 : Int) (a0_2 : ByteArray) (a1_0 : Int) (a1_1 : Int) (a1_2 : ByteArray) : Option (Int × Int × ByteArray × Int) := (cell_numbers.f k a0_0 a0_1 a0_2 a1_0 a1_1 a1_2).bind fun bt170 => (if bt170.2 = 0 then (cell_Mul.j0 k bt170.2 bt170.1 a0_0 a0_1 a0_2 a1_0 a1_1 a1_2) else (cell_Mul.j0 k bt170.2 true a0_0 a0_1 a0_2 a1_0 a1_1 a1_2))
theorem cell_Mul.mono_l : ∀ k, (∀ y0 y1 y2 y3 y4 y5 y6 y7, LeO (cell_Mul.j0 k y0 y1 y2 y3 y4 y5 y6 y7) (cell_Mul.j0 (k + 1) y0 y1 y2 y3 y4 y5 y6 y7)) ∧ (∀ y0 y1 y2 y3, LeO (cell_Mul.j1 k y0 y1 y2 y3) (cell_Mul.j1 (k + 1) y0 y1 y2 y3)) ∧ (∀ y0 y1 y2, LeO (cell_Mul.j2 k y0 y1 y2) (cell_Mul.j2 (k + 1) y0 y1 y2))
 | 0 => ⟨fun _ _ _ _ _ _ _ _ r h => by simp [cell_Mul.j0] at h, fun _ _ _ _ r h => by simp [cell_Mul.j1] at h, fun _ _ _ r h => by simp [cell_Mul.j2] at h⟩
 | k + 1 => by
  obtain ⟨ih0, ih1, ih2⟩ := cell_Mul.mono_l k
  refine ⟨?_, ?_, ?_⟩
  ·intro y0 y1 y2 y3 y4 y5 y6 y7
   unfold cell_Mul.j0
   repeat' first
   | (with_reducible exact ih0 _ _ _ _ _ _ _ _)
   | (with_reducible exact ih1 _ _ _ _)
   | (with_reducible exact ih2 _ _ _)
   | (with_reducible exact cell_numbers.mono _ _ _ _ _ _ _)
   | (with_reducible exact LeO.refl _)
   | (with_reducible exact LeO.none _)
   | (with_reducible refine LeO.ite ?_ ?_)
   | (with_reducible refine LeO.bind ?_ (fun _ => ?_))
   | exact ih0 _ _ _ _ _ _ _ _
   | exact ih1 _ _ _ _
   | exact ih2 _ _ _
   | exact cell_numbers.mono _ _ _ _ _ _ _
   | exact LeO.none _
   | refine LeO.ite ?_ ?_
   | refine LeO.bind ?_ (fun _ => ?_)
  ·intro y0 y1 y2 y3
   unfold cell_Mul.j1
   repeat' first
   | (with_reducible exact ih0 _ _ _ _ _ _ _ _)
   | (with_reducible exact ih1 _ _ _ _)
   | (with_reducible exact ih2 _ _ _)
   | (with_reducible exact cell_numbers.mono _ _ _ _ _ _ _)
   | (with_reducible exact LeO.refl _)
   | (with_reducible exact LeO.none _)
   | (with_reducible refine LeO.ite ?_ ?_)
   | (with_reducible refine LeO.bind ?_ (fun _ => ?_))
   | exact ih0 _ _ _ _ _ _ _ _
   | exact ih1 _ _ _ _
   | exact ih2 _ _ _
   | exact cell_numbers.mono _ _ _ _ _ _ _
   | exact LeO.none _
   | refine LeO.ite ?_ ?_
   | refine LeO.bind ?_ (fun _ => ?_)
  ·intro y0 y1 y2
   unfold cell_Mul.j2
   repeat' first
   | (with_reducible exact ih0 _ _ _ _ _ _ _ _)
   | (with_reducible exact ih1 _ _ _ _)
   | (with_reducible exact ih2 _ _ _)
   | (with_reducible exact cell_numbers.mono _ _ _ _ _ _ _)
   | (with_reducible exact LeO.refl _)
   | (with_reducible exact LeO.none _)
   | (with_reducible refine LeO.ite ?_ ?_)
   | (with_reducible refine LeO.bind ?_ (fun _ => ?_))
   | exact ih0 _ _ _ _ _ _ _ _
   | exact ih1 _ _ _ _
   | exact ih2 _ _ _
   | exact cell_numbers.mono _ _ _ _ _ _ _
   | exact LeO.none _
   | refine LeO.ite ?_ ?_
   | refine LeO.bind ?_ (fun _ => ?_)
theorem cell_Mul.mono : ∀ a0 a1 a2 a3 a4 a5 k, LeO (cell_Mul.f k a0 a1 a2 a3 a4 a5) (cell_Mul.f (k + 1) a0 a1 a2 a3 a4 a5) := by
 intro a0 a1 a2 a3 a4 a5 k
 obtain ⟨ih0, ih1, ih2⟩ := cell_Mul.mono_l k
 unfold cell_Mul.f
 repeat' first
   | (with_reducible exact ih0 _ _ _ _ _ _ _ _)
   | (with_reducible exact ih1 _ _ _ _)
   | (with_reducible exact ih2 _ _ _)
   | (with_reducible exact cell_numbers.mono _ _ _ _ _ _ _)
   | (with_reducible exact LeO.refl _)
   | (with_reducible exact LeO.none _)
   | (with_reducible refine LeO.ite ?_ ?_)
   | (with_reducible refine LeO.bind ?_ (fun _ => ?_))
   | exact ih0 _ _ _ _ _ _ _ _
   | exact ih1 _ _ _ _
   | exact ih2 _ _ _
   | exact cell_numbers.mono _ _ _ _ _ _ _
   | exact LeO.none _
   | refine LeO.ite ?_ ?_
   | refine LeO.bind ?_ (fun _ => ?_)
set_option maxHeartbeats 8000000 in
set_option maxRecDepth 100000 in
theorem cell_Mul.calls (k : Nat) (a0_0 : Int) (a0_1 : Int) (a0_2 : ByteArray) (a1_0 : Int) (a1_1 : Int) (a1_2 : ByteArray) (r1 : Int) (r2 : Int) (r3 : ByteArray) (r4 : Int) (w : World) (h : cell_Mul.f k a0_0 a0_1 a0_2 a1_0 a1_1 a1_2 = some (r1, r2, r3, r4)) :
  Calls Try.prog 53 #[.agg #[.int .u8 a0_0, .int .i64 a0_1, .string a0_2], .agg #[.int .u8 a1_0, .int .i64 a1_1, .string a1_2]] w fun e w' => e = .returned (.tuple #[.agg #[.int .u8 r1, .int .i64 r2, .string r3], .int .i64 r4]) ∧ Below w.heap.size w w' := by
 have hu35 := Try.underlying35
 have HB := aM53 (Below.refl w.heap.size w)
 have H : ((cell_numbers.f k a0_0 a0_1 a0_2 a1_0 a1_1 a1_2).bind fun bt170 => (if bt170.2 = 0 then (cell_Mul.j0 k bt170.2 bt170.1 a0_0 a0_1 a0_2 a1_0 a1_1 a1_2) else (cell_Mul.j0 k bt170.2 true a0_0 a0_1 a0_2 a1_0 a1_1 a1_2))) = some (r1, r2, r3, r4) := h
 clear h
 replace H := Option.bind_eq_some_iff.mp H
 obtain ⟨⟨t170, t171⟩, A30, H⟩ := H
 replace H : (if t171 = 0 then (cell_Mul.j0 k t171 t170 a0_0 a0_1 a0_2 a1_0 a1_1 a1_2) else (cell_Mul.j0 k t171 true a0_0 a0_1 a0_2 a1_0 a1_1 a1_2)) = some (r1, r2, r3, r4) := H
 have A3 := aM53 A30
 clear A30
 have HC4 := aM53 H
 clear H
 go_enter Try.func53, Try.ntmps53
 go_upto_region 2 with (first | ((with_reducible refine gate_dst (N := 2) rfl ?_); refine box_event ?hg (N := 2) ?hd (cs := #[.int .u8 a0_0, .int .i64 a0_1, .string a0_2]) (t := 35) ?hr ?_; (case hd => rfl); (case hg => rfl); (case hr => first | (go_simp; done) | (go_simp; rfl)); intro gb167 hg w5 hbox hb; have n0_ := aM53 (below_step (by repeat (first | (with_reducible first | exact HB.out | apply below_alloc | apply pw_below_drewN | apply below_drew1) | exact HB.out)) hb); have n1_ := aM53 (hbox); have n2_ := aM53 ((by rw [hg]; exact (below_size (by repeat (first | (with_reducible first | exact HB.out | apply below_alloc | apply pw_below_drewN | apply below_drew1) | exact HB.out))) : w.heap.size ≤ gb167)); have n3_ := aM53 ((by rw [hg]; exact (below_size (by repeat (first | (with_reducible first | exact HB.out | apply below_alloc | apply pw_below_drewN | apply below_drew1) | exact HB.out))) : w.heap.size ≤ gb167)); clear HB; have HB := n0_; have BK167 := n1_; have GW167 := n2_; have GE167 := n3_; clear n0_ n1_ n2_ n3_; clear hb hbox hg) | ((with_reducible refine gate_dst (N := 3) rfl ?_); refine box_event ?hg (N := 3) ?hd (cs := #[.int .u8 a1_0, .int .i64 a1_1, .string a1_2]) (t := 35) ?hr ?_; (case hd => rfl); (case hg => rfl); (case hr => first | (go_simp; done) | (go_simp; rfl)); intro gb168 hg w6 hbox hb; have n0_ := aM53 (blk_below (g := gb167) (o := .cells #[.int .u8 a0_0, .int .i64 a0_1, .string a0_2] 35 (0, 0)) (by (with_reducible repeat (first | refine bN53 ?_ _ | refine bD53 ?_ | refine bA53 ?_ _)); exact BK167.out) hb); have n1_ := aM53 (below_step (by repeat (first | (with_reducible first | exact HB.out | apply below_alloc | apply pw_below_drewN | apply below_drew1 | refine bS53 ?_ GE167.out) | exact HB.out)) hb); have n2_ := aM53 (hbox); have n3_ := aM53 ((by rw [hg]; exact (below_size (by repeat (first | (with_reducible first | exact HB.out | apply below_alloc | apply pw_below_drewN | apply below_drew1 | refine bS53 ?_ GE167.out) | exact HB.out))) : w.heap.size ≤ gb168)); have n4_ := aM53 ((by rw [hg]; exact (below_size (by repeat (first | (with_reducible first | exact HB.out | apply below_alloc | apply pw_below_drewN | apply below_drew1 | refine bS53 ?_ GE167.out) | exact HB.out))) : w.heap.size ≤ gb168)); have n5_ := aM53 ((by rw [hg]; exact Nat.ne_of_lt (blk_lt (g := gb167) (o := .cells #[.int .u8 a0_0, .int .i64 a0_1, .string a0_2] 35 (0, 0)) (by (with_reducible repeat (first | refine bN53 ?_ _ | refine bD53 ?_ | refine bA53 ?_ _)); exact BK167.out)) : gb167 ≠ gb168)); have n6_ := aM53 ((by rw [hg]; exact Nat.ne_of_gt (blk_lt (g := gb167) (o := .cells #[.int .u8 a0_0, .int .i64 a0_1, .string a0_2] 35 (0, 0)) (by (with_reducible repeat (first | refine bN53 ?_ _ | refine bD53 ?_ | refine bA53 ?_ _)); exact BK167.out)) : gb168 ≠ gb167)); clear BK167; clear HB; have BK167 := n0_; have HB := n1_; have BK168 := n2_; have GW168 := n3_; have GE168 := n4_; have NB167_168 := n5_; have NB168_167 := n6_; clear n0_ n1_ n2_ n3_ n4_ n5_ n6_; clear hb hbox hg) | ((with_reducible refine gate_dst (N := 4) rfl ?_); refine box_event ?hg (N := 4) ?hd (cs := #[.int .u8 0, .int .i64 0, .string (⟨#[]⟩ : ByteArray)]) (t := 35) ?hr ?_; (case hd => rfl); (case hg => rfl); (case hr => first | (go_simp; done) | (go_simp; rfl)); intro gb169 hg w7 hbox hb; have n0_ := aM53 (blk_below (g := gb167) (o := .cells #[.int .u8 a0_0, .int .i64 a0_1, .string a0_2] 35 (0, 0)) (by (with_reducible repeat (first | refine bN53 ?_ _ | refine bD53 ?_ | refine bA53 ?_ _)); exact BK167.out) hb); have n1_ := aM53 (blk_below (g := gb168) (o := .cells #[.int .u8 a1_0, .int .i64 a1_1, .string a1_2] 35 (0, 0)) (by (with_reducible repeat (first | refine bN53 ?_ _ | refine bD53 ?_ | refine bA53 ?_ _)); exact BK168.out) hb); have n2_ := aM53 (below_step (by repeat (first | (with_reducible first | exact HB.out | apply below_alloc | apply pw_below_drewN | apply below_drew1 | refine bS53 ?_ GE167.out | refine bS53 ?_ GE168.out) | exact HB.out)) hb); have n3_ := aM53 (hbox); have n4_ := aM53 ((by rw [hg]; exact (below_size (by repeat (first | (with_reducible first | exact HB.out | apply below_alloc | apply pw_below_drewN | apply below_drew1 | refine bS53 ?_ GE167.out | refine bS53 ?_ GE168.out) | exact HB.out))) : w.heap.size ≤ gb169)); have n5_ := aM53 ((by rw [hg]; exact (below_size (by repeat (first | (with_reducible first | exact HB.out | apply below_alloc | apply pw_below_drewN | apply below_drew1 | refine bS53 ?_ GE167.out | refine bS53 ?_ GE168.out) | exact HB.out))) : w.heap.size ≤ gb169)); have n6_ := aM53 ((by rw [hg]; exact Nat.ne_of_lt (blk_lt (g := gb167) (o := .cells #[.int .u8 a0_0, .int .i64 a0_1, .string a0_2] 35 (0, 0)) (by (with_reducible repeat (first | refine bN53 ?_ _ | refine bD53 ?_ | refine bA53 ?_ _)); exact BK167.out)) : gb167 ≠ gb169)); have n7_ := aM53 ((by rw [hg]; exact Nat.ne_of_gt (blk_lt (g := gb167) (o := .cells #[.int .u8 a0_0, .int .i64 a0_1, .string a0_2] 35 (0, 0)) (by (with_reducible repeat (first | refine bN53 ?_ _ | refine bD53 ?_ | refine bA53 ?_ _)); exact BK167.out)) : gb169 ≠ gb167)); have n8_ := aM53 ((by rw [hg]; exact Nat.ne_of_lt (blk_lt (g := gb168) (o := .cells #[.int .u8 a1_0, .int .i64 a1_1, .string a1_2] 35 (0, 0)) (by (with_reducible repeat (first | refine bN53 ?_ _ | refine bD53 ?_ | refine bA53 ?_ _)); exact BK168.out)) : gb168 ≠ gb169)); have n9_ := aM53 ((by rw [hg]; exact Nat.ne_of_gt (blk_lt (g := gb168) (o := .cells #[.int .u8 a1_0, .int .i64 a1_1, .string a1_2] 35 (0, 0)) (by (with_reducible repeat (first | refine bN53 ?_ _ | refine bD53 ?_ | refine bA53 ?_ _)); exact BK168.out)) : gb169 ≠ gb168)); clear BK167; clear BK168; clear HB; have BK167 := n0_; have BK168 := n1_; have HB := n2_; have BK169 := n3_; have GW169 := n4_; have GE169 := n5_; have NB167_169 := n6_; have NB169_167 := n7_; have NB168_169 := n8_; have NB169_168 := n9_; clear n0_ n1_ n2_ n3_ n4_ n5_ n6_ n7_ n8_ n9_; clear hb hbox hg; have hnb8 := NB167_168.out; have hnc8 := NB168_167.out; have hnb9 := NB167_169.out; have hnc9 := NB169_167.out; have hcz10_0 : w7.cell? ⟨gb167, 0, none⟩ = some (.int .u8 a0_0) := (blk_cell BK167.out 0).trans rfl; have hcz10_1 : w7.cell? ⟨gb167, 1, none⟩ = some (.int .i64 a0_1) := (blk_cell BK167.out 1).trans rfl; have hcz10_2 : w7.cell? ⟨gb167, 2, none⟩ = some (.string a0_2) := (blk_cell BK167.out 2).trans rfl; have hfz10_0 := blk_frozen BK167.out 0; have hfz10_1 := blk_frozen BK167.out 1; have hfz10_2 := blk_frozen BK167.out 2; have hnb11 := NB168_169.out; have hnc11 := NB169_168.out; have hcz12_0 : w7.cell? ⟨gb168, 0, none⟩ = some (.int .u8 a1_0) := (blk_cell BK168.out 0).trans rfl; have hcz12_1 : w7.cell? ⟨gb168, 1, none⟩ = some (.int .i64 a1_1) := (blk_cell BK168.out 1).trans rfl; have hcz12_2 : w7.cell? ⟨gb168, 2, none⟩ = some (.string a1_2) := (blk_cell BK168.out 2).trans rfl; have hfz12_0 := blk_frozen BK168.out 0; have hfz12_1 := blk_frozen BK168.out 1; have hfz12_2 := blk_frozen BK168.out 2) | (go_at_call 78; (with_reducible refine (cell_numbers.calls k a0_0 a0_1 a0_2 a1_0 a1_1 a1_2 t170 t171 _ A3.out).mono ?_); rintro e w13 ⟨rfl, hb⟩; have n0_ := aM53 (blk_below (g := gb167) (o := .cells #[.int .u8 a0_0, .int .i64 a0_1, .string a0_2] 35 (0, 0)) (by (with_reducible repeat (first | refine bN53 ?_ _ | refine bD53 ?_ | refine bA53 ?_ _)); exact BK167.out) hb); have n1_ := aM53 (blk_below (g := gb168) (o := .cells #[.int .u8 a1_0, .int .i64 a1_1, .string a1_2] 35 (0, 0)) (by (with_reducible repeat (first | refine bN53 ?_ _ | refine bD53 ?_ | refine bA53 ?_ _)); exact BK168.out) hb); have n2_ := aM53 (blk_below (g := gb169) (o := .cells #[.int .u8 0, .int .i64 0, .string (⟨#[]⟩ : ByteArray)] 35 (0, 0)) (by (with_reducible repeat (first | refine bN53 ?_ _ | refine bD53 ?_ | refine bA53 ?_ _)); exact BK169.out) hb); have n3_ := aM53 (below_step (by repeat (first | (with_reducible first | exact HB.out | apply below_alloc | apply pw_below_drewN | apply below_drew1 | refine bS53 ?_ GE167.out | refine bS53 ?_ GE168.out | refine bS53 ?_ GE169.out) | exact HB.out)) hb); clear BK167; clear BK168; clear BK169; clear HB; have BK167 := n0_; have BK168 := n1_; have BK169 := n2_; have HB := n3_; clear n0_ n1_ n2_ n3_; (try clear hb); (try clear hb2); (try clear hk); (try clear hi)))
 repeat (go_quiet (first | ((with_reducible refine gate_dst (N := 2) rfl ?_); refine box_event ?hg (N := 2) ?hd (cs := #[.int .u8 a0_0, .int .i64 a0_1, .string a0_2]) (t := 35) ?hr ?_; (case hd => rfl); (case hg => rfl); (case hr => first | (go_simp; done) | (go_simp; rfl)); intro gb167 hg w5 hbox hb; have n0_ := aM53 (below_step (by repeat (first | (with_reducible first | exact HB.out | apply below_alloc | apply pw_below_drewN | apply below_drew1) | exact HB.out)) hb); have n1_ := aM53 (hbox); have n2_ := aM53 ((by rw [hg]; exact (below_size (by repeat (first | (with_reducible first | exact HB.out | apply below_alloc | apply pw_below_drewN | apply below_drew1) | exact HB.out))) : w.heap.size ≤ gb167)); have n3_ := aM53 ((by rw [hg]; exact (below_size (by repeat (first | (with_reducible first | exact HB.out | apply below_alloc | apply pw_below_drewN | apply below_drew1) | exact HB.out))) : w.heap.size ≤ gb167)); clear HB; have HB := n0_; have BK167 := n1_; have GW167 := n2_; have GE167 := n3_; clear n0_ n1_ n2_ n3_; clear hb hbox hg) | ((with_reducible refine gate_dst (N := 3) rfl ?_); refine box_event ?hg (N := 3) ?hd (cs := #[.int .u8 a1_0, .int .i64 a1_1, .string a1_2]) (t := 35) ?hr ?_; (case hd => rfl); (case hg => rfl); (case hr => first | (go_simp; done) | (go_simp; rfl)); intro gb168 hg w6 hbox hb; have n0_ := aM53 (blk_below (g := gb167) (o := .cells #[.int .u8 a0_0, .int .i64 a0_1, .string a0_2] 35 (0, 0)) (by (with_reducible repeat (first | refine bN53 ?_ _ | refine bD53 ?_ | refine bA53 ?_ _)); exact BK167.out) hb); have n1_ := aM53 (below_step (by repeat (first | (with_reducible first | exact HB.out | apply below_alloc | apply pw_below_drewN | apply below_drew1 | refine bS53 ?_ GE167.out) | exact HB.out)) hb); have n2_ := aM53 (hbox); have n3_ := aM53 ((by rw [hg]; exact (below_size (by repeat (first | (with_reducible first | exact HB.out | apply below_alloc | apply pw_below_drewN | apply below_drew1 | refine bS53 ?_ GE167.out) | exact HB.out))) : w.heap.size ≤ gb168)); have n4_ := aM53 ((by rw [hg]; exact (below_size (by repeat (first | (with_reducible first | exact HB.out | apply below_alloc | apply pw_below_drewN | apply below_drew1 | refine bS53 ?_ GE167.out) | exact HB.out))) : w.heap.size ≤ gb168)); have n5_ := aM53 ((by rw [hg]; exact Nat.ne_of_lt (blk_lt (g := gb167) (o := .cells #[.int .u8 a0_0, .int .i64 a0_1, .string a0_2] 35 (0, 0)) (by (with_reducible repeat (first | refine bN53 ?_ _ | refine bD53 ?_ | refine bA53 ?_ _)); exact BK167.out)) : gb167 ≠ gb168)); have n6_ := aM53 ((by rw [hg]; exact Nat.ne_of_gt (blk_lt (g := gb167) (o := .cells #[.int .u8 a0_0, .int .i64 a0_1, .string a0_2] 35 (0, 0)) (by (with_reducible repeat (first | refine bN53 ?_ _ | refine bD53 ?_ | refine bA53 ?_ _)); exact BK167.out)) : gb168 ≠ gb167)); clear BK167; clear HB; have BK167 := n0_; have HB := n1_; have BK168 := n2_; have GW168 := n3_; have GE168 := n4_; have NB167_168 := n5_; have NB168_167 := n6_; clear n0_ n1_ n2_ n3_ n4_ n5_ n6_; clear hb hbox hg) | ((with_reducible refine gate_dst (N := 4) rfl ?_); refine box_event ?hg (N := 4) ?hd (cs := #[.int .u8 0, .int .i64 0, .string (⟨#[]⟩ : ByteArray)]) (t := 35) ?hr ?_; (case hd => rfl); (case hg => rfl); (case hr => first | (go_simp; done) | (go_simp; rfl)); intro gb169 hg w7 hbox hb; have n0_ := aM53 (blk_below (g := gb167) (o := .cells #[.int .u8 a0_0, .int .i64 a0_1, .string a0_2] 35 (0, 0)) (by (with_reducible repeat (first | refine bN53 ?_ _ | refine bD53 ?_ | refine bA53 ?_ _)); exact BK167.out) hb); have n1_ := aM53 (blk_below (g := gb168) (o := .cells #[.int .u8 a1_0, .int .i64 a1_1, .string a1_2] 35 (0, 0)) (by (with_reducible repeat (first | refine bN53 ?_ _ | refine bD53 ?_ | refine bA53 ?_ _)); exact BK168.out) hb); have n2_ := aM53 (below_step (by repeat (first | (with_reducible first | exact HB.out | apply below_alloc | apply pw_below_drewN | apply below_drew1 | refine bS53 ?_ GE167.out | refine bS53 ?_ GE168.out) | exact HB.out)) hb); have n3_ := aM53 (hbox); have n4_ := aM53 ((by rw [hg]; exact (below_size (by repeat (first | (with_reducible first | exact HB.out | apply below_alloc | apply pw_below_drewN | apply below_drew1 | refine bS53 ?_ GE167.out | refine bS53 ?_ GE168.out) | exact HB.out))) : w.heap.size ≤ gb169)); have n5_ := aM53 ((by rw [hg]; exact (below_size (by repeat (first | (with_reducible first | exact HB.out | apply below_alloc | apply pw_below_drewN | apply below_drew1 | refine bS53 ?_ GE167.out | refine bS53 ?_ GE168.out) | exact HB.out))) : w.heap.size ≤ gb169)); have n6_ := aM53 ((by rw [hg]; exact Nat.ne_of_lt (blk_lt (g := gb167) (o := .cells #[.int .u8 a0_0, .int .i64 a0_1, .string a0_2] 35 (0, 0)) (by (with_reducible repeat (first | refine bN53 ?_ _ | refine bD53 ?_ | refine bA53 ?_ _)); exact BK167.out)) : gb167 ≠ gb169)); have n7_ := aM53 ((by rw [hg]; exact Nat.ne_of_gt (blk_lt (g := gb167) (o := .cells #[.int .u8 a0_0, .int .i64 a0_1, .string a0_2] 35 (0, 0)) (by (with_reducible repeat (first | refine bN53 ?_ _ | refine bD53 ?_ | refine bA53 ?_ _)); exact BK167.out)) : gb169 ≠ gb167)); have n8_ := aM53 ((by rw [hg]; exact Nat.ne_of_lt (blk_lt (g := gb168) (o := .cells #[.int .u8 a1_0, .int .i64 a1_1, .string a1_2] 35 (0, 0)) (by (with_reducible repeat (first | refine bN53 ?_ _ | refine bD53 ?_ | refine bA53 ?_ _)); exact BK168.out)) : gb168 ≠ gb169)); have n9_ := aM53 ((by rw [hg]; exact Nat.ne_of_gt (blk_lt (g := gb168) (o := .cells #[.int .u8 a1_0, .int .i64 a1_1, .string a1_2] 35 (0, 0)) (by (with_reducible repeat (first | refine bN53 ?_ _ | refine bD53 ?_ | refine bA53 ?_ _)); exact BK168.out)) : gb169 ≠ gb168)); clear BK167; clear BK168; clear HB; have BK167 := n0_; have BK168 := n1_; have HB := n2_; have BK169 := n3_; have GW169 := n4_; have GE169 := n5_; have NB167_169 := n6_; have NB169_167 := n7_; have NB168_169 := n8_; have NB169_168 := n9_; clear n0_ n1_ n2_ n3_ n4_ n5_ n6_ n7_ n8_ n9_; clear hb hbox hg; have hnb8 := NB167_168.out; have hnc8 := NB168_167.out; have hnb9 := NB167_169.out; have hnc9 := NB169_167.out; have hcz10_0 : w7.cell? ⟨gb167, 0, none⟩ = some (.int .u8 a0_0) := (blk_cell BK167.out 0).trans rfl; have hcz10_1 : w7.cell? ⟨gb167, 1, none⟩ = some (.int .i64 a0_1) := (blk_cell BK167.out 1).trans rfl; have hcz10_2 : w7.cell? ⟨gb167, 2, none⟩ = some (.string a0_2) := (blk_cell BK167.out 2).trans rfl; have hfz10_0 := blk_frozen BK167.out 0; have hfz10_1 := blk_frozen BK167.out 1; have hfz10_2 := blk_frozen BK167.out 2; have hnb11 := NB168_169.out; have hnc11 := NB169_168.out; have hcz12_0 : w7.cell? ⟨gb168, 0, none⟩ = some (.int .u8 a1_0) := (blk_cell BK168.out 0).trans rfl; have hcz12_1 : w7.cell? ⟨gb168, 1, none⟩ = some (.int .i64 a1_1) := (blk_cell BK168.out 1).trans rfl; have hcz12_2 : w7.cell? ⟨gb168, 2, none⟩ = some (.string a1_2) := (blk_cell BK168.out 2).trans rfl; have hfz12_0 := blk_frozen BK168.out 0; have hfz12_1 := blk_frozen BK168.out 1; have hfz12_2 := blk_frozen BK168.out 2) | (go_at_call 78; (with_reducible refine (cell_numbers.calls k a0_0 a0_1 a0_2 a1_0 a1_1 a1_2 t170 t171 _ A3.out).mono ?_); rintro e w13 ⟨rfl, hb⟩; have n0_ := aM53 (blk_below (g := gb167) (o := .cells #[.int .u8 a0_0, .int .i64 a0_1, .string a0_2] 35 (0, 0)) (by (with_reducible repeat (first | refine bN53 ?_ _ | refine bD53 ?_ | refine bA53 ?_ _)); exact BK167.out) hb); have n1_ := aM53 (blk_below (g := gb168) (o := .cells #[.int .u8 a1_0, .int .i64 a1_1, .string a1_2] 35 (0, 0)) (by (with_reducible repeat (first | refine bN53 ?_ _ | refine bD53 ?_ | refine bA53 ?_ _)); exact BK168.out) hb); have n2_ := aM53 (blk_below (g := gb169) (o := .cells #[.int .u8 0, .int .i64 0, .string (⟨#[]⟩ : ByteArray)] 35 (0, 0)) (by (with_reducible repeat (first | refine bN53 ?_ _ | refine bD53 ?_ | refine bA53 ?_ _)); exact BK169.out) hb); have n3_ := aM53 (below_step (by repeat (first | (with_reducible first | exact HB.out | apply below_alloc | apply pw_below_drewN | apply below_drew1 | refine bS53 ?_ GE167.out | refine bS53 ?_ GE168.out | refine bS53 ?_ GE169.out) | exact HB.out)) hb); clear BK167; clear BK168; clear BK169; clear HB; have BK167 := n0_; have BK168 := n1_; have BK169 := n2_; have HB := n3_; clear n0_ n1_ n2_ n3_; (try clear hb); (try clear hb2); (try clear hk); (try clear hi))); go_upto_region 2 with (first | ((with_reducible refine gate_dst (N := 2) rfl ?_); refine box_event ?hg (N := 2) ?hd (cs := #[.int .u8 a0_0, .int .i64 a0_1, .string a0_2]) (t := 35) ?hr ?_; (case hd => rfl); (case hg => rfl); (case hr => first | (go_simp; done) | (go_simp; rfl)); intro gb167 hg w5 hbox hb; have n0_ := aM53 (below_step (by repeat (first | (with_reducible first | exact HB.out | apply below_alloc | apply pw_below_drewN | apply below_drew1) | exact HB.out)) hb); have n1_ := aM53 (hbox); have n2_ := aM53 ((by rw [hg]; exact (below_size (by repeat (first | (with_reducible first | exact HB.out | apply below_alloc | apply pw_below_drewN | apply below_drew1) | exact HB.out))) : w.heap.size ≤ gb167)); have n3_ := aM53 ((by rw [hg]; exact (below_size (by repeat (first | (with_reducible first | exact HB.out | apply below_alloc | apply pw_below_drewN | apply below_drew1) | exact HB.out))) : w.heap.size ≤ gb167)); clear HB; have HB := n0_; have BK167 := n1_; have GW167 := n2_; have GE167 := n3_; clear n0_ n1_ n2_ n3_; clear hb hbox hg) | ((with_reducible refine gate_dst (N := 3) rfl ?_); refine box_event ?hg (N := 3) ?hd (cs := #[.int .u8 a1_0, .int .i64 a1_1, .string a1_2]) (t := 35) ?hr ?_; (case hd => rfl); (case hg => rfl); (case hr => first | (go_simp; done) | (go_simp; rfl)); intro gb168 hg w6 hbox hb; have n0_ := aM53 (blk_below (g := gb167) (o := .cells #[.int .u8 a0_0, .int .i64 a0_1, .string a0_2] 35 (0, 0)) (by (with_reducible repeat (first | refine bN53 ?_ _ | refine bD53 ?_ | refine bA53 ?_ _)); exact BK167.out) hb); have n1_ := aM53 (below_step (by repeat (first | (with_reducible first | exact HB.out | apply below_alloc | apply pw_below_drewN | apply below_drew1 | refine bS53 ?_ GE167.out) | exact HB.out)) hb); have n2_ := aM53 (hbox); have n3_ := aM53 ((by rw [hg]; exact (below_size (by repeat (first | (with_reducible first | exact HB.out | apply below_alloc | apply pw_below_drewN | apply below_drew1 | refine bS53 ?_ GE167.out) | exact HB.out))) : w.heap.size ≤ gb168)); have n4_ := aM53 ((by rw [hg]; exact (below_size (by repeat (first | (with_reducible first | exact HB.out | apply below_alloc | apply pw_below_drewN | apply below_drew1 | refine bS53 ?_ GE167.out) | exact HB.out))) : w.heap.size ≤ gb168)); have n5_ := aM53 ((by rw [hg]; exact Nat.ne_of_lt (blk_lt (g := gb167) (o := .cells #[.int .u8 a0_0, .int .i64 a0_1, .string a0_2] 35 (0, 0)) (by (with_reducible repeat (first | refine bN53 ?_ _ | refine bD53 ?_ | refine bA53 ?_ _)); exact BK167.out)) : gb167 ≠ gb168)); have n6_ := aM53 ((by rw [hg]; exact Nat.ne_of_gt (blk_lt (g := gb167) (o := .cells #[.int .u8 a0_0, .int .i64 a0_1, .string a0_2] 35 (0, 0)) (by (with_reducible repeat (first | refine bN53 ?_ _ | refine bD53 ?_ | refine bA53 ?_ _)); exact BK167.out)) : gb168 ≠ gb167)); clear BK167; clear HB; have BK167 := n0_; have HB := n1_; have BK168 := n2_; have GW168 := n3_; have GE168 := n4_; have NB167_168 := n5_; have NB168_167 := n6_; clear n0_ n1_ n2_ n3_ n4_ n5_ n6_; clear hb hbox hg) | ((with_reducible refine gate_dst (N := 4) rfl ?_); refine box_event ?hg (N := 4) ?hd (cs := #[.int .u8 0, .int .i64 0, .string (⟨#[]⟩ : ByteArray)]) (t := 35) ?hr ?_; (case hd => rfl); (case hg => rfl); (case hr => first | (go_simp; done) | (go_simp; rfl)); intro gb169 hg w7 hbox hb; have n0_ := aM53 (blk_below (g := gb167) (o := .cells #[.int .u8 a0_0, .int .i64 a0_1, .string a0_2] 35 (0, 0)) (by (with_reducible repeat (first | refine bN53 ?_ _ | refine bD53 ?_ | refine bA53 ?_ _)); exact BK167.out) hb); have n1_ := aM53 (blk_below (g := gb168) (o := .cells #[.int .u8 a1_0, .int .i64 a1_1, .string a1_2] 35 (0, 0)) (by (with_reducible repeat (first | refine bN53 ?_ _ | refine bD53 ?_ | refine bA53 ?_ _)); exact BK168.out) hb); have n2_ := aM53 (below_step (by repeat (first | (with_reducible first | exact HB.out | apply below_alloc | apply pw_below_drewN | apply below_drew1 | refine bS53 ?_ GE167.out | refine bS53 ?_ GE168.out) | exact HB.out)) hb); have n3_ := aM53 (hbox); have n4_ := aM53 ((by rw [hg]; exact (below_size (by repeat (first | (with_reducible first | exact HB.out | apply below_alloc | apply pw_below_drewN | apply below_drew1 | refine bS53 ?_ GE167.out | refine bS53 ?_ GE168.out) | exact HB.out))) : w.heap.size ≤ gb169)); have n5_ := aM53 ((by rw [hg]; exact (below_size (by repeat (first | (with_reducible first | exact HB.out | apply below_alloc | apply pw_below_drewN | apply below_drew1 | refine bS53 ?_ GE167.out | refine bS53 ?_ GE168.out) | exact HB.out))) : w.heap.size ≤ gb169)); have n6_ := aM53 ((by rw [hg]; exact Nat.ne_of_lt (blk_lt (g := gb167) (o := .cells #[.int .u8 a0_0, .int .i64 a0_1, .string a0_2] 35 (0, 0)) (by (with_reducible repeat (first | refine bN53 ?_ _ | refine bD53 ?_ | refine bA53 ?_ _)); exact BK167.out)) : gb167 ≠ gb169)); have n7_ := aM53 ((by rw [hg]; exact Nat.ne_of_gt (blk_lt (g := gb167) (o := .cells #[.int .u8 a0_0, .int .i64 a0_1, .string a0_2] 35 (0, 0)) (by (with_reducible repeat (first | refine bN53 ?_ _ | refine bD53 ?_ | refine bA53 ?_ _)); exact BK167.out)) : gb169 ≠ gb167)); have n8_ := aM53 ((by rw [hg]; exact Nat.ne_of_lt (blk_lt (g := gb168) (o := .cells #[.int .u8 a1_0, .int .i64 a1_1, .string a1_2] 35 (0, 0)) (by (with_reducible repeat (first | refine bN53 ?_ _ | refine bD53 ?_ | refine bA53 ?_ _)); exact BK168.out)) : gb168 ≠ gb169)); have n9_ := aM53 ((by rw [hg]; exact Nat.ne_of_gt (blk_lt (g := gb168) (o := .cells #[.int .u8 a1_0, .int .i64 a1_1, .string a1_2] 35 (0, 0)) (by (with_reducible repeat (first | refine bN53 ?_ _ | refine bD53 ?_ | refine bA53 ?_ _)); exact BK168.out)) : gb169 ≠ gb168)); clear BK167; clear BK168; clear HB; have BK167 := n0_; have BK168 := n1_; have HB := n2_; have BK169 := n3_; have GW169 := n4_; have GE169 := n5_; have NB167_169 := n6_; have NB169_167 := n7_; have NB168_169 := n8_; have NB169_168 := n9_; clear n0_ n1_ n2_ n3_ n4_ n5_ n6_ n7_ n8_ n9_; clear hb hbox hg; have hnb8 := NB167_168.out; have hnc8 := NB168_167.out; have hnb9 := NB167_169.out; have hnc9 := NB169_167.out; have hcz10_0 : w7.cell? ⟨gb167, 0, none⟩ = some (.int .u8 a0_0) := (blk_cell BK167.out 0).trans rfl; have hcz10_1 : w7.cell? ⟨gb167, 1, none⟩ = some (.int .i64 a0_1) := (blk_cell BK167.out 1).trans rfl; have hcz10_2 : w7.cell? ⟨gb167, 2, none⟩ = some (.string a0_2) := (blk_cell BK167.out 2).trans rfl; have hfz10_0 := blk_frozen BK167.out 0; have hfz10_1 := blk_frozen BK167.out 1; have hfz10_2 := blk_frozen BK167.out 2; have hnb11 := NB168_169.out; have hnc11 := NB169_168.out; have hcz12_0 : w7.cell? ⟨gb168, 0, none⟩ = some (.int .u8 a1_0) := (blk_cell BK168.out 0).trans rfl; have hcz12_1 : w7.cell? ⟨gb168, 1, none⟩ = some (.int .i64 a1_1) := (blk_cell BK168.out 1).trans rfl; have hcz12_2 : w7.cell? ⟨gb168, 2, none⟩ = some (.string a1_2) := (blk_cell BK168.out 2).trans rfl; have hfz12_0 := blk_frozen BK168.out 0; have hfz12_1 := blk_frozen BK168.out 1; have hfz12_2 := blk_frozen BK168.out 2) | (go_at_call 78; (with_reducible refine (cell_numbers.calls k a0_0 a0_1 a0_2 a1_0 a1_1 a1_2 t170 t171 _ A3.out).mono ?_); rintro e w13 ⟨rfl, hb⟩; have n0_ := aM53 (blk_below (g := gb167) (o := .cells #[.int .u8 a0_0, .int .i64 a0_1, .string a0_2] 35 (0, 0)) (by (with_reducible repeat (first | refine bN53 ?_ _ | refine bD53 ?_ | refine bA53 ?_ _)); exact BK167.out) hb); have n1_ := aM53 (blk_below (g := gb168) (o := .cells #[.int .u8 a1_0, .int .i64 a1_1, .string a1_2] 35 (0, 0)) (by (with_reducible repeat (first | refine bN53 ?_ _ | refine bD53 ?_ | refine bA53 ?_ _)); exact BK168.out) hb); have n2_ := aM53 (blk_below (g := gb169) (o := .cells #[.int .u8 0, .int .i64 0, .string (⟨#[]⟩ : ByteArray)] 35 (0, 0)) (by (with_reducible repeat (first | refine bN53 ?_ _ | refine bD53 ?_ | refine bA53 ?_ _)); exact BK169.out) hb); have n3_ := aM53 (below_step (by repeat (first | (with_reducible first | exact HB.out | apply below_alloc | apply pw_below_drewN | apply below_drew1 | refine bS53 ?_ GE167.out | refine bS53 ?_ GE168.out | refine bS53 ?_ GE169.out) | exact HB.out)) hb); clear BK167; clear BK168; clear BK169; clear HB; have BK167 := n0_; have BK168 := n1_; have BK169 := n2_; have HB := n3_; clear n0_ n1_ n2_ n3_; (try clear hb); (try clear hb2); (try clear hk); (try clear hi))))
 (try simp only [Act.put, List.setIfInBounds_toArray, List.set_cons_zero, List.set_cons_succ])
 go_cut [22] (fun v22 wc => ∃ (kq : Nat) (x22_3 : Bool), v22 = .bool x22_3 ∧ Aside0 (cell_Mul.j0 kq t171 x22_3 a0_0 a0_1 a0_2 a1_0 a1_1 a1_2 = some (r1, r2, r3, r4)) ∧ Aside0 (kq ≤ k) ∧ Aside0 (wc.heap[gb167]? = some (.cells #[.int .u8 a0_0, .int .i64 a0_1, .string a0_2] 35 (0, 0))) ∧ Aside0 (wc.heap[gb168]? = some (.cells #[.int .u8 a1_0, .int .i64 a1_1, .string a1_2] 35 (0, 0))) ∧ Aside0 (wc.heap[gb169]? = some (.cells #[.int .u8 0, .int .i64 0, .string (⟨#[]⟩ : ByteArray)] 35 (0, 0))) ∧ Aside0 (Below w.heap.size w wc))
 case first =>
  have H := HC4.out
  clear HC4
  by_cases c14 : t171 = 0
  ·rw [if_pos c14] at H
   have c14b0 : (t171 == 0) = true := beq_iff_eq.mpr c14
   have c14b1 : (t171 != 0) = false := bne_eq_false_iff_eq.mpr c14
   clear c14
   (first | rw [c14b0] | (simp only [i64_w, i32_w]; rw [c14b0]) | skip)
   have H' := aM53 H
   clear H
   go_wp2
   repeat (go_quiet (fail); try go_wp2)
   go_meet
   case rel => exact ⟨_, (t170), (by first | rfl | (simp; done) | (simp [*]; done)), H', ⟨by first | omega | exact Nat.le_refl _⟩, ⟨by (with_reducible repeat (first | refine bN53 ?_ _ | refine bD53 ?_ | refine bA53 ?_ _)); exact BK167.out⟩, ⟨by (with_reducible repeat (first | refine bN53 ?_ _ | refine bD53 ?_ | refine bA53 ?_ _)); exact BK168.out⟩, ⟨by (with_reducible repeat (first | refine bN53 ?_ _ | refine bD53 ?_ | refine bA53 ?_ _)); exact BK169.out⟩, ⟨by repeat (first | (with_reducible first | exact HB.out | apply below_alloc | apply pw_below_drewN | apply below_drew1 | refine bS53 ?_ GE167.out | refine bS53 ?_ GE168.out | refine bS53 ?_ GE169.out) | exact HB.out)⟩⟩
  ·rw [if_neg c14] at H
   have c14b0 : (t171 == 0) = false := beq_eq_false_iff_ne.mpr c14
   have c14b1 : (t171 != 0) = true := bne_iff_ne.mpr c14
   (first | rw [c14b0] | (simp only [i64_w, i32_w]; rw [c14b0]) | skip)
   have H' := aM53 H
   clear H
   go_wp2
   repeat (go_quiet (fail); try go_wp2)
   go_meet
   case rel => exact ⟨_, (true), (by first | rfl | (simp; done) | (simp [*]; done)), H', ⟨by first | omega | exact Nat.le_refl _⟩, ⟨by (with_reducible repeat (first | refine bN53 ?_ _ | refine bD53 ?_ | refine bA53 ?_ _)); exact BK167.out⟩, ⟨by (with_reducible repeat (first | refine bN53 ?_ _ | refine bD53 ?_ | refine bA53 ?_ _)); exact BK168.out⟩, ⟨by (with_reducible repeat (first | refine bN53 ?_ _ | refine bD53 ?_ | refine bA53 ?_ _)); exact BK169.out⟩, ⟨by repeat (first | (with_reducible first | exact HB.out | apply below_alloc | apply pw_below_drewN | apply below_drew1 | refine bS53 ?_ GE167.out | refine bS53 ?_ GE168.out | refine bS53 ?_ GE169.out) | exact HB.out)⟩⟩
 case rest =>
  clear HC4
  try clear c1
  try clear p2
  try clear c5
  try clear c8
  try clear c9
  try clear c11
  try clear c14
  try clear c14b0
  try clear c14b1
  try clear hcz10_0
  try clear hcz10_1
  try clear hcz10_2
  try clear hcz12_0
  try clear hcz12_1
  try clear hcz12_2
  try clear hfz10_0
  try clear hfz10_1
  try clear hfz10_2
  try clear hfz12_0
  try clear hfz12_1
  try clear hfz12_2
  obtain ⟨kq, x22_3, rfl, HA, HJ3, BK167, BK168, BK169, HB⟩ := hcut
  cases kq with
  | zero => exact absurd HA.out (by simp [cell_Mul.j0])
  | succ kj3 =>
   have H := HA.out
   clear HA
   simp only [cell_Mul.j0] at H
   by_cases c15 : x22_3 = true
   ·subst c15
    have H1 : (some (0, 0, (⟨#[]⟩ : ByteArray), t171)) = some (r1, r2, r3, r4) := by rw [if_pos rfl] at H; exact H
    clear H
    have H := H1
    clear H1
    simp only [Option.some.injEq, Prod.mk.injEq] at H
    obtain ⟨rfl, rfl, rfl, rfl⟩ := H
    have hnb16 := NB169_167.out
    have hnc16 := NB167_169.out
    have hnb17 := NB169_168.out
    have hnc17 := NB168_169.out
    have hcz18_0 : wc.cell? ⟨gb169, 0, none⟩ = some (.int .u8 0) := (blk_cell BK169.out 0).trans rfl
    have hcz18_1 : wc.cell? ⟨gb169, 1, none⟩ = some (.int .i64 0) := (blk_cell BK169.out 1).trans rfl
    have hcz18_2 : wc.cell? ⟨gb169, 2, none⟩ = some (.string (⟨#[]⟩ : ByteArray)) := (blk_cell BK169.out 2).trans rfl
    have hfz18_0 := blk_frozen BK169.out 0
    have hfz18_1 := blk_frozen BK169.out 1
    have hfz18_2 := blk_frozen BK169.out 2
    go_wp2
    repeat (go_quiet (fail); try go_wp2)
    refine bodyPost_ret (results_ct rfl _ _ gb169 35 #[.int .u8 0, .int .i64 0, .string (⟨#[]⟩ : ByteArray)] (0, 0) _ rfl (by (with_reducible repeat (first | refine bN53 ?_ _ | refine bD53 ?_ | refine bA53 ?_ _)); refine blk_put (cs := #[.int .u8 0, .int .i64 0, .string (⟨#[]⟩ : ByteArray)]) ?_ 2 _ rfl; (with_reducible repeat (first | refine bN53 ?_ _ | refine bD53 ?_ | refine bA53 ?_ _)); refine blk_put (cs := #[.int .u8 0, .int .i64 0, .string (⟨#[]⟩ : ByteArray)]) ?_ 1 _ rfl; (with_reducible repeat (first | refine bN53 ?_ _ | refine bD53 ?_ | refine bA53 ?_ _)); refine blk_put (cs := #[.int .u8 0, .int .i64 0, .string (⟨#[]⟩ : ByteArray)]) ?_ 0 _ rfl; (with_reducible repeat (first | refine bN53 ?_ _ | refine bD53 ?_ | refine bA53 ?_ _)); exact BK169.out) Try.underlying35 rfl (by kernel_rfl)) rfl ?_
    exact ⟨by first | rfl | (simp [errW_none, errW_some] <;> rfl) | (simp [*, errW_none, errW_some] <;> rfl), by repeat (first | (with_reducible first | exact HB.out | apply below_alloc | apply pw_below_drewN | apply below_drew1 | refine bS53 ?_ GE167.out | refine bS53 ?_ GE168.out | refine bS53 ?_ GE169.out) | exact HB.out)⟩
   ·replace c15 := Bool.eq_false_iff.mpr c15
    subst c15
    have H1 : ((cell_size.f a0_1).bind fun t172 => ((cell_size.f a1_1).bind fun t173 => ((bits_Mul64.f t172 t173).bind fun bt174 => (if ((decide (a0_1 < 0)) != (decide (a1_1 < 0))) = true then (cell_Mul.j1 kj3 bt174.1 bt174.2 (9223372036854775807 + 1) ((decide (a0_1 < 0)) != (decide (a1_1 < 0)))) else (cell_Mul.j1 kj3 bt174.1 bt174.2 9223372036854775807 ((decide (a0_1 < 0)) != (decide (a1_1 < 0)))))))) = some (r1, r2, r3, r4) := by rw [if_neg (show ¬ (false = true) by decide)] at H; exact H
    clear H
    have H := H1
    clear H1
    replace H := Option.bind_eq_some_iff.mp H
    obtain ⟨t172, A190, H⟩ := H
    replace H : ((cell_size.f a1_1).bind fun t173 => ((bits_Mul64.f t172 t173).bind fun bt174 => (if ((decide (a0_1 < 0)) != (decide (a1_1 < 0))) = true then (cell_Mul.j1 kj3 bt174.1 bt174.2 (9223372036854775807 + 1) ((decide (a0_1 < 0)) != (decide (a1_1 < 0)))) else (cell_Mul.j1 kj3 bt174.1 bt174.2 9223372036854775807 ((decide (a0_1 < 0)) != (decide (a1_1 < 0))))))) = some (r1, r2, r3, r4) := H
    have A19 := aM53 A190
    clear A190
    replace H := Option.bind_eq_some_iff.mp H
    obtain ⟨t173, A200, H⟩ := H
    replace H : ((bits_Mul64.f t172 t173).bind fun bt174 => (if ((decide (a0_1 < 0)) != (decide (a1_1 < 0))) = true then (cell_Mul.j1 kj3 bt174.1 bt174.2 (9223372036854775807 + 1) ((decide (a0_1 < 0)) != (decide (a1_1 < 0)))) else (cell_Mul.j1 kj3 bt174.1 bt174.2 9223372036854775807 ((decide (a0_1 < 0)) != (decide (a1_1 < 0)))))) = some (r1, r2, r3, r4) := H
    have A20 := aM53 A200
    clear A200
    replace H := Option.bind_eq_some_iff.mp H
    obtain ⟨⟨t174, t175⟩, A210, H⟩ := H
    replace H : (if ((decide (a0_1 < 0)) != (decide (a1_1 < 0))) = true then (cell_Mul.j1 kj3 t174 t175 (9223372036854775807 + 1) ((decide (a0_1 < 0)) != (decide (a1_1 < 0)))) else (cell_Mul.j1 kj3 t174 t175 9223372036854775807 ((decide (a0_1 < 0)) != (decide (a1_1 < 0))))) = some (r1, r2, r3, r4) := H
    have A21 := aM53 A210
    clear A210
    have HC22 := aM53 H
    clear H
    have hnb23 := NB167_168.out
    have hnc23 := NB168_167.out
    have hnb24 := NB167_169.out
    have hnc24 := NB169_167.out
    have hcz25_0 : wc.cell? ⟨gb167, 0, none⟩ = some (.int .u8 a0_0) := (blk_cell BK167.out 0).trans rfl
    have hcz25_1 : wc.cell? ⟨gb167, 1, none⟩ = some (.int .i64 a0_1) := (blk_cell BK167.out 1).trans rfl
    have hcz25_2 : wc.cell? ⟨gb167, 2, none⟩ = some (.string a0_2) := (blk_cell BK167.out 2).trans rfl
    have hfz25_0 := blk_frozen BK167.out 0
    have hfz25_1 := blk_frozen BK167.out 1
    have hfz25_2 := blk_frozen BK167.out 2
    go_upto_if 42 with (first | (go_at_call 81; (with_reducible refine (cell_size.calls a0_1 t172 _ A19.out).mono ?_); rintro e w' ⟨rfl, ⟨nd, rfl⟩⟩; (try first | exact ⟨rfl, _, World.drewN_drewN _ _ _⟩ | exact ⟨rfl, _, Eq.trans (World.drewN_drewN _ _ _) (congrArg (World.drewN _) (Nat.add_assoc _ _ _))⟩); have hnb26 := NB168_169.out; have hnc26 := NB169_168.out; have hcz27_0 : wc.cell? ⟨gb168, 0, none⟩ = some (.int .u8 a1_0) := (blk_cell BK168.out 0).trans rfl; have hcz27_1 : wc.cell? ⟨gb168, 1, none⟩ = some (.int .i64 a1_1) := (blk_cell BK168.out 1).trans rfl; have hcz27_2 : wc.cell? ⟨gb168, 2, none⟩ = some (.string a1_2) := (blk_cell BK168.out 2).trans rfl; have hfz27_0 := blk_frozen BK168.out 0; have hfz27_1 := blk_frozen BK168.out 1; have hfz27_2 := blk_frozen BK168.out 2) | (go_at_call 81; (with_reducible refine (cell_size.calls a1_1 t173 _ A20.out).mono ?_); rintro e w' ⟨rfl, ⟨nd, rfl⟩⟩; (try first | exact ⟨rfl, _, World.drewN_drewN _ _ _⟩ | exact ⟨rfl, _, Eq.trans (World.drewN_drewN _ _ _) (congrArg (World.drewN _) (Nat.add_assoc _ _ _))⟩)) | (go_at_call 80; (with_reducible refine (bits_Mul64.calls t172 t173 t174 t175 _ A21.out).mono ?_); rintro e w' ⟨rfl, ⟨nd, rfl⟩⟩; (try first | exact ⟨rfl, _, World.drewN_drewN _ _ _⟩ | exact ⟨rfl, _, Eq.trans (World.drewN_drewN _ _ _) (congrArg (World.drewN _) (Nat.add_assoc _ _ _))⟩)))
    repeat (go_quiet (first | (go_at_call 81; (with_reducible refine (cell_size.calls a0_1 t172 _ A19.out).mono ?_); rintro e w' ⟨rfl, ⟨nd, rfl⟩⟩; (try first | exact ⟨rfl, _, World.drewN_drewN _ _ _⟩ | exact ⟨rfl, _, Eq.trans (World.drewN_drewN _ _ _) (congrArg (World.drewN _) (Nat.add_assoc _ _ _))⟩); have hnb26 := NB168_169.out; have hnc26 := NB169_168.out; have hcz27_0 : wc.cell? ⟨gb168, 0, none⟩ = some (.int .u8 a1_0) := (blk_cell BK168.out 0).trans rfl; have hcz27_1 : wc.cell? ⟨gb168, 1, none⟩ = some (.int .i64 a1_1) := (blk_cell BK168.out 1).trans rfl; have hcz27_2 : wc.cell? ⟨gb168, 2, none⟩ = some (.string a1_2) := (blk_cell BK168.out 2).trans rfl; have hfz27_0 := blk_frozen BK168.out 0; have hfz27_1 := blk_frozen BK168.out 1; have hfz27_2 := blk_frozen BK168.out 2) | (go_at_call 81; (with_reducible refine (cell_size.calls a1_1 t173 _ A20.out).mono ?_); rintro e w' ⟨rfl, ⟨nd, rfl⟩⟩; (try first | exact ⟨rfl, _, World.drewN_drewN _ _ _⟩ | exact ⟨rfl, _, Eq.trans (World.drewN_drewN _ _ _) (congrArg (World.drewN _) (Nat.add_assoc _ _ _))⟩)) | (go_at_call 80; (with_reducible refine (bits_Mul64.calls t172 t173 t174 t175 _ A21.out).mono ?_); rintro e w' ⟨rfl, ⟨nd, rfl⟩⟩; (try first | exact ⟨rfl, _, World.drewN_drewN _ _ _⟩ | exact ⟨rfl, _, Eq.trans (World.drewN_drewN _ _ _) (congrArg (World.drewN _) (Nat.add_assoc _ _ _))⟩))); go_upto_if 42 with (first | (go_at_call 81; (with_reducible refine (cell_size.calls a0_1 t172 _ A19.out).mono ?_); rintro e w' ⟨rfl, ⟨nd, rfl⟩⟩; (try first | exact ⟨rfl, _, World.drewN_drewN _ _ _⟩ | exact ⟨rfl, _, Eq.trans (World.drewN_drewN _ _ _) (congrArg (World.drewN _) (Nat.add_assoc _ _ _))⟩); have hnb26 := NB168_169.out; have hnc26 := NB169_168.out; have hcz27_0 : wc.cell? ⟨gb168, 0, none⟩ = some (.int .u8 a1_0) := (blk_cell BK168.out 0).trans rfl; have hcz27_1 : wc.cell? ⟨gb168, 1, none⟩ = some (.int .i64 a1_1) := (blk_cell BK168.out 1).trans rfl; have hcz27_2 : wc.cell? ⟨gb168, 2, none⟩ = some (.string a1_2) := (blk_cell BK168.out 2).trans rfl; have hfz27_0 := blk_frozen BK168.out 0; have hfz27_1 := blk_frozen BK168.out 1; have hfz27_2 := blk_frozen BK168.out 2) | (go_at_call 81; (with_reducible refine (cell_size.calls a1_1 t173 _ A20.out).mono ?_); rintro e w' ⟨rfl, ⟨nd, rfl⟩⟩; (try first | exact ⟨rfl, _, World.drewN_drewN _ _ _⟩ | exact ⟨rfl, _, Eq.trans (World.drewN_drewN _ _ _) (congrArg (World.drewN _) (Nat.add_assoc _ _ _))⟩)) | (go_at_call 80; (with_reducible refine (bits_Mul64.calls t172 t173 t174 t175 _ A21.out).mono ?_); rintro e w' ⟨rfl, ⟨nd, rfl⟩⟩; (try first | exact ⟨rfl, _, World.drewN_drewN _ _ _⟩ | exact ⟨rfl, _, Eq.trans (World.drewN_drewN _ _ _) (congrArg (World.drewN _) (Nat.add_assoc _ _ _))⟩))))
    (try simp only [Act.put, List.setIfInBounds_toArray, List.set_cons_zero, List.set_cons_succ])
    go_cut [10] (fun v10 wc => ∃ (kq : Nat) (x10_21 : Int), v10 = .int .u64 x10_21 ∧ Aside0 (cell_Mul.j1 kq t174 t175 x10_21 ((decide (a0_1 < 0)) != (decide (a1_1 < 0))) = some (r1, r2, r3, r4)) ∧ Aside0 (kq ≤ kj3) ∧ Aside0 (wc.heap[gb167]? = some (.cells #[.int .u8 a0_0, .int .i64 a0_1, .string a0_2] 35 (0, 0))) ∧ Aside0 (wc.heap[gb168]? = some (.cells #[.int .u8 a1_0, .int .i64 a1_1, .string a1_2] 35 (0, 0))) ∧ Aside0 (wc.heap[gb169]? = some (.cells #[.int .u8 0, .int .i64 0, .string (⟨#[]⟩ : ByteArray)] 35 (0, 0))) ∧ Aside0 (Below w.heap.size w wc))
    case first =>
     have H := HC22.out
     clear HC22
     by_cases c28 : ((decide (a0_1 < 0)) != (decide (a1_1 < 0))) = true
     ·rw [if_pos c28] at H
      have c28b0 : ((decide (a0_1 < 0)) != (decide (a1_1 < 0))) = true := c28
      (try (have c28b1 : decide ((decide (a0_1 < 0)) = (decide (a1_1 < 0))) = false := by simpa using c28))
      (try (have c28b2 : ((decide (a0_1 < 0)) == (decide (a1_1 < 0))) = false := by simpa using c28))
      (try (have c28b3 : (!((decide (a0_1 < 0)) == (decide (a1_1 < 0)))) = true := by first | exact c28 | simpa using c28))
      (try (have c28b4 : ¬ ((decide (a0_1 < 0)) = (decide (a1_1 < 0))) := by simpa using c28))
      clear c28
      (first | rw [c28b0] | (simp only [i64_w, i32_w]; rw [c28b0]) | skip)
      have H' := aM53 H
      clear H
      go_wp2
      repeat (go_quiet (fail); try go_wp2)
      (try (all_goals (try (exact absurd (c28b3.symm.trans (show (!((decide (a0_1 < 0)) == (decide (a1_1 < 0)))) = false by assumption)) (by decide)))))
      go_meet
      case rel => exact ⟨_, (9223372036854775807 + 1), (by first | rfl | (simp; done) | (simp [*]; done)), H', ⟨by have := HJ3.out; first | omega | exact Nat.le_refl _⟩, ⟨by (with_reducible repeat (first | refine bN53 ?_ _ | refine bD53 ?_ | refine bA53 ?_ _)); exact BK167.out⟩, ⟨by (with_reducible repeat (first | refine bN53 ?_ _ | refine bD53 ?_ | refine bA53 ?_ _)); exact BK168.out⟩, ⟨by (with_reducible repeat (first | refine bN53 ?_ _ | refine bD53 ?_ | refine bA53 ?_ _)); exact BK169.out⟩, ⟨by repeat (first | (with_reducible first | exact HB.out | apply below_alloc | apply pw_below_drewN | apply below_drew1 | refine bS53 ?_ GE167.out | refine bS53 ?_ GE168.out | refine bS53 ?_ GE169.out) | exact HB.out)⟩⟩
     ·rw [if_neg c28] at H
      have c28b0 : ((decide (a0_1 < 0)) != (decide (a1_1 < 0))) = false := by simpa using c28
      (try (have c28b1 : decide ((decide (a0_1 < 0)) = (decide (a1_1 < 0))) = true := by simpa using c28))
      (try (have c28b2 : ((decide (a0_1 < 0)) == (decide (a1_1 < 0))) = true := by simpa using c28))
      (try (have c28b3 : (!((decide (a0_1 < 0)) == (decide (a1_1 < 0)))) = false := by first | exact c28 | simpa using c28))
      clear c28
      (first | rw [c28b0] | (simp only [i64_w, i32_w]; rw [c28b0]) | skip)
      have H' := aM53 H
      clear H
      go_wp2
      repeat (go_quiet (fail); try go_wp2)
      (try (all_goals (try (exact absurd (c28b3.symm.trans (show (!((decide (a0_1 < 0)) == (decide (a1_1 < 0)))) = true by assumption)) (by decide)))))
      go_meet
      case rel => exact ⟨_, (9223372036854775807), (by first | rfl | (simp; done) | (simp [*]; done)), H', ⟨by have := HJ3.out; first | omega | exact Nat.le_refl _⟩, ⟨by (with_reducible repeat (first | refine bN53 ?_ _ | refine bD53 ?_ | refine bA53 ?_ _)); exact BK167.out⟩, ⟨by (with_reducible repeat (first | refine bN53 ?_ _ | refine bD53 ?_ | refine bA53 ?_ _)); exact BK168.out⟩, ⟨by (with_reducible repeat (first | refine bN53 ?_ _ | refine bD53 ?_ | refine bA53 ?_ _)); exact BK169.out⟩, ⟨by repeat (first | (with_reducible first | exact HB.out | apply below_alloc | apply pw_below_drewN | apply below_drew1 | refine bS53 ?_ GE167.out | refine bS53 ?_ GE168.out | refine bS53 ?_ GE169.out) | exact HB.out)⟩⟩
    case rest =>
     clear HC22
     try clear c1
     try clear c2
     try clear p2
     try clear c5
     try clear c8
     try clear c9
     try clear c11
     try clear c14
     try clear c14b0
     try clear c14b1
     try clear c15
     try clear c16
     try clear c17
     try clear c23
     try clear c24
     try clear c26
     try clear c28
     try clear c28b0
     try clear c28b1
     try clear c28b2
     try clear hcz10_0
     try clear hcz10_1
     try clear hcz10_2
     try clear hcz12_0
     try clear hcz12_1
     try clear hcz12_2
     try clear hcz18_0
     try clear hcz18_1
     try clear hcz18_2
     try clear hcz25_0
     try clear hcz25_1
     try clear hcz25_2
     try clear hcz27_0
     try clear hcz27_1
     try clear hcz27_2
     try clear hfz10_0
     try clear hfz10_1
     try clear hfz10_2
     try clear hfz12_0
     try clear hfz12_1
     try clear hfz12_2
     try clear hfz18_0
     try clear hfz18_1
     try clear hfz18_2
     try clear hfz25_0
     try clear hfz25_1
     try clear hfz25_2
     try clear hfz27_0
     try clear hfz27_1
     try clear hfz27_2
     try clear p2
     obtain ⟨kq, x10_21, rfl, HA, HJ21, BK167, BK168, BK169, HB⟩ := hcut
     cases kq with
     | zero => exact absurd HA.out (by simp [cell_Mul.j1])
     | succ kj21 =>
      have H := HA.out
      clear HA
      simp only [cell_Mul.j1] at H
      have HC29 := aM53 H
      clear H
      go_upto_region 9 with (fail)
      repeat (go_quiet (fail); go_upto_region 9 with (fail))
      go_cut [51] (fun v51 wc => ∃ (kq : Nat) (x51_28 : Bool), v51 = .bool x51_28 ∧ Aside0 (cell_Mul.j2 kq t175 ((decide (a0_1 < 0)) != (decide (a1_1 < 0))) x51_28 = some (r1, r2, r3, r4)) ∧ Aside0 (kq ≤ kj21) ∧ Aside0 (wc.heap[gb167]? = some (.cells #[.int .u8 a0_0, .int .i64 a0_1, .string a0_2] 35 (0, 0))) ∧ Aside0 (wc.heap[gb168]? = some (.cells #[.int .u8 a1_0, .int .i64 a1_1, .string a1_2] 35 (0, 0))) ∧ Aside0 (wc.heap[gb169]? = some (.cells #[.int .u8 0, .int .i64 0, .string (⟨#[]⟩ : ByteArray)] 35 (0, 0))) ∧ Aside0 (Below w.heap.size w wc))
      case first =>
       have H := HC29.out
       clear HC29
       by_cases c30 : t174 = 0
       ·rw [if_pos c30] at H
        have c30b0 : (t174 == 0) = true := beq_iff_eq.mpr c30
        have c30b1 : (t174 != 0) = false := bne_eq_false_iff_eq.mpr c30
        clear c30
        (first | rw [c30b0] | (simp only [i64_w, i32_w]; rw [c30b0]) | skip)
        have H' := aM53 H
        clear H
        go_wp2
        repeat (go_quiet (fail); try go_wp2)
        go_meet
        case rel => exact ⟨_, (decide (t175 > x10_21)), (by first | rfl | (simp; done) | (simp [*]; done)), H', ⟨by have := HJ3.out; have := HJ21.out; first | omega | exact Nat.le_refl _⟩, ⟨by (with_reducible repeat (first | refine bN53 ?_ _ | refine bD53 ?_ | refine bA53 ?_ _)); exact BK167.out⟩, ⟨by (with_reducible repeat (first | refine bN53 ?_ _ | refine bD53 ?_ | refine bA53 ?_ _)); exact BK168.out⟩, ⟨by (with_reducible repeat (first | refine bN53 ?_ _ | refine bD53 ?_ | refine bA53 ?_ _)); exact BK169.out⟩, ⟨by repeat (first | (with_reducible first | exact HB.out | apply below_alloc | apply pw_below_drewN | apply below_drew1 | refine bS53 ?_ GE167.out | refine bS53 ?_ GE168.out | refine bS53 ?_ GE169.out) | exact HB.out)⟩⟩
       ·rw [if_neg c30] at H
        have c30b0 : (t174 == 0) = false := beq_eq_false_iff_ne.mpr c30
        have c30b1 : (t174 != 0) = true := bne_iff_ne.mpr c30
        (first | rw [c30b0] | (simp only [i64_w, i32_w]; rw [c30b0]) | skip)
        have H' := aM53 H
        clear H
        go_wp2
        repeat (go_quiet (fail); try go_wp2)
        go_meet
        case rel => exact ⟨_, (true), (by first | rfl | (simp; done) | (simp [*]; done)), H', ⟨by have := HJ3.out; have := HJ21.out; first | omega | exact Nat.le_refl _⟩, ⟨by (with_reducible repeat (first | refine bN53 ?_ _ | refine bD53 ?_ | refine bA53 ?_ _)); exact BK167.out⟩, ⟨by (with_reducible repeat (first | refine bN53 ?_ _ | refine bD53 ?_ | refine bA53 ?_ _)); exact BK168.out⟩, ⟨by (with_reducible repeat (first | refine bN53 ?_ _ | refine bD53 ?_ | refine bA53 ?_ _)); exact BK169.out⟩, ⟨by repeat (first | (with_reducible first | exact HB.out | apply below_alloc | apply pw_below_drewN | apply below_drew1 | refine bS53 ?_ GE167.out | refine bS53 ?_ GE168.out | refine bS53 ?_ GE169.out) | exact HB.out)⟩⟩
      case rest =>
       clear HC29
       try clear c1
       try clear c2
       try clear p2
       try clear c3
       try clear c5
       try clear c8
       try clear c9
       try clear c11
       try clear c14
       try clear c14b0
       try clear c14b1
       try clear c15
       try clear c16
       try clear c17
       try clear c23
       try clear c24
       try clear c26
       try clear c28
       try clear c28b0
       try clear c28b1
       try clear c28b2
       try clear c30
       try clear c30b0
       try clear c30b1
       try clear hcz10_0
       try clear hcz10_1
       try clear hcz10_2
       try clear hcz12_0
       try clear hcz12_1
       try clear hcz12_2
       try clear hcz18_0
       try clear hcz18_1
       try clear hcz18_2
       try clear hcz25_0
       try clear hcz25_1
       try clear hcz25_2
       try clear hcz27_0
       try clear hcz27_1
       try clear hcz27_2
       try clear hfz10_0
       try clear hfz10_1
       try clear hfz10_2
       try clear hfz12_0
       try clear hfz12_1
       try clear hfz12_2
       try clear hfz18_0
       try clear hfz18_1
       try clear hfz18_2
       try clear hfz25_0
       try clear hfz25_1
       try clear hfz25_2
       try clear hfz27_0
       try clear hfz27_1
       try clear hfz27_2
       try clear p2
       obtain ⟨kq, x51_28, rfl, HA, HJ28, BK167, BK168, BK169, HB⟩ := hcut
       cases kq with
       | zero => exact absurd HA.out (by simp [cell_Mul.j2])
       | succ kj28 =>
        have H := HA.out
        clear HA
        simp only [cell_Mul.j2] at H
        by_cases c31 : x51_28 = true
        ·subst c31
         have H1 : (some (0, 0, (⟨#[]⟩ : ByteArray), 21)) = some (r1, r2, r3, r4) := by rw [if_pos rfl] at H; exact H
         clear H
         have H := H1
         clear H1
         simp only [Option.some.injEq, Prod.mk.injEq] at H
         obtain ⟨rfl, rfl, rfl, rfl⟩ := H
         have hnb32 := NB169_167.out
         have hnc32 := NB167_169.out
         have hnb33 := NB169_168.out
         have hnc33 := NB168_169.out
         have hcz34_0 : wc.cell? ⟨gb169, 0, none⟩ = some (.int .u8 0) := (blk_cell BK169.out 0).trans rfl
         have hcz34_1 : wc.cell? ⟨gb169, 1, none⟩ = some (.int .i64 0) := (blk_cell BK169.out 1).trans rfl
         have hcz34_2 : wc.cell? ⟨gb169, 2, none⟩ = some (.string (⟨#[]⟩ : ByteArray)) := (blk_cell BK169.out 2).trans rfl
         have hfz34_0 := blk_frozen BK169.out 0
         have hfz34_1 := blk_frozen BK169.out 1
         have hfz34_2 := blk_frozen BK169.out 2
         go_wp2
         repeat (go_quiet (fail); try go_wp2)
         refine bodyPost_ret (results_ct rfl _ _ gb169 35 #[.int .u8 0, .int .i64 0, .string (⟨#[]⟩ : ByteArray)] (0, 0) _ rfl (by (with_reducible repeat (first | refine bN53 ?_ _ | refine bD53 ?_ | refine bA53 ?_ _)); refine blk_put (cs := #[.int .u8 0, .int .i64 0, .string (⟨#[]⟩ : ByteArray)]) ?_ 2 _ rfl; (with_reducible repeat (first | refine bN53 ?_ _ | refine bD53 ?_ | refine bA53 ?_ _)); refine blk_put (cs := #[.int .u8 0, .int .i64 0, .string (⟨#[]⟩ : ByteArray)]) ?_ 1 _ rfl; (with_reducible repeat (first | refine bN53 ?_ _ | refine bD53 ?_ | refine bA53 ?_ _)); refine blk_put (cs := #[.int .u8 0, .int .i64 0, .string (⟨#[]⟩ : ByteArray)]) ?_ 0 _ rfl; (with_reducible repeat (first | refine bN53 ?_ _ | refine bD53 ?_ | refine bA53 ?_ _)); exact BK169.out) Try.underlying35 rfl (by kernel_rfl)) rfl ?_
         exact ⟨by first | rfl | (simp [errW_none, errW_some] <;> rfl) | (simp [*, errW_none, errW_some] <;> rfl), by repeat (first | (with_reducible first | exact HB.out | apply below_alloc | apply pw_below_drewN | apply below_drew1 | refine bS53 ?_ GE167.out | refine bS53 ?_ GE168.out | refine bS53 ?_ GE169.out) | exact HB.out)⟩
        ·replace c31 := Bool.eq_false_iff.mpr c31
         subst c31
         have H1 : (if ((decide (a0_1 < 0)) != (decide (a1_1 < 0))) = true then ((cell_number.f (wrap64 (IntKind.u64.wrap (-t175)))).bind fun bt176 => (some (bt176.1, bt176.2.1, bt176.2.2, 0))) else ((cell_number.f (wrap64 (t175))).bind fun bt179 => (some (bt179.1, bt179.2.1, bt179.2.2, 0)))) = some (r1, r2, r3, r4) := by rw [if_neg (show ¬ (false = true) by decide)] at H; exact H
         clear H
         have H := H1
         clear H1
         by_cases c35 : ((decide (a0_1 < 0)) != (decide (a1_1 < 0))) = true
         ·rw [if_pos c35] at H
          have c35b0 : ((decide (a0_1 < 0)) != (decide (a1_1 < 0))) = true := c35
          (try (have c35b1 : decide ((decide (a0_1 < 0)) = (decide (a1_1 < 0))) = false := by simpa using c35))
          (try (have c35b2 : ((decide (a0_1 < 0)) == (decide (a1_1 < 0))) = false := by simpa using c35))
          (try (have c35b3 : (!((decide (a0_1 < 0)) == (decide (a1_1 < 0)))) = true := by first | exact c35 | simpa using c35))
          (try (have c35b4 : ¬ ((decide (a0_1 < 0)) = (decide (a1_1 < 0))) := by simpa using c35))
          clear c35
          replace H := Option.bind_eq_some_iff.mp H
          obtain ⟨⟨t176, t177, t178⟩, A360, H⟩ := H
          replace H : (some (t176, t177, t178, 0)) = some (r1, r2, r3, r4) := H
          have A36 := aM53 A360
          clear A360
          simp only [Option.some.injEq, Prod.mk.injEq] at H
          obtain ⟨rfl, rfl, rfl, rfl⟩ := H
          go_wp2_with (first | (go_at_call 74; (with_reducible refine (cell_number.calls (wrap64 (IntKind.u64.wrap (-t175))) t176 t177 t178 _ A36.out).mono ?_); rintro e w37 ⟨rfl, hb⟩; have n0_ := aM53 (blk_below (g := gb167) (o := .cells #[.int .u8 a0_0, .int .i64 a0_1, .string a0_2] 35 (0, 0)) (by (with_reducible repeat (first | refine bN53 ?_ _ | refine bD53 ?_ | refine bA53 ?_ _)); exact BK167.out) hb); have n1_ := aM53 (blk_below (g := gb168) (o := .cells #[.int .u8 a1_0, .int .i64 a1_1, .string a1_2] 35 (0, 0)) (by (with_reducible repeat (first | refine bN53 ?_ _ | refine bD53 ?_ | refine bA53 ?_ _)); exact BK168.out) hb); have n2_ := aM53 (blk_below (g := gb169) (o := .cells #[.int .u8 0, .int .i64 0, .string (⟨#[]⟩ : ByteArray)] 35 (0, 0)) (by (with_reducible repeat (first | refine bN53 ?_ _ | refine bD53 ?_ | refine bA53 ?_ _)); exact BK169.out) hb); have n3_ := aM53 (below_step (by repeat (first | (with_reducible first | exact HB.out | apply below_alloc | apply pw_below_drewN | apply below_drew1 | refine bS53 ?_ GE167.out | refine bS53 ?_ GE168.out | refine bS53 ?_ GE169.out) | exact HB.out)) hb); clear BK167; clear BK168; clear BK169; clear HB; have BK167 := n0_; have BK168 := n1_; have BK169 := n2_; have HB := n3_; clear n0_ n1_ n2_ n3_; (try clear hb); (try clear hb2); (try clear hk); (try clear hi); have hnb38 := NB169_167.out; have hnc38 := NB167_169.out; have hnb39 := NB169_168.out; have hnc39 := NB168_169.out; have hcz40_0 : w37.cell? ⟨gb169, 0, none⟩ = some (.int .u8 0) := (blk_cell BK169.out 0).trans rfl; have hcz40_1 : w37.cell? ⟨gb169, 1, none⟩ = some (.int .i64 0) := (blk_cell BK169.out 1).trans rfl; have hcz40_2 : w37.cell? ⟨gb169, 2, none⟩ = some (.string (⟨#[]⟩ : ByteArray)) := (blk_cell BK169.out 2).trans rfl; have hfz40_0 := blk_frozen BK169.out 0; have hfz40_1 := blk_frozen BK169.out 1; have hfz40_2 := blk_frozen BK169.out 2))
          repeat (go_quiet (first | (go_at_call 74; (with_reducible refine (cell_number.calls (wrap64 (IntKind.u64.wrap (-t175))) t176 t177 t178 _ A36.out).mono ?_); rintro e w37 ⟨rfl, hb⟩; have n0_ := aM53 (blk_below (g := gb167) (o := .cells #[.int .u8 a0_0, .int .i64 a0_1, .string a0_2] 35 (0, 0)) (by (with_reducible repeat (first | refine bN53 ?_ _ | refine bD53 ?_ | refine bA53 ?_ _)); exact BK167.out) hb); have n1_ := aM53 (blk_below (g := gb168) (o := .cells #[.int .u8 a1_0, .int .i64 a1_1, .string a1_2] 35 (0, 0)) (by (with_reducible repeat (first | refine bN53 ?_ _ | refine bD53 ?_ | refine bA53 ?_ _)); exact BK168.out) hb); have n2_ := aM53 (blk_below (g := gb169) (o := .cells #[.int .u8 0, .int .i64 0, .string (⟨#[]⟩ : ByteArray)] 35 (0, 0)) (by (with_reducible repeat (first | refine bN53 ?_ _ | refine bD53 ?_ | refine bA53 ?_ _)); exact BK169.out) hb); have n3_ := aM53 (below_step (by repeat (first | (with_reducible first | exact HB.out | apply below_alloc | apply pw_below_drewN | apply below_drew1 | refine bS53 ?_ GE167.out | refine bS53 ?_ GE168.out | refine bS53 ?_ GE169.out) | exact HB.out)) hb); clear BK167; clear BK168; clear BK169; clear HB; have BK167 := n0_; have BK168 := n1_; have BK169 := n2_; have HB := n3_; clear n0_ n1_ n2_ n3_; (try clear hb); (try clear hb2); (try clear hk); (try clear hi); have hnb38 := NB169_167.out; have hnc38 := NB167_169.out; have hnb39 := NB169_168.out; have hnc39 := NB168_169.out; have hcz40_0 : w37.cell? ⟨gb169, 0, none⟩ = some (.int .u8 0) := (blk_cell BK169.out 0).trans rfl; have hcz40_1 : w37.cell? ⟨gb169, 1, none⟩ = some (.int .i64 0) := (blk_cell BK169.out 1).trans rfl; have hcz40_2 : w37.cell? ⟨gb169, 2, none⟩ = some (.string (⟨#[]⟩ : ByteArray)) := (blk_cell BK169.out 2).trans rfl; have hfz40_0 := blk_frozen BK169.out 0; have hfz40_1 := blk_frozen BK169.out 1; have hfz40_2 := blk_frozen BK169.out 2)); try go_wp2_with (first | (go_at_call 74; (with_reducible refine (cell_number.calls (wrap64 (IntKind.u64.wrap (-t175))) t176 t177 t178 _ A36.out).mono ?_); rintro e w37 ⟨rfl, hb⟩; have n0_ := aM53 (blk_below (g := gb167) (o := .cells #[.int .u8 a0_0, .int .i64 a0_1, .string a0_2] 35 (0, 0)) (by (with_reducible repeat (first | refine bN53 ?_ _ | refine bD53 ?_ | refine bA53 ?_ _)); exact BK167.out) hb); have n1_ := aM53 (blk_below (g := gb168) (o := .cells #[.int .u8 a1_0, .int .i64 a1_1, .string a1_2] 35 (0, 0)) (by (with_reducible repeat (first | refine bN53 ?_ _ | refine bD53 ?_ | refine bA53 ?_ _)); exact BK168.out) hb); have n2_ := aM53 (blk_below (g := gb169) (o := .cells #[.int .u8 0, .int .i64 0, .string (⟨#[]⟩ : ByteArray)] 35 (0, 0)) (by (with_reducible repeat (first | refine bN53 ?_ _ | refine bD53 ?_ | refine bA53 ?_ _)); exact BK169.out) hb); have n3_ := aM53 (below_step (by repeat (first | (with_reducible first | exact HB.out | apply below_alloc | apply pw_below_drewN | apply below_drew1 | refine bS53 ?_ GE167.out | refine bS53 ?_ GE168.out | refine bS53 ?_ GE169.out) | exact HB.out)) hb); clear BK167; clear BK168; clear BK169; clear HB; have BK167 := n0_; have BK168 := n1_; have BK169 := n2_; have HB := n3_; clear n0_ n1_ n2_ n3_; (try clear hb); (try clear hb2); (try clear hk); (try clear hi); have hnb38 := NB169_167.out; have hnc38 := NB167_169.out; have hnb39 := NB169_168.out; have hnc39 := NB168_169.out; have hcz40_0 : w37.cell? ⟨gb169, 0, none⟩ = some (.int .u8 0) := (blk_cell BK169.out 0).trans rfl; have hcz40_1 : w37.cell? ⟨gb169, 1, none⟩ = some (.int .i64 0) := (blk_cell BK169.out 1).trans rfl; have hcz40_2 : w37.cell? ⟨gb169, 2, none⟩ = some (.string (⟨#[]⟩ : ByteArray)) := (blk_cell BK169.out 2).trans rfl; have hfz40_0 := blk_frozen BK169.out 0; have hfz40_1 := blk_frozen BK169.out 1; have hfz40_2 := blk_frozen BK169.out 2)))
          (try (all_goals (try (exact absurd (c35b3.symm.trans (show (!((decide (a0_1 < 0)) == (decide (a1_1 < 0)))) = false by assumption)) (by decide)))))
          refine bodyPost_ret (results_ct rfl _ _ gb169 35 #[.int .u8 t176, .int .i64 t177, .string t178] (0, 0) _ rfl (by (with_reducible repeat (first | refine bN53 ?_ _ | refine bD53 ?_ | refine bA53 ?_ _)); refine blk_put (cs := #[.int .u8 t176, .int .i64 t177, .string (⟨#[]⟩ : ByteArray)]) ?_ 2 _ rfl; (with_reducible repeat (first | refine bN53 ?_ _ | refine bD53 ?_ | refine bA53 ?_ _)); refine blk_put (cs := #[.int .u8 t176, .int .i64 0, .string (⟨#[]⟩ : ByteArray)]) ?_ 1 _ rfl; (with_reducible repeat (first | refine bN53 ?_ _ | refine bD53 ?_ | refine bA53 ?_ _)); refine blk_put (cs := #[.int .u8 0, .int .i64 0, .string (⟨#[]⟩ : ByteArray)]) ?_ 0 _ rfl; (with_reducible repeat (first | refine bN53 ?_ _ | refine bD53 ?_ | refine bA53 ?_ _)); exact BK169.out) Try.underlying35 rfl (by kernel_rfl)) rfl ?_
          exact ⟨by first | rfl | (simp [errW_none, errW_some] <;> rfl) | (simp [*, errW_none, errW_some] <;> rfl), by repeat (first | (with_reducible first | exact HB.out | apply below_alloc | apply pw_below_drewN | apply below_drew1 | refine bS53 ?_ GE167.out | refine bS53 ?_ GE168.out | refine bS53 ?_ GE169.out) | exact HB.out)⟩
         ·rw [if_neg c35] at H
          have c35b0 : ((decide (a0_1 < 0)) != (decide (a1_1 < 0))) = false := by simpa using c35
          (try (have c35b1 : decide ((decide (a0_1 < 0)) = (decide (a1_1 < 0))) = true := by simpa using c35))
          (try (have c35b2 : ((decide (a0_1 < 0)) == (decide (a1_1 < 0))) = true := by simpa using c35))
          (try (have c35b3 : (!((decide (a0_1 < 0)) == (decide (a1_1 < 0)))) = false := by first | exact c35 | simpa using c35))
          clear c35
          replace H := Option.bind_eq_some_iff.mp H
          obtain ⟨⟨t179, t180, t181⟩, A410, H⟩ := H
          replace H : (some (t179, t180, t181, 0)) = some (r1, r2, r3, r4) := H
          have A41 := aM53 A410
          clear A410
          simp only [Option.some.injEq, Prod.mk.injEq] at H
          obtain ⟨rfl, rfl, rfl, rfl⟩ := H
          go_wp2_with (first | (go_at_call 74; (with_reducible refine (cell_number.calls (wrap64 (t175)) t179 t180 t181 _ A41.out).mono ?_); rintro e w42 ⟨rfl, hb⟩; have n0_ := aM53 (blk_below (g := gb167) (o := .cells #[.int .u8 a0_0, .int .i64 a0_1, .string a0_2] 35 (0, 0)) (by (with_reducible repeat (first | refine bN53 ?_ _ | refine bD53 ?_ | refine bA53 ?_ _)); exact BK167.out) hb); have n1_ := aM53 (blk_below (g := gb168) (o := .cells #[.int .u8 a1_0, .int .i64 a1_1, .string a1_2] 35 (0, 0)) (by (with_reducible repeat (first | refine bN53 ?_ _ | refine bD53 ?_ | refine bA53 ?_ _)); exact BK168.out) hb); have n2_ := aM53 (blk_below (g := gb169) (o := .cells #[.int .u8 0, .int .i64 0, .string (⟨#[]⟩ : ByteArray)] 35 (0, 0)) (by (with_reducible repeat (first | refine bN53 ?_ _ | refine bD53 ?_ | refine bA53 ?_ _)); exact BK169.out) hb); have n3_ := aM53 (below_step (by repeat (first | (with_reducible first | exact HB.out | apply below_alloc | apply pw_below_drewN | apply below_drew1 | refine bS53 ?_ GE167.out | refine bS53 ?_ GE168.out | refine bS53 ?_ GE169.out) | exact HB.out)) hb); clear BK167; clear BK168; clear BK169; clear HB; have BK167 := n0_; have BK168 := n1_; have BK169 := n2_; have HB := n3_; clear n0_ n1_ n2_ n3_; (try clear hb); (try clear hb2); (try clear hk); (try clear hi); have hnb43 := NB169_167.out; have hnc43 := NB167_169.out; have hnb44 := NB169_168.out; have hnc44 := NB168_169.out; have hcz45_0 : w42.cell? ⟨gb169, 0, none⟩ = some (.int .u8 0) := (blk_cell BK169.out 0).trans rfl; have hcz45_1 : w42.cell? ⟨gb169, 1, none⟩ = some (.int .i64 0) := (blk_cell BK169.out 1).trans rfl; have hcz45_2 : w42.cell? ⟨gb169, 2, none⟩ = some (.string (⟨#[]⟩ : ByteArray)) := (blk_cell BK169.out 2).trans rfl; have hfz45_0 := blk_frozen BK169.out 0; have hfz45_1 := blk_frozen BK169.out 1; have hfz45_2 := blk_frozen BK169.out 2))
          repeat (go_quiet (first | (go_at_call 74; (with_reducible refine (cell_number.calls (wrap64 (t175)) t179 t180 t181 _ A41.out).mono ?_); rintro e w42 ⟨rfl, hb⟩; have n0_ := aM53 (blk_below (g := gb167) (o := .cells #[.int .u8 a0_0, .int .i64 a0_1, .string a0_2] 35 (0, 0)) (by (with_reducible repeat (first | refine bN53 ?_ _ | refine bD53 ?_ | refine bA53 ?_ _)); exact BK167.out) hb); have n1_ := aM53 (blk_below (g := gb168) (o := .cells #[.int .u8 a1_0, .int .i64 a1_1, .string a1_2] 35 (0, 0)) (by (with_reducible repeat (first | refine bN53 ?_ _ | refine bD53 ?_ | refine bA53 ?_ _)); exact BK168.out) hb); have n2_ := aM53 (blk_below (g := gb169) (o := .cells #[.int .u8 0, .int .i64 0, .string (⟨#[]⟩ : ByteArray)] 35 (0, 0)) (by (with_reducible repeat (first | refine bN53 ?_ _ | refine bD53 ?_ | refine bA53 ?_ _)); exact BK169.out) hb); have n3_ := aM53 (below_step (by repeat (first | (with_reducible first | exact HB.out | apply below_alloc | apply pw_below_drewN | apply below_drew1 | refine bS53 ?_ GE167.out | refine bS53 ?_ GE168.out | refine bS53 ?_ GE169.out) | exact HB.out)) hb); clear BK167; clear BK168; clear BK169; clear HB; have BK167 := n0_; have BK168 := n1_; have BK169 := n2_; have HB := n3_; clear n0_ n1_ n2_ n3_; (try clear hb); (try clear hb2); (try clear hk); (try clear hi); have hnb43 := NB169_167.out; have hnc43 := NB167_169.out; have hnb44 := NB169_168.out; have hnc44 := NB168_169.out; have hcz45_0 : w42.cell? ⟨gb169, 0, none⟩ = some (.int .u8 0) := (blk_cell BK169.out 0).trans rfl; have hcz45_1 : w42.cell? ⟨gb169, 1, none⟩ = some (.int .i64 0) := (blk_cell BK169.out 1).trans rfl; have hcz45_2 : w42.cell? ⟨gb169, 2, none⟩ = some (.string (⟨#[]⟩ : ByteArray)) := (blk_cell BK169.out 2).trans rfl; have hfz45_0 := blk_frozen BK169.out 0; have hfz45_1 := blk_frozen BK169.out 1; have hfz45_2 := blk_frozen BK169.out 2)); try go_wp2_with (first | (go_at_call 74; (with_reducible refine (cell_number.calls (wrap64 (t175)) t179 t180 t181 _ A41.out).mono ?_); rintro e w42 ⟨rfl, hb⟩; have n0_ := aM53 (blk_below (g := gb167) (o := .cells #[.int .u8 a0_0, .int .i64 a0_1, .string a0_2] 35 (0, 0)) (by (with_reducible repeat (first | refine bN53 ?_ _ | refine bD53 ?_ | refine bA53 ?_ _)); exact BK167.out) hb); have n1_ := aM53 (blk_below (g := gb168) (o := .cells #[.int .u8 a1_0, .int .i64 a1_1, .string a1_2] 35 (0, 0)) (by (with_reducible repeat (first | refine bN53 ?_ _ | refine bD53 ?_ | refine bA53 ?_ _)); exact BK168.out) hb); have n2_ := aM53 (blk_below (g := gb169) (o := .cells #[.int .u8 0, .int .i64 0, .string (⟨#[]⟩ : ByteArray)] 35 (0, 0)) (by (with_reducible repeat (first | refine bN53 ?_ _ | refine bD53 ?_ | refine bA53 ?_ _)); exact BK169.out) hb); have n3_ := aM53 (below_step (by repeat (first | (with_reducible first | exact HB.out | apply below_alloc | apply pw_below_drewN | apply below_drew1 | refine bS53 ?_ GE167.out | refine bS53 ?_ GE168.out | refine bS53 ?_ GE169.out) | exact HB.out)) hb); clear BK167; clear BK168; clear BK169; clear HB; have BK167 := n0_; have BK168 := n1_; have BK169 := n2_; have HB := n3_; clear n0_ n1_ n2_ n3_; (try clear hb); (try clear hb2); (try clear hk); (try clear hi); have hnb43 := NB169_167.out; have hnc43 := NB167_169.out; have hnb44 := NB169_168.out; have hnc44 := NB168_169.out; have hcz45_0 : w42.cell? ⟨gb169, 0, none⟩ = some (.int .u8 0) := (blk_cell BK169.out 0).trans rfl; have hcz45_1 : w42.cell? ⟨gb169, 1, none⟩ = some (.int .i64 0) := (blk_cell BK169.out 1).trans rfl; have hcz45_2 : w42.cell? ⟨gb169, 2, none⟩ = some (.string (⟨#[]⟩ : ByteArray)) := (blk_cell BK169.out 2).trans rfl; have hfz45_0 := blk_frozen BK169.out 0; have hfz45_1 := blk_frozen BK169.out 1; have hfz45_2 := blk_frozen BK169.out 2)))
          (try (all_goals (try (exact absurd (c35b3.symm.trans (show (!((decide (a0_1 < 0)) == (decide (a1_1 < 0)))) = true by assumption)) (by decide)))))
          refine bodyPost_ret (results_ct rfl _ _ gb169 35 #[.int .u8 t179, .int .i64 t180, .string t181] (0, 0) _ rfl (by (with_reducible repeat (first | refine bN53 ?_ _ | refine bD53 ?_ | refine bA53 ?_ _)); refine blk_put (cs := #[.int .u8 t179, .int .i64 t180, .string (⟨#[]⟩ : ByteArray)]) ?_ 2 _ rfl; (with_reducible repeat (first | refine bN53 ?_ _ | refine bD53 ?_ | refine bA53 ?_ _)); refine blk_put (cs := #[.int .u8 t179, .int .i64 0, .string (⟨#[]⟩ : ByteArray)]) ?_ 1 _ rfl; (with_reducible repeat (first | refine bN53 ?_ _ | refine bD53 ?_ | refine bA53 ?_ _)); refine blk_put (cs := #[.int .u8 0, .int .i64 0, .string (⟨#[]⟩ : ByteArray)]) ?_ 0 _ rfl; (with_reducible repeat (first | refine bN53 ?_ _ | refine bD53 ?_ | refine bA53 ?_ _)); exact BK169.out) Try.underlying35 rfl (by kernel_rfl)) rfl ?_
          exact ⟨by first | rfl | (simp [errW_none, errW_some] <;> rfl) | (simp [*, errW_none, errW_some] <;> rfl), by repeat (first | (with_reducible first | exact HB.out | apply below_alloc | apply pw_below_drewN | apply below_drew1 | refine bS53 ?_ GE167.out | refine bS53 ?_ GE168.out | refine bS53 ?_ GE169.out) | exact HB.out)⟩

end Go.Proofs.Ytefpnnljflcmbaa.PCe
