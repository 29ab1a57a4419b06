-- Written by a program of this session (wip/tool), which goes by the kit's print.
import Derived.Test.YtefpnnljflcmbaaPCex0
import Derived.Test.YtefpnnljflcmbaaPCex1
import Derived.Test.YtefpnnljflcmbaaPCex2
import Derived.Test.YtefpnnljflcmbaaPCex7
import Derived.Test.YtefpnnljflcmbaaPCex9
import Derived.Test.YtefpnnljflcmbaaPCex14
import Derived.Test.YtefpnnljflcmbaaPCex20
import Derived.Test.YtefpnnljflcmbaaPCex21
import Derived.Test.YtefpnnljflcmbaaPCex23
import Derived.Test.YtefpnnljflcmbaaPCex24
import Derived.Test.YtefpnnljflcmbaaPCex25
import Derived.Test.YtefpnnljflcmbaaPCex26
import Derived.Test.YtefpnnljflcmbaaPCex27
import Derived.Test.YtefpnnljflcmbaaPCex28
namespace Go.Proofs.Ytefpnnljflcmbaa.PCe
open Go.RowKit Go.Proofs.YtefpnnljflcmbaaW.PrintWords Go.Proofs.YtefpnnljflcmbaaW.PrintLast Go.Proofs.YtefpnnljflcmbaaW.PrintMore
attribute [local go_sem] max2_int min2_int max_two min_two max_three min_three max_four min_four   -- for this text's walks alone
set_option linter.unusedVariables false
set_option linter.unusedSimpArgs false

attribute [local go_sem high] eqA35
/-! ### hindsightlaw02_CellTruths: function 8 -/
theorem bN8 : type_of% @blk_drewN := @blk_drewN
theorem bD8 : type_of% @blk_drew := @blk_drew
theorem bA8 : type_of% @blk_alloc := @blk_alloc
theorem bB8 : type_of% @blk_below := @blk_below
theorem bS8 : type_of% @below_set := @below_set
theorem aM8 : type_of% @Aside0.mk := @Aside0.mk
mutual
def hindsightlaw02_CellTruths.j0 : Nat → Bool → Int → Int → ByteArray → Int → Int → ByteArray → Option (Bool)
 | 0, _, _, _, _, _, _, _ => none
 | k + 1, x37, x409000, x409001, x409002, x410000, x410001, x410002 => if x37 = true then (none) else ((cell_And.f k x409000 x409001 x409002 x410000 x410001 x410002).bind fun bt422 => ((hindsightref02_And.f k x409000 x409001 x409002 x410000 x410001 x410002).bind fun bt426 => (if (!(bt422.1 == bt426.1) || (!(bt422.2.1 == bt426.2.1) || (!(bt422.2.2.1.toList == bt426.2.2.1.toList)))) = true then (hindsightlaw02_CellTruths.j1 k true x409000 x409001 x409002 x410000 x410001 x410002) else (hindsightlaw02_CellTruths.j1 k (bt422.2.2.2 != bt426.2.2.2) x409000 x409001 x409002 x410000 x410001 x410002))))
def hindsightlaw02_CellTruths.j1 : Nat → Bool → Int → Int → ByteArray → Int → Int → ByteArray → Option (Bool)
 | 0, _, _, _, _, _, _, _ => none
 | k + 1, x57, x409000, x409001, x409002, x410000, x410001, x410002 => if x57 = true then (none) else ((cell_Or.f k x409000 x409001 x409002 x410000 x410001 x410002).bind fun bt430 => ((hindsightref02_Or.f k x409000 x409001 x409002 x410000 x410001 x410002).bind fun bt434 => (if (!(bt430.1 == bt434.1) || (!(bt430.2.1 == bt434.2.1) || (!(bt430.2.2.1.toList == bt434.2.2.1.toList)))) = true then (hindsightlaw02_CellTruths.j2 k true x409000 x409001 x409002) else (hindsightlaw02_CellTruths.j2 k (bt430.2.2.2 != bt434.2.2.2) x409000 x409001 x409002))))
def hindsightlaw02_CellTruths.j2 : Nat → Bool → Int → Int → ByteArray → Option (Bool)
 | 0, _, _, _, _ => none
 | k + 1, x77, x409000, x409001, x409002 => if x77 = true then (none) else ((cell_Not.f x409000 x409001 x409002).bind fun bt438 => ((hindsightref02_Not.f x409000 x409001 x409002).bind fun bt442 => ((cell_Truth.f x409000 x409001 x409002).bind fun bt446 => ((hindsightref02_Truth.f x409000 x409001 x409002).bind fun bt449 => ((hindsightlaw02_alive.f k).bind fun t451 => (if t451 = true then (if (bt438.1 == bt442.1 && (bt438.2.1 == bt442.2.1 && (bt438.2.2.1.toList == bt442.2.2.1.toList))) = true then (if bt438.2.2.2 = bt442.2.2.2 then (if (bt446.1 == (bt449.1 == 1)) = true then (if bt449.2 = 0 then (if (bt446.2.1 == (bt449.1 != 2)) = true then (some (bt446.2.2 == bt449.2)) else (none)) else (if (bt446.2.1 == false) = true then (some (bt446.2.2 == bt449.2)) else (none))) else (none)) else (none)) else (none)) else (none)))))))
end
def hindsightlaw02_CellTruths.f (k : Nat) (a0_0 : Int) (a0_1 : Int) (a0_2 : ByteArray) (a1_0 : Int) (a1_1 : Int) (a1_2 : ByteArray) : Option (Bool) := (hindsightlaw02_great.f a0_0 a0_1 a0_2 a1_0 a1_1 a1_2).bind fun t410 => (if t410 = true then ((hindsightlaw02_alive.f k).bind fun t411 => (some t411)) else ((cell_Join.f k a0_0 a0_1 a0_2 a1_0 a1_1 a1_2).bind fun bt412 => ((hindsightref02_Join.f k a0_0 a0_1 a0_2 a1_0 a1_1 a1_2).bind fun bt417 => (if (!(bt412.1 == bt417.1) || (!(bt412.2.1 == bt417.2.1) || (!(bt412.2.2.1.toList == bt417.2.2.1.toList)))) = true then (hindsightlaw02_CellTruths.j0 k true a0_0 a0_1 a0_2 a1_0 a1_1 a1_2) else (hindsightlaw02_CellTruths.j0 k (bt412.2.2.2 != bt417.2.2.2) a0_0 a0_1 a0_2 a1_0 a1_1 a1_2)))))
theorem hindsightlaw02_CellTruths.mono_l : ∀ k, (∀ y0 y1 y2 y3 y4 y5 y6, LeO (hindsightlaw02_CellTruths.j0 k y0 y1 y2 y3 y4 y5 y6) (hindsightlaw02_CellTruths.j0 (k + 1) y0 y1 y2 y3 y4 y5 y6)) ∧ (∀ y0 y1 y2 y3 y4 y5 y6, LeO (hindsightlaw02_CellTruths.j1 k y0 y1 y2 y3 y4 y5 y6) (hindsightlaw02_CellTruths.j1 (k + 1) y0 y1 y2 y3 y4 y5 y6)) ∧ (∀ y0 y1 y2 y3, LeO (hindsightlaw02_CellTruths.j2 k y0 y1 y2 y3) (hindsightlaw02_CellTruths.j2 (k + 1) y0 y1 y2 y3))
 | 0 => ⟨fun _ _ _ _ _ _ _ r h => by simp [hindsightlaw02_CellTruths.j0] at h, fun _ _ _ _ _ _ _ r h => by simp [hindsightlaw02_CellTruths.j1] at h, fun _ _ _ _ r h => by simp [hindsightlaw02_CellTruths.j2] at h⟩
 | k + 1 => by
  obtain ⟨ih0, ih1, ih2⟩ := hindsightlaw02_CellTruths.mono_l k
  refine ⟨?_, ?_, ?_⟩
  ·intro y0 y1 y2 y3 y4 y5 y6
   unfold hindsightlaw02_CellTruths.j0
   repeat' first
   | (with_reducible exact ih0 _ _ _ _ _ _ _)
   | (with_reducible exact ih1 _ _ _ _ _ _ _)
   | (with_reducible exact ih2 _ _ _ _)
   | (with_reducible exact cell_And.mono _ _ _ _ _ _ _)
   | (with_reducible exact cell_Join.mono _ _ _ _ _ _ _)
   | (with_reducible exact cell_Or.mono _ _ _ _ _ _ _)
   | (with_reducible exact hindsightlaw02_alive.mono _)
   | (with_reducible exact hindsightref02_And.mono _ _ _ _ _ _ _)
   | (with_reducible exact hindsightref02_Join.mono _ _ _ _ _ _ _)
   | (with_reducible exact hindsightref02_Or.mono _ _ _ _ _ _ _)
   | (with_reducible exact LeO.refl _)
   | (with_reducible exact LeO.none _)
   | (with_reducible refine LeO.ite ?_ ?_)
   | (with_reducible refine LeO.bind ?_ (fun _ => ?_))
   | exact ih0 _ _ _ _ _ _ _
   | exact ih1 _ _ _ _ _ _ _
   | exact ih2 _ _ _ _
   | exact cell_And.mono _ _ _ _ _ _ _
   | exact cell_Join.mono _ _ _ _ _ _ _
   | exact cell_Or.mono _ _ _ _ _ _ _
   | exact hindsightlaw02_alive.mono _
   | exact hindsightref02_And.mono _ _ _ _ _ _ _
   | exact hindsightref02_Join.mono _ _ _ _ _ _ _
   | exact hindsightref02_Or.mono _ _ _ _ _ _ _
   | exact LeO.none _
   | refine LeO.ite ?_ ?_
   | refine LeO.bind ?_ (fun _ => ?_)
  ·intro y0 y1 y2 y3 y4 y5 y6
   unfold hindsightlaw02_CellTruths.j1
   repeat' first
   | (with_reducible exact ih0 _ _ _ _ _ _ _)
   | (with_reducible exact ih1 _ _ _ _ _ _ _)
   | (with_reducible exact ih2 _ _ _ _)
   | (with_reducible exact cell_And.mono _ _ _ _ _ _ _)
   | (with_reducible exact cell_Join.mono _ _ _ _ _ _ _)
   | (with_reducible exact cell_Or.mono _ _ _ _ _ _ _)
   | (with_reducible exact hindsightlaw02_alive.mono _)
   | (with_reducible exact hindsightref02_And.mono _ _ _ _ _ _ _)
   | (with_reducible exact hindsightref02_Join.mono _ _ _ _ _ _ _)
   | (with_reducible exact hindsightref02_Or.mono _ _ _ _ _ _ _)
   | (with_reducible exact LeO.refl _)
   | (with_reducible exact LeO.none _)
   | (with_reducible refine LeO.ite ?_ ?_)
   | (with_reducible refine LeO.bind ?_ (fun _ => ?_))
   | exact ih0 _ _ _ _ _ _ _
   | exact ih1 _ _ _ _ _ _ _
   | exact ih2 _ _ _ _
   | exact cell_And.mono _ _ _ _ _ _ _
   | exact cell_Join.mono _ _ _ _ _ _ _
   | exact cell_Or.mono _ _ _ _ _ _ _
   | exact hindsightlaw02_alive.mono _
   | exact hindsightref02_And.mono _ _ _ _ _ _ _
   | exact hindsightref02_Join.mono _ _ _ _ _ _ _
   | exact hindsightref02_Or.mono _ _ _ _ _ _ _
   | exact LeO.none _
   | refine LeO.ite ?_ ?_
   | refine LeO.bind ?_ (fun _ => ?_)
  ·intro y0 y1 y2 y3
   unfold hindsightlaw02_CellTruths.j2
   repeat' first
   | (with_reducible exact ih0 _ _ _ _ _ _ _)
   | (with_reducible exact ih1 _ _ _ _ _ _ _)
   | (with_reducible exact ih2 _ _ _ _)
   | (with_reducible exact cell_And.mono _ _ _ _ _ _ _)
   | (with_reducible exact cell_Join.mono _ _ _ _ _ _ _)
   | (with_reducible exact cell_Or.mono _ _ _ _ _ _ _)
   | (with_reducible exact hindsightlaw02_alive.mono _)
   | (with_reducible exact hindsightref02_And.mono _ _ _ _ _ _ _)
   | (with_reducible exact hindsightref02_Join.mono _ _ _ _ _ _ _)
   | (with_reducible exact hindsightref02_Or.mono _ _ _ _ _ _ _)
   | (with_reducible exact LeO.refl _)
   | (with_reducible exact LeO.none _)
   | (with_reducible refine LeO.ite ?_ ?_)
   | (with_reducible refine LeO.bind ?_ (fun _ => ?_))
   | exact ih0 _ _ _ _ _ _ _
   | exact ih1 _ _ _ _ _ _ _
   | exact ih2 _ _ _ _
   | exact cell_And.mono _ _ _ _ _ _ _
   | exact cell_Join.mono _ _ _ _ _ _ _
   | exact cell_Or.mono _ _ _ _ _ _ _
   | exact hindsightlaw02_alive.mono _
   | exact hindsightref02_And.mono _ _ _ _ _ _ _
   | exact hindsightref02_Join.mono _ _ _ _ _ _ _
   | exact hindsightref02_Or.mono _ _ _ _ _ _ _
   | exact LeO.none _
   | refine LeO.ite ?_ ?_
   | refine LeO.bind ?_ (fun _ => ?_)
theorem hindsightlaw02_CellTruths.mono : ∀ a0 a1 a2 a3 a4 a5 k, LeO (hindsightlaw02_CellTruths.f k a0 a1 a2 a3 a4 a5) (hindsightlaw02_CellTruths.f (k + 1) a0 a1 a2 a3 a4 a5) := by
 intro a0 a1 a2 a3 a4 a5 k
 obtain ⟨ih0, ih1, ih2⟩ := hindsightlaw02_CellTruths.mono_l k
 unfold hindsightlaw02_CellTruths.f
 repeat' first
   | (with_reducible exact ih0 _ _ _ _ _ _ _)
   | (with_reducible exact ih1 _ _ _ _ _ _ _)
   | (with_reducible exact ih2 _ _ _ _)
   | (with_reducible exact cell_And.mono _ _ _ _ _ _ _)
   | (with_reducible exact cell_Join.mono _ _ _ _ _ _ _)
   | (with_reducible exact cell_Or.mono _ _ _ _ _ _ _)
   | (with_reducible exact hindsightlaw02_alive.mono _)
   | (with_reducible exact hindsightref02_And.mono _ _ _ _ _ _ _)
   | (with_reducible exact hindsightref02_Join.mono _ _ _ _ _ _ _)
   | (with_reducible exact hindsightref02_Or.mono _ _ _ _ _ _ _)
   | (with_reducible exact LeO.refl _)
   | (with_reducible exact LeO.none _)
   | (with_reducible refine LeO.ite ?_ ?_)
   | (with_reducible refine LeO.bind ?_ (fun _ => ?_))
   | exact ih0 _ _ _ _ _ _ _
   | exact ih1 _ _ _ _ _ _ _
   | exact ih2 _ _ _ _
   | exact cell_And.mono _ _ _ _ _ _ _
   | exact cell_Join.mono _ _ _ _ _ _ _
   | exact cell_Or.mono _ _ _ _ _ _ _
   | exact hindsightlaw02_alive.mono _
   | exact hindsightref02_And.mono _ _ _ _ _ _ _
   | exact hindsightref02_Join.mono _ _ _ _ _ _ _
   | exact hindsightref02_Or.mono _ _ _ _ _ _ _
   | exact LeO.none _
   | refine LeO.ite ?_ ?_
   | refine LeO.bind ?_ (fun _ => ?_)
set_option maxHeartbeats 8000000 in
set_option maxRecDepth 100000 in
theorem hindsightlaw02_CellTruths.calls (k : Nat) (a0_0 : Int) (a0_1 : Int) (a0_2 : ByteArray) (a1_0 : Int) (a1_1 : Int) (a1_2 : ByteArray) (r : Bool) (w : World) (h : hindsightlaw02_CellTruths.f k a0_0 a0_1 a0_2 a1_0 a1_1 a1_2 = some r) :
  Calls Try.prog 8 #[.agg #[.int .u8 a0_0, .int .i64 a0_1, .string a0_2], .agg #[.int .u8 a1_0, .int .i64 a1_1, .string a1_2]] w fun e w' => e = .returned (.bool r) ∧ Below w.heap.size w w' := by
 have hu35 := Try.underlying35
 have HB := aM8 (Below.refl w.heap.size w)
 have H : ((hindsightlaw02_great.f a0_0 a0_1 a0_2 a1_0 a1_1 a1_2).bind fun t410 => (if t410 = true then ((hindsightlaw02_alive.f k).bind fun t411 => (some t411)) else ((cell_Join.f k a0_0 a0_1 a0_2 a1_0 a1_1 a1_2).bind fun bt412 => ((hindsightref02_Join.f k a0_0 a0_1 a0_2 a1_0 a1_1 a1_2).bind fun bt417 => (if (!(bt412.1 == bt417.1) || (!(bt412.2.1 == bt417.2.1) || (!(bt412.2.2.1.toList == bt417.2.2.1.toList)))) = true then (hindsightlaw02_CellTruths.j0 k true a0_0 a0_1 a0_2 a1_0 a1_1 a1_2) else (hindsightlaw02_CellTruths.j0 k (bt412.2.2.2 != bt417.2.2.2) a0_0 a0_1 a0_2 a1_0 a1_1 a1_2)))))) = some r := h
 clear h
 replace H := Option.bind_eq_some_iff.mp H
 obtain ⟨t410, A30, H⟩ := H
 replace H : (if t410 = true then ((hindsightlaw02_alive.f k).bind fun t411 => (some t411)) else ((cell_Join.f k a0_0 a0_1 a0_2 a1_0 a1_1 a1_2).bind fun bt412 => ((hindsightref02_Join.f k a0_0 a0_1 a0_2 a1_0 a1_1 a1_2).bind fun bt417 => (if (!(bt412.1 == bt417.1) || (!(bt412.2.1 == bt417.2.1) || (!(bt412.2.2.1.toList == bt417.2.2.1.toList)))) = true then (hindsightlaw02_CellTruths.j0 k true a0_0 a0_1 a0_2 a1_0 a1_1 a1_2) else (hindsightlaw02_CellTruths.j0 k (bt412.2.2.2 != bt417.2.2.2) a0_0 a0_1 a0_2 a1_0 a1_1 a1_2))))) = some r := H
 have A3 := aM8 A30
 clear A30
 by_cases c4 : t410 = true
 ·subst c4
  have H1 : ((hindsightlaw02_alive.f k).bind fun t411 => (some t411)) = some r := by rw [if_pos rfl] at H; exact H
  clear H
  have H := H1
  clear H1
  replace H := Option.bind_eq_some_iff.mp H
  obtain ⟨t411, A50, H⟩ := H
  replace H : (some t411) = some r := H
  have A5 := aM8 A50
  clear A50
  obtain rfl := Option.some.inj H
  go_enter Try.func8, Try.ntmps8
  go_wp2_with (first | ((with_reducible refine gate_dst (N := 2) rfl ?_); refine box_event ?hg (N := 2) ?hd (cs := #[.int .u8 a0_0, .int .i64 a0_1, .string a0_2]) (t := 35) ?hr ?_; (case hd => rfl); (case hg => rfl); (case hr => first | (go_simp; done) | (go_simp; rfl)); intro gb408 hg w6 hbox hb; have n0_ := aM8 (below_step (by repeat (first | (with_reducible first | exact HB.out | apply below_alloc | apply pw_below_drewN | apply below_drew1) | exact HB.out)) hb); have n1_ := aM8 (hbox); have n2_ := aM8 ((by rw [hg]; exact (below_size (by repeat (first | (with_reducible first | exact HB.out | apply below_alloc | apply pw_below_drewN | apply below_drew1) | exact HB.out))) : w.heap.size ≤ gb408)); have n3_ := aM8 ((by rw [hg]; exact (below_size (by repeat (first | (with_reducible first | exact HB.out | apply below_alloc | apply pw_below_drewN | apply below_drew1) | exact HB.out))) : w.heap.size ≤ gb408)); clear HB; have HB := n0_; have BK408 := n1_; have GW408 := n2_; have GE408 := n3_; clear n0_ n1_ n2_ n3_; clear hb hbox hg) | ((with_reducible refine gate_dst (N := 3) rfl ?_); refine box_event ?hg (N := 3) ?hd (cs := #[.int .u8 a1_0, .int .i64 a1_1, .string a1_2]) (t := 35) ?hr ?_; (case hd => rfl); (case hg => rfl); (case hr => first | (go_simp; done) | (go_simp; rfl)); intro gb409 hg w7 hbox hb; have n0_ := aM8 (bB8 (g := gb408) (o := .cells #[.int .u8 a0_0, .int .i64 a0_1, .string a0_2] 35 (0, 0)) (by (with_reducible repeat (first | refine bN8 ?_ _ | refine bD8 ?_ | refine bA8 ?_ _)); exact BK408.out) hb); have n1_ := aM8 (below_step (by repeat (first | (with_reducible first | exact HB.out | apply below_alloc | apply pw_below_drewN | apply below_drew1 | refine bS8 ?_ GE408.out) | exact HB.out)) hb); have n2_ := aM8 (hbox); have n3_ := aM8 ((by rw [hg]; exact (below_size (by repeat (first | (with_reducible first | exact HB.out | apply below_alloc | apply pw_below_drewN | apply below_drew1 | refine bS8 ?_ GE408.out) | exact HB.out))) : w.heap.size ≤ gb409)); have n4_ := aM8 ((by rw [hg]; exact (below_size (by repeat (first | (with_reducible first | exact HB.out | apply below_alloc | apply pw_below_drewN | apply below_drew1 | refine bS8 ?_ GE408.out) | exact HB.out))) : w.heap.size ≤ gb409)); have n5_ := aM8 ((by rw [hg]; exact Nat.ne_of_lt (blk_lt (g := gb408) (o := .cells #[.int .u8 a0_0, .int .i64 a0_1, .string a0_2] 35 (0, 0)) (by (with_reducible repeat (first | refine bN8 ?_ _ | refine bD8 ?_ | refine bA8 ?_ _)); exact BK408.out)) : gb408 ≠ gb409)); have n6_ := aM8 ((by rw [hg]; exact Nat.ne_of_gt (blk_lt (g := gb408) (o := .cells #[.int .u8 a0_0, .int .i64 a0_1, .string a0_2] 35 (0, 0)) (by (with_reducible repeat (first | refine bN8 ?_ _ | refine bD8 ?_ | refine bA8 ?_ _)); exact BK408.out)) : gb409 ≠ gb408)); clear BK408; clear HB; have BK408 := n0_; have HB := n1_; have BK409 := n2_; have GW409 := n3_; have GE409 := n4_; have NB408_409 := n5_; have NB409_408 := n6_; clear n0_ n1_ n2_ n3_ n4_ n5_ n6_; clear hb hbox hg; have hnb8 := NB408_409.out; have hnc8 := NB409_408.out; have hcz9_0 : w7.cell? ⟨gb408, 0, none⟩ = some (.int .u8 a0_0) := (blk_cell BK408.out 0).trans rfl; have hcz9_1 : w7.cell? ⟨gb408, 1, none⟩ = some (.int .i64 a0_1) := (blk_cell BK408.out 1).trans rfl; have hcz9_2 : w7.cell? ⟨gb408, 2, none⟩ = some (.string a0_2) := (blk_cell BK408.out 2).trans rfl; have hfz9_0 := blk_frozen BK408.out 0; have hfz9_1 := blk_frozen BK408.out 1; have hfz9_2 := blk_frozen BK408.out 2; have hcz10_0 : w7.cell? ⟨gb409, 0, none⟩ = some (.int .u8 a1_0) := (blk_cell BK409.out 0).trans rfl; have hcz10_1 : w7.cell? ⟨gb409, 1, none⟩ = some (.int .i64 a1_1) := (blk_cell BK409.out 1).trans rfl; have hcz10_2 : w7.cell? ⟨gb409, 2, none⟩ = some (.string a1_2) := (blk_cell BK409.out 2).trans rfl; have hfz10_0 := blk_frozen BK409.out 0; have hfz10_1 := blk_frozen BK409.out 1; have hfz10_2 := blk_frozen BK409.out 2) | ((with_reducible refine gate_callee (f := 23) rfl ?_); refine goesL_ (some 16) rfl rfl Try.func23 (by kernel_rfl) rfl #[.agg #[.int .u8 a0_0, .int .i64 a0_1, .string a0_2], .agg #[.int .u8 a1_0, .int .i64 a1_1, .string a1_2]] rfl (by (try simp only [List.map_toArray, List.map_cons, List.map_nil]); first | done | rfl | (simp only [List.length_drop, List.length_take]; rfl)) ?_; (with_reducible refine (hindsightlaw02_great.calls a0_0 a0_1 a0_2 a1_0 a1_1 a1_2 true _ A3.out).mono ?_); rintro e w11 ⟨rfl, hb⟩; refine ⟨_, rfl, ?_⟩; have n0_ := aM8 (bB8 (g := gb408) (o := .cells #[.int .u8 a0_0, .int .i64 a0_1, .string a0_2] 35 (0, 0)) (by (with_reducible repeat (first | refine bN8 ?_ _ | refine bD8 ?_ | refine bA8 ?_ _)); exact BK408.out) hb); have n1_ := aM8 (bB8 (g := gb409) (o := .cells #[.int .u8 a1_0, .int .i64 a1_1, .string a1_2] 35 (0, 0)) (by (with_reducible repeat (first | refine bN8 ?_ _ | refine bD8 ?_ | refine bA8 ?_ _)); exact BK409.out) hb); have n2_ := aM8 (below_step (by repeat (first | (with_reducible first | exact HB.out | apply below_alloc | apply pw_below_drewN | apply below_drew1 | refine bS8 ?_ GE408.out | refine bS8 ?_ GE409.out) | exact HB.out)) hb); clear BK408; clear BK409; clear HB; have BK408 := n0_; have BK409 := n1_; have HB := n2_; clear n0_ n1_ n2_; (try clear hb); (try clear hb2); (try clear hk); (try clear hi)) | ((with_reducible refine gate_callee (f := 24) rfl ?_); refine goesL_ (some 17) rfl rfl Try.func24 (by kernel_rfl) rfl #[] rfl (by (try simp only [List.map_toArray, List.map_cons, List.map_nil]); first | done | rfl | (simp only [List.length_drop, List.length_take]; rfl)) ?_; (with_reducible refine (hindsightlaw02_alive.calls k  t411 _ A5.out).mono ?_); rintro e w12 ⟨rfl, hb⟩; refine ⟨_, rfl, ?_⟩; have n0_ := aM8 (bB8 (g := gb408) (o := .cells #[.int .u8 a0_0, .int .i64 a0_1, .string a0_2] 35 (0, 0)) (by (with_reducible repeat (first | refine bN8 ?_ _ | refine bD8 ?_ | refine bA8 ?_ _)); exact BK408.out) hb); have n1_ := aM8 (bB8 (g := gb409) (o := .cells #[.int .u8 a1_0, .int .i64 a1_1, .string a1_2] 35 (0, 0)) (by (with_reducible repeat (first | refine bN8 ?_ _ | refine bD8 ?_ | refine bA8 ?_ _)); exact BK409.out) hb); have n2_ := aM8 (below_step (by repeat (first | (with_reducible first | exact HB.out | apply below_alloc | apply pw_below_drewN | apply below_drew1 | refine bS8 ?_ GE408.out | refine bS8 ?_ GE409.out) | exact HB.out)) hb); clear BK408; clear BK409; clear HB; have BK408 := n0_; have BK409 := n1_; have HB := n2_; clear n0_ n1_ n2_; (try clear hb); (try clear hb2); (try clear hk); (try clear hi)))
  go_ret
  exact ⟨by first | rfl | (simp [errW_none, errW_some] <;> rfl) | (simp [*, errW_none, errW_some] <;> rfl), by repeat (first | (with_reducible first | exact HB.out | apply below_alloc | apply pw_below_drewN | apply below_drew1 | refine bS8 ?_ GE408.out | refine bS8 ?_ GE409.out) | exact HB.out)⟩
 ·replace c4 := Bool.eq_false_iff.mpr c4
  subst c4
  have H1 : ((cell_Join.f k a0_0 a0_1 a0_2 a1_0 a1_1 a1_2).bind fun bt412 => ((hindsightref02_Join.f k a0_0 a0_1 a0_2 a1_0 a1_1 a1_2).bind fun bt417 => (if (!(bt412.1 == bt417.1) || (!(bt412.2.1 == bt417.2.1) || (!(bt412.2.2.1.toList == bt417.2.2.1.toList)))) = true then (hindsightlaw02_CellTruths.j0 k true a0_0 a0_1 a0_2 a1_0 a1_1 a1_2) else (hindsightlaw02_CellTruths.j0 k (bt412.2.2.2 != bt417.2.2.2) a0_0 a0_1 a0_2 a1_0 a1_1 a1_2)))) = some r := by rw [if_neg (show ¬ (false = true) by decide)] at H; exact H
  clear H
  have H := H1
  clear H1
  replace H := Option.bind_eq_some_iff.mp H
  obtain ⟨⟨t412, t413, t414, t415⟩, A130, H⟩ := H
  replace H : ((hindsightref02_Join.f k a0_0 a0_1 a0_2 a1_0 a1_1 a1_2).bind fun bt417 => (if (!(t412 == bt417.1) || (!(t413 == bt417.2.1) || (!(t414.toList == bt417.2.2.1.toList)))) = true then (hindsightlaw02_CellTruths.j0 k true a0_0 a0_1 a0_2 a1_0 a1_1 a1_2) else (hindsightlaw02_CellTruths.j0 k (t415 != bt417.2.2.2) a0_0 a0_1 a0_2 a1_0 a1_1 a1_2))) = some r := H
  have A13 := aM8 A130
  clear A130
  replace H := Option.bind_eq_some_iff.mp H
  obtain ⟨⟨t417, t418, t419, t420⟩, A140, H⟩ := H
  replace H : (if (!(t412 == t417) || (!(t413 == t418) || (!(t414.toList == t419.toList)))) = true then (hindsightlaw02_CellTruths.j0 k true a0_0 a0_1 a0_2 a1_0 a1_1 a1_2) else (hindsightlaw02_CellTruths.j0 k (t415 != t420) a0_0 a0_1 a0_2 a1_0 a1_1 a1_2)) = some r := H
  have A14 := aM8 A140
  clear A140
  have HC15 := aM8 H
  clear H
  go_enter Try.func8, Try.ntmps8
  go_upto_region 5 with (first | ((with_reducible refine gate_dst (N := 2) rfl ?_); refine box_event ?hg (N := 2) ?hd (cs := #[.int .u8 a0_0, .int .i64 a0_1, .string a0_2]) (t := 35) ?hr ?_; (case hd => rfl); (case hg => rfl); (case hr => first | (go_simp; done) | (go_simp; rfl)); intro gb408 hg w16 hbox hb; have n0_ := aM8 (below_step (by repeat (first | (with_reducible first | exact HB.out | apply below_alloc | apply pw_below_drewN | apply below_drew1) | exact HB.out)) hb); have n1_ := aM8 (hbox); have n2_ := aM8 ((by rw [hg]; exact (below_size (by repeat (first | (with_reducible first | exact HB.out | apply below_alloc | apply pw_below_drewN | apply below_drew1) | exact HB.out))) : w.heap.size ≤ gb408)); have n3_ := aM8 ((by rw [hg]; exact (below_size (by repeat (first | (with_reducible first | exact HB.out | apply below_alloc | apply pw_below_drewN | apply below_drew1) | exact HB.out))) : w.heap.size ≤ gb408)); clear HB; have HB := n0_; have BK408 := n1_; have GW408 := n2_; have GE408 := n3_; clear n0_ n1_ n2_ n3_; clear hb hbox hg) | ((with_reducible refine gate_dst (N := 3) rfl ?_); refine box_event ?hg (N := 3) ?hd (cs := #[.int .u8 a1_0, .int .i64 a1_1, .string a1_2]) (t := 35) ?hr ?_; (case hd => rfl); (case hg => rfl); (case hr => first | (go_simp; done) | (go_simp; rfl)); intro gb409 hg w17 hbox hb; have n0_ := aM8 (bB8 (g := gb408) (o := .cells #[.int .u8 a0_0, .int .i64 a0_1, .string a0_2] 35 (0, 0)) (by (with_reducible repeat (first | refine bN8 ?_ _ | refine bD8 ?_ | refine bA8 ?_ _)); exact BK408.out) hb); have n1_ := aM8 (below_step (by repeat (first | (with_reducible first | exact HB.out | apply below_alloc | apply pw_below_drewN | apply below_drew1 | refine bS8 ?_ GE408.out) | exact HB.out)) hb); have n2_ := aM8 (hbox); have n3_ := aM8 ((by rw [hg]; exact (below_size (by repeat (first | (with_reducible first | exact HB.out | apply below_alloc | apply pw_below_drewN | apply below_drew1 | refine bS8 ?_ GE408.out) | exact HB.out))) : w.heap.size ≤ gb409)); have n4_ := aM8 ((by rw [hg]; exact (below_size (by repeat (first | (with_reducible first | exact HB.out | apply below_alloc | apply pw_below_drewN | apply below_drew1 | refine bS8 ?_ GE408.out) | exact HB.out))) : w.heap.size ≤ gb409)); have n5_ := aM8 ((by rw [hg]; exact Nat.ne_of_lt (blk_lt (g := gb408) (o := .cells #[.int .u8 a0_0, .int .i64 a0_1, .string a0_2] 35 (0, 0)) (by (with_reducible repeat (first | refine bN8 ?_ _ | refine bD8 ?_ | refine bA8 ?_ _)); exact BK408.out)) : gb408 ≠ gb409)); have n6_ := aM8 ((by rw [hg]; exact Nat.ne_of_gt (blk_lt (g := gb408) (o := .cells #[.int .u8 a0_0, .int .i64 a0_1, .string a0_2] 35 (0, 0)) (by (with_reducible repeat (first | refine bN8 ?_ _ | refine bD8 ?_ | refine bA8 ?_ _)); exact BK408.out)) : gb409 ≠ gb408)); clear BK408; clear HB; have BK408 := n0_; have HB := n1_; have BK409 := n2_; have GW409 := n3_; have GE409 := n4_; have NB408_409 := n5_; have NB409_408 := n6_; clear n0_ n1_ n2_ n3_ n4_ n5_ n6_; clear hb hbox hg; have hnb18 := NB408_409.out; have hnc18 := NB409_408.out; have hcz19_0 : w17.cell? ⟨gb408, 0, none⟩ = some (.int .u8 a0_0) := (blk_cell BK408.out 0).trans rfl; have hcz19_1 : w17.cell? ⟨gb408, 1, none⟩ = some (.int .i64 a0_1) := (blk_cell BK408.out 1).trans rfl; have hcz19_2 : w17.cell? ⟨gb408, 2, none⟩ = some (.string a0_2) := (blk_cell BK408.out 2).trans rfl; have hfz19_0 := blk_frozen BK408.out 0; have hfz19_1 := blk_frozen BK408.out 1; have hfz19_2 := blk_frozen BK408.out 2; have hcz20_0 : w17.cell? ⟨gb409, 0, none⟩ = some (.int .u8 a1_0) := (blk_cell BK409.out 0).trans rfl; have hcz20_1 : w17.cell? ⟨gb409, 1, none⟩ = some (.int .i64 a1_1) := (blk_cell BK409.out 1).trans rfl; have hcz20_2 : w17.cell? ⟨gb409, 2, none⟩ = some (.string a1_2) := (blk_cell BK409.out 2).trans rfl; have hfz20_0 := blk_frozen BK409.out 0; have hfz20_1 := blk_frozen BK409.out 1; have hfz20_2 := blk_frozen BK409.out 2) | ((with_reducible refine gate_callee (f := 23) rfl ?_); refine goesL_ (some 16) rfl rfl Try.func23 (by kernel_rfl) rfl #[.agg #[.int .u8 a0_0, .int .i64 a0_1, .string a0_2], .agg #[.int .u8 a1_0, .int .i64 a1_1, .string a1_2]] rfl (by (try simp only [List.map_toArray, List.map_cons, List.map_nil]); first | done | rfl | (simp only [List.length_drop, List.length_take]; rfl)) ?_; (with_reducible refine (hindsightlaw02_great.calls a0_0 a0_1 a0_2 a1_0 a1_1 a1_2 false _ A3.out).mono ?_); rintro e w21 ⟨rfl, hb⟩; refine ⟨_, rfl, ?_⟩; have n0_ := aM8 (bB8 (g := gb408) (o := .cells #[.int .u8 a0_0, .int .i64 a0_1, .string a0_2] 35 (0, 0)) (by (with_reducible repeat (first | refine bN8 ?_ _ | refine bD8 ?_ | refine bA8 ?_ _)); exact BK408.out) hb); have n1_ := aM8 (bB8 (g := gb409) (o := .cells #[.int .u8 a1_0, .int .i64 a1_1, .string a1_2] 35 (0, 0)) (by (with_reducible repeat (first | refine bN8 ?_ _ | refine bD8 ?_ | refine bA8 ?_ _)); exact BK409.out) hb); have n2_ := aM8 (below_step (by repeat (first | (with_reducible first | exact HB.out | apply below_alloc | apply pw_below_drewN | apply below_drew1 | refine bS8 ?_ GE408.out | refine bS8 ?_ GE409.out) | exact HB.out)) hb); clear BK408; clear BK409; clear HB; have BK408 := n0_; have BK409 := n1_; have HB := n2_; clear n0_ n1_ n2_; (try clear hb); (try clear hb2); (try clear hk); (try clear hi); have hcz22_0 : w21.cell? ⟨gb408, 0, none⟩ = some (.int .u8 a0_0) := (blk_cell BK408.out 0).trans rfl; have hcz22_1 : w21.cell? ⟨gb408, 1, none⟩ = some (.int .i64 a0_1) := (blk_cell BK408.out 1).trans rfl; have hcz22_2 : w21.cell? ⟨gb408, 2, none⟩ = some (.string a0_2) := (blk_cell BK408.out 2).trans rfl; have hfz22_0 := blk_frozen BK408.out 0; have hfz22_1 := blk_frozen BK408.out 1; have hfz22_2 := blk_frozen BK408.out 2; have hcz23_0 : w21.cell? ⟨gb409, 0, none⟩ = some (.int .u8 a1_0) := (blk_cell BK409.out 0).trans rfl; have hcz23_1 : w21.cell? ⟨gb409, 1, none⟩ = some (.int .i64 a1_1) := (blk_cell BK409.out 1).trans rfl; have hcz23_2 : w21.cell? ⟨gb409, 2, none⟩ = some (.string a1_2) := (blk_cell BK409.out 2).trans rfl; have hfz23_0 := blk_frozen BK409.out 0; have hfz23_1 := blk_frozen BK409.out 1; have hfz23_2 := blk_frozen BK409.out 2) | ((with_reducible refine gate_callee (f := 36) rfl ?_); refine goesL_ (some 21) rfl rfl Try.func36 (by kernel_rfl) rfl #[.agg #[.int .u8 a0_0, .int .i64 a0_1, .string a0_2], .agg #[.int .u8 a1_0, .int .i64 a1_1, .string a1_2]] rfl (by (try simp only [List.map_toArray, List.map_cons, List.map_nil]); first | done | rfl | (simp only [List.length_drop, List.length_take]; rfl)) ?_; (with_reducible refine (cell_Join.calls k a0_0 a0_1 a0_2 a1_0 a1_1 a1_2 t412 t413 t414 t415 _ A13.out).mono ?_); rintro e w24 ⟨rfl, hb⟩; refine ⟨_, rfl, ?_⟩; have n0_ := aM8 (bB8 (g := gb408) (o := .cells #[.int .u8 a0_0, .int .i64 a0_1, .string a0_2] 35 (0, 0)) (by (with_reducible repeat (first | refine bN8 ?_ _ | refine bD8 ?_ | refine bA8 ?_ _)); exact BK408.out) hb); have n1_ := aM8 (bB8 (g := gb409) (o := .cells #[.int .u8 a1_0, .int .i64 a1_1, .string a1_2] 35 (0, 0)) (by (with_reducible repeat (first | refine bN8 ?_ _ | refine bD8 ?_ | refine bA8 ?_ _)); exact BK409.out) hb); have n2_ := aM8 (below_step (by repeat (first | (with_reducible first | exact HB.out | apply below_alloc | apply pw_below_drewN | apply below_drew1 | refine bS8 ?_ GE408.out | refine bS8 ?_ GE409.out) | exact HB.out)) hb); clear BK408; clear BK409; clear HB; have BK408 := n0_; have BK409 := n1_; have HB := n2_; clear n0_ n1_ n2_; (try clear hb); (try clear hb2); (try clear hk); (try clear hi)) | ((with_reducible refine gate_dst (N := 5) rfl ?_); refine box_event ?hg (N := 5) ?hd (cs := #[.int .u8 0, .int .i64 0, .string (⟨#[]⟩ : ByteArray)]) (t := 35) ?hr ?_; (case hd => rfl); (case hg => rfl); (case hr => first | (go_simp; done) | (go_simp; rfl)); intro gb416 hg w25 hbox hb; have n0_ := aM8 (bB8 (g := gb408) (o := .cells #[.int .u8 a0_0, .int .i64 a0_1, .string a0_2] 35 (0, 0)) (by (with_reducible repeat (first | refine bN8 ?_ _ | refine bD8 ?_ | refine bA8 ?_ _)); exact BK408.out) hb); have n1_ := aM8 (bB8 (g := gb409) (o := .cells #[.int .u8 a1_0, .int .i64 a1_1, .string a1_2] 35 (0, 0)) (by (with_reducible repeat (first | refine bN8 ?_ _ | refine bD8 ?_ | refine bA8 ?_ _)); exact BK409.out) hb); have n2_ := aM8 (below_step (by repeat (first | (with_reducible first | exact HB.out | apply below_alloc | apply pw_below_drewN | apply below_drew1 | refine bS8 ?_ GE408.out | refine bS8 ?_ GE409.out) | exact HB.out)) hb); have n3_ := aM8 (hbox); have n4_ := aM8 ((by rw [hg]; exact (below_size (by repeat (first | (with_reducible first | exact HB.out | apply below_alloc | apply pw_below_drewN | apply below_drew1 | refine bS8 ?_ GE408.out | refine bS8 ?_ GE409.out) | exact HB.out))) : w.heap.size ≤ gb416)); have n5_ := aM8 ((by rw [hg]; exact (below_size (by repeat (first | (with_reducible first | exact HB.out | apply below_alloc | apply pw_below_drewN | apply below_drew1 | refine bS8 ?_ GE408.out | refine bS8 ?_ GE409.out) | exact HB.out))) : w.heap.size ≤ gb416)); have n6_ := aM8 ((by rw [hg]; exact Nat.ne_of_lt (blk_lt (g := gb408) (o := .cells #[.int .u8 a0_0, .int .i64 a0_1, .string a0_2] 35 (0, 0)) (by (with_reducible repeat (first | refine bN8 ?_ _ | refine bD8 ?_ | refine bA8 ?_ _)); exact BK408.out)) : gb408 ≠ gb416)); have n7_ := aM8 ((by rw [hg]; exact Nat.ne_of_gt (blk_lt (g := gb408) (o := .cells #[.int .u8 a0_0, .int .i64 a0_1, .string a0_2] 35 (0, 0)) (by (with_reducible repeat (first | refine bN8 ?_ _ | refine bD8 ?_ | refine bA8 ?_ _)); exact BK408.out)) : gb416 ≠ gb408)); have n8_ := aM8 ((by rw [hg]; exact Nat.ne_of_lt (blk_lt (g := gb409) (o := .cells #[.int .u8 a1_0, .int .i64 a1_1, .string a1_2] 35 (0, 0)) (by (with_reducible repeat (first | refine bN8 ?_ _ | refine bD8 ?_ | refine bA8 ?_ _)); exact BK409.out)) : gb409 ≠ gb416)); have n9_ := aM8 ((by rw [hg]; exact Nat.ne_of_gt (blk_lt (g := gb409) (o := .cells #[.int .u8 a1_0, .int .i64 a1_1, .string a1_2] 35 (0, 0)) (by (with_reducible repeat (first | refine bN8 ?_ _ | refine bD8 ?_ | refine bA8 ?_ _)); exact BK409.out)) : gb416 ≠ gb409)); clear BK408; clear BK409; clear HB; have BK408 := n0_; have BK409 := n1_; have HB := n2_; have BK416 := n3_; have GW416 := n4_; have GE416 := n5_; have NB408_416 := n6_; have NB416_408 := n7_; have NB409_416 := n8_; have NB416_409 := n9_; clear n0_ n1_ n2_ n3_ n4_ n5_ n6_ n7_ n8_ n9_; clear hb hbox hg; have hnb26 := NB416_408.out; have hnc26 := NB408_416.out; have hnb27 := NB416_409.out; have hnc27 := NB409_416.out; have hcz28_0 : w25.cell? ⟨gb416, 0, none⟩ = some (.int .u8 0) := (blk_cell BK416.out 0).trans rfl; have hcz28_1 : w25.cell? ⟨gb416, 1, none⟩ = some (.int .i64 0) := (blk_cell BK416.out 1).trans rfl; have hcz28_2 : w25.cell? ⟨gb416, 2, none⟩ = some (.string (⟨#[]⟩ : ByteArray)) := (blk_cell BK416.out 2).trans rfl; have hfz28_0 := blk_frozen BK416.out 0; have hfz28_1 := blk_frozen BK416.out 1; have hfz28_2 := blk_frozen BK416.out 2; have hcz29_0 : w25.cell? ⟨gb408, 0, none⟩ = some (.int .u8 a0_0) := (blk_cell BK408.out 0).trans rfl; have hcz29_1 : w25.cell? ⟨gb408, 1, none⟩ = some (.int .i64 a0_1) := (blk_cell BK408.out 1).trans rfl; have hcz29_2 : w25.cell? ⟨gb408, 2, none⟩ = some (.string a0_2) := (blk_cell BK408.out 2).trans rfl; have hfz29_0 := blk_frozen BK408.out 0; have hfz29_1 := blk_frozen BK408.out 1; have hfz29_2 := blk_frozen BK408.out 2; have hcz30_0 : w25.cell? ⟨gb409, 0, none⟩ = some (.int .u8 a1_0) := (blk_cell BK409.out 0).trans rfl; have hcz30_1 : w25.cell? ⟨gb409, 1, none⟩ = some (.int .i64 a1_1) := (blk_cell BK409.out 1).trans rfl; have hcz30_2 : w25.cell? ⟨gb409, 2, none⟩ = some (.string a1_2) := (blk_cell BK409.out 2).trans rfl; have hfz30_0 := blk_frozen BK409.out 0; have hfz30_1 := blk_frozen BK409.out 1; have hfz30_2 := blk_frozen BK409.out 2) | ((with_reducible refine gate_callee (f := 37) rfl ?_); refine goesL_ (some 27) rfl rfl Try.func37 (by kernel_rfl) rfl #[.agg #[.int .u8 a0_0, .int .i64 a0_1, .string a0_2], .agg #[.int .u8 a1_0, .int .i64 a1_1, .string a1_2]] rfl (by (try simp only [List.map_toArray, List.map_cons, List.map_nil]); first | done | rfl | (simp only [List.length_drop, List.length_take]; rfl)) ?_; (with_reducible refine (hindsightref02_Join.calls k a0_0 a0_1 a0_2 a1_0 a1_1 a1_2 t417 t418 t419 t420 _ A14.out).mono ?_); rintro e w31 ⟨rfl, hb⟩; refine ⟨_, rfl, ?_⟩; have n0_ := aM8 (bB8 (g := gb408) (o := .cells #[.int .u8 a0_0, .int .i64 a0_1, .string a0_2] 35 (0, 0)) (by (with_reducible repeat (first | refine bN8 ?_ _ | refine bD8 ?_ | refine bA8 ?_ _ | refine blk_far ?_ NB408_416.out _)); exact BK408.out) hb); have n1_ := aM8 (bB8 (g := gb409) (o := .cells #[.int .u8 a1_0, .int .i64 a1_1, .string a1_2] 35 (0, 0)) (by (with_reducible repeat (first | refine bN8 ?_ _ | refine bD8 ?_ | refine bA8 ?_ _ | refine blk_far ?_ NB409_416.out _)); exact BK409.out) hb); have n2_ := aM8 (bB8 (g := gb416) (o := .cells #[.int .u8 t412, .int .i64 t413, .string t414] 35 (0, 0)) (by (with_reducible repeat (first | refine bN8 ?_ _ | refine bD8 ?_ | refine bA8 ?_ _)); refine blk_put (cs := #[.int .u8 t412, .int .i64 t413, .string (⟨#[]⟩ : ByteArray)]) ?_ 2 _ rfl; (with_reducible repeat (first | refine bN8 ?_ _ | refine bD8 ?_ | refine bA8 ?_ _)); refine blk_put (cs := #[.int .u8 t412, .int .i64 0, .string (⟨#[]⟩ : ByteArray)]) ?_ 1 _ rfl; (with_reducible repeat (first | refine bN8 ?_ _ | refine bD8 ?_ | refine bA8 ?_ _)); refine blk_put (cs := #[.int .u8 0, .int .i64 0, .string (⟨#[]⟩ : ByteArray)]) ?_ 0 _ rfl; (with_reducible repeat (first | refine bN8 ?_ _ | refine bD8 ?_ | refine bA8 ?_ _)); exact BK416.out) hb); have n3_ := aM8 (below_step (by repeat (first | (with_reducible first | exact HB.out | apply below_alloc | apply pw_below_drewN | apply below_drew1 | refine bS8 ?_ GE408.out | refine bS8 ?_ GE409.out | refine bS8 ?_ GE416.out) | exact HB.out)) hb); clear BK408; clear BK409; clear BK416; clear HB; have BK408 := n0_; have BK409 := n1_; have BK416 := n2_; have HB := n3_; clear n0_ n1_ n2_ n3_; (try clear hb); (try clear hb2); (try clear hk); (try clear hi)) | ((with_reducible refine gate_dst (N := 7) rfl ?_); refine box_event ?hg (N := 7) ?hd (cs := #[.int .u8 0, .int .i64 0, .string (⟨#[]⟩ : ByteArray)]) (t := 35) ?hr ?_; (case hd => rfl); (case hg => rfl); (case hr => first | (go_simp; done) | (go_simp; rfl)); intro gb421 hg w32 hbox hb; have n0_ := aM8 (bB8 (g := gb408) (o := .cells #[.int .u8 a0_0, .int .i64 a0_1, .string a0_2] 35 (0, 0)) (by (with_reducible repeat (first | refine bN8 ?_ _ | refine bD8 ?_ | refine bA8 ?_ _)); exact BK408.out) hb); have n1_ := aM8 (bB8 (g := gb409) (o := .cells #[.int .u8 a1_0, .int .i64 a1_1, .string a1_2] 35 (0, 0)) (by (with_reducible repeat (first | refine bN8 ?_ _ | refine bD8 ?_ | refine bA8 ?_ _)); exact BK409.out) hb); have n2_ := aM8 (bB8 (g := gb416) (o := .cells #[.int .u8 t412, .int .i64 t413, .string t414] 35 (0, 0)) (by (with_reducible repeat (first | refine bN8 ?_ _ | refine bD8 ?_ | refine bA8 ?_ _)); exact BK416.out) hb); have n3_ := aM8 (below_step (by repeat (first | (with_reducible first | exact HB.out | apply below_alloc | apply pw_below_drewN | apply below_drew1 | refine bS8 ?_ GE408.out | refine bS8 ?_ GE409.out | refine bS8 ?_ GE416.out) | exact HB.out)) hb); have n4_ := aM8 (hbox); have n5_ := aM8 ((by rw [hg]; exact (below_size (by repeat (first | (with_reducible first | exact HB.out | apply below_alloc | apply pw_below_drewN | apply below_drew1 | refine bS8 ?_ GE408.out | refine bS8 ?_ GE409.out | refine bS8 ?_ GE416.out) | exact HB.out))) : w.heap.size ≤ gb421)); have n6_ := aM8 ((by rw [hg]; exact (below_size (by repeat (first | (with_reducible first | exact HB.out | apply below_alloc | apply pw_below_drewN | apply below_drew1 | refine bS8 ?_ GE408.out | refine bS8 ?_ GE409.out | refine bS8 ?_ GE416.out) | exact HB.out))) : w.heap.size ≤ gb421)); have n7_ := aM8 ((by rw [hg]; exact Nat.ne_of_lt (blk_lt (g := gb408) (o := .cells #[.int .u8 a0_0, .int .i64 a0_1, .string a0_2] 35 (0, 0)) (by (with_reducible repeat (first | refine bN8 ?_ _ | refine bD8 ?_ | refine bA8 ?_ _)); exact BK408.out)) : gb408 ≠ gb421)); have n8_ := aM8 ((by rw [hg]; exact Nat.ne_of_gt (blk_lt (g := gb408) (o := .cells #[.int .u8 a0_0, .int .i64 a0_1, .string a0_2] 35 (0, 0)) (by (with_reducible repeat (first | refine bN8 ?_ _ | refine bD8 ?_ | refine bA8 ?_ _)); exact BK408.out)) : gb421 ≠ gb408)); have n9_ := aM8 ((by rw [hg]; exact Nat.ne_of_lt (blk_lt (g := gb409) (o := .cells #[.int .u8 a1_0, .int .i64 a1_1, .string a1_2] 35 (0, 0)) (by (with_reducible repeat (first | refine bN8 ?_ _ | refine bD8 ?_ | refine bA8 ?_ _)); exact BK409.out)) : gb409 ≠ gb421)); have n10_ := aM8 ((by rw [hg]; exact Nat.ne_of_gt (blk_lt (g := gb409) (o := .cells #[.int .u8 a1_0, .int .i64 a1_1, .string a1_2] 35 (0, 0)) (by (with_reducible repeat (first | refine bN8 ?_ _ | refine bD8 ?_ | refine bA8 ?_ _)); exact BK409.out)) : gb421 ≠ gb409)); have n11_ := aM8 ((by rw [hg]; exact Nat.ne_of_lt (blk_lt (g := gb416) (o := .cells #[.int .u8 t412, .int .i64 t413, .string t414] 35 (0, 0)) (by (with_reducible repeat (first | refine bN8 ?_ _ | refine bD8 ?_ | refine bA8 ?_ _)); exact BK416.out)) : gb416 ≠ gb421)); have n12_ := aM8 ((by rw [hg]; exact Nat.ne_of_gt (blk_lt (g := gb416) (o := .cells #[.int .u8 t412, .int .i64 t413, .string t414] 35 (0, 0)) (by (with_reducible repeat (first | refine bN8 ?_ _ | refine bD8 ?_ | refine bA8 ?_ _)); exact BK416.out)) : gb421 ≠ gb416)); clear BK408; clear BK409; clear BK416; clear HB; have BK408 := n0_; have BK409 := n1_; have BK416 := n2_; have HB := n3_; have BK421 := n4_; have GW421 := n5_; have GE421 := n6_; have NB408_421 := n7_; have NB421_408 := n8_; have NB409_421 := n9_; have NB421_409 := n10_; have NB416_421 := n11_; have NB421_416 := n12_; clear n0_ n1_ n2_ n3_ n4_ n5_ n6_ n7_ n8_ n9_ n10_ n11_ n12_; clear hb hbox hg; have hnb33 := NB421_408.out; have hnc33 := NB408_421.out; have hnb34 := NB421_409.out; have hnc34 := NB409_421.out; have hnb35 := NB421_416.out; have hnc35 := NB416_421.out; have hcz36_0 : w32.cell? ⟨gb421, 0, none⟩ = some (.int .u8 0) := (blk_cell BK421.out 0).trans rfl; have hcz36_1 : w32.cell? ⟨gb421, 1, none⟩ = some (.int .i64 0) := (blk_cell BK421.out 1).trans rfl; have hcz36_2 : w32.cell? ⟨gb421, 2, none⟩ = some (.string (⟨#[]⟩ : ByteArray)) := (blk_cell BK421.out 2).trans rfl; have hfz36_0 := blk_frozen BK421.out 0; have hfz36_1 := blk_frozen BK421.out 1; have hfz36_2 := blk_frozen BK421.out 2))
  (try simp only [Act.put, List.setIfInBounds_toArray, List.set_cons_zero, List.set_cons_succ])
  go_cut [37] (fun v37 wc => ∃ (kq : Nat) (x37_14 : Bool), v37 = .bool x37_14 ∧ Aside0 (hindsightlaw02_CellTruths.j0 kq x37_14 a0_0 a0_1 a0_2 a1_0 a1_1 a1_2 = some r) ∧ Aside0 (kq ≤ k) ∧ Aside0 (wc.heap[gb408]? = some (.cells #[.int .u8 a0_0, .int .i64 a0_1, .string a0_2] 35 (0, 0))) ∧ Aside0 (wc.heap[gb409]? = some (.cells #[.int .u8 a1_0, .int .i64 a1_1, .string a1_2] 35 (0, 0))) ∧ Aside0 (wc.heap[gb416]? = some (.cells #[.int .u8 t412, .int .i64 t413, .string t414] 35 (0, 0))) ∧ Aside0 (wc.heap[gb421]? = some (.cells #[.int .u8 t417, .int .i64 t418, .string t419] 35 (0, 0))) ∧ Aside0 (Below w.heap.size w wc))
  case first =>
   have H := HC15.out
   clear HC15
   by_cases c37 : (!(t412 == t417) || (!(t413 == t418) || (!(t414.toList == t419.toList)))) = true
   ·rw [if_pos c37] at H
    have c37b0 : (!(t412 == t417) || (!(t413 == t418) || (!(t414.toList == t419.toList)))) = true := c37
    clear c37
    (first | rw [c37b0] | (simp only [i64_w, i32_w]; rw [c37b0]) | skip)
    have H' := aM8 H
    clear H
    have hnb38 := NB416_408.out
    have hnc38 := NB408_416.out
    have hnb39 := NB416_409.out
    have hnc39 := NB409_416.out
    have hnb40 := NB416_421.out
    have hnc40 := NB421_416.out
    have hcz41_0 : w32.cell? ⟨gb416, 0, none⟩ = some (.int .u8 t412) := (blk_cell BK416.out 0).trans rfl
    have hcz41_1 : w32.cell? ⟨gb416, 1, none⟩ = some (.int .i64 t413) := (blk_cell BK416.out 1).trans rfl
    have hcz41_2 : w32.cell? ⟨gb416, 2, none⟩ = some (.string t414) := (blk_cell BK416.out 2).trans rfl
    have hfz41_0 := blk_frozen BK416.out 0
    have hfz41_1 := blk_frozen BK416.out 1
    have hfz41_2 := blk_frozen BK416.out 2
    have hnb42 := NB421_408.out
    have hnc42 := NB408_421.out
    have hnb43 := NB421_409.out
    have hnc43 := NB409_421.out
    have hcz44_0 : w32.cell? ⟨gb421, 0, none⟩ = some (.int .u8 0) := (blk_cell BK421.out 0).trans rfl
    have hcz44_1 : w32.cell? ⟨gb421, 1, none⟩ = some (.int .i64 0) := (blk_cell BK421.out 1).trans rfl
    have hcz44_2 : w32.cell? ⟨gb421, 2, none⟩ = some (.string (⟨#[]⟩ : ByteArray)) := (blk_cell BK421.out 2).trans rfl
    have hfz44_0 := blk_frozen BK421.out 0
    have hfz44_1 := blk_frozen BK421.out 1
    have hfz44_2 := blk_frozen BK421.out 2
    go_wp2
    go_meet
    case rel => exact ⟨_, (true), (by first | rfl | (simp; done) | (simp [*]; done)), H', ⟨by first | omega | exact Nat.le_refl _⟩, ⟨by (with_reducible repeat (first | refine bN8 ?_ _ | refine bD8 ?_ | refine bA8 ?_ _ | refine blk_far ?_ NB408_421.out _)); exact BK408.out⟩, ⟨by (with_reducible repeat (first | refine bN8 ?_ _ | refine bD8 ?_ | refine bA8 ?_ _ | refine blk_far ?_ NB409_421.out _)); exact BK409.out⟩, ⟨by (with_reducible repeat (first | refine bN8 ?_ _ | refine bD8 ?_ | refine bA8 ?_ _ | refine blk_far ?_ NB416_421.out _)); exact BK416.out⟩, ⟨by (with_reducible repeat (first | refine bN8 ?_ _ | refine bD8 ?_ | refine bA8 ?_ _)); refine blk_put (cs := #[.int .u8 t417, .int .i64 t418, .string (⟨#[]⟩ : ByteArray)]) ?_ 2 _ rfl; (with_reducible repeat (first | refine bN8 ?_ _ | refine bD8 ?_ | refine bA8 ?_ _)); refine blk_put (cs := #[.int .u8 t417, .int .i64 0, .string (⟨#[]⟩ : ByteArray)]) ?_ 1 _ rfl; (with_reducible repeat (first | refine bN8 ?_ _ | refine bD8 ?_ | refine bA8 ?_ _)); refine blk_put (cs := #[.int .u8 0, .int .i64 0, .string (⟨#[]⟩ : ByteArray)]) ?_ 0 _ rfl; (with_reducible repeat (first | refine bN8 ?_ _ | refine bD8 ?_ | refine bA8 ?_ _)); exact BK421.out⟩, ⟨by repeat (first | (with_reducible first | exact HB.out | apply below_alloc | apply pw_below_drewN | apply below_drew1 | refine bS8 ?_ GE408.out | refine bS8 ?_ GE409.out | refine bS8 ?_ GE416.out | refine bS8 ?_ GE421.out) | exact HB.out)⟩⟩
   ·rw [if_neg c37] at H
    have c37b0 : (!(t412 == t417) || (!(t413 == t418) || (!(t414.toList == t419.toList)))) = false := by simpa using c37
    clear c37
    (first | rw [c37b0] | (simp only [i64_w, i32_w]; rw [c37b0]) | skip)
    have H' := aM8 H
    clear H
    have hnb45 := NB416_408.out
    have hnc45 := NB408_416.out
    have hnb46 := NB416_409.out
    have hnc46 := NB409_416.out
    have hnb47 := NB416_421.out
    have hnc47 := NB421_416.out
    have hcz48_0 : w32.cell? ⟨gb416, 0, none⟩ = some (.int .u8 t412) := (blk_cell BK416.out 0).trans rfl
    have hcz48_1 : w32.cell? ⟨gb416, 1, none⟩ = some (.int .i64 t413) := (blk_cell BK416.out 1).trans rfl
    have hcz48_2 : w32.cell? ⟨gb416, 2, none⟩ = some (.string t414) := (blk_cell BK416.out 2).trans rfl
    have hfz48_0 := blk_frozen BK416.out 0
    have hfz48_1 := blk_frozen BK416.out 1
    have hfz48_2 := blk_frozen BK416.out 2
    have hnb49 := NB421_408.out
    have hnc49 := NB408_421.out
    have hnb50 := NB421_409.out
    have hnc50 := NB409_421.out
    have hcz51_0 : w32.cell? ⟨gb421, 0, none⟩ = some (.int .u8 0) := (blk_cell BK421.out 0).trans rfl
    have hcz51_1 : w32.cell? ⟨gb421, 1, none⟩ = some (.int .i64 0) := (blk_cell BK421.out 1).trans rfl
    have hcz51_2 : w32.cell? ⟨gb421, 2, none⟩ = some (.string (⟨#[]⟩ : ByteArray)) := (blk_cell BK421.out 2).trans rfl
    have hfz51_0 := blk_frozen BK421.out 0
    have hfz51_1 := blk_frozen BK421.out 1
    have hfz51_2 := blk_frozen BK421.out 2
    go_wp2
    go_meet
    case rel => exact ⟨_, ((t415 != t420)), (by first | rfl | (simp; done) | (simp [*]; done)), H', ⟨by first | omega | exact Nat.le_refl _⟩, ⟨by (with_reducible repeat (first | refine bN8 ?_ _ | refine bD8 ?_ | refine bA8 ?_ _ | refine blk_far ?_ NB408_421.out _)); exact BK408.out⟩, ⟨by (with_reducible repeat (first | refine bN8 ?_ _ | refine bD8 ?_ | refine bA8 ?_ _ | refine blk_far ?_ NB409_421.out _)); exact BK409.out⟩, ⟨by (with_reducible repeat (first | refine bN8 ?_ _ | refine bD8 ?_ | refine bA8 ?_ _ | refine blk_far ?_ NB416_421.out _)); exact BK416.out⟩, ⟨by (with_reducible repeat (first | refine bN8 ?_ _ | refine bD8 ?_ | refine bA8 ?_ _)); refine blk_put (cs := #[.int .u8 t417, .int .i64 t418, .string (⟨#[]⟩ : ByteArray)]) ?_ 2 _ rfl; (with_reducible repeat (first | refine bN8 ?_ _ | refine bD8 ?_ | refine bA8 ?_ _)); refine blk_put (cs := #[.int .u8 t417, .int .i64 0, .string (⟨#[]⟩ : ByteArray)]) ?_ 1 _ rfl; (with_reducible repeat (first | refine bN8 ?_ _ | refine bD8 ?_ | refine bA8 ?_ _)); refine blk_put (cs := #[.int .u8 0, .int .i64 0, .string (⟨#[]⟩ : ByteArray)]) ?_ 0 _ rfl; (with_reducible repeat (first | refine bN8 ?_ _ | refine bD8 ?_ | refine bA8 ?_ _)); exact BK421.out⟩, ⟨by repeat (first | (with_reducible first | exact HB.out | apply below_alloc | apply pw_below_drewN | apply below_drew1 | refine bS8 ?_ GE408.out | refine bS8 ?_ GE409.out | refine bS8 ?_ GE416.out | refine bS8 ?_ GE421.out) | exact HB.out)⟩⟩
  case rest =>
   clear HC15
   try clear c1
   try clear c2
   try clear p2
   try clear c3
   try clear c4
   try clear c5
   try clear c8
   try clear c18
   try clear c23
   try clear c24
   try clear c26
   try clear c27
   try clear c33
   try clear c34
   try clear c35
   try clear c36
   try clear c37
   try clear c37b0
   try clear c38
   try clear c39
   try clear c40
   try clear c42
   try clear c43
   try clear c45
   try clear c46
   try clear c47
   try clear c49
   try clear c50
   try clear hcz10_0
   try clear hcz10_1
   try clear hcz10_2
   try clear hcz19_0
   try clear hcz19_1
   try clear hcz19_2
   try clear hcz20_0
   try clear hcz20_1
   try clear hcz20_2
   try clear hcz22_0
   try clear hcz22_1
   try clear hcz22_2
   try clear hcz23_0
   try clear hcz23_1
   try clear hcz23_2
   try clear hcz28_0
   try clear hcz28_1
   try clear hcz28_2
   try clear hcz29_0
   try clear hcz29_1
   try clear hcz29_2
   try clear hcz30_0
   try clear hcz30_1
   try clear hcz30_2
   try clear hcz36_0
   try clear hcz36_1
   try clear hcz36_2
   try clear hcz41_0
   try clear hcz41_1
   try clear hcz41_2
   try clear hcz44_0
   try clear hcz44_1
   try clear hcz44_2
   try clear hcz48_0
   try clear hcz48_1
   try clear hcz48_2
   try clear hcz51_0
   try clear hcz51_1
   try clear hcz51_2
   try clear hcz9_0
   try clear hcz9_1
   try clear hcz9_2
   try clear hfz10_0
   try clear hfz10_1
   try clear hfz10_2
   try clear hfz19_0
   try clear hfz19_1
   try clear hfz19_2
   try clear hfz20_0
   try clear hfz20_1
   try clear hfz20_2
   try clear hfz22_0
   try clear hfz22_1
   try clear hfz22_2
   try clear hfz23_0
   try clear hfz23_1
   try clear hfz23_2
   try clear hfz28_0
   try clear hfz28_1
   try clear hfz28_2
   try clear hfz29_0
   try clear hfz29_1
   try clear hfz29_2
   try clear hfz30_0
   try clear hfz30_1
   try clear hfz30_2
   try clear hfz36_0
   try clear hfz36_1
   try clear hfz36_2
   try clear hfz41_0
   try clear hfz41_1
   try clear hfz41_2
   try clear hfz44_0
   try clear hfz44_1
   try clear hfz44_2
   try clear hfz48_0
   try clear hfz48_1
   try clear hfz48_2
   try clear hfz51_0
   try clear hfz51_1
   try clear hfz51_2
   try clear hfz9_0
   try clear hfz9_1
   try clear hfz9_2
   obtain ⟨kq, x37_14, rfl, HA, HJ14, BK408, BK409, BK416, BK421, HB⟩ := hcut
   cases kq with
   | zero => exact absurd HA.out (by simp [hindsightlaw02_CellTruths.j0])
   | succ kj14 =>
    have H := HA.out
    clear HA
    simp only [hindsightlaw02_CellTruths.j0] at H
    by_cases c52 : x37_14 = true
    ·subst c52
     have H1 : (none) = some r := by rw [if_pos rfl] at H; exact H
     clear H
     have H := H1
     clear H1
     exact absurd H (by simp)
    ·replace c52 := Bool.eq_false_iff.mpr c52
     subst c52
     have H1 : ((cell_And.f kj14 a0_0 a0_1 a0_2 a1_0 a1_1 a1_2).bind fun bt422 => ((hindsightref02_And.f kj14 a0_0 a0_1 a0_2 a1_0 a1_1 a1_2).bind fun bt426 => (if (!(bt422.1 == bt426.1) || (!(bt422.2.1 == bt426.2.1) || (!(bt422.2.2.1.toList == bt426.2.2.1.toList)))) = true then (hindsightlaw02_CellTruths.j1 kj14 true a0_0 a0_1 a0_2 a1_0 a1_1 a1_2) else (hindsightlaw02_CellTruths.j1 kj14 (bt422.2.2.2 != bt426.2.2.2) a0_0 a0_1 a0_2 a1_0 a1_1 a1_2)))) = some r := by rw [if_neg (show ¬ (false = true) by decide)] at H; exact H
     clear H
     have H := H1
     clear H1
     replace H := Option.bind_eq_some_iff.mp H
     obtain ⟨⟨t422, t423, t424, t425⟩, A530, H⟩ := H
     replace H : ((hindsightref02_And.f kj14 a0_0 a0_1 a0_2 a1_0 a1_1 a1_2).bind fun bt426 => (if (!(t422 == bt426.1) || (!(t423 == bt426.2.1) || (!(t424.toList == bt426.2.2.1.toList)))) = true then (hindsightlaw02_CellTruths.j1 kj14 true a0_0 a0_1 a0_2 a1_0 a1_1 a1_2) else (hindsightlaw02_CellTruths.j1 kj14 (t425 != bt426.2.2.2) a0_0 a0_1 a0_2 a1_0 a1_1 a1_2))) = some r := H
     have A53 := aM8 A530
     clear A530
     replace H := Option.bind_eq_some_iff.mp H
     obtain ⟨⟨t426, t427, t428, t429⟩, A540, H⟩ := H
     replace H : (if (!(t422 == t426) || (!(t423 == t427) || (!(t424.toList == t428.toList)))) = true then (hindsightlaw02_CellTruths.j1 kj14 true a0_0 a0_1 a0_2 a1_0 a1_1 a1_2) else (hindsightlaw02_CellTruths.j1 kj14 (t425 != t429) a0_0 a0_1 a0_2 a1_0 a1_1 a1_2)) = some r := H
     have A54 := aM8 A540
     clear A540
     have HC55 := aM8 H
     clear H
     have hnb56 := NB408_409.out
     have hnc56 := NB409_408.out
     have hnb57 := NB408_416.out
     have hnc57 := NB416_408.out
     have hnb58 := NB408_421.out
     have hnc58 := NB421_408.out
     have hcz59_0 : wc.cell? ⟨gb408, 0, none⟩ = some (.int .u8 a0_0) := (blk_cell BK408.out 0).trans rfl
     have hcz59_1 : wc.cell? ⟨gb408, 1, none⟩ = some (.int .i64 a0_1) := (blk_cell BK408.out 1).trans rfl
     have hcz59_2 : wc.cell? ⟨gb408, 2, none⟩ = some (.string a0_2) := (blk_cell BK408.out 2).trans rfl
     have hfz59_0 := blk_frozen BK408.out 0
     have hfz59_1 := blk_frozen BK408.out 1
     have hfz59_2 := blk_frozen BK408.out 2
     have hnb60 := NB409_416.out
     have hnc60 := NB416_409.out
     have hnb61 := NB409_421.out
     have hnc61 := NB421_409.out
     have hcz62_0 : wc.cell? ⟨gb409, 0, none⟩ = some (.int .u8 a1_0) := (blk_cell BK409.out 0).trans rfl
     have hcz62_1 : wc.cell? ⟨gb409, 1, none⟩ = some (.int .i64 a1_1) := (blk_cell BK409.out 1).trans rfl
     have hcz62_2 : wc.cell? ⟨gb409, 2, none⟩ = some (.string a1_2) := (blk_cell BK409.out 2).trans rfl
     have hfz62_0 := blk_frozen BK409.out 0
     have hfz62_1 := blk_frozen BK409.out 1
     have hfz62_2 := blk_frozen BK409.out 2
     go_upto_region 9 with (first | ((with_reducible refine gate_callee (f := 33) rfl ?_); refine goesL_ (some 41) rfl rfl Try.func33 (by kernel_rfl) rfl #[.agg #[.int .u8 a0_0, .int .i64 a0_1, .string a0_2], .agg #[.int .u8 a1_0, .int .i64 a1_1, .string a1_2]] rfl (by (try simp only [List.map_toArray, List.map_cons, List.map_nil]); first | done | rfl | (simp only [List.length_drop, List.length_take]; rfl)) ?_; (with_reducible refine (cell_And.calls kj14 a0_0 a0_1 a0_2 a1_0 a1_1 a1_2 t422 t423 t424 t425 _ A53.out).mono ?_); rintro e w63 ⟨rfl, hb⟩; refine ⟨_, rfl, ?_⟩; have n0_ := aM8 (bB8 (g := gb408) (o := .cells #[.int .u8 a0_0, .int .i64 a0_1, .string a0_2] 35 (0, 0)) (by (with_reducible repeat (first | refine bN8 ?_ _ | refine bD8 ?_ | refine bA8 ?_ _)); exact BK408.out) hb); have n1_ := aM8 (bB8 (g := gb409) (o := .cells #[.int .u8 a1_0, .int .i64 a1_1, .string a1_2] 35 (0, 0)) (by (with_reducible repeat (first | refine bN8 ?_ _ | refine bD8 ?_ | refine bA8 ?_ _)); exact BK409.out) hb); have n2_ := aM8 (bB8 (g := gb416) (o := .cells #[.int .u8 t412, .int .i64 t413, .string t414] 35 (0, 0)) (by (with_reducible repeat (first | refine bN8 ?_ _ | refine bD8 ?_ | refine bA8 ?_ _)); exact BK416.out) hb); have n3_ := aM8 (bB8 (g := gb421) (o := .cells #[.int .u8 t417, .int .i64 t418, .string t419] 35 (0, 0)) (by (with_reducible repeat (first | refine bN8 ?_ _ | refine bD8 ?_ | refine bA8 ?_ _)); exact BK421.out) hb); have n4_ := aM8 (below_step (by repeat (first | (with_reducible first | exact HB.out | apply below_alloc | apply pw_below_drewN | apply below_drew1 | refine bS8 ?_ GE408.out | refine bS8 ?_ GE409.out | refine bS8 ?_ GE416.out | refine bS8 ?_ GE421.out) | exact HB.out)) hb); clear BK408; clear BK409; clear BK416; clear BK421; clear HB; have BK408 := n0_; have BK409 := n1_; have BK416 := n2_; have BK421 := n3_; have HB := n4_; clear n0_ n1_ n2_ n3_ n4_; (try clear hb); (try clear hb2); (try clear hk); (try clear hi); have hnb64 := NB416_421.out; have hnc64 := NB421_416.out; have hcz65_0 : w63.cell? ⟨gb416, 0, none⟩ = some (.int .u8 t412) := (blk_cell BK416.out 0).trans rfl; have hcz65_1 : w63.cell? ⟨gb416, 1, none⟩ = some (.int .i64 t413) := (blk_cell BK416.out 1).trans rfl; have hcz65_2 : w63.cell? ⟨gb416, 2, none⟩ = some (.string t414) := (blk_cell BK416.out 2).trans rfl; have hfz65_0 := blk_frozen BK416.out 0; have hfz65_1 := blk_frozen BK416.out 1; have hfz65_2 := blk_frozen BK416.out 2; have hcz66_0 : w63.cell? ⟨gb408, 0, none⟩ = some (.int .u8 a0_0) := (blk_cell BK408.out 0).trans rfl; have hcz66_1 : w63.cell? ⟨gb408, 1, none⟩ = some (.int .i64 a0_1) := (blk_cell BK408.out 1).trans rfl; have hcz66_2 : w63.cell? ⟨gb408, 2, none⟩ = some (.string a0_2) := (blk_cell BK408.out 2).trans rfl; have hfz66_0 := blk_frozen BK408.out 0; have hfz66_1 := blk_frozen BK408.out 1; have hfz66_2 := blk_frozen BK408.out 2; have hcz67_0 : w63.cell? ⟨gb409, 0, none⟩ = some (.int .u8 a1_0) := (blk_cell BK409.out 0).trans rfl; have hcz67_1 : w63.cell? ⟨gb409, 1, none⟩ = some (.int .i64 a1_1) := (blk_cell BK409.out 1).trans rfl; have hcz67_2 : w63.cell? ⟨gb409, 2, none⟩ = some (.string a1_2) := (blk_cell BK409.out 2).trans rfl; have hfz67_0 := blk_frozen BK409.out 0; have hfz67_1 := blk_frozen BK409.out 1; have hfz67_2 := blk_frozen BK409.out 2) | ((with_reducible refine gate_callee (f := 38) rfl ?_); refine goesL_ (some 47) rfl rfl Try.func38 (by kernel_rfl) rfl #[.agg #[.int .u8 a0_0, .int .i64 a0_1, .string a0_2], .agg #[.int .u8 a1_0, .int .i64 a1_1, .string a1_2]] rfl (by (try simp only [List.map_toArray, List.map_cons, List.map_nil]); first | done | rfl | (simp only [List.length_drop, List.length_take]; rfl)) ?_; (with_reducible refine (hindsightref02_And.calls kj14 a0_0 a0_1 a0_2 a1_0 a1_1 a1_2 t426 t427 t428 t429 _ A54.out).mono ?_); rintro e w68 ⟨rfl, hb⟩; refine ⟨_, rfl, ?_⟩; have n0_ := aM8 (bB8 (g := gb408) (o := .cells #[.int .u8 a0_0, .int .i64 a0_1, .string a0_2] 35 (0, 0)) (by (with_reducible repeat (first | refine bN8 ?_ _ | refine bD8 ?_ | refine bA8 ?_ _ | refine blk_far ?_ NB408_416.out _)); exact BK408.out) hb); have n1_ := aM8 (bB8 (g := gb409) (o := .cells #[.int .u8 a1_0, .int .i64 a1_1, .string a1_2] 35 (0, 0)) (by (with_reducible repeat (first | refine bN8 ?_ _ | refine bD8 ?_ | refine bA8 ?_ _ | refine blk_far ?_ NB409_416.out _)); exact BK409.out) hb); have n2_ := aM8 (bB8 (g := gb416) (o := .cells #[.int .u8 t422, .int .i64 t423, .string t424] 35 (0, 0)) (by (with_reducible repeat (first | refine bN8 ?_ _ | refine bD8 ?_ | refine bA8 ?_ _)); refine blk_put (cs := #[.int .u8 t422, .int .i64 t423, .string t414]) ?_ 2 _ rfl; (with_reducible repeat (first | refine bN8 ?_ _ | refine bD8 ?_ | refine bA8 ?_ _)); refine blk_put (cs := #[.int .u8 t422, .int .i64 t413, .string t414]) ?_ 1 _ rfl; (with_reducible repeat (first | refine bN8 ?_ _ | refine bD8 ?_ | refine bA8 ?_ _)); refine blk_put (cs := #[.int .u8 t412, .int .i64 t413, .string t414]) ?_ 0 _ rfl; (with_reducible repeat (first | refine bN8 ?_ _ | refine bD8 ?_ | refine bA8 ?_ _)); exact BK416.out) hb); have n3_ := aM8 (bB8 (g := gb421) (o := .cells #[.int .u8 t417, .int .i64 t418, .string t419] 35 (0, 0)) (by (with_reducible repeat (first | refine bN8 ?_ _ | refine bD8 ?_ | refine bA8 ?_ _ | refine blk_far ?_ NB421_416.out _)); exact BK421.out) hb); have n4_ := aM8 (below_step (by repeat (first | (with_reducible first | exact HB.out | apply below_alloc | apply pw_below_drewN | apply below_drew1 | refine bS8 ?_ GE408.out | refine bS8 ?_ GE409.out | refine bS8 ?_ GE416.out | refine bS8 ?_ GE421.out) | exact HB.out)) hb); clear BK408; clear BK409; clear BK416; clear BK421; clear HB; have BK408 := n0_; have BK409 := n1_; have BK416 := n2_; have BK421 := n3_; have HB := n4_; clear n0_ n1_ n2_ n3_ n4_; (try clear hb); (try clear hb2); (try clear hk); (try clear hi); have hcz69_0 : w68.cell? ⟨gb421, 0, none⟩ = some (.int .u8 t417) := (blk_cell BK421.out 0).trans rfl; have hcz69_1 : w68.cell? ⟨gb421, 1, none⟩ = some (.int .i64 t418) := (blk_cell BK421.out 1).trans rfl; have hcz69_2 : w68.cell? ⟨gb421, 2, none⟩ = some (.string t419) := (blk_cell BK421.out 2).trans rfl; have hfz69_0 := blk_frozen BK421.out 0; have hfz69_1 := blk_frozen BK421.out 1; have hfz69_2 := blk_frozen BK421.out 2))
     (try simp only [Act.put, List.setIfInBounds_toArray, List.set_cons_zero, List.set_cons_succ])
     go_cut [57] (fun v57 wc => ∃ (kq : Nat) (x57_54 : Bool), v57 = .bool x57_54 ∧ Aside0 (hindsightlaw02_CellTruths.j1 kq x57_54 a0_0 a0_1 a0_2 a1_0 a1_1 a1_2 = some r) ∧ Aside0 (kq ≤ kj14) ∧ Aside0 (wc.heap[gb408]? = some (.cells #[.int .u8 a0_0, .int .i64 a0_1, .string a0_2] 35 (0, 0))) ∧ Aside0 (wc.heap[gb409]? = some (.cells #[.int .u8 a1_0, .int .i64 a1_1, .string a1_2] 35 (0, 0))) ∧ Aside0 (wc.heap[gb416]? = some (.cells #[.int .u8 t422, .int .i64 t423, .string t424] 35 (0, 0))) ∧ Aside0 (wc.heap[gb421]? = some (.cells #[.int .u8 t426, .int .i64 t427, .string t428] 35 (0, 0))) ∧ Aside0 (Below w.heap.size w wc))
     case first =>
      have H := HC55.out
      clear HC55
      by_cases c70 : (!(t422 == t426) || (!(t423 == t427) || (!(t424.toList == t428.toList)))) = true
      ·rw [if_pos c70] at H
       have c70b0 : (!(t422 == t426) || (!(t423 == t427) || (!(t424.toList == t428.toList)))) = true := c70
       clear c70
       (first | rw [c70b0] | (simp only [i64_w, i32_w]; rw [c70b0]) | skip)
       have H' := aM8 H
       clear H
       have hnb71 := NB416_408.out
       have hnc71 := NB408_416.out
       have hnb72 := NB416_409.out
       have hnc72 := NB409_416.out
       have hnb73 := NB416_421.out
       have hnc73 := NB421_416.out
       have hcz74_0 : w68.cell? ⟨gb416, 0, none⟩ = some (.int .u8 t422) := (blk_cell BK416.out 0).trans rfl
       have hcz74_1 : w68.cell? ⟨gb416, 1, none⟩ = some (.int .i64 t423) := (blk_cell BK416.out 1).trans rfl
       have hcz74_2 : w68.cell? ⟨gb416, 2, none⟩ = some (.string t424) := (blk_cell BK416.out 2).trans rfl
       have hfz74_0 := blk_frozen BK416.out 0
       have hfz74_1 := blk_frozen BK416.out 1
       have hfz74_2 := blk_frozen BK416.out 2
       have hnb75 := NB421_408.out
       have hnc75 := NB408_421.out
       have hnb76 := NB421_409.out
       have hnc76 := NB409_421.out
       have hcz77_0 : w68.cell? ⟨gb421, 0, none⟩ = some (.int .u8 t417) := (blk_cell BK421.out 0).trans rfl
       have hcz77_1 : w68.cell? ⟨gb421, 1, none⟩ = some (.int .i64 t418) := (blk_cell BK421.out 1).trans rfl
       have hcz77_2 : w68.cell? ⟨gb421, 2, none⟩ = some (.string t419) := (blk_cell BK421.out 2).trans rfl
       have hfz77_0 := blk_frozen BK421.out 0
       have hfz77_1 := blk_frozen BK421.out 1
       have hfz77_2 := blk_frozen BK421.out 2
       go_wp2
       go_meet
       case rel => exact ⟨_, (true), (by first | rfl | (simp; done) | (simp [*]; done)), H', ⟨by have := HJ14.out; first | omega | exact Nat.le_refl _⟩, ⟨by (with_reducible repeat (first | refine bN8 ?_ _ | refine bD8 ?_ | refine bA8 ?_ _ | refine blk_far ?_ NB408_421.out _)); exact BK408.out⟩, ⟨by (with_reducible repeat (first | refine bN8 ?_ _ | refine bD8 ?_ | refine bA8 ?_ _ | refine blk_far ?_ NB409_421.out _)); exact BK409.out⟩, ⟨by (with_reducible repeat (first | refine bN8 ?_ _ | refine bD8 ?_ | refine bA8 ?_ _ | refine blk_far ?_ NB416_421.out _)); exact BK416.out⟩, ⟨by (with_reducible repeat (first | refine bN8 ?_ _ | refine bD8 ?_ | refine bA8 ?_ _)); refine blk_put (cs := #[.int .u8 t426, .int .i64 t427, .string t419]) ?_ 2 _ rfl; (with_reducible repeat (first | refine bN8 ?_ _ | refine bD8 ?_ | refine bA8 ?_ _)); refine blk_put (cs := #[.int .u8 t426, .int .i64 t418, .string t419]) ?_ 1 _ rfl; (with_reducible repeat (first | refine bN8 ?_ _ | refine bD8 ?_ | refine bA8 ?_ _)); refine blk_put (cs := #[.int .u8 t417, .int .i64 t418, .string t419]) ?_ 0 _ rfl; (with_reducible repeat (first | refine bN8 ?_ _ | refine bD8 ?_ | refine bA8 ?_ _)); exact BK421.out⟩, ⟨by repeat (first | (with_reducible first | exact HB.out | apply below_alloc | apply pw_below_drewN | apply below_drew1 | refine bS8 ?_ GE408.out | refine bS8 ?_ GE409.out | refine bS8 ?_ GE416.out | refine bS8 ?_ GE421.out) | exact HB.out)⟩⟩
      ·rw [if_neg c70] at H
       have c70b0 : (!(t422 == t426) || (!(t423 == t427) || (!(t424.toList == t428.toList)))) = false := by simpa using c70
       clear c70
       (first | rw [c70b0] | (simp only [i64_w, i32_w]; rw [c70b0]) | skip)
       have H' := aM8 H
       clear H
       have hnb78 := NB416_408.out
       have hnc78 := NB408_416.out
       have hnb79 := NB416_409.out
       have hnc79 := NB409_416.out
       have hnb80 := NB416_421.out
       have hnc80 := NB421_416.out
       have hcz81_0 : w68.cell? ⟨gb416, 0, none⟩ = some (.int .u8 t422) := (blk_cell BK416.out 0).trans rfl
       have hcz81_1 : w68.cell? ⟨gb416, 1, none⟩ = some (.int .i64 t423) := (blk_cell BK416.out 1).trans rfl
       have hcz81_2 : w68.cell? ⟨gb416, 2, none⟩ = some (.string t424) := (blk_cell BK416.out 2).trans rfl
       have hfz81_0 := blk_frozen BK416.out 0
       have hfz81_1 := blk_frozen BK416.out 1
       have hfz81_2 := blk_frozen BK416.out 2
       have hnb82 := NB421_408.out
       have hnc82 := NB408_421.out
       have hnb83 := NB421_409.out
       have hnc83 := NB409_421.out
       have hcz84_0 : w68.cell? ⟨gb421, 0, none⟩ = some (.int .u8 t417) := (blk_cell BK421.out 0).trans rfl
       have hcz84_1 : w68.cell? ⟨gb421, 1, none⟩ = some (.int .i64 t418) := (blk_cell BK421.out 1).trans rfl
       have hcz84_2 : w68.cell? ⟨gb421, 2, none⟩ = some (.string t419) := (blk_cell BK421.out 2).trans rfl
       have hfz84_0 := blk_frozen BK421.out 0
       have hfz84_1 := blk_frozen BK421.out 1
       have hfz84_2 := blk_frozen BK421.out 2
       go_wp2
       go_meet
       case rel => exact ⟨_, ((t425 != t429)), (by first | rfl | (simp; done) | (simp [*]; done)), H', ⟨by have := HJ14.out; first | omega | exact Nat.le_refl _⟩, ⟨by (with_reducible repeat (first | refine bN8 ?_ _ | refine bD8 ?_ | refine bA8 ?_ _ | refine blk_far ?_ NB408_421.out _)); exact BK408.out⟩, ⟨by (with_reducible repeat (first | refine bN8 ?_ _ | refine bD8 ?_ | refine bA8 ?_ _ | refine blk_far ?_ NB409_421.out _)); exact BK409.out⟩, ⟨by (with_reducible repeat (first | refine bN8 ?_ _ | refine bD8 ?_ | refine bA8 ?_ _ | refine blk_far ?_ NB416_421.out _)); exact BK416.out⟩, ⟨by (with_reducible repeat (first | refine bN8 ?_ _ | refine bD8 ?_ | refine bA8 ?_ _)); refine blk_put (cs := #[.int .u8 t426, .int .i64 t427, .string t419]) ?_ 2 _ rfl; (with_reducible repeat (first | refine bN8 ?_ _ | refine bD8 ?_ | refine bA8 ?_ _)); refine blk_put (cs := #[.int .u8 t426, .int .i64 t418, .string t419]) ?_ 1 _ rfl; (with_reducible repeat (first | refine bN8 ?_ _ | refine bD8 ?_ | refine bA8 ?_ _)); refine blk_put (cs := #[.int .u8 t417, .int .i64 t418, .string t419]) ?_ 0 _ rfl; (with_reducible repeat (first | refine bN8 ?_ _ | refine bD8 ?_ | refine bA8 ?_ _)); exact BK421.out⟩, ⟨by repeat (first | (with_reducible first | exact HB.out | apply below_alloc | apply pw_below_drewN | apply below_drew1 | refine bS8 ?_ GE408.out | refine bS8 ?_ GE409.out | refine bS8 ?_ GE416.out | refine bS8 ?_ GE421.out) | exact HB.out)⟩⟩
     case rest =>
      clear HC55
      try clear c1
      try clear c2
      try clear p2
      try clear c3
      try clear c4
      try clear c5
      try clear c6
      try clear c7
      try clear c8
      try clear c18
      try clear c23
      try clear c24
      try clear c26
      try clear c27
      try clear c33
      try clear c34
      try clear c35
      try clear c36
      try clear c37
      try clear c37b0
      try clear c38
      try clear c39
      try clear c40
      try clear c42
      try clear c43
      try clear c45
      try clear c46
      try clear c47
      try clear c49
      try clear c50
      try clear c52
      try clear c56
      try clear c57
      try clear c58
      try clear c60
      try clear c61
      try clear c64
      try clear c70
      try clear c70b0
      try clear c71
      try clear c72
      try clear c73
      try clear c75
      try clear c76
      try clear c78
      try clear c79
      try clear c80
      try clear c82
      try clear c83
      try clear hcz10_0
      try clear hcz10_1
      try clear hcz10_2
      try clear hcz19_0
      try clear hcz19_1
      try clear hcz19_2
      try clear hcz20_0
      try clear hcz20_1
      try clear hcz20_2
      try clear hcz22_0
      try clear hcz22_1
      try clear hcz22_2
      try clear hcz23_0
      try clear hcz23_1
      try clear hcz23_2
      try clear hcz28_0
      try clear hcz28_1
      try clear hcz28_2
      try clear hcz29_0
      try clear hcz29_1
      try clear hcz29_2
      try clear hcz30_0
      try clear hcz30_1
      try clear hcz30_2
      try clear hcz36_0
      try clear hcz36_1
      try clear hcz36_2
      try clear hcz41_0
      try clear hcz41_1
      try clear hcz41_2
      try clear hcz44_0
      try clear hcz44_1
      try clear hcz44_2
      try clear hcz48_0
      try clear hcz48_1
      try clear hcz48_2
      try clear hcz51_0
      try clear hcz51_1
      try clear hcz51_2
      try clear hcz59_0
      try clear hcz59_1
      try clear hcz59_2
      try clear hcz62_0
      try clear hcz62_1
      try clear hcz62_2
      try clear hcz65_0
      try clear hcz65_1
      try clear hcz65_2
      try clear hcz66_0
      try clear hcz66_1
      try clear hcz66_2
      try clear hcz67_0
      try clear hcz67_1
      try clear hcz67_2
      try clear hcz69_0
      try clear hcz69_1
      try clear hcz69_2
      try clear hcz74_0
      try clear hcz74_1
      try clear hcz74_2
      try clear hcz77_0
      try clear hcz77_1
      try clear hcz77_2
      try clear hcz81_0
      try clear hcz81_1
      try clear hcz81_2
      try clear hcz84_0
      try clear hcz84_1
      try clear hcz84_2
      try clear hcz9_0
      try clear hcz9_1
      try clear hcz9_2
      try clear hfz10_0
      try clear hfz10_1
      try clear hfz10_2
      try clear hfz19_0
      try clear hfz19_1
      try clear hfz19_2
      try clear hfz20_0
      try clear hfz20_1
      try clear hfz20_2
      try clear hfz22_0
      try clear hfz22_1
      try clear hfz22_2
      try clear hfz23_0
      try clear hfz23_1
      try clear hfz23_2
      try clear hfz28_0
      try clear hfz28_1
      try clear hfz28_2
      try clear hfz29_0
      try clear hfz29_1
      try clear hfz29_2
      try clear hfz30_0
      try clear hfz30_1
      try clear hfz30_2
      try clear hfz36_0
      try clear hfz36_1
      try clear hfz36_2
      try clear hfz41_0
      try clear hfz41_1
      try clear hfz41_2
      try clear hfz44_0
      try clear hfz44_1
      try clear hfz44_2
      try clear hfz48_0
      try clear hfz48_1
      try clear hfz48_2
      try clear hfz51_0
      try clear hfz51_1
      try clear hfz51_2
      try clear hfz59_0
      try clear hfz59_1
      try clear hfz59_2
      try clear hfz62_0
      try clear hfz62_1
      try clear hfz62_2
      try clear hfz65_0
      try clear hfz65_1
      try clear hfz65_2
      try clear hfz66_0
      try clear hfz66_1
      try clear hfz66_2
      try clear hfz67_0
      try clear hfz67_1
      try clear hfz67_2
      try clear hfz69_0
      try clear hfz69_1
      try clear hfz69_2
      try clear hfz74_0
      try clear hfz74_1
      try clear hfz74_2
      try clear hfz77_0
      try clear hfz77_1
      try clear hfz77_2
      try clear hfz81_0
      try clear hfz81_1
      try clear hfz81_2
      try clear hfz84_0
      try clear hfz84_1
      try clear hfz84_2
      try clear hfz9_0
      try clear hfz9_1
      try clear hfz9_2
      try clear p2
      obtain ⟨kq, x57_54, rfl, HA, HJ54, BK408, BK409, BK416, BK421, HB⟩ := hcut
      cases kq with
      | zero => exact absurd HA.out (by simp [hindsightlaw02_CellTruths.j1])
      | succ kj54 =>
       have H := HA.out
       clear HA
       simp only [hindsightlaw02_CellTruths.j1] at H
       by_cases c85 : x57_54 = true
       ·subst c85
        have H1 : (none) = some r := by rw [if_pos rfl] at H; exact H
        clear H
        have H := H1
        clear H1
        exact absurd H (by simp)
       ·replace c85 := Bool.eq_false_iff.mpr c85
        subst c85
        have H1 : ((cell_Or.f kj54 a0_0 a0_1 a0_2 a1_0 a1_1 a1_2).bind fun bt430 => ((hindsightref02_Or.f kj54 a0_0 a0_1 a0_2 a1_0 a1_1 a1_2).bind fun bt434 => (if (!(bt430.1 == bt434.1) || (!(bt430.2.1 == bt434.2.1) || (!(bt430.2.2.1.toList == bt434.2.2.1.toList)))) = true then (hindsightlaw02_CellTruths.j2 kj54 true a0_0 a0_1 a0_2) else (hindsightlaw02_CellTruths.j2 kj54 (bt430.2.2.2 != bt434.2.2.2) a0_0 a0_1 a0_2)))) = some r := by rw [if_neg (show ¬ (false = true) by decide)] at H; exact H
        clear H
        have H := H1
        clear H1
        replace H := Option.bind_eq_some_iff.mp H
        obtain ⟨⟨t430, t431, t432, t433⟩, A860, H⟩ := H
        replace H : ((hindsightref02_Or.f kj54 a0_0 a0_1 a0_2 a1_0 a1_1 a1_2).bind fun bt434 => (if (!(t430 == bt434.1) || (!(t431 == bt434.2.1) || (!(t432.toList == bt434.2.2.1.toList)))) = true then (hindsightlaw02_CellTruths.j2 kj54 true a0_0 a0_1 a0_2) else (hindsightlaw02_CellTruths.j2 kj54 (t433 != bt434.2.2.2) a0_0 a0_1 a0_2))) = some r := H
        have A86 := aM8 A860
        clear A860
        replace H := Option.bind_eq_some_iff.mp H
        obtain ⟨⟨t434, t435, t436, t437⟩, A870, H⟩ := H
        replace H : (if (!(t430 == t434) || (!(t431 == t435) || (!(t432.toList == t436.toList)))) = true then (hindsightlaw02_CellTruths.j2 kj54 true a0_0 a0_1 a0_2) else (hindsightlaw02_CellTruths.j2 kj54 (t433 != t437) a0_0 a0_1 a0_2)) = some r := H
        have A87 := aM8 A870
        clear A870
        have HC88 := aM8 H
        clear H
        have hnb89 := NB408_409.out
        have hnc89 := NB409_408.out
        have hnb90 := NB408_416.out
        have hnc90 := NB416_408.out
        have hnb91 := NB408_421.out
        have hnc91 := NB421_408.out
        have hcz92_0 : wc.cell? ⟨gb408, 0, none⟩ = some (.int .u8 a0_0) := (blk_cell BK408.out 0).trans rfl
        have hcz92_1 : wc.cell? ⟨gb408, 1, none⟩ = some (.int .i64 a0_1) := (blk_cell BK408.out 1).trans rfl
        have hcz92_2 : wc.cell? ⟨gb408, 2, none⟩ = some (.string a0_2) := (blk_cell BK408.out 2).trans rfl
        have hfz92_0 := blk_frozen BK408.out 0
        have hfz92_1 := blk_frozen BK408.out 1
        have hfz92_2 := blk_frozen BK408.out 2
        have hnb93 := NB409_416.out
        have hnc93 := NB416_409.out
        have hnb94 := NB409_421.out
        have hnc94 := NB421_409.out
        have hcz95_0 : wc.cell? ⟨gb409, 0, none⟩ = some (.int .u8 a1_0) := (blk_cell BK409.out 0).trans rfl
        have hcz95_1 : wc.cell? ⟨gb409, 1, none⟩ = some (.int .i64 a1_1) := (blk_cell BK409.out 1).trans rfl
        have hcz95_2 : wc.cell? ⟨gb409, 2, none⟩ = some (.string a1_2) := (blk_cell BK409.out 2).trans rfl
        have hfz95_0 := blk_frozen BK409.out 0
        have hfz95_1 := blk_frozen BK409.out 1
        have hfz95_2 := blk_frozen BK409.out 2
        go_upto_region 13 with (first | ((with_reducible refine gate_callee (f := 35) rfl ?_); refine goesL_ (some 61) rfl rfl Try.func35 (by kernel_rfl) rfl #[.agg #[.int .u8 a0_0, .int .i64 a0_1, .string a0_2], .agg #[.int .u8 a1_0, .int .i64 a1_1, .string a1_2]] rfl (by (try simp only [List.map_toArray, List.map_cons, List.map_nil]); first | done | rfl | (simp only [List.length_drop, List.length_take]; rfl)) ?_; (with_reducible refine (cell_Or.calls kj54 a0_0 a0_1 a0_2 a1_0 a1_1 a1_2 t430 t431 t432 t433 _ A86.out).mono ?_); rintro e w96 ⟨rfl, hb⟩; refine ⟨_, rfl, ?_⟩; have n0_ := aM8 (bB8 (g := gb408) (o := .cells #[.int .u8 a0_0, .int .i64 a0_1, .string a0_2] 35 (0, 0)) (by (with_reducible repeat (first | refine bN8 ?_ _ | refine bD8 ?_ | refine bA8 ?_ _)); exact BK408.out) hb); have n1_ := aM8 (bB8 (g := gb409) (o := .cells #[.int .u8 a1_0, .int .i64 a1_1, .string a1_2] 35 (0, 0)) (by (with_reducible repeat (first | refine bN8 ?_ _ | refine bD8 ?_ | refine bA8 ?_ _)); exact BK409.out) hb); have n2_ := aM8 (bB8 (g := gb416) (o := .cells #[.int .u8 t422, .int .i64 t423, .string t424] 35 (0, 0)) (by (with_reducible repeat (first | refine bN8 ?_ _ | refine bD8 ?_ | refine bA8 ?_ _)); exact BK416.out) hb); have n3_ := aM8 (bB8 (g := gb421) (o := .cells #[.int .u8 t426, .int .i64 t427, .string t428] 35 (0, 0)) (by (with_reducible repeat (first | refine bN8 ?_ _ | refine bD8 ?_ | refine bA8 ?_ _)); exact BK421.out) hb); have n4_ := aM8 (below_step (by repeat (first | (with_reducible first | exact HB.out | apply below_alloc | apply pw_below_drewN | apply below_drew1 | refine bS8 ?_ GE408.out | refine bS8 ?_ GE409.out | refine bS8 ?_ GE416.out | refine bS8 ?_ GE421.out) | exact HB.out)) hb); clear BK408; clear BK409; clear BK416; clear BK421; clear HB; have BK408 := n0_; have BK409 := n1_; have BK416 := n2_; have BK421 := n3_; have HB := n4_; clear n0_ n1_ n2_ n3_ n4_; (try clear hb); (try clear hb2); (try clear hk); (try clear hi); have hnb97 := NB416_421.out; have hnc97 := NB421_416.out; have hcz98_0 : w96.cell? ⟨gb416, 0, none⟩ = some (.int .u8 t422) := (blk_cell BK416.out 0).trans rfl; have hcz98_1 : w96.cell? ⟨gb416, 1, none⟩ = some (.int .i64 t423) := (blk_cell BK416.out 1).trans rfl; have hcz98_2 : w96.cell? ⟨gb416, 2, none⟩ = some (.string t424) := (blk_cell BK416.out 2).trans rfl; have hfz98_0 := blk_frozen BK416.out 0; have hfz98_1 := blk_frozen BK416.out 1; have hfz98_2 := blk_frozen BK416.out 2; have hcz99_0 : w96.cell? ⟨gb408, 0, none⟩ = some (.int .u8 a0_0) := (blk_cell BK408.out 0).trans rfl; have hcz99_1 : w96.cell? ⟨gb408, 1, none⟩ = some (.int .i64 a0_1) := (blk_cell BK408.out 1).trans rfl; have hcz99_2 : w96.cell? ⟨gb408, 2, none⟩ = some (.string a0_2) := (blk_cell BK408.out 2).trans rfl; have hfz99_0 := blk_frozen BK408.out 0; have hfz99_1 := blk_frozen BK408.out 1; have hfz99_2 := blk_frozen BK408.out 2; have hcz100_0 : w96.cell? ⟨gb409, 0, none⟩ = some (.int .u8 a1_0) := (blk_cell BK409.out 0).trans rfl; have hcz100_1 : w96.cell? ⟨gb409, 1, none⟩ = some (.int .i64 a1_1) := (blk_cell BK409.out 1).trans rfl; have hcz100_2 : w96.cell? ⟨gb409, 2, none⟩ = some (.string a1_2) := (blk_cell BK409.out 2).trans rfl; have hfz100_0 := blk_frozen BK409.out 0; have hfz100_1 := blk_frozen BK409.out 1; have hfz100_2 := blk_frozen BK409.out 2) | ((with_reducible refine gate_callee (f := 39) rfl ?_); refine goesL_ (some 67) rfl rfl Try.func39 (by kernel_rfl) rfl #[.agg #[.int .u8 a0_0, .int .i64 a0_1, .string a0_2], .agg #[.int .u8 a1_0, .int .i64 a1_1, .string a1_2]] rfl (by (try simp only [List.map_toArray, List.map_cons, List.map_nil]); first | done | rfl | (simp only [List.length_drop, List.length_take]; rfl)) ?_; (with_reducible refine (hindsightref02_Or.calls kj54 a0_0 a0_1 a0_2 a1_0 a1_1 a1_2 t434 t435 t436 t437 _ A87.out).mono ?_); rintro e w101 ⟨rfl, hb⟩; refine ⟨_, rfl, ?_⟩; have n0_ := aM8 (bB8 (g := gb408) (o := .cells #[.int .u8 a0_0, .int .i64 a0_1, .string a0_2] 35 (0, 0)) (by (with_reducible repeat (first | refine bN8 ?_ _ | refine bD8 ?_ | refine bA8 ?_ _ | refine blk_far ?_ NB408_416.out _)); exact BK408.out) hb); have n1_ := aM8 (bB8 (g := gb409) (o := .cells #[.int .u8 a1_0, .int .i64 a1_1, .string a1_2] 35 (0, 0)) (by (with_reducible repeat (first | refine bN8 ?_ _ | refine bD8 ?_ | refine bA8 ?_ _ | refine blk_far ?_ NB409_416.out _)); exact BK409.out) hb); have n2_ := aM8 (bB8 (g := gb416) (o := .cells #[.int .u8 t430, .int .i64 t431, .string t432] 35 (0, 0)) (by (with_reducible repeat (first | refine bN8 ?_ _ | refine bD8 ?_ | refine bA8 ?_ _)); refine blk_put (cs := #[.int .u8 t430, .int .i64 t431, .string t424]) ?_ 2 _ rfl; (with_reducible repeat (first | refine bN8 ?_ _ | refine bD8 ?_ | refine bA8 ?_ _)); refine blk_put (cs := #[.int .u8 t430, .int .i64 t423, .string t424]) ?_ 1 _ rfl; (with_reducible repeat (first | refine bN8 ?_ _ | refine bD8 ?_ | refine bA8 ?_ _)); refine blk_put (cs := #[.int .u8 t422, .int .i64 t423, .string t424]) ?_ 0 _ rfl; (with_reducible repeat (first | refine bN8 ?_ _ | refine bD8 ?_ | refine bA8 ?_ _)); exact BK416.out) hb); have n3_ := aM8 (bB8 (g := gb421) (o := .cells #[.int .u8 t426, .int .i64 t427, .string t428] 35 (0, 0)) (by (with_reducible repeat (first | refine bN8 ?_ _ | refine bD8 ?_ | refine bA8 ?_ _ | refine blk_far ?_ NB421_416.out _)); exact BK421.out) hb); have n4_ := aM8 (below_step (by repeat (first | (with_reducible first | exact HB.out | apply below_alloc | apply pw_below_drewN | apply below_drew1 | refine bS8 ?_ GE408.out | refine bS8 ?_ GE409.out | refine bS8 ?_ GE416.out | refine bS8 ?_ GE421.out) | exact HB.out)) hb); clear BK408; clear BK409; clear BK416; clear BK421; clear HB; have BK408 := n0_; have BK409 := n1_; have BK416 := n2_; have BK421 := n3_; have HB := n4_; clear n0_ n1_ n2_ n3_ n4_; (try clear hb); (try clear hb2); (try clear hk); (try clear hi); have hcz102_0 : w101.cell? ⟨gb421, 0, none⟩ = some (.int .u8 t426) := (blk_cell BK421.out 0).trans rfl; have hcz102_1 : w101.cell? ⟨gb421, 1, none⟩ = some (.int .i64 t427) := (blk_cell BK421.out 1).trans rfl; have hcz102_2 : w101.cell? ⟨gb421, 2, none⟩ = some (.string t428) := (blk_cell BK421.out 2).trans rfl; have hfz102_0 := blk_frozen BK421.out 0; have hfz102_1 := blk_frozen BK421.out 1; have hfz102_2 := blk_frozen BK421.out 2))
        (try simp only [Act.put, List.setIfInBounds_toArray, List.set_cons_zero, List.set_cons_succ])
        go_cut [77] (fun v77 wc => ∃ (kq : Nat) (x77_87 : Bool), v77 = .bool x77_87 ∧ Aside0 (hindsightlaw02_CellTruths.j2 kq x77_87 a0_0 a0_1 a0_2 = some r) ∧ Aside0 (kq ≤ kj54) ∧ Aside0 (wc.heap[gb408]? = some (.cells #[.int .u8 a0_0, .int .i64 a0_1, .string a0_2] 35 (0, 0))) ∧ Aside0 (wc.heap[gb409]? = some (.cells #[.int .u8 a1_0, .int .i64 a1_1, .string a1_2] 35 (0, 0))) ∧ Aside0 (wc.heap[gb416]? = some (.cells #[.int .u8 t430, .int .i64 t431, .string t432] 35 (0, 0))) ∧ Aside0 (wc.heap[gb421]? = some (.cells #[.int .u8 t434, .int .i64 t435, .string t436] 35 (0, 0))) ∧ Aside0 (Below w.heap.size w wc))
        case first =>
         have H := HC88.out
         clear HC88
         by_cases c103 : (!(t430 == t434) || (!(t431 == t435) || (!(t432.toList == t436.toList)))) = true
         ·rw [if_pos c103] at H
          have c103b0 : (!(t430 == t434) || (!(t431 == t435) || (!(t432.toList == t436.toList)))) = true := c103
          clear c103
          (first | rw [c103b0] | (simp only [i64_w, i32_w]; rw [c103b0]) | skip)
          have H' := aM8 H
          clear H
          have hnb104 := NB416_408.out
          have hnc104 := NB408_416.out
          have hnb105 := NB416_409.out
          have hnc105 := NB409_416.out
          have hnb106 := NB416_421.out
          have hnc106 := NB421_416.out
          have hcz107_0 : w101.cell? ⟨gb416, 0, none⟩ = some (.int .u8 t430) := (blk_cell BK416.out 0).trans rfl
          have hcz107_1 : w101.cell? ⟨gb416, 1, none⟩ = some (.int .i64 t431) := (blk_cell BK416.out 1).trans rfl
          have hcz107_2 : w101.cell? ⟨gb416, 2, none⟩ = some (.string t432) := (blk_cell BK416.out 2).trans rfl
          have hfz107_0 := blk_frozen BK416.out 0
          have hfz107_1 := blk_frozen BK416.out 1
          have hfz107_2 := blk_frozen BK416.out 2
          have hnb108 := NB421_408.out
          have hnc108 := NB408_421.out
          have hnb109 := NB421_409.out
          have hnc109 := NB409_421.out
          have hcz110_0 : w101.cell? ⟨gb421, 0, none⟩ = some (.int .u8 t426) := (blk_cell BK421.out 0).trans rfl
          have hcz110_1 : w101.cell? ⟨gb421, 1, none⟩ = some (.int .i64 t427) := (blk_cell BK421.out 1).trans rfl
          have hcz110_2 : w101.cell? ⟨gb421, 2, none⟩ = some (.string t428) := (blk_cell BK421.out 2).trans rfl
          have hfz110_0 := blk_frozen BK421.out 0
          have hfz110_1 := blk_frozen BK421.out 1
          have hfz110_2 := blk_frozen BK421.out 2
          go_wp2
          go_meet
          case rel => exact ⟨_, (true), (by first | rfl | (simp; done) | (simp [*]; done)), H', ⟨by have := HJ14.out; have := HJ54.out; first | omega | exact Nat.le_refl _⟩, ⟨by (with_reducible repeat (first | refine bN8 ?_ _ | refine bD8 ?_ | refine bA8 ?_ _ | refine blk_far ?_ NB408_421.out _)); exact BK408.out⟩, ⟨by (with_reducible repeat (first | refine bN8 ?_ _ | refine bD8 ?_ | refine bA8 ?_ _ | refine blk_far ?_ NB409_421.out _)); exact BK409.out⟩, ⟨by (with_reducible repeat (first | refine bN8 ?_ _ | refine bD8 ?_ | refine bA8 ?_ _ | refine blk_far ?_ NB416_421.out _)); exact BK416.out⟩, ⟨by (with_reducible repeat (first | refine bN8 ?_ _ | refine bD8 ?_ | refine bA8 ?_ _)); refine blk_put (cs := #[.int .u8 t434, .int .i64 t435, .string t428]) ?_ 2 _ rfl; (with_reducible repeat (first | refine bN8 ?_ _ | refine bD8 ?_ | refine bA8 ?_ _)); refine blk_put (cs := #[.int .u8 t434, .int .i64 t427, .string t428]) ?_ 1 _ rfl; (with_reducible repeat (first | refine bN8 ?_ _ | refine bD8 ?_ | refine bA8 ?_ _)); refine blk_put (cs := #[.int .u8 t426, .int .i64 t427, .string t428]) ?_ 0 _ rfl; (with_reducible repeat (first | refine bN8 ?_ _ | refine bD8 ?_ | refine bA8 ?_ _)); exact BK421.out⟩, ⟨by repeat (first | (with_reducible first | exact HB.out | apply below_alloc | apply pw_below_drewN | apply below_drew1 | refine bS8 ?_ GE408.out | refine bS8 ?_ GE409.out | refine bS8 ?_ GE416.out | refine bS8 ?_ GE421.out) | exact HB.out)⟩⟩
         ·rw [if_neg c103] at H
          have c103b0 : (!(t430 == t434) || (!(t431 == t435) || (!(t432.toList == t436.toList)))) = false := by simpa using c103
          clear c103
          (first | rw [c103b0] | (simp only [i64_w, i32_w]; rw [c103b0]) | skip)
          have H' := aM8 H
          clear H
          have hnb111 := NB416_408.out
          have hnc111 := NB408_416.out
          have hnb112 := NB416_409.out
          have hnc112 := NB409_416.out
          have hnb113 := NB416_421.out
          have hnc113 := NB421_416.out
          have hcz114_0 : w101.cell? ⟨gb416, 0, none⟩ = some (.int .u8 t430) := (blk_cell BK416.out 0).trans rfl
          have hcz114_1 : w101.cell? ⟨gb416, 1, none⟩ = some (.int .i64 t431) := (blk_cell BK416.out 1).trans rfl
          have hcz114_2 : w101.cell? ⟨gb416, 2, none⟩ = some (.string t432) := (blk_cell BK416.out 2).trans rfl
          have hfz114_0 := blk_frozen BK416.out 0
          have hfz114_1 := blk_frozen BK416.out 1
          have hfz114_2 := blk_frozen BK416.out 2
          have hnb115 := NB421_408.out
          have hnc115 := NB408_421.out
          have hnb116 := NB421_409.out
          have hnc116 := NB409_421.out
          have hcz117_0 : w101.cell? ⟨gb421, 0, none⟩ = some (.int .u8 t426) := (blk_cell BK421.out 0).trans rfl
          have hcz117_1 : w101.cell? ⟨gb421, 1, none⟩ = some (.int .i64 t427) := (blk_cell BK421.out 1).trans rfl
          have hcz117_2 : w101.cell? ⟨gb421, 2, none⟩ = some (.string t428) := (blk_cell BK421.out 2).trans rfl
          have hfz117_0 := blk_frozen BK421.out 0
          have hfz117_1 := blk_frozen BK421.out 1
          have hfz117_2 := blk_frozen BK421.out 2
          go_wp2
          go_meet
          case rel => exact ⟨_, ((t433 != t437)), (by first | rfl | (simp; done) | (simp [*]; done)), H', ⟨by have := HJ14.out; have := HJ54.out; first | omega | exact Nat.le_refl _⟩, ⟨by (with_reducible repeat (first | refine bN8 ?_ _ | refine bD8 ?_ | refine bA8 ?_ _ | refine blk_far ?_ NB408_421.out _)); exact BK408.out⟩, ⟨by (with_reducible repeat (first | refine bN8 ?_ _ | refine bD8 ?_ | refine bA8 ?_ _ | refine blk_far ?_ NB409_421.out _)); exact BK409.out⟩, ⟨by (with_reducible repeat (first | refine bN8 ?_ _ | refine bD8 ?_ | refine bA8 ?_ _ | refine blk_far ?_ NB416_421.out _)); exact BK416.out⟩, ⟨by (with_reducible repeat (first | refine bN8 ?_ _ | refine bD8 ?_ | refine bA8 ?_ _)); refine blk_put (cs := #[.int .u8 t434, .int .i64 t435, .string t428]) ?_ 2 _ rfl; (with_reducible repeat (first | refine bN8 ?_ _ | refine bD8 ?_ | refine bA8 ?_ _)); refine blk_put (cs := #[.int .u8 t434, .int .i64 t427, .string t428]) ?_ 1 _ rfl; (with_reducible repeat (first | refine bN8 ?_ _ | refine bD8 ?_ | refine bA8 ?_ _)); refine blk_put (cs := #[.int .u8 t426, .int .i64 t427, .string t428]) ?_ 0 _ rfl; (with_reducible repeat (first | refine bN8 ?_ _ | refine bD8 ?_ | refine bA8 ?_ _)); exact BK421.out⟩, ⟨by repeat (first | (with_reducible first | exact HB.out | apply below_alloc | apply pw_below_drewN | apply below_drew1 | refine bS8 ?_ GE408.out | refine bS8 ?_ GE409.out | refine bS8 ?_ GE416.out | refine bS8 ?_ GE421.out) | exact HB.out)⟩⟩
        case rest =>
         clear HC88
         try clear c1
         try clear c2
         try clear p2
         try clear c3
         try clear c4
         try clear c5
         try clear c6
         try clear c7
         try clear c8
         try clear c9
         try clear c10
         try clear c11
         try clear c18
         try clear c23
         try clear c24
         try clear c26
         try clear c27
         try clear c33
         try clear c34
         try clear c35
         try clear c36
         try clear c37
         try clear c37b0
         try clear c38
         try clear c39
         try clear c40
         try clear c42
         try clear c43
         try clear c45
         try clear c46
         try clear c47
         try clear c49
         try clear c50
         try clear c52
         try clear c56
         try clear c57
         try clear c58
         try clear c60
         try clear c61
         try clear c64
         try clear c70
         try clear c70b0
         try clear c71
         try clear c72
         try clear c73
         try clear c75
         try clear c76
         try clear c78
         try clear c79
         try clear c80
         try clear c82
         try clear c83
         try clear c85
         try clear c89
         try clear c90
         try clear c91
         try clear c93
         try clear c94
         try clear c97
         try clear c103
         try clear c103b0
         try clear c104
         try clear c105
         try clear c106
         try clear c108
         try clear c109
         try clear c111
         try clear c112
         try clear c113
         try clear c115
         try clear c116
         try clear hcz100_0
         try clear hcz100_1
         try clear hcz100_2
         try clear hcz102_0
         try clear hcz102_1
         try clear hcz102_2
         try clear hcz107_0
         try clear hcz107_1
         try clear hcz107_2
         try clear hcz10_0
         try clear hcz10_1
         try clear hcz10_2
         try clear hcz110_0
         try clear hcz110_1
         try clear hcz110_2
         try clear hcz114_0
         try clear hcz114_1
         try clear hcz114_2
         try clear hcz117_0
         try clear hcz117_1
         try clear hcz117_2
         try clear hcz19_0
         try clear hcz19_1
         try clear hcz19_2
         try clear hcz20_0
         try clear hcz20_1
         try clear hcz20_2
         try clear hcz22_0
         try clear hcz22_1
         try clear hcz22_2
         try clear hcz23_0
         try clear hcz23_1
         try clear hcz23_2
         try clear hcz28_0
         try clear hcz28_1
         try clear hcz28_2
         try clear hcz29_0
         try clear hcz29_1
         try clear hcz29_2
         try clear hcz30_0
         try clear hcz30_1
         try clear hcz30_2
         try clear hcz36_0
         try clear hcz36_1
         try clear hcz36_2
         try clear hcz41_0
         try clear hcz41_1
         try clear hcz41_2
         try clear hcz44_0
         try clear hcz44_1
         try clear hcz44_2
         try clear hcz48_0
         try clear hcz48_1
         try clear hcz48_2
         try clear hcz51_0
         try clear hcz51_1
         try clear hcz51_2
         try clear hcz59_0
         try clear hcz59_1
         try clear hcz59_2
         try clear hcz62_0
         try clear hcz62_1
         try clear hcz62_2
         try clear hcz65_0
         try clear hcz65_1
         try clear hcz65_2
         try clear hcz66_0
         try clear hcz66_1
         try clear hcz66_2
         try clear hcz67_0
         try clear hcz67_1
         try clear hcz67_2
         try clear hcz69_0
         try clear hcz69_1
         try clear hcz69_2
         try clear hcz74_0
         try clear hcz74_1
         try clear hcz74_2
         try clear hcz77_0
         try clear hcz77_1
         try clear hcz77_2
         try clear hcz81_0
         try clear hcz81_1
         try clear hcz81_2
         try clear hcz84_0
         try clear hcz84_1
         try clear hcz84_2
         try clear hcz92_0
         try clear hcz92_1
         try clear hcz92_2
         try clear hcz95_0
         try clear hcz95_1
         try clear hcz95_2
         try clear hcz98_0
         try clear hcz98_1
         try clear hcz98_2
         try clear hcz99_0
         try clear hcz99_1
         try clear hcz99_2
         try clear hcz9_0
         try clear hcz9_1
         try clear hcz9_2
         try clear hfz100_0
         try clear hfz100_1
         try clear hfz100_2
         try clear hfz102_0
         try clear hfz102_1
         try clear hfz102_2
         try clear hfz107_0
         try clear hfz107_1
         try clear hfz107_2
         try clear hfz10_0
         try clear hfz10_1
         try clear hfz10_2
         try clear hfz110_0
         try clear hfz110_1
         try clear hfz110_2
         try clear hfz114_0
         try clear hfz114_1
         try clear hfz114_2
         try clear hfz117_0
         try clear hfz117_1
         try clear hfz117_2
         try clear hfz19_0
         try clear hfz19_1
         try clear hfz19_2
         try clear hfz20_0
         try clear hfz20_1
         try clear hfz20_2
         try clear hfz22_0
         try clear hfz22_1
         try clear hfz22_2
         try clear hfz23_0
         try clear hfz23_1
         try clear hfz23_2
         try clear hfz28_0
         try clear hfz28_1
         try clear hfz28_2
         try clear hfz29_0
         try clear hfz29_1
         try clear hfz29_2
         try clear hfz30_0
         try clear hfz30_1
         try clear hfz30_2
         try clear hfz36_0
         try clear hfz36_1
         try clear hfz36_2
         try clear hfz41_0
         try clear hfz41_1
         try clear hfz41_2
         try clear hfz44_0
         try clear hfz44_1
         try clear hfz44_2
         try clear hfz48_0
         try clear hfz48_1
         try clear hfz48_2
         try clear hfz51_0
         try clear hfz51_1
         try clear hfz51_2
         try clear hfz59_0
         try clear hfz59_1
         try clear hfz59_2
         try clear hfz62_0
         try clear hfz62_1
         try clear hfz62_2
         try clear hfz65_0
         try clear hfz65_1
         try clear hfz65_2
         try clear hfz66_0
         try clear hfz66_1
         try clear hfz66_2
         try clear hfz67_0
         try clear hfz67_1
         try clear hfz67_2
         try clear hfz69_0
         try clear hfz69_1
         try clear hfz69_2
         try clear hfz74_0
         try clear hfz74_1
         try clear hfz74_2
         try clear hfz77_0
         try clear hfz77_1
         try clear hfz77_2
         try clear hfz81_0
         try clear hfz81_1
         try clear hfz81_2
         try clear hfz84_0
         try clear hfz84_1
         try clear hfz84_2
         try clear hfz92_0
         try clear hfz92_1
         try clear hfz92_2
         try clear hfz95_0
         try clear hfz95_1
         try clear hfz95_2
         try clear hfz98_0
         try clear hfz98_1
         try clear hfz98_2
         try clear hfz99_0
         try clear hfz99_1
         try clear hfz99_2
         try clear hfz9_0
         try clear hfz9_1
         try clear hfz9_2
         try clear p2
         obtain ⟨kq, x77_87, rfl, HA, HJ87, BK408, BK409, BK416, BK421, HB⟩ := hcut
         cases kq with
         | zero => exact absurd HA.out (by simp [hindsightlaw02_CellTruths.j2])
         | succ kj87 =>
          have H := HA.out
          clear HA
          simp only [hindsightlaw02_CellTruths.j2] at H
          by_cases c118 : x77_87 = true
          ·subst c118
           have H1 : (none) = some r := by rw [if_pos rfl] at H; exact H
           clear H
           have H := H1
           clear H1
           exact absurd H (by simp)
          ·replace c118 := Bool.eq_false_iff.mpr c118
           subst c118
           have H1 : ((cell_Not.f a0_0 a0_1 a0_2).bind fun bt438 => ((hindsightref02_Not.f a0_0 a0_1 a0_2).bind fun bt442 => ((cell_Truth.f a0_0 a0_1 a0_2).bind fun bt446 => ((hindsightref02_Truth.f a0_0 a0_1 a0_2).bind fun bt449 => ((hindsightlaw02_alive.f kj87).bind fun t451 => (if t451 = true then (if (bt438.1 == bt442.1 && (bt438.2.1 == bt442.2.1 && (bt438.2.2.1.toList == bt442.2.2.1.toList))) = true then (if bt438.2.2.2 = bt442.2.2.2 then (if (bt446.1 == (bt449.1 == 1)) = true then (if bt449.2 = 0 then (if (bt446.2.1 == (bt449.1 != 2)) = true then (some (bt446.2.2 == bt449.2)) else (none)) else (if (bt446.2.1 == false) = true then (some (bt446.2.2 == bt449.2)) else (none))) else (none)) else (none)) else (none)) else (none))))))) = some r := by rw [if_neg (show ¬ (false = true) by decide)] at H; exact H
           clear H
           have H := H1
           clear H1
           replace H := Option.bind_eq_some_iff.mp H
           obtain ⟨⟨t438, t439, t440, t441⟩, A1190, H⟩ := H
           replace H : ((hindsightref02_Not.f a0_0 a0_1 a0_2).bind fun bt442 => ((cell_Truth.f a0_0 a0_1 a0_2).bind fun bt446 => ((hindsightref02_Truth.f a0_0 a0_1 a0_2).bind fun bt449 => ((hindsightlaw02_alive.f kj87).bind fun t451 => (if t451 = true then (if (t438 == bt442.1 && (t439 == bt442.2.1 && (t440.toList == bt442.2.2.1.toList))) = true then (if t441 = bt442.2.2.2 then (if (bt446.1 == (bt449.1 == 1)) = true then (if bt449.2 = 0 then (if (bt446.2.1 == (bt449.1 != 2)) = true then (some (bt446.2.2 == bt449.2)) else (none)) else (if (bt446.2.1 == false) = true then (some (bt446.2.2 == bt449.2)) else (none))) else (none)) else (none)) else (none)) else (none)))))) = some r := H
           have A119 := aM8 A1190
           clear A1190
           replace H := Option.bind_eq_some_iff.mp H
           obtain ⟨⟨t442, t443, t444, t445⟩, A1200, H⟩ := H
           replace H : ((cell_Truth.f a0_0 a0_1 a0_2).bind fun bt446 => ((hindsightref02_Truth.f a0_0 a0_1 a0_2).bind fun bt449 => ((hindsightlaw02_alive.f kj87).bind fun t451 => (if t451 = true then (if (t438 == t442 && (t439 == t443 && (t440.toList == t444.toList))) = true then (if t441 = t445 then (if (bt446.1 == (bt449.1 == 1)) = true then (if bt449.2 = 0 then (if (bt446.2.1 == (bt449.1 != 2)) = true then (some (bt446.2.2 == bt449.2)) else (none)) else (if (bt446.2.1 == false) = true then (some (bt446.2.2 == bt449.2)) else (none))) else (none)) else (none)) else (none)) else (none))))) = some r := H
           have A120 := aM8 A1200
           clear A1200
           replace H := Option.bind_eq_some_iff.mp H
           obtain ⟨⟨t446, t447, t448⟩, A1210, H⟩ := H
           replace H : ((hindsightref02_Truth.f a0_0 a0_1 a0_2).bind fun bt449 => ((hindsightlaw02_alive.f kj87).bind fun t451 => (if t451 = true then (if (t438 == t442 && (t439 == t443 && (t440.toList == t444.toList))) = true then (if t441 = t445 then (if (t446 == (bt449.1 == 1)) = true then (if bt449.2 = 0 then (if (t447 == (bt449.1 != 2)) = true then (some (t448 == bt449.2)) else (none)) else (if (t447 == false) = true then (some (t448 == bt449.2)) else (none))) else (none)) else (none)) else (none)) else (none)))) = some r := H
           have A121 := aM8 A1210
           clear A1210
           replace H := Option.bind_eq_some_iff.mp H
           obtain ⟨⟨t449, t450⟩, A1220, H⟩ := H
           replace H : ((hindsightlaw02_alive.f kj87).bind fun t451 => (if t451 = true then (if (t438 == t442 && (t439 == t443 && (t440.toList == t444.toList))) = true then (if t441 = t445 then (if (t446 == (t449 == 1)) = true then (if t450 = 0 then (if (t447 == (t449 != 2)) = true then (some (t448 == t450)) else (none)) else (if (t447 == false) = true then (some (t448 == t450)) else (none))) else (none)) else (none)) else (none)) else (none))) = some r := H
           have A122 := aM8 A1220
           clear A1220
           replace H := Option.bind_eq_some_iff.mp H
           obtain ⟨t451, A1230, H⟩ := H
           replace H : (if t451 = true then (if (t438 == t442 && (t439 == t443 && (t440.toList == t444.toList))) = true then (if t441 = t445 then (if (t446 == (t449 == 1)) = true then (if t450 = 0 then (if (t447 == (t449 != 2)) = true then (some (t448 == t450)) else (none)) else (if (t447 == false) = true then (some (t448 == t450)) else (none))) else (none)) else (none)) else (none)) else (none)) = some r := H
           have A123 := aM8 A1230
           clear A1230
           by_cases c124 : t451 = true
           ·subst c124
            have H1 : (if (t438 == t442 && (t439 == t443 && (t440.toList == t444.toList))) = true then (if t441 = t445 then (if (t446 == (t449 == 1)) = true then (if t450 = 0 then (if (t447 == (t449 != 2)) = true then (some (t448 == t450)) else (none)) else (if (t447 == false) = true then (some (t448 == t450)) else (none))) else (none)) else (none)) else (none)) = some r := by rw [if_pos rfl] at H; exact H
            clear H
            have H := H1
            clear H1
            by_cases c125 : (t438 == t442 && (t439 == t443 && (t440.toList == t444.toList))) = true
            ·rw [if_pos c125] at H
             have c125b0 : (t438 == t442 && (t439 == t443 && (t440.toList == t444.toList))) = true := c125
             (try (have c125b1 : decide (t438 = t442 && (t439 == t443 && (t440.toList == t444.toList))) = true := by simpa using c125))
             (try (have c125b2 : (t438 == t442 && (t439 == t443 && (t440.toList == t444.toList))) = true := by simpa using c125))
             (try (have c125b3 : (!(t438 == t442 && (t439 == t443 && (t440.toList == t444.toList)))) = false := by first | exact c125 | simpa using c125))
             clear c125
             by_cases c126 : t441 = t445
             ·rw [if_pos c126] at H
              have c126b0 : (t441 == t445) = true := beq_iff_eq.mpr c126
              have c126b1 : (t441 != t445) = false := bne_eq_false_iff_eq.mpr c126
              clear c126
              by_cases c127 : (t446 == (t449 == 1)) = true
              ·rw [if_pos c127] at H
               have c127b0 : (t446 == (t449 == 1)) = true := c127
               (try (have c127b1 : decide (t446 = (t449 == 1)) = true := by simpa using c127))
               (try (have c127b2 : (t446 == (t449 == 1)) = true := by simpa using c127))
               (try (have c127b3 : (!(t446 == (t449 == 1))) = false := by first | exact c127 | simpa using c127))
               clear c127
               by_cases c128 : t450 = 0
               ·rw [if_pos c128] at H
                have c128b0 : (t450 == 0) = true := beq_iff_eq.mpr c128
                have c128b1 : (t450 != 0) = false := bne_eq_false_iff_eq.mpr c128
                clear c128
                by_cases c129 : (t447 == (t449 != 2)) = true
                ·rw [if_pos c129] at H
                 have c129b0 : (t447 == (t449 != 2)) = true := c129
                 (try (have c129b1 : decide (t447 = (t449 != 2)) = true := by simpa using c129))
                 (try (have c129b2 : (t447 == (t449 != 2)) = true := by simpa using c129))
                 (try (have c129b3 : (!(t447 == (t449 != 2))) = false := by first | exact c129 | simpa using c129))
                 clear c129
                 obtain rfl := Option.some.inj H
                 have hnb130 := NB408_409.out
                 have hnc130 := NB409_408.out
                 have hnb131 := NB408_416.out
                 have hnc131 := NB416_408.out
                 have hnb132 := NB408_421.out
                 have hnc132 := NB421_408.out
                 have hcz133_0 : wc.cell? ⟨gb408, 0, none⟩ = some (.int .u8 a0_0) := (blk_cell BK408.out 0).trans rfl
                 have hcz133_1 : wc.cell? ⟨gb408, 1, none⟩ = some (.int .i64 a0_1) := (blk_cell BK408.out 1).trans rfl
                 have hcz133_2 : wc.cell? ⟨gb408, 2, none⟩ = some (.string a0_2) := (blk_cell BK408.out 2).trans rfl
                 have hfz133_0 := blk_frozen BK408.out 0
                 have hfz133_1 := blk_frozen BK408.out 1
                 have hfz133_2 := blk_frozen BK408.out 2
                 go_wp2_with (first | ((with_reducible refine gate_callee (f := 34) rfl ?_); refine goesL_ (some 80) rfl rfl Try.func34 (by kernel_rfl) rfl #[.agg #[.int .u8 a0_0, .int .i64 a0_1, .string a0_2]] rfl (by (try simp only [List.map_toArray, List.map_cons, List.map_nil]); first | done | rfl | (simp only [List.length_drop, List.length_take]; rfl)) ?_; (with_reducible refine (cell_Not.calls a0_0 a0_1 a0_2 t438 t439 t440 t441 _ A119.out).mono ?_); rintro e w134 ⟨rfl, hb⟩; refine ⟨_, rfl, ?_⟩; have n0_ := aM8 (bB8 (g := gb408) (o := .cells #[.int .u8 a0_0, .int .i64 a0_1, .string a0_2] 35 (0, 0)) (by (with_reducible repeat (first | refine bN8 ?_ _ | refine bD8 ?_ | refine bA8 ?_ _)); exact BK408.out) hb); have n1_ := aM8 (bB8 (g := gb409) (o := .cells #[.int .u8 a1_0, .int .i64 a1_1, .string a1_2] 35 (0, 0)) (by (with_reducible repeat (first | refine bN8 ?_ _ | refine bD8 ?_ | refine bA8 ?_ _)); exact BK409.out) hb); have n2_ := aM8 (bB8 (g := gb416) (o := .cells #[.int .u8 t430, .int .i64 t431, .string t432] 35 (0, 0)) (by (with_reducible repeat (first | refine bN8 ?_ _ | refine bD8 ?_ | refine bA8 ?_ _)); exact BK416.out) hb); have n3_ := aM8 (bB8 (g := gb421) (o := .cells #[.int .u8 t434, .int .i64 t435, .string t436] 35 (0, 0)) (by (with_reducible repeat (first | refine bN8 ?_ _ | refine bD8 ?_ | refine bA8 ?_ _)); exact BK421.out) hb); have n4_ := aM8 (below_step (by repeat (first | (with_reducible first | exact HB.out | apply below_alloc | apply pw_below_drewN | apply below_drew1 | refine bS8 ?_ GE408.out | refine bS8 ?_ GE409.out | refine bS8 ?_ GE416.out | refine bS8 ?_ GE421.out) | exact HB.out)) hb); clear BK408; clear BK409; clear BK416; clear BK421; clear HB; have BK408 := n0_; have BK409 := n1_; have BK416 := n2_; have BK421 := n3_; have HB := n4_; clear n0_ n1_ n2_ n3_ n4_; (try clear hb); (try clear hb2); (try clear hk); (try clear hi); have hnb135 := NB416_409.out; have hnc135 := NB409_416.out; have hnb136 := NB416_421.out; have hnc136 := NB421_416.out; have hcz137_0 : w134.cell? ⟨gb416, 0, none⟩ = some (.int .u8 t430) := (blk_cell BK416.out 0).trans rfl; have hcz137_1 : w134.cell? ⟨gb416, 1, none⟩ = some (.int .i64 t431) := (blk_cell BK416.out 1).trans rfl; have hcz137_2 : w134.cell? ⟨gb416, 2, none⟩ = some (.string t432) := (blk_cell BK416.out 2).trans rfl; have hfz137_0 := blk_frozen BK416.out 0; have hfz137_1 := blk_frozen BK416.out 1; have hfz137_2 := blk_frozen BK416.out 2; have hcz138_0 : w134.cell? ⟨gb408, 0, none⟩ = some (.int .u8 a0_0) := (blk_cell BK408.out 0).trans rfl; have hcz138_1 : w134.cell? ⟨gb408, 1, none⟩ = some (.int .i64 a0_1) := (blk_cell BK408.out 1).trans rfl; have hcz138_2 : w134.cell? ⟨gb408, 2, none⟩ = some (.string a0_2) := (blk_cell BK408.out 2).trans rfl; have hfz138_0 := blk_frozen BK408.out 0; have hfz138_1 := blk_frozen BK408.out 1; have hfz138_2 := blk_frozen BK408.out 2) | ((with_reducible refine gate_callee (f := 40) rfl ?_); refine goesL_ (some 85) rfl rfl Try.func40 (by kernel_rfl) rfl #[.agg #[.int .u8 a0_0, .int .i64 a0_1, .string a0_2]] rfl (by (try simp only [List.map_toArray, List.map_cons, List.map_nil]); first | done | rfl | (simp only [List.length_drop, List.length_take]; rfl)) ?_; (with_reducible refine (hindsightref02_Not.calls a0_0 a0_1 a0_2 t442 t443 t444 t445 _ A120.out).mono ?_); rintro e w139 ⟨rfl, hb⟩; refine ⟨_, rfl, ?_⟩; have n0_ := aM8 (bB8 (g := gb408) (o := .cells #[.int .u8 a0_0, .int .i64 a0_1, .string a0_2] 35 (0, 0)) (by (with_reducible repeat (first | refine bN8 ?_ _ | refine bD8 ?_ | refine bA8 ?_ _ | refine blk_far ?_ NB408_416.out _)); exact BK408.out) hb); have n1_ := aM8 (bB8 (g := gb409) (o := .cells #[.int .u8 a1_0, .int .i64 a1_1, .string a1_2] 35 (0, 0)) (by (with_reducible repeat (first | refine bN8 ?_ _ | refine bD8 ?_ | refine bA8 ?_ _ | refine blk_far ?_ NB409_416.out _)); exact BK409.out) hb); have n2_ := aM8 (bB8 (g := gb416) (o := .cells #[.int .u8 t438, .int .i64 t439, .string t440] 35 (0, 0)) (by (with_reducible repeat (first | refine bN8 ?_ _ | refine bD8 ?_ | refine bA8 ?_ _)); refine blk_put (cs := #[.int .u8 t438, .int .i64 t439, .string t432]) ?_ 2 _ rfl; (with_reducible repeat (first | refine bN8 ?_ _ | refine bD8 ?_ | refine bA8 ?_ _)); refine blk_put (cs := #[.int .u8 t438, .int .i64 t431, .string t432]) ?_ 1 _ rfl; (with_reducible repeat (first | refine bN8 ?_ _ | refine bD8 ?_ | refine bA8 ?_ _)); refine blk_put (cs := #[.int .u8 t430, .int .i64 t431, .string t432]) ?_ 0 _ rfl; (with_reducible repeat (first | refine bN8 ?_ _ | refine bD8 ?_ | refine bA8 ?_ _)); exact BK416.out) hb); have n3_ := aM8 (bB8 (g := gb421) (o := .cells #[.int .u8 t434, .int .i64 t435, .string t436] 35 (0, 0)) (by (with_reducible repeat (first | refine bN8 ?_ _ | refine bD8 ?_ | refine bA8 ?_ _ | refine blk_far ?_ NB421_416.out _)); exact BK421.out) hb); have n4_ := aM8 (below_step (by repeat (first | (with_reducible first | exact HB.out | apply below_alloc | apply pw_below_drewN | apply below_drew1 | refine bS8 ?_ GE408.out | refine bS8 ?_ GE409.out | refine bS8 ?_ GE416.out | refine bS8 ?_ GE421.out) | exact HB.out)) hb); clear BK408; clear BK409; clear BK416; clear BK421; clear HB; have BK408 := n0_; have BK409 := n1_; have BK416 := n2_; have BK421 := n3_; have HB := n4_; clear n0_ n1_ n2_ n3_ n4_; (try clear hb); (try clear hb2); (try clear hk); (try clear hi); have hnb140 := NB421_409.out; have hnc140 := NB409_421.out; have hcz141_0 : w139.cell? ⟨gb421, 0, none⟩ = some (.int .u8 t434) := (blk_cell BK421.out 0).trans rfl; have hcz141_1 : w139.cell? ⟨gb421, 1, none⟩ = some (.int .i64 t435) := (blk_cell BK421.out 1).trans rfl; have hcz141_2 : w139.cell? ⟨gb421, 2, none⟩ = some (.string t436) := (blk_cell BK421.out 2).trans rfl; have hfz141_0 := blk_frozen BK421.out 0; have hfz141_1 := blk_frozen BK421.out 1; have hfz141_2 := blk_frozen BK421.out 2; have hcz142_0 : w139.cell? ⟨gb408, 0, none⟩ = some (.int .u8 a0_0) := (blk_cell BK408.out 0).trans rfl; have hcz142_1 : w139.cell? ⟨gb408, 1, none⟩ = some (.int .i64 a0_1) := (blk_cell BK408.out 1).trans rfl; have hcz142_2 : w139.cell? ⟨gb408, 2, none⟩ = some (.string a0_2) := (blk_cell BK408.out 2).trans rfl; have hfz142_0 := blk_frozen BK408.out 0; have hfz142_1 := blk_frozen BK408.out 1; have hfz142_2 := blk_frozen BK408.out 2) | ((with_reducible refine gate_callee (f := 41) rfl ?_); refine goesL_ (some 90) rfl rfl Try.func41 (by kernel_rfl) rfl #[.agg #[.int .u8 a0_0, .int .i64 a0_1, .string a0_2]] rfl (by (try simp only [List.map_toArray, List.map_cons, List.map_nil]); first | done | rfl | (simp only [List.length_drop, List.length_take]; rfl)) ?_; (with_reducible refine (cell_Truth.calls a0_0 a0_1 a0_2 t446 t447 t448 _ A121.out).mono ?_); rintro e w143 ⟨rfl, hb⟩; refine ⟨_, rfl, ?_⟩; have n0_ := aM8 (bB8 (g := gb408) (o := .cells #[.int .u8 a0_0, .int .i64 a0_1, .string a0_2] 35 (0, 0)) (by (with_reducible repeat (first | refine bN8 ?_ _ | refine bD8 ?_ | refine bA8 ?_ _ | refine blk_far ?_ NB408_421.out _)); exact BK408.out) hb); have n1_ := aM8 (bB8 (g := gb409) (o := .cells #[.int .u8 a1_0, .int .i64 a1_1, .string a1_2] 35 (0, 0)) (by (with_reducible repeat (first | refine bN8 ?_ _ | refine bD8 ?_ | refine bA8 ?_ _ | refine blk_far ?_ NB409_421.out _)); exact BK409.out) hb); have n2_ := aM8 (bB8 (g := gb416) (o := .cells #[.int .u8 t438, .int .i64 t439, .string t440] 35 (0, 0)) (by (with_reducible repeat (first | refine bN8 ?_ _ | refine bD8 ?_ | refine bA8 ?_ _ | refine blk_far ?_ NB416_421.out _)); exact BK416.out) hb); have n3_ := aM8 (bB8 (g := gb421) (o := .cells #[.int .u8 t442, .int .i64 t443, .string t444] 35 (0, 0)) (by (with_reducible repeat (first | refine bN8 ?_ _ | refine bD8 ?_ | refine bA8 ?_ _)); refine blk_put (cs := #[.int .u8 t442, .int .i64 t443, .string t436]) ?_ 2 _ rfl; (with_reducible repeat (first | refine bN8 ?_ _ | refine bD8 ?_ | refine bA8 ?_ _)); refine blk_put (cs := #[.int .u8 t442, .int .i64 t435, .string t436]) ?_ 1 _ rfl; (with_reducible repeat (first | refine bN8 ?_ _ | refine bD8 ?_ | refine bA8 ?_ _)); refine blk_put (cs := #[.int .u8 t434, .int .i64 t435, .string t436]) ?_ 0 _ rfl; (with_reducible repeat (first | refine bN8 ?_ _ | refine bD8 ?_ | refine bA8 ?_ _)); exact BK421.out) hb); have n4_ := aM8 (below_step (by repeat (first | (with_reducible first | exact HB.out | apply below_alloc | apply pw_below_drewN | apply below_drew1 | refine bS8 ?_ GE408.out | refine bS8 ?_ GE409.out | refine bS8 ?_ GE416.out | refine bS8 ?_ GE421.out) | exact HB.out)) hb); clear BK408; clear BK409; clear BK416; clear BK421; clear HB; have BK408 := n0_; have BK409 := n1_; have BK416 := n2_; have BK421 := n3_; have HB := n4_; clear n0_ n1_ n2_ n3_ n4_; (try clear hb); (try clear hb2); (try clear hk); (try clear hi); have hcz144_0 : w143.cell? ⟨gb408, 0, none⟩ = some (.int .u8 a0_0) := (blk_cell BK408.out 0).trans rfl; have hcz144_1 : w143.cell? ⟨gb408, 1, none⟩ = some (.int .i64 a0_1) := (blk_cell BK408.out 1).trans rfl; have hcz144_2 : w143.cell? ⟨gb408, 2, none⟩ = some (.string a0_2) := (blk_cell BK408.out 2).trans rfl; have hfz144_0 := blk_frozen BK408.out 0; have hfz144_1 := blk_frozen BK408.out 1; have hfz144_2 := blk_frozen BK408.out 2) | ((with_reducible refine gate_callee (f := 42) rfl ?_); refine goesL_ (some 96) rfl rfl Try.func42 (by kernel_rfl) rfl #[.agg #[.int .u8 a0_0, .int .i64 a0_1, .string a0_2]] rfl (by (try simp only [List.map_toArray, List.map_cons, List.map_nil]); first | done | rfl | (simp only [List.length_drop, List.length_take]; rfl)) ?_; (with_reducible refine (hindsightref02_Truth.calls a0_0 a0_1 a0_2 t449 t450 _ A122.out).mono ?_); rintro e w145 ⟨rfl, hb⟩; refine ⟨_, rfl, ?_⟩; have n0_ := aM8 (bB8 (g := gb408) (o := .cells #[.int .u8 a0_0, .int .i64 a0_1, .string a0_2] 35 (0, 0)) (by (with_reducible repeat (first | refine bN8 ?_ _ | refine bD8 ?_ | refine bA8 ?_ _)); exact BK408.out) hb); have n1_ := aM8 (bB8 (g := gb409) (o := .cells #[.int .u8 a1_0, .int .i64 a1_1, .string a1_2] 35 (0, 0)) (by (with_reducible repeat (first | refine bN8 ?_ _ | refine bD8 ?_ | refine bA8 ?_ _)); exact BK409.out) hb); have n2_ := aM8 (bB8 (g := gb416) (o := .cells #[.int .u8 t438, .int .i64 t439, .string t440] 35 (0, 0)) (by (with_reducible repeat (first | refine bN8 ?_ _ | refine bD8 ?_ | refine bA8 ?_ _)); exact BK416.out) hb); have n3_ := aM8 (bB8 (g := gb421) (o := .cells #[.int .u8 t442, .int .i64 t443, .string t444] 35 (0, 0)) (by (with_reducible repeat (first | refine bN8 ?_ _ | refine bD8 ?_ | refine bA8 ?_ _)); exact BK421.out) hb); have n4_ := aM8 (below_step (by repeat (first | (with_reducible first | exact HB.out | apply below_alloc | apply pw_below_drewN | apply below_drew1 | refine bS8 ?_ GE408.out | refine bS8 ?_ GE409.out | refine bS8 ?_ GE416.out | refine bS8 ?_ GE421.out) | exact HB.out)) hb); clear BK408; clear BK409; clear BK416; clear BK421; clear HB; have BK408 := n0_; have BK409 := n1_; have BK416 := n2_; have BK421 := n3_; have HB := n4_; clear n0_ n1_ n2_ n3_ n4_; (try clear hb); (try clear hb2); (try clear hk); (try clear hi)) | ((with_reducible refine gate_callee (f := 24) rfl ?_); refine goesL_ (some 99) rfl rfl Try.func24 (by kernel_rfl) rfl #[] rfl (by (try simp only [List.map_toArray, List.map_cons, List.map_nil]); first | done | rfl | (simp only [List.length_drop, List.length_take]; rfl)) ?_; (with_reducible refine (hindsightlaw02_alive.calls kj87  true _ A123.out).mono ?_); rintro e w146 ⟨rfl, hb⟩; refine ⟨_, rfl, ?_⟩; have n0_ := aM8 (bB8 (g := gb408) (o := .cells #[.int .u8 a0_0, .int .i64 a0_1, .string a0_2] 35 (0, 0)) (by (with_reducible repeat (first | refine bN8 ?_ _ | refine bD8 ?_ | refine bA8 ?_ _)); exact BK408.out) hb); have n1_ := aM8 (bB8 (g := gb409) (o := .cells #[.int .u8 a1_0, .int .i64 a1_1, .string a1_2] 35 (0, 0)) (by (with_reducible repeat (first | refine bN8 ?_ _ | refine bD8 ?_ | refine bA8 ?_ _)); exact BK409.out) hb); have n2_ := aM8 (bB8 (g := gb416) (o := .cells #[.int .u8 t438, .int .i64 t439, .string t440] 35 (0, 0)) (by (with_reducible repeat (first | refine bN8 ?_ _ | refine bD8 ?_ | refine bA8 ?_ _)); exact BK416.out) hb); have n3_ := aM8 (bB8 (g := gb421) (o := .cells #[.int .u8 t442, .int .i64 t443, .string t444] 35 (0, 0)) (by (with_reducible repeat (first | refine bN8 ?_ _ | refine bD8 ?_ | refine bA8 ?_ _)); exact BK421.out) hb); have n4_ := aM8 (below_step (by repeat (first | (with_reducible first | exact HB.out | apply below_alloc | apply pw_below_drewN | apply below_drew1 | refine bS8 ?_ GE408.out | refine bS8 ?_ GE409.out | refine bS8 ?_ GE416.out | refine bS8 ?_ GE421.out) | exact HB.out)) hb); clear BK408; clear BK409; clear BK416; clear BK421; clear HB; have BK408 := n0_; have BK409 := n1_; have BK416 := n2_; have BK421 := n3_; have HB := n4_; clear n0_ n1_ n2_ n3_ n4_; (try clear hb); (try clear hb2); (try clear hk); (try clear hi); have hcz147_0 : w146.cell? ⟨gb416, 0, none⟩ = some (.int .u8 t438) := (blk_cell BK416.out 0).trans rfl; have hcz147_1 : w146.cell? ⟨gb416, 1, none⟩ = some (.int .i64 t439) := (blk_cell BK416.out 1).trans rfl; have hcz147_2 : w146.cell? ⟨gb416, 2, none⟩ = some (.string t440) := (blk_cell BK416.out 2).trans rfl; have hfz147_0 := blk_frozen BK416.out 0; have hfz147_1 := blk_frozen BK416.out 1; have hfz147_2 := blk_frozen BK416.out 2; have hcz148_0 : w146.cell? ⟨gb421, 0, none⟩ = some (.int .u8 t442) := (blk_cell BK421.out 0).trans rfl; have hcz148_1 : w146.cell? ⟨gb421, 1, none⟩ = some (.int .i64 t443) := (blk_cell BK421.out 1).trans rfl; have hcz148_2 : w146.cell? ⟨gb421, 2, none⟩ = some (.string t444) := (blk_cell BK421.out 2).trans rfl; have hfz148_0 := blk_frozen BK421.out 0; have hfz148_1 := blk_frozen BK421.out 1; have hfz148_2 := blk_frozen BK421.out 2))
                 (try (all_goals (try (exact absurd (c125b3.symm.trans (show (!(t438 == t442 && (t439 == t443 && (t440.toList == t444.toList)))) = true by assumption)) (by decide)))))
                 (try (all_goals (try (exact absurd (c127b3.symm.trans (show (!(t446 == (t449 == 1))) = true by assumption)) (by decide)))))
                 (try (all_goals (try (exact absurd (c129b3.symm.trans (show (!(t447 == (t449 != 2))) = true by assumption)) (by decide)))))
                 go_ret
                 exact ⟨by first | rfl | (simp [errW_none, errW_some] <;> rfl) | (simp [*, errW_none, errW_some] <;> rfl), by repeat (first | (with_reducible first | exact HB.out | apply below_alloc | apply pw_below_drewN | apply below_drew1 | refine bS8 ?_ GE408.out | refine bS8 ?_ GE409.out | refine bS8 ?_ GE416.out | refine bS8 ?_ GE421.out) | exact HB.out)⟩
                ·rw [if_neg c129] at H
                 exact absurd H (by simp)
               ·rw [if_neg c128] at H
                have c128b0 : (t450 == 0) = false := beq_eq_false_iff_ne.mpr c128
                have c128b1 : (t450 != 0) = true := bne_iff_ne.mpr c128
                by_cases c149 : (t447 == false) = true
                ·rw [if_pos c149] at H
                 have c149b0 : (t447 == false) = true := c149
                 (try (have c149b1 : decide (t447 = false) = true := by simpa using c149))
                 (try (have c149b2 : (t447 == false) = true := by simpa using c149))
                 (try (have c149b3 : (!(t447 == false)) = false := by first | exact c149 | simpa using c149))
                 clear c149
                 obtain rfl := Option.some.inj H
                 have hnb150 := NB408_409.out
                 have hnc150 := NB409_408.out
                 have hnb151 := NB408_416.out
                 have hnc151 := NB416_408.out
                 have hnb152 := NB408_421.out
                 have hnc152 := NB421_408.out
                 have hcz153_0 : wc.cell? ⟨gb408, 0, none⟩ = some (.int .u8 a0_0) := (blk_cell BK408.out 0).trans rfl
                 have hcz153_1 : wc.cell? ⟨gb408, 1, none⟩ = some (.int .i64 a0_1) := (blk_cell BK408.out 1).trans rfl
                 have hcz153_2 : wc.cell? ⟨gb408, 2, none⟩ = some (.string a0_2) := (blk_cell BK408.out 2).trans rfl
                 have hfz153_0 := blk_frozen BK408.out 0
                 have hfz153_1 := blk_frozen BK408.out 1
                 have hfz153_2 := blk_frozen BK408.out 2
                 go_wp2_with (first | ((with_reducible refine gate_callee (f := 34) rfl ?_); refine goesL_ (some 80) rfl rfl Try.func34 (by kernel_rfl) rfl #[.agg #[.int .u8 a0_0, .int .i64 a0_1, .string a0_2]] rfl (by (try simp only [List.map_toArray, List.map_cons, List.map_nil]); first | done | rfl | (simp only [List.length_drop, List.length_take]; rfl)) ?_; (with_reducible refine (cell_Not.calls a0_0 a0_1 a0_2 t438 t439 t440 t441 _ A119.out).mono ?_); rintro e w154 ⟨rfl, hb⟩; refine ⟨_, rfl, ?_⟩; have n0_ := aM8 (bB8 (g := gb408) (o := .cells #[.int .u8 a0_0, .int .i64 a0_1, .string a0_2] 35 (0, 0)) (by (with_reducible repeat (first | refine bN8 ?_ _ | refine bD8 ?_ | refine bA8 ?_ _)); exact BK408.out) hb); have n1_ := aM8 (bB8 (g := gb409) (o := .cells #[.int .u8 a1_0, .int .i64 a1_1, .string a1_2] 35 (0, 0)) (by (with_reducible repeat (first | refine bN8 ?_ _ | refine bD8 ?_ | refine bA8 ?_ _)); exact BK409.out) hb); have n2_ := aM8 (bB8 (g := gb416) (o := .cells #[.int .u8 t430, .int .i64 t431, .string t432] 35 (0, 0)) (by (with_reducible repeat (first | refine bN8 ?_ _ | refine bD8 ?_ | refine bA8 ?_ _)); exact BK416.out) hb); have n3_ := aM8 (bB8 (g := gb421) (o := .cells #[.int .u8 t434, .int .i64 t435, .string t436] 35 (0, 0)) (by (with_reducible repeat (first | refine bN8 ?_ _ | refine bD8 ?_ | refine bA8 ?_ _)); exact BK421.out) hb); have n4_ := aM8 (below_step (by repeat (first | (with_reducible first | exact HB.out | apply below_alloc | apply pw_below_drewN | apply below_drew1 | refine bS8 ?_ GE408.out | refine bS8 ?_ GE409.out | refine bS8 ?_ GE416.out | refine bS8 ?_ GE421.out) | exact HB.out)) hb); clear BK408; clear BK409; clear BK416; clear BK421; clear HB; have BK408 := n0_; have BK409 := n1_; have BK416 := n2_; have BK421 := n3_; have HB := n4_; clear n0_ n1_ n2_ n3_ n4_; (try clear hb); (try clear hb2); (try clear hk); (try clear hi); have hnb155 := NB416_409.out; have hnc155 := NB409_416.out; have hnb156 := NB416_421.out; have hnc156 := NB421_416.out; have hcz157_0 : w154.cell? ⟨gb416, 0, none⟩ = some (.int .u8 t430) := (blk_cell BK416.out 0).trans rfl; have hcz157_1 : w154.cell? ⟨gb416, 1, none⟩ = some (.int .i64 t431) := (blk_cell BK416.out 1).trans rfl; have hcz157_2 : w154.cell? ⟨gb416, 2, none⟩ = some (.string t432) := (blk_cell BK416.out 2).trans rfl; have hfz157_0 := blk_frozen BK416.out 0; have hfz157_1 := blk_frozen BK416.out 1; have hfz157_2 := blk_frozen BK416.out 2; have hcz158_0 : w154.cell? ⟨gb408, 0, none⟩ = some (.int .u8 a0_0) := (blk_cell BK408.out 0).trans rfl; have hcz158_1 : w154.cell? ⟨gb408, 1, none⟩ = some (.int .i64 a0_1) := (blk_cell BK408.out 1).trans rfl; have hcz158_2 : w154.cell? ⟨gb408, 2, none⟩ = some (.string a0_2) := (blk_cell BK408.out 2).trans rfl; have hfz158_0 := blk_frozen BK408.out 0; have hfz158_1 := blk_frozen BK408.out 1; have hfz158_2 := blk_frozen BK408.out 2) | ((with_reducible refine gate_callee (f := 40) rfl ?_); refine goesL_ (some 85) rfl rfl Try.func40 (by kernel_rfl) rfl #[.agg #[.int .u8 a0_0, .int .i64 a0_1, .string a0_2]] rfl (by (try simp only [List.map_toArray, List.map_cons, List.map_nil]); first | done | rfl | (simp only [List.length_drop, List.length_take]; rfl)) ?_; (with_reducible refine (hindsightref02_Not.calls a0_0 a0_1 a0_2 t442 t443 t444 t445 _ A120.out).mono ?_); rintro e w159 ⟨rfl, hb⟩; refine ⟨_, rfl, ?_⟩; have n0_ := aM8 (bB8 (g := gb408) (o := .cells #[.int .u8 a0_0, .int .i64 a0_1, .string a0_2] 35 (0, 0)) (by (with_reducible repeat (first | refine bN8 ?_ _ | refine bD8 ?_ | refine bA8 ?_ _ | refine blk_far ?_ NB408_416.out _)); exact BK408.out) hb); have n1_ := aM8 (bB8 (g := gb409) (o := .cells #[.int .u8 a1_0, .int .i64 a1_1, .string a1_2] 35 (0, 0)) (by (with_reducible repeat (first | refine bN8 ?_ _ | refine bD8 ?_ | refine bA8 ?_ _ | refine blk_far ?_ NB409_416.out _)); exact BK409.out) hb); have n2_ := aM8 (bB8 (g := gb416) (o := .cells #[.int .u8 t438, .int .i64 t439, .string t440] 35 (0, 0)) (by (with_reducible repeat (first | refine bN8 ?_ _ | refine bD8 ?_ | refine bA8 ?_ _)); refine blk_put (cs := #[.int .u8 t438, .int .i64 t439, .string t432]) ?_ 2 _ rfl; (with_reducible repeat (first | refine bN8 ?_ _ | refine bD8 ?_ | refine bA8 ?_ _)); refine blk_put (cs := #[.int .u8 t438, .int .i64 t431, .string t432]) ?_ 1 _ rfl; (with_reducible repeat (first | refine bN8 ?_ _ | refine bD8 ?_ | refine bA8 ?_ _)); refine blk_put (cs := #[.int .u8 t430, .int .i64 t431, .string t432]) ?_ 0 _ rfl; (with_reducible repeat (first | refine bN8 ?_ _ | refine bD8 ?_ | refine bA8 ?_ _)); exact BK416.out) hb); have n3_ := aM8 (bB8 (g := gb421) (o := .cells #[.int .u8 t434, .int .i64 t435, .string t436] 35 (0, 0)) (by (with_reducible repeat (first | refine bN8 ?_ _ | refine bD8 ?_ | refine bA8 ?_ _ | refine blk_far ?_ NB421_416.out _)); exact BK421.out) hb); have n4_ := aM8 (below_step (by repeat (first | (with_reducible first | exact HB.out | apply below_alloc | apply pw_below_drewN | apply below_drew1 | refine bS8 ?_ GE408.out | refine bS8 ?_ GE409.out | refine bS8 ?_ GE416.out | refine bS8 ?_ GE421.out) | exact HB.out)) hb); clear BK408; clear BK409; clear BK416; clear BK421; clear HB; have BK408 := n0_; have BK409 := n1_; have BK416 := n2_; have BK421 := n3_; have HB := n4_; clear n0_ n1_ n2_ n3_ n4_; (try clear hb); (try clear hb2); (try clear hk); (try clear hi); have hnb160 := NB421_409.out; have hnc160 := NB409_421.out; have hcz161_0 : w159.cell? ⟨gb421, 0, none⟩ = some (.int .u8 t434) := (blk_cell BK421.out 0).trans rfl; have hcz161_1 : w159.cell? ⟨gb421, 1, none⟩ = some (.int .i64 t435) := (blk_cell BK421.out 1).trans rfl; have hcz161_2 : w159.cell? ⟨gb421, 2, none⟩ = some (.string t436) := (blk_cell BK421.out 2).trans rfl; have hfz161_0 := blk_frozen BK421.out 0; have hfz161_1 := blk_frozen BK421.out 1; have hfz161_2 := blk_frozen BK421.out 2; have hcz162_0 : w159.cell? ⟨gb408, 0, none⟩ = some (.int .u8 a0_0) := (blk_cell BK408.out 0).trans rfl; have hcz162_1 : w159.cell? ⟨gb408, 1, none⟩ = some (.int .i64 a0_1) := (blk_cell BK408.out 1).trans rfl; have hcz162_2 : w159.cell? ⟨gb408, 2, none⟩ = some (.string a0_2) := (blk_cell BK408.out 2).trans rfl; have hfz162_0 := blk_frozen BK408.out 0; have hfz162_1 := blk_frozen BK408.out 1; have hfz162_2 := blk_frozen BK408.out 2) | ((with_reducible refine gate_callee (f := 41) rfl ?_); refine goesL_ (some 90) rfl rfl Try.func41 (by kernel_rfl) rfl #[.agg #[.int .u8 a0_0, .int .i64 a0_1, .string a0_2]] rfl (by (try simp only [List.map_toArray, List.map_cons, List.map_nil]); first | done | rfl | (simp only [List.length_drop, List.length_take]; rfl)) ?_; (with_reducible refine (cell_Truth.calls a0_0 a0_1 a0_2 t446 t447 t448 _ A121.out).mono ?_); rintro e w163 ⟨rfl, hb⟩; refine ⟨_, rfl, ?_⟩; have n0_ := aM8 (bB8 (g := gb408) (o := .cells #[.int .u8 a0_0, .int .i64 a0_1, .string a0_2] 35 (0, 0)) (by (with_reducible repeat (first | refine bN8 ?_ _ | refine bD8 ?_ | refine bA8 ?_ _ | refine blk_far ?_ NB408_421.out _)); exact BK408.out) hb); have n1_ := aM8 (bB8 (g := gb409) (o := .cells #[.int .u8 a1_0, .int .i64 a1_1, .string a1_2] 35 (0, 0)) (by (with_reducible repeat (first | refine bN8 ?_ _ | refine bD8 ?_ | refine bA8 ?_ _ | refine blk_far ?_ NB409_421.out _)); exact BK409.out) hb); have n2_ := aM8 (bB8 (g := gb416) (o := .cells #[.int .u8 t438, .int .i64 t439, .string t440] 35 (0, 0)) (by (with_reducible repeat (first | refine bN8 ?_ _ | refine bD8 ?_ | refine bA8 ?_ _ | refine blk_far ?_ NB416_421.out _)); exact BK416.out) hb); have n3_ := aM8 (bB8 (g := gb421) (o := .cells #[.int .u8 t442, .int .i64 t443, .string t444] 35 (0, 0)) (by (with_reducible repeat (first | refine bN8 ?_ _ | refine bD8 ?_ | refine bA8 ?_ _)); refine blk_put (cs := #[.int .u8 t442, .int .i64 t443, .string t436]) ?_ 2 _ rfl; (with_reducible repeat (first | refine bN8 ?_ _ | refine bD8 ?_ | refine bA8 ?_ _)); refine blk_put (cs := #[.int .u8 t442, .int .i64 t435, .string t436]) ?_ 1 _ rfl; (with_reducible repeat (first | refine bN8 ?_ _ | refine bD8 ?_ | refine bA8 ?_ _)); refine blk_put (cs := #[.int .u8 t434, .int .i64 t435, .string t436]) ?_ 0 _ rfl; (with_reducible repeat (first | refine bN8 ?_ _ | refine bD8 ?_ | refine bA8 ?_ _)); exact BK421.out) hb); have n4_ := aM8 (below_step (by repeat (first | (with_reducible first | exact HB.out | apply below_alloc | apply pw_below_drewN | apply below_drew1 | refine bS8 ?_ GE408.out | refine bS8 ?_ GE409.out | refine bS8 ?_ GE416.out | refine bS8 ?_ GE421.out) | exact HB.out)) hb); clear BK408; clear BK409; clear BK416; clear BK421; clear HB; have BK408 := n0_; have BK409 := n1_; have BK416 := n2_; have BK421 := n3_; have HB := n4_; clear n0_ n1_ n2_ n3_ n4_; (try clear hb); (try clear hb2); (try clear hk); (try clear hi); have hcz164_0 : w163.cell? ⟨gb408, 0, none⟩ = some (.int .u8 a0_0) := (blk_cell BK408.out 0).trans rfl; have hcz164_1 : w163.cell? ⟨gb408, 1, none⟩ = some (.int .i64 a0_1) := (blk_cell BK408.out 1).trans rfl; have hcz164_2 : w163.cell? ⟨gb408, 2, none⟩ = some (.string a0_2) := (blk_cell BK408.out 2).trans rfl; have hfz164_0 := blk_frozen BK408.out 0; have hfz164_1 := blk_frozen BK408.out 1; have hfz164_2 := blk_frozen BK408.out 2) | ((with_reducible refine gate_callee (f := 42) rfl ?_); refine goesL_ (some 96) rfl rfl Try.func42 (by kernel_rfl) rfl #[.agg #[.int .u8 a0_0, .int .i64 a0_1, .string a0_2]] rfl (by (try simp only [List.map_toArray, List.map_cons, List.map_nil]); first | done | rfl | (simp only [List.length_drop, List.length_take]; rfl)) ?_; (with_reducible refine (hindsightref02_Truth.calls a0_0 a0_1 a0_2 t449 t450 _ A122.out).mono ?_); rintro e w165 ⟨rfl, hb⟩; refine ⟨_, rfl, ?_⟩; have n0_ := aM8 (bB8 (g := gb408) (o := .cells #[.int .u8 a0_0, .int .i64 a0_1, .string a0_2] 35 (0, 0)) (by (with_reducible repeat (first | refine bN8 ?_ _ | refine bD8 ?_ | refine bA8 ?_ _)); exact BK408.out) hb); have n1_ := aM8 (bB8 (g := gb409) (o := .cells #[.int .u8 a1_0, .int .i64 a1_1, .string a1_2] 35 (0, 0)) (by (with_reducible repeat (first | refine bN8 ?_ _ | refine bD8 ?_ | refine bA8 ?_ _)); exact BK409.out) hb); have n2_ := aM8 (bB8 (g := gb416) (o := .cells #[.int .u8 t438, .int .i64 t439, .string t440] 35 (0, 0)) (by (with_reducible repeat (first | refine bN8 ?_ _ | refine bD8 ?_ | refine bA8 ?_ _)); exact BK416.out) hb); have n3_ := aM8 (bB8 (g := gb421) (o := .cells #[.int .u8 t442, .int .i64 t443, .string t444] 35 (0, 0)) (by (with_reducible repeat (first | refine bN8 ?_ _ | refine bD8 ?_ | refine bA8 ?_ _)); exact BK421.out) hb); have n4_ := aM8 (below_step (by repeat (first | (with_reducible first | exact HB.out | apply below_alloc | apply pw_below_drewN | apply below_drew1 | refine bS8 ?_ GE408.out | refine bS8 ?_ GE409.out | refine bS8 ?_ GE416.out | refine bS8 ?_ GE421.out) | exact HB.out)) hb); clear BK408; clear BK409; clear BK416; clear BK421; clear HB; have BK408 := n0_; have BK409 := n1_; have BK416 := n2_; have BK421 := n3_; have HB := n4_; clear n0_ n1_ n2_ n3_ n4_; (try clear hb); (try clear hb2); (try clear hk); (try clear hi)) | ((with_reducible refine gate_callee (f := 24) rfl ?_); refine goesL_ (some 99) rfl rfl Try.func24 (by kernel_rfl) rfl #[] rfl (by (try simp only [List.map_toArray, List.map_cons, List.map_nil]); first | done | rfl | (simp only [List.length_drop, List.length_take]; rfl)) ?_; (with_reducible refine (hindsightlaw02_alive.calls kj87  true _ A123.out).mono ?_); rintro e w166 ⟨rfl, hb⟩; refine ⟨_, rfl, ?_⟩; have n0_ := aM8 (bB8 (g := gb408) (o := .cells #[.int .u8 a0_0, .int .i64 a0_1, .string a0_2] 35 (0, 0)) (by (with_reducible repeat (first | refine bN8 ?_ _ | refine bD8 ?_ | refine bA8 ?_ _)); exact BK408.out) hb); have n1_ := aM8 (bB8 (g := gb409) (o := .cells #[.int .u8 a1_0, .int .i64 a1_1, .string a1_2] 35 (0, 0)) (by (with_reducible repeat (first | refine bN8 ?_ _ | refine bD8 ?_ | refine bA8 ?_ _)); exact BK409.out) hb); have n2_ := aM8 (bB8 (g := gb416) (o := .cells #[.int .u8 t438, .int .i64 t439, .string t440] 35 (0, 0)) (by (with_reducible repeat (first | refine bN8 ?_ _ | refine bD8 ?_ | refine bA8 ?_ _)); exact BK416.out) hb); have n3_ := aM8 (bB8 (g := gb421) (o := .cells #[.int .u8 t442, .int .i64 t443, .string t444] 35 (0, 0)) (by (with_reducible repeat (first | refine bN8 ?_ _ | refine bD8 ?_ | refine bA8 ?_ _)); exact BK421.out) hb); have n4_ := aM8 (below_step (by repeat (first | (with_reducible first | exact HB.out | apply below_alloc | apply pw_below_drewN | apply below_drew1 | refine bS8 ?_ GE408.out | refine bS8 ?_ GE409.out | refine bS8 ?_ GE416.out | refine bS8 ?_ GE421.out) | exact HB.out)) hb); clear BK408; clear BK409; clear BK416; clear BK421; clear HB; have BK408 := n0_; have BK409 := n1_; have BK416 := n2_; have BK421 := n3_; have HB := n4_; clear n0_ n1_ n2_ n3_ n4_; (try clear hb); (try clear hb2); (try clear hk); (try clear hi); have hcz167_0 : w166.cell? ⟨gb416, 0, none⟩ = some (.int .u8 t438) := (blk_cell BK416.out 0).trans rfl; have hcz167_1 : w166.cell? ⟨gb416, 1, none⟩ = some (.int .i64 t439) := (blk_cell BK416.out 1).trans rfl; have hcz167_2 : w166.cell? ⟨gb416, 2, none⟩ = some (.string t440) := (blk_cell BK416.out 2).trans rfl; have hfz167_0 := blk_frozen BK416.out 0; have hfz167_1 := blk_frozen BK416.out 1; have hfz167_2 := blk_frozen BK416.out 2; have hcz168_0 : w166.cell? ⟨gb421, 0, none⟩ = some (.int .u8 t442) := (blk_cell BK421.out 0).trans rfl; have hcz168_1 : w166.cell? ⟨gb421, 1, none⟩ = some (.int .i64 t443) := (blk_cell BK421.out 1).trans rfl; have hcz168_2 : w166.cell? ⟨gb421, 2, none⟩ = some (.string t444) := (blk_cell BK421.out 2).trans rfl; have hfz168_0 := blk_frozen BK421.out 0; have hfz168_1 := blk_frozen BK421.out 1; have hfz168_2 := blk_frozen BK421.out 2))
                 (try (all_goals (try (exact absurd (c125b3.symm.trans (show (!(t438 == t442 && (t439 == t443 && (t440.toList == t444.toList)))) = true by assumption)) (by decide)))))
                 (try (all_goals (try (exact absurd (c127b3.symm.trans (show (!(t446 == (t449 == 1))) = true by assumption)) (by decide)))))
                 (try (all_goals (try (exact absurd (c149b3.symm.trans (show (!(t447 == false)) = true by assumption)) (by decide)))))
                 go_ret
                 exact ⟨by first | rfl | (simp [errW_none, errW_some] <;> rfl) | (simp [*, errW_none, errW_some] <;> rfl), by repeat (first | (with_reducible first | exact HB.out | apply below_alloc | apply pw_below_drewN | apply below_drew1 | refine bS8 ?_ GE408.out | refine bS8 ?_ GE409.out | refine bS8 ?_ GE416.out | refine bS8 ?_ GE421.out) | exact HB.out)⟩
                ·rw [if_neg c149] at H
                 exact absurd H (by simp)
              ·rw [if_neg c127] at H
               exact absurd H (by simp)
             ·rw [if_neg c126] at H
              exact absurd H (by simp)
            ·rw [if_neg c125] at H
             exact absurd H (by simp)
           ·replace c124 := Bool.eq_false_iff.mpr c124
            subst c124
            have H1 : (none) = some r := by rw [if_neg (show ¬ (false = true) by decide)] at H; exact H
            clear H
            have H := H1
            clear H1
            exact absurd H (by simp)

/-- THE ONE PURE STATEMENT of hindsightlaw02_CellTruths: yours. -/
def hindsightlaw02_CellTruths.Pure : Prop := ∀ (a0_0 : Int) (a0_1 : Int) (a0_2 : ByteArray) (a1_0 : Int) (a1_1 : Int) (a1_2 : ByteArray), ((Lit.int .u8 a0_0).wf = true) → ((Lit.int .i64 a0_1).wf = true) → (a0_2.size ≤ 140737488351232) → ((Lit.int .u8 a1_0).wf = true) → ((Lit.int .i64 a1_1).wf = true) → (a1_2.size ≤ 140737488351232) → ∃ k, hindsightlaw02_CellTruths.f k a0_0 a0_1 a0_2 a1_0 a1_1 a1_2 = some true
theorem hindsightlaw02_CellTruths.walk (P : hindsightlaw02_CellTruths.Pure) (a0_0 : Int) (a0_1 : Int) (a0_2 : ByteArray) (a1_0 : Int) (a1_1 : Int) (a1_2 : ByteArray) (w : World) (hg0_0 : (Lit.int .u8 a0_0).wf = true) (hg0_1 : (Lit.int .i64 a0_1).wf = true) (hg0_2 : a0_2.size ≤ 140737488351232) (hg1_0 : (Lit.int .u8 a1_0).wf = true) (hg1_1 : (Lit.int .i64 a1_1).wf = true) (hg1_2 : a1_2.size ≤ 140737488351232) :
  Calls Try.prog 8 #[.agg #[.int .u8 a0_0, .int .i64 a0_1, .string a0_2], .agg #[.int .u8 a1_0, .int .i64 a1_1, .string a1_2]] w fun e w' => e = .returned (.bool true) ∧ Below w.heap.size w w' := by
 obtain ⟨k, h⟩ := P a0_0 a0_1 a0_2 a1_0 a1_1 a1_2 hg0_0 hg0_1 hg0_2 hg1_0 hg1_1 hg1_2
 refine (hindsightlaw02_CellTruths.calls k a0_0 a0_1 a0_2 a1_0 a1_1 a1_2 true w h).mono ?_
 rintro e w' ⟨rfl, hd⟩
 exact ⟨rfl, hd⟩

end Go.Proofs.Ytefpnnljflcmbaa.PCe
