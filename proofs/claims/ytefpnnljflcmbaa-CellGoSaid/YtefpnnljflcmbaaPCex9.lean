-- Written by a program of this session (wip/tool), which goes by the kit's print.
import Derived.Test.YtefpnnljflcmbaaPCex0
import Derived.Test.YtefpnnljflcmbaaPCex7
import Derived.Test.YtefpnnljflcmbaaPCex8
namespace Go.Proofs.Ytefpnnljflcmbaa.PCe
open Go.RowKit Go.Proofs.YtefpnnljflcmbaaW.PrintWords Go.Proofs.YtefpnnljflcmbaaW.PrintLast Go.Proofs.YtefpnnljflcmbaaW.PrintMore
attribute [local go_sem] max2_int min2_int max_two min_two max_three min_three max_four min_four   -- for this text's walks alone
set_option linter.unusedVariables false
set_option linter.unusedSimpArgs false

/-! ### cell_And: function 33 -/
theorem bN33 : type_of% @blk_drewN := @blk_drewN
theorem bD33 : type_of% @blk_drew := @blk_drew
theorem bA33 : type_of% @blk_alloc := @blk_alloc
theorem bS33 : type_of% @below_set := @below_set
theorem aM33 : type_of% @Aside0.mk := @Aside0.mk
def cell_And.j0 : Nat → Bool → Bool → Bool → Option (Int × Int × ByteArray × Int)
 | 0, _, _, _ => none
 | k + 1, x7, x9, x25 => if x25 = true then ((cell_Bool.f false).bind fun bt149 => (some (bt149.1, bt149.2.1, bt149.2.2, 0))) else (if x7 = true then (if x9 = true then ((cell_Bool.f true).bind fun bt152 => (some (bt152.1, bt152.2.1, bt152.2.2, 0))) else (some (0, 0, (⟨#[]⟩ : ByteArray), 0))) else (some (0, 0, (⟨#[]⟩ : ByteArray), 0)))
def cell_And.f (k : Nat) (a0_0 : Int) (a0_1 : Int) (a0_2 : ByteArray) (a1_0 : Int) (a1_1 : Int) (a1_2 : ByteArray) : Option (Int × Int × ByteArray × Int) := (cell_two.f k a0_0 a0_1 a0_2 a1_0 a1_1 a1_2).bind fun bt144 => (if bt144.2.2.2.2 = 0 then (if bt144.2.1 = true then (if bt144.1 = true then (if bt144.2.2.2.1 = true then (cell_And.j0 k bt144.2.1 bt144.2.2.2.1 (!bt144.2.2.1)) else (cell_And.j0 k bt144.2.1 bt144.2.2.2.1 false)) else (cell_And.j0 k bt144.2.1 bt144.2.2.2.1 true)) else (if bt144.2.2.2.1 = true then (cell_And.j0 k bt144.2.1 bt144.2.2.2.1 (!bt144.2.2.1)) else (cell_And.j0 k bt144.2.1 bt144.2.2.2.1 false))) else (some (0, 0, (⟨#[]⟩ : ByteArray), bt144.2.2.2.2)))
theorem cell_And.mono_l : ∀ k, (∀ y0 y1 y2, LeO (cell_And.j0 k y0 y1 y2) (cell_And.j0 (k + 1) y0 y1 y2))
 | 0 => fun _ _ _ r h => by simp [cell_And.j0] at h
 | k + 1 => by
  have ih0 := cell_And.mono_l k
  ·intro y0 y1 y2
   unfold cell_And.j0
   repeat' first
   | (with_reducible exact ih0 _ _ _)
   | (with_reducible exact cell_two.mono _ _ _ _ _ _ _)
   | (with_reducible exact LeO.refl _)
   | (with_reducible exact LeO.none _)
   | (with_reducible refine LeO.ite ?_ ?_)
   | (with_reducible refine LeO.bind ?_ (fun _ => ?_))
   | exact ih0 _ _ _
   | exact cell_two.mono _ _ _ _ _ _ _
   | exact LeO.none _
   | refine LeO.ite ?_ ?_
   | refine LeO.bind ?_ (fun _ => ?_)
theorem cell_And.mono : ∀ a0 a1 a2 a3 a4 a5 k, LeO (cell_And.f k a0 a1 a2 a3 a4 a5) (cell_And.f (k + 1) a0 a1 a2 a3 a4 a5) := by
 intro a0 a1 a2 a3 a4 a5 k
 have ih0 := cell_And.mono_l k
 unfold cell_And.f
 repeat' first
   | (with_reducible exact ih0 _ _ _)
   | (with_reducible exact cell_two.mono _ _ _ _ _ _ _)
   | (with_reducible exact LeO.refl _)
   | (with_reducible exact LeO.none _)
   | (with_reducible refine LeO.ite ?_ ?_)
   | (with_reducible refine LeO.bind ?_ (fun _ => ?_))
   | exact ih0 _ _ _
   | exact cell_two.mono _ _ _ _ _ _ _
   | exact LeO.none _
   | refine LeO.ite ?_ ?_
   | refine LeO.bind ?_ (fun _ => ?_)
set_option maxHeartbeats 8000000 in
set_option maxRecDepth 100000 in
theorem cell_And.calls (k : Nat) (a0_0 : Int) (a0_1 : Int) (a0_2 : ByteArray) (a1_0 : Int) (a1_1 : Int) (a1_2 : ByteArray) (r1 : Int) (r2 : Int) (r3 : ByteArray) (r4 : Int) (w : World) (h : cell_And.f k a0_0 a0_1 a0_2 a1_0 a1_1 a1_2 = some (r1, r2, r3, r4)) :
  Calls Try.prog 33 #[.agg #[.int .u8 a0_0, .int .i64 a0_1, .string a0_2], .agg #[.int .u8 a1_0, .int .i64 a1_1, .string a1_2]] w fun e w' => e = .returned (.tuple #[.agg #[.int .u8 r1, .int .i64 r2, .string r3], .int .i64 r4]) ∧ Below w.heap.size w w' := by
 have hu35 := Try.underlying35
 have HB := aM33 (Below.refl w.heap.size w)
 have H : ((cell_two.f k a0_0 a0_1 a0_2 a1_0 a1_1 a1_2).bind fun bt144 => (if bt144.2.2.2.2 = 0 then (if bt144.2.1 = true then (if bt144.1 = true then (if bt144.2.2.2.1 = true then (cell_And.j0 k bt144.2.1 bt144.2.2.2.1 (!bt144.2.2.1)) else (cell_And.j0 k bt144.2.1 bt144.2.2.2.1 false)) else (cell_And.j0 k bt144.2.1 bt144.2.2.2.1 true)) else (if bt144.2.2.2.1 = true then (cell_And.j0 k bt144.2.1 bt144.2.2.2.1 (!bt144.2.2.1)) else (cell_And.j0 k bt144.2.1 bt144.2.2.2.1 false))) else (some (0, 0, (⟨#[]⟩ : ByteArray), bt144.2.2.2.2)))) = some (r1, r2, r3, r4) := h
 clear h
 replace H := Option.bind_eq_some_iff.mp H
 obtain ⟨⟨t144, t145, t146, t147, t148⟩, A30, H⟩ := H
 replace H : (if t148 = 0 then (if t145 = true then (if t144 = true then (if t147 = true then (cell_And.j0 k t145 t147 (!t146)) else (cell_And.j0 k t145 t147 false)) else (cell_And.j0 k t145 t147 true)) else (if t147 = true then (cell_And.j0 k t145 t147 (!t146)) else (cell_And.j0 k t145 t147 false))) else (some (0, 0, (⟨#[]⟩ : ByteArray), t148))) = some (r1, r2, r3, r4) := H
 have A3 := aM33 A30
 clear A30
 by_cases c4 : t148 = 0
 ·rw [if_pos c4] at H
  have c4b0 : (t148 == 0) = true := beq_iff_eq.mpr c4
  have c4b1 : (t148 != 0) = false := bne_eq_false_iff_eq.mpr c4
  clear c4
  have HC5 := aM33 H
  clear H
  go_enter Try.func33, Try.ntmps33
  go_upto_region 4 with (first | ((with_reducible refine gate_dst (N := 2) rfl ?_); refine box_event ?hg (N := 2) ?hd (cs := #[.int .u8 a0_0, .int .i64 a0_1, .string a0_2]) (t := 35) ?hr ?_; (case hd => rfl); (case hg => rfl); (case hr => first | (go_simp; done) | (go_simp; rfl)); intro gb141 hg w6 hbox hb; have n0_ := aM33 (below_step (by repeat (first | (with_reducible first | exact HB.out | apply below_alloc | apply pw_below_drewN | apply below_drew1) | exact HB.out)) hb); have n1_ := aM33 (hbox); have n2_ := aM33 ((by rw [hg]; exact (below_size (by repeat (first | (with_reducible first | exact HB.out | apply below_alloc | apply pw_below_drewN | apply below_drew1) | exact HB.out))) : w.heap.size ≤ gb141)); have n3_ := aM33 ((by rw [hg]; exact (below_size (by repeat (first | (with_reducible first | exact HB.out | apply below_alloc | apply pw_below_drewN | apply below_drew1) | exact HB.out))) : w.heap.size ≤ gb141)); clear HB; have HB := n0_; have BK141 := n1_; have GW141 := n2_; have GE141 := n3_; clear n0_ n1_ n2_ n3_; clear hb hbox hg) | ((with_reducible refine gate_dst (N := 3) rfl ?_); refine box_event ?hg (N := 3) ?hd (cs := #[.int .u8 a1_0, .int .i64 a1_1, .string a1_2]) (t := 35) ?hr ?_; (case hd => rfl); (case hg => rfl); (case hr => first | (go_simp; done) | (go_simp; rfl)); intro gb142 hg w7 hbox hb; have n0_ := aM33 (blk_below (g := gb141) (o := .cells #[.int .u8 a0_0, .int .i64 a0_1, .string a0_2] 35 (0, 0)) (by (with_reducible repeat (first | refine bN33 ?_ _ | refine bD33 ?_ | refine bA33 ?_ _)); exact BK141.out) hb); have n1_ := aM33 (below_step (by repeat (first | (with_reducible first | exact HB.out | apply below_alloc | apply pw_below_drewN | apply below_drew1 | refine bS33 ?_ GE141.out) | exact HB.out)) hb); have n2_ := aM33 (hbox); have n3_ := aM33 ((by rw [hg]; exact (below_size (by repeat (first | (with_reducible first | exact HB.out | apply below_alloc | apply pw_below_drewN | apply below_drew1 | refine bS33 ?_ GE141.out) | exact HB.out))) : w.heap.size ≤ gb142)); have n4_ := aM33 ((by rw [hg]; exact (below_size (by repeat (first | (with_reducible first | exact HB.out | apply below_alloc | apply pw_below_drewN | apply below_drew1 | refine bS33 ?_ GE141.out) | exact HB.out))) : w.heap.size ≤ gb142)); have n5_ := aM33 ((by rw [hg]; exact Nat.ne_of_lt (blk_lt (g := gb141) (o := .cells #[.int .u8 a0_0, .int .i64 a0_1, .string a0_2] 35 (0, 0)) (by (with_reducible repeat (first | refine bN33 ?_ _ | refine bD33 ?_ | refine bA33 ?_ _)); exact BK141.out)) : gb141 ≠ gb142)); have n6_ := aM33 ((by rw [hg]; exact Nat.ne_of_gt (blk_lt (g := gb141) (o := .cells #[.int .u8 a0_0, .int .i64 a0_1, .string a0_2] 35 (0, 0)) (by (with_reducible repeat (first | refine bN33 ?_ _ | refine bD33 ?_ | refine bA33 ?_ _)); exact BK141.out)) : gb142 ≠ gb141)); clear BK141; clear HB; have BK141 := n0_; have HB := n1_; have BK142 := n2_; have GW142 := n3_; have GE142 := n4_; have NB141_142 := n5_; have NB142_141 := n6_; clear n0_ n1_ n2_ n3_ n4_ n5_ n6_; clear hb hbox hg) | ((with_reducible refine gate_dst (N := 4) rfl ?_); refine box_event ?hg (N := 4) ?hd (cs := #[.int .u8 0, .int .i64 0, .string (⟨#[]⟩ : ByteArray)]) (t := 35) ?hr ?_; (case hd => rfl); (case hg => rfl); (case hr => first | (go_simp; done) | (go_simp; rfl)); intro gb143 hg w8 hbox hb; have n0_ := aM33 (blk_below (g := gb141) (o := .cells #[.int .u8 a0_0, .int .i64 a0_1, .string a0_2] 35 (0, 0)) (by (with_reducible repeat (first | refine bN33 ?_ _ | refine bD33 ?_ | refine bA33 ?_ _)); exact BK141.out) hb); have n1_ := aM33 (blk_below (g := gb142) (o := .cells #[.int .u8 a1_0, .int .i64 a1_1, .string a1_2] 35 (0, 0)) (by (with_reducible repeat (first | refine bN33 ?_ _ | refine bD33 ?_ | refine bA33 ?_ _)); exact BK142.out) hb); have n2_ := aM33 (below_step (by repeat (first | (with_reducible first | exact HB.out | apply below_alloc | apply pw_below_drewN | apply below_drew1 | refine bS33 ?_ GE141.out | refine bS33 ?_ GE142.out) | exact HB.out)) hb); have n3_ := aM33 (hbox); have n4_ := aM33 ((by rw [hg]; exact (below_size (by repeat (first | (with_reducible first | exact HB.out | apply below_alloc | apply pw_below_drewN | apply below_drew1 | refine bS33 ?_ GE141.out | refine bS33 ?_ GE142.out) | exact HB.out))) : w.heap.size ≤ gb143)); have n5_ := aM33 ((by rw [hg]; exact (below_size (by repeat (first | (with_reducible first | exact HB.out | apply below_alloc | apply pw_below_drewN | apply below_drew1 | refine bS33 ?_ GE141.out | refine bS33 ?_ GE142.out) | exact HB.out))) : w.heap.size ≤ gb143)); have n6_ := aM33 ((by rw [hg]; exact Nat.ne_of_lt (blk_lt (g := gb141) (o := .cells #[.int .u8 a0_0, .int .i64 a0_1, .string a0_2] 35 (0, 0)) (by (with_reducible repeat (first | refine bN33 ?_ _ | refine bD33 ?_ | refine bA33 ?_ _)); exact BK141.out)) : gb141 ≠ gb143)); have n7_ := aM33 ((by rw [hg]; exact Nat.ne_of_gt (blk_lt (g := gb141) (o := .cells #[.int .u8 a0_0, .int .i64 a0_1, .string a0_2] 35 (0, 0)) (by (with_reducible repeat (first | refine bN33 ?_ _ | refine bD33 ?_ | refine bA33 ?_ _)); exact BK141.out)) : gb143 ≠ gb141)); have n8_ := aM33 ((by rw [hg]; exact Nat.ne_of_lt (blk_lt (g := gb142) (o := .cells #[.int .u8 a1_0, .int .i64 a1_1, .string a1_2] 35 (0, 0)) (by (with_reducible repeat (first | refine bN33 ?_ _ | refine bD33 ?_ | refine bA33 ?_ _)); exact BK142.out)) : gb142 ≠ gb143)); have n9_ := aM33 ((by rw [hg]; exact Nat.ne_of_gt (blk_lt (g := gb142) (o := .cells #[.int .u8 a1_0, .int .i64 a1_1, .string a1_2] 35 (0, 0)) (by (with_reducible repeat (first | refine bN33 ?_ _ | refine bD33 ?_ | refine bA33 ?_ _)); exact BK142.out)) : gb143 ≠ gb142)); clear BK141; clear BK142; clear HB; have BK141 := n0_; have BK142 := n1_; have HB := n2_; have BK143 := n3_; have GW143 := n4_; have GE143 := n5_; have NB141_143 := n6_; have NB143_141 := n7_; have NB142_143 := n8_; have NB143_142 := n9_; clear n0_ n1_ n2_ n3_ n4_ n5_ n6_ n7_ n8_ n9_; clear hb hbox hg; have hnb9 := NB141_142.out; have hnc9 := NB142_141.out; have hnb10 := NB141_143.out; have hnc10 := NB143_141.out; have hcz11_0 : w8.cell? ⟨gb141, 0, none⟩ = some (.int .u8 a0_0) := (blk_cell BK141.out 0).trans rfl; have hcz11_1 : w8.cell? ⟨gb141, 1, none⟩ = some (.int .i64 a0_1) := (blk_cell BK141.out 1).trans rfl; have hcz11_2 : w8.cell? ⟨gb141, 2, none⟩ = some (.string a0_2) := (blk_cell BK141.out 2).trans rfl; have hfz11_0 := blk_frozen BK141.out 0; have hfz11_1 := blk_frozen BK141.out 1; have hfz11_2 := blk_frozen BK141.out 2; have hnb12 := NB142_143.out; have hnc12 := NB143_142.out; have hcz13_0 : w8.cell? ⟨gb142, 0, none⟩ = some (.int .u8 a1_0) := (blk_cell BK142.out 0).trans rfl; have hcz13_1 : w8.cell? ⟨gb142, 1, none⟩ = some (.int .i64 a1_1) := (blk_cell BK142.out 1).trans rfl; have hcz13_2 : w8.cell? ⟨gb142, 2, none⟩ = some (.string a1_2) := (blk_cell BK142.out 2).trans rfl; have hfz13_0 := blk_frozen BK142.out 0; have hfz13_1 := blk_frozen BK142.out 1; have hfz13_2 := blk_frozen BK142.out 2) | ((with_reducible refine gate_callee (f := 75) rfl ?_); refine goesL_ (some 14) rfl rfl Try.func75 (by kernel_rfl) rfl #[.agg #[.int .u8 a0_0, .int .i64 a0_1, .string a0_2], .agg #[.int .u8 a1_0, .int .i64 a1_1, .string a1_2]] rfl (by (try simp only [List.map_toArray, List.map_cons, List.map_nil]); first | done | rfl | (simp only [List.length_drop, List.length_take]; rfl)) ?_; (with_reducible refine (cell_two.calls k a0_0 a0_1 a0_2 a1_0 a1_1 a1_2 t144 t145 t146 t147 t148 _ A3.out).mono ?_); rintro e w14 ⟨rfl, hb⟩; refine ⟨_, rfl, ?_⟩; have n0_ := aM33 (blk_below (g := gb141) (o := .cells #[.int .u8 a0_0, .int .i64 a0_1, .string a0_2] 35 (0, 0)) (by (with_reducible repeat (first | refine bN33 ?_ _ | refine bD33 ?_ | refine bA33 ?_ _)); exact BK141.out) hb); have n1_ := aM33 (blk_below (g := gb142) (o := .cells #[.int .u8 a1_0, .int .i64 a1_1, .string a1_2] 35 (0, 0)) (by (with_reducible repeat (first | refine bN33 ?_ _ | refine bD33 ?_ | refine bA33 ?_ _)); exact BK142.out) hb); have n2_ := aM33 (blk_below (g := gb143) (o := .cells #[.int .u8 0, .int .i64 0, .string (⟨#[]⟩ : ByteArray)] 35 (0, 0)) (by (with_reducible repeat (first | refine bN33 ?_ _ | refine bD33 ?_ | refine bA33 ?_ _)); exact BK143.out) hb); have n3_ := aM33 (below_step (by repeat (first | (with_reducible first | exact HB.out | apply below_alloc | apply pw_below_drewN | apply below_drew1 | refine bS33 ?_ GE141.out | refine bS33 ?_ GE142.out | refine bS33 ?_ GE143.out) | exact HB.out)) hb); clear BK141; clear BK142; clear BK143; clear HB; have BK141 := n0_; have BK142 := n1_; have BK143 := n2_; have HB := n3_; clear n0_ n1_ n2_ n3_; (try clear hb); (try clear hb2); (try clear hk); (try clear hi)))
  (try simp only [Act.put, List.setIfInBounds_toArray, List.set_cons_zero, List.set_cons_succ])
  go_cut [25] (fun v25 wc => ∃ (kq : Nat) (x25_4 : Bool), v25 = .bool x25_4 ∧ Aside0 (cell_And.j0 kq t145 t147 x25_4 = some (r1, r2, r3, r4)) ∧ Aside0 (kq ≤ k) ∧ Aside0 (wc.heap[gb141]? = some (.cells #[.int .u8 a0_0, .int .i64 a0_1, .string a0_2] 35 (0, 0))) ∧ Aside0 (wc.heap[gb142]? = some (.cells #[.int .u8 a1_0, .int .i64 a1_1, .string a1_2] 35 (0, 0))) ∧ Aside0 (wc.heap[gb143]? = some (.cells #[.int .u8 0, .int .i64 0, .string (⟨#[]⟩ : ByteArray)] 35 (0, 0))) ∧ Aside0 (Below w.heap.size w wc))
  case first =>
   have H := HC5.out
   clear HC5
   by_cases c15 : t145 = true
   ·subst c15
    have H1 : (if t144 = true then (if t147 = true then (cell_And.j0 k true t147 (!t146)) else (cell_And.j0 k true t147 false)) else (cell_And.j0 k true t147 true)) = some (r1, r2, r3, r4) := by rw [if_pos rfl] at H; exact H
    clear H
    have H := H1
    clear H1
    by_cases c16 : t144 = true
    ·subst c16
     have H1 : (if t147 = true then (cell_And.j0 k true t147 (!t146)) else (cell_And.j0 k true t147 false)) = some (r1, r2, r3, r4) := by rw [if_pos rfl] at H; exact H
     clear H
     have H := H1
     clear H1
     by_cases c17 : t147 = true
     ·subst c17
      have H1 : (cell_And.j0 k true true (!t146)) = some (r1, r2, r3, r4) := by rw [if_pos rfl] at H; exact H
      clear H
      have H := H1
      clear H1
      have H' := aM33 H
      clear H
      go_wp2
      go_meet
      case rel => exact ⟨_, (!t146), (by first | rfl | (simp; done) | (simp [*]; done)), H', ⟨by first | omega | exact Nat.le_refl _⟩, ⟨by (with_reducible repeat (first | refine bN33 ?_ _ | refine bD33 ?_ | refine bA33 ?_ _)); exact BK141.out⟩, ⟨by (with_reducible repeat (first | refine bN33 ?_ _ | refine bD33 ?_ | refine bA33 ?_ _)); exact BK142.out⟩, ⟨by (with_reducible repeat (first | refine bN33 ?_ _ | refine bD33 ?_ | refine bA33 ?_ _)); exact BK143.out⟩, ⟨by repeat (first | (with_reducible first | exact HB.out | apply below_alloc | apply pw_below_drewN | apply below_drew1 | refine bS33 ?_ GE141.out | refine bS33 ?_ GE142.out | refine bS33 ?_ GE143.out) | exact HB.out)⟩⟩
     ·replace c17 := Bool.eq_false_iff.mpr c17
      subst c17
      have H1 : (cell_And.j0 k true false false) = some (r1, r2, r3, r4) := by rw [if_neg (show ¬ (false = true) by decide)] at H; exact H
      clear H
      have H := H1
      clear H1
      have H' := aM33 H
      clear H
      go_wp2
      go_meet
      case rel => exact ⟨_, (false), (by first | rfl | (simp; done) | (simp [*]; done)), H', ⟨by first | omega | exact Nat.le_refl _⟩, ⟨by (with_reducible repeat (first | refine bN33 ?_ _ | refine bD33 ?_ | refine bA33 ?_ _)); exact BK141.out⟩, ⟨by (with_reducible repeat (first | refine bN33 ?_ _ | refine bD33 ?_ | refine bA33 ?_ _)); exact BK142.out⟩, ⟨by (with_reducible repeat (first | refine bN33 ?_ _ | refine bD33 ?_ | refine bA33 ?_ _)); exact BK143.out⟩, ⟨by repeat (first | (with_reducible first | exact HB.out | apply below_alloc | apply pw_below_drewN | apply below_drew1 | refine bS33 ?_ GE141.out | refine bS33 ?_ GE142.out | refine bS33 ?_ GE143.out) | exact HB.out)⟩⟩
    ·replace c16 := Bool.eq_false_iff.mpr c16
     subst c16
     have H1 : (cell_And.j0 k true t147 true) = some (r1, r2, r3, r4) := by rw [if_neg (show ¬ (false = true) by decide)] at H; exact H
     clear H
     have H := H1
     clear H1
     have H' := aM33 H
     clear H
     go_wp2
     go_meet
     case rel => exact ⟨_, (true), (by first | rfl | (simp; done) | (simp [*]; done)), H', ⟨by first | omega | exact Nat.le_refl _⟩, ⟨by (with_reducible repeat (first | refine bN33 ?_ _ | refine bD33 ?_ | refine bA33 ?_ _)); exact BK141.out⟩, ⟨by (with_reducible repeat (first | refine bN33 ?_ _ | refine bD33 ?_ | refine bA33 ?_ _)); exact BK142.out⟩, ⟨by (with_reducible repeat (first | refine bN33 ?_ _ | refine bD33 ?_ | refine bA33 ?_ _)); exact BK143.out⟩, ⟨by repeat (first | (with_reducible first | exact HB.out | apply below_alloc | apply pw_below_drewN | apply below_drew1 | refine bS33 ?_ GE141.out | refine bS33 ?_ GE142.out | refine bS33 ?_ GE143.out) | exact HB.out)⟩⟩
   ·replace c15 := Bool.eq_false_iff.mpr c15
    subst c15
    have H1 : (if t147 = true then (cell_And.j0 k false t147 (!t146)) else (cell_And.j0 k false t147 false)) = some (r1, r2, r3, r4) := by rw [if_neg (show ¬ (false = true) by decide)] at H; exact H
    clear H
    have H := H1
    clear H1
    by_cases c18 : t147 = true
    ·subst c18
     have H1 : (cell_And.j0 k false true (!t146)) = some (r1, r2, r3, r4) := by rw [if_pos rfl] at H; exact H
     clear H
     have H := H1
     clear H1
     have H' := aM33 H
     clear H
     go_wp2
     go_meet
     case rel => exact ⟨_, (!t146), (by first | rfl | (simp; done) | (simp [*]; done)), H', ⟨by first | omega | exact Nat.le_refl _⟩, ⟨by (with_reducible repeat (first | refine bN33 ?_ _ | refine bD33 ?_ | refine bA33 ?_ _)); exact BK141.out⟩, ⟨by (with_reducible repeat (first | refine bN33 ?_ _ | refine bD33 ?_ | refine bA33 ?_ _)); exact BK142.out⟩, ⟨by (with_reducible repeat (first | refine bN33 ?_ _ | refine bD33 ?_ | refine bA33 ?_ _)); exact BK143.out⟩, ⟨by repeat (first | (with_reducible first | exact HB.out | apply below_alloc | apply pw_below_drewN | apply below_drew1 | refine bS33 ?_ GE141.out | refine bS33 ?_ GE142.out | refine bS33 ?_ GE143.out) | exact HB.out)⟩⟩
    ·replace c18 := Bool.eq_false_iff.mpr c18
     subst c18
     have H1 : (cell_And.j0 k false false false) = some (r1, r2, r3, r4) := by rw [if_neg (show ¬ (false = true) by decide)] at H; exact H
     clear H
     have H := H1
     clear H1
     have H' := aM33 H
     clear H
     go_wp2
     go_meet
     case rel => exact ⟨_, (false), (by first | rfl | (simp; done) | (simp [*]; done)), H', ⟨by first | omega | exact Nat.le_refl _⟩, ⟨by (with_reducible repeat (first | refine bN33 ?_ _ | refine bD33 ?_ | refine bA33 ?_ _)); exact BK141.out⟩, ⟨by (with_reducible repeat (first | refine bN33 ?_ _ | refine bD33 ?_ | refine bA33 ?_ _)); exact BK142.out⟩, ⟨by (with_reducible repeat (first | refine bN33 ?_ _ | refine bD33 ?_ | refine bA33 ?_ _)); exact BK143.out⟩, ⟨by repeat (first | (with_reducible first | exact HB.out | apply below_alloc | apply pw_below_drewN | apply below_drew1 | refine bS33 ?_ GE141.out | refine bS33 ?_ GE142.out | refine bS33 ?_ GE143.out) | exact HB.out)⟩⟩
  case rest =>
   clear HC5
   try clear c1
   try clear p2
   try clear c3
   try clear c4
   try clear c4b0
   try clear c4b1
   try clear c7
   try clear c9
   try clear c10
   try clear c12
   try clear c15
   try clear c16
   try clear c17
   try clear c18
   try clear hcz11_0
   try clear hcz11_1
   try clear hcz11_2
   try clear hcz13_0
   try clear hcz13_1
   try clear hcz13_2
   try clear hfz11_0
   try clear hfz11_1
   try clear hfz11_2
   try clear hfz13_0
   try clear hfz13_1
   try clear hfz13_2
   obtain ⟨kq, x25_4, rfl, HA, HJ4, BK141, BK142, BK143, HB⟩ := hcut
   cases kq with
   | zero => exact absurd HA.out (by simp [cell_And.j0])
   | succ kj4 =>
    have H := HA.out
    clear HA
    simp only [cell_And.j0] at H
    by_cases c19 : x25_4 = true
    ·subst c19
     have H1 : ((cell_Bool.f false).bind fun bt149 => (some (bt149.1, bt149.2.1, bt149.2.2, 0))) = some (r1, r2, r3, r4) := by rw [if_pos rfl] at H; exact H
     clear H
     have H := H1
     clear H1
     replace H := Option.bind_eq_some_iff.mp H
     obtain ⟨⟨t149, t150, t151⟩, A200, H⟩ := H
     replace H : (some (t149, t150, t151, 0)) = some (r1, r2, r3, r4) := H
     have A20 := aM33 A200
     clear A200
     simp only [Option.some.injEq, Prod.mk.injEq] at H
     obtain ⟨rfl, rfl, rfl, rfl⟩ := H
     go_wp2_with (first | ((with_reducible refine gate_callee (f := 31) rfl ?_); refine goesL_ (some 38) rfl rfl Try.func31 (by kernel_rfl) rfl #[.bool false] rfl (by (try simp only [List.map_toArray, List.map_cons, List.map_nil]); first | done | rfl | (simp only [List.length_drop, List.length_take]; rfl)) ?_; (with_reducible refine (cell_Bool.calls false t149 t150 t151 _ A20.out).mono ?_); rintro e w21 ⟨rfl, hb⟩; refine ⟨_, rfl, ?_⟩; have n0_ := aM33 (blk_below (g := gb141) (o := .cells #[.int .u8 a0_0, .int .i64 a0_1, .string a0_2] 35 (0, 0)) (by (with_reducible repeat (first | refine bN33 ?_ _ | refine bD33 ?_ | refine bA33 ?_ _)); exact BK141.out) hb); have n1_ := aM33 (blk_below (g := gb142) (o := .cells #[.int .u8 a1_0, .int .i64 a1_1, .string a1_2] 35 (0, 0)) (by (with_reducible repeat (first | refine bN33 ?_ _ | refine bD33 ?_ | refine bA33 ?_ _)); exact BK142.out) hb); have n2_ := aM33 (blk_below (g := gb143) (o := .cells #[.int .u8 0, .int .i64 0, .string (⟨#[]⟩ : ByteArray)] 35 (0, 0)) (by (with_reducible repeat (first | refine bN33 ?_ _ | refine bD33 ?_ | refine bA33 ?_ _)); exact BK143.out) hb); have n3_ := aM33 (below_step (by repeat (first | (with_reducible first | exact HB.out | apply below_alloc | apply pw_below_drewN | apply below_drew1 | refine bS33 ?_ GE141.out | refine bS33 ?_ GE142.out | refine bS33 ?_ GE143.out) | exact HB.out)) hb); clear BK141; clear BK142; clear BK143; clear HB; have BK141 := n0_; have BK142 := n1_; have BK143 := n2_; have HB := n3_; clear n0_ n1_ n2_ n3_; (try clear hb); (try clear hb2); (try clear hk); (try clear hi); have hnb22 := NB143_141.out; have hnc22 := NB141_143.out; have hnb23 := NB143_142.out; have hnc23 := NB142_143.out; have hcz24_0 : w21.cell? ⟨gb143, 0, none⟩ = some (.int .u8 0) := (blk_cell BK143.out 0).trans rfl; have hcz24_1 : w21.cell? ⟨gb143, 1, none⟩ = some (.int .i64 0) := (blk_cell BK143.out 1).trans rfl; have hcz24_2 : w21.cell? ⟨gb143, 2, none⟩ = some (.string (⟨#[]⟩ : ByteArray)) := (blk_cell BK143.out 2).trans rfl; have hfz24_0 := blk_frozen BK143.out 0; have hfz24_1 := blk_frozen BK143.out 1; have hfz24_2 := blk_frozen BK143.out 2))
     refine bodyPost_ret (results_ct rfl _ _ gb143 35 #[.int .u8 t149, .int .i64 t150, .string t151] (0, 0) _ rfl (by (with_reducible repeat (first | refine bN33 ?_ _ | refine bD33 ?_ | refine bA33 ?_ _)); refine blk_put (cs := #[.int .u8 t149, .int .i64 t150, .string (⟨#[]⟩ : ByteArray)]) ?_ 2 _ rfl; (with_reducible repeat (first | refine bN33 ?_ _ | refine bD33 ?_ | refine bA33 ?_ _)); refine blk_put (cs := #[.int .u8 t149, .int .i64 0, .string (⟨#[]⟩ : ByteArray)]) ?_ 1 _ rfl; (with_reducible repeat (first | refine bN33 ?_ _ | refine bD33 ?_ | refine bA33 ?_ _)); refine blk_put (cs := #[.int .u8 0, .int .i64 0, .string (⟨#[]⟩ : ByteArray)]) ?_ 0 _ rfl; (with_reducible repeat (first | refine bN33 ?_ _ | refine bD33 ?_ | refine bA33 ?_ _)); exact BK143.out) Try.underlying35 rfl (by kernel_rfl)) rfl ?_
     exact ⟨by first | rfl | (simp [errW_none, errW_some] <;> rfl) | (simp [*, errW_none, errW_some] <;> rfl), by repeat (first | (with_reducible first | exact HB.out | apply below_alloc | apply pw_below_drewN | apply below_drew1 | refine bS33 ?_ GE141.out | refine bS33 ?_ GE142.out | refine bS33 ?_ GE143.out) | exact HB.out)⟩
    ·replace c19 := Bool.eq_false_iff.mpr c19
     subst c19
     have H1 : (if t145 = true then (if t147 = true then ((cell_Bool.f true).bind fun bt152 => (some (bt152.1, bt152.2.1, bt152.2.2, 0))) else (some (0, 0, (⟨#[]⟩ : ByteArray), 0))) else (some (0, 0, (⟨#[]⟩ : ByteArray), 0))) = some (r1, r2, r3, r4) := by rw [if_neg (show ¬ (false = true) by decide)] at H; exact H
     clear H
     have H := H1
     clear H1
     by_cases c25 : t145 = true
     ·subst c25
      have H1 : (if t147 = true then ((cell_Bool.f true).bind fun bt152 => (some (bt152.1, bt152.2.1, bt152.2.2, 0))) else (some (0, 0, (⟨#[]⟩ : ByteArray), 0))) = some (r1, r2, r3, r4) := by rw [if_pos rfl] at H; exact H
      clear H
      have H := H1
      clear H1
      by_cases c26 : t147 = true
      ·subst c26
       have H1 : ((cell_Bool.f true).bind fun bt152 => (some (bt152.1, bt152.2.1, bt152.2.2, 0))) = some (r1, r2, r3, r4) := by rw [if_pos rfl] at H; exact H
       clear H
       have H := H1
       clear H1
       replace H := Option.bind_eq_some_iff.mp H
       obtain ⟨⟨t152, t153, t154⟩, A270, H⟩ := H
       replace H : (some (t152, t153, t154, 0)) = some (r1, r2, r3, r4) := H
       have A27 := aM33 A270
       clear A270
       simp only [Option.some.injEq, Prod.mk.injEq] at H
       obtain ⟨rfl, rfl, rfl, rfl⟩ := H
       go_wp2_with (first | ((with_reducible refine gate_callee (f := 31) rfl ?_); refine goesL_ (some 47) rfl rfl Try.func31 (by kernel_rfl) rfl #[.bool true] rfl (by (try simp only [List.map_toArray, List.map_cons, List.map_nil]); first | done | rfl | (simp only [List.length_drop, List.length_take]; rfl)) ?_; (with_reducible refine (cell_Bool.calls true t152 t153 t154 _ A27.out).mono ?_); rintro e w28 ⟨rfl, hb⟩; refine ⟨_, rfl, ?_⟩; have n0_ := aM33 (blk_below (g := gb141) (o := .cells #[.int .u8 a0_0, .int .i64 a0_1, .string a0_2] 35 (0, 0)) (by (with_reducible repeat (first | refine bN33 ?_ _ | refine bD33 ?_ | refine bA33 ?_ _)); exact BK141.out) hb); have n1_ := aM33 (blk_below (g := gb142) (o := .cells #[.int .u8 a1_0, .int .i64 a1_1, .string a1_2] 35 (0, 0)) (by (with_reducible repeat (first | refine bN33 ?_ _ | refine bD33 ?_ | refine bA33 ?_ _)); exact BK142.out) hb); have n2_ := aM33 (blk_below (g := gb143) (o := .cells #[.int .u8 0, .int .i64 0, .string (⟨#[]⟩ : ByteArray)] 35 (0, 0)) (by (with_reducible repeat (first | refine bN33 ?_ _ | refine bD33 ?_ | refine bA33 ?_ _)); exact BK143.out) hb); have n3_ := aM33 (below_step (by repeat (first | (with_reducible first | exact HB.out | apply below_alloc | apply pw_below_drewN | apply below_drew1 | refine bS33 ?_ GE141.out | refine bS33 ?_ GE142.out | refine bS33 ?_ GE143.out) | exact HB.out)) hb); clear BK141; clear BK142; clear BK143; clear HB; have BK141 := n0_; have BK142 := n1_; have BK143 := n2_; have HB := n3_; clear n0_ n1_ n2_ n3_; (try clear hb); (try clear hb2); (try clear hk); (try clear hi); have hnb29 := NB143_141.out; have hnc29 := NB141_143.out; have hnb30 := NB143_142.out; have hnc30 := NB142_143.out; have hcz31_0 : w28.cell? ⟨gb143, 0, none⟩ = some (.int .u8 0) := (blk_cell BK143.out 0).trans rfl; have hcz31_1 : w28.cell? ⟨gb143, 1, none⟩ = some (.int .i64 0) := (blk_cell BK143.out 1).trans rfl; have hcz31_2 : w28.cell? ⟨gb143, 2, none⟩ = some (.string (⟨#[]⟩ : ByteArray)) := (blk_cell BK143.out 2).trans rfl; have hfz31_0 := blk_frozen BK143.out 0; have hfz31_1 := blk_frozen BK143.out 1; have hfz31_2 := blk_frozen BK143.out 2))
       refine bodyPost_ret (results_ct rfl _ _ gb143 35 #[.int .u8 t152, .int .i64 t153, .string t154] (0, 0) _ rfl (by (with_reducible repeat (first | refine bN33 ?_ _ | refine bD33 ?_ | refine bA33 ?_ _)); refine blk_put (cs := #[.int .u8 t152, .int .i64 t153, .string (⟨#[]⟩ : ByteArray)]) ?_ 2 _ rfl; (with_reducible repeat (first | refine bN33 ?_ _ | refine bD33 ?_ | refine bA33 ?_ _)); refine blk_put (cs := #[.int .u8 t152, .int .i64 0, .string (⟨#[]⟩ : ByteArray)]) ?_ 1 _ rfl; (with_reducible repeat (first | refine bN33 ?_ _ | refine bD33 ?_ | refine bA33 ?_ _)); refine blk_put (cs := #[.int .u8 0, .int .i64 0, .string (⟨#[]⟩ : ByteArray)]) ?_ 0 _ rfl; (with_reducible repeat (first | refine bN33 ?_ _ | refine bD33 ?_ | refine bA33 ?_ _)); exact BK143.out) Try.underlying35 rfl (by kernel_rfl)) rfl ?_
       exact ⟨by first | rfl | (simp [errW_none, errW_some] <;> rfl) | (simp [*, errW_none, errW_some] <;> rfl), by repeat (first | (with_reducible first | exact HB.out | apply below_alloc | apply pw_below_drewN | apply below_drew1 | refine bS33 ?_ GE141.out | refine bS33 ?_ GE142.out | refine bS33 ?_ GE143.out) | exact HB.out)⟩
      ·replace c26 := Bool.eq_false_iff.mpr c26
       subst c26
       have H1 : (some (0, 0, (⟨#[]⟩ : ByteArray), 0)) = some (r1, r2, r3, r4) := by rw [if_neg (show ¬ (false = true) by decide)] at H; exact H
       clear H
       have H := H1
       clear H1
       simp only [Option.some.injEq, Prod.mk.injEq] at H
       obtain ⟨rfl, rfl, rfl, rfl⟩ := H
       have hnb32 := NB143_141.out
       have hnc32 := NB141_143.out
       have hnb33 := NB143_142.out
       have hnc33 := NB142_143.out
       have hcz34_0 : wc.cell? ⟨gb143, 0, none⟩ = some (.int .u8 0) := (blk_cell BK143.out 0).trans rfl
       have hcz34_1 : wc.cell? ⟨gb143, 1, none⟩ = some (.int .i64 0) := (blk_cell BK143.out 1).trans rfl
       have hcz34_2 : wc.cell? ⟨gb143, 2, none⟩ = some (.string (⟨#[]⟩ : ByteArray)) := (blk_cell BK143.out 2).trans rfl
       have hfz34_0 := blk_frozen BK143.out 0
       have hfz34_1 := blk_frozen BK143.out 1
       have hfz34_2 := blk_frozen BK143.out 2
       go_wp2
       refine bodyPost_ret (results_ct rfl _ _ gb143 35 #[.int .u8 0, .int .i64 0, .string (⟨#[]⟩ : ByteArray)] (0, 0) _ rfl (by (with_reducible repeat (first | refine bN33 ?_ _ | refine bD33 ?_ | refine bA33 ?_ _)); refine blk_put (cs := #[.int .u8 0, .int .i64 0, .string (⟨#[]⟩ : ByteArray)]) ?_ 2 _ rfl; (with_reducible repeat (first | refine bN33 ?_ _ | refine bD33 ?_ | refine bA33 ?_ _)); refine blk_put (cs := #[.int .u8 0, .int .i64 0, .string (⟨#[]⟩ : ByteArray)]) ?_ 1 _ rfl; (with_reducible repeat (first | refine bN33 ?_ _ | refine bD33 ?_ | refine bA33 ?_ _)); refine blk_put (cs := #[.int .u8 0, .int .i64 0, .string (⟨#[]⟩ : ByteArray)]) ?_ 0 _ rfl; (with_reducible repeat (first | refine bN33 ?_ _ | refine bD33 ?_ | refine bA33 ?_ _)); exact BK143.out) Try.underlying35 rfl (by kernel_rfl)) rfl ?_
       exact ⟨by first | rfl | (simp [errW_none, errW_some] <;> rfl) | (simp [*, errW_none, errW_some] <;> rfl), by repeat (first | (with_reducible first | exact HB.out | apply below_alloc | apply pw_below_drewN | apply below_drew1 | refine bS33 ?_ GE141.out | refine bS33 ?_ GE142.out | refine bS33 ?_ GE143.out) | exact HB.out)⟩
     ·replace c25 := Bool.eq_false_iff.mpr c25
      subst c25
      have H1 : (some (0, 0, (⟨#[]⟩ : ByteArray), 0)) = some (r1, r2, r3, r4) := by rw [if_neg (show ¬ (false = true) by decide)] at H; exact H
      clear H
      have H := H1
      clear H1
      simp only [Option.some.injEq, Prod.mk.injEq] at H
      obtain ⟨rfl, rfl, rfl, rfl⟩ := H
      have hnb35 := NB143_141.out
      have hnc35 := NB141_143.out
      have hnb36 := NB143_142.out
      have hnc36 := NB142_143.out
      have hcz37_0 : wc.cell? ⟨gb143, 0, none⟩ = some (.int .u8 0) := (blk_cell BK143.out 0).trans rfl
      have hcz37_1 : wc.cell? ⟨gb143, 1, none⟩ = some (.int .i64 0) := (blk_cell BK143.out 1).trans rfl
      have hcz37_2 : wc.cell? ⟨gb143, 2, none⟩ = some (.string (⟨#[]⟩ : ByteArray)) := (blk_cell BK143.out 2).trans rfl
      have hfz37_0 := blk_frozen BK143.out 0
      have hfz37_1 := blk_frozen BK143.out 1
      have hfz37_2 := blk_frozen BK143.out 2
      go_wp2
      refine bodyPost_ret (results_ct rfl _ _ gb143 35 #[.int .u8 0, .int .i64 0, .string (⟨#[]⟩ : ByteArray)] (0, 0) _ rfl (by (with_reducible repeat (first | refine bN33 ?_ _ | refine bD33 ?_ | refine bA33 ?_ _)); refine blk_put (cs := #[.int .u8 0, .int .i64 0, .string (⟨#[]⟩ : ByteArray)]) ?_ 2 _ rfl; (with_reducible repeat (first | refine bN33 ?_ _ | refine bD33 ?_ | refine bA33 ?_ _)); refine blk_put (cs := #[.int .u8 0, .int .i64 0, .string (⟨#[]⟩ : ByteArray)]) ?_ 1 _ rfl; (with_reducible repeat (first | refine bN33 ?_ _ | refine bD33 ?_ | refine bA33 ?_ _)); refine blk_put (cs := #[.int .u8 0, .int .i64 0, .string (⟨#[]⟩ : ByteArray)]) ?_ 0 _ rfl; (with_reducible repeat (first | refine bN33 ?_ _ | refine bD33 ?_ | refine bA33 ?_ _)); exact BK143.out) Try.underlying35 rfl (by kernel_rfl)) rfl ?_
      exact ⟨by first | rfl | (simp [errW_none, errW_some] <;> rfl) | (simp [*, errW_none, errW_some] <;> rfl), by repeat (first | (with_reducible first | exact HB.out | apply below_alloc | apply pw_below_drewN | apply below_drew1 | refine bS33 ?_ GE141.out | refine bS33 ?_ GE142.out | refine bS33 ?_ GE143.out) | exact HB.out)⟩
 ·rw [if_neg c4] at H
  have c4b0 : (t148 == 0) = false := beq_eq_false_iff_ne.mpr c4
  have c4b1 : (t148 != 0) = true := bne_iff_ne.mpr c4
  simp only [Option.some.injEq, Prod.mk.injEq] at H
  obtain ⟨rfl, rfl, rfl, rfl⟩ := H
  go_enter Try.func33, Try.ntmps33
  go_wp2_with (first | ((with_reducible refine gate_dst (N := 2) rfl ?_); refine box_event ?hg (N := 2) ?hd (cs := #[.int .u8 a0_0, .int .i64 a0_1, .string a0_2]) (t := 35) ?hr ?_; (case hd => rfl); (case hg => rfl); (case hr => first | (go_simp; done) | (go_simp; rfl)); intro gb141 hg w38 hbox hb; have n0_ := aM33 (below_step (by repeat (first | (with_reducible first | exact HB.out | apply below_alloc | apply pw_below_drewN | apply below_drew1) | exact HB.out)) hb); have n1_ := aM33 (hbox); have n2_ := aM33 ((by rw [hg]; exact (below_size (by repeat (first | (with_reducible first | exact HB.out | apply below_alloc | apply pw_below_drewN | apply below_drew1) | exact HB.out))) : w.heap.size ≤ gb141)); have n3_ := aM33 ((by rw [hg]; exact (below_size (by repeat (first | (with_reducible first | exact HB.out | apply below_alloc | apply pw_below_drewN | apply below_drew1) | exact HB.out))) : w.heap.size ≤ gb141)); clear HB; have HB := n0_; have BK141 := n1_; have GW141 := n2_; have GE141 := n3_; clear n0_ n1_ n2_ n3_; clear hb hbox hg) | ((with_reducible refine gate_dst (N := 3) rfl ?_); refine box_event ?hg (N := 3) ?hd (cs := #[.int .u8 a1_0, .int .i64 a1_1, .string a1_2]) (t := 35) ?hr ?_; (case hd => rfl); (case hg => rfl); (case hr => first | (go_simp; done) | (go_simp; rfl)); intro gb142 hg w39 hbox hb; have n0_ := aM33 (blk_below (g := gb141) (o := .cells #[.int .u8 a0_0, .int .i64 a0_1, .string a0_2] 35 (0, 0)) (by (with_reducible repeat (first | refine bN33 ?_ _ | refine bD33 ?_ | refine bA33 ?_ _)); exact BK141.out) hb); have n1_ := aM33 (below_step (by repeat (first | (with_reducible first | exact HB.out | apply below_alloc | apply pw_below_drewN | apply below_drew1 | refine bS33 ?_ GE141.out) | exact HB.out)) hb); have n2_ := aM33 (hbox); have n3_ := aM33 ((by rw [hg]; exact (below_size (by repeat (first | (with_reducible first | exact HB.out | apply below_alloc | apply pw_below_drewN | apply below_drew1 | refine bS33 ?_ GE141.out) | exact HB.out))) : w.heap.size ≤ gb142)); have n4_ := aM33 ((by rw [hg]; exact (below_size (by repeat (first | (with_reducible first | exact HB.out | apply below_alloc | apply pw_below_drewN | apply below_drew1 | refine bS33 ?_ GE141.out) | exact HB.out))) : w.heap.size ≤ gb142)); have n5_ := aM33 ((by rw [hg]; exact Nat.ne_of_lt (blk_lt (g := gb141) (o := .cells #[.int .u8 a0_0, .int .i64 a0_1, .string a0_2] 35 (0, 0)) (by (with_reducible repeat (first | refine bN33 ?_ _ | refine bD33 ?_ | refine bA33 ?_ _)); exact BK141.out)) : gb141 ≠ gb142)); have n6_ := aM33 ((by rw [hg]; exact Nat.ne_of_gt (blk_lt (g := gb141) (o := .cells #[.int .u8 a0_0, .int .i64 a0_1, .string a0_2] 35 (0, 0)) (by (with_reducible repeat (first | refine bN33 ?_ _ | refine bD33 ?_ | refine bA33 ?_ _)); exact BK141.out)) : gb142 ≠ gb141)); clear BK141; clear HB; have BK141 := n0_; have HB := n1_; have BK142 := n2_; have GW142 := n3_; have GE142 := n4_; have NB141_142 := n5_; have NB142_141 := n6_; clear n0_ n1_ n2_ n3_ n4_ n5_ n6_; clear hb hbox hg) | ((with_reducible refine gate_dst (N := 4) rfl ?_); refine box_event ?hg (N := 4) ?hd (cs := #[.int .u8 0, .int .i64 0, .string (⟨#[]⟩ : ByteArray)]) (t := 35) ?hr ?_; (case hd => rfl); (case hg => rfl); (case hr => first | (go_simp; done) | (go_simp; rfl)); intro gb143 hg w40 hbox hb; have n0_ := aM33 (blk_below (g := gb141) (o := .cells #[.int .u8 a0_0, .int .i64 a0_1, .string a0_2] 35 (0, 0)) (by (with_reducible repeat (first | refine bN33 ?_ _ | refine bD33 ?_ | refine bA33 ?_ _)); exact BK141.out) hb); have n1_ := aM33 (blk_below (g := gb142) (o := .cells #[.int .u8 a1_0, .int .i64 a1_1, .string a1_2] 35 (0, 0)) (by (with_reducible repeat (first | refine bN33 ?_ _ | refine bD33 ?_ | refine bA33 ?_ _)); exact BK142.out) hb); have n2_ := aM33 (below_step (by repeat (first | (with_reducible first | exact HB.out | apply below_alloc | apply pw_below_drewN | apply below_drew1 | refine bS33 ?_ GE141.out | refine bS33 ?_ GE142.out) | exact HB.out)) hb); have n3_ := aM33 (hbox); have n4_ := aM33 ((by rw [hg]; exact (below_size (by repeat (first | (with_reducible first | exact HB.out | apply below_alloc | apply pw_below_drewN | apply below_drew1 | refine bS33 ?_ GE141.out | refine bS33 ?_ GE142.out) | exact HB.out))) : w.heap.size ≤ gb143)); have n5_ := aM33 ((by rw [hg]; exact (below_size (by repeat (first | (with_reducible first | exact HB.out | apply below_alloc | apply pw_below_drewN | apply below_drew1 | refine bS33 ?_ GE141.out | refine bS33 ?_ GE142.out) | exact HB.out))) : w.heap.size ≤ gb143)); have n6_ := aM33 ((by rw [hg]; exact Nat.ne_of_lt (blk_lt (g := gb141) (o := .cells #[.int .u8 a0_0, .int .i64 a0_1, .string a0_2] 35 (0, 0)) (by (with_reducible repeat (first | refine bN33 ?_ _ | refine bD33 ?_ | refine bA33 ?_ _)); exact BK141.out)) : gb141 ≠ gb143)); have n7_ := aM33 ((by rw [hg]; exact Nat.ne_of_gt (blk_lt (g := gb141) (o := .cells #[.int .u8 a0_0, .int .i64 a0_1, .string a0_2] 35 (0, 0)) (by (with_reducible repeat (first | refine bN33 ?_ _ | refine bD33 ?_ | refine bA33 ?_ _)); exact BK141.out)) : gb143 ≠ gb141)); have n8_ := aM33 ((by rw [hg]; exact Nat.ne_of_lt (blk_lt (g := gb142) (o := .cells #[.int .u8 a1_0, .int .i64 a1_1, .string a1_2] 35 (0, 0)) (by (with_reducible repeat (first | refine bN33 ?_ _ | refine bD33 ?_ | refine bA33 ?_ _)); exact BK142.out)) : gb142 ≠ gb143)); have n9_ := aM33 ((by rw [hg]; exact Nat.ne_of_gt (blk_lt (g := gb142) (o := .cells #[.int .u8 a1_0, .int .i64 a1_1, .string a1_2] 35 (0, 0)) (by (with_reducible repeat (first | refine bN33 ?_ _ | refine bD33 ?_ | refine bA33 ?_ _)); exact BK142.out)) : gb143 ≠ gb142)); clear BK141; clear BK142; clear HB; have BK141 := n0_; have BK142 := n1_; have HB := n2_; have BK143 := n3_; have GW143 := n4_; have GE143 := n5_; have NB141_143 := n6_; have NB143_141 := n7_; have NB142_143 := n8_; have NB143_142 := n9_; clear n0_ n1_ n2_ n3_ n4_ n5_ n6_ n7_ n8_ n9_; clear hb hbox hg; have hnb41 := NB141_142.out; have hnc41 := NB142_141.out; have hnb42 := NB141_143.out; have hnc42 := NB143_141.out; have hcz43_0 : w40.cell? ⟨gb141, 0, none⟩ = some (.int .u8 a0_0) := (blk_cell BK141.out 0).trans rfl; have hcz43_1 : w40.cell? ⟨gb141, 1, none⟩ = some (.int .i64 a0_1) := (blk_cell BK141.out 1).trans rfl; have hcz43_2 : w40.cell? ⟨gb141, 2, none⟩ = some (.string a0_2) := (blk_cell BK141.out 2).trans rfl; have hfz43_0 := blk_frozen BK141.out 0; have hfz43_1 := blk_frozen BK141.out 1; have hfz43_2 := blk_frozen BK141.out 2; have hnb44 := NB142_143.out; have hnc44 := NB143_142.out; have hcz45_0 : w40.cell? ⟨gb142, 0, none⟩ = some (.int .u8 a1_0) := (blk_cell BK142.out 0).trans rfl; have hcz45_1 : w40.cell? ⟨gb142, 1, none⟩ = some (.int .i64 a1_1) := (blk_cell BK142.out 1).trans rfl; have hcz45_2 : w40.cell? ⟨gb142, 2, none⟩ = some (.string a1_2) := (blk_cell BK142.out 2).trans rfl; have hfz45_0 := blk_frozen BK142.out 0; have hfz45_1 := blk_frozen BK142.out 1; have hfz45_2 := blk_frozen BK142.out 2) | ((with_reducible refine gate_callee (f := 75) rfl ?_); refine goesL_ (some 14) rfl rfl Try.func75 (by kernel_rfl) rfl #[.agg #[.int .u8 a0_0, .int .i64 a0_1, .string a0_2], .agg #[.int .u8 a1_0, .int .i64 a1_1, .string a1_2]] rfl (by (try simp only [List.map_toArray, List.map_cons, List.map_nil]); first | done | rfl | (simp only [List.length_drop, List.length_take]; rfl)) ?_; (with_reducible refine (cell_two.calls k a0_0 a0_1 a0_2 a1_0 a1_1 a1_2 t144 t145 t146 t147 t148 _ A3.out).mono ?_); rintro e w46 ⟨rfl, hb⟩; refine ⟨_, rfl, ?_⟩; have n0_ := aM33 (blk_below (g := gb141) (o := .cells #[.int .u8 a0_0, .int .i64 a0_1, .string a0_2] 35 (0, 0)) (by (with_reducible repeat (first | refine bN33 ?_ _ | refine bD33 ?_ | refine bA33 ?_ _)); exact BK141.out) hb); have n1_ := aM33 (blk_below (g := gb142) (o := .cells #[.int .u8 a1_0, .int .i64 a1_1, .string a1_2] 35 (0, 0)) (by (with_reducible repeat (first | refine bN33 ?_ _ | refine bD33 ?_ | refine bA33 ?_ _)); exact BK142.out) hb); have n2_ := aM33 (blk_below (g := gb143) (o := .cells #[.int .u8 0, .int .i64 0, .string (⟨#[]⟩ : ByteArray)] 35 (0, 0)) (by (with_reducible repeat (first | refine bN33 ?_ _ | refine bD33 ?_ | refine bA33 ?_ _)); exact BK143.out) hb); have n3_ := aM33 (below_step (by repeat (first | (with_reducible first | exact HB.out | apply below_alloc | apply pw_below_drewN | apply below_drew1 | refine bS33 ?_ GE141.out | refine bS33 ?_ GE142.out | refine bS33 ?_ GE143.out) | exact HB.out)) hb); clear BK141; clear BK142; clear BK143; clear HB; have BK141 := n0_; have BK142 := n1_; have BK143 := n2_; have HB := n3_; clear n0_ n1_ n2_ n3_; (try clear hb); (try clear hb2); (try clear hk); (try clear hi); have hcz47_0 : w46.cell? ⟨gb143, 0, none⟩ = some (.int .u8 0) := (blk_cell BK143.out 0).trans rfl; have hcz47_1 : w46.cell? ⟨gb143, 1, none⟩ = some (.int .i64 0) := (blk_cell BK143.out 1).trans rfl; have hcz47_2 : w46.cell? ⟨gb143, 2, none⟩ = some (.string (⟨#[]⟩ : ByteArray)) := (blk_cell BK143.out 2).trans rfl; have hfz47_0 := blk_frozen BK143.out 0; have hfz47_1 := blk_frozen BK143.out 1; have hfz47_2 := blk_frozen BK143.out 2))
  refine bodyPost_ret (results_ct rfl _ _ gb143 35 #[.int .u8 0, .int .i64 0, .string (⟨#[]⟩ : ByteArray)] (0, 0) _ rfl (by (with_reducible repeat (first | refine bN33 ?_ _ | refine bD33 ?_ | refine bA33 ?_ _)); refine blk_put (cs := #[.int .u8 0, .int .i64 0, .string (⟨#[]⟩ : ByteArray)]) ?_ 2 _ rfl; (with_reducible repeat (first | refine bN33 ?_ _ | refine bD33 ?_ | refine bA33 ?_ _)); refine blk_put (cs := #[.int .u8 0, .int .i64 0, .string (⟨#[]⟩ : ByteArray)]) ?_ 1 _ rfl; (with_reducible repeat (first | refine bN33 ?_ _ | refine bD33 ?_ | refine bA33 ?_ _)); refine blk_put (cs := #[.int .u8 0, .int .i64 0, .string (⟨#[]⟩ : ByteArray)]) ?_ 0 _ rfl; (with_reducible repeat (first | refine bN33 ?_ _ | refine bD33 ?_ | refine bA33 ?_ _)); exact BK143.out) Try.underlying35 rfl (by kernel_rfl)) rfl ?_
  exact ⟨by first | rfl | (simp [errW_none, errW_some] <;> rfl) | (simp [*, errW_none, errW_some] <;> rfl), by repeat (first | (with_reducible first | exact HB.out | apply below_alloc | apply pw_below_drewN | apply below_drew1 | refine bS33 ?_ GE141.out | refine bS33 ?_ GE142.out | refine bS33 ?_ GE143.out) | exact HB.out)⟩

end Go.Proofs.Ytefpnnljflcmbaa.PCe
