-- Written by a program of this session (wip/tool), which goes by the kit's print.
import Derived.Test.YtefpnnljflcmbaaPCex0
import Derived.Test.YtefpnnljflcmbaaPCex7
import Derived.Test.YtefpnnljflcmbaaPCex30
import Derived.Test.YtefpnnljflcmbaaPCex33
namespace Go.Proofs.Ytefpnnljflcmbaa.PCe
open Go.RowKit Go.Proofs.YtefpnnljflcmbaaW.PrintWords Go.Proofs.YtefpnnljflcmbaaW.PrintLast Go.Proofs.YtefpnnljflcmbaaW.PrintMore
attribute [local go_sem] max2_int min2_int max_two min_two max_three min_three max_four min_four   -- for this text's walks alone
set_option linter.unusedVariables false
set_option linter.unusedSimpArgs false

/-! ### hindsightref02_Div: function 56 -/
theorem bN56 : type_of% @blk_drewN := @blk_drewN
theorem bD56 : type_of% @blk_drew := @blk_drew
theorem bA56 : type_of% @blk_alloc := @blk_alloc
theorem bS56 : type_of% @below_set := @below_set
theorem aM56 : type_of% @Aside0.mk := @Aside0.mk
def hindsightref02_Div.j0 : Nat → Bool → Int → Bool → Int → Int → ByteArray → Int → Int → ByteArray → Option (Int × Int × ByteArray × Int)
 | 0, _, _, _, _, _, _, _, _, _ => none
 | k + 1, x2, x9, x21, x535000, x535001, x535002, x536000, x536001, x536002 => if x21 = true then (some (0, 0, (⟨#[]⟩ : ByteArray), x9)) else (if x536001 = 0 then (some (0, 0, (⟨#[]⟩ : ByteArray), 22)) else (if x536001 = (-1) then (if x2 = true then ((hindsightref02_Number.f 0).bind fun bt539 => (some (bt539.1, bt539.2.1, bt539.2.2, x9))) else ((hindsightref02_Number.f 0).bind fun bt542 => ((hindsightref02_Sub.f k bt542.1 bt542.2.1 bt542.2.2 x535000 x535001 x535002).bind fun bt545 => (some (bt545.1, bt545.2.1, bt545.2.2.1, bt545.2.2.2))))) else (if x2 = true then ((hindsightref02_Number.f (wrap64 (x535001 - (wrap64 ((wrap64 (Int.tdiv x535001 x536001)) * x536001))))).bind fun bt549 => (some (bt549.1, bt549.2.1, bt549.2.2, x9))) else ((hindsightref02_Number.f (wrap64 (Int.tdiv x535001 x536001))).bind fun bt552 => (some (bt552.1, bt552.2.1, bt552.2.2, x9))))))
def hindsightref02_Div.f (k : Nat) (a0_0 : Int) (a0_1 : Int) (a0_2 : ByteArray) (a1_0 : Int) (a1_1 : Int) (a1_2 : ByteArray) (a2 : Bool) : Option (Int × Int × ByteArray × Int) := (hindsightref02_asked.f k a0_0 a0_1 a0_2 a1_0 a1_1 a1_2).bind fun bt537 => (if bt537.2 = 0 then (hindsightref02_Div.j0 k a2 bt537.2 bt537.1 a0_0 a0_1 a0_2 a1_0 a1_1 a1_2) else (hindsightref02_Div.j0 k a2 bt537.2 true a0_0 a0_1 a0_2 a1_0 a1_1 a1_2))
theorem hindsightref02_Div.mono_l : ∀ k, (∀ y0 y1 y2 y3 y4 y5 y6 y7 y8, LeO (hindsightref02_Div.j0 k y0 y1 y2 y3 y4 y5 y6 y7 y8) (hindsightref02_Div.j0 (k + 1) y0 y1 y2 y3 y4 y5 y6 y7 y8))
 | 0 => fun _ _ _ _ _ _ _ _ _ r h => by simp [hindsightref02_Div.j0] at h
 | k + 1 => by
  have ih0 := hindsightref02_Div.mono_l k
  ·intro y0 y1 y2 y3 y4 y5 y6 y7 y8
   unfold hindsightref02_Div.j0
   repeat' first
   | (with_reducible exact ih0 _ _ _ _ _ _ _ _ _)
   | (with_reducible exact hindsightref02_Sub.mono _ _ _ _ _ _ _)
   | (with_reducible exact hindsightref02_asked.mono _ _ _ _ _ _ _)
   | (with_reducible exact LeO.refl _)
   | (with_reducible exact LeO.none _)
   | (with_reducible refine LeO.ite ?_ ?_)
   | (with_reducible refine LeO.bind ?_ (fun _ => ?_))
   | exact ih0 _ _ _ _ _ _ _ _ _
   | exact hindsightref02_Sub.mono _ _ _ _ _ _ _
   | exact hindsightref02_asked.mono _ _ _ _ _ _ _
   | exact LeO.none _
   | refine LeO.ite ?_ ?_
   | refine LeO.bind ?_ (fun _ => ?_)
theorem hindsightref02_Div.mono : ∀ a0 a1 a2 a3 a4 a5 a6 k, LeO (hindsightref02_Div.f k a0 a1 a2 a3 a4 a5 a6) (hindsightref02_Div.f (k + 1) a0 a1 a2 a3 a4 a5 a6) := by
 intro a0 a1 a2 a3 a4 a5 a6 k
 have ih0 := hindsightref02_Div.mono_l k
 unfold hindsightref02_Div.f
 repeat' first
   | (with_reducible exact ih0 _ _ _ _ _ _ _ _ _)
   | (with_reducible exact hindsightref02_Sub.mono _ _ _ _ _ _ _)
   | (with_reducible exact hindsightref02_asked.mono _ _ _ _ _ _ _)
   | (with_reducible exact LeO.refl _)
   | (with_reducible exact LeO.none _)
   | (with_reducible refine LeO.ite ?_ ?_)
   | (with_reducible refine LeO.bind ?_ (fun _ => ?_))
   | exact ih0 _ _ _ _ _ _ _ _ _
   | exact hindsightref02_Sub.mono _ _ _ _ _ _ _
   | exact hindsightref02_asked.mono _ _ _ _ _ _ _
   | exact LeO.none _
   | refine LeO.ite ?_ ?_
   | refine LeO.bind ?_ (fun _ => ?_)
set_option maxHeartbeats 8000000 in
set_option maxRecDepth 100000 in
theorem hindsightref02_Div.calls (k : Nat) (a0_0 : Int) (a0_1 : Int) (a0_2 : ByteArray) (a1_0 : Int) (a1_1 : Int) (a1_2 : ByteArray) (a2 : Bool) (r1 : Int) (r2 : Int) (r3 : ByteArray) (r4 : Int) (w : World) (h : hindsightref02_Div.f k a0_0 a0_1 a0_2 a1_0 a1_1 a1_2 a2 = some (r1, r2, r3, r4)) :
  Calls Try.prog 56 #[.agg #[.int .u8 a0_0, .int .i64 a0_1, .string a0_2], .agg #[.int .u8 a1_0, .int .i64 a1_1, .string a1_2], .bool a2] w fun e w' => e = .returned (.tuple #[.agg #[.int .u8 r1, .int .i64 r2, .string r3], .int .i64 r4]) ∧ Below w.heap.size w w' := by
 have hu35 := Try.underlying35
 have HB := aM56 (Below.refl w.heap.size w)
 have H : ((hindsightref02_asked.f k a0_0 a0_1 a0_2 a1_0 a1_1 a1_2).bind fun bt537 => (if bt537.2 = 0 then (hindsightref02_Div.j0 k a2 bt537.2 bt537.1 a0_0 a0_1 a0_2 a1_0 a1_1 a1_2) else (hindsightref02_Div.j0 k a2 bt537.2 true a0_0 a0_1 a0_2 a1_0 a1_1 a1_2))) = some (r1, r2, r3, r4) := h
 clear h
 replace H := Option.bind_eq_some_iff.mp H
 obtain ⟨⟨t537, t538⟩, A40, H⟩ := H
 replace H : (if t538 = 0 then (hindsightref02_Div.j0 k a2 t538 t537 a0_0 a0_1 a0_2 a1_0 a1_1 a1_2) else (hindsightref02_Div.j0 k a2 t538 true a0_0 a0_1 a0_2 a1_0 a1_1 a1_2)) = some (r1, r2, r3, r4) := H
 have A4 := aM56 A40
 clear A40
 have HC5 := aM56 H
 clear H
 go_enter Try.func56, Try.ntmps56
 go_upto_region 2 with (first | ((with_reducible refine gate_dst (N := 3) rfl ?_); refine box_event ?hg (N := 3) ?hd (cs := #[.int .u8 a0_0, .int .i64 a0_1, .string a0_2]) (t := 35) ?hr ?_; (case hd => rfl); (case hg => rfl); (case hr => first | (go_simp; done) | (go_simp; rfl)); intro gb534 hg w6 hbox hb; have n0_ := aM56 (below_step (by repeat (first | (with_reducible first | exact HB.out | apply below_alloc | apply pw_below_drewN | apply below_drew1) | exact HB.out)) hb); have n1_ := aM56 (hbox); have n2_ := aM56 ((by rw [hg]; exact (below_size (by repeat (first | (with_reducible first | exact HB.out | apply below_alloc | apply pw_below_drewN | apply below_drew1) | exact HB.out))) : w.heap.size ≤ gb534)); have n3_ := aM56 ((by rw [hg]; exact (below_size (by repeat (first | (with_reducible first | exact HB.out | apply below_alloc | apply pw_below_drewN | apply below_drew1) | exact HB.out))) : w.heap.size ≤ gb534)); clear HB; have HB := n0_; have BK534 := n1_; have GW534 := n2_; have GE534 := n3_; clear n0_ n1_ n2_ n3_; clear hb hbox hg) | ((with_reducible refine gate_dst (N := 4) rfl ?_); refine box_event ?hg (N := 4) ?hd (cs := #[.int .u8 a1_0, .int .i64 a1_1, .string a1_2]) (t := 35) ?hr ?_; (case hd => rfl); (case hg => rfl); (case hr => first | (go_simp; done) | (go_simp; rfl)); intro gb535 hg w7 hbox hb; have n0_ := aM56 (blk_below (g := gb534) (o := .cells #[.int .u8 a0_0, .int .i64 a0_1, .string a0_2] 35 (0, 0)) (by (with_reducible repeat (first | refine bN56 ?_ _ | refine bD56 ?_ | refine bA56 ?_ _)); exact BK534.out) hb); have n1_ := aM56 (below_step (by repeat (first | (with_reducible first | exact HB.out | apply below_alloc | apply pw_below_drewN | apply below_drew1 | refine bS56 ?_ GE534.out) | exact HB.out)) hb); have n2_ := aM56 (hbox); have n3_ := aM56 ((by rw [hg]; exact (below_size (by repeat (first | (with_reducible first | exact HB.out | apply below_alloc | apply pw_below_drewN | apply below_drew1 | refine bS56 ?_ GE534.out) | exact HB.out))) : w.heap.size ≤ gb535)); have n4_ := aM56 ((by rw [hg]; exact (below_size (by repeat (first | (with_reducible first | exact HB.out | apply below_alloc | apply pw_below_drewN | apply below_drew1 | refine bS56 ?_ GE534.out) | exact HB.out))) : w.heap.size ≤ gb535)); have n5_ := aM56 ((by rw [hg]; exact Nat.ne_of_lt (blk_lt (g := gb534) (o := .cells #[.int .u8 a0_0, .int .i64 a0_1, .string a0_2] 35 (0, 0)) (by (with_reducible repeat (first | refine bN56 ?_ _ | refine bD56 ?_ | refine bA56 ?_ _)); exact BK534.out)) : gb534 ≠ gb535)); have n6_ := aM56 ((by rw [hg]; exact Nat.ne_of_gt (blk_lt (g := gb534) (o := .cells #[.int .u8 a0_0, .int .i64 a0_1, .string a0_2] 35 (0, 0)) (by (with_reducible repeat (first | refine bN56 ?_ _ | refine bD56 ?_ | refine bA56 ?_ _)); exact BK534.out)) : gb535 ≠ gb534)); clear BK534; clear HB; have BK534 := n0_; have HB := n1_; have BK535 := n2_; have GW535 := n3_; have GE535 := n4_; have NB534_535 := n5_; have NB535_534 := n6_; clear n0_ n1_ n2_ n3_ n4_ n5_ n6_; clear hb hbox hg) | ((with_reducible refine gate_dst (N := 6) rfl ?_); refine box_event ?hg (N := 6) ?hd (cs := #[.int .u8 0, .int .i64 0, .string (⟨#[]⟩ : ByteArray)]) (t := 35) ?hr ?_; (case hd => rfl); (case hg => rfl); (case hr => first | (go_simp; done) | (go_simp; rfl)); intro gb536 hg w8 hbox hb; have n0_ := aM56 (blk_below (g := gb534) (o := .cells #[.int .u8 a0_0, .int .i64 a0_1, .string a0_2] 35 (0, 0)) (by (with_reducible repeat (first | refine bN56 ?_ _ | refine bD56 ?_ | refine bA56 ?_ _)); exact BK534.out) hb); have n1_ := aM56 (blk_below (g := gb535) (o := .cells #[.int .u8 a1_0, .int .i64 a1_1, .string a1_2] 35 (0, 0)) (by (with_reducible repeat (first | refine bN56 ?_ _ | refine bD56 ?_ | refine bA56 ?_ _)); exact BK535.out) hb); have n2_ := aM56 (below_step (by repeat (first | (with_reducible first | exact HB.out | apply below_alloc | apply pw_below_drewN | apply below_drew1 | refine bS56 ?_ GE534.out | refine bS56 ?_ GE535.out) | exact HB.out)) hb); have n3_ := aM56 (hbox); have n4_ := aM56 ((by rw [hg]; exact (below_size (by repeat (first | (with_reducible first | exact HB.out | apply below_alloc | apply pw_below_drewN | apply below_drew1 | refine bS56 ?_ GE534.out | refine bS56 ?_ GE535.out) | exact HB.out))) : w.heap.size ≤ gb536)); have n5_ := aM56 ((by rw [hg]; exact (below_size (by repeat (first | (with_reducible first | exact HB.out | apply below_alloc | apply pw_below_drewN | apply below_drew1 | refine bS56 ?_ GE534.out | refine bS56 ?_ GE535.out) | exact HB.out))) : w.heap.size ≤ gb536)); have n6_ := aM56 ((by rw [hg]; exact Nat.ne_of_lt (blk_lt (g := gb534) (o := .cells #[.int .u8 a0_0, .int .i64 a0_1, .string a0_2] 35 (0, 0)) (by (with_reducible repeat (first | refine bN56 ?_ _ | refine bD56 ?_ | refine bA56 ?_ _)); exact BK534.out)) : gb534 ≠ gb536)); have n7_ := aM56 ((by rw [hg]; exact Nat.ne_of_gt (blk_lt (g := gb534) (o := .cells #[.int .u8 a0_0, .int .i64 a0_1, .string a0_2] 35 (0, 0)) (by (with_reducible repeat (first | refine bN56 ?_ _ | refine bD56 ?_ | refine bA56 ?_ _)); exact BK534.out)) : gb536 ≠ gb534)); have n8_ := aM56 ((by rw [hg]; exact Nat.ne_of_lt (blk_lt (g := gb535) (o := .cells #[.int .u8 a1_0, .int .i64 a1_1, .string a1_2] 35 (0, 0)) (by (with_reducible repeat (first | refine bN56 ?_ _ | refine bD56 ?_ | refine bA56 ?_ _)); exact BK535.out)) : gb535 ≠ gb536)); have n9_ := aM56 ((by rw [hg]; exact Nat.ne_of_gt (blk_lt (g := gb535) (o := .cells #[.int .u8 a1_0, .int .i64 a1_1, .string a1_2] 35 (0, 0)) (by (with_reducible repeat (first | refine bN56 ?_ _ | refine bD56 ?_ | refine bA56 ?_ _)); exact BK535.out)) : gb536 ≠ gb535)); clear BK534; clear BK535; clear HB; have BK534 := n0_; have BK535 := n1_; have HB := n2_; have BK536 := n3_; have GW536 := n4_; have GE536 := n5_; have NB534_536 := n6_; have NB536_534 := n7_; have NB535_536 := n8_; have NB536_535 := n9_; clear n0_ n1_ n2_ n3_ n4_ n5_ n6_ n7_ n8_ n9_; clear hb hbox hg; have hnb9 := NB534_535.out; have hnc9 := NB535_534.out; have hnb10 := NB534_536.out; have hnc10 := NB536_534.out; have hcz11_0 : w8.cell? ⟨gb534, 0, none⟩ = some (.int .u8 a0_0) := (blk_cell BK534.out 0).trans rfl; have hcz11_1 : w8.cell? ⟨gb534, 1, none⟩ = some (.int .i64 a0_1) := (blk_cell BK534.out 1).trans rfl; have hcz11_2 : w8.cell? ⟨gb534, 2, none⟩ = some (.string a0_2) := (blk_cell BK534.out 2).trans rfl; have hfz11_0 := blk_frozen BK534.out 0; have hfz11_1 := blk_frozen BK534.out 1; have hfz11_2 := blk_frozen BK534.out 2; have hnb12 := NB535_536.out; have hnc12 := NB536_535.out; have hcz13_0 : w8.cell? ⟨gb535, 0, none⟩ = some (.int .u8 a1_0) := (blk_cell BK535.out 0).trans rfl; have hcz13_1 : w8.cell? ⟨gb535, 1, none⟩ = some (.int .i64 a1_1) := (blk_cell BK535.out 1).trans rfl; have hcz13_2 : w8.cell? ⟨gb535, 2, none⟩ = some (.string a1_2) := (blk_cell BK535.out 2).trans rfl; have hfz13_0 := blk_frozen BK535.out 0; have hfz13_1 := blk_frozen BK535.out 1; have hfz13_2 := blk_frozen BK535.out 2) | ((with_reducible refine gate_callee (f := 79) rfl ?_); refine goesL_ (some 14) rfl rfl Try.func79 (by kernel_rfl) rfl #[.agg #[.int .u8 a0_0, .int .i64 a0_1, .string a0_2], .agg #[.int .u8 a1_0, .int .i64 a1_1, .string a1_2]] rfl (by (try simp only [List.map_toArray, List.map_cons, List.map_nil]); first | done | rfl | (simp only [List.length_drop, List.length_take]; rfl)) ?_; (with_reducible refine (hindsightref02_asked.calls k a0_0 a0_1 a0_2 a1_0 a1_1 a1_2 t537 t538 _ A4.out).mono ?_); rintro e w14 ⟨rfl, hb⟩; refine ⟨_, rfl, ?_⟩; have n0_ := aM56 (blk_below (g := gb534) (o := .cells #[.int .u8 a0_0, .int .i64 a0_1, .string a0_2] 35 (0, 0)) (by (with_reducible repeat (first | refine bN56 ?_ _ | refine bD56 ?_ | refine bA56 ?_ _)); exact BK534.out) hb); have n1_ := aM56 (blk_below (g := gb535) (o := .cells #[.int .u8 a1_0, .int .i64 a1_1, .string a1_2] 35 (0, 0)) (by (with_reducible repeat (first | refine bN56 ?_ _ | refine bD56 ?_ | refine bA56 ?_ _)); exact BK535.out) hb); have n2_ := aM56 (blk_below (g := gb536) (o := .cells #[.int .u8 0, .int .i64 0, .string (⟨#[]⟩ : ByteArray)] 35 (0, 0)) (by (with_reducible repeat (first | refine bN56 ?_ _ | refine bD56 ?_ | refine bA56 ?_ _)); exact BK536.out) hb); have n3_ := aM56 (below_step (by repeat (first | (with_reducible first | exact HB.out | apply below_alloc | apply pw_below_drewN | apply below_drew1 | refine bS56 ?_ GE534.out | refine bS56 ?_ GE535.out | refine bS56 ?_ GE536.out) | exact HB.out)) hb); clear BK534; clear BK535; clear BK536; clear HB; have BK534 := n0_; have BK535 := n1_; have BK536 := n2_; have HB := n3_; clear n0_ n1_ n2_ n3_; (try clear hb); (try clear hb2); (try clear hk); (try clear hi)))
 (try simp only [Act.put, List.setIfInBounds_toArray, List.set_cons_zero, List.set_cons_succ])
 go_cut [21] (fun v21 wc => ∃ (kq : Nat) (x21_4 : Bool), v21 = .bool x21_4 ∧ Aside0 (hindsightref02_Div.j0 kq a2 t538 x21_4 a0_0 a0_1 a0_2 a1_0 a1_1 a1_2 = some (r1, r2, r3, r4)) ∧ Aside0 (kq ≤ k) ∧ Aside0 (wc.heap[gb534]? = some (.cells #[.int .u8 a0_0, .int .i64 a0_1, .string a0_2] 35 (0, 0))) ∧ Aside0 (wc.heap[gb535]? = some (.cells #[.int .u8 a1_0, .int .i64 a1_1, .string a1_2] 35 (0, 0))) ∧ Aside0 (wc.heap[gb536]? = some (.cells #[.int .u8 0, .int .i64 0, .string (⟨#[]⟩ : ByteArray)] 35 (0, 0))) ∧ Aside0 (Below w.heap.size w wc))
 case first =>
  have H := HC5.out
  clear HC5
  by_cases c15 : t538 = 0
  ·rw [if_pos c15] at H
   have c15b0 : (t538 == 0) = true := beq_iff_eq.mpr c15
   have c15b1 : (t538 != 0) = false := bne_eq_false_iff_eq.mpr c15
   clear c15
   (first | rw [c15b0] | (simp only [i64_w, i32_w]; rw [c15b0]) | skip)
   have H' := aM56 H
   clear H
   go_wp2
   go_meet
   case rel => exact ⟨_, (t537), (by first | rfl | (simp; done) | (simp [*]; done)), H', ⟨by first | omega | exact Nat.le_refl _⟩, ⟨by (with_reducible repeat (first | refine bN56 ?_ _ | refine bD56 ?_ | refine bA56 ?_ _)); exact BK534.out⟩, ⟨by (with_reducible repeat (first | refine bN56 ?_ _ | refine bD56 ?_ | refine bA56 ?_ _)); exact BK535.out⟩, ⟨by (with_reducible repeat (first | refine bN56 ?_ _ | refine bD56 ?_ | refine bA56 ?_ _)); exact BK536.out⟩, ⟨by repeat (first | (with_reducible first | exact HB.out | apply below_alloc | apply pw_below_drewN | apply below_drew1 | refine bS56 ?_ GE534.out | refine bS56 ?_ GE535.out | refine bS56 ?_ GE536.out) | exact HB.out)⟩⟩
  ·rw [if_neg c15] at H
   have c15b0 : (t538 == 0) = false := beq_eq_false_iff_ne.mpr c15
   have c15b1 : (t538 != 0) = true := bne_iff_ne.mpr c15
   (first | rw [c15b0] | (simp only [i64_w, i32_w]; rw [c15b0]) | skip)
   have H' := aM56 H
   clear H
   go_wp2
   go_meet
   case rel => exact ⟨_, (true), (by first | rfl | (simp; done) | (simp [*]; done)), H', ⟨by first | omega | exact Nat.le_refl _⟩, ⟨by (with_reducible repeat (first | refine bN56 ?_ _ | refine bD56 ?_ | refine bA56 ?_ _)); exact BK534.out⟩, ⟨by (with_reducible repeat (first | refine bN56 ?_ _ | refine bD56 ?_ | refine bA56 ?_ _)); exact BK535.out⟩, ⟨by (with_reducible repeat (first | refine bN56 ?_ _ | refine bD56 ?_ | refine bA56 ?_ _)); exact BK536.out⟩, ⟨by repeat (first | (with_reducible first | exact HB.out | apply below_alloc | apply pw_below_drewN | apply below_drew1 | refine bS56 ?_ GE534.out | refine bS56 ?_ GE535.out | refine bS56 ?_ GE536.out) | exact HB.out)⟩⟩
 case rest =>
  clear HC5
  try clear c1
  try clear p2
  try clear c5
  try clear c7
  try clear c9
  try clear c10
  try clear c12
  try clear c15
  try clear c15b0
  try clear c15b1
  try clear hcz11_0
  try clear hcz11_1
  try clear hcz11_2
  try clear hcz13_0
  try clear hcz13_1
  try clear hcz13_2
  try clear hfz11_0
  try clear hfz11_1
  try clear hfz11_2
  try clear hfz13_0
  try clear hfz13_1
  try clear hfz13_2
  obtain ⟨kq, x21_4, rfl, HA, HJ4, BK534, BK535, BK536, HB⟩ := hcut
  cases kq with
  | zero => exact absurd HA.out (by simp [hindsightref02_Div.j0])
  | succ kj4 =>
   have H := HA.out
   clear HA
   simp only [hindsightref02_Div.j0] at H
   by_cases c16 : x21_4 = true
   ·subst c16
    have H1 : (some (0, 0, (⟨#[]⟩ : ByteArray), t538)) = some (r1, r2, r3, r4) := by rw [if_pos rfl] at H; exact H
    clear H
    have H := H1
    clear H1
    simp only [Option.some.injEq, Prod.mk.injEq] at H
    obtain ⟨rfl, rfl, rfl, rfl⟩ := H
    have hnb17 := NB536_534.out
    have hnc17 := NB534_536.out
    have hnb18 := NB536_535.out
    have hnc18 := NB535_536.out
    have hcz19_0 : wc.cell? ⟨gb536, 0, none⟩ = some (.int .u8 0) := (blk_cell BK536.out 0).trans rfl
    have hcz19_1 : wc.cell? ⟨gb536, 1, none⟩ = some (.int .i64 0) := (blk_cell BK536.out 1).trans rfl
    have hcz19_2 : wc.cell? ⟨gb536, 2, none⟩ = some (.string (⟨#[]⟩ : ByteArray)) := (blk_cell BK536.out 2).trans rfl
    have hfz19_0 := blk_frozen BK536.out 0
    have hfz19_1 := blk_frozen BK536.out 1
    have hfz19_2 := blk_frozen BK536.out 2
    go_wp2
    refine bodyPost_ret (results_ct rfl _ _ gb536 35 #[.int .u8 0, .int .i64 0, .string (⟨#[]⟩ : ByteArray)] (0, 0) _ rfl (by (with_reducible repeat (first | refine bN56 ?_ _ | refine bD56 ?_ | refine bA56 ?_ _)); refine blk_put (cs := #[.int .u8 0, .int .i64 0, .string (⟨#[]⟩ : ByteArray)]) ?_ 2 _ rfl; (with_reducible repeat (first | refine bN56 ?_ _ | refine bD56 ?_ | refine bA56 ?_ _)); refine blk_put (cs := #[.int .u8 0, .int .i64 0, .string (⟨#[]⟩ : ByteArray)]) ?_ 1 _ rfl; (with_reducible repeat (first | refine bN56 ?_ _ | refine bD56 ?_ | refine bA56 ?_ _)); refine blk_put (cs := #[.int .u8 0, .int .i64 0, .string (⟨#[]⟩ : ByteArray)]) ?_ 0 _ rfl; (with_reducible repeat (first | refine bN56 ?_ _ | refine bD56 ?_ | refine bA56 ?_ _)); exact BK536.out) Try.underlying35 rfl (by kernel_rfl)) rfl ?_
    exact ⟨by first | rfl | (simp [errW_none, errW_some] <;> rfl) | (simp [*, errW_none, errW_some] <;> rfl), by repeat (first | (with_reducible first | exact HB.out | apply below_alloc | apply pw_below_drewN | apply below_drew1 | refine bS56 ?_ GE534.out | refine bS56 ?_ GE535.out | refine bS56 ?_ GE536.out) | exact HB.out)⟩
   ·replace c16 := Bool.eq_false_iff.mpr c16
    subst c16
    have H1 : (if a1_1 = 0 then (some (0, 0, (⟨#[]⟩ : ByteArray), 22)) else (if a1_1 = (-1) then (if a2 = true then ((hindsightref02_Number.f 0).bind fun bt539 => (some (bt539.1, bt539.2.1, bt539.2.2, t538))) else ((hindsightref02_Number.f 0).bind fun bt542 => ((hindsightref02_Sub.f kj4 bt542.1 bt542.2.1 bt542.2.2 a0_0 a0_1 a0_2).bind fun bt545 => (some (bt545.1, bt545.2.1, bt545.2.2.1, bt545.2.2.2))))) else (if a2 = true then ((hindsightref02_Number.f (wrap64 (a0_1 - (wrap64 ((wrap64 (Int.tdiv a0_1 a1_1)) * a1_1))))).bind fun bt549 => (some (bt549.1, bt549.2.1, bt549.2.2, t538))) else ((hindsightref02_Number.f (wrap64 (Int.tdiv a0_1 a1_1))).bind fun bt552 => (some (bt552.1, bt552.2.1, bt552.2.2, t538)))))) = some (r1, r2, r3, r4) := by rw [if_neg (show ¬ (false = true) by decide)] at H; exact H
    clear H
    have H := H1
    clear H1
    by_cases c20 : a1_1 = 0
    ·rw [if_pos c20] at H
     have c20b0 : (a1_1 == 0) = true := beq_iff_eq.mpr c20
     have c20b1 : (a1_1 != 0) = false := bne_eq_false_iff_eq.mpr c20
     clear c20
     simp only [Option.some.injEq, Prod.mk.injEq] at H
     obtain ⟨rfl, rfl, rfl, rfl⟩ := H
     have hnb21 := NB535_534.out
     have hnc21 := NB534_535.out
     have hnb22 := NB535_536.out
     have hnc22 := NB536_535.out
     have hcz23_0 : wc.cell? ⟨gb535, 0, none⟩ = some (.int .u8 a1_0) := (blk_cell BK535.out 0).trans rfl
     have hcz23_1 : wc.cell? ⟨gb535, 1, none⟩ = some (.int .i64 a1_1) := (blk_cell BK535.out 1).trans rfl
     have hcz23_2 : wc.cell? ⟨gb535, 2, none⟩ = some (.string a1_2) := (blk_cell BK535.out 2).trans rfl
     have hfz23_0 := blk_frozen BK535.out 0
     have hfz23_1 := blk_frozen BK535.out 1
     have hfz23_2 := blk_frozen BK535.out 2
     have hnb24 := NB536_534.out
     have hnc24 := NB534_536.out
     have hcz25_0 : wc.cell? ⟨gb536, 0, none⟩ = some (.int .u8 0) := (blk_cell BK536.out 0).trans rfl
     have hcz25_1 : wc.cell? ⟨gb536, 1, none⟩ = some (.int .i64 0) := (blk_cell BK536.out 1).trans rfl
     have hcz25_2 : wc.cell? ⟨gb536, 2, none⟩ = some (.string (⟨#[]⟩ : ByteArray)) := (blk_cell BK536.out 2).trans rfl
     have hfz25_0 := blk_frozen BK536.out 0
     have hfz25_1 := blk_frozen BK536.out 1
     have hfz25_2 := blk_frozen BK536.out 2
     go_wp2
     refine bodyPost_ret (results_ct rfl _ _ gb536 35 #[.int .u8 0, .int .i64 0, .string (⟨#[]⟩ : ByteArray)] (0, 0) _ rfl (by (with_reducible repeat (first | refine bN56 ?_ _ | refine bD56 ?_ | refine bA56 ?_ _)); refine blk_put (cs := #[.int .u8 0, .int .i64 0, .string (⟨#[]⟩ : ByteArray)]) ?_ 2 _ rfl; (with_reducible repeat (first | refine bN56 ?_ _ | refine bD56 ?_ | refine bA56 ?_ _)); refine blk_put (cs := #[.int .u8 0, .int .i64 0, .string (⟨#[]⟩ : ByteArray)]) ?_ 1 _ rfl; (with_reducible repeat (first | refine bN56 ?_ _ | refine bD56 ?_ | refine bA56 ?_ _)); refine blk_put (cs := #[.int .u8 0, .int .i64 0, .string (⟨#[]⟩ : ByteArray)]) ?_ 0 _ rfl; (with_reducible repeat (first | refine bN56 ?_ _ | refine bD56 ?_ | refine bA56 ?_ _)); exact BK536.out) Try.underlying35 rfl (by kernel_rfl)) rfl ?_
     exact ⟨by first | rfl | (simp [errW_none, errW_some] <;> rfl) | (simp [*, errW_none, errW_some] <;> rfl), by repeat (first | (with_reducible first | exact HB.out | apply below_alloc | apply pw_below_drewN | apply below_drew1 | refine bS56 ?_ GE534.out | refine bS56 ?_ GE535.out | refine bS56 ?_ GE536.out) | exact HB.out)⟩
    ·rw [if_neg c20] at H
     have c20b0 : (a1_1 == 0) = false := beq_eq_false_iff_ne.mpr c20
     have c20b1 : (a1_1 != 0) = true := bne_iff_ne.mpr c20
     by_cases c26 : a1_1 = (-1)
     ·rw [if_pos c26] at H
      have c26b0 : (a1_1 == (-1)) = true := beq_iff_eq.mpr c26
      have c26b1 : (a1_1 != (-1)) = false := bne_eq_false_iff_eq.mpr c26
      clear c26
      by_cases c27 : a2 = true
      ·subst c27
       have H1 : ((hindsightref02_Number.f 0).bind fun bt539 => (some (bt539.1, bt539.2.1, bt539.2.2, t538))) = some (r1, r2, r3, r4) := by rw [if_pos rfl] at H; exact H
       clear H
       have H := H1
       clear H1
       replace H := Option.bind_eq_some_iff.mp H
       obtain ⟨⟨t539, t540, t541⟩, A280, H⟩ := H
       replace H : (some (t539, t540, t541, t538)) = some (r1, r2, r3, r4) := H
       have A28 := aM56 A280
       clear A280
       simp only [Option.some.injEq, Prod.mk.injEq] at H
       obtain ⟨rfl, rfl, rfl, rfl⟩ := H
       have hnb29 := NB535_534.out
       have hnc29 := NB534_535.out
       have hnb30 := NB535_536.out
       have hnc30 := NB536_535.out
       have hcz31_0 : wc.cell? ⟨gb535, 0, none⟩ = some (.int .u8 a1_0) := (blk_cell BK535.out 0).trans rfl
       have hcz31_1 : wc.cell? ⟨gb535, 1, none⟩ = some (.int .i64 a1_1) := (blk_cell BK535.out 1).trans rfl
       have hcz31_2 : wc.cell? ⟨gb535, 2, none⟩ = some (.string a1_2) := (blk_cell BK535.out 2).trans rfl
       have hfz31_0 := blk_frozen BK535.out 0
       have hfz31_1 := blk_frozen BK535.out 1
       have hfz31_2 := blk_frozen BK535.out 2
       go_wp2_with (first | ((with_reducible refine gate_callee (f := 32) rfl ?_); refine goesL_ (some 32) rfl rfl Try.func32 (by kernel_rfl) rfl #[.int .i64 0] rfl (by (try simp only [List.map_toArray, List.map_cons, List.map_nil]); first | done | rfl | (simp only [List.length_drop, List.length_take]; rfl)) ?_; (with_reducible refine (hindsightref02_Number.calls 0 t539 t540 t541 _ A28.out).mono ?_); rintro e w32 ⟨rfl, hb⟩; refine ⟨_, rfl, ?_⟩; have n0_ := aM56 (blk_below (g := gb534) (o := .cells #[.int .u8 a0_0, .int .i64 a0_1, .string a0_2] 35 (0, 0)) (by (with_reducible repeat (first | refine bN56 ?_ _ | refine bD56 ?_ | refine bA56 ?_ _)); exact BK534.out) hb); have n1_ := aM56 (blk_below (g := gb535) (o := .cells #[.int .u8 a1_0, .int .i64 a1_1, .string a1_2] 35 (0, 0)) (by (with_reducible repeat (first | refine bN56 ?_ _ | refine bD56 ?_ | refine bA56 ?_ _)); exact BK535.out) hb); have n2_ := aM56 (blk_below (g := gb536) (o := .cells #[.int .u8 0, .int .i64 0, .string (⟨#[]⟩ : ByteArray)] 35 (0, 0)) (by (with_reducible repeat (first | refine bN56 ?_ _ | refine bD56 ?_ | refine bA56 ?_ _)); exact BK536.out) hb); have n3_ := aM56 (below_step (by repeat (first | (with_reducible first | exact HB.out | apply below_alloc | apply pw_below_drewN | apply below_drew1 | refine bS56 ?_ GE534.out | refine bS56 ?_ GE535.out | refine bS56 ?_ GE536.out) | exact HB.out)) hb); clear BK534; clear BK535; clear BK536; clear HB; have BK534 := n0_; have BK535 := n1_; have BK536 := n2_; have HB := n3_; clear n0_ n1_ n2_ n3_; (try clear hb); (try clear hb2); (try clear hk); (try clear hi); have hnb33 := NB536_534.out; have hnc33 := NB534_536.out; have hcz34_0 : w32.cell? ⟨gb536, 0, none⟩ = some (.int .u8 0) := (blk_cell BK536.out 0).trans rfl; have hcz34_1 : w32.cell? ⟨gb536, 1, none⟩ = some (.int .i64 0) := (blk_cell BK536.out 1).trans rfl; have hcz34_2 : w32.cell? ⟨gb536, 2, none⟩ = some (.string (⟨#[]⟩ : ByteArray)) := (blk_cell BK536.out 2).trans rfl; have hfz34_0 := blk_frozen BK536.out 0; have hfz34_1 := blk_frozen BK536.out 1; have hfz34_2 := blk_frozen BK536.out 2))
       refine bodyPost_ret (results_ct rfl _ _ gb536 35 #[.int .u8 t539, .int .i64 t540, .string t541] (0, 0) _ rfl (by (with_reducible repeat (first | refine bN56 ?_ _ | refine bD56 ?_ | refine bA56 ?_ _)); refine blk_put (cs := #[.int .u8 t539, .int .i64 t540, .string (⟨#[]⟩ : ByteArray)]) ?_ 2 _ rfl; (with_reducible repeat (first | refine bN56 ?_ _ | refine bD56 ?_ | refine bA56 ?_ _)); refine blk_put (cs := #[.int .u8 t539, .int .i64 0, .string (⟨#[]⟩ : ByteArray)]) ?_ 1 _ rfl; (with_reducible repeat (first | refine bN56 ?_ _ | refine bD56 ?_ | refine bA56 ?_ _)); refine blk_put (cs := #[.int .u8 0, .int .i64 0, .string (⟨#[]⟩ : ByteArray)]) ?_ 0 _ rfl; (with_reducible repeat (first | refine bN56 ?_ _ | refine bD56 ?_ | refine bA56 ?_ _)); exact BK536.out) Try.underlying35 rfl (by kernel_rfl)) rfl ?_
       exact ⟨by first | rfl | (simp [errW_none, errW_some] <;> rfl) | (simp [*, errW_none, errW_some] <;> rfl), by repeat (first | (with_reducible first | exact HB.out | apply below_alloc | apply pw_below_drewN | apply below_drew1 | refine bS56 ?_ GE534.out | refine bS56 ?_ GE535.out | refine bS56 ?_ GE536.out) | exact HB.out)⟩
      ·replace c27 := Bool.eq_false_iff.mpr c27
       subst c27
       have H1 : ((hindsightref02_Number.f 0).bind fun bt542 => ((hindsightref02_Sub.f kj4 bt542.1 bt542.2.1 bt542.2.2 a0_0 a0_1 a0_2).bind fun bt545 => (some (bt545.1, bt545.2.1, bt545.2.2.1, bt545.2.2.2)))) = some (r1, r2, r3, r4) := by rw [if_neg (show ¬ (false = true) by decide)] at H; exact H
       clear H
       have H := H1
       clear H1
       replace H := Option.bind_eq_some_iff.mp H
       obtain ⟨⟨t542, t543, t544⟩, A350, H⟩ := H
       replace H : ((hindsightref02_Sub.f kj4 t542 t543 t544 a0_0 a0_1 a0_2).bind fun bt545 => (some (bt545.1, bt545.2.1, bt545.2.2.1, bt545.2.2.2))) = some (r1, r2, r3, r4) := H
       have A35 := aM56 A350
       clear A350
       replace H := Option.bind_eq_some_iff.mp H
       obtain ⟨⟨t545, t546, t547, t548⟩, A360, H⟩ := H
       replace H : (some (t545, t546, t547, t548)) = some (r1, r2, r3, r4) := H
       have A36 := aM56 A360
       clear A360
       simp only [Option.some.injEq, Prod.mk.injEq] at H
       obtain ⟨rfl, rfl, rfl, rfl⟩ := H
       have hnb37 := NB535_534.out
       have hnc37 := NB534_535.out
       have hnb38 := NB535_536.out
       have hnc38 := NB536_535.out
       have hcz39_0 : wc.cell? ⟨gb535, 0, none⟩ = some (.int .u8 a1_0) := (blk_cell BK535.out 0).trans rfl
       have hcz39_1 : wc.cell? ⟨gb535, 1, none⟩ = some (.int .i64 a1_1) := (blk_cell BK535.out 1).trans rfl
       have hcz39_2 : wc.cell? ⟨gb535, 2, none⟩ = some (.string a1_2) := (blk_cell BK535.out 2).trans rfl
       have hfz39_0 := blk_frozen BK535.out 0
       have hfz39_1 := blk_frozen BK535.out 1
       have hfz39_2 := blk_frozen BK535.out 2
       try go_wp2
       have n0_ := aM56 (bD56 BK534.out)
       have n1_ := aM56 (bD56 BK535.out)
       have n2_ := aM56 (bD56 BK536.out)
       have n3_ := aM56 (below_drew1 HB.out)
       clear BK534
       clear BK535
       clear BK536
       clear HB
       have BK534 := n0_
       have BK535 := n1_
       have BK536 := n2_
       have HB := n3_
       clear n0_ n1_ n2_ n3_
       refine start_ (n := 7) (S := fun w' => w'.cell? ⟨gb534, 0, none⟩ = some (.int .u8 a0_0) ∧ w'.cell? ⟨gb534, 1, none⟩ = some (.int .i64 a0_1) ∧ w'.cell? ⟨gb534, 2, none⟩ = some (.string a0_2)) (ds := []) #[false,false,false,false,false,false,false] (by kernel_rfl) rfl rfl ⟨(blk_cell BK534.out 0).trans rfl, (blk_cell BK534.out 1).trans rfl, (blk_cell BK534.out 2).trans rfl⟩ (fun hHeld => ?_)
       generalize wc.drew = w40 at BK534 BK535 BK536 HB hHeld ⊢
       refine take_ (i := 1) (N := some 35) (v := ?_) (a' := ?_) #[false,true,false,false,false,false,false] rfl rfl (by kernel_rfl) (fun _ _ _ h => h) (Or.inl ⟨by rfl, ?_⟩) hHeld ?_ ?_
       rotate_left
       ·rintro w' ⟨s0, s1, s2⟩
        go_simp
        with_reducible rfl
       rotate_left
       ·simp only [Act.put, List.setIfInBounds_toArray, List.set_cons_zero, List.set_cons_succ, i64_w, i32_w]
        rfl
       refine one_ (i := 0) (N := some 34) #[true,true,false,false,false,false,false] rfl rfl (by kernel_rfl) (by decide) (fun K hK => ?_)
       refine goes_ Try.func32 (by kernel_rfl) rfl #[.int .i64 0] (by rfl) rfl rfl (by (try simp only [List.map_toArray, List.map_cons, List.map_nil]); first | done | rfl | (simp only [List.length_drop, List.length_take]; rfl)) ?_
       with_reducible refine (hindsightref02_Number.calls 0 t542 t543 t544 _ A35.out).mono ?_
       rintro e w41 ⟨rfl, hb⟩
       refine ⟨_, rfl, ?_⟩
       have n0_ := aM56 (blk_below (g := gb534) (o := .cells #[.int .u8 a0_0, .int .i64 a0_1, .string a0_2] 35 (0, 0)) (by (with_reducible repeat (first | refine bN56 ?_ _ | refine bD56 ?_ | refine bA56 ?_ _)); exact BK534.out) hb)
       have n1_ := aM56 (blk_below (g := gb535) (o := .cells #[.int .u8 a1_0, .int .i64 a1_1, .string a1_2] 35 (0, 0)) (by (with_reducible repeat (first | refine bN56 ?_ _ | refine bD56 ?_ | refine bA56 ?_ _)); exact BK535.out) hb)
       have n2_ := aM56 (blk_below (g := gb536) (o := .cells #[.int .u8 0, .int .i64 0, .string (⟨#[]⟩ : ByteArray)] 35 (0, 0)) (by (with_reducible repeat (first | refine bN56 ?_ _ | refine bD56 ?_ | refine bA56 ?_ _)); exact BK536.out) hb)
       have n3_ := aM56 (below_step (by repeat (first | (with_reducible first | exact HB.out | apply below_alloc | apply pw_below_drewN | apply below_drew1 | refine bS56 ?_ GE534.out | refine bS56 ?_ GE535.out | refine bS56 ?_ GE536.out) | exact HB.out)) hb)
       clear BK534
       clear BK535
       clear BK536
       clear HB
       have BK534 := n0_
       have BK535 := n1_
       have BK536 := n2_
       have HB := n3_
       clear n0_ n1_ n2_ n3_
       (try clear hb)
       (try clear hb2)
       (try clear hk)
       (try clear hi)
       refine hK.out _ _ ⟨(blk_cell BK534.out 0).trans rfl, (blk_cell BK534.out 1).trans rfl, (blk_cell BK534.out 2).trans rfl⟩ (fun hHeld => ?_)
       clear hK K
       refine norm_ (a' := ?_) ?_ ?_
       rotate_left
       ·show Act.put _ (some 34) _ = _
        simp only [Act.put, List.setIfInBounds_toArray, List.set_cons_zero, List.set_cons_succ, i64_w, i32_w]
        rfl
       refine one_ (i := 2) (N := some 36) #[true,true,true,false,false,false,false] rfl rfl (by kernel_rfl) (by decide) (fun K hK => ?_)
       refine goes_ Try.func52 (by kernel_rfl) rfl #[.agg #[.int .u8 t542, .int .i64 t543, .string t544], .agg #[.int .u8 a0_0, .int .i64 a0_1, .string a0_2]] (by rfl) rfl rfl (by (try simp only [List.map_toArray, List.map_cons, List.map_nil]); first | done | rfl | (simp only [List.length_drop, List.length_take]; rfl)) ?_
       with_reducible refine (hindsightref02_Sub.calls kj4 t542 t543 t544 a0_0 a0_1 a0_2 t545 t546 t547 t548 _ A36.out).mono ?_
       rintro e w42 ⟨rfl, hb⟩
       refine ⟨_, rfl, ?_⟩
       have n0_ := aM56 (blk_below (g := gb534) (o := .cells #[.int .u8 a0_0, .int .i64 a0_1, .string a0_2] 35 (0, 0)) (by (with_reducible repeat (first | refine bN56 ?_ _ | refine bD56 ?_ | refine bA56 ?_ _)); exact BK534.out) hb)
       have n1_ := aM56 (blk_below (g := gb535) (o := .cells #[.int .u8 a1_0, .int .i64 a1_1, .string a1_2] 35 (0, 0)) (by (with_reducible repeat (first | refine bN56 ?_ _ | refine bD56 ?_ | refine bA56 ?_ _)); exact BK535.out) hb)
       have n2_ := aM56 (blk_below (g := gb536) (o := .cells #[.int .u8 0, .int .i64 0, .string (⟨#[]⟩ : ByteArray)] 35 (0, 0)) (by (with_reducible repeat (first | refine bN56 ?_ _ | refine bD56 ?_ | refine bA56 ?_ _)); exact BK536.out) hb)
       have n3_ := aM56 (below_step (by repeat (first | (with_reducible first | exact HB.out | apply below_alloc | apply pw_below_drewN | apply below_drew1 | refine bS56 ?_ GE534.out | refine bS56 ?_ GE535.out | refine bS56 ?_ GE536.out) | exact HB.out)) hb)
       clear BK534
       clear BK535
       clear BK536
       clear HB
       have BK534 := n0_
       have BK535 := n1_
       have BK536 := n2_
       have HB := n3_
       clear n0_ n1_ n2_ n3_
       (try clear hb)
       (try clear hb2)
       (try clear hk)
       (try clear hi)
       refine hK.out _ _ ⟨(blk_cell BK534.out 0).trans rfl, (blk_cell BK534.out 1).trans rfl, (blk_cell BK534.out 2).trans rfl⟩ (fun hHeld => ?_)
       clear hK K
       refine norm_ (a' := ?_) ?_ ?_
       rotate_left
       ·show Act.put _ (some 36) _ = _
        simp only [Act.put, List.setIfInBounds_toArray, List.set_cons_zero, List.set_cons_succ, i64_w, i32_w]
        rfl
       refine pure_ (i := 3) (N := some 37) (v := ?_) (a' := ?_) #[true,true,true,true,false,false,false] rfl rfl (by kernel_rfl) (fun _ _ _ h => h) (Or.inl ⟨by rfl, ?_⟩) ?_ ?_
       rotate_left
       ·intro w'
        go_simp
        with_reducible rfl
       rotate_left
       ·simp only [Act.put, List.setIfInBounds_toArray, List.set_cons_zero, List.set_cons_succ, i64_w, i32_w]
        rfl
       refine pure_ (i := 4) (N := some 38) (v := ?_) (a' := ?_) #[true,true,true,true,true,false,false] rfl rfl (by kernel_rfl) (fun _ _ _ h => h) (Or.inl ⟨by rfl, ?_⟩) ?_ ?_
       rotate_left
       ·intro w'
        go_simp
        with_reducible rfl
       rotate_left
       ·simp only [Act.put, List.setIfInBounds_toArray, List.set_cons_zero, List.set_cons_succ, i64_w, i32_w]
        rfl
       refine one_ (i := 5) (N := none) #[true,true,true,true,true,true,false] rfl rfl (by kernel_rfl) (by decide) (fun K hK => ?_)
       have hs43 : w42.cell? ⟨gb536, 0, none⟩ = some (.int .u8 0) := (blk_cell BK536.out 0).trans rfl
       have hfs43 := blk_frozen BK536.out 0
       have hns43_0 := NB534_536.out
       have hns43_1 := NB535_536.out
       have hms43_0 := NB536_534.out
       have hms43_1 := NB536_535.out
       have hs44 : w42.cell? ⟨gb536, 1, none⟩ = some (.int .i64 0) := (blk_cell BK536.out 1).trans rfl
       have hfs44 := blk_frozen BK536.out 1
       have hns44_0 := NB534_536.out
       have hns44_1 := NB535_536.out
       have hms44_0 := NB536_534.out
       have hms44_1 := NB536_535.out
       have hs45 : w42.cell? ⟨gb536, 2, none⟩ = some (.string (⟨#[]⟩ : ByteArray)) := (blk_cell BK536.out 2).trans rfl
       have hfs45 := blk_frozen BK536.out 2
       have hns45_0 := NB534_536.out
       have hns45_1 := NB535_536.out
       have hms45_0 := NB536_534.out
       have hms45_1 := NB536_535.out
       refine skip_ (w1 := ?_) (by rfl) rfl ?_ ?_
       rotate_left
       ·go_simp
        rfl
       refine hK.out _ _ ⟨((cell_far (p := ⟨gb536, _, none⟩) NB534_536.out _).trans (((cell_far (p := ⟨gb536, _, none⟩) NB534_536.out _).trans (((cell_far (p := ⟨gb536, _, none⟩) NB534_536.out _).trans (hHeld.1)))))), ((cell_far (p := ⟨gb536, _, none⟩) NB534_536.out _).trans (((cell_far (p := ⟨gb536, _, none⟩) NB534_536.out _).trans (((cell_far (p := ⟨gb536, _, none⟩) NB534_536.out _).trans (hHeld.2.1)))))), ((cell_far (p := ⟨gb536, _, none⟩) NB534_536.out _).trans (((cell_far (p := ⟨gb536, _, none⟩) NB534_536.out _).trans (((cell_far (p := ⟨gb536, _, none⟩) NB534_536.out _).trans (hHeld.2.2))))))⟩ (fun hHeld => ?_)
       clear hK K
       refine pure_ (i := 6) (N := some 7) (v := ?_) (a' := ?_) #[true,true,true,true,true,true,true] rfl rfl (by kernel_rfl) (fun _ _ _ h => h) (Or.inl ⟨by rfl, ?_⟩) ?_ ?_
       rotate_left
       ·intro w'
        go_simp
        with_reducible rfl
       rotate_left
       ·simp only [Act.put, List.setIfInBounds_toArray, List.set_cons_zero, List.set_cons_succ, i64_w, i32_w]
        rfl
       refine done_ (by kernel_rfl) ?_
       try go_wp2
       refine bodyPost_ret (results_ct rfl _ _ gb536 35 #[.int .u8 t545, .int .i64 t546, .string t547] (0, 0) _ rfl (by (with_reducible repeat (first | refine bN56 ?_ _ | refine bD56 ?_ | refine bA56 ?_ _)); refine blk_put (cs := #[.int .u8 t545, .int .i64 t546, .string (⟨#[]⟩ : ByteArray)]) ?_ 2 _ rfl; (with_reducible repeat (first | refine bN56 ?_ _ | refine bD56 ?_ | refine bA56 ?_ _)); refine blk_put (cs := #[.int .u8 t545, .int .i64 0, .string (⟨#[]⟩ : ByteArray)]) ?_ 1 _ rfl; (with_reducible repeat (first | refine bN56 ?_ _ | refine bD56 ?_ | refine bA56 ?_ _)); refine blk_put (cs := #[.int .u8 0, .int .i64 0, .string (⟨#[]⟩ : ByteArray)]) ?_ 0 _ rfl; (with_reducible repeat (first | refine bN56 ?_ _ | refine bD56 ?_ | refine bA56 ?_ _)); exact BK536.out) Try.underlying35 rfl (by kernel_rfl)) rfl ?_
       exact ⟨by first | rfl | (simp [errW_none, errW_some] <;> rfl) | (simp [*, errW_none, errW_some] <;> rfl), by repeat (first | (with_reducible first | exact HB.out | apply below_alloc | apply pw_below_drewN | apply below_drew1 | refine bS56 ?_ GE534.out | refine bS56 ?_ GE535.out | refine bS56 ?_ GE536.out) | exact HB.out)⟩
     ·rw [if_neg c26] at H
      have c26b0 : (a1_1 == (-1)) = false := beq_eq_false_iff_ne.mpr c26
      have c26b1 : (a1_1 != (-1)) = true := bne_iff_ne.mpr c26
      by_cases c46 : a2 = true
      ·subst c46
       have H1 : ((hindsightref02_Number.f (wrap64 (a0_1 - (wrap64 ((wrap64 (Int.tdiv a0_1 a1_1)) * a1_1))))).bind fun bt549 => (some (bt549.1, bt549.2.1, bt549.2.2, t538))) = some (r1, r2, r3, r4) := by rw [if_pos rfl] at H; exact H
       clear H
       have H := H1
       clear H1
       replace H := Option.bind_eq_some_iff.mp H
       obtain ⟨⟨t549, t550, t551⟩, A470, H⟩ := H
       replace H : (some (t549, t550, t551, t538)) = some (r1, r2, r3, r4) := H
       have A47 := aM56 A470
       clear A470
       simp only [Option.some.injEq, Prod.mk.injEq] at H
       obtain ⟨rfl, rfl, rfl, rfl⟩ := H
       have hnb48 := NB535_534.out
       have hnc48 := NB534_535.out
       have hnb49 := NB535_536.out
       have hnc49 := NB536_535.out
       have hcz50_0 : wc.cell? ⟨gb535, 0, none⟩ = some (.int .u8 a1_0) := (blk_cell BK535.out 0).trans rfl
       have hcz50_1 : wc.cell? ⟨gb535, 1, none⟩ = some (.int .i64 a1_1) := (blk_cell BK535.out 1).trans rfl
       have hcz50_2 : wc.cell? ⟨gb535, 2, none⟩ = some (.string a1_2) := (blk_cell BK535.out 2).trans rfl
       have hfz50_0 := blk_frozen BK535.out 0
       have hfz50_1 := blk_frozen BK535.out 1
       have hfz50_2 := blk_frozen BK535.out 2
       have hnb51 := NB534_536.out
       have hnc51 := NB536_534.out
       have hcz52_0 : wc.cell? ⟨gb534, 0, none⟩ = some (.int .u8 a0_0) := (blk_cell BK534.out 0).trans rfl
       have hcz52_1 : wc.cell? ⟨gb534, 1, none⟩ = some (.int .i64 a0_1) := (blk_cell BK534.out 1).trans rfl
       have hcz52_2 : wc.cell? ⟨gb534, 2, none⟩ = some (.string a0_2) := (blk_cell BK534.out 2).trans rfl
       have hfz52_0 := blk_frozen BK534.out 0
       have hfz52_1 := blk_frozen BK534.out 1
       have hfz52_2 := blk_frozen BK534.out 2
       go_wp2_with (first | ((with_reducible refine gate_callee (f := 32) rfl ?_); refine goesL_ (some 52) rfl rfl Try.func32 (by kernel_rfl) rfl #[.int .i64 (wrap64 (a0_1 - (wrap64 ((wrap64 (Int.tdiv a0_1 a1_1)) * a1_1))))] rfl (by (try simp only [List.map_toArray, List.map_cons, List.map_nil]); first | done | rfl | (simp only [List.length_drop, List.length_take]; rfl)) ?_; (with_reducible refine (hindsightref02_Number.calls (wrap64 (a0_1 - (wrap64 ((wrap64 (Int.tdiv a0_1 a1_1)) * a1_1)))) t549 t550 t551 _ A47.out).mono ?_); rintro e w53 ⟨rfl, hb⟩; refine ⟨_, rfl, ?_⟩; have n0_ := aM56 (blk_below (g := gb534) (o := .cells #[.int .u8 a0_0, .int .i64 a0_1, .string a0_2] 35 (0, 0)) (by (with_reducible repeat (first | refine bN56 ?_ _ | refine bD56 ?_ | refine bA56 ?_ _)); exact BK534.out) hb); have n1_ := aM56 (blk_below (g := gb535) (o := .cells #[.int .u8 a1_0, .int .i64 a1_1, .string a1_2] 35 (0, 0)) (by (with_reducible repeat (first | refine bN56 ?_ _ | refine bD56 ?_ | refine bA56 ?_ _)); exact BK535.out) hb); have n2_ := aM56 (blk_below (g := gb536) (o := .cells #[.int .u8 0, .int .i64 0, .string (⟨#[]⟩ : ByteArray)] 35 (0, 0)) (by (with_reducible repeat (first | refine bN56 ?_ _ | refine bD56 ?_ | refine bA56 ?_ _)); exact BK536.out) hb); have n3_ := aM56 (below_step (by repeat (first | (with_reducible first | exact HB.out | apply below_alloc | apply pw_below_drewN | apply below_drew1 | refine bS56 ?_ GE534.out | refine bS56 ?_ GE535.out | refine bS56 ?_ GE536.out) | exact HB.out)) hb); clear BK534; clear BK535; clear BK536; clear HB; have BK534 := n0_; have BK535 := n1_; have BK536 := n2_; have HB := n3_; clear n0_ n1_ n2_ n3_; (try clear hb); (try clear hb2); (try clear hk); (try clear hi); have hcz54_0 : w53.cell? ⟨gb536, 0, none⟩ = some (.int .u8 0) := (blk_cell BK536.out 0).trans rfl; have hcz54_1 : w53.cell? ⟨gb536, 1, none⟩ = some (.int .i64 0) := (blk_cell BK536.out 1).trans rfl; have hcz54_2 : w53.cell? ⟨gb536, 2, none⟩ = some (.string (⟨#[]⟩ : ByteArray)) := (blk_cell BK536.out 2).trans rfl; have hfz54_0 := blk_frozen BK536.out 0; have hfz54_1 := blk_frozen BK536.out 1; have hfz54_2 := blk_frozen BK536.out 2))
       refine bodyPost_ret (results_ct rfl _ _ gb536 35 #[.int .u8 t549, .int .i64 t550, .string t551] (0, 0) _ rfl (by (with_reducible repeat (first | refine bN56 ?_ _ | refine bD56 ?_ | refine bA56 ?_ _)); refine blk_put (cs := #[.int .u8 t549, .int .i64 t550, .string (⟨#[]⟩ : ByteArray)]) ?_ 2 _ rfl; (with_reducible repeat (first | refine bN56 ?_ _ | refine bD56 ?_ | refine bA56 ?_ _)); refine blk_put (cs := #[.int .u8 t549, .int .i64 0, .string (⟨#[]⟩ : ByteArray)]) ?_ 1 _ rfl; (with_reducible repeat (first | refine bN56 ?_ _ | refine bD56 ?_ | refine bA56 ?_ _)); refine blk_put (cs := #[.int .u8 0, .int .i64 0, .string (⟨#[]⟩ : ByteArray)]) ?_ 0 _ rfl; (with_reducible repeat (first | refine bN56 ?_ _ | refine bD56 ?_ | refine bA56 ?_ _)); exact BK536.out) Try.underlying35 rfl (by kernel_rfl)) rfl ?_
       exact ⟨by first | rfl | (simp [errW_none, errW_some] <;> rfl) | (simp [*, errW_none, errW_some] <;> rfl), by repeat (first | (with_reducible first | exact HB.out | apply below_alloc | apply pw_below_drewN | apply below_drew1 | refine bS56 ?_ GE534.out | refine bS56 ?_ GE535.out | refine bS56 ?_ GE536.out) | exact HB.out)⟩
      ·replace c46 := Bool.eq_false_iff.mpr c46
       subst c46
       have H1 : ((hindsightref02_Number.f (wrap64 (Int.tdiv a0_1 a1_1))).bind fun bt552 => (some (bt552.1, bt552.2.1, bt552.2.2, t538))) = some (r1, r2, r3, r4) := by rw [if_neg (show ¬ (false = true) by decide)] at H; exact H
       clear H
       have H := H1
       clear H1
       replace H := Option.bind_eq_some_iff.mp H
       obtain ⟨⟨t552, t553, t554⟩, A550, H⟩ := H
       replace H : (some (t552, t553, t554, t538)) = some (r1, r2, r3, r4) := H
       have A55 := aM56 A550
       clear A550
       simp only [Option.some.injEq, Prod.mk.injEq] at H
       obtain ⟨rfl, rfl, rfl, rfl⟩ := H
       have hnb56 := NB535_534.out
       have hnc56 := NB534_535.out
       have hnb57 := NB535_536.out
       have hnc57 := NB536_535.out
       have hcz58_0 : wc.cell? ⟨gb535, 0, none⟩ = some (.int .u8 a1_0) := (blk_cell BK535.out 0).trans rfl
       have hcz58_1 : wc.cell? ⟨gb535, 1, none⟩ = some (.int .i64 a1_1) := (blk_cell BK535.out 1).trans rfl
       have hcz58_2 : wc.cell? ⟨gb535, 2, none⟩ = some (.string a1_2) := (blk_cell BK535.out 2).trans rfl
       have hfz58_0 := blk_frozen BK535.out 0
       have hfz58_1 := blk_frozen BK535.out 1
       have hfz58_2 := blk_frozen BK535.out 2
       have hnb59 := NB534_536.out
       have hnc59 := NB536_534.out
       have hcz60_0 : wc.cell? ⟨gb534, 0, none⟩ = some (.int .u8 a0_0) := (blk_cell BK534.out 0).trans rfl
       have hcz60_1 : wc.cell? ⟨gb534, 1, none⟩ = some (.int .i64 a0_1) := (blk_cell BK534.out 1).trans rfl
       have hcz60_2 : wc.cell? ⟨gb534, 2, none⟩ = some (.string a0_2) := (blk_cell BK534.out 2).trans rfl
       have hfz60_0 := blk_frozen BK534.out 0
       have hfz60_1 := blk_frozen BK534.out 1
       have hfz60_2 := blk_frozen BK534.out 2
       go_wp2_with (first | ((with_reducible refine gate_callee (f := 32) rfl ?_); refine goesL_ (some 55) rfl rfl Try.func32 (by kernel_rfl) rfl #[.int .i64 (wrap64 (Int.tdiv a0_1 a1_1))] rfl (by (try simp only [List.map_toArray, List.map_cons, List.map_nil]); first | done | rfl | (simp only [List.length_drop, List.length_take]; rfl)) ?_; (with_reducible refine (hindsightref02_Number.calls (wrap64 (Int.tdiv a0_1 a1_1)) t552 t553 t554 _ A55.out).mono ?_); rintro e w61 ⟨rfl, hb⟩; refine ⟨_, rfl, ?_⟩; have n0_ := aM56 (blk_below (g := gb534) (o := .cells #[.int .u8 a0_0, .int .i64 a0_1, .string a0_2] 35 (0, 0)) (by (with_reducible repeat (first | refine bN56 ?_ _ | refine bD56 ?_ | refine bA56 ?_ _)); exact BK534.out) hb); have n1_ := aM56 (blk_below (g := gb535) (o := .cells #[.int .u8 a1_0, .int .i64 a1_1, .string a1_2] 35 (0, 0)) (by (with_reducible repeat (first | refine bN56 ?_ _ | refine bD56 ?_ | refine bA56 ?_ _)); exact BK535.out) hb); have n2_ := aM56 (blk_below (g := gb536) (o := .cells #[.int .u8 0, .int .i64 0, .string (⟨#[]⟩ : ByteArray)] 35 (0, 0)) (by (with_reducible repeat (first | refine bN56 ?_ _ | refine bD56 ?_ | refine bA56 ?_ _)); exact BK536.out) hb); have n3_ := aM56 (below_step (by repeat (first | (with_reducible first | exact HB.out | apply below_alloc | apply pw_below_drewN | apply below_drew1 | refine bS56 ?_ GE534.out | refine bS56 ?_ GE535.out | refine bS56 ?_ GE536.out) | exact HB.out)) hb); clear BK534; clear BK535; clear BK536; clear HB; have BK534 := n0_; have BK535 := n1_; have BK536 := n2_; have HB := n3_; clear n0_ n1_ n2_ n3_; (try clear hb); (try clear hb2); (try clear hk); (try clear hi); have hcz62_0 : w61.cell? ⟨gb536, 0, none⟩ = some (.int .u8 0) := (blk_cell BK536.out 0).trans rfl; have hcz62_1 : w61.cell? ⟨gb536, 1, none⟩ = some (.int .i64 0) := (blk_cell BK536.out 1).trans rfl; have hcz62_2 : w61.cell? ⟨gb536, 2, none⟩ = some (.string (⟨#[]⟩ : ByteArray)) := (blk_cell BK536.out 2).trans rfl; have hfz62_0 := blk_frozen BK536.out 0; have hfz62_1 := blk_frozen BK536.out 1; have hfz62_2 := blk_frozen BK536.out 2))
       refine bodyPost_ret (results_ct rfl _ _ gb536 35 #[.int .u8 t552, .int .i64 t553, .string t554] (0, 0) _ rfl (by (with_reducible repeat (first | refine bN56 ?_ _ | refine bD56 ?_ | refine bA56 ?_ _)); refine blk_put (cs := #[.int .u8 t552, .int .i64 t553, .string (⟨#[]⟩ : ByteArray)]) ?_ 2 _ rfl; (with_reducible repeat (first | refine bN56 ?_ _ | refine bD56 ?_ | refine bA56 ?_ _)); refine blk_put (cs := #[.int .u8 t552, .int .i64 0, .string (⟨#[]⟩ : ByteArray)]) ?_ 1 _ rfl; (with_reducible repeat (first | refine bN56 ?_ _ | refine bD56 ?_ | refine bA56 ?_ _)); refine blk_put (cs := #[.int .u8 0, .int .i64 0, .string (⟨#[]⟩ : ByteArray)]) ?_ 0 _ rfl; (with_reducible repeat (first | refine bN56 ?_ _ | refine bD56 ?_ | refine bA56 ?_ _)); exact BK536.out) Try.underlying35 rfl (by kernel_rfl)) rfl ?_
       exact ⟨by first | rfl | (simp [errW_none, errW_some] <;> rfl) | (simp [*, errW_none, errW_some] <;> rfl), by repeat (first | (with_reducible first | exact HB.out | apply below_alloc | apply pw_below_drewN | apply below_drew1 | refine bS56 ?_ GE534.out | refine bS56 ?_ GE535.out | refine bS56 ?_ GE536.out) | exact HB.out)⟩

end Go.Proofs.Ytefpnnljflcmbaa.PCe
