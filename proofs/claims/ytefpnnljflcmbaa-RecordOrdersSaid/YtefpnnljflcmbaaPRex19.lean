-- Written by a program of this session (wip/tool), which goes by the kit's print.
import Derived.Test.YtefpnnljflcmbaaPRex0
import Derived.Test.YtefpnnljflcmbaaPRex17
import Derived.Test.YtefpnnljflcmbaaPRex18
namespace Go.Proofs.Ytefpnnljflcmbaa.PRe
open Go.RowKit Go.Proofs.YtefpnnljflcmbaaW.PrintWords Go.Proofs.YtefpnnljflcmbaaW.PrintLast Go.Proofs.YtefpnnljflcmbaaW.PrintMore
attribute [local go_sem] max2_int min2_int max_two min_two max_three min_three max_four min_four   -- for this text's walks alone
set_option linter.unusedVariables false
set_option linter.unusedSimpArgs false

/-! ### hindsightref03_one: function 69 -/
theorem bN69 : type_of% @blk_drewN := @blk_drewN
theorem bD69 : type_of% @blk_drew := @blk_drew
theorem bA69 : type_of% @blk_alloc := @blk_alloc
theorem bS69 : type_of% @below_set := @below_set
theorem aM69 : type_of% @Aside0.mk := @Aside0.mk
def hindsightref03_one.j0 : Nat → List Int → Int → Bool → Option (Int × Int × ByteArray × Int × Bool)
 | 0, _, _, _ => none
 | k + 1, x0, x1, x21 => if x21 = true then (some (0, 0, (⟨#[]⟩ : ByteArray), 0, false)) else (if 0 ≤ x1 then (if x1 < (x0.length : Int) then (if (rd x0 x1) = 0 then (some (rd x0 x1, 0, (⟨#[]⟩ : ByteArray), wrap64 (x1 + 1), true)) else ((hindsightref01_Get.f k x0 (wrap64 (x1 + 1))).bind fun bt276 => (if bt276.2.2 = 0 then (if (rd x0 x1) = 1 then ((hindsightref01_Zag.f bt276.1).bind fun t279 => (some (rd x0 x1, t279, (⟨#[]⟩ : ByteArray), bt276.2.1, true))) else (if bt276.1 > (IntKind.u64.wrap (wrap64 ((x0.length : Int) - bt276.2.1))) then (some (rd x0 x1, 0, (⟨#[]⟩ : ByteArray), 0, false)) else (if 0 ≤ bt276.2.1 then (if bt276.2.1 ≤ (wrap64 (bt276.2.1 + (wrap64 (bt276.1)))) then (if (wrap64 (bt276.2.1 + (wrap64 (bt276.1)))) ≤ (x0.length : Int) then (some (rd x0 x1, 0, strOfNums ((x0.take ((wrap64 (bt276.2.1 + (wrap64 (bt276.1)))) : Int).toNat).drop (bt276.2.1 : Int).toNat), wrap64 (bt276.2.1 + (wrap64 (bt276.1))), true)) else (none)) else (none)) else (none)))) else (some (rd x0 x1, 0, (⟨#[]⟩ : ByteArray), 0, false))))) else (none)) else (none))
def hindsightref03_one.f (k : Nat) (l0 : List Int) (a1 : Int) : Option (Int × Int × ByteArray × Int × Bool) := if a1 ≥ (l0.length : Int) then (hindsightref03_one.j0 k l0 a1 true) else (if 0 ≤ a1 then (if a1 < (l0.length : Int) then (hindsightref03_one.j0 k l0 a1 (decide ((rd l0 a1) > 3))) else (none)) else (none))
theorem hindsightref03_one.mono_l : ∀ k, (∀ y0 y1 y2, LeO (hindsightref03_one.j0 k y0 y1 y2) (hindsightref03_one.j0 (k + 1) y0 y1 y2))
 | 0 => fun _ _ _ r h => by simp [hindsightref03_one.j0] at h
 | k + 1 => by
  have ih0 := hindsightref03_one.mono_l k
  ·intro y0 y1 y2
   unfold hindsightref03_one.j0
   repeat' first
   | (with_reducible exact ih0 _ _ _)
   | (with_reducible exact hindsightref01_Get.mono _ _ _)
   | (with_reducible exact LeO.refl _)
   | (with_reducible exact LeO.none _)
   | (with_reducible refine LeO.ite ?_ ?_)
   | (with_reducible refine LeO.bind ?_ (fun _ => ?_))
   | exact ih0 _ _ _
   | exact hindsightref01_Get.mono _ _ _
   | exact LeO.none _
   | refine LeO.ite ?_ ?_
   | refine LeO.bind ?_ (fun _ => ?_)
theorem hindsightref03_one.mono : ∀ a0 a1 k, LeO (hindsightref03_one.f k a0 a1) (hindsightref03_one.f (k + 1) a0 a1) := by
 intro a0 a1 k
 have ih0 := hindsightref03_one.mono_l k
 unfold hindsightref03_one.f
 repeat' first
   | (with_reducible exact ih0 _ _ _)
   | (with_reducible exact hindsightref01_Get.mono _ _ _)
   | (with_reducible exact LeO.refl _)
   | (with_reducible exact LeO.none _)
   | (with_reducible refine LeO.ite ?_ ?_)
   | (with_reducible refine LeO.bind ?_ (fun _ => ?_))
   | exact ih0 _ _ _
   | exact hindsightref01_Get.mono _ _ _
   | exact LeO.none _
   | refine LeO.ite ?_ ?_
   | refine LeO.bind ?_ (fun _ => ?_)
set_option maxHeartbeats 8000000 in
set_option maxRecDepth 100000 in
theorem hindsightref03_one.calls (k : Nat) (A0 : Option Addr) (c0 : Nat) (l0 : List Int) (a1 : Int) (r1 : Int) (r2 : Int) (r3 : ByteArray) (r4 : Int) (r5 : Bool) (w : World) (hr0 : Kd.C (Kd.int .u8) w A0 l0.length l0) (hc0 : l0.length ≤ c0) (h : hindsightref03_one.f k l0 a1 = some (r1, r2, r3, r4, r5)) :
  Calls Try.prog 69 #[.slice A0 l0.length c0, .int .i64 a1] w fun e w' => e = .returned (.tuple #[.agg #[.int .u8 r1, .int .i64 r2, .string r3], .int .i64 r4, .bool r5]) ∧ Below w.heap.size w w' := by
 have hu35 := Try.underlying35
 have HR0 := aM69 hr0
 have HC0 := aM69 hc0
 clear hr0 hc0
 have HB := aM69 (Below.refl w.heap.size w)
 have H : (if a1 ≥ (l0.length : Int) then (hindsightref03_one.j0 k l0 a1 true) else (if 0 ≤ a1 then (if a1 < (l0.length : Int) then (hindsightref03_one.j0 k l0 a1 (decide ((rd l0 a1) > 3))) else (none)) else (none))) = some (r1, r2, r3, r4, r5) := h
 clear h
 have HC3 := aM69 H
 clear H
 go_enter Try.func69, Try.ntmps69
 go_upto_region 1 with (first | ((with_reducible refine gate_dst (N := 4) rfl ?_); refine box_event ?hg (N := 4) ?hd (cs := #[.int .u8 0, .int .i64 0, .string (⟨#[]⟩ : ByteArray)]) (t := 35) ?hr ?_; (case hd => rfl); (case hg => rfl); (case hr => first | (go_simp; done) | (go_simp; rfl)); intro gb272 hg w4 hbox hb; have n0_ := aM69 (below_step (by repeat (first | (with_reducible first | exact HB.out | apply below_alloc | apply pw_below_drewN | apply below_drew1) | exact HB.out)) hb); have n1_ := aM69 (hbox); have n2_ := aM69 ((by rw [hg]; exact (below_size (by repeat (first | (with_reducible first | exact HB.out | apply below_alloc | apply pw_below_drewN | apply below_drew1) | exact HB.out))) : w.heap.size ≤ gb272)); have n3_ := aM69 ((by rw [hg]; exact (below_size (by repeat (first | (with_reducible first | exact HB.out | apply below_alloc | apply pw_below_drewN | apply below_drew1) | exact HB.out))) : w.heap.size ≤ gb272)); clear HB; have HB := n0_; have BK272 := n1_; have GW272 := n2_; have GE272 := n3_; clear n0_ n1_ n2_ n3_; clear hb hbox hg))
 (try simp only [Act.put, List.setIfInBounds_toArray, List.set_cons_zero, List.set_cons_succ])
 go_cut [21] (fun v21 wc => ∃ (kq : Nat) (x21_2 : Bool), v21 = .bool x21_2 ∧ Aside0 (hindsightref03_one.j0 kq l0 a1 x21_2 = some (r1, r2, r3, r4, r5)) ∧ Aside0 (kq ≤ k) ∧ Aside0 (wc.heap[gb272]? = some (.cells #[.int .u8 0, .int .i64 0, .string (⟨#[]⟩ : ByteArray)] 35 (0, 0))) ∧ Aside0 (Below w.heap.size w wc))
 case first =>
  have H := HC3.out
  clear HC3
  by_cases c5 : a1 ≥ (l0.length : Int)
  ·rw [if_pos c5] at H
   have c5b0 : decide ((l0.length : Int) ≤ a1) = true := decide_eq_true c5
   clear c5
   (first | rw [c5b0] | (simp only [i64_w, i32_w]; rw [c5b0]) | skip)
   have H' := aM69 H
   clear H
   go_wp2
   go_meet
   case rel => exact ⟨_, (true), (by first | rfl | (simp; done) | (simp [*]; done)), H', ⟨by first | omega | exact Nat.le_refl _⟩, ⟨by (with_reducible repeat (first | refine bN69 ?_ _ | refine bD69 ?_ | refine bA69 ?_ _)); exact BK272.out⟩, ⟨by repeat (first | (with_reducible first | exact HB.out | apply below_alloc | apply pw_below_drewN | apply below_drew1 | refine bS69 ?_ GE272.out) | exact HB.out)⟩⟩
  ·rw [if_neg c5] at H
   have c5b0 : decide ((l0.length : Int) ≤ a1) = false := decide_eq_false c5
   clear c5
   (first | rw [c5b0] | (simp only [i64_w, i32_w]; rw [c5b0]) | skip)
   by_cases c6 : 0 ≤ a1
   ·rw [if_pos c6] at H
    have c6b0 : decide (0 ≤ a1) = true := decide_eq_true c6
    clear c6
    by_cases c7 : a1 < (l0.length : Int)
    ·rw [if_pos c7] at H
     have c7b0 : decide (a1 < (l0.length : Int)) = true := decide_eq_true c7
     clear c7
     have H' := aM69 H
     clear H
     have p273 : 0 ≤ (a1 : Int) := of_decide_eq_true (by first | (with_reducible assumption) | assumption)
     have q273 : a1 < (l0.length : Int) := of_decide_eq_true (by first | (with_reducible assumption) | assumption)
     obtain ⟨ad273, e273, hx273_0⟩ := Kd.at_int HR0.out a1 p273 q273
     cases e273
     replace hx273_0 := (HB.out.cell (World.block_lt_of_cell? w _ hx273_0)).trans hx273_0
     replace p273 := eq_true p273
     replace q273 := eq_true q273
     go_wp2
     go_meet
     case rel => exact ⟨_, (decide ((rd l0 a1) > 3)), (by first | rfl | (simp; done) | (simp [*]; done)), H', ⟨by first | omega | exact Nat.le_refl _⟩, ⟨by (with_reducible repeat (first | refine bN69 ?_ _ | refine bD69 ?_ | refine bA69 ?_ _)); exact BK272.out⟩, ⟨by repeat (first | (with_reducible first | exact HB.out | apply below_alloc | apply pw_below_drewN | apply below_drew1 | refine bS69 ?_ GE272.out) | exact HB.out)⟩⟩
    ·rw [if_neg c7] at H
     exact absurd H (by simp)
   ·rw [if_neg c6] at H
    exact absurd H (by simp)
 case rest =>
  clear HC3
  try clear p2
  try clear q2
  try clear hx2
  try clear c5
  try clear c5b0
  try clear c6
  try clear c6b0
  try clear c7
  try clear c7b0
  try clear hx273_0
  try clear p273
  try clear q273
  obtain ⟨kq, x21_2, rfl, HA, HJ2, BK272, HB⟩ := hcut
  cases kq with
  | zero => exact absurd HA.out (by simp [hindsightref03_one.j0])
  | succ kj2 =>
   have H := HA.out
   clear HA
   simp only [hindsightref03_one.j0] at H
   by_cases c8 : x21_2 = true
   ·subst c8
    have H1 : (some (0, 0, (⟨#[]⟩ : ByteArray), 0, false)) = some (r1, r2, r3, r4, r5) := by rw [if_pos rfl] at H; exact H
    clear H
    have H := H1
    clear H1
    simp only [Option.some.injEq, Prod.mk.injEq] at H
    obtain ⟨rfl, rfl, rfl, rfl, rfl⟩ := H
    have hcz9_0 : wc.cell? ⟨gb272, 0, none⟩ = some (.int .u8 0) := (blk_cell BK272.out 0).trans rfl
    have hcz9_1 : wc.cell? ⟨gb272, 1, none⟩ = some (.int .i64 0) := (blk_cell BK272.out 1).trans rfl
    have hcz9_2 : wc.cell? ⟨gb272, 2, none⟩ = some (.string (⟨#[]⟩ : ByteArray)) := (blk_cell BK272.out 2).trans rfl
    have hfz9_0 := blk_frozen BK272.out 0
    have hfz9_1 := blk_frozen BK272.out 1
    have hfz9_2 := blk_frozen BK272.out 2
    go_wp2
    refine bodyPost_ret (results_ctt rfl _ _ gb272 35 #[.int .u8 0, .int .i64 0, .string (⟨#[]⟩ : ByteArray)] (0, 0) _ rfl (by (with_reducible repeat (first | refine bN69 ?_ _ | refine bD69 ?_ | refine bA69 ?_ _)); refine blk_put (cs := #[.int .u8 0, .int .i64 0, .string (⟨#[]⟩ : ByteArray)]) ?_ 2 _ rfl; (with_reducible repeat (first | refine bN69 ?_ _ | refine bD69 ?_ | refine bA69 ?_ _)); refine blk_put (cs := #[.int .u8 0, .int .i64 0, .string (⟨#[]⟩ : ByteArray)]) ?_ 1 _ rfl; (with_reducible repeat (first | refine bN69 ?_ _ | refine bD69 ?_ | refine bA69 ?_ _)); refine blk_put (cs := #[.int .u8 0, .int .i64 0, .string (⟨#[]⟩ : ByteArray)]) ?_ 0 _ rfl; (with_reducible repeat (first | refine bN69 ?_ _ | refine bD69 ?_ | refine bA69 ?_ _)); exact BK272.out) Try.underlying35 rfl (by kernel_rfl)) rfl ?_
    exact ⟨by first | rfl | (simp [errW_none, errW_some] <;> rfl) | (simp [*, errW_none, errW_some] <;> rfl), by repeat (first | (with_reducible first | exact HB.out | apply below_alloc | apply pw_below_drewN | apply below_drew1 | refine bS69 ?_ GE272.out) | exact HB.out)⟩
   ·replace c8 := Bool.eq_false_iff.mpr c8
    subst c8
    have H1 : (if 0 ≤ a1 then (if a1 < (l0.length : Int) then (if (rd l0 a1) = 0 then (some (rd l0 a1, 0, (⟨#[]⟩ : ByteArray), wrap64 (a1 + 1), true)) else ((hindsightref01_Get.f kj2 l0 (wrap64 (a1 + 1))).bind fun bt276 => (if bt276.2.2 = 0 then (if (rd l0 a1) = 1 then ((hindsightref01_Zag.f bt276.1).bind fun t279 => (some (rd l0 a1, t279, (⟨#[]⟩ : ByteArray), bt276.2.1, true))) else (if bt276.1 > (IntKind.u64.wrap (wrap64 ((l0.length : Int) - bt276.2.1))) then (some (rd l0 a1, 0, (⟨#[]⟩ : ByteArray), 0, false)) else (if 0 ≤ bt276.2.1 then (if bt276.2.1 ≤ (wrap64 (bt276.2.1 + (wrap64 (bt276.1)))) then (if (wrap64 (bt276.2.1 + (wrap64 (bt276.1)))) ≤ (l0.length : Int) then (some (rd l0 a1, 0, strOfNums ((l0.take ((wrap64 (bt276.2.1 + (wrap64 (bt276.1)))) : Int).toNat).drop (bt276.2.1 : Int).toNat), wrap64 (bt276.2.1 + (wrap64 (bt276.1))), true)) else (none)) else (none)) else (none)))) else (some (rd l0 a1, 0, (⟨#[]⟩ : ByteArray), 0, false))))) else (none)) else (none)) = some (r1, r2, r3, r4, r5) := by rw [if_neg (show ¬ (false = true) by decide)] at H; exact H
    clear H
    have H := H1
    clear H1
    by_cases c10 : 0 ≤ a1
    ·rw [if_pos c10] at H
     have c10b0 : decide (0 ≤ a1) = true := decide_eq_true c10
     clear c10
     by_cases c11 : a1 < (l0.length : Int)
     ·rw [if_pos c11] at H
      have c11b0 : decide (a1 < (l0.length : Int)) = true := decide_eq_true c11
      clear c11
      by_cases c12 : (rd l0 a1) = 0
      ·rw [if_pos c12] at H
       have c12b0 : ((rd l0 a1) == 0) = true := beq_iff_eq.mpr c12
       have c12b1 : ((rd l0 a1) != 0) = false := bne_eq_false_iff_eq.mpr c12
       clear c12
       simp only [Option.some.injEq, Prod.mk.injEq] at H
       obtain ⟨rfl, rfl, rfl, rfl, rfl⟩ := H
       have p274 : 0 ≤ (a1 : Int) := of_decide_eq_true (by first | (with_reducible assumption) | assumption)
       have q274 : a1 < (l0.length : Int) := of_decide_eq_true (by first | (with_reducible assumption) | assumption)
       obtain ⟨ad274, e274, hx274_0⟩ := Kd.at_int HR0.out a1 p274 q274
       cases e274
       replace hx274_0 := (HB.out.cell (World.block_lt_of_cell? w _ hx274_0)).trans hx274_0
       replace p274 := eq_true p274
       replace q274 := eq_true q274
       go_wp2_with (first | ((with_reducible refine gate_dst (N := 7) rfl ?_); refine box_event ?hg (N := 7) ?hd (cs := #[.int .u8 0, .int .i64 0, .string (⟨#[]⟩ : ByteArray)]) (t := 35) ?hr ?_; (case hd => rfl); (case hg => rfl); (case hr => first | (go_simp; done) | (go_simp; rfl)); intro gb275 hg w13 hbox hb; have n0_ := aM69 (blk_below (g := gb272) (o := .cells #[.int .u8 0, .int .i64 0, .string (⟨#[]⟩ : ByteArray)] 35 (0, 0)) (by (with_reducible repeat (first | refine bN69 ?_ _ | refine bD69 ?_ | refine bA69 ?_ _)); exact BK272.out) hb); have n1_ := aM69 (below_step (by repeat (first | (with_reducible first | exact HB.out | apply below_alloc | apply pw_below_drewN | apply below_drew1 | refine bS69 ?_ GE272.out) | exact HB.out)) hb); have n2_ := aM69 (hbox); have n3_ := aM69 ((by rw [hg]; exact (below_size (by repeat (first | (with_reducible first | exact HB.out | apply below_alloc | apply pw_below_drewN | apply below_drew1 | refine bS69 ?_ GE272.out) | exact HB.out))) : w.heap.size ≤ gb275)); have n4_ := aM69 ((by rw [hg]; exact (below_size (by repeat (first | (with_reducible first | exact HB.out | apply below_alloc | apply pw_below_drewN | apply below_drew1 | refine bS69 ?_ GE272.out) | exact HB.out))) : w.heap.size ≤ gb275)); have n5_ := aM69 ((by rw [hg]; exact Nat.ne_of_lt (blk_lt (g := gb272) (o := .cells #[.int .u8 0, .int .i64 0, .string (⟨#[]⟩ : ByteArray)] 35 (0, 0)) (by (with_reducible repeat (first | refine bN69 ?_ _ | refine bD69 ?_ | refine bA69 ?_ _)); exact BK272.out)) : gb272 ≠ gb275)); have n6_ := aM69 ((by rw [hg]; exact Nat.ne_of_gt (blk_lt (g := gb272) (o := .cells #[.int .u8 0, .int .i64 0, .string (⟨#[]⟩ : ByteArray)] 35 (0, 0)) (by (with_reducible repeat (first | refine bN69 ?_ _ | refine bD69 ?_ | refine bA69 ?_ _)); exact BK272.out)) : gb275 ≠ gb272)); clear BK272; clear HB; have BK272 := n0_; have HB := n1_; have BK275 := n2_; have GW275 := n3_; have GE275 := n4_; have NB272_275 := n5_; have NB275_272 := n6_; clear n0_ n1_ n2_ n3_ n4_ n5_ n6_; clear hb hbox hg; have hnb14 := NB275_272.out; have hnc14 := NB272_275.out; have hcz15_0 : w13.cell? ⟨gb275, 0, none⟩ = some (.int .u8 0) := (blk_cell BK275.out 0).trans rfl; have hcz15_1 : w13.cell? ⟨gb275, 1, none⟩ = some (.int .i64 0) := (blk_cell BK275.out 1).trans rfl; have hcz15_2 : w13.cell? ⟨gb275, 2, none⟩ = some (.string (⟨#[]⟩ : ByteArray)) := (blk_cell BK275.out 2).trans rfl; have hfz15_0 := blk_frozen BK275.out 0; have hfz15_1 := blk_frozen BK275.out 1; have hfz15_2 := blk_frozen BK275.out 2; have hcz16_0 : w13.cell? ⟨gb272, 0, none⟩ = some (.int .u8 0) := (blk_cell BK272.out 0).trans rfl; have hcz16_1 : w13.cell? ⟨gb272, 1, none⟩ = some (.int .i64 0) := (blk_cell BK272.out 1).trans rfl; have hcz16_2 : w13.cell? ⟨gb272, 2, none⟩ = some (.string (⟨#[]⟩ : ByteArray)) := (blk_cell BK272.out 2).trans rfl; have hfz16_0 := blk_frozen BK272.out 0; have hfz16_1 := blk_frozen BK272.out 1; have hfz16_2 := blk_frozen BK272.out 2))
       refine bodyPost_ret (results_ctt rfl _ _ gb272 35 #[.int .u8 (rd l0 a1), .int .i64 0, .string (⟨#[]⟩ : ByteArray)] (0, 0) _ rfl (by (with_reducible repeat (first | refine bN69 ?_ _ | refine bD69 ?_ | refine bA69 ?_ _)); refine blk_put (cs := #[.int .u8 (rd l0 a1), .int .i64 0, .string (⟨#[]⟩ : ByteArray)]) ?_ 2 _ rfl; (with_reducible repeat (first | refine bN69 ?_ _ | refine bD69 ?_ | refine bA69 ?_ _)); refine blk_put (cs := #[.int .u8 (rd l0 a1), .int .i64 0, .string (⟨#[]⟩ : ByteArray)]) ?_ 1 _ rfl; (with_reducible repeat (first | refine bN69 ?_ _ | refine bD69 ?_ | refine bA69 ?_ _)); refine blk_put (cs := #[.int .u8 0, .int .i64 0, .string (⟨#[]⟩ : ByteArray)]) ?_ 0 _ rfl; (with_reducible repeat (first | refine bN69 ?_ _ | refine bD69 ?_ | refine bA69 ?_ _ | refine blk_far ?_ NB272_275.out _)); exact BK272.out) Try.underlying35 rfl (by kernel_rfl)) rfl ?_
       exact ⟨by first | rfl | (simp [errW_none, errW_some] <;> rfl) | (simp [*, errW_none, errW_some] <;> rfl), by repeat (first | (with_reducible first | exact HB.out | apply below_alloc | apply pw_below_drewN | apply below_drew1 | refine bS69 ?_ GE272.out | refine bS69 ?_ GE275.out) | exact HB.out)⟩
      ·rw [if_neg c12] at H
       have c12b0 : ((rd l0 a1) == 0) = false := beq_eq_false_iff_ne.mpr c12
       have c12b1 : ((rd l0 a1) != 0) = true := bne_iff_ne.mpr c12
       replace H := Option.bind_eq_some_iff.mp H
       obtain ⟨⟨t276, t277, t278⟩, A170, H⟩ := H
       replace H : (if t278 = 0 then (if (rd l0 a1) = 1 then ((hindsightref01_Zag.f t276).bind fun t279 => (some (rd l0 a1, t279, (⟨#[]⟩ : ByteArray), t277, true))) else (if t276 > (IntKind.u64.wrap (wrap64 ((l0.length : Int) - t277))) then (some (rd l0 a1, 0, (⟨#[]⟩ : ByteArray), 0, false)) else (if 0 ≤ t277 then (if t277 ≤ (wrap64 (t277 + (wrap64 (t276)))) then (if (wrap64 (t277 + (wrap64 (t276)))) ≤ (l0.length : Int) then (some (rd l0 a1, 0, strOfNums ((l0.take ((wrap64 (t277 + (wrap64 (t276)))) : Int).toNat).drop (t277 : Int).toNat), wrap64 (t277 + (wrap64 (t276))), true)) else (none)) else (none)) else (none)))) else (some (rd l0 a1, 0, (⟨#[]⟩ : ByteArray), 0, false))) = some (r1, r2, r3, r4, r5) := H
       have A17 := aM69 A170
       clear A170
       by_cases c18 : t278 = 0
       ·rw [if_pos c18] at H
        have c18b0 : (t278 == 0) = true := beq_iff_eq.mpr c18
        have c18b1 : (t278 != 0) = false := bne_eq_false_iff_eq.mpr c18
        clear c18
        by_cases c19 : (rd l0 a1) = 1
        ·rw [if_pos c19] at H
         have c19b0 : ((rd l0 a1) == 1) = true := beq_iff_eq.mpr c19
         have c19b1 : ((rd l0 a1) != 1) = false := bne_eq_false_iff_eq.mpr c19
         clear c19
         replace H := Option.bind_eq_some_iff.mp H
         obtain ⟨t279, A200, H⟩ := H
         replace H : (some (rd l0 a1, t279, (⟨#[]⟩ : ByteArray), t277, true)) = some (r1, r2, r3, r4, r5) := H
         have A20 := aM69 A200
         clear A200
         simp only [Option.some.injEq, Prod.mk.injEq] at H
         obtain ⟨rfl, rfl, rfl, rfl, rfl⟩ := H
         have p274 : 0 ≤ (a1 : Int) := of_decide_eq_true (by first | (with_reducible assumption) | assumption)
         have q274 : a1 < (l0.length : Int) := of_decide_eq_true (by first | (with_reducible assumption) | assumption)
         obtain ⟨ad274, e274, hx274_0⟩ := Kd.at_int HR0.out a1 p274 q274
         cases e274
         replace hx274_0 := (HB.out.cell (World.block_lt_of_cell? w _ hx274_0)).trans hx274_0
         replace p274 := eq_true p274
         replace q274 := eq_true q274
         go_wp2_with (first | ((with_reducible refine gate_dst (N := 7) rfl ?_); refine box_event ?hg (N := 7) ?hd (cs := #[.int .u8 0, .int .i64 0, .string (⟨#[]⟩ : ByteArray)]) (t := 35) ?hr ?_; (case hd => rfl); (case hg => rfl); (case hr => first | (go_simp; done) | (go_simp; rfl)); intro gb275 hg w21 hbox hb; have n0_ := aM69 (blk_below (g := gb272) (o := .cells #[.int .u8 0, .int .i64 0, .string (⟨#[]⟩ : ByteArray)] 35 (0, 0)) (by (with_reducible repeat (first | refine bN69 ?_ _ | refine bD69 ?_ | refine bA69 ?_ _)); exact BK272.out) hb); have n1_ := aM69 (below_step (by repeat (first | (with_reducible first | exact HB.out | apply below_alloc | apply pw_below_drewN | apply below_drew1 | refine bS69 ?_ GE272.out) | exact HB.out)) hb); have n2_ := aM69 (hbox); have n3_ := aM69 ((by rw [hg]; exact (below_size (by repeat (first | (with_reducible first | exact HB.out | apply below_alloc | apply pw_below_drewN | apply below_drew1 | refine bS69 ?_ GE272.out) | exact HB.out))) : w.heap.size ≤ gb275)); have n4_ := aM69 ((by rw [hg]; exact (below_size (by repeat (first | (with_reducible first | exact HB.out | apply below_alloc | apply pw_below_drewN | apply below_drew1 | refine bS69 ?_ GE272.out) | exact HB.out))) : w.heap.size ≤ gb275)); have n5_ := aM69 ((by rw [hg]; exact Nat.ne_of_lt (blk_lt (g := gb272) (o := .cells #[.int .u8 0, .int .i64 0, .string (⟨#[]⟩ : ByteArray)] 35 (0, 0)) (by (with_reducible repeat (first | refine bN69 ?_ _ | refine bD69 ?_ | refine bA69 ?_ _)); exact BK272.out)) : gb272 ≠ gb275)); have n6_ := aM69 ((by rw [hg]; exact Nat.ne_of_gt (blk_lt (g := gb272) (o := .cells #[.int .u8 0, .int .i64 0, .string (⟨#[]⟩ : ByteArray)] 35 (0, 0)) (by (with_reducible repeat (first | refine bN69 ?_ _ | refine bD69 ?_ | refine bA69 ?_ _)); exact BK272.out)) : gb275 ≠ gb272)); clear BK272; clear HB; have BK272 := n0_; have HB := n1_; have BK275 := n2_; have GW275 := n3_; have GE275 := n4_; have NB272_275 := n5_; have NB275_272 := n6_; clear n0_ n1_ n2_ n3_ n4_ n5_ n6_; clear hb hbox hg; have hnb22 := NB275_272.out; have hnc22 := NB272_275.out; have hcz23_0 : w21.cell? ⟨gb275, 0, none⟩ = some (.int .u8 0) := (blk_cell BK275.out 0).trans rfl; have hcz23_1 : w21.cell? ⟨gb275, 1, none⟩ = some (.int .i64 0) := (blk_cell BK275.out 1).trans rfl; have hcz23_2 : w21.cell? ⟨gb275, 2, none⟩ = some (.string (⟨#[]⟩ : ByteArray)) := (blk_cell BK275.out 2).trans rfl; have hfz23_0 := blk_frozen BK275.out 0; have hfz23_1 := blk_frozen BK275.out 1; have hfz23_2 := blk_frozen BK275.out 2) | ((with_reducible refine gate_store (t := 35) (p := 7) rfl ?_); refine store_event (t := 35) (p := 7) (v := ?vo_w24) (w1 := (((w21.setCell ⟨gb275, 0, none⟩ (.int .u8 (rd l0 a1))).setCell ⟨gb275, 1, none⟩ (.int .i64 0)).setCell ⟨gb275, 2, none⟩ (.string (⟨#[]⟩ : ByteArray)))) ?hg ?ho ?hn ?hr ?_; (case ho => rfl); (case hg => rfl); (case hn => rfl); (case hr => first | (go_simp; done) | (go_simp; rfl)); intro w24 hw; have n0_ : Aside0 (w24.heap[gb272]? = some (.cells #[.int .u8 0, .int .i64 0, .string (⟨#[]⟩ : ByteArray)] 35 (0, 0))) := ⟨(by rw [hw]; exact (by (with_reducible repeat (first | refine bN69 ?_ _ | refine bD69 ?_ | refine bA69 ?_ _ | refine blk_far ?_ NB272_275.out _)); exact BK272.out))⟩; have n1_ : Aside0 (w24.heap[gb275]? = some (.cells #[.int .u8 (rd l0 a1), .int .i64 0, .string (⟨#[]⟩ : ByteArray)] 35 (0, 0))) := ⟨(by rw [hw]; exact (by (with_reducible repeat (first | refine bN69 ?_ _ | refine bD69 ?_ | refine bA69 ?_ _)); refine blk_put (cs := #[.int .u8 (rd l0 a1), .int .i64 0, .string (⟨#[]⟩ : ByteArray)]) ?_ 2 _ rfl; (with_reducible repeat (first | refine bN69 ?_ _ | refine bD69 ?_ | refine bA69 ?_ _)); refine blk_put (cs := #[.int .u8 (rd l0 a1), .int .i64 0, .string (⟨#[]⟩ : ByteArray)]) ?_ 1 _ rfl; (with_reducible repeat (first | refine bN69 ?_ _ | refine bD69 ?_ | refine bA69 ?_ _)); refine blk_put (cs := #[.int .u8 0, .int .i64 0, .string (⟨#[]⟩ : ByteArray)]) ?_ 0 _ rfl; (with_reducible repeat (first | refine bN69 ?_ _ | refine bD69 ?_ | refine bA69 ?_ _)); exact BK275.out))⟩; have n2_ : Aside0 (Below w.heap.size w w24) := ⟨(by rw [hw]; exact (by repeat (first | (with_reducible first | exact HB.out | apply below_alloc | apply pw_below_drewN | apply below_drew1 | refine bS69 ?_ GE272.out | refine bS69 ?_ GE275.out) | exact HB.out)))⟩; clear hw; clear BK272; clear BK275; clear HB; have BK272 := n0_; have BK275 := n1_; have HB := n2_; clear n0_ n1_ n2_; have hcz25_0 : w24.cell? ⟨gb275, 0, none⟩ = some (.int .u8 (rd l0 a1)) := (blk_cell BK275.out 0).trans rfl; have hcz25_1 : w24.cell? ⟨gb275, 1, none⟩ = some (.int .i64 0) := (blk_cell BK275.out 1).trans rfl; have hcz25_2 : w24.cell? ⟨gb275, 2, none⟩ = some (.string (⟨#[]⟩ : ByteArray)) := (blk_cell BK275.out 2).trans rfl; have hfz25_0 := blk_frozen BK275.out 0; have hfz25_1 := blk_frozen BK275.out 1; have hfz25_2 := blk_frozen BK275.out 2) | ((with_reducible refine gate_callee (f := 87) rfl ?_); refine goesL_ (some 38) rfl rfl Try.func87 (by kernel_rfl) rfl #[.slice (some ad274) l0.length c0, .int .i64 (wrap64 (a1 + 1))] rfl (by (try simp only [List.map_toArray, List.map_cons, List.map_nil]); first | done | rfl | (simp only [List.length_drop, List.length_take]; rfl)) ?_; (with_reducible refine (hindsightref01_Get.calls kj2 _ _ l0 (wrap64 (a1 + 1)) t276 t277 t278 _ ?side1 ?side2 A17.out).mono ?_); (case side1 => repeat (first | exact (Kd.C_below HR0.out HB.out) | (with_reducible refine Kd.C_alloc ?_ _) | (with_reducible refine Kd.C_drewN ?_ _) | (with_reducible refine Kd.C_drew ?_))); (case side2 => exact HC0.out); rintro e w' ⟨rfl, ⟨nd, rfl⟩⟩; refine ⟨_, rfl, ?_⟩; (try (rw [drewN_self w24]; generalize hq_ : World.drewN w24 _ = w24; have n0_ : Aside0 (w24.heap[gb272]? = some (.cells #[.int .u8 0, .int .i64 0, .string (⟨#[]⟩ : ByteArray)] 35 (0, 0))) := ⟨by rw [← hq_]; exact (by (with_reducible repeat (first | refine bN69 ?_ _ | refine bD69 ?_ | refine bA69 ?_ _)); exact BK272.out)⟩; have n1_ : Aside0 (w24.heap[gb275]? = some (.cells #[.int .u8 (rd l0 a1), .int .i64 0, .string (⟨#[]⟩ : ByteArray)] 35 (0, 0))) := ⟨by rw [← hq_]; exact (by (with_reducible repeat (first | refine bN69 ?_ _ | refine bD69 ?_ | refine bA69 ?_ _)); exact BK275.out)⟩; have n2_ : Aside0 (Below w.heap.size w w24) := ⟨by rw [← hq_]; exact (by repeat (first | (with_reducible first | exact HB.out | apply below_alloc | apply pw_below_drewN | apply below_drew1 | refine bS69 ?_ GE272.out | refine bS69 ?_ GE275.out) | exact HB.out))⟩; clear BK272 BK275 HB hq_; have BK272 := n0_; have BK275 := n1_; have HB := n2_; clear n0_ n1_ n2_)); have hcz26_0 : w24.cell? ⟨gb275, 0, none⟩ = some (.int .u8 (rd l0 a1)) := (blk_cell BK275.out 0).trans rfl; have hcz26_1 : w24.cell? ⟨gb275, 1, none⟩ = some (.int .i64 0) := (blk_cell BK275.out 1).trans rfl; have hcz26_2 : w24.cell? ⟨gb275, 2, none⟩ = some (.string (⟨#[]⟩ : ByteArray)) := (blk_cell BK275.out 2).trans rfl; have hfz26_0 := blk_frozen BK275.out 0; have hfz26_1 := blk_frozen BK275.out 1; have hfz26_2 := blk_frozen BK275.out 2) | ((with_reducible refine gate_callee (f := 88) rfl ?_); refine goesL_ (some 49) rfl rfl Try.func88 (by kernel_rfl) rfl #[.int .u64 t276] rfl (by (try simp only [List.map_toArray, List.map_cons, List.map_nil]); first | done | rfl | (simp only [List.length_drop, List.length_take]; rfl)) ?_; (with_reducible refine (hindsightref01_Zag.calls t276 t279 _ A20.out).mono ?_); rintro e w' ⟨rfl, ⟨nd, rfl⟩⟩; refine ⟨_, rfl, ?_⟩; (try (rw [drewN_self w24]; generalize hq_ : World.drewN w24 _ = w24; have n0_ : Aside0 (w24.heap[gb272]? = some (.cells #[.int .u8 0, .int .i64 0, .string (⟨#[]⟩ : ByteArray)] 35 (0, 0))) := ⟨by rw [← hq_]; exact (by (with_reducible repeat (first | refine bN69 ?_ _ | refine bD69 ?_ | refine bA69 ?_ _)); exact BK272.out)⟩; have n1_ : Aside0 (w24.heap[gb275]? = some (.cells #[.int .u8 (rd l0 a1), .int .i64 0, .string (⟨#[]⟩ : ByteArray)] 35 (0, 0))) := ⟨by rw [← hq_]; exact (by (with_reducible repeat (first | refine bN69 ?_ _ | refine bD69 ?_ | refine bA69 ?_ _)); exact BK275.out)⟩; have n2_ : Aside0 (Below w.heap.size w w24) := ⟨by rw [← hq_]; exact (by repeat (first | (with_reducible first | exact HB.out | apply below_alloc | apply pw_below_drewN | apply below_drew1 | refine bS69 ?_ GE272.out | refine bS69 ?_ GE275.out) | exact HB.out))⟩; clear BK272 BK275 HB hq_; have BK272 := n0_; have BK275 := n1_; have HB := n2_; clear n0_ n1_ n2_)); have hcz27_0 : w24.cell? ⟨gb275, 0, none⟩ = some (.int .u8 (rd l0 a1)) := (blk_cell BK275.out 0).trans rfl; have hcz27_1 : w24.cell? ⟨gb275, 1, none⟩ = some (.int .i64 0) := (blk_cell BK275.out 1).trans rfl; have hcz27_2 : w24.cell? ⟨gb275, 2, none⟩ = some (.string (⟨#[]⟩ : ByteArray)) := (blk_cell BK275.out 2).trans rfl; have hfz27_0 := blk_frozen BK275.out 0; have hfz27_1 := blk_frozen BK275.out 1; have hfz27_2 := blk_frozen BK275.out 2; have hcz28_0 : w24.cell? ⟨gb272, 0, none⟩ = some (.int .u8 0) := (blk_cell BK272.out 0).trans rfl; have hcz28_1 : w24.cell? ⟨gb272, 1, none⟩ = some (.int .i64 0) := (blk_cell BK272.out 1).trans rfl; have hcz28_2 : w24.cell? ⟨gb272, 2, none⟩ = some (.string (⟨#[]⟩ : ByteArray)) := (blk_cell BK272.out 2).trans rfl; have hfz28_0 := blk_frozen BK272.out 0; have hfz28_1 := blk_frozen BK272.out 1; have hfz28_2 := blk_frozen BK272.out 2))
         refine bodyPost_ret (results_ctt rfl _ _ gb272 35 #[.int .u8 (rd l0 a1), .int .i64 t279, .string (⟨#[]⟩ : ByteArray)] (0, 0) _ rfl (by (with_reducible repeat (first | refine bN69 ?_ _ | refine bD69 ?_ | refine bA69 ?_ _)); refine blk_put (cs := #[.int .u8 (rd l0 a1), .int .i64 t279, .string (⟨#[]⟩ : ByteArray)]) ?_ 2 _ rfl; (with_reducible repeat (first | refine bN69 ?_ _ | refine bD69 ?_ | refine bA69 ?_ _)); refine blk_put (cs := #[.int .u8 (rd l0 a1), .int .i64 0, .string (⟨#[]⟩ : ByteArray)]) ?_ 1 _ rfl; (with_reducible repeat (first | refine bN69 ?_ _ | refine bD69 ?_ | refine bA69 ?_ _)); refine blk_put (cs := #[.int .u8 0, .int .i64 0, .string (⟨#[]⟩ : ByteArray)]) ?_ 0 _ rfl; (with_reducible repeat (first | refine bN69 ?_ _ | refine bD69 ?_ | refine bA69 ?_ _ | refine blk_far ?_ NB272_275.out _)); exact BK272.out) Try.underlying35 rfl (by kernel_rfl)) rfl ?_
         exact ⟨by first | rfl | (simp [errW_none, errW_some] <;> rfl) | (simp [*, errW_none, errW_some] <;> rfl), by repeat (first | (with_reducible first | exact HB.out | apply below_alloc | apply pw_below_drewN | apply below_drew1 | refine bS69 ?_ GE272.out | refine bS69 ?_ GE275.out) | exact HB.out)⟩
        ·rw [if_neg c19] at H
         have c19b0 : ((rd l0 a1) == 1) = false := beq_eq_false_iff_ne.mpr c19
         have c19b1 : ((rd l0 a1) != 1) = true := bne_iff_ne.mpr c19
         by_cases c29 : t276 > (IntKind.u64.wrap (wrap64 ((l0.length : Int) - t277)))
         ·rw [if_pos c29] at H
          have c29b0 : decide ((IntKind.u64.wrap (wrap64 ((l0.length : Int) - t277))) < t276) = true := decide_eq_true c29
          clear c29
          simp only [Option.some.injEq, Prod.mk.injEq] at H
          obtain ⟨rfl, rfl, rfl, rfl, rfl⟩ := H
          have p274 : 0 ≤ (a1 : Int) := of_decide_eq_true (by first | (with_reducible assumption) | assumption)
          have q274 : a1 < (l0.length : Int) := of_decide_eq_true (by first | (with_reducible assumption) | assumption)
          obtain ⟨ad274, e274, hx274_0⟩ := Kd.at_int HR0.out a1 p274 q274
          cases e274
          replace hx274_0 := (HB.out.cell (World.block_lt_of_cell? w _ hx274_0)).trans hx274_0
          replace p274 := eq_true p274
          replace q274 := eq_true q274
          go_wp2_with (first | ((with_reducible refine gate_dst (N := 7) rfl ?_); refine box_event ?hg (N := 7) ?hd (cs := #[.int .u8 0, .int .i64 0, .string (⟨#[]⟩ : ByteArray)]) (t := 35) ?hr ?_; (case hd => rfl); (case hg => rfl); (case hr => first | (go_simp; done) | (go_simp; rfl)); intro gb275 hg w30 hbox hb; have n0_ := aM69 (blk_below (g := gb272) (o := .cells #[.int .u8 0, .int .i64 0, .string (⟨#[]⟩ : ByteArray)] 35 (0, 0)) (by (with_reducible repeat (first | refine bN69 ?_ _ | refine bD69 ?_ | refine bA69 ?_ _)); exact BK272.out) hb); have n1_ := aM69 (below_step (by repeat (first | (with_reducible first | exact HB.out | apply below_alloc | apply pw_below_drewN | apply below_drew1 | refine bS69 ?_ GE272.out) | exact HB.out)) hb); have n2_ := aM69 (hbox); have n3_ := aM69 ((by rw [hg]; exact (below_size (by repeat (first | (with_reducible first | exact HB.out | apply below_alloc | apply pw_below_drewN | apply below_drew1 | refine bS69 ?_ GE272.out) | exact HB.out))) : w.heap.size ≤ gb275)); have n4_ := aM69 ((by rw [hg]; exact (below_size (by repeat (first | (with_reducible first | exact HB.out | apply below_alloc | apply pw_below_drewN | apply below_drew1 | refine bS69 ?_ GE272.out) | exact HB.out))) : w.heap.size ≤ gb275)); have n5_ := aM69 ((by rw [hg]; exact Nat.ne_of_lt (blk_lt (g := gb272) (o := .cells #[.int .u8 0, .int .i64 0, .string (⟨#[]⟩ : ByteArray)] 35 (0, 0)) (by (with_reducible repeat (first | refine bN69 ?_ _ | refine bD69 ?_ | refine bA69 ?_ _)); exact BK272.out)) : gb272 ≠ gb275)); have n6_ := aM69 ((by rw [hg]; exact Nat.ne_of_gt (blk_lt (g := gb272) (o := .cells #[.int .u8 0, .int .i64 0, .string (⟨#[]⟩ : ByteArray)] 35 (0, 0)) (by (with_reducible repeat (first | refine bN69 ?_ _ | refine bD69 ?_ | refine bA69 ?_ _)); exact BK272.out)) : gb275 ≠ gb272)); clear BK272; clear HB; have BK272 := n0_; have HB := n1_; have BK275 := n2_; have GW275 := n3_; have GE275 := n4_; have NB272_275 := n5_; have NB275_272 := n6_; clear n0_ n1_ n2_ n3_ n4_ n5_ n6_; clear hb hbox hg; have hnb31 := NB275_272.out; have hnc31 := NB272_275.out; have hcz32_0 : w30.cell? ⟨gb275, 0, none⟩ = some (.int .u8 0) := (blk_cell BK275.out 0).trans rfl; have hcz32_1 : w30.cell? ⟨gb275, 1, none⟩ = some (.int .i64 0) := (blk_cell BK275.out 1).trans rfl; have hcz32_2 : w30.cell? ⟨gb275, 2, none⟩ = some (.string (⟨#[]⟩ : ByteArray)) := (blk_cell BK275.out 2).trans rfl; have hfz32_0 := blk_frozen BK275.out 0; have hfz32_1 := blk_frozen BK275.out 1; have hfz32_2 := blk_frozen BK275.out 2) | ((with_reducible refine gate_callee (f := 87) rfl ?_); refine goesL_ (some 38) rfl rfl Try.func87 (by kernel_rfl) rfl #[.slice (some ad274) l0.length c0, .int .i64 (wrap64 (a1 + 1))] rfl (by (try simp only [List.map_toArray, List.map_cons, List.map_nil]); first | done | rfl | (simp only [List.length_drop, List.length_take]; rfl)) ?_; (with_reducible refine (hindsightref01_Get.calls kj2 _ _ l0 (wrap64 (a1 + 1)) t276 t277 t278 _ ?side1 ?side2 A17.out).mono ?_); (case side1 => exact Kd.C_below HR0.out (by repeat (first | (with_reducible first | exact HB.out | apply below_alloc | apply pw_below_drewN | apply below_drew1 | refine bS69 ?_ GE272.out | refine bS69 ?_ GE275.out) | exact HB.out))); (case side2 => exact HC0.out); rintro e w' ⟨rfl, ⟨nd, rfl⟩⟩; refine ⟨_, rfl, ?_⟩; have hcz33_0 : w30.cell? ⟨gb272, 0, none⟩ = some (.int .u8 0) := (blk_cell BK272.out 0).trans rfl; have hcz33_1 : w30.cell? ⟨gb272, 1, none⟩ = some (.int .i64 0) := (blk_cell BK272.out 1).trans rfl; have hcz33_2 : w30.cell? ⟨gb272, 2, none⟩ = some (.string (⟨#[]⟩ : ByteArray)) := (blk_cell BK272.out 2).trans rfl; have hfz33_0 := blk_frozen BK272.out 0; have hfz33_1 := blk_frozen BK272.out 1; have hfz33_2 := blk_frozen BK272.out 2))
          refine bodyPost_ret (results_ctt rfl _ _ gb272 35 #[.int .u8 (rd l0 a1), .int .i64 0, .string (⟨#[]⟩ : ByteArray)] (0, 0) _ rfl (by (with_reducible repeat (first | refine bN69 ?_ _ | refine bD69 ?_ | refine bA69 ?_ _)); refine blk_put (cs := #[.int .u8 (rd l0 a1), .int .i64 0, .string (⟨#[]⟩ : ByteArray)]) ?_ 2 _ rfl; (with_reducible repeat (first | refine bN69 ?_ _ | refine bD69 ?_ | refine bA69 ?_ _)); refine blk_put (cs := #[.int .u8 (rd l0 a1), .int .i64 0, .string (⟨#[]⟩ : ByteArray)]) ?_ 1 _ rfl; (with_reducible repeat (first | refine bN69 ?_ _ | refine bD69 ?_ | refine bA69 ?_ _)); refine blk_put (cs := #[.int .u8 0, .int .i64 0, .string (⟨#[]⟩ : ByteArray)]) ?_ 0 _ rfl; (with_reducible repeat (first | refine bN69 ?_ _ | refine bD69 ?_ | refine bA69 ?_ _ | refine blk_far ?_ NB272_275.out _)); exact BK272.out) Try.underlying35 rfl (by kernel_rfl)) rfl ?_
          exact ⟨by first | rfl | (simp [errW_none, errW_some] <;> rfl) | (simp [*, errW_none, errW_some] <;> rfl), by repeat (first | (with_reducible first | exact HB.out | apply below_alloc | apply pw_below_drewN | apply below_drew1 | refine bS69 ?_ GE272.out | refine bS69 ?_ GE275.out) | exact HB.out)⟩
         ·rw [if_neg c29] at H
          have c29b0 : decide ((IntKind.u64.wrap (wrap64 ((l0.length : Int) - t277))) < t276) = false := decide_eq_false c29
          clear c29
          by_cases c34 : 0 ≤ t277
          ·rw [if_pos c34] at H
           have c34b0 := eq_true c34
           have c34b1 : decide (0 ≤ t277) = true := decide_eq_true c34
           clear c34
           by_cases c35 : t277 ≤ (wrap64 (t277 + (wrap64 (t276))))
           ·rw [if_pos c35] at H
            have c35b0 := eq_true c35
            have c35b1 : decide (t277 ≤ (wrap64 (t277 + (wrap64 (t276))))) = true := decide_eq_true c35
            by_cases c36 : (wrap64 (t277 + (wrap64 (t276)))) ≤ (l0.length : Int)
            ·rw [if_pos c36] at H
             have c36b0 := eq_true c36
             have c36b1 : decide ((wrap64 (t277 + (wrap64 (t276)))) ≤ (l0.length : Int)) = true := decide_eq_true c36
             obtain ⟨y280, hy280⟩ : ∃ y_ : List Int, y_ = ((l0.take ((wrap64 (t277 + (wrap64 (t276)))) : Int).toNat).drop (t277 : Int).toNat) := ⟨_, rfl⟩
             replace H : (some (rd l0 a1, 0, strOfNums y280, wrap64 (t277 + (wrap64 (t276))), true)) = some (r1, r2, r3, r4, r5) := by first | (rw [hy280]; with_reducible exact H) | (have H2_ := (Option.bind_some _ _).symm.trans H; rw [hy280]; with_reducible exact H2_) | (have H2_ := (Option.bind_some _ _).symm.trans H; with_reducible exact H2_) | with_reducible exact H | (rw [hy280]; exact H) | exact H
             have Ny280 := aM69 hy280
             clear hy280
             simp only [Option.some.injEq, Prod.mk.injEq] at H
             obtain ⟨rfl, rfl, rfl, rfl, rfl⟩ := H
             have p274 : 0 ≤ (a1 : Int) := of_decide_eq_true (by first | (with_reducible assumption) | assumption)
             have q274 : a1 < (l0.length : Int) := of_decide_eq_true (by first | (with_reducible assumption) | assumption)
             obtain ⟨ad274, e274, hx274_0⟩ := Kd.at_int HR0.out a1 p274 q274
             cases e274
             replace hx274_0 := (HB.out.cell (World.block_lt_of_cell? w _ hx274_0)).trans hx274_0
             replace p274 := eq_true p274
             replace q274 := eq_true q274
             go_wp2_with (first | ((with_reducible refine gate_dst (N := 7) rfl ?_); refine box_event ?hg (N := 7) ?hd (cs := #[.int .u8 0, .int .i64 0, .string (⟨#[]⟩ : ByteArray)]) (t := 35) ?hr ?_; (case hd => rfl); (case hg => rfl); (case hr => first | (go_simp; done) | (go_simp; rfl)); intro gb275 hg w37 hbox hb; have n0_ := aM69 (blk_below (g := gb272) (o := .cells #[.int .u8 0, .int .i64 0, .string (⟨#[]⟩ : ByteArray)] 35 (0, 0)) (by (with_reducible repeat (first | refine bN69 ?_ _ | refine bD69 ?_ | refine bA69 ?_ _)); exact BK272.out) hb); have n1_ := aM69 (below_step (by repeat (first | (with_reducible first | exact HB.out | apply below_alloc | apply pw_below_drewN | apply below_drew1 | refine bS69 ?_ GE272.out) | exact HB.out)) hb); have n2_ := aM69 (hbox); have n3_ := aM69 ((by rw [hg]; exact (below_size (by repeat (first | (with_reducible first | exact HB.out | apply below_alloc | apply pw_below_drewN | apply below_drew1 | refine bS69 ?_ GE272.out) | exact HB.out))) : w.heap.size ≤ gb275)); have n4_ := aM69 ((by rw [hg]; exact (below_size (by repeat (first | (with_reducible first | exact HB.out | apply below_alloc | apply pw_below_drewN | apply below_drew1 | refine bS69 ?_ GE272.out) | exact HB.out))) : w.heap.size ≤ gb275)); have n5_ := aM69 ((by rw [hg]; exact Nat.ne_of_lt (blk_lt (g := gb272) (o := .cells #[.int .u8 0, .int .i64 0, .string (⟨#[]⟩ : ByteArray)] 35 (0, 0)) (by (with_reducible repeat (first | refine bN69 ?_ _ | refine bD69 ?_ | refine bA69 ?_ _)); exact BK272.out)) : gb272 ≠ gb275)); have n6_ := aM69 ((by rw [hg]; exact Nat.ne_of_gt (blk_lt (g := gb272) (o := .cells #[.int .u8 0, .int .i64 0, .string (⟨#[]⟩ : ByteArray)] 35 (0, 0)) (by (with_reducible repeat (first | refine bN69 ?_ _ | refine bD69 ?_ | refine bA69 ?_ _)); exact BK272.out)) : gb275 ≠ gb272)); clear BK272; clear HB; have BK272 := n0_; have HB := n1_; have BK275 := n2_; have GW275 := n3_; have GE275 := n4_; have NB272_275 := n5_; have NB275_272 := n6_; clear n0_ n1_ n2_ n3_ n4_ n5_ n6_; clear hb hbox hg; have hnb38 := NB275_272.out; have hnc38 := NB272_275.out; have hcz39_0 : w37.cell? ⟨gb275, 0, none⟩ = some (.int .u8 0) := (blk_cell BK275.out 0).trans rfl; have hcz39_1 : w37.cell? ⟨gb275, 1, none⟩ = some (.int .i64 0) := (blk_cell BK275.out 1).trans rfl; have hcz39_2 : w37.cell? ⟨gb275, 2, none⟩ = some (.string (⟨#[]⟩ : ByteArray)) := (blk_cell BK275.out 2).trans rfl; have hfz39_0 := blk_frozen BK275.out 0; have hfz39_1 := blk_frozen BK275.out 1; have hfz39_2 := blk_frozen BK275.out 2) | ((with_reducible refine gate_store (t := 35) (p := 7) rfl ?_); refine store_event (t := 35) (p := 7) (v := ?vo_w40) (w1 := (((w37.setCell ⟨gb275, 0, none⟩ (.int .u8 (rd l0 a1))).setCell ⟨gb275, 1, none⟩ (.int .i64 0)).setCell ⟨gb275, 2, none⟩ (.string (⟨#[]⟩ : ByteArray)))) ?hg ?ho ?hn ?hr ?_; (case ho => rfl); (case hg => rfl); (case hn => rfl); (case hr => first | (go_simp; done) | (go_simp; rfl)); intro w40 hw; have n0_ : Aside0 (w40.heap[gb272]? = some (.cells #[.int .u8 0, .int .i64 0, .string (⟨#[]⟩ : ByteArray)] 35 (0, 0))) := ⟨(by rw [hw]; exact (by (with_reducible repeat (first | refine bN69 ?_ _ | refine bD69 ?_ | refine bA69 ?_ _ | refine blk_far ?_ NB272_275.out _)); exact BK272.out))⟩; have n1_ : Aside0 (w40.heap[gb275]? = some (.cells #[.int .u8 (rd l0 a1), .int .i64 0, .string (⟨#[]⟩ : ByteArray)] 35 (0, 0))) := ⟨(by rw [hw]; exact (by (with_reducible repeat (first | refine bN69 ?_ _ | refine bD69 ?_ | refine bA69 ?_ _)); refine blk_put (cs := #[.int .u8 (rd l0 a1), .int .i64 0, .string (⟨#[]⟩ : ByteArray)]) ?_ 2 _ rfl; (with_reducible repeat (first | refine bN69 ?_ _ | refine bD69 ?_ | refine bA69 ?_ _)); refine blk_put (cs := #[.int .u8 (rd l0 a1), .int .i64 0, .string (⟨#[]⟩ : ByteArray)]) ?_ 1 _ rfl; (with_reducible repeat (first | refine bN69 ?_ _ | refine bD69 ?_ | refine bA69 ?_ _)); refine blk_put (cs := #[.int .u8 0, .int .i64 0, .string (⟨#[]⟩ : ByteArray)]) ?_ 0 _ rfl; (with_reducible repeat (first | refine bN69 ?_ _ | refine bD69 ?_ | refine bA69 ?_ _)); exact BK275.out))⟩; have n2_ : Aside0 (Below w.heap.size w w40) := ⟨(by rw [hw]; exact (by repeat (first | (with_reducible first | exact HB.out | apply below_alloc | apply pw_below_drewN | apply below_drew1 | refine bS69 ?_ GE272.out | refine bS69 ?_ GE275.out) | exact HB.out)))⟩; clear hw; clear BK272; clear BK275; clear HB; have BK272 := n0_; have BK275 := n1_; have HB := n2_; clear n0_ n1_ n2_; have hcz41_0 : w40.cell? ⟨gb275, 0, none⟩ = some (.int .u8 (rd l0 a1)) := (blk_cell BK275.out 0).trans rfl; have hcz41_1 : w40.cell? ⟨gb275, 1, none⟩ = some (.int .i64 0) := (blk_cell BK275.out 1).trans rfl; have hcz41_2 : w40.cell? ⟨gb275, 2, none⟩ = some (.string (⟨#[]⟩ : ByteArray)) := (blk_cell BK275.out 2).trans rfl; have hfz41_0 := blk_frozen BK275.out 0; have hfz41_1 := blk_frozen BK275.out 1; have hfz41_2 := blk_frozen BK275.out 2) | ((with_reducible refine gate_callee (f := 87) rfl ?_); refine goesL_ (some 38) rfl rfl Try.func87 (by kernel_rfl) rfl #[.slice (some ad274) l0.length c0, .int .i64 (wrap64 (a1 + 1))] rfl (by (try simp only [List.map_toArray, List.map_cons, List.map_nil]); first | done | rfl | (simp only [List.length_drop, List.length_take]; rfl)) ?_; (with_reducible refine (hindsightref01_Get.calls kj2 _ _ l0 (wrap64 (a1 + 1)) t276 t277 t278 _ ?side1 ?side2 A17.out).mono ?_); (case side1 => repeat (first | exact (Kd.C_below HR0.out HB.out) | (with_reducible refine Kd.C_alloc ?_ _) | (with_reducible refine Kd.C_drewN ?_ _) | (with_reducible refine Kd.C_drew ?_))); (case side2 => exact HC0.out); rintro e w' ⟨rfl, ⟨nd, rfl⟩⟩; refine ⟨_, rfl, ?_⟩; (try (rw [drewN_self w40]; generalize hq_ : World.drewN w40 _ = w40; have n0_ : Aside0 (w40.heap[gb272]? = some (.cells #[.int .u8 0, .int .i64 0, .string (⟨#[]⟩ : ByteArray)] 35 (0, 0))) := ⟨by rw [← hq_]; exact (by (with_reducible repeat (first | refine bN69 ?_ _ | refine bD69 ?_ | refine bA69 ?_ _)); exact BK272.out)⟩; have n1_ : Aside0 (w40.heap[gb275]? = some (.cells #[.int .u8 (rd l0 a1), .int .i64 0, .string (⟨#[]⟩ : ByteArray)] 35 (0, 0))) := ⟨by rw [← hq_]; exact (by (with_reducible repeat (first | refine bN69 ?_ _ | refine bD69 ?_ | refine bA69 ?_ _)); exact BK275.out)⟩; have n2_ : Aside0 (Below w.heap.size w w40) := ⟨by rw [← hq_]; exact (by repeat (first | (with_reducible first | exact HB.out | apply below_alloc | apply pw_below_drewN | apply below_drew1 | refine bS69 ?_ GE272.out | refine bS69 ?_ GE275.out) | exact HB.out))⟩; clear BK272 BK275 HB hq_; have BK272 := n0_; have BK275 := n1_; have HB := n2_; clear n0_ n1_ n2_)); have hcz42_0 : w40.cell? ⟨gb275, 0, none⟩ = some (.int .u8 (rd l0 a1)) := (blk_cell BK275.out 0).trans rfl; have hcz42_1 : w40.cell? ⟨gb275, 1, none⟩ = some (.int .i64 0) := (blk_cell BK275.out 1).trans rfl; have hcz42_2 : w40.cell? ⟨gb275, 2, none⟩ = some (.string (⟨#[]⟩ : ByteArray)) := (blk_cell BK275.out 2).trans rfl; have hfz42_0 := blk_frozen BK275.out 0; have hfz42_1 := blk_frozen BK275.out 1; have hfz42_2 := blk_frozen BK275.out 2; have q43 : ((wrap64 (t277 + (wrap64 (t276)))) : Int) ≤ ((l0.length : Int) : Int) := of_decide_eq_true (by first | (with_reducible assumption) | assumption); obtain ⟨i043, hi043, _, hsz43, _⟩ := info_parts info5; have hroom43 : l0.length ≤ c0 := HC0.out; have hC43 : Kd.C (Kd.int .u8) _ (some ad274) l0.length l0 := HR0.out; have ql43 : (t277 : Int) ≤ ((wrap64 (t277 + (wrap64 (t276)))) : Int) := of_decide_eq_true (by first | (with_reducible assumption) | assumption); have q043 : (0 : Int) ≤ (t277 : Int) := of_decide_eq_true (by first | (with_reducible assumption) | assumption); have hcut43 := cut_mid (P := Try.prog) 23 5 .i64 .i64 Try.underlying23 hi043 1 hsz43 (some ad274) l0.length c0 t277 (wrap64 (t277 + (wrap64 (t276)))) q043 ql43 q43 hroom43; have hr43 := Kd.C_mid (lo := (t277 : Int).toNat) (hi := ((wrap64 (t277 + (wrap64 (t276)))) : Int).toNat) (c := c0) hC43 (by omega) (by omega) hroom43; obtain ⟨A43, hA43⟩ : ∃ A1, A1 = (if c0 = (t277 : Int).toNat then (some ad274) else ((some ad274) : Option Addr).map (·.add ((t277 : Int).toNat * 1))) := ⟨_, rfl⟩; obtain ⟨c43, hc43⟩ : ∃ c1, c1 = c0 - (t277 : Int).toNat := ⟨_, rfl⟩; have hy43 : y280.length = ((wrap64 (t277 + (wrap64 (t276)))) : Int).toNat - (t277 : Int).toNat := (by rw [Ny280.out, List.length_drop, List.length_take] <;> omega); rw [show ((l0).take ((wrap64 (t277 + (wrap64 (t276)))) : Int).toNat).drop (t277 : Int).toNat = y280 from Ny280.out.symm] at hr43; replace hr43 : Kd.C (Kd.int .u8) _ A43 y280.length y280 := (by rw [hA43]; exact hr43); rw [← hy43, ← hA43, ← hc43] at hcut43; have HR283 := aM69 hr43; have HC283 := aM69 (show y280.length ≤ c43 from by rw [hy43, hc43]; exact Nat.sub_le_sub_right (Nat.le_trans (by omega) hroom43) _); clear hr43 hC43 hroom43 hi043 hsz43 hc43; have KY43 := aM69 hy43; have KA43 := aM69 hA43; clear hy43 hA43; replace q43 := eq_true q43; have hcv44 := Kd.C_string (P := Try.prog) (A := A43) (c := c43) Try.underlying23 Try.underlying5 Try.underlying9 (Kd.C_below HR283.out HB.out); (try have hcv45 := fun m_ : Nat => Kd.C_string (P := Try.prog) (A := A43) (c := c43) Try.underlying23 Try.underlying5 Try.underlying9 (Kd.C_drewN (Kd.C_below HR283.out HB.out) m_)); have hcz46_0 : w40.cell? ⟨gb272, 0, none⟩ = some (.int .u8 0) := (blk_cell BK272.out 0).trans rfl; have hcz46_1 : w40.cell? ⟨gb272, 1, none⟩ = some (.int .i64 0) := (blk_cell BK272.out 1).trans rfl; have hcz46_2 : w40.cell? ⟨gb272, 2, none⟩ = some (.string (⟨#[]⟩ : ByteArray)) := (blk_cell BK272.out 2).trans rfl; have hfz46_0 := blk_frozen BK272.out 0; have hfz46_1 := blk_frozen BK272.out 1; have hfz46_2 := blk_frozen BK272.out 2))
             refine bodyPost_ret (results_ctt rfl _ _ gb272 35 #[.int .u8 (rd l0 a1), .int .i64 0, .string (strOfNums y280)] (0, 0) _ rfl (by (with_reducible repeat (first | refine bN69 ?_ _ | refine bD69 ?_ | refine bA69 ?_ _)); refine blk_put (cs := #[.int .u8 (rd l0 a1), .int .i64 0, .string (⟨#[]⟩ : ByteArray)]) ?_ 2 _ rfl; (with_reducible repeat (first | refine bN69 ?_ _ | refine bD69 ?_ | refine bA69 ?_ _)); refine blk_put (cs := #[.int .u8 (rd l0 a1), .int .i64 0, .string (⟨#[]⟩ : ByteArray)]) ?_ 1 _ rfl; (with_reducible repeat (first | refine bN69 ?_ _ | refine bD69 ?_ | refine bA69 ?_ _)); refine blk_put (cs := #[.int .u8 0, .int .i64 0, .string (⟨#[]⟩ : ByteArray)]) ?_ 0 _ rfl; (with_reducible repeat (first | refine bN69 ?_ _ | refine bD69 ?_ | refine bA69 ?_ _ | refine blk_far ?_ NB272_275.out _)); exact BK272.out) Try.underlying35 rfl (by kernel_rfl)) rfl ?_
             exact ⟨by first | rfl | (simp [errW_none, errW_some] <;> rfl) | (simp [*, errW_none, errW_some] <;> rfl), by repeat (first | (with_reducible first | exact HB.out | apply below_alloc | apply pw_below_drewN | apply below_drew1 | refine bS69 ?_ GE272.out | refine bS69 ?_ GE275.out) | exact HB.out)⟩
            ·rw [if_neg c36] at H
             exact absurd H (by simp)
           ·rw [if_neg c35] at H
            exact absurd H (by simp)
          ·rw [if_neg c34] at H
           exact absurd H (by simp)
       ·rw [if_neg c18] at H
        have c18b0 : (t278 == 0) = false := beq_eq_false_iff_ne.mpr c18
        have c18b1 : (t278 != 0) = true := bne_iff_ne.mpr c18
        simp only [Option.some.injEq, Prod.mk.injEq] at H
        obtain ⟨rfl, rfl, rfl, rfl, rfl⟩ := H
        have p274 : 0 ≤ (a1 : Int) := of_decide_eq_true (by first | (with_reducible assumption) | assumption)
        have q274 : a1 < (l0.length : Int) := of_decide_eq_true (by first | (with_reducible assumption) | assumption)
        obtain ⟨ad274, e274, hx274_0⟩ := Kd.at_int HR0.out a1 p274 q274
        cases e274
        replace hx274_0 := (HB.out.cell (World.block_lt_of_cell? w _ hx274_0)).trans hx274_0
        replace p274 := eq_true p274
        replace q274 := eq_true q274
        go_wp2_with (first | ((with_reducible refine gate_dst (N := 7) rfl ?_); refine box_event ?hg (N := 7) ?hd (cs := #[.int .u8 0, .int .i64 0, .string (⟨#[]⟩ : ByteArray)]) (t := 35) ?hr ?_; (case hd => rfl); (case hg => rfl); (case hr => first | (go_simp; done) | (go_simp; rfl)); intro gb275 hg w47 hbox hb; have n0_ := aM69 (blk_below (g := gb272) (o := .cells #[.int .u8 0, .int .i64 0, .string (⟨#[]⟩ : ByteArray)] 35 (0, 0)) (by (with_reducible repeat (first | refine bN69 ?_ _ | refine bD69 ?_ | refine bA69 ?_ _)); exact BK272.out) hb); have n1_ := aM69 (below_step (by repeat (first | (with_reducible first | exact HB.out | apply below_alloc | apply pw_below_drewN | apply below_drew1 | refine bS69 ?_ GE272.out) | exact HB.out)) hb); have n2_ := aM69 (hbox); have n3_ := aM69 ((by rw [hg]; exact (below_size (by repeat (first | (with_reducible first | exact HB.out | apply below_alloc | apply pw_below_drewN | apply below_drew1 | refine bS69 ?_ GE272.out) | exact HB.out))) : w.heap.size ≤ gb275)); have n4_ := aM69 ((by rw [hg]; exact (below_size (by repeat (first | (with_reducible first | exact HB.out | apply below_alloc | apply pw_below_drewN | apply below_drew1 | refine bS69 ?_ GE272.out) | exact HB.out))) : w.heap.size ≤ gb275)); have n5_ := aM69 ((by rw [hg]; exact Nat.ne_of_lt (blk_lt (g := gb272) (o := .cells #[.int .u8 0, .int .i64 0, .string (⟨#[]⟩ : ByteArray)] 35 (0, 0)) (by (with_reducible repeat (first | refine bN69 ?_ _ | refine bD69 ?_ | refine bA69 ?_ _)); exact BK272.out)) : gb272 ≠ gb275)); have n6_ := aM69 ((by rw [hg]; exact Nat.ne_of_gt (blk_lt (g := gb272) (o := .cells #[.int .u8 0, .int .i64 0, .string (⟨#[]⟩ : ByteArray)] 35 (0, 0)) (by (with_reducible repeat (first | refine bN69 ?_ _ | refine bD69 ?_ | refine bA69 ?_ _)); exact BK272.out)) : gb275 ≠ gb272)); clear BK272; clear HB; have BK272 := n0_; have HB := n1_; have BK275 := n2_; have GW275 := n3_; have GE275 := n4_; have NB272_275 := n5_; have NB275_272 := n6_; clear n0_ n1_ n2_ n3_ n4_ n5_ n6_; clear hb hbox hg; have hnb48 := NB275_272.out; have hnc48 := NB272_275.out; have hcz49_0 : w47.cell? ⟨gb275, 0, none⟩ = some (.int .u8 0) := (blk_cell BK275.out 0).trans rfl; have hcz49_1 : w47.cell? ⟨gb275, 1, none⟩ = some (.int .i64 0) := (blk_cell BK275.out 1).trans rfl; have hcz49_2 : w47.cell? ⟨gb275, 2, none⟩ = some (.string (⟨#[]⟩ : ByteArray)) := (blk_cell BK275.out 2).trans rfl; have hfz49_0 := blk_frozen BK275.out 0; have hfz49_1 := blk_frozen BK275.out 1; have hfz49_2 := blk_frozen BK275.out 2) | ((with_reducible refine gate_callee (f := 87) rfl ?_); refine goesL_ (some 38) rfl rfl Try.func87 (by kernel_rfl) rfl #[.slice (some ad274) l0.length c0, .int .i64 (wrap64 (a1 + 1))] rfl (by (try simp only [List.map_toArray, List.map_cons, List.map_nil]); first | done | rfl | (simp only [List.length_drop, List.length_take]; rfl)) ?_; (with_reducible refine (hindsightref01_Get.calls kj2 _ _ l0 (wrap64 (a1 + 1)) t276 t277 t278 _ ?side1 ?side2 A17.out).mono ?_); (case side1 => exact Kd.C_below HR0.out (by repeat (first | (with_reducible first | exact HB.out | apply below_alloc | apply pw_below_drewN | apply below_drew1 | refine bS69 ?_ GE272.out | refine bS69 ?_ GE275.out) | exact HB.out))); (case side2 => exact HC0.out); rintro e w' ⟨rfl, ⟨nd, rfl⟩⟩; refine ⟨_, rfl, ?_⟩; have hcz50_0 : w47.cell? ⟨gb272, 0, none⟩ = some (.int .u8 0) := (blk_cell BK272.out 0).trans rfl; have hcz50_1 : w47.cell? ⟨gb272, 1, none⟩ = some (.int .i64 0) := (blk_cell BK272.out 1).trans rfl; have hcz50_2 : w47.cell? ⟨gb272, 2, none⟩ = some (.string (⟨#[]⟩ : ByteArray)) := (blk_cell BK272.out 2).trans rfl; have hfz50_0 := blk_frozen BK272.out 0; have hfz50_1 := blk_frozen BK272.out 1; have hfz50_2 := blk_frozen BK272.out 2))
        refine bodyPost_ret (results_ctt rfl _ _ gb272 35 #[.int .u8 (rd l0 a1), .int .i64 0, .string (⟨#[]⟩ : ByteArray)] (0, 0) _ rfl (by (with_reducible repeat (first | refine bN69 ?_ _ | refine bD69 ?_ | refine bA69 ?_ _)); refine blk_put (cs := #[.int .u8 (rd l0 a1), .int .i64 0, .string (⟨#[]⟩ : ByteArray)]) ?_ 2 _ rfl; (with_reducible repeat (first | refine bN69 ?_ _ | refine bD69 ?_ | refine bA69 ?_ _)); refine blk_put (cs := #[.int .u8 (rd l0 a1), .int .i64 0, .string (⟨#[]⟩ : ByteArray)]) ?_ 1 _ rfl; (with_reducible repeat (first | refine bN69 ?_ _ | refine bD69 ?_ | refine bA69 ?_ _)); refine blk_put (cs := #[.int .u8 0, .int .i64 0, .string (⟨#[]⟩ : ByteArray)]) ?_ 0 _ rfl; (with_reducible repeat (first | refine bN69 ?_ _ | refine bD69 ?_ | refine bA69 ?_ _ | refine blk_far ?_ NB272_275.out _)); exact BK272.out) Try.underlying35 rfl (by kernel_rfl)) rfl ?_
        exact ⟨by first | rfl | (simp [errW_none, errW_some] <;> rfl) | (simp [*, errW_none, errW_some] <;> rfl), by repeat (first | (with_reducible first | exact HB.out | apply below_alloc | apply pw_below_drewN | apply below_drew1 | refine bS69 ?_ GE272.out | refine bS69 ?_ GE275.out) | exact HB.out)⟩
     ·rw [if_neg c11] at H
      exact absurd H (by simp)
    ·rw [if_neg c10] at H
     exact absurd H (by simp)

end Go.Proofs.Ytefpnnljflcmbaa.PRe
